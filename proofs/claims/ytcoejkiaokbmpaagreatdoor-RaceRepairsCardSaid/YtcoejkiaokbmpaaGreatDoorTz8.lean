/-
 The statement raceRepairs_said, part 8 of 8: Rx11, CloneM, RkB, RaB, RtB, Rp0, Rp1, Rp2, Rx12, Rr3, Rr4, Rr5, Rr6, Rr7, Rx13, Rr8, Rra, Rx14, Rx15, RL3, LineOpen, RaceOpen, Repairs0.
 Conditions: none.
-/
import Derived.Test.YtcoejkiaokbmpaaGreatDoorTz1
import Derived.Test.YtcoejkiaokbmpaaGreatDoorTz2
import Derived.Test.YtcoejkiaokbmpaaGreatDoorTz3
import Derived.Test.YtcoejkiaokbmpaaGreatDoorTz4
import Derived.Test.YtcoejkiaokbmpaaGreatDoorTz5
import Derived.Test.YtcoejkiaokbmpaaGreatDoorTz6
import Derived.Test.YtcoejkiaokbmpaaGreatDoorTz7
import Derived.MapKept
import Derived.Laws.Externs
import Derived.Test.YtcoejkiaokbmpaaGreatDoorCards
import Derived.Test.YtcoejkiaokbmpaaGreatDoorTie
import Derived.SevenTiedAt
import Derived.LaidMore
import Derived.Stop.Joined
import Derived.Test.YtcoejkiaokbmpaaGreatDoorRows
import Derived.Test.YtcoejkiaokbmpaaGreatDoorProg
import Derived.KernelRfl
namespace Go.Proofs.YtcoejkiaokbmpaaGreatDoor
set_option maxRecDepth 100000
set_option maxHeartbeats 4000000
set_option linter.unusedVariables false
section
open Go.RowKit
theorem KD (h i:Int) (t:ab) (r:cr) (kA:OA) (kC:Nat) (az:List RA) (cA:OA) (cC:Nat) (bA:OA) (bC:Nat) (slA:OA) (slC:Nat) (drA:OA) (drC:Nat) (ha:List cD) (heA:OA) (heC:Nat) (hin:fw r az ha):
 lg Tryz.prog 26 [(vA (cj.cells (pZ r kA kC cA cC bA bC slA slC drA drC heA heC))),(vI h),(vI i),(vA (ab.cells t))] [(rd jA 3 2 gZ),(rd kA r.aA.aM.length 9 (r.aA.aM.map al.cells)),(rd cA r.aA.aj.length 2 (List.zipWith ao.cells r.aA.aj az)),(eH (aU ao.gh r.aA.aj az)),(rd bA r.aA.ae.length 4 (r.aA.ae.map bI.cells)),(rd slA r.aH.length 1 (r.aH.map iC)),(rd drA r.cm.length 1 (r.cm.map iC)),(rd heA r.aq.length 1 (List.zipWith cz r.aq ha)),(eH (aU iA r.aq ha))] (fun (x:Bool×Int×(OA)×Nat×(OA)×Nat×(List RA)×(OA)×Nat×(OA)×Nat×(OA)×Nat×(OA)×Nat×(List cD))=>bif x.1 then (vT [(vA (cj.cells (cj.mk (bT.mk (bo.mk (bf.mk x.2.2.1 r.aA.aM.length x.2.2.2.1)) r.aA.gG (bf.mk x.2.2.2.2.1 r.aA.aj.length x.2.2.2.2.2.1) (bf.mk x.2.2.2.2.2.2.2.1 r.aA.ae.length x.2.2.2.2.2.2.2.2.1) r.aA.cG r.aA.eg r.aA.cN) (bf.mk x.2.2.2.2.2.2.2.2.2.1 r.aH.length x.2.2.2.2.2.2.2.2.2.2.1) (bf.mk x.2.2.2.2.2.2.2.2.2.2.2.1 r.cm.length x.2.2.2.2.2.2.2.2.2.2.2.2.1) r.iN (bf.mk x.2.2.2.2.2.2.2.2.2.2.2.2.2.1 ((gO r.aq h i t).length) x.2.2.2.2.2.2.2.2.2.2.2.2.2.2.1)))),(vI 0)]) else (vT [(vA (cj.cells (cj.mk (bT.mk (bo.mk (bf.mk none 0 0)) 0 (bf.mk none 0 0) (bf.mk none 0 0) 0 0 0) (bf.mk none 0 0) (bf.mk none 0 0) 0 (bf.mk none 0 0)))),(vI x.2.1)])) (fun (x:Bool×Int×(OA)×Nat×(OA)×Nat×(List RA)×(OA)×Nat×(OA)×Nat×(OA)×Nat×(OA)×Nat×(List cD))=>(x.1=true→((fZ r h i t)=0∧(x.2.2.2.2.2.2.1.length=r.aA.aj.length∧mC r.aA.aj x.2.2.2.2.2.2.1)∧uJ (gO r.aq h i t) x.2.2.2.2.2.2.2.2.2.2.2.2.2.2.2))∧(x.1=false→(x.2.1=(fZ r h i t)∧ ¬ (fZ r h i t)=0))) (fun (x:Bool×Int×(OA)×Nat×(OA)×Nat×(List RA)×(OA)×Nat×(OA)×Nat×(OA)×Nat×(OA)×Nat×(List cD))=>bif x.1 then [(own x.2.2.1 x.2.2.2.1 163 9 (r.aA.aM.map al.cells)),(own x.2.2.2.2.1 x.2.2.2.2.2.1 119 2 (List.zipWith ao.cells r.aA.aj x.2.2.2.2.2.2.1)),(bB (aU ao.owns r.aA.aj x.2.2.2.2.2.2.1)),(own x.2.2.2.2.2.2.2.1 x.2.2.2.2.2.2.2.2.1 141 4 (r.aA.ae.map bI.cells)),(own x.2.2.2.2.2.2.2.2.2.1 x.2.2.2.2.2.2.2.2.2.2.1 3 1 (r.aH.map iC)),(own x.2.2.2.2.2.2.2.2.2.2.2.1 x.2.2.2.2.2.2.2.2.2.2.2.2.1 3 1 (r.cm.map iC)),(own x.2.2.2.2.2.2.2.2.2.2.2.2.2.1 x.2.2.2.2.2.2.2.2.2.2.2.2.2.2.1 71 1 (List.zipWith cz (gO r.aq h i t) x.2.2.2.2.2.2.2.2.2.2.2.2.2.2.2)),(bB (aU jV (gO r.aq h i t) x.2.2.2.2.2.2.2.2.2.2.2.2.2.2.2))] else []):=by
 have u:=hin.line
 have AD:=hin.iR
 have AE:=hin.has
 have AA:=hin.iK
 have z:=hin.draw
 have e:=dw (r:=r)
 refine db kr Tryz.func26 U U fun w0 Q hQ hN=>?_
 try dsimp only
 refine WS fun _ s=>fm U fun b2=>fm U fun b3=>AL U qC fun b4=>aY 1 U<|RK s<|WS fun _ Y=>rP 1 [] (mc 2 U mn) ?_
 refine cX (vu r kA kC az cA cC bA bC slA slC drA drC ha heA heC hin) (aZ [3,4,5,6,7,8,9,10,11]) U fun y6 g=>?_
 obtain ⟨k,AC,q,S,m,o,p⟩:=y6
 cases k
 ·obtain ⟨M,he⟩:=g.2 rfl
  try dsimp only at M he
  subst M
  try dsimp only [cond_true,cond_false,List.cons_append,List.nil_append]
  refine aY 5 U<|RK Y<|ai fun _ y=>WS fun _ AB=>rP 2 [] mn ?_
  refine RK AB<|bE U (bh fun T=>?_) (bg fun T=>?_)
  ·exact absurd T he
  refine WS fun _ V=>rS (SX (bq (xs:=[]) (cs:=(cj.cells (cj.mk (bT.mk (bo.mk (bf.mk none 0 0)) 0 (bf.mk none 0 0) (bf.mk none 0 0) 0 0 0) (bf.mk none 0 0) (bf.mk none 0 0) 0 (bf.mk none 0 0)))) U U (br x_ U)) U U)<|aY 1 U<|fq U kT U<|rP 1 [] mn ?_
  refine RK V<|an ?_
  refine LX hQ (false,(gr r),none,0,none,0,[],none,0,none,0,none,0,none,0,[]) [] [0] (mc 0 U mn) U (by first|rfl|(show List.all _ _=true; simp only [cond_true,dY,List.all_nil,dv,gp,Bool.and_true]; rfl)) U ?_ ?_
  ·first|rfl|(simp only [cond_true,eZ]; rfl)
  ·refine ⟨vE,fun _=>?_⟩; first|exact HE (lQ (h:=h) (i:=i) (t:=t) he) he|exact HE (jv (h:=h) (i:=i) (t:=t) b) he
 obtain ⟨he,f⟩:=g.1 rfl
 try dsimp only [cond_true,cond_false,List.cons_append,List.nil_append]
 have b:=he
 try dsimp only at f
 have d:=(iy he).2
 refine aY 5 U<|RK Y<|ai fun _ W=>WS fun _ X=>aY 1 U<|rS (SX (cM (r:= .bool false) U U U rQ) U U)<|RK X<|aX U<|WK W<|WS fun _ N=>rP 4 [] (mc 5 U mn) ?_
 refine cX (xV r kA kC az cA cC bA bC slA slC drA drC ha heA heC p m o (Value.map (some S)) q h i t hin (by exact d)) (nt [8,9,10,11,12,13,14,15]<|aC (ak (n:=(bV r).length) 1 U (j3 (by rw [e]; exact f)))<|aC (eN 2 U xA)<|fG 0 U U<|aS) U fun v P=>?_
 obtain ⟨l,w,A,G,B,H,R,C,AF,D,J,E,K,F,L,j⟩:=v
 cases l
 ·obtain ⟨M,he⟩:=P.2 rfl
  try dsimp only at M he
  subst M
  try dsimp only [cond_true,cond_false,List.cons_append,List.nil_append]
  refine aY 2 U<|O7 U kT U<|rP 1 [] mn ?_
  refine RK N<|an ?_
  refine LX hQ (false,(ou r h i t),none,0,none,0,[],none,0,none,0,none,0,none,0,[]) [] [0] (mc 4 U mn) U (by first|rfl|(show List.all _ _=true; simp only [cond_true,dY,List.all_nil,dv,gp,Bool.and_true]; rfl)) U ?_ ?_
  ·first|rfl|(simp only [cond_true,eZ]; rfl)
  ·refine ⟨vE,fun _=>?_⟩; first|exact HE (lQ (h:=h) (i:=i) (t:=t) he) he|exact HE (jv (h:=h) (i:=i) (t:=t) b) he
 obtain ⟨O,⟨Z,a⟩,c⟩:=P.1 rfl
 try dsimp only [cond_true,cond_false,List.cons_append,List.nil_append]
 try dsimp only at O Z a c
 refine aY 2 U<|iB (vs:=(cj.cells (cj.mk (bT.mk (bo.mk (bf.mk A r.aA.aM.length G)) r.aA.gG (bf.mk B r.aA.aj.length H) (bf.mk C r.aA.ae.length AF) r.aA.cG r.aA.eg r.aA.cN) (bf.mk D r.aH.length J) (bf.mk E r.cm.length K) r.iN (bf.mk F ((gO r.aq h i t).length) L)))) (cs':=(cj.cells (cj.mk (bT.mk (bo.mk (bf.mk A r.aA.aM.length G)) r.aA.gG (bf.mk B r.aA.aj.length H) (bf.mk C r.aA.ae.length AF) r.aA.cG r.aA.eg r.aA.cN) (bf.mk D r.aH.length J) (bf.mk E r.cm.length K) r.iN (bf.mk F ((gO r.aq h i t).length) L)))) (C':=[_,_,_,_,_,_,_,_,_,_,_,_,(cq b4 32 (cj.cells (cj.mk (bT.mk (bo.mk (bf.mk A r.aA.aM.length G)) r.aA.gG (bf.mk B r.aA.aj.length H) (bf.mk C r.aA.ae.length AF) r.aA.cG r.aA.eg r.aA.cN) (bf.mk D r.aH.length J) (bf.mk E r.cm.length K) r.iN (bf.mk F ((gO r.aq h i t).length) L)))),_,_,_,_,_,_,_,_,_,_,_]) 12 U U U kT U U U U U U U<|rP 1 [] mn ?_
 refine RK N<|an ?_
 refine LX hQ (true,0,A,G,B,H,R,C,AF,D,J,E,K,F,L,j) [0,1,2,3,4,5,6,7] [0] (mc 12 U mn) U (by first|rfl|(show List.all _ _=true; simp only [cond_true,dY,List.all_nil,dv,gp,Bool.and_true]; rfl)) U ?_ ?_
 ·first|rfl|(simp only [cond_true,eZ]; rfl)
 ·exact ⟨fun _=>⟨(jv he).trans O,⟨Z,a⟩,c⟩,Lw⟩
end
section
open Go.RowKit
theorem PR {P:Program} {t:TypeId} {x y:Operand} {k e:TypeId} {p:Option Nat} (h:P.underlying t=some (.map k e)):gj P .eql t x y (.map p) (.map none) (.bool p.isNone):=fun w=>by
 have A:(Op.equal t (.map p) (.map none)).run P w= .ok p.isNone w:=by
  unfold Op.equal
  show (Op.equalIn (9999+1) t (.map p) (.map none)).run P w=_
  unfold Op.equalIn
  cases p<;>simp [run_underlying h]
 have B:eqGuard .eql t x y (.map p) (.map none)=pure ():=rfl
 rw [B]
 show (Sem.run P (do let b ← Op.equal t (.map p) (.map none); pure (vB b)) w)=_
 simp [A]
theorem Es {P:Program} {r:Nat} {es:Array MapEntry} {clock:Nat} {w:World} (t:TypeId) (hb:w.heap[r]? =some (.map es clock)):
 (Extern.MapsClone.clone #[.iface t (.map (some r))]).run P w= .ok (.iface t (.map (some w.heap.size))) (w.alloc (.map es clock)):=by
 have e:Extern.MapsClone.clone #[.iface t (.map (some r))]=(getObj r >>= fun o=>match o with
  | .map entries clock=>(newObj (.map entries clock) >>= fun n=>pure (.iface t (.map (some n))))
  |_=>stuck "maps.clone: a map expected"):=rfl
 rw [e]
 simp [MapKept.run_getObj_map hb,Result.andThen,go_sem]
theorem Bh {P:Program} {xt t k e:TypeId} {v:Value} {w:World} (h:P.underlying t=some (.map k e)):(Instr.typeAssert (.iface t v) xt t false).run P w= .ok v w:=by
 simp [Instr.typeAssert,run_underlying h,go_sem,Result.andThen]
section
variable {E:eU} {ops:Array Oper} {Q:cY} {rest:List Oper} {D:List Deferred} {L:List (Nat×Value)} {C:List aw}
variable {dst:Option Nat} {d:Nat} {ty:TypeId} {ps:String} {af:Array Edge} {g:Option (Nat×Bool)}
theorem H_ {P:Program} {t k e:TypeId} {v:Value} {w:World} (h:P.underlying t=some (.map k e)):(Instr.makeInterface t v).run P w= .ok (.iface t v) w:=by
 simp [Instr.makeInterface,run_underlying h,Result.andThen]
theorem M3 {t k e:TypeId} {x:Operand} {v:Value} (hg:jx ops L g=true) (hx:ev L x=some v) (ht:E.P.underlying t=some (.map k e)):SD E ops ⟨dst,.makeInterface t x,ty,ps,af,g⟩ D L C (.iface t v):=
 dH hg sm fun a w hf _=>by
  have e:=hf.ev hx
  simp only [execOp,e]
  rw [Sem.run_bind,H_ ht]
  simp
theorem QW {xt t kt et:TypeId} {x:Operand} {v:Value} (hg:jx ops L g=true) (hx:ev L x=some (.iface t v)) (ht:E.P.underlying t=some (.map kt et)):SD E ops ⟨dst,.typeAssert x xt t false,ty,ps,af,g⟩ D L C v:=
 dH hg sm fun a w hf _=>by
  have e:=hf.ev hx
  simp only [execOp,e]
  rw [Sem.run_bind,Bh ht]
  simp
theorem KA {K:Type} [DecidableEq K] {kV:K→Value} {x:Operand} {ts:Array TypeId} {f:FuncId} {fn:Func} {t b:Nat} {m:List (K×Value)} (hg:jx ops L g=true) (hx:ev L x=some (.iface t (.map (some b)))) (hf:E.P.funcs[f]? =some fn) (hname:(fn.name=="runtime.NumGoroutine")=false)
 (hb:fn.body.isNone=true) (hn:Extern.findNext fn=none) (he:Extern.find fn=some Extern.MapsClone.clone) (hC:gI C (hU kV b m).holds) (hd:Nat.blt d E.n=true) (k: ∀ b',RJ E ops Q rest D ((d,.iface t (.map (some b')))::L) (hU kV b' m::C)):
 RJ E ops Q (⟨some d,.call {callee:= .value (.func f),args:= #[x],argTypes:=ts},ty,ps,af,g⟩::rest) D L C:=by
 intro a w B hs
 have hd':d<E.n:=by rw [← Nat.blt_eq]; exact hd
 obtain ⟨es,c,F,hi⟩:=hC w hs.holds
 unfold rY
 rw [if_pos (dV B hg)]
 refine hE (v:= .iface t (.map (some w.heap.size))) (w':=w.alloc (.map es c)) sm ?_ ?_
 ·have e:=B.ev hx
  have G:a.eval (.func f)= .func (.func f) #[] #[]:=rfl
  simp [execOp,resolve,e,G,Deferred.ofValue,invoke,run_callFunc_extern hf hname hb hn he,Es t F]
 ·refine k _ _ _ (B.put hd' _) (hs.grow (dI.alloc no w _) (N:=[hU kV w.heap.size m]) ⟨fun A hA=>?_,fun A hA b hb=>?_,List.pairwise_singleton _ _⟩)
  ·simp at hA; subst hA; exact ⟨es,c,heap_alloc_new w _,hi⟩
  ·simp at hA; subst hA; exact Nat.le_of_eq (Eq.symm hb)
end
end
section
open Go.RowKit
theorem Ju (m:qJ) (gm g1:Nat):
 Eb Tryz.prog 88 [] [(vP g1)] [(hU iV gm (bQ vB m)),(cq g1 121 [(Value.map (some gm))])] ([]:List Int) (fun ys x ys'=> ∃ n zs,(ys++[n]++zs).Perm (m.map (·.1))∧x=[vI n]∧ys'=ys++[n]) (fun ys=>ys.Perm (m.map (·.1))):=by
 refine tD kr Tryz.func88 U U fun l J Z A0 S Q hY M L hQ hN=>?_
 try dsimp only
 refine WS fun _ O=>rP 1 [] (mr 2 U mn) ?_
 refine jI (kV:=iV) (m:=bQ vB m) 1 U U vc U ⟨U,fun h=>h⟩ (by exact ku 1 U) U fun V=>?_
 try dsimp only
 refine RK O<|ar ?_
 have G:(oF m m ([]:List Int))∧(∀ p∈m,p∈m)∧(J ([]:List Int) A0)∧(Fo A0 S A0):=by exact ⟨u_,fun p hp=>hp,M,L⟩
 refine bx (ι:={z:qJ×(List Int)×aw // (oF m z.1 z.2.1)∧(∀ p∈z.1,p∈m)∧(J z.2.1 z.2.2)∧(Fo A0 S z.2.2)}) [0,1,5] [2,3] U U (fun z=>[]) (fun z=>[(yc iV V gm (bQ vB m) (bQ vB z.1.1) none),z.1.2.2]) (fun _=>rfl) (fun _=>rfl) (fun z=>z.1.1.length) ⟨(m,([]:List Int),A0),G⟩ (cO.nil _) (aD [2,3,0,1]) ?_
 clear G
 rintro ⟨⟨left,ys,A⟩,⟨B,H,C,D⟩⟩ J3 N
 try dsimp only at B H C D
 try dsimp only
 refine WS fun _ AB=>iZ (dG mF).inj (f:=Value.bool) 2 U U U U (fun T=>?_) (fun x y hm hn=>?_)
 ·refine rP 1 [] mn ?_
  refine RK AB<|ai fun _ AA=>aX U<|bj<|aa<|aa<|au ?_
  refine hN _ _ _ (g3 (vs:=[]) trivial fun w hs=>JH 3 U (by rw [T] at B; exact wX B) C D hs)
 try dsimp only
 refine aY 1 U<|RK AB<|ai fun _ P=>aL U<|WK P<|ar<|WS fun _ R=>rS (SX (iT 2 U U U) U U)<|aY 2 U<|RK R<|WS fun _ K=>rP 2 [] mn ?_
 refine kj (k:=ys) (k':=(ys++[(x)])) 3 (by first|exact hsz|exact Nat.le_refl _) hY C D U U U (by exact ⟨x,_,n7 hn hm B,U,U⟩) U U (fun B9 F E=>?_) (fun B9 F E=>?_)
 rotate_left 1
 ·refine rP 1 [] mn ?_
  refine RK K<|aL U<|an ?_
  refine hQ _ _ _ (g3 (vs:=[]) trivial fun w hs=>rW 3 U F E hs)
 refine rP 1 [] mn ?_
 refine RK K<|aX U<|bM<|aB<|gP 2 U fr U ?_
 refine aI (N ⟨((ct left x),(ys++[(x)]),B9),⟨n7 hn hm B,fO H,F,E⟩⟩ _ _ _ U (eI hm) (aN U) (aD [0,1,2,3]))
theorem Ly (gm:Nat):
 lg Tryz.prog 66 [(Value.map (some gm))] [] (fun (x:Nat)=>(Value.func (.func 88) [].toArray [(vP x)].toArray)) (fun (x:Nat)=>True) (fun (x:Nat)=>[(cq x 121 [(Value.map (some gm))])]):=by
 refine db kr Tryz.func66 U U fun D Q hQ hN=>?_
 try dsimp only
 refine WS fun _ A=>ux U U fun C=>aY 1 U<|RK A<|WS fun _ B=>rS (FU U)<|rP 1 [] mn ?_
 refine RK B<|an<|LX hQ C [0] [] mn U U U U ?_
 trivial
end
section
open Go.RowKit
theorem Hq (m:qJ) (gm g1:Nat) (hlen:m.length≤12):
 lg Tryz.prog 98 [(vS none 0 0),(Value.func (.func 88) [].toArray [(vP g1)].toArray)] [(hU iV gm (bQ vB m)),(cq g1 121 [(Value.map (some gm))])] (fun (x:(List Int)×(OA)×Nat)=>(vS x.2.1 x.1.length x.2.2)) (fun (x:(List Int)×(OA)×Nat)=>x.1.Perm (m.map (·.1))) (fun (x:(List Int)×(OA)×Nat)=>[(own x.2.1 x.2.2 3 1 (x.1.map iC))]):=by
 refine db kr Tryz.func98 U U fun X Q hQ hN=>?_
 try dsimp only
 refine WS fun _ AB=>ux U U fun N=>aY 1 U<|RK AB<|ai fun _ J=>WS fun _ K=>rP 1 [] mn ?_
 refine RK K<|ar<|kl 1 U (by exact fun _ h=>h)<|kl 3 U (by exact fun _ h=>h)<|eP 3 1 ?_
 refine m_ (L0:=[(2,(vP N))]) (F:=[(hU iV gm (bQ vB m)).ro,(cq g1 121 [(Value.map (some gm))]).ro]) (fun k (y:(OA)×Nat)=>(∃ zs,(k++zs).Perm (m.map (·.1)))) (fun k y=>[(own y.1 y.2 3 1 (k.map iC)),(cq N 29 [(vS y.1 k.length y.2)]),(hU iV gm (bQ vB m)).ro]) (fun _ (_:Unit)=>False) (fun _ _=>[]) [0,3,4] [2,1] (none,0) rfl rfl (Ju m gm g1) rfl rfl rfl (by exact ⟨_,List.Perm.refl _⟩) (by simp only [List.forall_mem_cons,List.not_mem_nil,false_imp_iff,implies_true,and_true]; exact ⟨⟨_,sm,(dA (bO _))⟩,⟨_,sm,(dA (bO _))⟩⟩) (by rintro k x AA ⟨n,zs,_,rfl,_⟩; rfl) rfl (aN rfl) ?_ ?_ (fun _ _ _ h=>h.elim) (fun _ _ h=>h.elim)
 rotate_left 1
 ·rintro V k ⟨a,c⟩ E A
  have B:=A
  try dsimp only at B
  try dsimp only
  refine aB<|KK J<|WS fun _ C=>rP 2 [] (mc 4 U mn) ?_
  refine RK C<|an<|hQ _ _ _ (oG 0 U U<|g3 (vs:=[(vS a k.length c)]) ⟨U,trivial⟩ fun w hs=>Kp (k,a,c) [3] ?_ ?_ U U U hs)
  ·rfl
  ·first|exact E|exact hys
 rintro k x AA ⟨a,c⟩ l ra rb S Y K5 Qr6 T hx G L D O P
 obtain ⟨n,zs,hn,rfl,rfl⟩:=hx; have M:=hn.length_eq; simp only [List.length_append,List.length_map,List.length_singleton] at M
 have B:=G
 try dsimp only at B
 try dsimp only
 refine ag<|rP 1 [] mn ?_
 refine ax<|aI (L _ _ ?_)
 refine ar<|ag<|rP 2 [] (mc 2 U mn) ?_
 refine eX (xs:=[.tmp 9]) (cs:=[(vI n)]) U di lh U U U U (by simp [Value.cells]) U U fun W=>?_
 refine cp (es2:=(List.map iC (k++[n]))) (m':=(k++[n]).length) 2 U U U mJ U U sm (a_ (es:=List.map iC [n]) 0 U U (by simp [bU]) U) (g_ _) os (by simp only [maxLen]; omega) sm sm U fun R H=>?_
 try dsimp only
 refine S4 U wq U U<|ax<|aB ?_
 exact D (R,H) _ _ (by exact ⟨_,hn⟩) (aD [1,2,3,4])
end
section
open Go.RowKit
theorem CQ (m:qJ) (gm g1:Nat) (hlen:m.length≤12):
 lg Tryz.prog 78 [(Value.func (.func 88) [].toArray [(vP g1)].toArray)] [(hU iV gm (bQ vB m)),(cq g1 121 [(Value.map (some gm))])] (fun (x:(List Int)×(OA)×Nat)=>(vS x.2.1 x.1.length x.2.2)) (fun (x:(List Int)×(OA)×Nat)=>x.1.Perm (m.map (·.1))) (fun (x:(List Int)×(OA)×Nat)=>[(own x.2.1 x.2.2 3 1 (x.1.map iC))]):=by
 refine db kr Tryz.func78 U U fun AA Q hQ hN=>?_
 try dsimp only
 refine WS fun _ A=>aY 1 U<|RK A<|WS fun _ B=>rP 1 [] mn ?_
 refine cX (Hq m gm g1 hlen) (aZ [0,1]) U fun H C=>?_
 obtain ⟨E,F,G⟩:=H
 try dsimp only
 have D:=C
 refine rP 1 [] mn ?_
 refine RK B<|an<|LX hQ (E,F,G) [0] [] mn U U U U ?_
 first|exact hfin|exact D
theorem GK (m:qJ) (gm g1:Nat) (hlen:m.length≤12):
 lg Tryz.prog 54 [(Value.func (.func 88) [].toArray [(vP g1)].toArray)] [(hU iV gm (bQ vB m)),(cq g1 121 [(Value.map (some gm))])] (fun (x:(OA)×Nat)=>(vS x.1 m.length x.2)) (fun (x:(OA)×Nat)=>True) (fun (x:(OA)×Nat)=>[(own x.1 x.2 3 1 ((dx (m.map (·.1))).map iC))]):=by
 refine db kr Tryz.func54 U U fun M Q hQ hN=>?_
 try dsimp only
 refine WS fun _ E=>aY 1 U<|RK E<|WS fun _ F=>rP 1 [] mn ?_
 refine cX (CQ m gm g1 hlen) (aZ [0,1]) U fun L H=>?_
 obtain ⟨AA,J,K⟩:=L
 try dsimp only
 have D:=H
 refine aY 1 U<|RK F<|WS fun _ G=>rP 1 [] mn ?_
 have B:=D.length_eq
 simp only [List.length_map] at B
 refine j8 0 U U U U (z4 AA J K I) U lG U (fun ms C=>?_)
 try dsimp only
 refine RK G<|WS fun _ A=>?_
 obtain rfl:=qm (C.1.trans D) C.2
 skip
 refine rP 2 [] mn ?_
 refine RK A<|an ?_
 refine LX hQ (J,K) [0] [] mn U U U ?_ ?_
 ·first|rfl|(rw [B]; rfl)
 ·trivial
end
section
open Go.RowKit
theorem IU (m:qJ) (gm:Nat):
 lg Tryz.prog 64 [(Value.map (some gm))] [(hU iV gm (bQ vB m))] (fun (x:Nat)=>(Value.map (some x))) (fun (x:Nat)=>True) (fun (x:Nat)=>[(hU iV x (bQ vB m))]):=by
 refine db S_ Tryz.func64 U U fun F Q hQ hN=>?_
 try dsimp only
 refine WS fun _ A=>aY 1 U<|RK A<|ai fun _ B=>WS fun _ C=>aY 1 U<|rS (SX (cM (r:= .bool false) U U U (PR vc)) U U)<|RK C<|aX U<|WK B<|WS fun _ D=>rP 1 [] mn ?_
 refine rS (SX (M3 U U vc) U U)<|KA (kV:=iV) (fn:=Tryz.f86) U U Tryz.func86 U U U kr (by exact ku 0 U) U fun E=>?_
 try dsimp only
 refine rS (SX (QW U U vc) U U)<|rP 1 [] mn ?_
 refine RK D<|an<|LX hQ E [0] [] mn U U U U ?_
 trivial
end
section
open Go.RowKit
theorem Gc (r:cr) (kA:OA) (kC:Nat) (cA:OA) (cC:Nat) (bA:OA) (bC:Nat) (slA:OA) (slC:Nat) (drA:OA) (drC:Nat) (heA:OA) (heC:Nat) (tA:OA) (tN tC:Nat) (gs gw:Nat) (m:g7) (i:Int) (g1 g2:Nat) (hb: ∀ p∈m,0≤p.2.Lo∧p.2.Lo≤p.2.Hi∧p.2.Hi≤30000000):
 Eb Tryz.prog 87 [] [(vP g1),(vP g2)] [(cq gw 100 (gd.cells (gd.mk (pZ r kA kC cA cC bA bC slA slC drA drC heA heC) (bf.mk tA tN tC) (Value.map (some gs))))),(hU iV gs (bQ dB m)),(cq g1 77 [(vP gw)]),(cq g2 3 [(vI i)])] ([]:List Int) (fun ys x ys'=> ∃ n,n∈(j5 m i (bk m i))∧x=[vI n]∧ys'=ys++[n]) (fun ys=> ∀ n,n∈ys↔n∈(j5 m i (bk m i))):=by
 have BE:=gN (i:=i) hb
 refine tD kr Tryz.func87 U U fun l J Z A0 w0 Q hY Am Al hQ hN=>?_
 try dsimp only
 refine ai fun _ An=>dp cf [6,7] [] [] [0,1,2,3,4] [] U U U U U<|eS U (SJ 3 U bX U)<|eS U (SX (bL U U) U U)<|eS U (FA 12 U e_ U)<|eS U (HG (Value.map (some gs)) 1 U bX U U)<|eS U (SJ 4 U bX U)<|eS U (SX (iU (kV:=iV) (x:=i) (l:=m) (f:=dB) (z:=(ab.mk 0 0)) U U U lH (dG mF) si (by exact ku 2 U)) U U)<|eu U<|bS U fun T2 Ap=>AL U dk fun b3=>ax (Ap _ _ (aD [1,2,3,4,5]) ?_)
 refine bS U fun T4 Aq=>fq U cu U<|ax (Aq _ _ (aD [1,2,3,4,5]) ?_)
 refine eY U<|KK An<|ai fun _ Ao=>WS fun _ AQ=>?_
 rw [show ((List.lookup i m).getD (ab.mk 0 0))=(bk m i) from rfl]
 refine rP 3 [] (mc 0 U mn) ?_
 refine kj (k:=([]:List Int)) (k':=(([]:List Int)++[((bk m i).Lo)])) 1 (by first|exact hsz|exact Nat.le_refl _) hY Am Al U U U (by exact ⟨_,bZ ..,U,U⟩) U U (fun B7 s q=>?_) (fun B7 s q=>?_)
 rotate_left 1
 ·refine rP 1 [] mn ?_
  refine RK AQ<|aL U<|an ?_
  refine hQ _ _ _ (g3 (vs:=[]) trivial fun w hs=>rW 1 U s q hs)
 refine aY 1 U<|RK AQ<|aX U<|WK Ao<|WS fun _ u=>e7 1 [] (mr 4 U mn) U<|rS (SX (bL U U) U U)<|rP 2 [] (mr 2 U mn) ?_
 refine jI (kV:=iV) (m:=bQ dB m) 3 U U lH U ⟨U,fun h=>h⟩ (by exact ku 3 U) U fun As=>?_
 try dsimp only
 refine RK u<|ar ?_
 have g:(zj m i (bk m i) m (([]:List Int)++[((bk m i).Lo)]))∧(∀ p∈m,p∈m)∧(J (([]:List Int)++[((bk m i).Lo)]) B7)∧(Fo A0 w0 B7):=by exact ⟨Jl,fun p hp=>hp,asm,asm⟩
 refine bx (ι:={z:g7×(List Int)×aw // (zj m i (bk m i) z.1 z.2.1)∧(∀ p∈z.1,p∈m)∧(J z.2.1 z.2.2)∧(Fo A0 w0 z.2.2)}) [0,1,2,4,24] [1,3,4,5,6] U U (fun z=>[]) (fun z=>[(yc iV As gs (bQ dB m) (bQ dB z.1.1) none),z.1.2.2]) (fun _=>rfl) (fun _=>rfl) (fun z=>z.1.1.length) ⟨(m,(([]:List Int)++[((bk m i).Lo)]),B7),g⟩ (cO.nil _) (aD [1,3,4,5,6,0,2]) ?_
 clear g
 rintro ⟨⟨left,ys,A⟩,⟨C,hl3_1,D,E⟩⟩ J12 F
 try dsimp only at C hl3_1 D E
 try dsimp only
 refine WS fun _ j=>iZ (dG mF).inj (f:=dB) 5 U U U U (fun o=>?_) (fun x y hm hn=>?_)
 ·refine rP 1 [] mn ?_
  refine RK j<|ai fun _ At=>aX U<|bj<|aa<|aa<|au ?_
  refine hN _ _ _ (g3 (vs:=[]) trivial fun w hs=>JH 6 U (by rw [o] at C; exact M1 C) D E hs)
 try dsimp only
 refine aY 1 U<|RK j<|ai fun _ AA=>aL U<|WK AA<|ar<|WS fun _ AB=>rS (SX (iT 5 U U U) U U)<|aY 2 U<|AL U dk fun BD=>aY 1 U<|fq U cu U<|RK AB<|WS fun _ AC=>rP 1 [] mn ?_
 have Ar:=hb _ (hl3_1 _ hm)
 dsimp only at Ar
 refine e7 5 [] (mc 0 U mn) U<|rS (SX (bq (xs:=[(0,.tmp 32),(1,.tmp 35)]) (cs:=[(vI (y.Lo+1)),(vI (y.Hi+1))]) U U (br Qk U)) U U)<|aY 1 U<|RK AC<|ar<|nx 3<|fz fun R19 b=>WS fun _ AD=>rS (SX (cM (r:= .bool true) U U U jG) U U)<|RK AD<|ai fun _ AE=>aL U<|WK AE<|ai fun _ W=>ar<|WS fun _ AF=>rS (SX (rp (v:=(vI (y.Lo+1))) 0 U U U Fp bX U dc U) U U)<|aY 1 U<|RK AF<|WS fun _ L=>rP 4 [] (mr 5 U mn) ?_
 refine cv (t:=43) U (bh fun o=>?_) (bg fun o=>?_)
 ·refine aY 14 U<|RK L<|aX U<|bM<|aB<|KK W<|ag<|rS (SX (cM (r:= .int .i64 1) U U U (iP ⟨dc,dc⟩)) U U)<|aY 1 U<|RK b<|fz fun R73 e=>WS fun _ AU=>rS (SX (cM (r:= .bool true) U U U jG) U U)<|RK AU<|ai fun _ AV=>aL U<|WK AV<|ai fun _ a=>ar<|WS fun _ AW=>rS (SX (rp (v:=(vI (y.Hi+1))) 1 U U U Fp bX U dc U) U U)<|aY 1 U<|RK AW<|WS fun _ O=>rP 4 [] (mr 5 U mn) ?_
  refine cv (t:=43) U (bh fun Aj=>?_) (bg fun Aj=>?_)
  ·refine aY 14 U<|RK O<|aX U<|bM<|aB<|KK a<|ag<|rS (SX (cM (r:= .int .i64 2) U U U (iP ⟨dc,dc⟩)) U U)<|rP 1 [] mn ?_
   refine RK e<|fz fun R91 BB=>WS fun _ AZ=>rS (SX (cM (r:= .bool false) U U U jG) U U)<|RK AZ<|ai fun _ A3=>aX U<|bj<|aa<|aa<|au<|aB<|gP 6 U fr U ?_
   refine aI (F ⟨((ct left x),ys,A),⟨k7 hn hm hl3_1 C (fun n B=>by first|exact B|(simp [B]; done)) (fun n B=>by exact .inl B) (fun K n B BF=>by simp only [dL,List.not_mem_nil,or_false] at B; rcases B with rfl|rfl<;>first|(simp; done)|(exfalso; omega)),fO hl3_1,D,E⟩⟩ _ _ _ rfl (eI hm) (aN rfl) (aD [1,2,3,4,5,6,7]))
  refine e7 5 [] (mc 1 U mn) U<|eX (xs:=[.tmp 48]) (cs:=[(vI (y.Hi+1))]) U di lh U U U U (by simp [Value.cells]) U U fun Ad=>rS (CL (eA.eq (kZ ((bk m i).Lo) ((bk m i).Hi) ([(y.Hi+1)]) (some ⟨Ad,0,none⟩) 1 I) dj) (aC (a_ 0 U U (by simp [bU]) U)<|aS) U)<|rP 2 [] mn ?_
  refine cv (t:=52) U (aQ fun Ak=>?_) (aP fun Ak=>?_)
  ·refine aY 5 U<|RK O<|aX U<|bM<|aB<|KK a<|ag<|rS (SX (cM (r:= .int .i64 2) U U U (iP ⟨dc,dc⟩)) U U)<|rP 1 [] mn ?_
   refine RK e<|fz fun R88 BA=>WS fun _ AY=>rS (SX (cM (r:= .bool false) U U U jG) U U)<|RK AY<|ai fun _ A2=>aX U<|bj<|aa<|aa<|au<|aB<|gP 7 U fr U ?_
   refine aI (F ⟨((ct left x),ys,A),⟨k7 hn hm hl3_1 C (fun n B=>by first|exact B|(simp [B]; done)) (fun n B=>by exact .inl B) (fun K n B BF=>by simp only [dL,List.not_mem_nil,or_false] at B; rcases B with rfl|rfl<;>first|(simp; done)|(exfalso; omega)),fO hl3_1,D,E⟩⟩ _ _ _ rfl (eI hm) (aN rfl) (aD [2,3,4,5,6,7,8]))
  refine rP 2 [] mn ?_
  refine kj (k:=ys) (k':=(ys++[((y.Hi+1))])) 8 (by first|exact hsz|exact Nat.le_refl _) hY D E U U U (by exact ⟨_,lX (hl3_1 _ hm) dso (by first|exact .inl rfl|exact .inr U) I,U,U⟩) U U (fun B82 V S=>?_) (fun B82 V S=>?_)
  rotate_left 1
  ·refine rP 2 [] mn ?_
   refine RK O<|aL U<|an ?_
   refine hQ _ _ _ (g3 (vs:=[]) trivial fun w hs=>rW 8 U V S hs)
  refine aY 2 U<|RK O<|aX U<|bM<|aB<|KK a<|ag<|rS (SX (cM (r:= .int .i64 2) U U U (iP ⟨dc,dc⟩)) U U)<|rP 1 [] mn ?_
  refine RK e<|fz fun R85 A_=>WS fun _ AX=>rS (SX (cM (r:= .bool false) U U U jG) U U)<|RK AX<|ai fun _ A1=>aX U<|bj<|aa<|aa<|au<|aB<|gP 7 U fr U ?_
  refine aI (F ⟨((ct left x),(ys++[((y.Hi+1))]),B82),⟨k7 hn hm hl3_1 C (fun n B=>by first|exact B|(simp [B]; done)) (fun n B=>by (simp only [jB,bK] at B; rcases B with B|rfl<;>first|exact .inl B|exact .inr (lX (hl3_1 _ hm) dso sm I))) (fun K n B BF=>by simp only [dL,List.not_mem_nil,or_false] at B; rcases B with rfl|rfl<;>first|(simp; done)|(exfalso; omega)),fO hl3_1,V,S⟩⟩ _ _ _ rfl (eI hm) (aN rfl) (aD [2,3,4,5,6,7,8]))
 refine rP 5 [] (mc 1 U mn) ?_
 refine eX (xs:=[.tmp 48]) (cs:=[(vI (y.Lo+1))]) U di lh U U U U (by simp [Value.cells]) U U fun Aa=>?_
 refine rS (CL (eA.eq (kZ ((bk m i).Lo) ((bk m i).Hi) ([(y.Lo+1)]) (some ⟨Aa,0,none⟩) 1 (by (simp; done))) dj) (aC (a_ 0 U U (by simp [bU]) U)<|aS) U) ?_
 refine rP 2 [] mn ?_
 refine cv (t:=52) U (aQ fun Ae=>?_) (aP fun Ae=>?_)
 ·refine aY 5 U<|RK L<|aX U<|bM<|aB<|KK W<|ag<|rS (SX (cM (r:= .int .i64 1) U U U (iP ⟨dc,dc⟩)) U U)<|aY 1 U<|RK b<|fz fun R52 d=>WS fun _ AN=>rS (SX (cM (r:= .bool true) U U U jG) U U)<|RK AN<|ai fun _ AO=>aL U<|WK AO<|ai fun _ Y=>ar<|WS fun _ AP=>rS (SX (rp (v:=(vI (y.Hi+1))) 1 U U U Fp bX U dc U) U U)<|aY 1 U<|RK AP<|WS fun _ N=>rP 4 [] (mr 6 U mn) ?_
  refine cv (t:=43) U (bh fun Ah=>?_) (bg fun Ah=>?_)
  ·refine aY 14 U<|RK N<|aX U<|bM<|aB<|KK Y<|ag<|rS (SX (cM (r:= .int .i64 2) U U U (iP ⟨dc,dc⟩)) U U)<|rP 1 [] mn ?_
   refine RK d<|fz fun R70 A9=>WS fun _ AT=>rS (SX (cM (r:= .bool false) U U U jG) U U)<|RK AT<|ai fun _ Az=>aX U<|bj<|aa<|aa<|au<|aB<|gP 7 U fr U ?_
   refine aI (F ⟨((ct left x),ys,A),⟨k7 hn hm hl3_1 C (fun n B=>by first|exact B|(simp [B]; done)) (fun n B=>by exact .inl B) (fun K n B BF=>by simp only [dL,List.not_mem_nil,or_false] at B; rcases B with rfl|rfl<;>first|(simp; done)|(exfalso; omega)),fO hl3_1,D,E⟩⟩ _ _ _ rfl (eI hm) (aN rfl) (aD [2,3,4,5,6,7,8]))
  refine rP 5 [] (mc 2 U mn) ?_
  refine eX (xs:=[.tmp 48]) (cs:=[(vI (y.Hi+1))]) U di lh U U U U (by simp [Value.cells]) U U fun Ac=>?_
  refine rS (CL (eA.eq (kZ ((bk m i).Lo) ((bk m i).Hi) ([(y.Hi+1)]) (some ⟨Ac,0,none⟩) 1 (by (simp; done))) dj) (aC (a_ 0 U U (by simp [bU]) U)<|aS) U) ?_
  refine rP 2 [] mn ?_
  refine cv (t:=52) U (aQ fun Ai=>?_) (aP fun Ai=>?_)
  ·refine aY 5 U<|RK N<|aX U<|bM<|aB<|KK Y<|ag<|rS (SX (cM (r:= .int .i64 2) U U U (iP ⟨dc,dc⟩)) U U)<|rP 1 [] mn ?_
   refine RK d<|fz fun R67 A8=>WS fun _ AS=>rS (SX (cM (r:= .bool false) U U U jG) U U)<|RK AS<|ai fun _ Ay=>aX U<|bj<|aa<|aa<|au<|aB<|gP 8 U fr U ?_
   refine aI (F ⟨((ct left x),ys,A),⟨k7 hn hm hl3_1 C (fun n B=>by first|exact B|(simp [B]; done)) (fun n B=>by exact .inl B) (fun K n B BF=>by simp only [dL,List.not_mem_nil,or_false] at B; rcases B with rfl|rfl<;>first|(simp; done)|(exfalso; omega)),fO hl3_1,D,E⟩⟩ _ _ _ rfl (eI hm) (aN rfl) (aD [3,4,5,6,7,8,9]))
  refine rP 2 [] mn ?_
  refine kj (k:=ys) (k':=(ys++[((y.Hi+1))])) 9 (by first|exact hsz|exact Nat.le_refl _) hY D E U U U (by exact ⟨_,lX (hl3_1 _ hm) dso (by first|exact .inl rfl|exact .inr U) I,U,U⟩) U U (fun B61 BC R=>?_) (fun B61 BC R=>?_)
  rotate_left 1
  ·refine rP 2 [] mn ?_
   refine RK N<|aL U<|an ?_
   refine hQ _ _ _ (g3 (vs:=[]) trivial fun w hs=>rW 9 U BC R hs)
  refine aY 2 U<|RK N<|aX U<|bM<|aB<|KK Y<|ag<|rS (SX (cM (r:= .int .i64 2) U U U (iP ⟨dc,dc⟩)) U U)<|rP 1 [] mn ?_
  refine RK d<|fz fun R64 A7=>WS fun _ AR=>rS (SX (cM (r:= .bool false) U U U jG) U U)<|RK AR<|ai fun _ Ax=>aX U<|bj<|aa<|aa<|au<|aB<|gP 8 U fr U ?_
  refine aI (F ⟨((ct left x),(ys++[((y.Hi+1))]),B61),⟨k7 hn hm hl3_1 C (fun n B=>by first|exact B|(simp [B]; done)) (fun n B=>by (simp only [jB,bK] at B; rcases B with B|rfl<;>first|exact .inl B|exact .inr (lX (hl3_1 _ hm) dso sm I))) (fun K n B BF=>by simp only [dL,List.not_mem_nil,or_false] at B; rcases B with rfl|rfl<;>first|(simp; done)|(exfalso; omega)),fO hl3_1,BC,R⟩⟩ _ _ _ rfl (eI hm) (aN rfl) (aD [3,4,5,6,7,8,9]))
 refine rP 2 [] mn ?_
 refine kj (k:=ys) (k':=(ys++[((y.Lo+1))])) 8 (by first|exact hsz|exact Nat.le_refl _) hY D E U U U (by exact ⟨_,lX (hl3_1 _ hm) dso (by first|exact .inl rfl|exact .inr U) I,U,U⟩) U U (fun B28 H G=>?_) (fun B28 H G=>?_)
 rotate_left 1
 ·refine rP 2 [] mn ?_
  refine RK L<|aL U<|an ?_
  refine hQ _ _ _ (g3 (vs:=[]) trivial fun w hs=>rW 8 U H G hs)
 refine aY 2 U<|RK L<|aX U<|bM<|aB<|KK W<|ag<|rS (SX (cM (r:= .int .i64 1) U U U (iP ⟨dc,dc⟩)) U U)<|aY 1 U<|RK b<|fz fun R31 c=>WS fun _ AG=>rS (SX (cM (r:= .bool true) U U U jG) U U)<|RK AG<|ai fun _ AH=>aL U<|WK AH<|ai fun _ X=>ar<|WS fun _ AI=>rS (SX (rp (v:=(vI (y.Hi+1))) 1 U U U Fp bX U dc U) U U)<|aY 1 U<|RK AI<|WS fun _ M=>rP 4 [] (mr 6 U mn) ?_
 refine cv (t:=43) U (bh fun Af=>?_) (bg fun Af=>?_)
 ·refine aY 14 U<|RK M<|aX U<|bM<|aB<|KK X<|ag<|rS (SX (cM (r:= .int .i64 2) U U U (iP ⟨dc,dc⟩)) U U)<|rP 1 [] mn ?_
  refine RK c<|fz fun R49 A6=>WS fun _ AM=>rS (SX (cM (r:= .bool false) U U U jG) U U)<|RK AM<|ai fun _ Aw=>aX U<|bj<|aa<|aa<|au<|aB<|gP 7 U fr U ?_
  refine aI (F ⟨((ct left x),(ys++[((y.Lo+1))]),B28),⟨k7 hn hm hl3_1 C (fun n B=>by first|exact B|(simp [B]; done)) (fun n B=>by (simp only [jB,bK] at B; rcases B with B|rfl<;>first|exact .inl B|exact .inr (lX (hl3_1 _ hm) dso sm I))) (fun K n B BF=>by simp only [dL,List.not_mem_nil,or_false] at B; rcases B with rfl|rfl<;>first|(simp; done)|(exfalso; omega)),fO hl3_1,H,G⟩⟩ _ _ _ rfl (eI hm) (aN rfl) (aD [2,3,4,5,6,7,8]))
 refine rP 5 [] (mc 2 U mn) ?_
 refine eX (xs:=[.tmp 48]) (cs:=[(vI (y.Hi+1))]) U di lh U U U U (by simp [Value.cells]) U U fun Ab=>?_
 refine rS (CL (eA.eq (kZ ((bk m i).Lo) ((bk m i).Hi) ([(y.Hi+1)]) (some ⟨Ab,0,none⟩) 1 (by (simp; done))) dj) (aC (a_ 0 U U (by simp [bU]) U)<|aS) U) ?_
 refine rP 2 [] mn ?_
 refine cv (t:=52) U (aQ fun Ag=>?_) (aP fun Ag=>?_)
 ·refine aY 5 U<|RK M<|aX U<|bM<|aB<|KK X<|ag<|rS (SX (cM (r:= .int .i64 2) U U U (iP ⟨dc,dc⟩)) U U)<|rP 1 [] mn ?_
  refine RK c<|fz fun R46 A5=>WS fun _ AK=>rS (SX (cM (r:= .bool false) U U U jG) U U)<|RK AK<|ai fun _ Av=>aX U<|bj<|aa<|aa<|au<|aB<|gP 8 U fr U ?_
  refine aI (F ⟨((ct left x),(ys++[((y.Lo+1))]),B28),⟨k7 hn hm hl3_1 C (fun n B=>by first|exact B|(simp [B]; done)) (fun n B=>by (simp only [jB,bK] at B; rcases B with B|rfl<;>first|exact .inl B|exact .inr (lX (hl3_1 _ hm) dso sm I))) (fun K n B BF=>by simp only [dL,List.not_mem_nil,or_false] at B; rcases B with rfl|rfl<;>first|(simp; done)|(exfalso; omega)),fO hl3_1,H,G⟩⟩ _ _ _ rfl (eI hm) (aN rfl) (aD [3,4,5,6,7,8,9]))
 refine rP 2 [] mn ?_
 refine kj (k:=(ys++[((y.Lo+1))])) (k':=((ys++[((y.Lo+1))])++[((y.Hi+1))])) 9 (by first|exact hsz|exact Nat.le_refl _) hY H G U U U (by exact ⟨_,lX (hl3_1 _ hm) dso (by first|exact .inl rfl|exact .inr U) I,U,U⟩) U U (fun B40 T P=>?_) (fun B40 T P=>?_)
 rotate_left 1
 ·refine rP 2 [] mn ?_
  refine RK M<|aL U<|an ?_
  refine hQ _ _ _ (g3 (vs:=[]) trivial fun w hs=>rW 9 U T P hs)
 refine aY 2 U<|RK M<|aX U<|bM<|aB<|KK X<|ag<|rS (SX (cM (r:= .int .i64 2) U U U (iP ⟨dc,dc⟩)) U U)<|rP 1 [] mn ?_
 refine RK c<|fz fun R43 A4=>WS fun _ AJ=>rS (SX (cM (r:= .bool false) U U U jG) U U)<|RK AJ<|ai fun _ Au=>aX U<|bj<|aa<|aa<|au<|aB<|gP 8 U fr U ?_
 refine aI (F ⟨((ct left x),((ys++[((y.Lo+1))])++[((y.Hi+1))]),B40),⟨k7 hn hm hl3_1 C (fun n B=>by first|exact B|(simp [B]; done)) (fun n B=>by (simp only [jB,bK] at B; rcases B with (B|rfl)|rfl<;>first|exact .inl B|exact .inr (lX (hl3_1 _ hm) dso sm I))) (fun K n B BF=>by simp only [dL,List.not_mem_nil,or_false] at B; rcases B with rfl|rfl<;>first|(simp; done)|(exfalso; omega)),fO hl3_1,T,P⟩⟩ _ _ _ rfl (eI hm) (aN rfl) (aD [3,4,5,6,7,8,9]))
theorem Kn (gw:Nat) (i:Int):
 lg Tryz.prog 65 [(vP gw),(vI i)] [] (fun (x:Nat×Nat)=>(Value.func (.func 87) [].toArray [(Value.pointer (some ⟨x.1,0,none⟩)),(Value.pointer (some ⟨x.2,0,none⟩))].toArray)) (fun (x:Nat×Nat)=>True) (fun (x:Nat×Nat)=>[(cq x.1 77 [(vP gw)]),(cq x.2 3 [(vI i)])]):=by
 refine db kr Tryz.func65 U U fun E Q hQ hN=>?_
 try dsimp only
 refine WS fun _ A=>ux U U fun C=>ux U U fun D=>aY 1 U<|RK A<|WS fun _ B=>rS (FU U)<|rP 1 [] mn ?_
 refine RK B<|an<|LX hQ (C,D) [1,0] [] mn U U U U ?_
 trivial
end
section
open Go.RowKit
theorem EB (r:cr) (kA:OA) (kC:Nat) (cA:OA) (cC:Nat) (bA:OA) (bC:Nat) (slA:OA) (slC:Nat) (drA:OA) (drC:Nat) (heA:OA) (heC:Nat) (tA:OA) (tN tC:Nat) (gs gw:Nat) (m:g7) (i:Int) (hb: ∀ p∈m,0≤p.2.Lo∧p.2.Lo≤p.2.Hi∧p.2.Hi≤30000000) (hi:m.lookup i≠none) (hm12:m.length≤12):
 lg Tryz.prog 33 [(vP gw),(vI i)] [(cq gw 100 (gd.cells (gd.mk (pZ r kA kC cA cC bA bC slA slC drA drC heA heC) (bf.mk tA tN tC) (Value.map (some gs))))),(hU iV gs (bQ dB m))] (fun (x:(OA)×Nat)=>(vS x.1 ((dq m i (bk m i)).length) x.2)) (fun (x:(OA)×Nat)=>True) (fun (x:(OA)×Nat)=>[(own x.1 x.2 3 1 ((dq m i (bk m i)).map iC))]):=by
 refine db kr Tryz.func33 U U fun w0 Q hQ hN=>?_
 try dsimp only
 refine WS fun _ Ao=>ux U U fun b2=>ux U U fun b3=>rP 1 [] mn ?_
 refine RK Ao<|WS fun _ Aq=>nA (kV:=iV) U U fun T=>?_
 try dsimp only
 refine AL U RG fun b6=>HH U Sp U U<|RK Aq<|ai fun _ Ar=>WS fun _ As=>e7 1 [] (mc 3 U mn) U<|rS (SX (bL U U) U U)<|e7 2 [] (mr 4 U mn) U<|rS (SX (DB U U lH (by exact ku 5 U)) U U)<|rP 1 [] mn ?_
 refine RK As<|ar ?_
 have A:(0≤m.length)∧(iE ([]:qJ) (fun u=>1≤u∧u≤(0:Int))):=by exact ⟨Nat.zero_le _,Lb fun k=>by omega⟩
 refine bx (ι:={z:Nat×qJ // (z.1≤m.length)∧(iE z.2 (fun u=>1≤u∧u≤(z.1:Int)))}) [2,3,5,20] [0,2,3,4,5] U U (fun z=>[(21,(vI (z.1.1:Int)))]) (fun z=>[(hU iV T (bQ vB z.1.2))]) (fun _=>rfl) (fun _=>rfl) (fun z=>m.length-z.1.1) ⟨(0,([]:qJ)),A⟩ (aN U) (aD [0,2,3,4,5,1]) ?_
 clear A
 rintro ⟨⟨n,nv⟩,⟨g,hl3_1⟩⟩ J9 An
 try dsimp only at g hl3_1
 try dsimp only
 refine WS fun _ AC=>rP 1 [] mn ?_
 refine RK AC<|ai fun _ AD=>cK U (aP fun Ak=>?_) (aQ fun Ak=>?_)
 ·refine WK AD<|ai fun _ AE=>ar<|WS fun _ AF=>aY 2 U<|RK AF<|ag<|e7 3 [] (mc 0 U mn) U<|jw (kV:=iV) (x:=((n:Int)+1)) (C':=[_,_,_,_,_,(hU iV T (bQ vB (er nv ((n:Int)+1) true)))]) 5 U U U U vc (dG mF) U (gT _ _ _ _).symm U<|ax<|aB<|KK AE<|ag<|rP 2 [] mn ?_
  refine ax ?_
  have Af:(vI (((n+1):Nat):Int))=(vI ((n:Int)+1)):=by exact cI I
  refine aI (An ⟨((n+1),(er nv ((n:Int)+1) true)),⟨I,(KI hl3_1 I).xY fun k=>by omega⟩⟩ _ _ _ U os (bY 4<|aO U Af<|cO.nil _) (aD [0,1,2,3,4,5]))
 refine bj<|aa<|aa<|au<|KK Ar<|WS fun _ AG=>rP 1 [] (mc 0 U mn) ?_
 refine cX (IU nv T) (aZ [5]) U fun G A8=>?_
 try dsimp only
 refine aY 1 U<|RK AG<|ai fun _ AH=>WS fun _ AI=>rP 2 [0,1] (mc 3 U (mc 2 U mn)) ?_
 refine cX (Kn gw i) (aS) U fun A0 A9=>?_
 obtain ⟨Y,Z⟩:=A0
 try dsimp only
 refine RK AI<|ar<|kl 6 U (by exact fun _ h=>h)<|kl 8 U (by exact fun _ h=>h) ?_
 refine m_ (L0:=[(2,(vP b2)),(3,(vP b3)),(5,(vP b6)),(7,(Value.map (some G)))]) (F:=[(cq gw 100 (gd.cells (gd.mk (pZ r kA kC cA cC bA bC slA slC drA drC heA heC) (bf.mk tA tN tC) (Value.map (some gs))))).ro,(hU iV gs (bQ dB m)).ro,(cq Y 77 [(vP gw)]),(cq Z 3 [(vI i)])]) (fun k (y:qJ)=>(iE y (uv m i k))) (fun k y=>[(hU iV G (bQ vB nv)),(cq b6 121 [(Value.map (some T))]),(cq b3 3 [(vI i)]),(cq b2 77 [(vP gw)]),(cq gw 100 (gd.cells (gd.mk (pZ r kA kC cA cC bA bC slA slC drA drC heA heC) (bf.mk tA tN tC) (Value.map (some gs))))).ro,(hU iV gs (bQ dB m)).ro,(hU iV T (bQ vB y))]) (fun _ (_:Unit)=>False) (fun _ _=>[]) [4,5,6,7,8,9,10] [1,0,2,3] nv rfl rfl (Gc r kA kC cA cC bA bC slA slC drA drC heA heC tA tN tC gs gw m i Y Z (by exact hb)) rfl rfl rfl (by exact H3 (hl3_1.xY fun k=>by omega)) (by simp only [List.forall_mem_cons,List.not_mem_nil,false_imp_iff,implies_true,and_true]; exact ⟨⟨_,sm,(dA (bO _))⟩,⟨_,sm,(dA (bO _))⟩,⟨_,sm,(bO _)⟩,⟨_,sm,(bO _)⟩⟩) (by rintro k x k2 ⟨n,_,rfl,_⟩; rfl) rfl (aN rfl) ?_ ?_ (fun _ _ _ h=>h.elim) (fun _ _ h=>h.elim)
 rotate_left 1
 ·rintro BJ k nw Ag e
  have R:=e
  try dsimp only
  refine aB<|KK AH<|ai fun _ Aa=>WS fun _ Ab=>rP 1 [] (mc 6 U mn) ?_
  refine tY 11 U U vc U U fun Ay=>?_
  try dsimp only
  refine RK Ab<|ar ?_
  have A:(∀ p∈nw,p∈nw)∧(iE nv (fun u=>(1≤u∧u≤(m.length:Int))∧ ¬ (uv m i k u∧u ∉ nw.map (·.1)))):=by exact ⟨fun p hp=>hp,hl3_1.xY fun u=>⟨fun q=>⟨I,fun z=>z.2 ((R.2 u).2 z.1)⟩,fun q=>by omega⟩⟩
  refine bx (ι:={z:qJ×qJ // (∀ p∈z.1,p∈nw)∧(iE z.2 (fun u=>(1≤u∧u≤(m.length:Int))∧ ¬ (uv m i k u∧u ∉ z.1.map (·.1))))}) [7,68] [0,1,2,9,10] U U (fun z=>[]) (fun z=>[(hU iV G (bQ vB z.1.2)),(yo iV Ay T (bQ vB nw) (bQ vB z.1.1) none)]) (fun _=>rfl) (fun _=>rfl) (fun z=>z.1.1.length) ⟨(nw,nv),A⟩ (cO.nil _) (aD [0,1,2,9,10,5,11]) ?_
  clear A
  rintro ⟨⟨left,rk⟩,⟨A3,J⟩⟩ J55 AB
  try dsimp only at A3 J
  try dsimp only
  refine WS fun _ W=>sv (dG mF).inj (f:=Value.bool) 6 U U U U (fun Am=>?_) (fun u v Ah BC=>?_)
  rotate_left 1
  ·try dsimp only
   refine aY 1 U<|RK W<|ai fun _ Ad=>aL U<|WK Ad<|ar<|WS fun _ Ae=>rS (SX (sD 6 U U U) U U)<|aY 2 U<|RK Ae<|ag<|rP 2 [] mn ?_
   refine o_ (kV:=iV) (x:=u) (C':=[_,_,_,_,_,(hU iV G (bQ vB (ct rk u))),_]) 5 U U U U vc (dG mF) U (lR _ _ _).symm U<|ax<|aB<|gP 6 U wZ U ?_
   refine aI (AB ⟨((ct left u),(ct rk u)),⟨fO A3,MT A3 R Ah J⟩⟩ _ _ _ U (eI Ah) (aN U) (aD [0,1,2,3,4,5,6]))
  refine rP 1 [] mn ?_
  refine RK W<|ai fun _ A7=>aX U<|bj<|aa<|aa<|au<|KK Aa<|WS fun _ Ac=>?_
  have Ai:iE rk (fun u=>(1≤u∧u≤(m.length:Int))∧ ¬ uv m i k u):=J.xY fun u=>⟨fun q=>⟨q.1,fun z=>q.2 ⟨z,by rw [Am]; simp⟩⟩,fun q=>⟨q.1,fun z=>q.2 z.1⟩⟩
  have X:dx (rk.map (·.1))=(dq m i (bk m i)):=Dk hi Ag Ai
  have BE:rk.length≤m.length:=IC Ai fun k q=>q.1
  have At:rk.length=(dq m i (bk m i)).length:=by rw [← X]; simp
  refine rP 1 [] mn ?_
  refine cX (Ly G) (aS) U fun Aj A_=>?_
  try dsimp only
  refine cX (GK rk G Aj I) (aZ [6,0]) U fun A1 BA=>?_
  obtain ⟨j,o⟩:=A1
  try dsimp only
  rw [X]
  refine rP 1 [] mn ?_
  refine RK Ac<|an<|hQ _ _ _ (oG 2 U U<|g3 (vs:=[(vS j rk.length o)]) ⟨U,trivial⟩ fun w hs=>Kp (j,o) [0] ?_ ?_ U U U hs)
  ·(rw [← At]; rfl)
  ·trivial
 rintro k x k2 nw l ra rb S w1 K26 Qr27 BH hx d AJ c Az A2
 obtain ⟨n,BD,rfl,rfl⟩:=hx
 have R:=d
 try dsimp only
 refine ag<|rP 1 [] mn ?_
 refine ax<|aI (AJ _ _ ?_)
 refine ar<|WS fun _ AK=>aY 2 U<|RK AK<|ai fun _ AM=>WS fun _ AN=>e7 1 [] (mc 4 U mn) U<|rS (SX (bL U U) U U)<|rP 2 [] (mr 5 U mn) ?_
 refine jI (kV:=iV) (m:=bQ dB m) 6 U U lH U ⟨U,fun h=>h⟩ (by exact ku 6 U) U fun Ax=>?_
 try dsimp only
 refine RK AN<|ar ?_
 have A:((1:Int)+(il m i n:Int)=1+(il m i n:Int))∧((1:Int)+(km m i n:Int)=1+(km m i n:Int))∧(∀ p∈m,p∈m)∧(1≤(1:Int)∧1≤(1:Int)):=by exact ⟨rfl,rfl,fun p hp=>hp,I⟩
 refine bx (ι:={z:g7×Int×Int // (z.2.1+(il z.1 i n:Int)=1+(il m i n:Int))∧(z.2.2+(km z.1 i n:Int)=1+(km m i n:Int))∧(∀ p∈z.1,p∈m)∧(1≤z.2.1∧1≤z.2.2)}) [2,3,5,7,8,38] [1,2,3,4,5,6,7,8] U U (fun z=>[(9,(vI z.1.2.1)),(10,(vI z.1.2.2))]) (fun z=>[(yc iV Ax gs (bQ dB m) (bQ dB z.1.1) none)]) (fun _=>rfl) (fun _=>rfl) (fun z=>z.1.1.length) ⟨(m,(1:Int),(1:Int)),A⟩ (aN U) (aD [1,2,3,4,5,6,7,8,0]) ?_
 clear A
 rintro ⟨⟨left,s,t⟩,⟨C,D,B,P⟩⟩ J33 K
 try dsimp only at C D B P
 try dsimp only
 have Au:=zu (m:=m) (i:=i) (n:=n)
 have Av:=DY (m:=m) (i:=i) (n:=n)
 refine WS fun _ Aw=>iZ (dG mF).inj (f:=dB) 8 U U U U (fun O=>?_) (fun x y hm hn=>?_)
 ·refine aY 1 U<|RK Aw<|ai fun _ A6=>aX U<|bj<|aa<|aa<|au<|KK AM<|WS fun _ AO=>rP 2 [] mn ?_
  refine RK AO<|ar ?_
  have A:(s≤s∧(s≤t+1∨s=s))∧(iE nw (fun u=>uv m i k u∧ ¬ (s≤u∧u<s))):=by exact ⟨⟨Int.le_refl _,.inr rfl⟩,R.xY fun u=>⟨fun q=>⟨q,fun z=>by omega⟩,fun q=>q.1⟩⟩
  refine bx (ι:={z:Int×qJ // (s≤z.1∧(z.1≤t+1∨z.1=s))∧(iE z.2 (fun u=>uv m i k u∧ ¬ (s≤u∧u<z.1)))}) [2,3,5,7,8,9,10] [0,1,2,3,4,5,6,8] U U (fun z=>[(13,(vI z.1.1))]) (fun z=>[(hU iV T (bQ vB z.1.2))]) (fun _=>rfl) (fun _=>rfl) (fun z=>(t+1-z.1.1).toNat) ⟨(s,nw),A⟩ (aN U) (aD [0,1,2,3,4,5,6,8,7]) ?_
  clear A
  rintro ⟨⟨q,n2⟩,⟨M,H⟩⟩ J37 AA
  try dsimp only at M H
  try dsimp only
  have Au:=zu (m:=m) (i:=i) (n:=n)
  have Av:=DY (m:=m) (i:=i) (n:=n)
  have BF:s=1+(il m i n:Int):=by rw [O] at C; simp only [yP] at C; omega
  have BG:t=1+(km m i n:Int):=by rw [O] at D; simp only [Ap] at D; omega
  refine ai fun _ AQ=>WS fun _ AR=>rP 3 [] mn ?_
  refine RK AR<|bE U (aQ fun Al=>?_) (aP fun Al=>?_)
  ·refine bj<|aa<|aa<|au<|aB ?_
   exact c n2 _ _ (by exact H2 (a:=s) (b:=t) (by rw [O,yP] at C; omega) (by rw [O,Ap] at D; omega) (H.xY fun u=>⟨fun z=>⟨z.1,fun w=>z.2 I⟩,fun z=>⟨z.1,fun w=>z.2 I⟩⟩)) (aD [0,1,2,3,4,5,6,8])
  refine WK AQ<|ai fun _ AS=>ar<|ag<|e7 2 [] (mc 2 U mn) U<|o_ (kV:=iV) (x:=q) (C':=[_,_,_,_,_,_,_,_,(hU iV T (bQ vB (ct n2 q)))]) 8 U U U U vc (dG mF) U (lR _ _ _).symm U<|ax<|aB<|KK AS<|ag<|rP 3 [] mn ?_
  refine ax ?_
  refine aI (AA ⟨((q+1),(ct n2 q)),⟨I,DO M.1 H⟩⟩ _ _ _ U dso (aN U) (aD [0,1,2,3,4,5,6,7,8]))
 try dsimp only
 refine aY 1 U<|RK Aw<|ai fun _ AT=>aL U<|WK AT<|ar<|WS fun _ AU=>rS (SX (iT 8 U U U) U U)<|aY 2 U<|AL U dk fun BB=>aY 1 U<|fq U cu U<|RK AU<|ai fun _ AV=>WS fun _ AW=>rP 3 [] (mc 4 U mn) ?_
 refine RK AW<|cK U (aP fun E=>?_) (aQ fun E=>?_)
 ·refine bj<|aa<|au<|gP 9 U fr U ?_
  refine aI (K ⟨((ct left x),s,t),(by refine ⟨?_,?_,fO B,?_⟩<;>dsimp only <;>first|omega|(rw [← GO hn hm E]; omega)|(rw [← KV hn hm E]; omega))⟩ _ _ _ U (eI hm) (aN U) (aD [1,2,3,4,5,6,7,8,9]))
 refine WK AV<|ai fun _ V=>WS fun _ AX=>rP 4 [] (mc 0 U mn) ?_
 refine RK AX<|bE U (aQ fun N=>?_) (aP fun N=>?_)
 ·refine WK V<|WS fun _ AZ=>rP 4 [] (mc 0 U mn) ?_
  refine RK AZ<|bE U (aQ fun L=>?_) (aP fun L=>?_)
  ·refine bM<|aB<|gP 9 U fr U ?_
   refine aI (K ⟨((ct left x),s,t),(by refine ⟨?_,?_,fO B,?_⟩<;>dsimp only <;>first|omega|(have:=AP hn hm E N; omega)|(have:=EE hn hm E L; omega))⟩ _ _ _ U (eI hm) (aN U) (aD [1,2,3,4,5,6,7,8,9]))
  refine ag<|rP 3 [] mn ?_
  refine ax<|aB<|gP 9 U fr U ?_
  refine aI (K ⟨((ct left x),s,(t+1)),(by refine ⟨?_,?_,fO B,?_⟩<;>dsimp only <;>first|omega|(have:=AP hn hm E N; omega)|(have:=Bj hn hm E L; omega))⟩ _ _ _ U (eI hm) (aN U) (aD [1,2,3,4,5,6,7,8,9]))
 refine ag<|aY 3 U<|RK V<|WS fun _ AY=>rP 4 [] (mc 0 U mn) ?_
 refine RK AY<|bE U (aQ fun L=>?_) (aP fun L=>?_)
 ·refine bM<|aB<|gP 9 U fr U ?_
  refine aI (K ⟨((ct left x),(s+1),t),(by refine ⟨?_,?_,fO B,?_⟩<;>dsimp only <;>first|omega|(have:=zh hn hm E N; omega)|(have:=EE hn hm E L; omega))⟩ _ _ _ U (eI hm) (aN U) (aD [1,2,3,4,5,6,7,8,9]))
 refine ag<|rP 3 [] mn ?_
 refine ax<|aB<|gP 9 U fr U ?_
 refine aI (K ⟨((ct left x),(s+1),(t+1)),(by refine ⟨?_,?_,fO B,?_⟩<;>dsimp only <;>first|omega|(have:=zh hn hm E N; omega)|(have:=Bj hn hm E L; omega))⟩ _ _ _ U (eI hm) (aN U) (aD [1,2,3,4,5,6,7,8,9]))
end
section
open Go.RowKit
theorem Lp (la:List Int) (laA:OA) (laC:Nat) (lb:List Int) (lbA:OA) (lbC:Nat) (h1:la.length≤1000000) (h2:lb.length≤1000000):
 eA Tryz.prog 60 [(vS laA la.length laC),(vS lbA lb.length lbC)] [(rd laA la.length 1 (la.map iC)),(rd lbA lb.length 1 (lb.map iC))] (vB (decide (la=lb))):=by
 refine bH kr Tryz.func60 U U fun W Q hQ hN=>?_
 try dsimp only
 refine WS fun _ K=>aY 1 U<|RK K<|ai fun _ L=>WS fun _ M=>rP 5 [] mn ?_
 refine RK M<|cK U (bg fun hl=>?_) (bh fun hl=>?_)
 ·refine WS fun _ N=>rP 1 [] mn ?_
  refine RK N<|an<|Q1 hQ U U U ?_
  first|exact cB (bD (iM hx hy h)).symm|exact cB (dh (cd I A I)).symm|exact cB (bD (fun e=>by subst e; omega)).symm
 refine WK L<|ai fun _ O=>WS fun _ P=>rP 3 [] mn ?_
 refine RK P<|ar ?_
 have B:(0≤la.length)∧(la.take 0=lb.take 0):=by simp
 refine bx (ι:={z:Nat // (z≤la.length)∧(la.take z=lb.take z)}) [0,1,12] [0,1] U U (fun z=>[(13,(vI (z.1:Int)))]) (fun z=>[]) (fun _=>rfl) (fun _=>rfl) (fun z=>la.length-z.1) ⟨0,B⟩ (aN U) (aD [0,1]) ?_
 clear B
 rintro ⟨i,⟨T,A⟩⟩ J7 J
 try dsimp only
 refine WS fun _ R=>rP 1 [] mn ?_
 refine RK R<|ai fun _ S=>bE U (aQ fun AB=>?_) (aP fun AB=>?_)
 ·refine bj<|aa<|aa<|au<|KK O<|WS fun _ G=>rP 1 [] mn ?_
  refine RK G<|an<|Q1 hQ U U U ?_
  first|exact cB (bD (iM hx hy h)).symm|exact cB (dh (cd I A I)).symm|exact cB (bD (fun e=>by subst e; omega)).symm
 refine WK S<|ai fun _ C=>ar<|WS fun _ D=>aY 2 U<|RK D<|ai fun _ E=>cS cf 9 kr<|dP 2 [] mn ?_
 obtain ⟨x,hx⟩:=aG la i I
 have AA:=bG iC hx
 refine dS (IA i U (ay 0 U) di dc I I)<|dS (fI i 0 (vI x) U bX (ay 0 U) AA U dc U)<|dP 2 [] mn ?_
 obtain ⟨y,hy⟩:=aG lb i I
 have V:=bG iC hy
 refine dS (IA i U (ay 1 U) di dc I I)<|dS (fI i 0 (vI y) U bX (ay 1 U) V U dc U)<|dP 1 [] mn ?_
 refine cy<|RK E<|cK U (bg fun h=>?_) (bh fun h=>?_)
 ·refine WS fun _ F=>rP 1 [] mn ?_
  refine RK F<|an<|Q1 hQ U U U ?_
  first|exact cB (bD (iM hx hy h)).symm|exact cB (dh (cd I A I)).symm|exact cB (bD (fun e=>by subst e; omega)).symm
 refine bM<|aB<|KK C<|ag<|rP 2 [] mn ?_
 refine ax ?_
 have H:(vI (((i+1):Nat):Int))=(vI ((i:Int)+1)):=by exact cI I
 refine aI (J ⟨(i+1),⟨I,ic A hx hy h⟩⟩ _ _ _ U os (bY 3<|aO U H<|cO.nil _) (aD [0,1]))
theorem zp (h i:Int) (t:ab) (r:cr) (kA:OA) (kC:Nat) (az:List RA) (cA:OA) (cC:Nat) (bA:OA) (bC:Nat) (slA:OA) (slC:Nat) (drA:OA) (drC:Nat) (ha:List cD) (heA:OA) (heC:Nat) (hin:fw r az ha):
 lg Tryz.prog 28 [(vA (cj.cells (pZ r kA kC cA cC bA bC slA slC drA drC heA heC))),(vI h),(vI i),(vA (ab.cells t))] [(rd jA 3 2 gZ),(rd kA r.aA.aM.length 9 (r.aA.aM.map al.cells)),(rd cA r.aA.aj.length 2 (List.zipWith ao.cells r.aA.aj az)),(eH (aU ao.gh r.aA.aj az)),(rd bA r.aA.ae.length 4 (r.aA.ae.map bI.cells)),(rd slA r.aH.length 1 (r.aH.map iC)),(rd drA r.cm.length 1 (r.cm.map iC)),(rd heA r.aq.length 1 (List.zipWith cz r.aq ha)),(eH (aU iA r.aq ha))] (fun (x:(OA)×Nat)=>(vT [(vS x.1 ((ep r h i t).length) x.2),(vI (fZ r h i t))])) (fun (x:(OA)×Nat)=>True) (fun (x:(OA)×Nat)=>[(own x.1 x.2 3 1 ((ep r h i t).map iC))]):=by
 have As:=hin.line
 have BG:=hin.iR
 have BH:=hin.has
 have A5:=hin.iK
 have A3:=hin.draw
 have Ab:=dw (r:=r)
 refine db kr Tryz.func28 U U fun w0 Q hQ hN=>?_
 try dsimp only
 refine WS fun _ Ar=>fm U fun b2=>fm U fun b3=>aY 2 U<|RK Ar<|WS fun _ AE=>rP 1 [] (mc 1 U mn) ?_
 refine cX (vu r kA kC az cA cC bA bC slA slC drA drC ha heA heC hin) (aZ [2,3,4,5,6,7,8,9,10]) U fun y5 Ac=>?_
 obtain ⟨Ae,BE,v,G,f,g,QL⟩:=y5
 cases Ae
 ·obtain ⟨B,he⟩:=Ac.2 rfl
  try dsimp only at B he
  subst B
  try dsimp only [cond_true,cond_false,List.cons_append,List.nil_append]
  refine aY 5 U<|RK AE<|ai fun _ A1=>WS fun _ AA=>rP 2 [] mn ?_
  refine RK AA<|bE U (bh fun w=>?_) (bg fun w=>?_)
  ·exact absurd w he
  refine WS fun _ AB=>rP 1 [] mn ?_
  have A:fZ r h i t=gr r:=lQ he
  have C:ep r h i t=[]:=pG (by rw [A]; exact he)
  refine fg 3 1 ?_
  rw [show (own none 0 3 1 ([]:List (List Value)))=own none 0 3 1 ((ep r h i t).map iC) from by rw [C]; rfl]
  refine rP 2 [] mn ?_
  refine RK AB<|an ?_
  refine LX hQ (none,0) [0] [] mn U U U ?_ ?_
  ·first|rfl|(rw [A,C]; rfl)|(rw [A]; rfl)
  ·trivial
 obtain ⟨he,m⟩:=Ac.1 rfl
 try dsimp only [cond_true,cond_false,List.cons_append,List.nil_append]
 have BJ:=he
 try dsimp only at m
 have AY:=(iy he).2
 refine aY 5 U<|RK AE<|ai fun _ AC=>WS fun _ AD=>aY 1 U<|rS (SX (cM (r:= .bool false) U U U rQ) U U)<|RK AD<|aX U<|WK AC<|WS fun _ Z=>rP 4 [] (mc 4 U mn) ?_
 refine cX (xV r kA kC az cA cC bA bC slA slC drA drC ha heA heC QL f g (Value.map (some G)) v h i t hin (by exact AY)) (nt [7,8,9,10,11,12,13,14]<|aC (ak (n:=(bV r).length) 1 U (j3 (by rw [Ab]; exact m)))<|aC (eN 2 U xA)<|fG 0 U U<|aS) U fun Au d=>?_
 obtain ⟨Af,Az,L,S,M,T,o,N,BI,O,V,P,W,R,X,Ad⟩:=Au
 cases Af
 ·obtain ⟨B,he⟩:=d.2 rfl
  try dsimp only at B he
  subst B
  try dsimp only [cond_true,cond_false,List.cons_append,List.nil_append]
  refine aY 3 U<|AL U qC fun BA=>fq U kT U<|aY 1 U<|RK Z<|ai fun _ A2=>WS fun _ AF=>rP 2 [] mn ?_
  refine RK AF<|bE U (bh fun y=>?_) (bg fun y=>?_)
  ·exact absurd y he
  refine WS fun _ AG=>rP 1 [] mn ?_
  have A:fZ r h i t=ou r h i t:=jv BJ
  have C:ep r h i t=[]:=pG (by rw [A]; exact he)
  refine fg 3 1 ?_
  rw [show (own none 0 3 1 ([]:List (List Value)))=own none 0 3 1 ((ep r h i t).map iC) from by rw [C]; rfl]
  refine rP 2 [] mn ?_
  refine RK AG<|an ?_
  refine LX hQ (none,0) [0] [] mn U U U ?_ ?_
  ·first|rfl|(rw [A,C]; rfl)|(rw [A]; rfl)
  ·trivial
 obtain ⟨E,⟨j,AV⟩,J⟩:=d.1 rfl
 try dsimp only [cond_true,cond_false,List.cons_append,List.nil_append]
 try dsimp only at E j AV J
 have l:fZ r h i t=0:=(jv BJ).trans E
 have AW:=hin.rep j AV J
 refine aY 3 U<|AL U qC fun BB=>fq U kT U<|aY 1 U<|RK Z<|ai fun _ AH=>WS fun _ AI=>aY 1 U<|rS (SX (cM (r:= .bool false) U U U rQ) U U)<|RK AI<|aX U<|WK AH<|WS fun _ AJ=>rP 1 [] (mc 0 U mn) ?_
 refine cX (vu (fV r h i t) L S o M T N BI O V P W Ad R X (by exact AW)) (fG 15 U U<|aC (ak (n:=r.aA.aM.length) 1 U sm)<|aC (ak (n:=r.aA.aj.length) 2 U (gn j))<|aC (eN 3 U kh)<|aC (ak (n:=r.aA.ae.length) 4 U sm)<|aC (ak (n:=r.aH.length) 5 U sm)<|aC (ak (n:=r.cm.length) 6 U sm)<|aC (ak (n:=(gO r.aq h i t).length) 7 U (dy J.1))<|aC (ju 8 U J)<|aS) U fun Av e=>?_
 obtain ⟨Ag,A0,s,p,Ah,Ai,Tp⟩:=Av
 cases Ag
 ·obtain ⟨B,he⟩:=e.2 rfl
  try dsimp only at B he
  subst B
  try dsimp only [cond_true,cond_false,List.cons_append,List.nil_append]
  exact absurd (yA l) he
 obtain ⟨he,m⟩:=e.1 rfl
 try dsimp only [cond_true,cond_false,List.cons_append,List.nil_append]
 have AZ:=pR BJ
 have F:=nH BJ
 have Aa:=pR he
 have A4:=nH he
 refine aY 5 U<|RK AJ<|WS fun _ AK=>aY 1 U<|RK AK<|ai fun _ AM=>WS fun _ AN=>aY 1 U<|rS (SX (bL U U) U U)<|rP 2 [] (mc 13 U mn) ?_
 refine cX (Eu G) (aS) U fun Am A6=>?_
 try dsimp only
 refine cX (za (aJ r) G Am sd) (aZ [17,0]) U fun Aw A7=>?_
 obtain ⟨A_,BD⟩:=Aw
 try dsimp only
 rw [show (aJ r).length=(dx ((aJ r).map (·.1))).length from by rw [fW,List.length_map]]
 refine rP 1 [] mn ?_
 have AX:(dx ((aJ r).map (·.1))).length≤5:=by rw [fW,List.length_map]; exact F
 refine rP 1 [] mn ?_
 refine RK AN<|ar<|eP 3 1 ?_
 have D:(0≤(dx ((aJ r).map (·.1))).length):=by exact Nat.zero_le _
 refine bx (ι:={z:Nat×(OA)×Nat // (z.1≤(dx ((aJ r).map (·.1))).length)}) [10,13,47,48] [1,3,4,5,6,8,9,10,11,12,13,14,15,16,17,18,19,22,23,24,25,26,27,28,29,30] U U (fun z=>[(15,(vS z.1.2.1 ((((dx ((aJ r).map (·.1))).take z.1.1).filter (fun u=> !decide (dq (aJ r) u (bk (aJ r) u)=dq (aJ (fV r h i t)) u (bk (aJ (fV r h i t)) u)))).length) z.1.2.2)),(49,(vI (z.1.1:Int)))]) (fun z=>[(own z.1.2.1 z.1.2.2 3 1 ((((dx ((aJ r).map (·.1))).take z.1.1).filter (fun u=> !decide (dq (aJ r) u (bk (aJ r) u)=dq (aJ (fV r h i t)) u (bk (aJ (fV r h i t)) u)))).map iC))]) (fun _=>rfl) (fun _=>rfl) (fun z=>(dx ((aJ r).map (·.1))).length-z.1.1) ⟨(0,none,0),D⟩ (aN U) (aD [1,3,4,5,6,8,9,10,11,12,13,14,15,16,17,18,19,22,23,24,25,26,27,28,29,30,0]) ?_
 clear D
 rintro ⟨⟨k,a,c⟩,K⟩ J65 Y
 try dsimp only at K
 try dsimp only
 have BF:((((dx ((aJ r).map (·.1))).take k).filter (fun u=> !decide (dq (aJ r) u (bk (aJ r) u)=dq (aJ (fV r h i t)) u (bk (aJ (fV r h i t)) u))))).length≤12:=Nat.le_trans (List.length_filter_le _ _) (by rw [List.length_take]; omega)
 refine WS fun _ AO=>rP 1 [] mn ?_
 refine RK AO<|ai fun _ AP=>bE U (aQ fun Aq=>?_) (aP fun Aq=>?_)
 ·refine bj<|aa<|aa<|au<|KK AM<|WS fun _ AS=>rP 1 [] mn ?_
  have A:=l
  have C:ep r h i t=(((dx ((aJ r).map (·.1))).take k).filter (fun u=> !decide (dq (aJ r) u (bk (aJ r) u)=dq (aJ (fV r h i t)) u (bk (aJ (fV r h i t)) u)))):=by rw [xC l,List.take_of_length_le I]
  rw [← C]
  refine rP 2 [] mn ?_
  refine RK AS<|an ?_
  refine LX hQ (a,c) [26] [] mn U U U ?_ ?_
  ·first|rfl|(rw [A,C]; rfl)|(rw [A]; rfl)
  ·trivial
 refine WK AP<|ai fun _ b=>ar<|WS fun _ AQ=>?_
 obtain ⟨x,hx⟩:=aG (dx ((aJ r).map (·.1))) k I
 have At:=bG iC hx
 refine rS (IA k U (ak (n:=(dx ((aJ r).map (·.1))).length) 0 U sm) di dc I I)<|rS (fI k 0 (vI x) U bX (ak (n:=(dx ((aJ r).map (·.1))).length) 0 U sm) At U dc U)<|aY 1 U<|RK AQ<|WS fun _ AR=>rP 2 [] mn ?_
 refine cX (EB r kA kC cA cC bA bC slA slC drA drC heA heC f ((bV r).length) g G v (aJ r) x (by exact AZ) (by exact B8 (aR hx)) I) (aZ [13,16]) U fun Ax A8=>?_
 obtain ⟨Aj,An⟩:=Ax
 try dsimp only
 refine rP 2 [] mn ?_
 refine cX (EB (cr.mk r.aA r.aH r.cm r.iN (gO r.aq h i t)) L S M T N BI O V P W R X Ah ((bV (fV r h i t)).length) Ai p s (aJ (fV r h i t)) x (by exact Aa) (by exact fun q=>by have:=Bu E x; rw [q] at this; exact B8 (aR hx) (Option.not_isSome_iff_eq_none.1 (by rw [← this]; decide))) I) (aZ [2,5]) U fun Ay A9=>?_
 obtain ⟨Ak,Ao⟩:=Ay
 try dsimp only
 refine rS (CL (Lp (dq (aJ r) x (bk (aJ r) x)) Aj An (dq (aJ (fV r h i t)) x (bk (aJ (fV r h i t)) x)) Ak Ao (by exact Nat.le_trans pP I) (by exact Nat.le_trans pP I)) (aC (ak (n:=(dq (aJ r) x (bk (aJ r) x)).length) 1 U sm)<|aC (ak (n:=(dq (aJ (fV r h i t)) x (bk (aJ (fV r h i t)) x)).length) 0 U sm)<|aS) U)<|rP 1 [] mn ?_
 refine RK AR<|bE U (bh fun H=>?_) (bg fun H=>?_)
 ·refine bM<|aB<|KK b<|ag<|rP 1 [] mn ?_
  have AX:(dx ((aJ r).map (·.1))).length≤5:=by rw [fW,List.length_map]; exact F
  refine rP 1 [] mn ?_
  refine ax ?_
  rw [show (((dx ((aJ r).map (·.1))).take k).filter (fun u=> !decide (dq (aJ r) u (bk (aJ r) u)=dq (aJ (fV r h i t)) u (bk (aJ (fV r h i t)) u))))=(((dx ((aJ r).map (·.1))).take (k+1)).filter (fun u=> !decide (dq (aJ r) u (bk (aJ r) u)=dq (aJ (fV r h i t)) u (bk (aJ (fV r h i t)) u)))) from (MS hx (by simpa using H)).symm]
  have AU:(vI (((k+1):Nat):Int))=(vI ((k:Int)+1)):=by exact cI I
  refine aI (Y ⟨((k+1),a,c),(by first|omega|(simp only []; omega))⟩ _ _ _ U (by first|omega|(dsimp only; omega)) (bY 5<|aO U AU<|cO.nil _) (aD [2,3,4,5,6,7,8,9,10,11,12,13,14,15,16,17,18,19,20,21,22,23,24,25,26,27,28]))
 refine ag<|rP 2 [] mn ?_
 refine eX (xs:=[.tmp 62]) (cs:=[(vI x)]) U di lh U U U U (by simp [Value.cells]) U U fun BC=>?_
 refine cp (es2:=(List.map iC (((dx ((aJ r).map (·.1))).take (k+1)).filter (fun u=> !decide (dq (aJ r) u (bk (aJ r) u)=dq (aJ (fV r h i t)) u (bk (aJ (fV r h i t)) u)))))) (m':=(((dx ((aJ r).map (·.1))).take (k+1)).filter (fun u=> !decide (dq (aJ r) u (bk (aJ r) u)=dq (aJ (fV r h i t)) u (bk (aJ (fV r h i t)) u)))).length) 29 U U U mJ U U sm (a_ (es:=List.map iC [x]) 0 U U (by simp [bU]) U) (g_ _) os (by simp only [maxLen]; first|omega|(simp; omega)) (by rw [Cd hx (by simpa using H)]; simp) (by rw [Cd hx (by simpa using H)]; simp) U fun Al Ap=>?_
 try dsimp only
 refine aY 1 U<|ax<|aB<|KK b<|ag<|rP 1 [] mn ?_
 have AX:(dx ((aJ r).map (·.1))).length≤5:=by rw [fW,List.length_map]; exact F
 refine rP 1 [] mn ?_
 refine ax ?_
 have AT:(vI (((k+1):Nat):Int))=(vI ((k:Int)+1)):=by exact cI I
 refine aI (Y ⟨((k+1),Al,Ap),(by first|omega|(simp only []; omega))⟩ _ _ _ U (by first|omega|(dsimp only; omega)) (bY 5<|aO U AT<|cO.nil _) (aD [3,4,5,6,7,8,9,10,11,12,13,14,15,16,17,18,19,20,21,22,23,24,25,26,27,28,29]))
end
section
open Go.RowKit
theorem Ea (l:aW) (kA:OA) (kC:Nat) (az:List RA) (cA:OA) (cC:Nat) (bA:OA) (bC:Nat) (d:av) (sgA:OA) (sgC:Nat) (hin:ej l az) (hle:du l=0) (hsl:d.bW.ah.length≤1000000) (hk:d.Out=true):
 eA Tryz.prog 91 [(vA (bT.cells (kH l kA kC cA cC bA bC))),(vA (bp.cells (bp.mk d.Out d.dE d.Time (lv d.bW sgA sgC))))] [(rd kA l.aM.length 9 (l.aM.map al.cells)),(rd cA l.aj.length 2 (List.zipWith ao.cells l.aj az)),(eH (aU ao.gh l.aj az)),(rd bA l.ae.length 4 (l.ae.map bI.cells)),(rd sgA d.bW.ah.length 2 (d.bW.ah.map aK.cells))] (vT [(vA (ab.cells (oL l d))),(vB (decide (ia l d)))]):=by
 have K:=hin.rK
 have J:=hin.rD
 have H:=hin.mE
 have AA:=hin.ry
 refine bH kr Tryz.func91 U U fun O Q hQ hN=>?_
 try dsimp only
 refine WS fun _ B=>fm U fun L=>fm U fun M=>AL U dk fun N=>aY 1 U<|RK B<|ai fun _ E=>ar<|WS fun _ C=>rP 3 [] (mc 1 U mn) ?_
 refine RK C<|bE U (fun G=>?_) (fun G=>?_)
 ·exact absurd ((hk).symm.trans G) dc
 refine WS fun _ A=>rS (SX (bq (xs:=[]) (cs:=(ab.cells (ab.mk 0 0))) U U (br gK U)) U U)<|rP 4 [] (mc 1 U mn) ?_
 refine cv (t:=15) U (fun D=>?_) (fun D=>?_)
 ·rw [Bool.not_eq_false'] at D
  refine aY 10 U<|fq U cu U<|rP 1 [] mn ?_
  refine RK A<|an<|mo hQ [0] (mc 0 U mn) U ?_
  clear hQ hN A C E B
  rw [zJ hk]
  simp only [qq hk]
  refine congrArg (fun z=>Value.tuple #[_,vB z]) ?_
  first|rfl|(simp_all [fF]; done)
 rw [Bool.not_eq_true'] at D
 refine aY 1 U<|rS (LP (ab.cells d.Time) 1 U bX U U U)<|rS (SX (bq (xs:=[]) (cs:=(ab.cells (ab.mk 0 0))) U U (br gK U)) U U)<|rS (BI U (xh _ _ d.Time (ab.mk 0 0)))<|rP 2 [] mn ?_
 refine cv (t:=21) U (aQ fun F=>?_) (aP fun F=>?_)
 ·refine aY 4 U<|fq U cu U<|rP 1 [] mn ?_
  refine RK A<|an<|mo hQ [0] (mc 0 U mn) U ?_
  clear hQ hN A C E B
  rw [zJ hk]
  simp only [qq hk]
  refine congrArg (fun z=>Value.tuple #[_,vB z]) ?_
  first|rfl|(simp_all [fF]; done)
 refine aY 1 U<|rS (LP (ew.cells (lv d.bW sgA sgC)) 1 U bX U U U)<|rS (CL (FO d.bW sgA sgC) (aZ [7]) U)<|aY 1 U<|fq U cu U<|rP 1 [] mn ?_
 refine RK A<|an<|mo hQ [0] (mc 0 U mn) U ?_
 clear hQ hN A C E B
 rw [zJ hk]
 simp only [qq hk]
 refine congrArg (fun z=>Value.tuple #[_,vB z]) ?_
 first|rfl|(simp_all [fF]; done)
theorem C4 (l:aW) (kA:OA) (kC:Nat) (az:List RA) (cA:OA) (cC:Nat) (bA:OA) (bC:Nat) (d:av) (sgA:OA) (sgC:Nat) (hin:ej l az) (hle:du l=0) (hsl:d.bW.ah.length≤1000000) (hk:d.Out=false∧d.dE=true):
 eA Tryz.prog 91 [(vA (bT.cells (kH l kA kC cA cC bA bC))),(vA (bp.cells (bp.mk d.Out d.dE d.Time (lv d.bW sgA sgC))))] [(rd kA l.aM.length 9 (l.aM.map al.cells)),(rd cA l.aj.length 2 (List.zipWith ao.cells l.aj az)),(eH (aU ao.gh l.aj az)),(rd bA l.ae.length 4 (l.ae.map bI.cells)),(rd sgA d.bW.ah.length 2 (d.bW.ah.map aK.cells))] (vT [(vA (ab.cells (oL l d))),(vB (decide (ia l d)))]):=by
 have N:=hin.rK
 have M:=hin.rD
 have K:=hin.mE
 have L:=hin.ry
 refine bH kr Tryz.func91 U U fun S Q hQ hN=>?_
 try dsimp only
 refine WS fun _ D=>fm U fun O=>fm U fun P=>AL U dk fun R=>aY 1 U<|RK D<|ai fun _ H=>ar<|WS fun _ E=>rP 3 [] (mc 1 U mn) ?_
 refine RK E<|cK U (fun J=>?_) (fun J=>?_)
 ·exact absurd ((hk.1).symm.trans J) dc
 refine WS fun _ F=>rP 3 [] (mc 1 U mn) ?_
 refine RK F<|bE U (fun G=>?_) (fun G=>?_)
 ·exact absurd ((hk.2).symm.trans G) dc
 refine ai fun _ B=>dp cf [10] [] [] [1,2,3,4,5,6,7] [] U U U U U<|eS U (FA 2 U e_ U)<|eS U (LP (ab.cells d.Time) 0 U bX U U U)<|eS U (FA 2 U e_ U)<|eS U (LP (ab.cells d.Time) 0 U bX U U U)<|eS U (CL (EL d.Time) (aS) U)<|eS U (MV U)<|px (t:=34) U (fun A=>?_) (fun A=>?_)
 rotate_left 1
 ·replace A:=DF A
  refine eS U (OX U)<|eS U (OX U)<|eS U (OX U)<|eS U (PK U)<|eS U (AG U)<|eu U<|bS U fun T10 C=>fq U cu U<|ax (C _ _ (aD [1,2,3,4,5,6,7]) ?_)
  refine eY U<|KK B<|an<|mo hQ [0] (mc 0 U mn) U ?_
  clear hQ hN C T10 B F E H D
  rw [FB hk]
  simp only [vR hk]
  refine congrArg (fun z=>Value.tuple #[_,vB z]) ?_
  first|rfl|(simp_all; done)
 replace A:=DT A
 refine eS U (FA 4 U e_ U)<|eS U (LP (ew.cells (lv d.bW sgA sgC)) 0 U bX U U U)<|eS U (CL (FO d.bW sgA sgC) (aZ [6]) U)<|eS U (PK U)<|eS U (AG U)<|eu U<|bS U fun T9 AA=>fq U cu U<|ax (AA _ _ (aD [1,2,3,4,5,6,7]) ?_)
 refine eY U<|KK B<|an<|mo hQ [0] (mc 0 U mn) U ?_
 clear hQ hN AA T9 B F E H D
 rw [FB hk]
 simp only [vR hk]
 refine congrArg (fun z=>Value.tuple #[_,vB z]) ?_
 first|rfl|(simp_all; done)
theorem Dz (l:aW) (kA:OA) (kC:Nat) (az:List RA) (cA:OA) (cC:Nat) (bA:OA) (bC:Nat) (d:av) (sgA:OA) (sgC:Nat) (hin:ej l az) (hle:du l=0) (hsl:d.bW.ah.length≤1000000) (hk:d.Out=false∧d.dE=false):
 eA Tryz.prog 91 [(vA (bT.cells (kH l kA kC cA cC bA bC))),(vA (bp.cells (bp.mk d.Out d.dE d.Time (lv d.bW sgA sgC))))] [(rd kA l.aM.length 9 (l.aM.map al.cells)),(rd cA l.aj.length 2 (List.zipWith ao.cells l.aj az)),(eH (aU ao.gh l.aj az)),(rd bA l.ae.length 4 (l.ae.map bI.cells)),(rd sgA d.bW.ah.length 2 (d.bW.ah.map aK.cells))] (vT [(vA (ab.cells (oL l d))),(vB (decide (ia l d)))]):=by
 have O:=hin.rK
 have N:=hin.rD
 have L:=hin.mE
 have M:=hin.ry
 refine bH kr Tryz.func91 U U fun AA Q hQ hN=>?_
 try dsimp only
 refine WS fun _ E=>fm U fun P=>fm U fun R=>AL U dk fun S=>aY 1 U<|RK E<|ai fun _ F=>ar<|WS fun _ G=>rP 3 [] (mc 1 U mn) ?_
 refine RK G<|cK U (fun K=>?_) (fun K=>?_)
 ·exact absurd ((hk.1).symm.trans K) dc
 refine WS fun _ H=>rP 3 [] (mc 1 U mn) ?_
 refine RK H<|cK U (fun J=>?_) (fun J=>?_)
 ·exact absurd ((hk.2).symm.trans J) dc
 refine bM<|aB<|KK F<|WS fun _ AB=>e7 2 [] (mc 2 U mn) U<|rS (LP (ew.cells (lv d.bW sgA sgC)) 1 U bX U U U)<|rS (CL (Ox l kA kC az cA cC bA bC d.bW sgA sgC hin hsl) (aZ [3,4,5,6,7]) U)<|aY 3 U<|AL U dk fun T=>fq U cu U<|rP 1 [] mn ?_
 refine RK AB<|ai fun _ A=>dp cf [9] [] [] [0,2,3,4,5,6,7,8] [] U U U U U<|eS U (LW 0 U bX U U)<|eS U (MV U)<|eS U (BI U qp)<|eS U (MV U)<|px (t:=49) U (fun B=>?_) (fun B=>?_)
 rotate_left 1
 ·replace B:=DF B
  refine eS U (OX U)<|eS U (OX U)<|eS U (OX U)<|eS U (OX U)<|eS U (PK U)<|eS U (AG U)<|eu U<|bS U fun T12 D=>sK U cu U<|ax (D _ _ (aD [0,2,3,4,5,6,7,8]) ?_)
  refine eY U<|KK A<|an<|mo hQ [0] (mc 1 U mn) U ?_
  clear hQ hN D T12 A AB H G F E
  rw [E6 hk]
  simp only [xr hk]
  refine congrArg (fun z=>Value.tuple #[_,vB z]) ?_
  first|rfl|(simp_all [fF]; done)
 replace B:=DT B
 refine eS U (FA 2 U e_ U)<|eS U (LP (ab.cells d.Time) 1 U bX U U U)<|eS U (SX (bq (xs:=[]) (cs:=(ab.cells (ab.mk 0 0))) U U (br gK U)) U U)<|eS U (BI U (xh _ _ d.Time (ab.mk 0 0)))<|eS U (PK U)<|eS U (AG U)<|eu U<|bS U fun T11 C=>sK U cu U<|ax (C _ _ (aD [0,2,3,4,5,6,7,8]) ?_)
 refine eY U<|KK A<|an<|mo hQ [0] (mc 1 U mn) U ?_
 clear hQ hN C T11 A AB H G F E
 rw [E6 hk]
 simp only [xr hk]
 refine congrArg (fun z=>Value.tuple #[_,vB z]) ?_
 first|rfl|(simp_all [fF]; done)
theorem HA (l:aW) (kA:OA) (kC:Nat) (az:List RA) (cA:OA) (cC:Nat) (bA:OA) (bC:Nat) (d:av) (sgA:OA) (sgC:Nat) (hin:ej l az) (hle:du l=0) (hsl:d.bW.ah.length≤1000000):
 eA Tryz.prog 91 [(vA (bT.cells (kH l kA kC cA cC bA bC))),(vA (bp.cells (bp.mk d.Out d.dE d.Time (lv d.bW sgA sgC))))] [(rd kA l.aM.length 9 (l.aM.map al.cells)),(rd cA l.aj.length 2 (List.zipWith ao.cells l.aj az)),(eH (aU ao.gh l.aj az)),(rd bA l.ae.length 4 (l.ae.map bI.cells)),(rd sgA d.bW.ah.length 2 (d.bW.ah.map aK.cells))] (vT [(vA (ab.cells (oL l d))),(vB (decide (ia l d)))]):=by
 by_cases ho:d.Out=true
 ·exact Ea l kA kC az cA cC bA bC d sgA sgC hin hle hsl ho
 by_cases hf:d.dE=true
 ·exact C4 l kA kC az cA cC bA bC d sgA sgC hin hle hsl ⟨by simpa using ho,hf⟩
 ·exact Dz l kA kC az cA cC bA bC d sgA sgC hin hle hsl ⟨by simpa using ho,by simpa using hf⟩
end
section
open Go.RowKit
theorem DN (r:cr) (kA:OA) (kC:Nat) (az:List RA) (cA:OA) (cC:Nat) (bA:OA) (bC:Nat) (slA:OA) (slC:Nat) (drA:OA) (drC:Nat) (ha:List cD) (heA:OA) (heC:Nat) (hin:fw r az ha) (hle:du r.aA=0):
 lg Tryz.prog 68 [(vA (cj.cells (pZ r kA kC cA cC bA bC slA slC drA drC heA heC)))] [(rd kA r.aA.aM.length 9 (r.aA.aM.map al.cells)),(rd cA r.aA.aj.length 2 (List.zipWith ao.cells r.aA.aj az)),(eH (aU ao.gh r.aA.aj az)),(rd bA r.aA.ae.length 4 (r.aA.ae.map bI.cells)),(rd slA r.aH.length 1 (r.aH.map iC)),(rd drA r.cm.length 1 (r.cm.map iC)),(rd heA r.aq.length 1 (List.zipWith cz r.aq ha)),(eH (aU iA r.aq ha))] (fun (x:Bool×Int×(OA)×Nat×(List RA))=>bif x.1 then (vT [(vS x.2.2.1 ((bV r).length) x.2.2.2.1),(vB true)]) else (vT [(vS none 0 0),(vB false)])) (fun (x:Bool×Int×(OA)×Nat×(List RA))=>(x.1=true→(eJ r∧x.2.2.2.2.length=r.aq.length))∧(x.1=false→(x.2.1=0∧ ¬ eJ r))) (fun (x:Bool×Int×(OA)×Nat×(List RA))=>bif x.1 then [(own x.2.2.1 x.2.2.2.1 78 1 (List.zipWith rM (bV r) x.2.2.2.2)),(bB (aU Dd (bV r) x.2.2.2.2))] else []):=by
 have BO:=hin.line
 have BY:=hin.iR
 have BZ:=hin.has
 have BT:=hin.iK
 have BR:=hin.draw
 have BU:=dw (r:=r)
 refine db kr Tryz.func68 U U fun w0 Q hQ hN=>?_
 try dsimp only
 refine WS fun _ BE=>fm U fun b2=>aY 2 U<|RK BE<|WS fun _ BF=>e7 4 [] (mc 0 U mn) U<|RK BF<|ai fun _ BG=>WS fun _ N=>aY 1 U<|rS (CL (jO (r.aH.length:Int) 1 5) (aS) U)<|rP 2 [] mn ?_
 refine cE (t:=19) U (bg fun A6=>?_) (bh fun A6=>?_)
 ·refine aY 19 U<|RK N<|aL U<|WS fun _ BH=>rP 2 [] mn ?_
  refine RK BH<|an<|LX hQ (false,0,none,0,[]) [] [] mn U (by rfl) U U ?_
  (exact ⟨vE,fun _=>⟨rfl,fun q=>by have S:=q.num; have q2:=q.x5; have q3:=q.nh; have q4:=q.zU; omega⟩⟩)
 refine rP 7 [] (mc 0 U mn) ?_
 refine cE (t:=26) U (bg fun X=>?_) (bh fun X=>?_)
 ·refine aY 12 U<|RK N<|aL U<|WS fun _ BI=>rP 2 [] mn ?_
  refine RK BI<|an<|LX hQ (false,0,none,0,[]) [] [] mn U (by rfl) U U ?_
  (exact ⟨vE,fun _=>⟨rfl,fun q=>by have S:=q.num; have q2:=q.x5; have q3:=q.nh; have q4:=q.zU; omega⟩⟩)
 refine e7 2 [] (mc 0 U mn) U<|rS (CL (jO r.iN 0 5) (aS) U)<|rP 3 [] mn ?_
 refine cE (t:=32) U (bg fun A7=>?_) (bh fun A7=>?_)
 ·refine aY 6 U<|RK N<|aL U<|WS fun _ BJ=>rP 2 [] mn ?_
  refine RK BJ<|an<|LX hQ (false,0,none,0,[]) [] [] mn U (by rfl) U U ?_
  (exact ⟨vE,fun _=>⟨rfl,fun q=>by have S:=q.num; have q2:=q.x5; have q3:=q.nh; have q4:=q.zU; omega⟩⟩)
 refine e7 3 [] (mc 0 U mn) U<|rS (CL (jO (r.aq.length:Int) 1 3) (aS) U)<|rP 2 [] mn ?_
 refine RK N<|cK U (bg fun A9=>?_) (bh fun A9=>?_)
 ·refine WS fun _ BK=>rP 2 [] mn ?_
  refine RK BK<|an<|LX hQ (false,0,none,0,[]) [] [] mn U (by rfl) U U ?_
  (exact ⟨vE,fun _=>⟨rfl,fun q=>by have S:=q.num; have q2:=q.x5; have q3:=q.nh; have q4:=q.zU; omega⟩⟩)
 refine WK BG<|ai fun _ o=>WS fun _ p=>rP 1 [] mn ?_
 refine RK p<|ar ?_
 have A:(0≤r.aH.length)∧(xB r 0):=by exact ⟨Nat.zero_le _,H0⟩
 refine bx (ι:={z:Nat // (z≤r.aH.length)∧(xB r z)}) [1,4] [0,1,2,3,4,5,6,7,8] U U (fun z=>[(5,(vI (z.1:Int)))]) (fun z=>[]) (fun _=>rfl) (fun _=>rfl) (fun z=>r.aH.length-z.1) ⟨0,A⟩ (aN U) (aD [0,1,2,3,4,5,6,7,8]) ?_
 clear A
 rintro ⟨i,⟨BN,Az⟩⟩ J12 T
 try dsimp only
 refine ai fun _ s=>WS fun _ v=>rP 3 [] mn ?_
 refine RK v<|bE U (aQ fun A5=>?_) (aP fun A5=>?_)
 ·refine bj<|aa<|aa<|au<|KK o<|WS fun _ AR=>aY 1 U<|RK AR<|ai fun _ AS=>WS fun _ AT=>rP 1 [] mn ?_
  refine RK AT<|ar<|eP 78 1<|kW ?_
  have A:(0≤r.aq.length)∧(([]:List RA).length=0)∧(jh r 0):=by exact ⟨Nat.zero_le _,rfl,xE⟩
  refine bx (ι:={z:Nat×(List RA)×(OA)×Nat // (z.1≤r.aq.length)∧(z.2.1.length=z.1)∧(jh r z.1)}) [1,4] [2,3,4,5,6,7,8,9,10] U U (fun z=>[(7,(vS z.1.2.2.1 ((List.zipWith Cm (fY r z.1.1) z.1.2.1).length) z.1.2.2.2)),(8,(vI (z.1.1:Int)))]) (fun z=>[(bB (aU Dd (fY r z.1.1) z.1.2.1)),(own z.1.2.2.1 z.1.2.2.2 78 1 (List.map sC (List.zipWith Cm (fY r z.1.1) z.1.2.1)))]) (fun _=>rfl) (fun _=>rfl) (fun z=>r.aq.length-z.1.1) ⟨(0,([]:List RA),none,0),A⟩ (aN U) (aD [2,3,4,5,6,7,8,9,10,0,1]) ?_
  clear A
  rintro ⟨⟨h,tz,a,c⟩,⟨P,C,F⟩⟩ J46 l
  try dsimp only at P C F
  try dsimp only
  refine ai fun _ AU=>WS fun _ AW=>rP 5 [] (mc 0 U mn) ?_
  refine RK AW<|bE U (aQ fun A_=>?_) (aP fun A_=>?_)
  ·refine bj<|aa<|aa<|au<|KK AS<|ai fun _ Al=>?_
   have BM:fY r h=bV r:=by unfold bV; rw [show h=r.aq.length by omega]
   have BP:tz.length=r.aq.length:=by omega
   rw [BM,yw,show (List.zipWith Cm (bV r) tz).length=(bV r).length from by rw [List.length_zipWith]; omega]
   have Aw:eJ r:=F4 (n:=i) I I I I I Az F I
   refine ag<|rP 3 [] mn ?_
   refine RK Al<|an ?_
   refine LX hQ (true,0,a,c,tz) [10,9] [] mn U (by (show List.all _ _=true; simp only [cond_true,dY,List.all_nil,Dm,Bool.and_true]; rfl)) U U ?_
   exact ⟨fun _=>⟨Aw,BP⟩,Lw⟩
  refine WK AU<|ai fun _ AX=>ar<|ai fun _ AY=>WS fun _ AZ=>rP 3 [] (mc 0 U mn) ?_
  obtain ⟨ht,D⟩:=aG r.aq h I
  obtain ⟨E,H⟩:=aG ha h I
  have W:(List.zipWith cz r.aq ha)[h]? =some (cz ht E):=cH D H
  refine rS (IA h U (ay 7 U) lk dc I I) ?_
  have Av:=hin.my _ _ _ D H
  have BS:=Av.mE
  refine rS (fI h 0 (vS E.1.1 ht.length E.1.2) U bX (ay 7 U) W U dc U)<|rP 3 [] mn ?_
  refine RK AZ<|cK U (bg fun e=>?_) (bh fun e=>?_)
  ·refine WS fun _ Aa=>rP 2 [] mn ?_
   refine RK Aa<|an<|LX hQ (false,0,none,0,[]) [] [] mn U (by rfl) U U ?_
   (exact ⟨vE,fun _=>⟨rfl,fun q=>by have S:=(q.my ht (aR D)).1; omega⟩⟩)
  refine WK AY<|WS fun _ Ab=>aY 1 U<|RK Ab<|ai fun _ Ac=>WS fun _ Ad=>rP 1 [] mn ?_
  refine RK Ad<|ar<|eP 47 2 ?_
  have A:(0≤ht.length)∧(oe r.aA ht 0):=by exact ⟨Nat.zero_le _,u0⟩
  refine bx (ι:={z:Nat×(OA)×Nat // (z.1≤ht.length)∧(oe r.aA ht z.1)}) [1,4,7,8] [1,2,3,4,5,6,7,8,9,10,11] U U (fun z=>[(9,(vS z.1.2.1 (((ht.take z.1.1).map (fB r.aA)).length) z.1.2.2)),(10,(vI (z.1.1:Int)))]) (fun z=>[(own z.1.2.1 z.1.2.2 47 2 (((ht.take z.1.1).map (fB r.aA)).map ab.cells))]) (fun _=>rfl) (fun _=>rfl) (fun z=>ht.length-z.1.1) ⟨(0,none,0),A⟩ (aN U) (aD [1,2,3,4,5,6,7,8,9,10,11,0]) ?_
  clear A
  rintro ⟨⟨j,la,lc⟩,⟨R,G⟩⟩ J57 m
  try dsimp only at R G
  try dsimp only
  refine ai fun _ Ae=>WS fun _ Af=>rP 3 [] mn ?_
  refine RK Af<|bE U (aQ fun BC=>?_) (aP fun BC=>?_)
  ·refine bj<|aa<|aa<|au<|KK Ac<|ag ?_
   rw [show ((ht.take j).map (fB r.aA))=ht.map (fB r.aA) from by rw [List.take_of_length_le I]]
   refine rP 2 [] mn ?_
   refine eX (xs:=[.tmp 137]) (cs:=[(vS la ((ht.map (fB r.aA)).length) lc)]) U zD Qy U U U U (by simp [Value.cells]) U U fun BX=>?_
   refine cp (es2:=(List.map sC (List.zipWith Cm (fY r (h+1)) (tz++[(la,lc)])))) (m':=(List.zipWith Cm (fY r (h+1)) (tz++[(la,lc)])).length) 11 U U U O4 U U sm (a_ (es:=List.map sC [(bf.mk la ((ht.map (fB r.aA)).length) lc)]) 0 U U (by simp [zg]) U) (HS _) (by rw [List.length_zipWith,kD I]; omega) (by rw [List.length_zipWith,kD I]; simp only [maxLen]; omega) (by rw [s9 D C,List.map_append]; rfl) (by rw [s9 D C]; simp) U fun A2 A4=>?_
   try dsimp only
   refine aY 1 U<|ax<|aB<|KK AX<|ag<|rP 3 [] mn ?_
   refine ax<|zn (X':=aU Dd (fY r (h+1)) (tz++[(la,lc)])) 10 12 U U (Cc (a:=(la,lc)) D C) ?_
   have At:(vI (((h+1):Nat):Int))=(vI ((h:Int)+1)):=by exact cI I
   refine aI (l ⟨((h+1),(tz++[(la,lc)]),A2,A4),⟨I,by simp; omega,wg F D (EY I G I)⟩⟩ _ _ _ U os (bY 3<|aO U At<|cO.nil _) (aD [2,3,4,5,6,7,8,9,10,0,11]))
  refine WK Ae<|ai fun _ Ag=>ar<|ai fun _ Ah=>dp cf [14,15] [] [] [0,1,2,3,4,5,6,7,8,9,10,11] [] U U U U U<|eS U (FA 0 U e_ U)<|eS U (LP (bT.cells (kH r.aA kA kC cA cC bA bC)) 0 U bX U U U)<|eS U (FA 10 U e_ U)<|eS U (L1 (vS heA r.aq.length heC) 0 U bX U U)<|eS U (MV U)<|eS U (IA h U (ay 7 U) lk dc I I)<|eS U (fI h 0 (vS E.1.1 ht.length E.1.2) U bX (ay 7 U) W U dc U)<|eS U (MV U) ?_
  obtain ⟨d,hd⟩:=aG ht j I
  obtain ⟨da,Au⟩:=aG E.2 j I
  have BL:(List.zipWith av.cells ht E.2)[j]? =some (av.cells d da):=cH hd Au
  refine eS U (IA j U (show gI _ (rd E.1.1 ht.length 7 (List.zipWith av.cells ht E.2)).holds from (b_ 8 U (bu D H bZ))) rI dc I I)<|eS U (l4 j 0 (bp.cells (bp.mk d.Out d.dE d.Time (ew.mk d.bW.Start d.bW.fK (bf.mk da.1 d.bW.ah.length da.2)))) U bX (show gI _ (rd E.1.1 ht.length 7 (List.zipWith av.cells ht E.2)).holds from (b_ 8 U (bu D H bZ))) BL U dc U U) ?_
  have Ba:=Av.sig d (aR hd)
  refine eS U (CL (HA r.aA kA kC az cA cC bA bC d da.1 da.2 asm hle asm) (nt [1,2,3,4]<|aC (show gI _ (rd da.1 d.bW.ah.length 2 (d.bW.ah.map aK.cells)).holds from (b_ 8 U (bu D H (cW _ (bu hd Au (by simp [av.gh]))))))<|aS) U)<|eS U (MV U)<|eS U (EX U)<|eS U (EX U)<|eS U (AG U)<|eu U<|bS U fun T63 Am=>AL U dk fun BV=>ax (Am _ _ (aD [1,2,3,4,5,6,7,8,9,10,11,12]) ?_)
  refine bS U fun T65 An=>fq U cu U<|ax (An _ _ (aD [1,2,3,4,5,6,7,8,9,10,11,12]) ?_)
  refine eY U<|KK Ah<|ai fun _ Ai=>WS fun _ Aj=>rP 2 [] mn ?_
  refine RK Aj<|cK U (bg fun J=>?_) (bh fun J=>?_)
  ·refine WS fun _ Ak=>rP 2 [] mn ?_
   refine RK Ak<|an<|LX hQ (false,0,none,0,[]) [] [] mn U (by rfl) U U ?_
   (exact ⟨vE,fun _=>⟨rfl,fun q=>by exact J ((q.my ht (aR D)).2 d (aR hd))⟩⟩)
  refine WK Ai<|ag<|rP 2 [] (mc 0 U mn) ?_
  refine eX (xs:=[.tmp 133]) (cs:=(ab.cells (oL r.aA d))) U mM dk U U U U (by simp [Value.cells,ab.bw]) U U fun BW=>?_
  refine cp (es2:=(List.map ab.cells ((ht.take (j+1)).map (fB r.aA)))) (m':=((ht.take (j+1)).map (fB r.aA)).length) 13 U U U K1 U U sm (a_ (es:=List.map ab.cells [(oL r.aA d)]) 0 U U (by simp [ab.bw]) U) (jl _) (by simp only [List.length_map,List.length_take]; omega) (by simp only [maxLen,List.length_map,List.length_take]; omega) (by rw [List.take_add_one,hd]; simp [Jo J]) sq U fun A1 A3=>?_
  try dsimp only
  refine aY 1 U<|ax<|aB<|KK Ag<|ag<|rP 3 [] mn ?_
  refine ax ?_
  have As:(vI (((j+1):Nat):Int))=(vI ((j:Int)+1)):=by exact cI I
  refine aI (m ⟨((j+1),A1,A3),⟨I,u3 G hd J⟩⟩ _ _ _ U os (bY 5<|aO U As<|cO.nil _) (aD [2,3,4,5,6,7,8,9,10,11,12,13]))
 refine WK s<|ai fun _ Ay=>ar<|ai fun _ V=>ai fun _ K=>cS cf 36 kr<|dP 3 [] (mc 0 U mn) ?_
 obtain ⟨y,hy⟩:=aG r.aH i I
 have Ax:=bG iC hy
 refine dS (IA i U (ay 5 U) di dc I I)<|dS (fI i 0 (vI y) U bX (ay 5 U) Ax U dc U)<|dS (CL (jO y 0 9999) (aS) U)<|dP 2 [] mn ?_
 refine iO (t:=51) U (bg fun BA=>?_) (bh fun BA=>?_)
 ·refine lq 28 U<|cy<|RK K<|aL U<|WS fun _ w=>rP 2 [] mn ?_
  refine RK w<|an<|LX hQ (false,0,none,0,[]) [] [] mn U (by rfl) U U ?_
  (exact ⟨vE,fun _=>⟨rfl,fun q=>by have S:=(q.ids i y hy).1; omega⟩⟩)
 refine dP 3 [] mn ?_
 refine j2 (t:=54) U (aQ fun BB=>?_) (aP fun BB=>?_)
 ·refine dP 18 [] (mc 0 U mn) ?_
  obtain ⟨x,hx⟩:=aG r.cm i I
  have M:=bG iC hx
  refine dS (IA i U (ay 6 U) di dc I I)<|dS (fI i 0 (vI x) U bX (ay 6 U) M U dc U)<|lq 2 U<|dS (CL (jO x 0 ((r.aH.length:Int)-1)) (aS) U)<|dP 2 [] mn ?_
  refine cy<|RK K<|cK U (bg fun Y=>?_) (bh fun Y=>?_)
  ·refine WS fun _ AJ=>rP 2 [] mn ?_
   refine RK AJ<|an<|LX hQ (false,0,none,0,[]) [] [] mn U (by rfl) U U ?_
   (exact ⟨vE,fun _=>⟨rfl,fun q=>by have S:=q.Kf hx; omega⟩⟩)
  refine WK V<|WS fun _ AK=>rP 1 [] mn ?_
  refine RK AK<|ar ?_
  have A:(0≤i)∧(∀ (q:Nat) y,q<0→r.cm[q]? =some y→y≠x):=by exact ⟨Nat.zero_le _,fun q y hq=>absurd hq (Nat.not_lt_zero _)⟩
  refine bx (ι:={z:Nat // (z≤i)∧(∀ (q:Nat) y,q<z→r.cm[q]? =some y→y≠x)}) [1,4,5] [0,1,2,3,4,5,6,7,8] U U (fun z=>[(6,(vI (z.1:Int)))]) (fun z=>[]) (fun _=>rfl) (fun _=>rfl) (fun z=>i-z.1) ⟨0,A⟩ (aN U) (aD [0,1,2,3,4,5,6,7,8]) ?_
  clear A
  rintro ⟨k,⟨O,B⟩⟩ J34 g
  try dsimp only
  refine ai fun _ AM=>WS fun _ AN=>rP 3 [] mn ?_
  refine RK AN<|bE U (aQ fun A8=>?_) (aP fun A8=>?_)
  ·refine bj<|aa<|aa<|au<|aB<|KK Ay<|ag<|rP 3 [] mn ?_
   refine ax ?_
   have Ar:(vI (((i+1):Nat):Int))=(vI ((i:Int)+1)):=by exact cI I
   refine aI (T ⟨(i+1),⟨I,AV Az (fun a ha=>by rw [hy] at ha; cases ha; exact ⟨I,fun b hb hc=>by omega⟩) (fun a ha=>by rw [hx] at ha; cases ha; exact ⟨I,fun k b hk hb=>B k b I hb⟩)⟩⟩ _ _ _ rfl os (cO.cons rfl<|cO.cons rfl<|aO rfl Ar<|cO.nil _) (aD [0,1,2,3,4,5,6,7,8]))
  refine WK AM<|ai fun _ AO=>ar<|ai fun _ AP=>cS cf 11 kr<|dP 3 [] (mc 0 U mn) ?_
  obtain ⟨u,hu⟩:=aG r.cm k I
  have Z:=bG iC hu
  refine dS (IA k U (ay 6 U) di dc I I)<|dS (fI k 0 (vI u) U bX (ay 6 U) Z U dc U)<|l0 3 [] (mc 0 U mn) U<|dS (IA i U (ay 6 U) di dc I I)<|dS (fI i 0 (vI x) U bX (ay 6 U) M U dc U)<|dP 1 [] mn ?_
  refine cy<|RK AP<|bE U (aQ fun L=>?_) (aP fun L=>?_)
  ·refine bM<|aB<|KK AO<|ag<|rP 3 [] mn ?_
   refine ax ?_
   have Aq:(vI (((k+1):Nat):Int))=(vI ((k:Int)+1)):=by exact cI I
   refine aI (g ⟨(k+1),⟨I,xO B hu L⟩⟩ _ _ _ U os (bY 3<|aO U Aq<|cO.nil _) (aD [0,1,2,3,4,5,6,7,8]))
  refine WS fun _ AQ=>rP 2 [] mn ?_
  refine RK AQ<|an<|LX hQ (false,0,none,0,[]) [] [] mn U (by rfl) U U ?_
  (exact ⟨vE,fun _=>⟨rfl,fun q=>by have S:=q.num; have q2:=q.x5; have q3:=q.nh; have q4:=q.zU; omega⟩⟩)
 refine l0 3 [] (mc 0 U mn) U<|dS (IA i U (ay 5 U) di dc I I)<|dS (fI i 0 (vI y) U bX (ay 5 U) Ax U dc U)<|dP 4 [] (mc 0 U mn) ?_
 obtain ⟨z,hz⟩:=aG r.aH (i-1) I
 have BQ:=bG iC hz
 refine dS (IA (i-1) U (ay 5 U) di dc I I)<|dS (fI (i-1) 0 (vI z) U bX (ay 5 U) BQ U dc U)<|dP 4 [] mn ?_
 refine iO (t:=69) U (aP fun BD=>?_) (aQ fun BD=>?_)
 ·refine lq 10 U<|cy<|RK K<|aL U<|WS fun _ AA=>rP 2 [] mn ?_
  refine RK AA<|an<|LX hQ (false,0,none,0,[]) [] [] mn U (by rfl) U U ?_
  (exact ⟨vE,fun _=>⟨rfl,fun q=>by have S:=(q.ids i y hy).2 z I hz; omega⟩⟩)
 refine dP 3 [] (mc 0 U mn) ?_
 obtain ⟨x,hx⟩:=aG r.cm i I
 have M:=bG iC hx
 refine dS (IA i U (ay 6 U) di dc I I)<|dS (fI i 0 (vI x) U bX (ay 6 U) M U dc U)<|lq 2 U<|dS (CL (jO x 0 ((r.aH.length:Int)-1)) (aS) U)<|dP 2 [] mn ?_
 refine cy<|RK K<|cK U (bg fun Y=>?_) (bh fun Y=>?_)
 ·refine WS fun _ AB=>rP 2 [] mn ?_
  refine RK AB<|an<|LX hQ (false,0,none,0,[]) [] [] mn U (by rfl) U U ?_
  (exact ⟨vE,fun _=>⟨rfl,fun q=>by have S:=q.Kf hx; omega⟩⟩)
 refine WK V<|WS fun _ AC=>rP 1 [] mn ?_
 refine RK AC<|ar ?_
 have A:(0≤i)∧(∀ (q:Nat) y,q<0→r.cm[q]? =some y→y≠x):=by exact ⟨Nat.zero_le _,fun q y hq=>absurd hq (Nat.not_lt_zero _)⟩
 refine bx (ι:={z:Nat // (z≤i)∧(∀ (q:Nat) y,q<z→r.cm[q]? =some y→y≠x)}) [1,4,5] [0,1,2,3,4,5,6,7,8] U U (fun z=>[(6,(vI (z.1:Int)))]) (fun z=>[]) (fun _=>rfl) (fun _=>rfl) (fun z=>i-z.1) ⟨0,A⟩ (aN U) (aD [0,1,2,3,4,5,6,7,8]) ?_
 clear A
 rintro ⟨k,⟨O,B⟩⟩ J23 f
 try dsimp only
 refine ai fun _ AD=>WS fun _ AE=>rP 3 [] mn ?_
 refine RK AE<|bE U (aQ fun X=>?_) (aP fun X=>?_)
 ·refine bj<|aa<|aa<|au<|aB<|KK Ay<|ag<|rP 3 [] mn ?_
  refine ax ?_
  have Ap:(vI (((i+1):Nat):Int))=(vI ((i:Int)+1)):=by exact cI I
  refine aI (T ⟨(i+1),⟨I,AV Az (fun a ha=>by rw [hy] at ha; cases ha; exact ⟨I,fun b hb hc=>by (rw [hz] at hc; cases hc; omega)⟩) (fun a ha=>by rw [hx] at ha; cases ha; exact ⟨I,fun k b hk hb=>B k b I hb⟩)⟩⟩ _ _ _ rfl os (cO.cons rfl<|cO.cons rfl<|aO rfl Ap<|cO.nil _) (aD [0,1,2,3,4,5,6,7,8]))
 refine WK AD<|ai fun _ AF=>ar<|ai fun _ AH=>cS cf 11 kr<|dP 3 [] (mc 0 U mn) ?_
 obtain ⟨u,hu⟩:=aG r.cm k I
 have Z:=bG iC hu
 refine dS (IA k U (ay 6 U) di dc I I)<|dS (fI k 0 (vI u) U bX (ay 6 U) Z U dc U)<|l0 3 [] (mc 0 U mn) U<|dS (IA i U (ay 6 U) di dc I I)<|dS (fI i 0 (vI x) U bX (ay 6 U) M U dc U)<|dP 1 [] mn ?_
 refine cy<|RK AH<|bE U (aQ fun L=>?_) (aP fun L=>?_)
 ·refine bM<|aB<|KK AF<|ag<|rP 3 [] mn ?_
  refine ax ?_
  have Ao:(vI (((k+1):Nat):Int))=(vI ((k:Int)+1)):=by exact cI I
  refine aI (f ⟨(k+1),⟨I,xO B hu L⟩⟩ _ _ _ U os (bY 3<|aO U Ao<|cO.nil _) (aD [0,1,2,3,4,5,6,7,8]))
 refine WS fun _ AI=>rP 2 [] mn ?_
 refine RK AI<|an<|LX hQ (false,0,none,0,[]) [] [] mn U (by rfl) U U ?_
 (exact ⟨vE,fun _=>⟨rfl,fun q=>by exact q.PN I hu hx L⟩⟩)
end
section
open Go.RowKit
theorem tS (r:cr) (kA:OA) (kC:Nat) (az:List RA) (cA:OA) (cC:Nat) (bA:OA) (bC:Nat) (slA:OA) (slC:Nat) (drA:OA) (drC:Nat) (ha:List cD) (heA:OA) (heC:Nat) (hin:fw r az ha):
 lg Tryz.prog 34 [(vA (cj.cells (pZ r kA kC cA cC bA bC slA slC drA drC heA heC)))] [(rd kA r.aA.aM.length 9 (r.aA.aM.map al.cells)),(rd cA r.aA.aj.length 2 (List.zipWith ao.cells r.aA.aj az)),(eH (aU ao.gh r.aA.aj az)),(rd bA r.aA.ae.length 4 (r.aA.ae.map bI.cells)),(rd slA r.aH.length 1 (r.aH.map iC)),(rd drA r.cm.length 1 (r.cm.map iC)),(rd heA r.aq.length 1 (List.zipWith cz r.aq ha)),(eH (aU iA r.aq ha))] (fun (x:Bool×Int×(OA)×Nat×(List RA))=>bif x.1 then (vT [(vS x.2.2.1 ((bV r).length) x.2.2.2.1),(vI 0)]) else (vT [(vS none 0 0),(vI x.2.1)])) (fun (x:Bool×Int×(OA)×Nat×(List RA))=>(x.1=true→(gr r=0∧x.2.2.2.2.length=r.aq.length))∧(x.1=false→(x.2.1=gr r∧ ¬ gr r=0))) (fun (x:Bool×Int×(OA)×Nat×(List RA))=>bif x.1 then [(own x.2.2.1 x.2.2.2.1 78 1 (List.zipWith rM (bV r) x.2.2.2.2)),(bB (aU Dd (bV r) x.2.2.2.2))] else []):=by
 have AA:=hin.line
 have b:=hin.iR
 have c:=hin.has
 have Z:=hin.iK
 have Y:=hin.draw
 have a:=dw (r:=r)
 refine db kr Tryz.func34 U U fun f Q hQ hN=>?_
 try dsimp only
 refine WS fun _ O=>fm U fun e=>aY 2 U<|RK O<|ai fun _ P=>WS fun _ R=>aY 1 U<|rS (LP (bT.cells (kH r.aA kA kC cA cC bA bC)) 0 U bX U U U)<|rS (CL (An r.aA kA kC az cA cC bA bC asm) (aZ [1,2,3,4]) U)<|aY 1 U<|RK R<|WS fun _ S=>rP 2 [] mn ?_
 refine RK S<|cK U (bg fun A=>?_) (bh fun A=>?_)
 ·refine WS fun _ T=>rP 3 [] mn ?_
  refine RK T<|an<|LX hQ (false,(du r.aA),none,0,[]) [] [] mn U (by rfl) U U ?_
  exact vj<|HE (yd A) A
 refine WK P<|WS fun _ G=>rP 1 [] (mc 0 U mn) ?_
 refine cX (DN r kA kC az cA cC bA bC slA slC drA drC ha heA heC hin (by exact A)) (aZ [1,2,3,4,5,6,7,8]) U fun d J=>?_
 obtain ⟨K,W,L,M,N⟩:=d
 cases K
 rotate_left 1
 ·obtain ⟨AB,V⟩:=J.1 rfl
  try dsimp only [cond_true,cond_false,List.cons_append,List.nil_append]
  refine aY 5 U<|RK G<|ai fun _ D=>WS fun _ E=>aY 2 U<|RK E<|aX U<|WK D<|WS fun _ F=>rP 3 [] mn ?_
  refine RK F<|an ?_
  refine LX hQ (true,0,L,M,N) [0,1] [] mn U (by (show List.all _ _=true; simp only [cond_true,dY,List.all_nil,Dm,Bool.and_true]; rfl)) U U ?_
  exact ⟨fun _=>⟨B0 A AB,V⟩,Lw⟩
 obtain ⟨H,he⟩:=J.2 rfl
 try dsimp only at H he
 subst H
 try dsimp only [cond_true,cond_false,List.cons_append,List.nil_append]
 refine aY 5 U<|RK G<|ai fun _ X=>WS fun _ B=>aY 2 U<|RK B<|aL U<|WS fun _ C=>rP 2 [] mn ?_
 refine RK C<|an<|LX hQ (false,60,none,0,[]) [] [] mn U (by rfl) U U ?_
 exact vj<|od (ko A he)
end
section
open Go.RowKit
theorem Nc (r:cr) (kA:OA) (kC:Nat) (az:List RA) (cA:OA) (cC:Nat) (bA:OA) (bC:Nat) (slA:OA) (slC:Nat) (drA:OA) (drC:Nat) (ha:List cD) (heA:OA) (heC:Nat) (i:Int) (hin:fw r az ha):
 eA Tryz.prog 35 [(vA (cj.cells (pZ r kA kC cA cC bA bC slA slC drA drC heA heC))),(vI i)] [(rd kA r.aA.aM.length 9 (r.aA.aM.map al.cells)),(rd cA r.aA.aj.length 2 (List.zipWith ao.cells r.aA.aj az)),(eH (aU ao.gh r.aA.aj az)),(rd bA r.aA.ae.length 4 (r.aA.ae.map bI.cells)),(rd slA r.aH.length 1 (r.aH.map iC)),(rd drA r.cm.length 1 (r.cm.map iC)),(rd heA r.aq.length 1 (List.zipWith cz r.aq ha)),(eH (aU iA r.aq ha))] (vB (decide (0≤i∧i≤(r.aH.length:Int)-1))):=by
 have C:=hin.line
 have G:=hin.iR
 have H:=hin.has
 have E:=hin.iK
 have D:=hin.draw
 have F:=dw (r:=r)
 refine bH kr Tryz.func35 U U fun J Q hQ hN=>?_
 try dsimp only
 refine WS fun _ A=>fm U fun AA=>aY 1 U<|RK A<|WS fun _ B=>e7 5 [] (mc 0 U mn) U<|rS (CL (jO i 0 ((r.aH.length:Int)-1)) (aS) U)<|rP 1 [] mn ?_
 refine RK B<|an ?_
 exact Q1 hQ U U U U
theorem O1 (r:cr) (kA:OA) (kC:Nat) (az:List RA) (cA:OA) (cC:Nat) (bA:OA) (bC:Nat) (slA:OA) (slC:Nat) (drA:OA) (drC:Nat) (ha:List cD) (heA:OA) (heC:Nat) (tz:List RA) (tA:OA) (tC:Nat) (n i:Int) (hin:fw r az ha) (htz:tz.length=r.aq.length) (hn:0≤n∧n≤(r.aq.length:Int)) (hir:0≤i∧i≤(r.aH.length:Int)-1) (hok:jh r r.aq.length):
 eA Tryz.prog 46 [(vA (cj.cells (pZ r kA kC cA cC bA bC slA slC drA drC heA heC))),(vS tA ((bV r).length) tC),(vI n),(vI i)] [(rd kA r.aA.aM.length 9 (r.aA.aM.map al.cells)),(rd cA r.aA.aj.length 2 (List.zipWith ao.cells r.aA.aj az)),(eH (aU ao.gh r.aA.aj az)),(rd bA r.aA.ae.length 4 (r.aA.ae.map bI.cells)),(rd slA r.aH.length 1 (r.aH.map iC)),(rd drA r.cm.length 1 (r.cm.map iC)),(rd heA r.aq.length 1 (List.zipWith cz r.aq ha)),(eH (aU iA r.aq ha)),(rd tA ((bV r).length) 1 (List.zipWith rM (bV r) tz)),(eH (aU yC (bV r) tz))] (vT [(vA (ab.cells ((dK r.aA r.aq (i).toNat (n).toNat).getD fF))),(vB ((dK r.aA r.aq (i).toNat (n).toNat).isSome))]):=by
 have m:=hin.line
 have y:=hin.iR
 have AA:=hin.has
 have u:=hin.iK
 have q:=hin.draw
 have v:=dw (r:=r)
 refine bH kr Tryz.func46 U U fun w0 Q hQ hN=>?_
 try dsimp only
 refine WS fun _ Z=>fm U fun b2=>AL U dk fun b3=>aY 1 U<|RK Z<|WS fun _ a=>AL U dk fun p=>RK a<|ai fun _ b=>WS fun _ c=>rP 1 [] mn ?_
 refine RK c<|ar ?_
 have F:((0:Int)≤n)∧((dK r.aA r.aq (i).toNat 0)=some (ab.mk 0 0)):=by exact ⟨I,rfl⟩
 refine bx (ι:={z:Nat×ab // ((z.1:Int)≤n)∧((dK r.aA r.aq (i).toNat z.1)=some z.2)}) [1,2,3,4,8,10] [1,2,3,4,5,6,7,8,9,10,11,12] U U (fun z=>[(11,(vI (z.1.1:Int)))]) (fun z=>[(cq p 47 (ab.cells z.1.2))]) (fun _=>rfl) (fun _=>rfl) (fun z=>n.toNat-z.1.1) ⟨(0,(ab.mk 0 0)),F⟩ (aN U) (aD [1,2,3,4,5,6,7,8,9,10,11,12,0]) ?_
 clear F
 rintro ⟨⟨h,s⟩,⟨J,hl3_1⟩⟩ J8 Y
 try dsimp only at J hl3_1
 try dsimp only
 refine ai fun _ f=>WS fun _ K=>rP 3 [] mn ?_
 refine RK K<|bE U (aQ fun X=>?_) (aP fun X=>?_)
 ·refine bj<|aa<|aa<|au<|KK b<|WS fun _ P=>e7 1 [] (mc 12 U mn) U<|fq U cu U<|rP 1 [] mn ?_
  refine RK P<|an<|mo hQ [0] (mc 0 U mn) U ?_
  ((have e:dK r.aA r.aq (i).toNat (n).toNat=some s:=by rw [show n.toNat=h by omega]; exact hl3_1); (rw [e]; first|done|rfl))
 refine WK f<|ai fun _ L=>ar<|ai fun _ M=>WS fun _ N=>rP 3 [] (mc 1 U mn) ?_
 obtain ⟨ht,C⟩:=aG r.aq h I
 obtain ⟨A,D⟩:=aG ha h I
 have S:(List.zipWith cz r.aq ha)[h]? =some (cz ht A):=cH C D
 refine rS (IA h U (ay 8 U) lk dc I I) ?_
 have l:=hin.my _ _ _ C D
 have t:=l.mE
 have T:=hok h ht I C
 have AC:=T.1
 refine rS (fI h 0 (vS A.1.1 ht.length A.1.2) U bX (ay 8 U) S U dc U)<|rP 1 [] mn ?_
 obtain ⟨d,hd⟩:=aG ht ((i).toNat) I
 obtain ⟨da,g⟩:=aG A.2 ((i).toNat) I
 have k:(List.zipWith av.cells ht A.2)[(i).toNat]? =some (av.cells d da):=cH hd g
 refine rS (IA ((i).toNat) U (show gI _ (rd A.1.1 ht.length 7 (List.zipWith av.cells ht A.2)).holds from (b_ 9 U (bu C D bZ))) rI dc I I)<|rS (nP (((i).toNat)*7) U (show gI _ (rd A.1.1 ht.length 7 (List.zipWith av.cells ht A.2)).holds from (b_ 9 U (bu C D bZ))) (Nat.mul_pos I dc) e_ U)<|rS (fI ((i).toNat) 0 (vB d.Out) U bX (show gI _ (rd A.1.1 ht.length 7 (List.zipWith av.cells ht A.2)).holds from (b_ 9 U (bu C D bZ))) k U dc U)<|RK N<|cK U (fun AD=>?_) (fun AD=>?_)
 ·refine WS fun _ O=>rS (SX (bq (xs:=[]) (cs:=(ab.cells (ab.mk 0 0))) U U (br gK U)) U U)<|fq U cu U<|rP 1 [] mn ?_
  refine RK O<|an<|mo hQ [0] (mc 0 U mn) U ?_
  (have e:dK r.aA r.aq (i).toNat (n).toNat=none:=w7 (yR C hd AD) I; rw [e]; first|done|rfl)
 refine WK M<|cS cf 25 kr<|dP 4 [] (mc 12 U mn) ?_
 obtain ⟨tr,E⟩:=aG (bV r) h I
 obtain ⟨tra,B⟩:=aG tz h I
 have H:(List.zipWith rM (bV r) tz)[h]? =some (rM tr tra):=cH E B
 refine dS (IA h U (ay 10 U) zD dc I I) ?_
 have G:=rj C E
 have w:tr.length=r.aH.length:=by rw [G,List.length_map]; exact AC
 have AB:=vw (fun j x hj hx=>hok j x I hx) I hl3_1
 refine dS (fI h 0 (vS tra.1 tr.length tra.2) U bX (ay 10 U) H U dc U)<|dP 1 [] mn ?_
 obtain ⟨x,hx⟩:=aG tr ((i).toNat) I
 have W:=bG ab.cells hx
 refine dS (IA ((i).toNat) U (show gI _ (rd tra.1 tr.length 2 (tr.map ab.cells)).holds from (b_ 11 U (bu E B (by simp [yC])))) mM dc I I) ?_
 have V:=Kx G hx hd
 have o:=Ag (T.2 d (aR hd))
 rw [← V] at o
 refine dS (nP (((i).toNat)*2) U (show gI _ (rd tra.1 tr.length 2 (tr.map ab.cells)).holds from (b_ 11 U (bu E B (by simp [yC])))) (Nat.mul_pos I dc) e_ U)<|dS (fI ((i).toNat) 0 (vI x.Lo) U bX (show gI _ (rd tra.1 tr.length 2 (tr.map ab.cells)).holds from (b_ 11 U (bu E B (by simp [yC])))) W U dc U)<|dS (BI U (qk I I I))<|l0 5 [] (mc 12 U mn) U<|dS (IA h U (ay 10 U) zD dc I I)<|dS (fI h 0 (vS tra.1 tr.length tra.2) U bX (ay 10 U) H U dc U)<|lq 1 U<|dS (IA ((i).toNat) U (show gI _ (rd tra.1 tr.length 2 (tr.map ab.cells)).holds from (b_ 11 U (bu E B (by simp [yC])))) mM dc I I)<|dS (nP ((((i).toNat)*2)+1) U (show gI _ (rd tra.1 tr.length 2 (tr.map ab.cells)).holds from (b_ 11 U (bu E B (by simp [yC])))) (Nat.mul_pos I dc) e_ U)<|dS (fI ((i).toNat) 1 (vI x.Hi) U bX (show gI _ (rd tra.1 tr.length 2 (tr.map ab.cells)).holds from (b_ 11 U (bu E B (by simp [yC])))) W U dc U)<|dS (BI U (qk I I I))<|lq 1 U<|dS (SX (bq (xs:=[(0,.tmp 38),(1,.tmp 50)]) (cs:=(ab.cells (ab.mk (s.Lo+(x.Lo/10)) (s.Hi+(x.Hi/10))))) U U (br gK U)) U U)<|cy<|iB (vs:=(ab.cells (ab.mk (s.Lo+(x.Lo/10)) (s.Hi+(x.Hi/10))))) (cs':=(ab.cells (ab.mk (s.Lo+(x.Lo/10)) (s.Hi+(x.Hi/10))))) (C':=[_,_,_,_,_,_,_,_,_,_,_,_,(cq p 47 (ab.cells (ab.mk (s.Lo+(x.Lo/10)) (s.Hi+(x.Hi/10)))))]) 12 U U U cu U U U U U U U<|ax<|aB<|KK L<|ag<|rP 3 [] mn ?_
 refine ax ?_
 have R:(vI (((h+1):Nat):Int))=(vI ((h:Int)+1)):=by exact cI I
 refine aI (Y ⟨((h+1),(ab.mk (s.Lo+(x.Lo/10)) (s.Hi+(x.Hi/10)))),⟨I,by rw [V]; exact vU C hd (by rw [AD]; decide) hl3_1⟩⟩ _ _ _ U os (bY 6<|aO U R<|cO.nil _) (aD [0,1,2,3,4,5,6,7,8,9,10,11,12]))
end
section
open Go.RowKit
theorem CN (r:cr) (kA:OA) (kC:Nat) (az:List RA) (cA:OA) (cC:Nat) (bA:OA) (bC:Nat) (slA:OA) (slC:Nat) (drA:OA) (drC:Nat) (ha:List cD) (heA:OA) (heC:Nat) (tz:List RA) (tA:OA) (tC:Nat) (hin:fw r az ha) (htz:tz.length=r.aq.length) (hok:jh r r.aq.length):
 lg Tryz.prog 36 [(vA (cj.cells (pZ r kA kC cA cC bA bC slA slC drA drC heA heC))),(vS tA ((bV r).length) tC)] [(rd kA r.aA.aM.length 9 (r.aA.aM.map al.cells)),(rd cA r.aA.aj.length 2 (List.zipWith ao.cells r.aA.aj az)),(eH (aU ao.gh r.aA.aj az)),(rd bA r.aA.ae.length 4 (r.aA.ae.map bI.cells)),(rd slA r.aH.length 1 (r.aH.map iC)),(rd drA r.cm.length 1 (r.cm.map iC)),(rd heA r.aq.length 1 (List.zipWith cz r.aq ha)),(eH (aU iA r.aq ha)),(rd tA ((bV r).length) 1 (List.zipWith rM (bV r) tz)),(eH (aU yC (bV r) tz))] (fun (x:Nat)=>(Value.map (some x))) (fun (x:Nat)=>True) (fun (x:Nat)=>[(hU iV x (bQ dB (aJ r)))]):=by
 have V:=hin.line
 have b:=hin.iR
 have c:=hin.has
 have X:=hin.iK
 have W:=hin.draw
 have Y:=dw (r:=r)
 refine db kr Tryz.func36 U U fun e Q hQ hN=>?_
 try dsimp only
 refine WS fun _ N=>fm U fun d=>rP 1 [] mn ?_
 refine RK N<|WS fun _ O=>nA (kV:=iV) U U fun L=>?_
 try dsimp only
 refine aY 1 U<|RK O<|ai fun _ P=>WS fun _ R=>rP 1 [] mn ?_
 refine RK R<|ar ?_
 skip
 have A:(0≤r.aH.length):=by exact Nat.zero_le _
 refine bx (ι:={z:Nat // (z≤r.aH.length)}) [1,2,5] [1,2,3,4,5,6,7,8,9,10,11] U U (fun z=>[(6,(vI (z.1:Int)))]) (fun z=>[(hU iV L (bQ dB (fT r z.1)))]) (fun _=>rfl) (fun _=>rfl) (fun z=>r.aH.length-z.1) ⟨0,A⟩ (aN U) (aD [1,2,3,4,5,6,7,8,9,10,11,0]) ?_
 clear A
 rintro ⟨k,AA⟩ J7 D
 try dsimp only
 refine ai fun _ S=>WS fun _ T=>rP 5 [] (mc 0 U mn) ?_
 refine RK T<|bE U (aQ fun M=>?_) (aP fun M=>?_)
 ·refine bj<|aa<|aa<|au<|KK P<|ai fun _ G=>?_
  rw [show fT r k=aJ r from by rw [← lM,show k=r.aH.length by omega]]
  refine ag<|rP 2 [] mn ?_
  refine RK G<|an<|LX hQ L [11] [] mn U U U U ?_
  trivial
 refine WK S<|ai fun _ C=>ar<|WS fun _ E=>e7 6 [] (mc 0 U mn) U<|rS (CL (O1 r kA kC az cA cC bA bC slA slC drA drC ha heA heC tz tA tC (r.aq.length:Int) (k:Int) hin htz I I hok) (aZ [1,2,3,4,5,6,7,8,9,10]) U)<|aY 3 U<|AL U dk fun a=>fq U cu U<|aY 1 U<|RK E<|WS fun _ F=>rP 1 [] mn ?_
 refine RK F<|bE U (fun B=>?_) (fun B=>?_)
 ·refine bM<|aB<|KK C<|ag<|rP 3 [] mn ?_
  refine ax ?_
  rw [show fT r k=fT r (k+1) from (Cy (Option.not_isSome_iff_eq_none.1 (by simp only [Int.toNat_natCast] at B; rw [B]; decide))).symm]
  have J:(vI (((k+1):Nat):Int))=(vI ((k:Int)+1)):=by exact cI I
  refine aI (D ⟨(k+1),(by first|omega|(simp only []; omega))⟩ _ _ _ U os (bY 3<|aO U J<|cO.nil _) (aD [1,2,3,4,5,6,7,8,9,10,11,12]))
 refine ag ?_
 obtain ⟨Z,K⟩:=Option.isSome_iff_exists.1 B
 rw [show ((dK r.aA r.aq ((k:Int)).toNat ((r.aq.length:Int)).toNat).getD fF)=Z from by rw [K]; rfl]
 refine rP 3 [] (mc 0 U mn) ?_
 have H:(er (fT r k) (k:Int) Z)=(fT r (k+1)):=by exact GR (by simpa only [Int.toNat_natCast] using K)
 refine jw (kV:=iV) (x:=(k:Int)) (C':=[_,_,_,_,_,_,_,_,_,_,_,_,(hU iV L (bQ dB (fT r (k+1))))]) 12 U U U U lH (dG mF) U ((gT _ _ _ _).symm.trans (congrArg _ H)) U<|ax<|aB<|KK C<|ag<|rP 3 [] mn ?_
 refine ax ?_
 have AB:(vI (((k+1):Nat):Int))=(vI ((k:Int)+1)):=by exact cI I
 refine aI (D ⟨(k+1),(by first|omega|(simp only []; omega))⟩ _ _ _ U os (bY 3<|aO U AB<|cO.nil _) (aD [1,2,3,4,5,6,7,8,9,10,11,12]))
end
section
open Go.RowKit
theorem Jj (r:cr) (kA:OA) (kC:Nat) (az:List RA) (cA:OA) (cC:Nat) (bA:OA) (bC:Nat) (slA:OA) (slC:Nat) (drA:OA) (drC:Nat) (ha:List cD) (heA:OA) (heC:Nat) (hin:fw r az ha):
 lg Tryz.prog 25 [(vA (cj.cells (pZ r kA kC cA cC bA bC slA slC drA drC heA heC)))] [(rd kA r.aA.aM.length 9 (r.aA.aM.map al.cells)),(rd cA r.aA.aj.length 2 (List.zipWith ao.cells r.aA.aj az)),(eH (aU ao.gh r.aA.aj az)),(rd bA r.aA.ae.length 4 (r.aA.ae.map bI.cells)),(rd slA r.aH.length 1 (r.aH.map iC)),(rd drA r.cm.length 1 (r.cm.map iC)),(rd heA r.aq.length 1 (List.zipWith cz r.aq ha)),(eH (aU iA r.aq ha))] (fun (x:(List RA)×(OA)×Nat)=>(vT [(vS x.2.1 ((fu r).length) x.2.2),(vI (gr r))])) (fun (x:(List RA)×(OA)×Nat)=>x.1.length=(fu r).length) (fun (x:(List RA)×(OA)×Nat)=>[(own x.2.1 x.2.2 29 1 (List.zipWith qd (fu r) x.1)),(bB (aU zQ (fu r) x.1))]):=by
 have BV:=hin.line
 have Bu:=hin.iR
 have Bv:=hin.has
 have Bi:=hin.iK
 have Bg:=hin.draw
 have BH:=dw (r:=r)
 refine db kr Tryz.func25 U U fun w0 Q hQ hN=>?_
 try dsimp only
 refine WS fun _ BS=>fm U fun b2=>aY 2 U<|RK BS<|WS fun _ Ah=>rP 1 [] (mc 0 U mn) ?_
 refine cX (tS r kA kC az cA cC bA bC slA slC drA drC ha heA heC hin) (aZ [1,2,3,4,5,6,7,8]) U fun y4 BJ=>?_
 obtain ⟨BK,Br,BY,BZ,Ba⟩:=y4
 cases BK
 ·obtain ⟨BG,he⟩:=BJ.2 rfl
  try dsimp only at BG he
  subst BG
  try dsimp only [cond_true,cond_false,List.cons_append,List.nil_append]
  refine aY 5 U<|RK Ah<|ai fun _ Bd=>WS fun _ AV=>rP 2 [] mn ?_
  refine RK AV<|bE U (bh fun AR=>?_) (bg fun AR=>?_)
  ·exact absurd AR he
  refine WS fun _ AW=>rP 1 [] mn ?_
  have j:fu r=[]:=xx he
  have AN:([]:List RA).length=(fu r).length:=by rw [j]; rfl
  refine fg 29 1<|wm ?_
  rw [show (own none 0 29 1 ([]:List (List Value)))=own none 0 29 1 (List.zipWith qd (fu r) []) from by rw [j]; rfl,show bB []=bB (aU zQ (fu r) []) from by rw [j]; rfl]
  refine rP 2 [] mn ?_
  refine RK AW<|an ?_
  refine LX hQ ([],none,0) [1,0] [] mn U (by show List.all _ _=true; simp only [dY,List.all_nil,z7,Bool.and_true]; rfl) U ?_ ?_
  ·first|rfl|(rw [j]; rfl)|(rw [he]; rfl)
  ·exact AN
 obtain ⟨he,BI⟩:=BJ.1 rfl
 try dsimp only [cond_true,cond_false,List.cons_append,List.nil_append]
 try dsimp only at BI
 have AJ:=(iy he).2
 have AE:=pR he
 have Bh:=nH he
 have Bx:=AJ.num
 refine aY 5 U<|RK Ah<|ai fun _ AX=>WS fun _ AY=>aY 1 U<|rS (SX (cM (r:= .bool false) U U U rQ) U U)<|RK AY<|aX U<|WK AX<|WS fun _ AZ=>rP 2 [] (mc 2 U mn) ?_
 refine cX (CN r kA kC az cA cC bA bC slA slC drA drC ha heA heC Ba BY BZ hin sd (by exact AJ.tI)) (nt [3,4,5,6,7,8,9,10]<|aC (ak (n:=(bV r).length) 0 U (j3 (by rw [BH]; exact BI)))<|aC (eN 1 U xA)<|aS) U fun Bc Bj=>?_
 try dsimp only
 refine aY 1 U<|RK AZ<|WS fun _ Aa=>rP 3 [] (mc 3 U mn) ?_
 refine sP (n:=r.aH.length) (es:=(List.map hZ (List.replicate r.aH.length false))) U U U K3 I I (by simp only [maxLen]; omega) (by rw [List.map_replicate]; rfl) U fun AG=>?_
 try dsimp only
 refine aY 1 U<|RK Aa<|WS fun _ Ab=>rP 1 [] mn ?_
 refine RK Ab<|ar<|eP 29 1<|kW ?_
 have E:(([]:List RA).length=([]:List (List Int)).length)∧(F0 (aJ r) r.aH.length ([]:List (List Int)) (List.replicate r.aH.length false))∧(([]:List (List Int)).length+mG (List.replicate r.aH.length false)≤r.aH.length):=by exact ⟨rfl,Hg,by rw [yr]; simp⟩
 refine bx (ι:={z:(List (List Int))×(List RA)×(List Bool)×(OA)×Nat // (z.2.1.length=z.1.length)∧(F0 (aJ r) r.aH.length z.1 z.2.2.1)∧(z.1.length+mG z.2.2.1≤r.aH.length)}) [1,6,7] [3,4,5,6,7,8,9,10,11,12,13,14] U U (fun z=>[(8,(vS z.1.2.2.2.1 z.1.1.length z.1.2.2.2.2))]) (fun z=>[(bB (aU zQ z.1.1 z.1.2.1)),(own z.1.2.2.2.1 z.1.2.2.2.2 29 1 (List.zipWith qd z.1.1 z.1.2.1)),(own (some ⟨AG,0,none⟩) r.aH.length 4 1 (z.1.2.2.1.map hZ))]) (fun _=>rfl) (fun _=>rfl) (fun z=>mG z.1.2.2.1) ⟨(([]:List (List Int)),([]:List RA),(List.replicate r.aH.length false),none,0),E⟩ (aN U) (aD [3,4,5,6,7,8,9,10,11,12,13,14,0,1,2]) ?_
 clear E
 rintro ⟨⟨GG,gz,D,a,c⟩,⟨d,Bb,AO⟩⟩ J23 AS
 try dsimp only at d Bb AO
 try dsimp only
 have Bt:=Bb.len
 refine ar<|WS fun _ Ac=>aY 1 U<|RK Ac<|ai fun _ Ad=>WS fun _ Ae=>rP 1 [] mn ?_
 refine RK Ae<|ar ?_
 have E:(0≤r.aH.length)∧(nK (aJ r) D 0 (-1)):=by exact ⟨Nat.zero_le _,B4⟩
 refine bx (ι:={z:Nat×Int // (z.1≤r.aH.length)∧(nK (aJ r) D z.1 z.2)}) [1,6,7,8] [0,1,2,3,4,5,6,7,8,9,10,11,12,13,14] U U (fun z=>[(9,(vI z.1.2)),(10,(vI (z.1.1:Int)))]) (fun z=>[]) (fun _=>rfl) (fun _=>rfl) (fun z=>r.aH.length-z.1.1) ⟨(0,(-1)),E⟩ (aN U) (aD [0,1,2,3,4,5,6,7,8,9,10,11,12,13,14]) ?_
 clear E
 rintro ⟨⟨i,firstX⟩,⟨AP,A⟩⟩ J27 V
 try dsimp only at AP A
 try dsimp only
 refine ai fun _ Af=>WS fun _ Ag=>rP 4 [] mn ?_
 refine RK Ag<|cK U (aP fun BP=>?_) (aQ fun BP=>?_)
 ·refine WK Af<|ai fun _ X=>ar<|WS fun _ Ai=>aY 2 U<|rS (SX (jd (kV:=iV) (x:=(i:Int)) (l:=(aJ r)) (f:=dB) (z:=(ab.mk 0 0)) U U U lH (dG mF) si (by exact ay 0 U)) U U)<|aY 3 U<|AL U dk fun Bm=>fq U cu U<|rP 1 [] mn ?_
  refine RK Ai<|WS fun _ w=>?_
  rw [show ((List.lookup (i:Int) (aJ r)).getD (ab.mk 0 0))=(bk (aJ r) (i:Int)) from rfl]
  refine rP 2 [] mn ?_
  refine cv (t:=50) U (fun G=>?_) (fun G=>?_)
  ·refine aY 10 U<|aY 9 U<|RK w<|aX U<|bM<|aB<|KK X<|ag<|rP 3 [] mn ?_
   refine ax ?_
   have A7:(vI (((i+1):Nat):Int))=(vI ((i:Int)+1)):=by exact cI I
   refine aI (V ⟨((i+1),firstX),⟨I,(by first|exact jt A (pn G)|exact jt A (kS (H.trans (congrArg some F)))|exact iw A ⟨G,H.trans (congrArg some F)⟩ (.inl S)|exact iw A ⟨G,H.trans (congrArg some F)⟩ (.inr T)|exact mm A S T)⟩⟩ _ _ _ U os (bY 5<|aO U A7<|cO.nil _) (aD [1,2,3,4,5,6,7,8,9,10,11,12,13,14,15]))
  refine rP 2 [] mn ?_
  obtain ⟨b1,H⟩:=aG D i I
  have hb1m:=bG hZ H
  refine rS (IA i U (ak (n:=r.aH.length) 15 U sq) uT dc I I) ?_
  refine rS (fI i 0 (vB b1) U bX (ak (n:=D.length) 15 U sm) hb1m U dc U)<|rP 3 [] mn ?_
  refine cv (t:=57) U (fun F=>?_) (fun F=>?_)
  ·rw [Bool.not_eq_false'] at F
   refine aY 3 U<|aY 9 U<|RK w<|aX U<|bM<|aB<|KK X<|ag<|rP 3 [] mn ?_
   refine ax ?_
   have A6:(vI (((i+1):Nat):Int))=(vI ((i:Int)+1)):=by exact cI I
   refine aI (V ⟨((i+1),firstX),⟨I,(by first|exact jt A (pn G)|exact jt A (kS (H.trans (congrArg some F)))|exact iw A ⟨G,H.trans (congrArg some F)⟩ (.inl S)|exact iw A ⟨G,H.trans (congrArg some F)⟩ (.inr T)|exact mm A S T)⟩⟩ _ _ _ U os (bY 5<|aO U A6<|cO.nil _) (aD [1,2,3,4,5,6,7,8,9,10,11,12,13,14,15]))
  rw [Bool.not_eq_true'] at F
  refine rP 3 [] mn ?_
  refine cE (t:=60) U (aP fun S=>?_) (aQ fun S=>?_)
  ·refine aY 9 U<|RK w<|aL U<|ag<|aY 2 U<|ax<|aB<|KK X<|ag<|rP 3 [] mn ?_
   refine ax ?_
   have A3:(vI (((i+1):Nat):Int))=(vI ((i:Int)+1)):=by exact cI I
   refine aI (V ⟨((i+1),(i:Int)),⟨I,(by first|exact jt A (pn G)|exact jt A (kS (H.trans (congrArg some F)))|exact iw A ⟨G,H.trans (congrArg some F)⟩ (.inl S)|exact iw A ⟨G,H.trans (congrArg some F)⟩ (.inr T)|exact mm A S T)⟩⟩ _ _ _ U os (bY 5<|aO U A3<|cO.nil _) (aD [1,2,3,4,5,6,7,8,9,10,11,12,13,14,15]))
  have BU:=gN (i:=(i:Int)) AE
  refine e7 4 [] (mc 0 U mn) U<|rS (SX (iU (kV:=iV) (x:=firstX) (l:=(aJ r)) (f:=dB) (z:=(ab.mk 0 0)) U U U lH (dG mF) si (by exact ay 1 U)) U U)<|rS (SX (j7 (v:=(vI (((List.lookup firstX (aJ r)).getD (ab.mk 0 0)).Lo))) U U e_ uc U) U U)<|rP 3 [] mn ?_
  refine RK w<|bE U (aQ fun T=>?_) (aP fun T=>?_)
  ·refine bM<|aB<|KK X<|ag<|rP 3 [] mn ?_
   refine ax ?_
   have A5:(vI (((i+1):Nat):Int))=(vI ((i:Int)+1)):=by exact cI I
   refine aI (V ⟨((i+1),firstX),⟨I,(by first|exact jt A (pn G)|exact jt A (kS (H.trans (congrArg some F)))|exact iw A ⟨G,H.trans (congrArg some F)⟩ (.inl S)|exact iw A ⟨G,H.trans (congrArg some F)⟩ (.inr T)|exact mm A S T)⟩⟩ _ _ _ U os (bY 5<|aO U A5<|cO.nil _) (aD [1,2,3,4,5,6,7,8,9,10,11,12,13,14,15]))
  refine ag<|aY 2 U<|ax<|aB<|KK X<|ag<|rP 3 [] mn ?_
  refine ax ?_
  have A4:(vI (((i+1):Nat):Int))=(vI ((i:Int)+1)):=by exact cI I
  refine aI (V ⟨((i+1),(i:Int)),⟨I,(by first|exact jt A (pn G)|exact jt A (kS (H.trans (congrArg some F)))|exact iw A ⟨G,H.trans (congrArg some F)⟩ (.inl S)|exact iw A ⟨G,H.trans (congrArg some F)⟩ (.inr T)|exact mm A S T)⟩⟩ _ _ _ U os (bY 5<|aO U A4<|cO.nil _) (aD [1,2,3,4,5,6,7,8,9,10,11,12,13,14,15]))
 refine bj<|aa<|aa<|au<|KK Ad<|ai fun _ Aj=>WS fun _ Ak=>rP 2 [] mn ?_
 refine RK Ak<|cK U (aP fun AK=>?_) (aQ fun AK=>?_)
 ·refine WS fun _ Al=>rP 1 [] mn ?_
  have j:GG=fu r:=JG he Bb (fun q hq=>Bw A AK q I)
  subst j
  have AN:=d
  refine rP 2 [] mn ?_
  refine RK Al<|an ?_
  refine LX hQ (gz,a,c) [13,12] [] mn U (by show List.all _ _=true; simp only [dY,List.all_nil,z7,Bool.and_true]; rfl) U ?_ ?_
  ·first|rfl|(rw [j]; rfl)|(rw [he]; rfl)
  ·exact AN
 refine WK Aj<|ai fun _ Am=>?_
 obtain ⟨p,rfl,BX,Z⟩:=AU A AK (by have:=Bb.len; omega)
 have BW:=gN (i:=(p:Int)) AE
 refine ag<|rP 2 [] mn ?_
 refine rS (SX (iU (kV:=iV) (x:=(p:Int)) (l:=(aJ r)) (f:=dB) (z:=(ab.mk 0 0)) U U U lH (dG mF) si (by exact ay 0 U)) U U)<|rS (SX (j7 (v:=(vI (((List.lookup (p:Int) (aJ r)).getD (ab.mk 0 0)).Hi))) U U e_ Ds U) U U) ?_
 rw [show ((List.lookup (p:Int) (aJ r)).getD (ab.mk 0 0)).Hi=(bk (aJ r) (p:Int)).Hi from rfl]
 refine aY 1 U<|RK Am<|ai fun _ An=>WS fun _ Ao=>rP 1 [] mn ?_
 refine RK Ao<|ar ?_
 have E:(sZ (aJ r) D p D ((bk (aJ r) (p:Int)).Hi))∧(true=false→ ∀ q:Nat,q<r.aH.length→sJ (aJ r) D q→((bk (aJ r) (p:Int)).Hi)<(mx (aJ r) q).Lo)∧(((bk (aJ r) (p:Int)).Hi)≤30000000):=by exact ⟨C_,fun q=>Bool.noConfusion q,BW.2.2⟩
 refine bx (ι:={z:(List Bool)×Int×Bool // (sZ (aJ r) D p z.1 z.2.1)∧(z.2.2=false→ ∀ q:Nat,q<r.aH.length→sJ (aJ r) z.1 q→z.2.1<(mx (aJ r) q).Lo)∧(z.2.1≤30000000)}) [1,6,7,8,9] [0,1,2,3,4,5,6,7,8,9,10,11,12,13] U U (fun z=>[(13,(vI z.1.2.1)),(14,(vB z.1.2.2))]) (fun z=>[(own (some ⟨AG,0,none⟩) r.aH.length 4 1 (z.1.1.map hZ))]) (fun _=>rfl) (fun _=>rfl) (fun z=>2*mG z.1.1+z.1.2.2.toNat) ⟨(D,(bk (aJ r) (p:Int)).Hi,true),E⟩ (aN U) (aD [0,1,2,3,4,5,6,7,8,9,10,11,12,13,14]) ?_
 clear E
 rintro ⟨⟨D1,hi,more⟩,⟨K,AB,AC⟩⟩ J46 AT
 try dsimp only at K AB AC
 try dsimp only
 have Be:=K.len
 have By:=K.top
 refine ai fun _ Ap=>WS fun _ Aq=>rP 1 [] mn ?_
 refine RK Aq<|cK U (fun AM=>?_) (fun AM=>?_)
 ·refine WK Ap<|ar<|WS fun _ Ar=>aY 1 U<|RK Ar<|WS fun _ As=>rP 1 [] mn ?_
  refine RK As<|ar ?_
  have E:(0≤r.aH.length)∧(sZ (aJ r) D p D1 hi)∧(nX (aJ r) D1 hi 0 D1 hi false)∧(hi≤30000000):=by exact ⟨Nat.zero_le _,K,D_,AC⟩
  refine bx (ι:={z:Nat×(List Bool)×Int×Bool // (z.1≤r.aH.length)∧(sZ (aJ r) D p z.2.1 z.2.2.1)∧(nX (aJ r) D1 hi z.1 z.2.1 z.2.2.1 z.2.2.2)∧(z.2.2.1≤30000000)}) [1,6,7,8,9] [0,1,2,3,4,5,6,7,8,9,10,11,12,13] U U (fun z=>[(13,(vI z.1.2.2.1)),(14,(vB z.1.2.2.2)),(15,(vI (z.1.1:Int)))]) (fun z=>[(own (some ⟨AG,0,none⟩) r.aH.length 4 1 (z.1.2.1.map hZ))]) (fun _=>rfl) (fun _=>rfl) (fun z=>r.aH.length-z.1.1) ⟨(0,D1,hi,false),E⟩ (aN U) (aD [0,1,2,3,4,5,6,7,8,9,10,11,12,13,14]) ?_
  clear E
  rintro ⟨⟨i,D2,hj,mr⟩,⟨AH,C,B,AD⟩⟩ J51 s
  try dsimp only at AH C B AD
  try dsimp only
  have Bf:=C.len
  have Bz:=C.top
  refine ai fun _ At=>WS fun _ Au=>rP 4 [] mn ?_
  refine RK Au<|bE U (aQ fun BQ=>?_) (aP fun BQ=>?_)
  ·refine bj<|aa<|aa<|au<|aB ?_
   refine aI (AT ⟨(D2,hj,mr),⟨C,GH B I,AD⟩⟩ _ _ _ U (by have h_:=DS B; dsimp only; rw [AM]; exact h_) (aN U) (aD [0,1,2,3,4,5,6,7,8,9,10,11,12,13,14]))
  refine WK At<|ai fun _ y=>ar<|WS fun _ Av=>aY 2 U<|rS (SX (jd (kV:=iV) (x:=(i:Int)) (l:=(aJ r)) (f:=dB) (z:=(ab.mk 0 0)) U U U lH (dG mF) si (by exact ay 0 U)) U U)<|aY 3 U<|AL U dk fun Bn=>fq U cu U<|rP 1 [] mn ?_
  refine RK Av<|WS fun _ AF=>?_
  rw [show ((List.lookup (i:Int) (aJ r)).getD (ab.mk 0 0))=(bk (aJ r) (i:Int)) from rfl]
  refine rP 2 [] mn ?_
  refine cv (t:=92) U (fun L=>?_) (fun L=>?_)
  ·refine aY 7 U<|aY 5 U<|RK AF<|aX U<|bM<|aB<|KK y<|ag<|rP 3 [] mn ?_
   refine ax ?_
   have BA:(vI (((i+1):Nat):Int))=(vI ((i:Int)+1)):=by exact cI I
   refine aI (s ⟨((i+1),D2,hj,mr),⟨I,by first|exact pQ Z C ⟨L,M.trans (congrArg some Bk)⟩ J|exact C,by first|exact q8 B ⟨L,M.trans (congrArg some Bk)⟩|exact gQ B (fun u=>pn L u.1)|exact gQ B (fun u=>kS (M.trans (congrArg some Bk)) u.1)|exact gQ B (fun u=>J u.2),by first|(dsimp only; omega)|omega⟩⟩ _ _ _ U os (bY 7<|aO U BA<|cO.nil _) (aD [1,2,3,4,5,6,7,8,9,10,11,12,13,14,15]))
  refine rP 2 [] mn ?_
  obtain ⟨b2,M⟩:=aG D2 i I
  have hb2m:=bG hZ M
  refine rS (IA i U (ak (n:=r.aH.length) 15 U sq) uT dc I I) ?_
  refine rS (fI i 0 (vB b2) U bX (ak (n:=D2.length) 15 U sm) hb2m U dc U)<|rP 3 [] mn ?_
  refine cv (t:=99) U (fun Bk=>?_) (fun Bk=>?_)
  ·rw [Bool.not_eq_false'] at Bk
   refine aY 5 U<|RK AF<|aX U<|bM<|aB<|KK y<|ag<|rP 3 [] mn ?_
   refine ax ?_
   have A_:(vI (((i+1):Nat):Int))=(vI ((i:Int)+1)):=by exact cI I
   refine aI (s ⟨((i+1),D2,hj,mr),⟨I,by first|exact pQ Z C ⟨L,M.trans (congrArg some Bk)⟩ J|exact C,by first|exact q8 B ⟨L,M.trans (congrArg some Bk)⟩|exact gQ B (fun u=>pn L u.1)|exact gQ B (fun u=>kS (M.trans (congrArg some Bk)) u.1)|exact gQ B (fun u=>J u.2),by first|(dsimp only; omega)|omega⟩⟩ _ _ _ U os (bY 7<|aO U A_<|cO.nil _) (aD [1,2,3,4,5,6,7,8,9,10,11,12,13,14,15]))
  rw [Bool.not_eq_true'] at Bk
  have BU:=gN (i:=(i:Int)) AE
  refine rP 5 [] (mc 0 U mn) ?_
  refine RK AF<|bE U (aQ fun J=>?_) (aP fun J=>?_)
  ·refine bM<|aB<|KK y<|ag<|rP 3 [] mn ?_
   refine ax ?_
   have A9:(vI (((i+1):Nat):Int))=(vI ((i:Int)+1)):=by exact cI I
   refine aI (s ⟨((i+1),D2,hj,mr),⟨I,by first|exact pQ Z C ⟨L,M.trans (congrArg some Bk)⟩ J|exact C,by first|exact q8 B ⟨L,M.trans (congrArg some Bk)⟩|exact gQ B (fun u=>pn L u.1)|exact gQ B (fun u=>kS (M.trans (congrArg some Bk)) u.1)|exact gQ B (fun u=>J u.2),by first|(dsimp only; omega)|omega⟩⟩ _ _ _ U os (bY 7<|aO U A9<|cO.nil _) (aD [1,2,3,4,5,6,7,8,9,10,11,12,13,14,15]))
  refine WS fun _ Aw=>rP 2 [] mn ?_
  refine rS (IA i U (ak (n:=r.aH.length) 15 U sq) uT dc I I) ?_
  refine c_ (k:=i) (o:=0) (vs:=[(vB true)]) (es':=(List.map hZ (D2.set i true))) (C':=[_,_,_,_,_,_,_,_,_,_,_,_,_,_,_,(own (some ⟨AG,0,none⟩) r.aH.length 4 1 (List.map hZ (D2.set i true)))]) 15 U U U Ua U U U U hb2m U dc (by exact (List.map_set (f:=hZ) (l:=D2) (i:=i) (a:=true)).symm) U<|aY 1 U<|RK Aw<|ag<|e7 3 [] (mc 0 U mn) U<|rS (MX U)<|aY 1 U<|ax<|aB<|KK y<|ag<|rP 3 [] mn ?_
  refine ax ?_
  have A8:(vI (((i+1):Nat):Int))=(vI ((i:Int)+1)):=by exact cI I
  refine aI (s ⟨((i+1),(D2.set i true),(max hj ((bk (aJ r) (i:Int)).Hi)),true),⟨I,by first|exact pQ Z C ⟨L,M.trans (congrArg some Bk)⟩ J|exact C,by first|exact q8 B ⟨L,M.trans (congrArg some Bk)⟩|exact gQ B (fun u=>pn L u.1)|exact gQ B (fun u=>kS (M.trans (congrArg some Bk)) u.1)|exact gQ B (fun u=>J u.2),by first|(dsimp only; omega)|omega⟩⟩ _ _ _ U os (bY 7<|aO U A8<|cO.nil _) (aD [1,2,3,4,5,6,7,8,9,10,11,12,13,14,15]))
 refine bj<|aa<|aa<|au<|KK An<|WS fun _ Ax=>aY 1 U<|RK Ax<|ai fun _ Ay=>WS fun _ Az=>rP 1 [] mn ?_
 refine RK Az<|ar<|eP 3 1 ?_
 have E:(0≤r.aH.length):=by exact Nat.zero_le _
 refine bx (ι:={z:Nat×(OA)×Nat // (z.1≤r.aH.length)}) [1,6,7,8,9,13] [1,2,3,4,5,6,7,8,9,10,11,12,13,14,15] U U (fun z=>[(18,(vS z.1.2.1 ((gD (aJ r) D1 p hi z.1.1).length) z.1.2.2)),(19,(vI (z.1.1:Int)))]) (fun z=>[(own z.1.2.1 z.1.2.2 3 1 ((gD (aJ r) D1 p hi z.1.1).map iC))]) (fun _=>rfl) (fun _=>rfl) (fun z=>r.aH.length-z.1.1) ⟨(0,none,0),E⟩ (aN U) (aD [1,2,3,4,5,6,7,8,9,10,11,12,13,14,15,0]) ?_
 clear E
 rintro ⟨⟨k,la,lc⟩,AI⟩ J67 W
 try dsimp only at AI
 try dsimp only
 refine ai fun _ A0=>WS fun _ A1=>rP 4 [] mn ?_
 refine RK A1<|bE U (aQ fun BR=>?_) (aP fun BR=>?_)
 ·refine bj<|aa<|aa<|au<|KK Ay ?_
  rw [show (gD (aJ r) D1 p hi k)=(gD (aJ r) D1 p hi r.aH.length) from by rw [show k=r.aH.length by omega]]
  refine ag<|rP 2 [] mn ?_
  refine eX (xs:=[.tmp 151]) (cs:=[(vS la ((gD (aJ r) D1 p hi r.aH.length).length) lc)]) U zZ Sa U U U U (by simp [Value.cells]) U U fun Bq=>?_
  refine cp (es2:=(List.zipWith qd (GG++[(gD (aJ r) D1 p hi r.aH.length)]) (gz++[(la,lc)]))) (m':=(GG++[(gD (aJ r) D1 p hi r.aH.length)]).length) 14 rfl rfl rfl Qz rfl rfl (jC d).symm (a_ (es:=List.zipWith qd [(gD (aJ r) D1 p hi r.aH.length)] [(la,lc)]) 0 rfl rfl (by intro e he; simp [qd] at he; subst he; rfl) rfl) (Fh _ _) I (by simp only [maxLen]; omega) (zb I) (by simp; omega) rfl fun BM BO=>?_
  try dsimp only
  refine rP 1 [] mn ?_
  refine ax<|aB ?_
  have BT: ∀ q:Nat,(mx (aJ r) q).Lo≤(mx (aJ r) q).Hi:=fun q=>(gN (i:=(q:Int)) AE).2.1
  have AQ:=GJ BT Bb BX Z K (AB AM)
  refine zO (Y':=aU zQ (GG++[(gD (aJ r) D1 p hi r.aH.length)]) (gz++[(la,lc)])) 13 16 U U (wx I U) ?_
  refine aI (AS ⟨((GG++[(gD (aJ r) D1 p hi r.aH.length)]),(gz++[(la,lc)]),D1,BM,BO),⟨by simp; omega,AQ.1,by have:=AQ.2; simp; omega⟩⟩ _ _ _ U AQ.2 (aN U) (aD [2,3,4,5,6,7,8,9,10,11,12,13,0,14,15]))
 refine WK A0<|ai fun _ Y=>ar<|WS fun _ A2=>aY 2 U<|rS (SX (jd (kV:=iV) (x:=(k:Int)) (l:=(aJ r)) (f:=dB) (z:=(ab.mk 0 0)) U U U lH (dG mF) si (by exact ay 0 U)) U U)<|aY 3 U<|AL U dk fun Bo=>fq U cu U<|rP 1 [] mn ?_
 refine RK A2<|WS fun _ AA=>?_
 rw [show ((List.lookup (k:Int) (aJ r)).getD (ab.mk 0 0))=(bk (aJ r) (k:Int)) from rfl]
 refine rP 2 [] mn ?_
 refine cv (t:=125) U (fun N=>?_) (fun N=>?_)
 ·refine aY 20 U<|RK AA<|aX U<|bM<|aB<|KK Y<|ag<|rP 3 [] mn ?_
  refine ax ?_
  have g:gD (aJ r) D1 p hi k=gD (aJ r) D1 p hi (k+1):=(sV (by first|exact vt N|exact vq (b.trans (congrArg some O))|exact vN P|exact vM R)).symm
  rw [g]
  have BF:(vI (((k+1):Nat):Int))=(vI ((k:Int)+1)):=by exact cI I
  refine aI (W ⟨((k+1),la,lc),(by first|omega|(simp only []; omega))⟩ _ _ _ U os (bY 7<|aO U BF<|cO.nil _) (aD [1,2,3,4,5,6,7,8,9,10,11,12,13,14,15,16]))
 refine rP 2 [] mn ?_
 obtain ⟨b3,b⟩:=aG D1 k I
 have hb3m:=bG hZ b
 refine rS (IA k U (ak (n:=r.aH.length) 15 U sq) uT dc I I) ?_
 refine rS (fI k 0 (vB b3) U bX (ak (n:=D1.length) 15 U sm) hb3m U dc U)<|rP 2 [] mn ?_
 refine cv (t:=131) U (fun O=>?_) (fun O=>?_)
 ·refine aY 14 U<|RK AA<|aX U<|bM<|aB<|KK Y<|ag<|rP 3 [] mn ?_
  refine ax ?_
  have g:gD (aJ r) D1 p hi k=gD (aJ r) D1 p hi (k+1):=(sV (by first|exact vt N|exact vq (b.trans (congrArg some O))|exact vN P|exact vM R)).symm
  rw [g]
  have BE:(vI (((k+1):Nat):Int))=(vI ((k:Int)+1)):=by exact cI I
  refine aI (W ⟨((k+1),la,lc),(by first|omega|(simp only []; omega))⟩ _ _ _ U os (bY 7<|aO U BE<|cO.nil _) (aD [1,2,3,4,5,6,7,8,9,10,11,12,13,14,15,16]))
 refine e7 4 [] (mc 0 U mn) U<|rS (SX (iU (kV:=iV) (x:=(p:Int)) (l:=(aJ r)) (f:=dB) (z:=(ab.mk 0 0)) U U U lH (dG mF) si (by exact ay 1 U)) U U)<|rS (SX (j7 (v:=(vI (((List.lookup (p:Int) (aJ r)).getD (ab.mk 0 0)).Lo))) U U e_ uc U) U U)<|rP 3 [] mn ?_
 refine cv (t:=140) U (aQ fun P=>?_) (aP fun P=>?_)
 ·refine aY 5 U<|RK AA<|aX U<|bM<|aB<|KK Y<|ag<|rP 3 [] mn ?_
  refine ax ?_
  have g:gD (aJ r) D1 p hi k=gD (aJ r) D1 p hi (k+1):=(sV (by first|exact vt N|exact vq (b.trans (congrArg some O))|exact vN P|exact vM R)).symm
  rw [g]
  have BD:(vI (((k+1):Nat):Int))=(vI ((k:Int)+1)):=by exact cI I
  refine aI (W ⟨((k+1),la,lc),(by first|omega|(simp only []; omega))⟩ _ _ _ U os (bY 7<|aO U BD<|cO.nil _) (aD [1,2,3,4,5,6,7,8,9,10,11,12,13,14,15,16]))
 refine rP 5 [] (mc 0 U mn) ?_
 refine RK AA<|bE U (aQ fun R=>?_) (aP fun R=>?_)
 ·refine bM<|aB<|KK Y<|ag<|rP 3 [] mn ?_
  refine ax ?_
  have g:gD (aJ r) D1 p hi k=gD (aJ r) D1 p hi (k+1):=(sV (by first|exact vt N|exact vq (b.trans (congrArg some O))|exact vN P|exact vM R)).symm
  rw [g]
  have BC:(vI (((k+1):Nat):Int))=(vI ((k:Int)+1)):=by exact cI I
  refine aI (W ⟨((k+1),la,lc),(by first|omega|(simp only []; omega))⟩ _ _ _ U os (bY 7<|aO U BC<|cO.nil _) (aD [1,2,3,4,5,6,7,8,9,10,11,12,13,14,15,16]))
 refine ag<|rP 2 [] mn ?_
 refine eX (xs:=[.tmp 147]) (cs:=[(vI (k:Int))]) U di lh U U U U (by simp [Value.cells]) U U fun Bp=>?_
 refine cp (es2:=(List.map iC (gD (aJ r) D1 p hi (k+1)))) (m':=(gD (aJ r) D1 p hi (k+1)).length) 17 U U U mJ U U sm (a_ (es:=List.map iC [(k:Int)]) 0 U U (by simp [bU]) U) (g_ _) (by have:=yD (m:=aJ r) (D:=D1) (p:=p) (hi:=hi) (i:=k); first|omega|(simp; omega)) (by have:=yD (m:=aJ r) (D:=D1) (p:=p) (hi:=hi) (i:=k); simp only [maxLen]; first|omega|(simp; omega)) (by rw [yx (yK N (b.trans (congrArg some O)) P R)]; simp) (by rw [yx (yK N (b.trans (congrArg some O)) P R)]; simp) U fun BL BN=>?_
 try dsimp only
 refine aY 1 U<|ax<|aB<|KK Y<|ag<|rP 3 [] mn ?_
 refine ax ?_
 have BB:(vI (((k+1):Nat):Int))=(vI ((k:Int)+1)):=by exact cI I
 refine aI (W ⟨((k+1),BL,BN),(by first|omega|(simp only []; omega))⟩ _ _ _ U os (bY 7<|aO U BB<|cO.nil _) (aD [2,3,4,5,6,7,8,9,10,11,12,13,14,15,16,17]))
end
section
open Go.RowKit
theorem Cr (r:cr) (kA:OA) (kC:Nat) (cA:OA) (cC:Nat) (bA:OA) (bC:Nat) (slA:OA) (slC:Nat) (drA:OA) (drC:Nat) (heA:OA) (heC gs:Nat) (i:Int) (hb: ∀ p∈aJ r,0≤p.2.Lo∧p.2.Lo≤p.2.Hi∧p.2.Hi≤30000000) (hi:(aJ r).lookup i≠none) (hn5:r.aH.length≤5):
 lg Tryz.prog 37 [(vA (cj.cells (pZ r kA kC cA cC bA bC slA slC drA drC heA heC))),(Value.map (some gs)),(vI i)] [(hU iV gs (bQ dB (aJ r)))] (fun (x:(OA)×Nat)=>(vS x.1 ((dq (aJ r) i (bk (aJ r) i)).length) x.2)) (fun (x:(OA)×Nat)=>True) (fun (x:(OA)×Nat)=>[(own x.1 x.2 3 1 ((dq (aJ r) i (bk (aJ r) i)).map iC))]):=by
 have Bo:=gN (i:=i) hb
 have BK:=yg (r:=r) (k:=r.aH.length)
 rw [lM] at BK
 refine db kr Tryz.func37 U U fun w0 Q hQ hN=>?_
 try dsimp only
 refine WS fun _ Ba=>fm U fun b2=>aY 1 U<|RK Ba<|WS fun _ Bb=>rP 2 [] mn ?_
 refine rS (SX (iU (kV:=iV) (x:=i) (l:=(aJ r)) (f:=dB) (z:=(ab.mk 0 0)) U U U lH (dG mF) si (by exact ku 1 U)) U U)<|AL U dk fun b4=>fq U cu U<|RK Bb<|WS fun _ Bc=>?_
 rw [show ((List.lookup i (aJ r)).getD (ab.mk 0 0))=(bk (aJ r) i) from rfl]
 refine e7 2 [] (mc 0 U mn) U<|eX (xs:=[.tmp 26]) (cs:=[(vI ((bk (aJ r) i).Lo))]) U di lh U U U U (by simp [Value.cells]) U U fun b6=>rP 1 [] mn ?_
 refine RK Bc<|ai fun _ Bd=>ai fun _ Be=>?_
 refine Gq (es:=(List.map iC [(bk (aJ r) i).Lo])) (C':=[(own (some ⟨b6,0,none⟩) 1 3 1 (List.map iC [(bk (aJ r) i).Lo])),_,_,_]) 0 U (MU bU _) U (by show 1≤maxLen; decide) U ?_
 refine ag<|rP 1 [] mn ?_
 refine RK Be<|ar ?_
 have C:(0≤r.aH.length)∧(BB r i (bk (aJ r) i) 0 ([(bk (aJ r) i).Lo])):=by exact ⟨Nat.zero_le _,GM⟩
 refine bx (ι:={z:Nat×(List Int)×(OA)×Nat // (z.1≤r.aH.length)∧(BB r i (bk (aJ r) i) z.1 z.2.1)}) [1,2,3,7] [1,2,3] U U (fun z=>[(8,(vS z.1.2.2.1 z.1.2.1.length z.1.2.2.2)),(9,(vI (z.1.1:Int)))]) (fun z=>[(own z.1.2.2.1 z.1.2.2.2 3 1 (z.1.2.1.map iC))]) (fun _=>rfl) (fun _=>rfl) (fun z=>r.aH.length-z.1.1) ⟨(0,[(bk (aJ r) i).Lo],(some ⟨b6,0,none⟩),1),C⟩ (aN U) (aD [1,2,3,0]) ?_
 clear C
 rintro ⟨⟨k,ys,a,c⟩,⟨AM,A⟩⟩ J9 d
 try dsimp only at AM A
 try dsimp only
 refine ai fun _ AR=>WS fun _ AS=>rP 5 [] (mc 1 U mn) ?_
 refine RK AS<|cK U (aP fun BU=>?_) (aQ fun BU=>?_)
 ·refine WK AR<|ai fun _ J=>ar<|WS fun _ AT=>?_
  have Bf:(aJ r).lookup (k:Int)=dK r.aA r.aq k r.aq.length:=Ay I
  refine aY 2 U<|rS (SX (jd (kV:=iV) (x:=(k:Int)) (l:=(aJ r)) (f:=dB) (z:=(ab.mk 0 0)) U U U lH (dG mF) si (by exact ku 2 U)) U U)<|aY 3 U<|AL U dk fun Bh=>fq U cu U<|aY 1 U<|RK AT<|ai fun _ AU=>WS fun _ AD=>rP 3 [] mn ?_
  refine cE (t:=43) U (fun T=>?_) (fun T=>?_)
  ·rw [Bool.not_eq_true'] at T
   refine aY 4 U<|RK AD<|aL U<|bj<|aa<|au<|KK J<|ag<|rP 3 [] mn ?_
   refine ax ?_
   have A0:(vI (((k+1):Nat):Int))=(vI ((k:Int)+1)):=by exact cI I
   refine aI (d ⟨((k+1),ys,a,c),⟨I,(by first|exact mT A (.inl (Bf.symm.trans (Option.not_isSome_iff_eq_none.1 (by rw [T]; decide))))|exact mT A (.inr F)|exact (List.append_nil ys)▸mW (zs:=[]) A I E F sm sm (fun n hn g=>by simp only [dL,List.not_mem_nil,or_false] at hn; rcases hn with rfl|rfl<;>(exfalso; omega)))⟩⟩ _ _ _ rfl os (bY 5<|aO rfl A0<|cO.nil _) (aD [1,2,3,4]))
  rw [Bool.not_eq_false'] at T
  refine rP 4 [] mn ?_
  refine RK AD<|cK U (aP fun F=>?_) (aQ fun F=>?_)
  ·refine bj<|aa<|au<|KK J<|ag<|rP 3 [] mn ?_
   refine ax ?_
   have A1:(vI (((k+1):Nat):Int))=(vI ((k:Int)+1)):=by exact cI I
   refine aI (d ⟨((k+1),ys,a,c),⟨I,(by first|exact mT A (.inl (Bf.symm.trans (Option.not_isSome_iff_eq_none.1 (by rw [T]; decide))))|exact mT A (.inr F)|exact (List.append_nil ys)▸mW (zs:=[]) A I E F sm sm (fun n hn g=>by simp only [dL,List.not_mem_nil,or_false] at hn; rcases hn with rfl|rfl<;>(exfalso; omega)))⟩⟩ _ _ _ rfl os (bY 5<|aO rfl A1<|cO.nil _) (aD [1,2,3,4]))
  refine WK AU<|ai fun _ AE=>WS fun _ AV=>?_
  obtain ⟨D,V⟩:=Option.isSome_iff_exists.1 T
  have E:=Bf.symm.trans V
  have AN:=gN (i:=(k:Int)) hb
  rw [show bk (aJ r) (k:Int)=D from by unfold bk; rw [V]; rfl] at AN
  rw [show ((List.lookup (k:Int) (aJ r)).getD (ab.mk 0 0))=D from by rw [V]; rfl]
  refine rP 7 [0,1,1] (mc 0 U (mc 1 U mn)) ?_
  refine rS (CL (jO (D.Lo+1) ((bk (aJ r) i).Lo) ((bk (aJ r) i).Hi)) (aS) U)<|RK AV<|bE U (aQ fun BX=>?_) (aP fun BX=>?_)
  ·refine WK AE<|WS fun _ AX=>rP 7 [0,1,1] (mc 0 U (mc 1 U mn)) ?_
   refine rS (CL (jO (D.Hi+1) ((bk (aJ r) i).Lo) ((bk (aJ r) i).Hi)) (aS) U)<|RK AX<|bE U (aQ fun AJ=>?_) (aP fun AJ=>?_)
   ·refine bM<|aB<|KK J<|ag<|rP 3 [] mn ?_
    refine ax ?_
    have A5:(vI (((k+1):Nat):Int))=(vI ((k:Int)+1)):=by exact cI I
    refine aI (d ⟨((k+1),ys,a,c),⟨I,(by first|exact mT A (.inl (Bf.symm.trans (Option.not_isSome_iff_eq_none.1 (by rw [T]; decide))))|exact mT A (.inr F)|exact (List.append_nil ys)▸mW (zs:=[]) A I E F sm sm (fun n hn g=>by simp only [dL,List.not_mem_nil,or_false] at hn; rcases hn with rfl|rfl<;>(exfalso; omega)))⟩⟩ _ _ _ rfl os (bY 5<|aO rfl A5<|cO.nil _) (aD [1,2,3,4]))
   refine ag<|rP 4 [] (mc 0 U mn) ?_
   refine eX (xs:=[.tmp 73]) (cs:=[(vI (D.Hi+1))]) U di lh U U U U (by simp [Value.cells]) U U fun Bk=>?_
   refine cp (es2:=(List.map iC (ys++[D.Hi+1]))) (m':=(ys++[D.Hi+1]).length) 5 U U U mJ U U sm (a_ (es:=List.map iC [(D.Hi+1)]) 0 U U (by simp [bU]) U) (g_ _) (by have:=A.2.2.1; first|omega|(simp; omega)) (by have:=A.2.2.1; simp only [maxLen]; first|omega|(simp; omega)) sm sm U fun BO BS=>?_
   try dsimp only
   refine aY 1 U<|ax<|aB<|KK J<|ag<|rP 3 [] mn ?_
   refine ax ?_
   have A4:(vI (((k+1):Nat):Int))=(vI ((k:Int)+1)):=by exact cI I
   refine aI (d ⟨((k+1),(ys++[D.Hi+1]),BO,BS),⟨I,(by (first|rw [List.append_assoc]|skip); exact mW (zs:=[D.Hi+1]) A I E F sm (fun n hn=>by simp only [dL,List.not_mem_nil,or_false] at hn; rcases hn with rfl|rfl<;>omega) (fun n hn g=>by simp only [dL,List.not_mem_nil,or_false] at hn; rcases hn with rfl|rfl<;>first|(simp; done)|(exfalso; omega)))⟩⟩ _ _ _ rfl os (bY 5<|aO rfl A4<|cO.nil _) (aD [2,3,4,5]))
  refine ag<|rP 4 [] (mc 0 U mn) ?_
  refine eX (xs:=[.tmp 59]) (cs:=[(vI (D.Lo+1))]) U di lh U U U U (by simp [Value.cells]) U U fun Bi=>?_
  refine cp (es2:=(List.map iC (ys++[D.Lo+1]))) (m':=(ys++[D.Lo+1]).length) 5 U U U mJ U U sm (a_ (es:=List.map iC [(D.Lo+1)]) 0 U U (by simp [bU]) U) (g_ _) (by have:=A.2.2.1; first|omega|(simp; omega)) (by have:=A.2.2.1; simp only [maxLen]; first|omega|(simp; omega)) sm sm U fun BM BQ=>?_
  try dsimp only
  refine aY 1 U<|RK AE<|WS fun _ AW=>rP 7 [0,1,1] (mc 1 U (mc 2 U mn)) ?_
  refine rS (CL (jO (D.Hi+1) ((bk (aJ r) i).Lo) ((bk (aJ r) i).Hi)) (aS) U)<|RK AW<|bE U (aQ fun AJ=>?_) (aP fun AJ=>?_)
  ·refine bM<|aB<|KK J<|ag<|rP 3 [] mn ?_
   refine ax ?_
   have A3:(vI (((k+1):Nat):Int))=(vI ((k:Int)+1)):=by exact cI I
   refine aI (d ⟨((k+1),(ys++[D.Lo+1]),BM,BQ),⟨I,(by (first|rw [List.append_assoc]|skip); exact mW (zs:=[D.Lo+1]) A I E F sm (fun n hn=>by simp only [dL,List.not_mem_nil,or_false] at hn; rcases hn with rfl|rfl<;>omega) (fun n hn g=>by simp only [dL,List.not_mem_nil,or_false] at hn; rcases hn with rfl|rfl<;>first|(simp; done)|(exfalso; omega)))⟩⟩ _ _ _ rfl os (bY 5<|aO rfl A3<|cO.nil _) (aD [2,3,4,5]))
  refine ag<|rP 4 [] (mc 1 U mn) ?_
  refine eX (xs:=[.tmp 73]) (cs:=[(vI (D.Hi+1))]) U di lh U U U U (by simp [Value.cells]) U U fun Bj=>?_
  refine cp (es2:=(List.map iC ((ys++[D.Lo+1])++[D.Hi+1]))) (m':=((ys++[D.Lo+1])++[D.Hi+1]).length) 6 U U U mJ U U sm (a_ (es:=List.map iC [(D.Hi+1)]) 0 U U (by simp [bU]) U) (g_ _) (by have:=A.2.2.1; first|omega|(simp; omega)) (by have:=A.2.2.1; simp only [maxLen]; first|omega|(simp; omega)) sm sm U fun BN BR=>?_
  try dsimp only
  refine aY 1 U<|ax<|aB<|KK J<|ag<|rP 3 [] mn ?_
  refine ax ?_
  have A2:(vI (((k+1):Nat):Int))=(vI ((k:Int)+1)):=by exact cI I
  refine aI (d ⟨((k+1),((ys++[D.Lo+1])++[D.Hi+1]),BN,BR),⟨I,(by (first|rw [List.append_assoc]|skip); exact mW (zs:=[D.Lo+1,D.Hi+1]) A I E F sm (fun n hn=>by simp only [dL,List.not_mem_nil,or_false] at hn; rcases hn with rfl|rfl<;>omega) (fun n hn g=>by simp only [dL,List.not_mem_nil,or_false] at hn; rcases hn with rfl|rfl<;>first|(simp; done)|(exfalso; omega)))⟩⟩ _ _ _ rfl os (bY 5<|aO rfl A2<|cO.nil _) (aD [3,4,5,6]))
 refine bj<|aa<|aa<|au<|KK Bd<|WS fun _ AY=>rP 4 [] (mc 1 U mn) ?_
 refine sP (n:=(r.aH.length+1)) (es:=(List.map hZ (List.replicate (r.aH.length+1) false))) U U U K3 I I (by simp only [maxLen]; omega) (by rw [List.map_replicate]; rfl) U fun AI=>?_
 try dsimp only
 refine aY 1 U<|RK AY<|ai fun _ AZ=>WS fun _ Aa=>rP 1 [] mn ?_
 refine RK Aa<|ar ?_
 have Bv:=A.2.2.1
 have C:(0≤ys.length)∧((List.replicate (r.aH.length+1) false).length=r.aH.length+1)∧(oK (List.replicate (r.aH.length+1) false) (pq (aJ r) i ys 0)):=by exact ⟨Nat.zero_le _,sm,Ko⟩
 refine bx (ι:={z:Nat×(List Bool) // (z.1≤ys.length)∧(z.2.length=r.aH.length+1)∧(oK z.2 (pq (aJ r) i ys z.1))}) [1,2,3,8,12] [2,3,4] U U (fun z=>[(13,(vI (z.1.1:Int)))]) (fun z=>[(own (some ⟨AI,0,none⟩) (r.aH.length+1) 4 1 (z.1.2.map hZ))]) (fun _=>rfl) (fun _=>rfl) (fun z=>ys.length-z.1.1) ⟨(0,(List.replicate (r.aH.length+1) false)),C⟩ (aN U) (aD [2,3,4,0]) ?_
 clear C
 rintro ⟨⟨x,B⟩,⟨w,X,L⟩⟩ J41 AP
 try dsimp only at w X L
 try dsimp only
 refine ai fun _ Ab=>WS fun _ Ac=>rP 4 [] mn ?_
 refine RK Ac<|bE U (aQ fun BV=>?_) (aP fun BV=>?_)
 ·refine bj<|aa<|aa<|au<|KK AZ<|WS fun _ As=>aY 1 U<|RK As<|ai fun _ At=>WS fun _ Au=>rP 1 [] mn ?_
  refine RK Au<|ar ?_
  have AK:oK B (pq (aJ r) i ys ys.length):=by rw [← show x=ys.length by omega]; exact L
  refine eP 3 1 ?_
  have C:(0≤r.aH.length):=by exact Nat.zero_le _
  have BG:(vI ((0+1:Nat):Int))=(vI 1):=by rfl
  refine bx (ι:={z:Nat×(OA)×Nat // (z.1≤r.aH.length)}) [1,2,3,12] [1,2,3,4] U U (fun z=>[(20,(vS z.1.2.1 ((qK (pq (aJ r) i ys ys.length) z.1.1).length) z.1.2.2)),(21,(vI ((z.1.1+1:Nat):Int)))]) (fun z=>[(own z.1.2.1 z.1.2.2 3 1 ((qK (pq (aJ r) i ys ys.length) z.1.1).map iC))]) (fun _=>rfl) (fun _=>rfl) (fun z=>r.aH.length-z.1.1) ⟨(0,none,0),C⟩ (cO.cons U<|aO U BG<|cO.nil _) (aD [1,2,3,4,0]) ?_
  clear C
  rintro ⟨⟨v,oa,oc⟩,AB⟩ J83 AC
  try dsimp only at AB
  try dsimp only
  refine ai fun _ Av=>WS fun _ Aw=>rP 4 [] mn ?_
  refine RK Aw<|bE U (aQ fun BZ=>?_) (aP fun BZ=>?_)
  ·refine bj<|aa<|aa<|au<|KK At<|ai fun _ Az=>?_
   rw [show (qK (pq (aJ r) i ys ys.length) v)=(dq (aJ r) i (bk (aJ r) i)) from by rw [show v=r.aH.length by omega]; exact D8 hi BK (Nat.le_refl _) (J1 A I)]
   refine ag<|rP 2 [] mn ?_
   refine RK Az<|an<|LX hQ (oa,oc) [4] [] mn U U U U ?_
   trivial
  refine WK Av<|ai fun _ AH=>ar<|WS fun _ Ax=>rP 2 [] mn ?_
  obtain ⟨b,j⟩:=aG B (v+1) I
  have BJ:=bG hZ j
  refine rS (IA (v+1) U (ak (n:=(r.aH.length+1)) 3 U sq) uT dc I I) ?_
  refine rS (fI (v+1) 0 (vB b) U bX (ak (n:=B.length) 3 U sm) BJ U dc U)<|RK Ax<|bE U (fun W=>?_) (fun W=>?_)
  ·refine bM<|aB<|KK AH<|ag<|rP 3 [] mn ?_
   refine ax ?_
   rw [show (qK (pq (aJ r) i ys ys.length) v)=(qK (pq (aJ r) i ys ys.length) (v+1)) from (LY (fun z=>by have z2:=(zG AK j).2 z; rw [W] at z2; cases z2)).symm]
   have BI:(vI (((v+1)+1:Nat):Int))=(vI (((v+1:Nat):Int)+1)):=by exact cI I
   refine aI (AC ⟨((v+1),oa,oc),(by first|omega|(simp only []; omega))⟩ _ _ _ U os (bY 5<|aO U BI<|cO.nil _) (aD [0,1,2,3,4]))
  refine ag<|rP 2 [] mn ?_
  refine eX (xs:=[.tmp 146]) (cs:=[(vI ((v+1:Nat):Int))]) U di lh U U U U (by simp [Value.cells]) U U fun Bn=>?_
  refine cp (es2:=(List.map iC (qK (pq (aJ r) i ys ys.length) (v+1)))) (m':=(qK (pq (aJ r) i ys ys.length) (v+1)).length) 5 U U U mJ U U sm (a_ (es:=List.map iC [((v+1:Nat):Int)]) 0 U U (by simp [bU]) U) (g_ _) (by have:=BE (P:=pq (aJ r) i ys ys.length) (k:=v); first|omega|(simp; omega)) (by have:=BE (P:=pq (aJ r) i ys ys.length) (k:=v); simp only [maxLen]; first|omega|(simp; omega)) (by rw [Bq ((zG AK j).1 W)]; simp) (by rw [Bq ((zG AK j).1 W)]; simp) U fun BP BT=>?_
  try dsimp only
  refine aY 1 U<|ax<|aB<|KK AH<|ag<|rP 3 [] mn ?_
  refine ax ?_
  have BH:(vI (((v+1)+1:Nat):Int))=(vI (((v+1:Nat):Int)+1)):=by exact cI I
  refine aI (AC ⟨((v+1),BP,BT),(by first|omega|(simp only []; omega))⟩ _ _ _ U os (bY 5<|aO U BH<|cO.nil _) (aD [1,2,3,4,5]))
 refine WK Ab<|ai fun _ Ad=>ar<|ai fun _ Ae=>?_
 obtain ⟨y,hy⟩:=aG ys x I
 have AO:=bG iC hy
 refine ag<|aY 2 U<|RK Ae<|ai fun _ Af=>WS fun _ Ag=>rP 1 [] mn ?_
 refine RK Ag<|ar ?_
 have C:(0≤r.aH.length)∧((0:Int)=(il (fT r 0) i y:Int))∧((0:Int)=(km (fT r 0) i y:Int)):=by exact ⟨Nat.zero_le _,rfl,rfl⟩
 refine bx (ι:={z:Nat×Int×Int // (z.1≤r.aH.length)∧(z.2.1=(il (fT r z.1) i y:Int))∧(z.2.2=(km (fT r z.1) i y:Int))}) [1,2,3,8,12,13] [0,1,2,3] U U (fun z=>[(14,(vI z.1.2.1)),(15,(vI z.1.2.2)),(16,(vI (z.1.1:Int)))]) (fun z=>[]) (fun _=>rfl) (fun _=>rfl) (fun z=>r.aH.length-z.1.1) ⟨(0,(0:Int),(0:Int)),C⟩ (aN U) (aD [0,1,2,3]) ?_
 clear C
 rintro ⟨⟨q,s,t⟩,⟨AA,Y,M⟩⟩ J49 Bg
 try dsimp only at AA Y M
 try dsimp only
 have Bp:=zu (m:=fT r q) (i:=i) (n:=y)
 have Br:=DY (m:=fT r q) (i:=i) (n:=y)
 have Bs:=yg (r:=r) (k:=q)
 refine ai fun _ Ah=>WS fun _ Ai=>rP 5 [] (mc 0 U mn) ?_
 refine RK Ai<|bE U (aQ fun BW=>?_) (aP fun BW=>?_)
 ·refine bj<|aa<|aa<|au<|KK Af<|WS fun _ Ao=>rP 2 [] mn ?_
  refine RK Ao<|ar ?_
  have C:(s≤(s.toNat:Int)∧((s.toNat:Int)≤t+1∨(s.toNat:Int)=s))∧(B.length=r.aH.length+1)∧(oK B (fun u=>pq (aJ r) i ys x u∨(s+1≤u∧u≤(s.toNat:Int)))):=by exact ⟨I,X,tp L fun u=>⟨.inl,fun z=>z.elim id fun z=>by omega⟩⟩
  have BC:(vI (s.toNat:Int))=(vI s):=by exact cI I
  refine bx (ι:={z:Nat×(List Bool) // (s≤(z.1:Int)∧((z.1:Int)≤t+1∨(z.1:Int)=s))∧(z.2.length=r.aH.length+1)∧(oK z.2 (fun u=>pq (aJ r) i ys x u∨(s+1≤u∧u≤(z.1:Int))))}) [1,2,3,8,12,13,14,15] [0,1,2] U U (fun z=>[(19,(vI (z.1.1:Int)))]) (fun z=>[(own (some ⟨AI,0,none⟩) (r.aH.length+1) 4 1 (z.1.2.map hZ))]) (fun _=>rfl) (fun _=>rfl) (fun z=>(t+1-(z.1.1:Int)).toNat) ⟨(s.toNat,B),C⟩ (aO U BC<|cO.nil _) (aD [0,1,2,3]) ?_
  clear C
  rintro ⟨⟨z,B2⟩,⟨Z,N,O⟩⟩ J70 AQ
  try dsimp only at Z N O
  try dsimp only
  have Bt:=zI hi (x:=y)
  have Bu:t=(km (aJ r) i y:Int):=by rw [M,show q=r.aH.length by omega,lM]
  refine ai fun _ Ap=>WS fun _ Aq=>rP 3 [] mn ?_
  refine RK Aq<|bE U (aQ fun BY=>?_) (aP fun BY=>?_)
  ·refine bj<|aa<|aa<|au<|aB<|KK Ad<|ag<|rP 3 [] mn ?_
   refine ax ?_
   have BF:(vI (((x+1):Nat):Int))=(vI ((x:Int)+1)):=by exact cI I
   refine aI (AP ⟨((x+1),B2),⟨I,N,I4 (a:=s) (b:=t) (by rw [Y,show q=r.aH.length by omega,lM]) (by rw [M,show q=r.aH.length by omega,lM]) hy (tp O fun u=>⟨fun z=>z.elim .inl fun z=> .inr I,fun z=>z.elim .inl fun z=> .inr I⟩)⟩⟩ _ _ _ U os (bY 5<|aO U BF<|cO.nil _) (aD [0,1,2,3]))
  refine WK Ap<|ai fun _ Ar=>ar<|ag<|rP 3 [] mn ?_
  obtain ⟨Bw,BL⟩:=aG B2 (z+1) I
  have hx76m:=bG hZ BL
  refine rS (IA (z+1) U (ak (n:=(r.aH.length+1)) 3 U sq) uT dc I I) ?_
  refine c_ (k:=(z+1)) (o:=0) (vs:=[(vB true)]) (es':=(List.map hZ (B2.set (z+1) true))) (C':=[_,_,_,(own (some ⟨AI,0,none⟩) (r.aH.length+1) 4 1 (List.map hZ (B2.set (z+1) true)))]) 3 U U U Ua U U U U hx76m U dc (by exact (List.map_set (f:=hZ) (l:=B2) (i:=(z+1)) (a:=true)).symm) U<|ax<|aB<|KK Ar<|ag<|rP 3 [] mn ?_
  refine ax ?_
  have BD:(vI (((z+1):Nat):Int))=(vI ((z:Int)+1)):=by exact cI I
  refine aI (AQ ⟨((z+1),(B2.set (z+1) true)),⟨I,by rw [List.length_set]; exact N,tp (LI O) fun u=>Pg Z.1⟩⟩ _ _ _ U dso (bY 8<|aO U BD<|cO.nil _) (aD [0,1,2,3]))
 refine WK Ah<|ai fun _ K=>ar<|WS fun _ Aj=>?_
 have Bf:(aJ r).lookup (q:Int)=dK r.aA r.aq q r.aq.length:=Ay I
 refine aY 2 U<|rS (SX (jd (kV:=iV) (x:=(q:Int)) (l:=(aJ r)) (f:=dB) (z:=(ab.mk 0 0)) U U U lH (dG mF) si (by exact ku 1 U)) U U)<|aY 3 U<|AL U dk fun Bl=>fq U cu U<|aY 1 U<|RK Aj<|ai fun _ Ak=>WS fun _ AF=>rP 3 [] mn ?_
 refine cE (t:=102) U (fun R=>?_) (fun R=>?_)
 ·rw [Bool.not_eq_true'] at R
  refine aY 4 U<|RK AF<|aL U<|bj<|aa<|au<|KK K<|ag<|rP 3 [] mn ?_
  refine ax ?_
  have A6:(vI (((q+1):Nat):Int))=(vI ((q:Int)+1)):=by exact cI I
  refine aI (Bg ⟨((q+1),s,t),(by refine ⟨I,?_,?_⟩<;>dsimp only <;>(have e:=Bm (a:=i) (x:=y) (Bf.symm.trans (Option.not_isSome_iff_eq_none.1 (by rw [R]; decide))); omega))⟩ _ _ _ U os (bY 8<|aO U A6<|cO.nil _) (aD [1,2,3,4]))
 rw [Bool.not_eq_false'] at R
 refine rP 4 [] mn ?_
 refine RK AF<|cK U (aP fun G=>?_) (aQ fun G=>?_)
 ·refine bj<|aa<|au<|KK K<|ag<|rP 3 [] mn ?_
  refine ax ?_
  have A7:(vI (((q+1):Nat):Int))=(vI ((q:Int)+1)):=by exact cI I
  refine aI (Bg ⟨((q+1),s,t),(by refine ⟨I,?_,?_⟩<;>dsimp only <;>(have e:=Gl (r:=r) (x:=y) G; omega))⟩ _ _ _ U os (bY 8<|aO U A7<|cO.nil _) (aD [1,2,3,4]))
 refine WK Ak<|ai fun _ AG=>ai fun _ Al=>cS cf 7 kr ?_
 obtain ⟨D,V⟩:=Option.isSome_iff_exists.1 R
 have E:=Bf.symm.trans V
 have AN:=gN (i:=(q:Int)) hb
 rw [show bk (aJ r) (q:Int)=D from by unfold bk; rw [V]; rfl] at AN
 rw [show ((List.lookup (q:Int) (aJ r)).getD (ab.mk 0 0))=D from by rw [V]; rfl]
 refine l0 4 [] (mc 0 U mn) U<|dS (IA x U (ak (n:=ys.length) 3 U sm) di dc I I)<|dS (fI x 0 (vI y) U bX (ak (n:=ys.length) 3 U sm) AO U dc U)<|dP 1 [] mn ?_
 refine cy<|RK Al<|bE U (aQ fun S=>?_) (aP fun S=>?_)
 ·refine WK AG<|ai fun _ An=>cS cf 7 kr<|l0 4 [] (mc 0 U mn) U<|dS (IA x U (ak (n:=ys.length) 3 U sm) di dc I I)<|dS (fI x 0 (vI y) U bX (ak (n:=ys.length) 3 U sm) AO U dc U)<|dP 1 [] mn ?_
  refine cy<|RK An<|bE U (aQ fun H=>?_) (aP fun H=>?_)
  ·refine bM<|aB<|KK K<|ag<|rP 3 [] mn ?_
   refine ax ?_
   have BA:(vI (((q+1):Nat):Int))=(vI ((q:Int)+1)):=by exact cI I
   refine aI (Bg ⟨((q+1),s,t),(by refine ⟨I,?_,?_⟩<;>dsimp only <;>(have e:=qY (x:=y) E G; rw [if_neg S] at e; first|omega|(rw [if_neg H] at e; omega)))⟩ _ _ _ U os (bY 8<|aO U BA<|cO.nil _) (aD [1,2,3,4]))
  refine ag<|aY 3 U<|ax<|aB<|KK K<|ag<|rP 3 [] mn ?_
  refine ax ?_
  have A_:(vI (((q+1):Nat):Int))=(vI ((q:Int)+1)):=by exact cI I
  refine aI (Bg ⟨((q+1),s,(t+1)),(by refine ⟨I,?_,?_⟩<;>dsimp only <;>(have e:=qY (x:=y) E G; rw [if_neg S] at e; first|omega|(rw [if_pos H] at e; omega)))⟩ _ _ _ U os (bY 8<|aO U A_<|cO.nil _) (aD [1,2,3,4]))
 refine ag<|aY 3 U<|RK AG<|ai fun _ Am=>cS cf 7 kr<|l0 4 [] (mc 0 U mn) U<|dS (IA x U (ak (n:=ys.length) 3 U sm) di dc I I)<|dS (fI x 0 (vI y) U bX (ak (n:=ys.length) 3 U sm) AO U dc U)<|dP 1 [] mn ?_
 refine cy<|RK Am<|bE U (aQ fun H=>?_) (aP fun H=>?_)
 ·refine bM<|aB<|KK K<|ag<|rP 3 [] mn ?_
  refine ax ?_
  have A9:(vI (((q+1):Nat):Int))=(vI ((q:Int)+1)):=by exact cI I
  refine aI (Bg ⟨((q+1),(s+1),t),(by refine ⟨I,?_,?_⟩<;>dsimp only <;>(have e:=qY (x:=y) E G; rw [if_pos S] at e; omega))⟩ _ _ _ U os (bY 8<|aO U A9<|cO.nil _) (aD [1,2,3,4]))
 refine ag<|aY 3 U<|ax<|aB<|KK K<|ag<|rP 3 [] mn ?_
 refine ax ?_
 have A8:(vI (((q+1):Nat):Int))=(vI ((q:Int)+1)):=by exact cI I
 refine aI (Bg ⟨((q+1),(s+1),(t+1)),(by refine ⟨I,?_,?_⟩<;>dsimp only <;>(have e:=qY (x:=y) E G; rw [if_pos S] at e; first|omega|(rw [if_pos H] at e; omega)))⟩ _ _ _ U os (bY 8<|aO U A8<|cO.nil _) (aD [1,2,3,4]))
end
section
open Go.RowKit
theorem Ho (r:cr) (kA:OA) (kC:Nat) (az:List RA) (cA:OA) (cC:Nat) (bA:OA) (bC:Nat) (slA:OA) (slC:Nat) (drA:OA) (drC:Nat) (ha:List cD) (heA:OA) (heC:Nat) (hin:fw r az ha):
 eA Tryz.prog 22 [(vA (cj.cells (pZ r kA kC cA cC bA bC slA slC drA drC heA heC)))] [(rd kA r.aA.aM.length 9 (r.aA.aM.map al.cells)),(rd cA r.aA.aj.length 2 (List.zipWith ao.cells r.aA.aj az)),(eH (aU ao.gh r.aA.aj az)),(rd bA r.aA.ae.length 4 (r.aA.ae.map bI.cells)),(rd slA r.aH.length 1 (r.aH.map iC)),(rd drA r.cm.length 1 (r.cm.map iC)),(rd heA r.aq.length 1 (List.zipWith cz r.aq ha)),(eH (aU iA r.aq ha))] (vI (gr r)):=by
 have H:=hin.line
 have M:=hin.iR
 have N:=hin.has
 have J:=hin.iK
 have AB:=hin.draw
 have K:=dw (r:=r)
 refine bH kr Tryz.func22 U U fun V Q hQ hN=>?_
 try dsimp only
 refine WS fun _ G=>fm U fun AA=>aY 1 U<|RK G<|WS fun _ C=>rP 1 [] (mc 0 U mn) ?_
 refine cX (tS r kA kC az cA cC bA bC slA slC drA drC ha heA heC hin) (aZ [1,2,3,4,5,6,7,8]) U fun T E=>?_
 obtain ⟨F,L,P,R,S⟩:=T
 cases F
 rotate_left 1
 ·obtain ⟨he,O⟩:=E.1 rfl
  try dsimp only [cond_true,cond_false,List.cons_append,List.nil_append]
  refine aY 5 U<|RK C<|WS fun _ B=>rP 2 [] mn ?_
  refine RK B<|an<|Q1 hQ U U U ?_
  first|rfl|(rw [he])
 obtain ⟨D,he⟩:=E.2 rfl
 try dsimp only at D he
 subst D
 try dsimp only [cond_true,cond_false,List.cons_append,List.nil_append]
 refine aY 5 U<|RK C<|WS fun _ A=>rP 2 [] mn ?_
 refine RK A<|an<|Q1 hQ U U U ?_
 first|rfl|(rw [he])
end
section
open Go.RowKit
theorem yq (r:cr) (kA:OA) (kC:Nat) (az:List RA) (cA:OA) (cC:Nat) (bA:OA) (bC:Nat) (slA:OA) (slC:Nat) (drA:OA) (drC:Nat) (ha:List cD) (heA:OA) (heC:Nat) (h i:Int) (t:ab) (hin:fw r az ha) (hok:eJ r) (hng: ¬ je r):
 lg Tryz.prog 59 [(vA (cj.cells (pZ r kA kC cA cC bA bC slA slC drA drC heA heC))),(vI h),(vI i),(vA (ab.cells t))] [(rd kA r.aA.aM.length 9 (r.aA.aM.map al.cells)),(rd cA r.aA.aj.length 2 (List.zipWith ao.cells r.aA.aj az)),(eH (aU ao.gh r.aA.aj az)),(rd bA r.aA.ae.length 4 (r.aA.ae.map bI.cells)),(rd slA r.aH.length 1 (r.aH.map iC)),(rd drA r.cm.length 1 (r.cm.map iC)),(rd heA r.aq.length 1 (List.zipWith cz r.aq ha)),(eH (aU iA r.aq ha))] (fun (x:Bool×Int×(OA)×Nat×(OA)×Nat×(List RA)×(OA)×Nat×(OA)×Nat×(OA)×Nat×(OA)×Nat×(List cD))=>bif x.1 then (vT [(vA (cj.cells (cj.mk (bT.mk (bo.mk (bf.mk x.2.2.1 r.aA.aM.length x.2.2.2.1)) r.aA.gG (bf.mk x.2.2.2.2.1 r.aA.aj.length x.2.2.2.2.2.1) (bf.mk x.2.2.2.2.2.2.2.1 r.aA.ae.length x.2.2.2.2.2.2.2.2.1) r.aA.cG r.aA.eg r.aA.cN) (bf.mk x.2.2.2.2.2.2.2.2.2.1 r.aH.length x.2.2.2.2.2.2.2.2.2.2.1) (bf.mk x.2.2.2.2.2.2.2.2.2.2.2.1 r.cm.length x.2.2.2.2.2.2.2.2.2.2.2.2.1) r.iN (bf.mk x.2.2.2.2.2.2.2.2.2.2.2.2.2.1 ((gO r.aq h i t).length) x.2.2.2.2.2.2.2.2.2.2.2.2.2.2.1)))),(vI 0)]) else (vT [(vA (cj.cells (cj.mk (bT.mk (bo.mk (bf.mk none 0 0)) 0 (bf.mk none 0 0) (bf.mk none 0 0) 0 0 0) (bf.mk none 0 0) (bf.mk none 0 0) 0 (bf.mk none 0 0)))),(vI x.2.1)])) (fun (x:Bool×Int×(OA)×Nat×(OA)×Nat×(List RA)×(OA)×Nat×(OA)×Nat×(OA)×Nat×(OA)×Nat×(List cD))=>(x.1=true→((ou r h i t)=0∧(x.2.2.2.2.2.2.1.length=r.aA.aj.length∧mC r.aA.aj x.2.2.2.2.2.2.1)∧uJ (gO r.aq h i t) x.2.2.2.2.2.2.2.2.2.2.2.2.2.2.2))∧(x.1=false→(x.2.1=(ou r h i t)∧ ¬ (ou r h i t)=0))) (fun (x:Bool×Int×(OA)×Nat×(OA)×Nat×(List RA)×(OA)×Nat×(OA)×Nat×(OA)×Nat×(OA)×Nat×(List cD))=>bif x.1 then [(own x.2.2.1 x.2.2.2.1 163 9 (r.aA.aM.map al.cells)),(own x.2.2.2.2.1 x.2.2.2.2.2.1 119 2 (List.zipWith ao.cells r.aA.aj x.2.2.2.2.2.2.1)),(bB (aU ao.owns r.aA.aj x.2.2.2.2.2.2.1)),(own x.2.2.2.2.2.2.2.1 x.2.2.2.2.2.2.2.2.1 141 4 (r.aA.ae.map bI.cells)),(own x.2.2.2.2.2.2.2.2.2.1 x.2.2.2.2.2.2.2.2.2.2.1 3 1 (r.aH.map iC)),(own x.2.2.2.2.2.2.2.2.2.2.2.1 x.2.2.2.2.2.2.2.2.2.2.2.2.1 3 1 (r.cm.map iC)),(own x.2.2.2.2.2.2.2.2.2.2.2.2.2.1 x.2.2.2.2.2.2.2.2.2.2.2.2.2.2.1 71 1 (List.zipWith cz (gO r.aq h i t) x.2.2.2.2.2.2.2.2.2.2.2.2.2.2.2)),(bB (aU jV (gO r.aq h i t) x.2.2.2.2.2.2.2.2.2.2.2.2.2.2.2))] else []):=by
 have AI:=hin.line
 have AS:=hin.iR
 have AU:=hin.has
 have AP:=hin.iK
 have AM:=hin.draw
 have AQ:=dw (r:=r)
 have AW:=hok.num
 have AV:=hok.nh
 refine db kr Tryz.func59 U U fun w0 Q hQ hN=>?_
 try dsimp only
 refine WS fun _ AB=>fm U fun b2=>fm U fun b3=>AL U qC fun b4=>aY 1 U<|RK AB<|ai fun _ AC=>WS fun _ J=>e7 5 [] (mc 2 U mn) U<|rS (CL (jO h 0 ((r.aq.length:Int)-1)) (aS) U)<|rP 2 [] mn ?_
 refine cE (t:=18) U (bg fun z=>?_) (bh fun z=>?_)
 ·refine aY 10 U<|RK J<|aL U<|WS fun _ AD=>rS (SX (bq (xs:=[]) (cs:=(cj.cells (cj.mk (bT.mk (bo.mk (bf.mk none 0 0)) 0 (bf.mk none 0 0) (bf.mk none 0 0) 0 0 0) (bf.mk none 0 0) (bf.mk none 0 0) 0 (bf.mk none 0 0)))) U U (br x_ U)) U U)<|fq U kT U<|rP 1 [] mn ?_
  refine RK AD<|an ?_
  refine LX hQ (false,2,none,0,none,0,[],none,0,none,0,none,0,none,0,[]) [] [0] (mc 0 U mn) U (by first|rfl|(show List.all _ _=true; simp only [cond_true,dY,List.all_nil,dv,gp,Bool.and_true]; rfl)) U ?_ ?_
  ·first|rfl|(simp only [cond_true,eZ]; rfl)
  ·refine ⟨vE,fun _=>?_⟩; first|exact od (gW (r:=r) (h:=h) (i:=i) (t:=t) I)|exact od (gW (r:=r) (h:=h) (i:=i) (t:=t) (fun q=>absurd q.2 asm))|exact od (mh (r:=r) (t:=t) ⟨I,asm⟩ A hd H)
 refine e7 2 [] (mc 2 U mn) U<|rS (CL (Nc r kA kC az cA cC bA bC slA slC drA drC ha heA heC i hin) (aZ [3,4,5,6,7,8,9,10]) U)<|rP 3 [] mn ?_
 refine cE (t:=24) U (bg fun AA=>?_) (bh fun AA=>?_)
 ·refine aY 4 U<|RK J<|aL U<|WS fun _ AE=>rS (SX (bq (xs:=[]) (cs:=(cj.cells (cj.mk (bT.mk (bo.mk (bf.mk none 0 0)) 0 (bf.mk none 0 0) (bf.mk none 0 0) 0 0 0) (bf.mk none 0 0) (bf.mk none 0 0) 0 (bf.mk none 0 0)))) U U (br x_ U)) U U)<|fq U kT U<|rP 1 [] mn ?_
  refine RK AE<|an ?_
  refine LX hQ (false,2,none,0,none,0,[],none,0,none,0,none,0,none,0,[]) [] [0] (mc 0 U mn) U (by first|rfl|(show List.all _ _=true; simp only [cond_true,dY,List.all_nil,dv,gp,Bool.and_true]; rfl)) U ?_ ?_
  ·first|rfl|(simp only [cond_true,eZ]; rfl)
  ·refine ⟨vE,fun _=>?_⟩; first|exact od (gW (r:=r) (h:=h) (i:=i) (t:=t) I)|exact od (gW (r:=r) (h:=h) (i:=i) (t:=t) (fun q=>absurd q.2 asm))|exact od (mh (r:=r) (t:=t) ⟨I,asm⟩ A hd H)
 refine e7 1 [] (mc 1 U mn) U<|rS (CL (EL t) (aS) U)<|rP 2 [] mn ?_
 refine RK J<|cK U (bg fun Z=>?_) (bh fun Z=>?_)
 ·refine WS fun _ AF=>rS (SX (bq (xs:=[]) (cs:=(cj.cells (cj.mk (bT.mk (bo.mk (bf.mk none 0 0)) 0 (bf.mk none 0 0) (bf.mk none 0 0) 0 0 0) (bf.mk none 0 0) (bf.mk none 0 0) 0 (bf.mk none 0 0)))) U U (br x_ U)) U U)<|fq U kT U<|rP 1 [] mn ?_
  refine RK AF<|an ?_
  refine LX hQ (false,2,none,0,none,0,[],none,0,none,0,none,0,none,0,[]) [] [0] (mc 0 U mn) U (by first|rfl|(show List.all _ _=true; simp only [cond_true,dY,List.all_nil,dv,gp,Bool.and_true]; rfl)) U ?_ ?_
  ·first|rfl|(simp only [cond_true,eZ]; rfl)
  ·refine ⟨vE,fun _=>?_⟩; first|exact od (gW (r:=r) (h:=h) (i:=i) (t:=t) I)|exact od (gW (r:=r) (h:=h) (i:=i) (t:=t) (fun q=>absurd q.2 asm))|exact od (mh (r:=r) (t:=t) ⟨I,asm⟩ A hd H)
 refine WK AC<|ai fun _ b=>WS fun _ e=>rP 3 [] (mc 2 U mn) ?_
 obtain ⟨ht,A⟩:=aG r.aq ((h).toNat) I
 obtain ⟨C,E⟩:=aG ha ((h).toNat) I
 have v:(List.zipWith cz r.aq ha)[(h).toNat]? =some (cz ht C):=cH A E
 refine rS (IA ((h).toNat) U (ay 9 U) lk dc I I) ?_
 have AH:=hin.my _ _ _ A E
 have AN:=AH.mE
 have AT:=(hok.my ht (aR A)).1
 refine rS (fI ((h).toNat) 0 (vS C.1.1 ht.length C.1.2) U bX (ay 9 U) v U dc U)<|rP 1 [] mn ?_
 obtain ⟨d,hd⟩:=aG ht ((i).toNat) I
 obtain ⟨da,K⟩:=aG C.2 ((i).toNat) I
 have AG:(List.zipWith av.cells ht C.2)[(i).toNat]? =some (av.cells d da):=cH hd K
 refine rS (IA ((i).toNat) U (show gI _ (rd C.1.1 ht.length 7 (List.zipWith av.cells ht C.2)).holds from (b_ 10 U (bu A E bZ))) rI dc I I)<|rS (nP (((i).toNat)*7) U (show gI _ (rd C.1.1 ht.length 7 (List.zipWith av.cells ht C.2)).holds from (b_ 10 U (bu A E bZ))) (Nat.mul_pos I dc) e_ U)<|rS (fI ((i).toNat) 0 (vB d.Out) U bX (show gI _ (rd C.1.1 ht.length 7 (List.zipWith av.cells ht C.2)).holds from (b_ 10 U (bu A E bZ))) AG U dc U)<|RK e<|cK U (fun H=>?_) (fun H=>?_)
 ·refine WS fun _ f=>rS (SX (bq (xs:=[]) (cs:=(cj.cells (cj.mk (bT.mk (bo.mk (bf.mk none 0 0)) 0 (bf.mk none 0 0) (bf.mk none 0 0) 0 0 0) (bf.mk none 0 0) (bf.mk none 0 0) 0 (bf.mk none 0 0)))) U U (br x_ U)) U U)<|fq U kT U<|rP 1 [] mn ?_
  refine RK f<|an ?_
  refine LX hQ (false,8,none,0,none,0,[],none,0,none,0,none,0,none,0,[]) [] [0] (mc 0 U mn) U (by first|rfl|(show List.all _ _=true; simp only [cond_true,dY,List.all_nil,dv,gp,Bool.and_true]; rfl)) U ?_ ?_
  ·first|rfl|(simp only [cond_true,eZ]; rfl)
  ·refine ⟨vE,fun _=>?_⟩; first|exact od (gW (r:=r) (h:=h) (i:=i) (t:=t) I)|exact od (gW (r:=r) (h:=h) (i:=i) (t:=t) (fun q=>absurd q.2 asm))|exact od (mh (r:=r) (t:=t) ⟨I,asm⟩ A hd H)
 refine WK b<|WS fun _ g=>rP 1 [] (mc 2 U mn) ?_
 refine cX (v9 r kA kC az cA cC bA bC slA slC drA drC ha heA heC hin hng) (aZ [3,4,5,6,7,8,9,10]) U fun AK y=>?_
 obtain ⟨L,T,M,AX,S,N,V,O,W,P,X,R,Y,G⟩:=AK
 try dsimp only
 obtain ⟨⟨p,s⟩,D⟩:=y
 try dsimp only at p s D
 have AO:=D.1
 refine AL U qC fun AR=>fq U kT U<|RK g<|ai fun _ j=>?_
 obtain ⟨B,F⟩:=aG G ((h).toNat) (by have:=D.1; omega)
 have w:(List.zipWith cz r.aq G)[(h).toNat]? =some (cz ht B):=cH A F
 have AJ:=D.2 _ _ _ A F
 refine H5 8 A F U U ?_
 try dsimp only
 refine cS cf 9 kr<|l0 3 [] (mc 3 U mn) U<|dS (IA ((h).toNat) U (ak (n:=r.aq.length) 10 U (dy D.1)) lk dc I I)<|dS (fI ((h).toNat) 0 (vS B.1.1 ht.length B.1.2) U bX (ak (n:=r.aq.length) 10 U (dy D.1)) w U dc U)<|dP 2 [] (mc 12 U mn) ?_
 refine dS (SX (bq (xs:=[(1,.const (vB true)),(2,.tmp 48)]) (cs:=(bp.cells (bp.mk false true t (ew.mk 0 0 (bf.mk none 0 0))))) U U (br Qw U)) U U) ?_
 obtain ⟨K,AY⟩:=aG B.2 ((i).toNat) I
 have u:(List.zipWith av.cells ht B.2)[(i).toNat]? =some (av.cells d K):=cH hd AY
 refine dS (IA ((i).toNat) U (ak (n:=ht.length) 0 U (jq AJ)) rI dc I I)<|cy<|c_ (k:=(i).toNat) (o:=0) (vs:=(bp.cells (bp.mk false true t (ew.mk 0 0 (bf.mk none 0 0))))) (es':=(List.zipWith av.cells (ht.set (i).toNat (iF t)) (B.2.set (i).toNat (none,0)))) (C':=[(own B.1.1 B.1.2 76 7 (List.zipWith av.cells (ht.set (i).toNat (iF t)) (B.2.set (i).toNat (none,0)))),_,_,_,_,_,_,_,_,_,_,_,_,_,_,_,_,_,_,_,_,_]) 0 U U U Pv U U U U u U dc (by exact nM (c:=av.cells) (m:=iF t) (a:=(none,0))) U<|RK j<|ai fun _ l=>Jd (d':=iF t) 1 hd AY U U U ?_
 refine Fy (h':=(ht.set (i).toNat (iF t))) (a':=(B.1,(B.2.set (i).toNat (none,0)))) 2 0 1 I (by have:=D.1; omega) U U ?_
 rw [← pU A,show List.zipWith cz r.aq G=List.zipWith cz (gO r.aq h i t) (G.set (h).toNat (B.1,(B.2.set (i).toNat (none,0)))) from by rw [pU A]; exact (yH A F (by rw [List.length_set])).symm]
 replace D:=Ji (i:=i) (t:=t) D A F
 refine ag<|e7 1 [] (mc 1 U mn) U<|Ui U kT U<|rP 1 [] mn ?_
 refine RK l<|an ?_
 refine LX hQ (true,0,L,T,M,AX,S,N,V,O,W,P,X,R,Y,(G.set (h).toNat (B.1,(B.2.set (i).toNat (none,0))))) [2,3,4,5,6,7,8,0] [0] (mc 9 U mn) U (by first|rfl|(show List.all _ _=true; simp only [cond_true,dY,List.all_nil,dv,gp,Bool.and_true]; rfl)) U ?_ ?_
 ·first|rfl|(simp only [cond_true,eZ]; rfl)
 ·exact ⟨fun _=>⟨Fu ⟨I,Z⟩ A hd H,⟨p,s⟩,D⟩,Lw⟩
theorem yf (r:cr) (kA:OA) (kC:Nat) (az:List RA) (cA:OA) (cC:Nat) (bA:OA) (bC:Nat) (slA:OA) (slC:Nat) (drA:OA) (drC:Nat) (ha:List cD) (heA:OA) (heC:Nat) (h i:Int) (t:ab) (hin:fw r az ha) (hng: ¬ je r):
 lg Tryz.prog 27 [(vA (cj.cells (pZ r kA kC cA cC bA bC slA slC drA drC heA heC))),(vI h),(vI i),(vA (ab.cells t))] [(rd kA r.aA.aM.length 9 (r.aA.aM.map al.cells)),(rd cA r.aA.aj.length 2 (List.zipWith ao.cells r.aA.aj az)),(eH (aU ao.gh r.aA.aj az)),(rd bA r.aA.ae.length 4 (r.aA.ae.map bI.cells)),(rd slA r.aH.length 1 (r.aH.map iC)),(rd drA r.cm.length 1 (r.cm.map iC)),(rd heA r.aq.length 1 (List.zipWith cz r.aq ha)),(eH (aU iA r.aq ha))] (fun (x:Bool×Int×(OA)×Nat×(OA)×Nat×(List RA)×(OA)×Nat×(OA)×Nat×(OA)×Nat×(OA)×Nat×(List cD))=>bif x.1 then (vT [(vA (cj.cells (cj.mk (bT.mk (bo.mk (bf.mk x.2.2.1 r.aA.aM.length x.2.2.2.1)) r.aA.gG (bf.mk x.2.2.2.2.1 r.aA.aj.length x.2.2.2.2.2.1) (bf.mk x.2.2.2.2.2.2.2.1 r.aA.ae.length x.2.2.2.2.2.2.2.2.1) r.aA.cG r.aA.eg r.aA.cN) (bf.mk x.2.2.2.2.2.2.2.2.2.1 r.aH.length x.2.2.2.2.2.2.2.2.2.2.1) (bf.mk x.2.2.2.2.2.2.2.2.2.2.2.1 r.cm.length x.2.2.2.2.2.2.2.2.2.2.2.2.1) r.iN (bf.mk x.2.2.2.2.2.2.2.2.2.2.2.2.2.1 ((gO r.aq h i t).length) x.2.2.2.2.2.2.2.2.2.2.2.2.2.2.1)))),(vI 0)]) else (vT [(vA (cj.cells (cj.mk (bT.mk (bo.mk (bf.mk none 0 0)) 0 (bf.mk none 0 0) (bf.mk none 0 0) 0 0 0) (bf.mk none 0 0) (bf.mk none 0 0) 0 (bf.mk none 0 0)))),(vI x.2.1)])) (fun (x:Bool×Int×(OA)×Nat×(OA)×Nat×(List RA)×(OA)×Nat×(OA)×Nat×(OA)×Nat×(OA)×Nat×(List cD))=>(x.1=true→((fZ r h i t)=0∧(x.2.2.2.2.2.2.1.length=r.aA.aj.length∧mC r.aA.aj x.2.2.2.2.2.2.1)∧uJ (gO r.aq h i t) x.2.2.2.2.2.2.2.2.2.2.2.2.2.2.2))∧(x.1=false→(x.2.1=(fZ r h i t)∧ ¬ (fZ r h i t)=0))) (fun (x:Bool×Int×(OA)×Nat×(OA)×Nat×(List RA)×(OA)×Nat×(OA)×Nat×(OA)×Nat×(OA)×Nat×(List cD))=>bif x.1 then [(own x.2.2.1 x.2.2.2.1 163 9 (r.aA.aM.map al.cells)),(own x.2.2.2.2.1 x.2.2.2.2.2.1 119 2 (List.zipWith ao.cells r.aA.aj x.2.2.2.2.2.2.1)),(bB (aU ao.owns r.aA.aj x.2.2.2.2.2.2.1)),(own x.2.2.2.2.2.2.2.1 x.2.2.2.2.2.2.2.2.1 141 4 (r.aA.ae.map bI.cells)),(own x.2.2.2.2.2.2.2.2.2.1 x.2.2.2.2.2.2.2.2.2.2.1 3 1 (r.aH.map iC)),(own x.2.2.2.2.2.2.2.2.2.2.2.1 x.2.2.2.2.2.2.2.2.2.2.2.2.1 3 1 (r.cm.map iC)),(own x.2.2.2.2.2.2.2.2.2.2.2.2.2.1 x.2.2.2.2.2.2.2.2.2.2.2.2.2.2.1 71 1 (List.zipWith cz (gO r.aq h i t) x.2.2.2.2.2.2.2.2.2.2.2.2.2.2.2)),(bB (aU jV (gO r.aq h i t) x.2.2.2.2.2.2.2.2.2.2.2.2.2.2.2))] else []):=by
 have d:=hin.line
 have l:=hin.iR
 have m:=hin.has
 have j:=hin.iK
 have g:=hin.draw
 have k:=dw (r:=r)
 refine db kr Tryz.func27 U U fun s Q hQ hN=>?_
 try dsimp only
 refine WS fun _ Y=>fm U fun o=>fm U fun p=>AL U qC fun q=>aY 1 U<|RK Y<|ai fun _ Z=>WS fun _ a=>e7 1 [] (mc 2 U mn) U<|rS (CL (Ho r kA kC az cA cC bA bC slA slC drA drC ha heA heC hin) (aZ [3,4,5,6,7,8,9,10]) U)<|aY 1 U<|RK a<|WS fun _ b=>rP 2 [] mn ?_
 refine RK b<|cK U (bg fun A=>?_) (bh fun A=>?_)
 ·refine WS fun _ c=>rS (SX (bq (xs:=[]) (cs:=(cj.cells (cj.mk (bT.mk (bo.mk (bf.mk none 0 0)) 0 (bf.mk none 0 0) (bf.mk none 0 0) 0 0 0) (bf.mk none 0 0) (bf.mk none 0 0) 0 (bf.mk none 0 0)))) U U (br x_ U)) U U)<|aY 1 U<|fq U kT U<|rP 1 [] mn ?_
  refine RK c<|an ?_
  refine LX hQ (false,(gr r),none,0,none,0,[],none,0,none,0,none,0,none,0,[]) [] [0] (mc 0 U mn) U (by first|rfl|(show List.all _ _=true; simp only [cond_true,dY,List.all_nil,dv,gp,Bool.and_true]; rfl)) U ?_ ?_
  ·first|rfl|(simp only [cond_true,eZ]; rfl)
  ·refine ⟨vE,fun _=>?_⟩; first|exact HE (lQ (h:=h) (i:=i) (t:=t) A) A|exact HE (jv (h:=h) (i:=i) (t:=t) A) he
 refine WK Z<|WS fun _ R=>rP 4 [0,1] (mc 2 U (mc 1 U mn)) ?_
 refine cX (yq r kA kC az cA cC bA bC slA slC drA drC ha heA heC h i t hin (by exact (iy A).2) hng) (aZ [3,4,5,6,7,8,9,10]) U fun e C=>?_
 obtain ⟨X,f,D,K,E,L,J,F,M,G,N,H,O,AB,P,W⟩:=e
 cases X
 rotate_left 1
 ·obtain ⟨B,⟨S,T⟩,V⟩:=C.1 rfl
  try dsimp only [cond_true,cond_false,List.cons_append,List.nil_append]
  try dsimp only at B S T V
  refine aY 2 U<|Up U kT U<|rP 1 [] mn ?_
  refine RK R<|an ?_
  refine LX hQ (true,0,D,K,E,L,J,F,M,G,N,H,O,AB,P,W) [0,1,2,3,4,5,6,7] [0] (mc 8 U mn) U (by first|rfl|(show List.all _ _=true; simp only [cond_true,dY,List.all_nil,dv,gp,Bool.and_true]; rfl)) U ?_ ?_
  ·first|rfl|(simp only [cond_true,eZ]; rfl)
  ·exact ⟨fun _=>⟨(jv A).trans B,⟨S,T⟩,V⟩,Lw⟩
 obtain ⟨AA,he⟩:=C.2 rfl
 try dsimp only at AA he
 subst AA
 try dsimp only [cond_true,cond_false,List.cons_append,List.nil_append]
 refine aY 2 U<|fq U kT U<|rP 1 [] mn ?_
 refine RK R<|an ?_
 refine LX hQ (false,(ou r h i t),none,0,none,0,[],none,0,none,0,none,0,none,0,[]) [] [0] (mc 0 U mn) U (by first|rfl|(show List.all _ _=true; simp only [cond_true,dY,List.all_nil,dv,gp,Bool.and_true]; rfl)) U ?_ ?_
 ·first|rfl|(simp only [cond_true,eZ]; rfl)
 ·refine ⟨vE,fun _=>?_⟩; first|exact HE (lQ (h:=h) (i:=i) (t:=t) A) A|exact HE (jv (h:=h) (i:=i) (t:=t) A) he
end
section
open Go.RowKit
theorem xu (r:cr) (kA:OA) (kC:Nat) (az:List RA) (cA:OA) (cC:Nat) (bA:OA) (bC:Nat) (slA:OA) (slC:Nat) (drA:OA) (drC:Nat) (ha:List cD) (heA:OA) (heC:Nat) (h i:Int) (t:ab) (hin:fw r az ha) (hng: ¬ je r):
 lg Tryz.prog 29 [(vA (cj.cells (pZ r kA kC cA cC bA bC slA slC drA drC heA heC))),(vI h),(vI i),(vA (ab.cells t))] [(rd kA r.aA.aM.length 9 (r.aA.aM.map al.cells)),(rd cA r.aA.aj.length 2 (List.zipWith ao.cells r.aA.aj az)),(eH (aU ao.gh r.aA.aj az)),(rd bA r.aA.ae.length 4 (r.aA.ae.map bI.cells)),(rd slA r.aH.length 1 (r.aH.map iC)),(rd drA r.cm.length 1 (r.cm.map iC)),(rd heA r.aq.length 1 (List.zipWith cz r.aq ha)),(eH (aU iA r.aq ha))] (fun (x:(OA)×Nat)=>(vT [(vS x.1 ((ep r h i t).length) x.2),(vI (fZ r h i t))])) (fun (x:(OA)×Nat)=>True) (fun (x:(OA)×Nat)=>[(own x.1 x.2 3 1 ((ep r h i t).map iC))]):=by
 have BM:=hin.line
 have Bl:=hin.iR
 have Bm:=hin.has
 have BZ:=hin.iK
 have BW:=hin.draw
 have D:=dw (r:=r)
 refine db kr Tryz.func29 U U fun w0 Q hQ hN=>?_
 try dsimp only
 refine WS fun _ BL=>fm U fun b2=>fm U fun b3=>aY 2 U<|RK BL<|WS fun _ AW=>rP 1 [] (mc 1 U mn) ?_
 refine cX (tS r kA kC az cA cC bA bC slA slC drA drC ha heA heC hin) (aZ [2,3,4,5,6,7,8,9]) U fun y5 A9=>?_
 obtain ⟨BA,Bk,BO,BP,A⟩:=y5
 cases BA
 ·obtain ⟨O,he⟩:=A9.2 rfl
  try dsimp only at O he
  subst O
  try dsimp only [cond_true,cond_false,List.cons_append,List.nil_append]
  refine aY 5 U<|RK AW<|ai fun _ BU=>WS fun _ AQ=>rP 2 [] mn ?_
  refine RK AQ<|bE U (bh fun AO=>?_) (bg fun AO=>?_)
  ·exact absurd AO he
  refine WS fun _ AR=>rP 1 [] mn ?_
  have E:fZ r h i t=gr r:=lQ he
  have G:ep r h i t=[]:=pG (by rw [E]; exact he)
  refine fg 3 1 ?_
  rw [show (own none 0 3 1 ([]:List (List Value)))=own none 0 3 1 ((ep r h i t).map iC) from by rw [G]; rfl]
  refine rP 2 [] mn ?_
  refine RK AR<|an ?_
  refine LX hQ (none,0) [0] [] mn U U U ?_ ?_
  ·first|rfl|(rw [E,G]; rfl)|(rw [E]; rfl)
  ·trivial
 obtain ⟨he,F⟩:=A9.1 rfl
 try dsimp only [cond_true,cond_false,List.cons_append,List.nil_append]
 have V:=he
 try dsimp only at F
 have K:=(iy he).2
 have Bn:=K.num
 have A4:=pR V
 have BX:=nH V
 refine aY 5 U<|RK AW<|ai fun _ AS=>WS fun _ AT=>aY 1 U<|rS (SX (cM (r:= .bool false) U U U rQ) U U)<|RK AT<|aX U<|WK AS<|WS fun _ y=>rP 4 [0,1] (mc 3 U (mc 2 U mn)) ?_
 refine cX (yq r kA kC az cA cC bA bC slA slC drA drC ha heA heC h i t hin (by exact K) hng) (aZ [4,5,6,7,8,9,10,11]) U fun BQ AC=>?_
 obtain ⟨BB,BT,Y,m,Z,p,AJ,d,q,e,s,g,u,j,v,A_⟩:=BQ
 cases BB
 ·obtain ⟨O,he⟩:=AC.2 rfl
  try dsimp only at O he
  subst O
  try dsimp only [cond_true,cond_false,List.cons_append,List.nil_append]
  refine aY 3 U<|AL U qC fun Bg=>fq U kT U<|aY 1 U<|RK y<|ai fun _ BV=>WS fun _ AU=>rP 2 [] mn ?_
  refine RK AU<|bE U (bh fun AP=>?_) (bg fun AP=>?_)
  ·exact absurd AP he
  refine WS fun _ AV=>rP 1 [] mn ?_
  have E:fZ r h i t=ou r h i t:=jv V
  have G:ep r h i t=[]:=pG (by rw [E]; exact he)
  refine fg 3 1 ?_
  rw [show (own none 0 3 1 ([]:List (List Value)))=own none 0 3 1 ((ep r h i t).map iC) from by rw [G]; rfl]
  refine rP 2 [] mn ?_
  refine RK AV<|an ?_
  refine LX hQ (none,0) [0] [] mn U U U ?_ ?_
  ·first|rfl|(rw [E,G]; rfl)|(rw [E]; rfl)
  ·trivial
 obtain ⟨J,⟨AD,A1⟩,W⟩:=AC.1 rfl
 try dsimp only [cond_true,cond_false,List.cons_append,List.nil_append]
 try dsimp only at J AD A1 W
 have AE:fZ r h i t=0:=(jv V).trans J
 have A2:=hin.rep AD A1 W
 have AF:=yA AE
 have A5:=pR AF
 have BY:=nH AF
 have A3:=(uG J).1
 simp only [P0] at A3
 refine aY 3 U<|AL U qC fun Bh=>fq U kT U<|aY 1 U<|RK y<|ai fun _ AX=>WS fun _ AY=>aY 1 U<|rS (SX (cM (r:= .bool false) U U U rQ) U U)<|RK AY<|aX U<|WK AX<|WS fun _ AZ=>kN U zD U fun BF=>rP 1 [] mn ?_
 refine eK (es:=(List.map sC [])) (C':=[own (some ⟨BF,0,none⟩) 0 78 1 (List.map sC []),_,_,_,_,_,_,_,_,_,_,_,_,_,_,_,_,_,_,_,_,_]) 0 U sm U (by simp [maxLen]) U ?_
 refine cp (es2:=(List.zipWith rM (bV r) A)) (m':=(bV r).length) 0 U U U O4 U U sm (ak (n:=(bV r).length) 10 U (j3 (by rw [D]; exact F))) (MK _ _) (by simp; omega) (by simp only [maxLen]; simp; omega) sm (j3 (by rw [D]; exact F)) U fun T Bo=>?_
 try dsimp only
 refine aY 1 U<|RK AZ<|WS fun _ Aa=>aY 2 U<|kN U mM U fun BG=>rP 2 [] mn ?_
 obtain ⟨tr,H⟩:=aG (bV r) ((h).toNat) I
 obtain ⟨tra,S⟩:=aG A ((h).toNat) I
 have A7:(List.zipWith rM (bV r) A)[(h).toNat]? =some (rM tr tra):=cH H S
 refine rS (IA ((h).toNat) U (ak (n:=(bV r).length) 11 U (j3 (by rw [D]; exact F))) zD dc I I) ?_
 have A6:=rj (show r.aq[(h).toNat]? =some (r.aq[(h).toNat]'I) from ei _) H
 have Ba:tr.length=r.aH.length:=by rw [A6,List.length_map]; exact (K.my _ (List.getElem_mem _)).1
 refine rS (fI ((h).toNat) 0 (vS tra.1 tr.length tra.2) U bX (ak (n:=(bV r).length) 11 U (j3 (by rw [D]; exact F))) A7 U dc U) ?_
 refine eK (es:=(List.map ab.cells [])) (C':=[own (some ⟨BG,0,none⟩) 0 47 2 (List.map ab.cells []),_,_,_,_,_,_,_,_,_,_,_,_,_,_,_,_,_,_,_,_,_,_]) 0 U sm U (by simp [maxLen]) U ?_
 refine cp (es2:=(List.map ab.cells tr)) (m':=tr.length) 0 U U U K1 U U sm (show gI _ (rd tra.1 tr.length 2 (tr.map ab.cells)).holds from (fun w hw=>(eN 12 U xA) w hw _ (bu H S (by simp [yC])))) (jl _) (by simp; omega) (by simp only [maxLen]; simp; omega) sm sm U fun B C=>?_
 try dsimp only
 have R:(List.zipWith rM (bV r) A)[(h).toNat]? =some (rM tr tra):=cH H S
 refine rS (IA ((h).toNat) U (ak (n:=(bV r).length) 1 U (j3 (by rw [D]; exact F))) zD dc I I) ?_
 refine c_ (k:=(h).toNat) (o:=0) (vs:=[(vS B tr.length C)]) (es':=(List.zipWith rM (bV r) (A.set (h).toNat (B,C)))) (C':=[_,(own T Bo 78 1 (List.zipWith rM (bV r) (A.set (h).toNat (B,C)))),_,_,_,_,_,_,_,_,_,_,_,_,_,_,_,_,_,_,_,_,_]) 1 U U U QB U U U U R U dc (by exact HT (c:=rM) (b:=(B,C)) H) U<|RK Aa<|ai fun _ Ab=>cS cf 7 kr<|dP 2 [] mn ?_
 have R:(List.zipWith rM (bV r) (A.set (h).toNat (B,C)))[(h).toNat]? =some (rM tr (B,C)):=cH H (List.getElem?_set_self I)
 refine dS (IA ((h).toNat) U (ak (n:=(bV r).length) 1 U (j3 (by rw [List.length_set,D]; exact F))) zD dc I I) ?_
 refine dS (fI ((h).toNat) 0 (vS B tr.length C) U bX (ak (n:=(bV r).length) 1 U (j3 (by rw [List.length_set,D]; exact F))) R U dc U) ?_
 refine dP 2 [] (mc 13 U mn) ?_
 obtain ⟨x,hx⟩:=aG tr ((i).toNat) I
 have BN:(List.map ab.cells tr)[(i).toNat]? =some (ab.cells x):=by rw [fj,hx]; rfl
 refine dS (IA ((i).toNat) U (ak (n:=tr.length) 0 U sm) mM dc I I)<|cy<|c_ (k:=(i).toNat) (o:=0) (vs:=(ab.cells t)) (es':=(List.map ab.cells (tr.set ((i).toNat) t))) (C':=[(own B C 47 2 (List.map ab.cells (tr.set ((i).toNat) t))),_,_,_,_,_,_,_,_,_,_,_,_,_,_,_,_,_,_,_,_,_,_]) 0 U U U cu U U U U BN U dc (by exact (List.map_set (f:=ab.cells) (l:=tr) (i:=(i).toNat) (a:=t)).symm) U<|RK Ab<|ai fun _ Ac=>?_
 have AI:(bV (fV r h i t))=(bV r).set (h).toNat (tr.set (i).toNat t):=FR H
 have AB:(A.set (h).toNat (B,C)).length=(fV r h i t).aq.length:=by rw [List.length_set]; show _=(gO r.aq h i t).length; rw [eZ]; exact F
 rw [show (List.zipWith rM (bV r) (A.set (h).toNat (B,C)))=List.zipWith rM (bV (fV r h i t)) (A.set (h).toNat (B,C)) from by rw [AI,LV H (by rw [List.length_set])]]
 have A8:(bV (fV r h i t)).length=(bV r).length:=by rw [AI,List.length_set]
 rw [show Value.slice T (bV r).length Bo=Value.slice T (bV (fV r h i t)).length Bo from by rw [A8]]
 refine dp cf [2,5,6,7] [] [] [0,1,2,3,4,5,6,7,8,9,10,11,12,13,14,15,16,17,18,19,20,21,22] [] U U U U U<|eS U (LW 14 U bX U U)<|eS U (MV U)<|eS U (LW 2 U bX U U)<|eS U (MV U)<|eu U<|bS U fun T53 Ak=>?_
 refine cX (CN r kA kC az cA cC bA bC slA slC drA drC ha heA heC A BO BP hin sd (by exact K.tI)) (nt [15,16,17,18,19,20,21,22]<|aC (ak (n:=(bV r).length) 11 U (j3 (by rw [D]; exact F)))<|aC (eN 12 U xA)<|aS) U fun AK Bc=>?_
 try dsimp only
 refine ax (Ak _ _ (aD [1,2,3,4,5,6,7,8,9,10,11,12,13,14,15,16,17,18,19,20,21,22,23]) ?_)
 refine bS U fun T57 Al=>?_
 refine cX (CN (fV r h i t) Y m AJ Z p d q e s g u A_ j v (A.set (h).toNat (B,C)) T Bo (by exact A2) (by exact AB) (by exact (iy AF).2.tI)) (aC (ak (n:=r.aA.aM.length) 4 U sm)<|aC (ak (n:=r.aA.aj.length) 5 U (gn AD))<|aC (eN 6 U kh)<|aC (ak (n:=r.aA.ae.length) 7 U sm)<|aC (ak (n:=r.aH.length) 8 U sm)<|aC (ak (n:=r.cm.length) 9 U sm)<|aC (ak (n:=(gO r.aq h i t).length) 10 U (dy W.1))<|aC (ju 11 U W)<|aC (ak (n:=(bV (fV r h i t)).length) 2 U (j3 (by rw [dw]; exact AB)))<|aC (show gI _ (eH (aU yC (bV (fV r h i t)) (A.set (h).toNat (B,C)))).holds from by rw [AI]; exact z8 (b:=(B,C)) 13 1 U U)<|aS) U fun AM Bd=>?_
 try dsimp only
 refine ax (Al _ _ (aD [2,3,4,5,6,7,8,9,10,11,12,13,14,15,16,17,18,19,20,21,22,23,24]) ?_)
 refine bS U fun T61 Am=>rS (AG U)<|ax (Am _ _ (aD [2,3,4,5,6,7,8,9,10,11,12,13,14,15,16,17,18,19,20,21,22,23,24]) ?_)
 refine bS U fun T62 An=>rS (AG U)<|ax (An _ _ (aD [2,3,4,5,6,7,8,9,10,11,12,13,14,15,16,17,18,19,20,21,22,23,24]) ?_)
 refine eY U<|KK Ac<|WS fun _ Ad=>aY 1 U<|RK Ad<|ai fun _ Ae=>WS fun _ Af=>rP 1 [] mn ?_
 refine RK Af<|ar<|eP 3 1 ?_
 have P:(0≤r.aH.length):=by exact Nat.zero_le _
 refine bx (ι:={z:Nat×(OA)×Nat // (z.1≤r.aH.length)}) [4,12,14,15] [1,2,3,4,5,6,7,8,9,10,11,12,13,14,15,17,18,19,20,21,22,23,24,25] U U (fun z=>[(16,(vS z.1.2.1 ((pH r h i t z.1.1).length) z.1.2.2)),(17,(vI (z.1.1:Int)))]) (fun z=>[(own z.1.2.1 z.1.2.2 3 1 ((pH r h i t z.1.1).map iC))]) (fun _=>rfl) (fun _=>rfl) (fun z=>r.aH.length-z.1.1) ⟨(0,none,0),P⟩ (aN U) (aD [1,2,3,4,5,6,7,8,9,10,11,12,13,14,15,17,18,19,20,21,22,23,24,25,0]) ?_
 clear P
 rintro ⟨⟨k,a,c⟩,X⟩ J66 M
 try dsimp only at X
 try dsimp only
 refine ai fun _ Ag=>WS fun _ Ah=>rP 5 [] (mc 15 U mn) ?_
 refine RK Ah<|bE U (aQ fun BK=>?_) (aP fun BK=>?_)
 ·refine bj<|aa<|aa<|au<|KK Ae<|WS fun _ Aj=>rP 1 [] mn ?_
  have E:=AE
  have G:ep r h i t=(pH r h i t k):=by rw [← JB AE]; congr 1; omega
  rw [← G]
  refine rP 2 [] mn ?_
  refine RK Aj<|an ?_
  refine LX hQ (a,c) [24] [] mn U U U ?_ ?_
  ·first|rfl|(rw [E,G]; rfl)|(rw [E]; rfl)
  ·trivial
 refine WK Ag<|ai fun _ N=>ar<|WS fun _ Ai=>aY 2 U<|rS (SX (jd (kV:=iV) (x:=(k:Int)) (l:=(aJ r)) (f:=dB) (z:=(ab.mk 0 0)) U U U lH (dG mF) si (by exact ay 1 U)) U U)<|aY 3 U<|AL U dk fun Bi=>fq U cu U<|rP 1 [] mn ?_
 refine RK Ai<|ai fun _ AA=>dp cf [5,9,10,11,12] [] [] [0,1,2,3,4,5,6,7,8,9,10,11,12,13,14,15,16,17,18,19,20,21,22,23,24,25] [] U U U U U<|eS U (MV U)<|eS U (MV U)<|px (t:=78) U (fun Bp=>?_) (fun Bp=>?_)
 rotate_left 1
 ·refine eS U (OX U)<|eS U (OX U)<|eS U (OX U)<|eS U (OX U)<|eS U (OX U)<|eS U (OX U)<|eu U<|bS U fun T92 At=>oX<|ax (At _ _ (aD [0,1,2,3,4,5,6,7,8,9,10,11,12,13,14,15,16,17,18,19,20,21,22,23,24,25]) ?_)
  refine bS U fun T93 Au=>oX<|ax (Au _ _ (aD [0,1,2,3,4,5,6,7,8,9,10,11,12,13,14,15,16,17,18,19,20,21,22,23,24,25]) ?_)
  refine bS U fun T94 Av=>oX<|ax (Av _ _ (aD [0,1,2,3,4,5,6,7,8,9,10,11,12,13,14,15,16,17,18,19,20,21,22,23,24,25]) ?_)
  refine bS U fun T95 Aw=>oX<|ax (Aw _ _ (aD [0,1,2,3,4,5,6,7,8,9,10,11,12,13,14,15,16,17,18,19,20,21,22,23,24,25]) ?_)
  refine bS U fun T96 Ax=>rS (PK U)<|ax (Ax _ _ (aD [0,1,2,3,4,5,6,7,8,9,10,11,12,13,14,15,16,17,18,19,20,21,22,23,24,25]) ?_)
  refine eY U<|KK AA<|aX U<|bM<|aB<|KK N<|ag<|rP 3 [] mn ?_
  refine ax ?_
  have AH:pH r h i t k=pH r h i t (k+1):=(Ez (by first|exact I1 Bp|exact I9 L)).symm
  rw [AH]
  have A0:(vI (((k+1):Nat):Int))=(vI ((k:Int)+1)):=by exact cI I
  refine aI (M ⟨((k+1),a,c),(by first|omega|(simp only []; omega))⟩ _ _ _ U os (bY 5<|aO U A0<|cO.nil _) (aD [1,2,3,4,5,6,7,8,9,10,11,12,13,14,15,16,17,18,19,20,21,22,23,24,25]))
 refine eS U (LW 16 U bX U U)<|eS U (MV U)<|eS U (MV U)<|eS U (LW 5 U bX U U)<|eS U (MV U)<|eS U (MV U)<|eu U<|bS U fun T74 Ao=>cX (Cr r kA kC cA cC bA bC slA slC drA drC heA heC AK (k:Int) (by exact A4) (by exact yY Bp) I) (aZ [2]) U fun BR Be=>?_
 obtain ⟨BC,BH⟩:=BR
 try dsimp only
 refine ax (Ao _ _ (aD [1,2,3,4,5,6,7,8,9,10,11,12,13,14,15,16,17,18,19,20,21,22,23,24,25,26]) ?_)
 refine bS U fun T79 Ap=>?_
 refine cX (Cr (fV r h i t) Y m Z p d q e s g u j v AM (k:Int) (by exact A5) (by exact yY (by rw [Bu J]; exact Bp)) (by show r.aH.length≤5; omega)) (aZ [2]) U fun BS Bf=>?_
 obtain ⟨BD,BI⟩:=BS
 try dsimp only
 refine ax (Ap _ _ (aD [2,3,4,5,6,7,8,9,10,11,12,13,14,15,16,17,18,19,20,21,22,23,24,25,26,27]) ?_)
 refine bS U fun T84 Aq=>rS (CL (kM (dq (aJ r) (k:Int) (bk (aJ r) (k:Int))) BC BH (dq (aJ (fV r h i t)) (k:Int) (bk (aJ (fV r h i t)) (k:Int))) BD BI (by exact Nat.le_trans pP I) (by exact Nat.le_trans pP I)) (aC (ak (n:=(dq (aJ r) (k:Int) (bk (aJ r) (k:Int))).length) 1 U sm)<|aC (ak (n:=(dq (aJ (fV r h i t)) (k:Int) (bk (aJ (fV r h i t)) (k:Int))).length) 0 U sm)<|aS) U)<|ax (Aq _ _ (aD [2,3,4,5,6,7,8,9,10,11,12,13,14,15,16,17,18,19,20,21,22,23,24,25,26,27]) ?_)
 refine bS U fun T85 Ar=>rS (NT U)<|ax (Ar _ _ (aD [2,3,4,5,6,7,8,9,10,11,12,13,14,15,16,17,18,19,20,21,22,23,24,25,26,27]) ?_)
 refine bS U fun T86 As=>rS (PK U)<|ax (As _ _ (aD [2,3,4,5,6,7,8,9,10,11,12,13,14,15,16,17,18,19,20,21,22,23,24,25,26,27]) ?_)
 refine eY U<|KK AA<|bE U (bh fun L=>?_) (bg fun L=>?_)
 ·refine bM<|aB<|KK N<|ag<|rP 3 [] mn ?_
  refine ax ?_
  have AH:pH r h i t k=pH r h i t (k+1):=(Ez (by first|exact I1 Bp|exact I9 L)).symm
  rw [AH]
  have Az:(vI (((k+1):Nat):Int))=(vI ((k:Int)+1)):=by exact cI I
  refine aI (M ⟨((k+1),a,c),(by first|omega|(simp only []; omega))⟩ _ _ _ U os (bY 5<|aO U Az<|cO.nil _) (aD [3,4,5,6,7,8,9,10,11,12,13,14,15,16,17,18,19,20,21,22,23,24,25,26,27]))
 refine ag<|rP 2 [] mn ?_
 refine eX (xs:=[.tmp 91]) (cs:=[(vI (k:Int))]) U di lh U U U U (by simp [Value.cells]) U U fun Bj=>?_
 refine cp (es2:=(List.map iC (pH r h i t (k+1)))) (m':=(pH r h i t (k+1)).length) 28 U U U mJ U U sm (a_ (es:=List.map iC [(k:Int)]) 0 U U (by simp [bU]) U) (g_ _) (by have:=AN (r:=r) (h:=h) (i:=i) (t:=t) (k:=k); first|omega|(simp; omega)) (by have:=AN (r:=r) (h:=h) (i:=i) (t:=t) (k:=k); simp only [maxLen]; first|omega|(simp; omega)) (by rw [Bb (Ct Bp L)]; simp) (by rw [Bb (Ct Bp L)]; simp) U fun BE BJ=>?_
 try dsimp only
 refine aY 1 U<|ax<|aB<|KK N<|ag<|rP 3 [] mn ?_
 refine ax ?_
 have Ay:(vI (((k+1):Nat):Int))=(vI ((k:Int)+1)):=by exact cI I
 refine aI (M ⟨((k+1),BE,BJ),(by first|omega|(simp only []; omega))⟩ _ _ _ U os (bY 5<|aO U Ay<|cO.nil _) (aD [4,5,6,7,8,9,10,11,12,13,14,15,16,17,18,19,20,21,22,23,24,25,26,27,28]))
end
section
open Go.RowKit
theorem x9 (r:cr) (kA:OA) (kC:Nat) (az:List RA) (cA:OA) (cC:Nat) (bA:OA) (bC:Nat) (slA:OA) (slC:Nat) (drA:OA) (drC:Nat) (ha:List cD) (heA:OA) (heC:Nat) (h i:Int) (t:ab) (hraw:tm r az ha):
 eA Tryz.prog 5 [(vA (cj.cells (pZ r kA kC cA cC bA bC slA slC drA drC heA heC))),(vI h),(vI i),(vA (ab.cells t))] [(rd jA 3 2 gZ),(rd kA r.aA.aM.length 9 (r.aA.aM.map al.cells)),(rd cA r.aA.aj.length 2 (List.zipWith ao.cells r.aA.aj az)),(eH (aU ao.gh r.aA.aj az)),(rd bA r.aA.ae.length 4 (r.aA.ae.map bI.cells)),(rd slA r.aH.length 1 (r.aH.map iC)),(rd drA r.cm.length 1 (r.cm.map iC)),(rd heA r.aq.length 1 (List.zipWith cz r.aq ha)),(eH (aU iA r.aq ha))] (vB true):=by
 refine bH kr Tryz.func5 U U fun w0 Q hQ hN=>?_
 try dsimp only
 refine WS fun _ BD=>fm U fun b2=>fm U fun b3=>aY 1 U<|RK BD<|ai fun _ BE=>WS fun _ BF=>rP 1 [] (mc 1 U mn) ?_
 refine rS (CL (Bk r kA kC az cA cC bA bC slA slC drA drC ha heA heC hraw) (aZ [3,4,5,6,7,8,9,10]) U)<|RK BF<|cK U (aP fun W=>?_) (aQ fun W=>?_)
 ·refine WS fun _ BG=>rP 1 [] mn ?_
  refine RK BG<|an<|Q1 hQ U U U ?_
  first|exact cB (dh rfl)|rfl
 refine WK BE<|WS fun _ BH=>?_
 have D:=hraw.small W
 have BI:=D.line
 have Bw:=D.iR
 have Bx:=D.has
 have Bn:=D.iK
 have Bl:=D.draw
 have Bo:=dw (r:=r)
 refine rP 1 [] (mc 1 U mn) ?_
 refine cX (v9 r kA kC az cA cC bA bC slA slC drA drC ha heA heC sd sd) (aZ [3,4,5,6,7,8,9,10]) U fun y8 BL=>?_
 obtain ⟨G,N,H,O,M,B0,P,J,R,K,S,L,T,V⟩:=y8
 try dsimp only
 obtain ⟨⟨B,F⟩,C⟩:=BL
 have A:=C
 have Bz:=B
 have b:=D.L4 B F C
 refine AL U qC fun Bs=>fq U kT U<|RK BH<|WS fun _ Av=>rP 1 [] (mc 0 U mn) ?_
 have Y:=AR (r:=r)
 have By:=AJ (r:=r) (h:=h) (i:=i) (t:=t)
 have Bm:=(qT W).2.1
 have d:=GB (h:=h) (i:=i) (t:=t) W
 refine cX (MI r G N M H O B0 P J R K S V L T sd) (fG 11 U U<|aC (ak (n:=r.aA.aM.length) 1 U sm)<|aC (ak (n:=r.aA.aj.length) 2 U (gn Bz))<|aC (eN 3 U kh)<|aC (ak (n:=r.aA.ae.length) 4 U sm)<|aC (ak (n:=r.aH.length) 5 U sm)<|aC (ak (n:=r.cm.length) 6 U sm)<|aC (ak (n:=r.aq.length) 7 U (dy A.1))<|aC (ju 8 U A)<|aS) U fun BM A3=>?_
 obtain ⟨e,AY,Aj⟩:=BM
 try dsimp only
 have AP:=A3
 have q:=AP
 refine aY 5 U<|RK Av<|WS fun _ Aw=>rP 1 [] (mc 12 U mn) ?_
 refine cX (Jj r kA kC az cA cC bA bC slA slC drA drC ha heA heC sd) (aZ [14,15,16,17,18,19,20,21]) U fun BN A4=>?_
 obtain ⟨f,Aa,Al⟩:=BN
 try dsimp only
 have AP:=A4
 have s:=AP
 refine aY 5 U<|RK Aw<|WS fun _ o=>rP 4 [0,1] (mc 4 U (mc 13 U mn)) ?_
 refine cX (KD h i t r G N M H O B0 P J R K S V L T (by exact b)) (fG 15 U U<|aC (ak (n:=r.aA.aM.length) 5 U sm)<|aC (ak (n:=r.aA.aj.length) 6 U (gn Bz))<|aC (eN 7 U kh)<|aC (ak (n:=r.aA.ae.length) 8 U sm)<|aC (ak (n:=r.aH.length) 9 U sm)<|aC (ak (n:=r.cm.length) 10 U sm)<|aC (ak (n:=r.aq.length) 11 U (dy A.1))<|aC (ju 12 U A)<|aS) U fun BO v=>?_
 obtain ⟨A6,Bh,AV,Ah,AX,Ai,Ae,AZ,Ak,Ab,Am,Ac,An,Ad,Ao,A5⟩:=BO
 cases A6
 ·obtain ⟨X,he⟩:=v.2 rfl
  try dsimp only at X he
  subst X
  try dsimp only [cond_true,cond_false,List.cons_append,List.nil_append]
  refine aY 3 U<|AL U qC fun Bt=>fq U kT U<|aY 1 U<|RK o<|WS fun _ Ax=>rP 4 [0,1] (mc 15 U (mc 14 U mn)) ?_
  refine cX (yf r kA kC az cA cC bA bC slA slC drA drC ha heA heC h i t sd sd) (aZ [17,18,19,20,21,22,23,24]) U fun BP w=>?_
  obtain ⟨A7,Bi,BT,Bb,BU,Bc,Ba,BV,Bd,BW,Be,BX,Bf,BY,Bg,Br⟩:=BP
  cases A7
  rotate_left 1
  ·obtain ⟨E,⟨B,F⟩,C⟩:=w.1 rfl
   try dsimp only [cond_true,cond_false,List.cons_append,List.nil_append]
   try dsimp only at E B F C
   have a:=C
   have p:=B
   have Z:=fw.rep D B F C
   exact absurd E asm
  obtain ⟨X,he⟩:=w.2 rfl
  try dsimp only at X he
  subst X
  try dsimp only [cond_true,cond_false,List.cons_append,List.nil_append]
  refine aY 3 U<|AL U qC fun Bu=>fq U kT U<|aY 1 U<|RK Ax<|WS fun _ Ay=>rP 4 [0,1] (mc 6 U (mc 15 U mn)) ?_
  refine cX (zp h i t r G N M H O B0 P J R K S V L T sd) (fG 17 U U<|aC (ak (n:=r.aA.aM.length) 7 U sm)<|aC (ak (n:=r.aA.aj.length) 8 U (gn Bz))<|aC (eN 9 U kh)<|aC (ak (n:=r.aA.ae.length) 10 U sm)<|aC (ak (n:=r.aH.length) 11 U sm)<|aC (ak (n:=r.cm.length) 12 U sm)<|aC (ak (n:=r.aq.length) 13 U (dy A.1))<|aC (ju 14 U A)<|aS) U fun BQ Bp=>?_
  obtain ⟨A_,BB⟩:=BQ
  try dsimp only
  refine aY 5 U<|RK Ay<|WS fun _ Az=>rP 4 [0,1] (mc 17 U (mc 16 U mn)) ?_
  refine cX (xu r kA kC az cA cC bA bC slA slC drA drC ha heA heC h i t sd sd) (aZ [19,20,21,22,23,24,25,26]) U fun BR Bq=>?_
  obtain ⟨BA,BC⟩:=BR
  try dsimp only
  refine aY 5 U<|RK Az<|WS fun _ A0=>rP 2 [] mn ?_
  refine rS (CL (u9 (fu r) (fu r) e AY Aj f Aa Al (by exact Y.1) (by exact Y.1) (by exact Y.2) (by exact Y.2) sd sd) (aC (ak (n:=(fu r).length) 6 U (jC q))<|aC (eN 7 U E0)<|aC (ak (n:=(fu r).length) 4 U (jC s))<|aC (eN 5 U E0)<|aS) U) ?_
  refine rP 1 [] mn ?_
  refine cv (t:=71) U (aQ fun Ap=>?_) (aP fun Ap=>?_)
  ·exact absurd U Ap
  refine rP 5 [] mn ?_
  refine cv (t:=76) U (aQ fun Aq=>?_) (aP fun Aq=>?_)
  ·exact absurd U Aq
  refine e7 2 [0,1] (mc 3 U (mc 2 U mn)) U<|rS (CL (ph (cr.mk (aW.mk ([]) 0 ([]) ([]) 0 0 0) ([]) ([]) 0 ([])) none 0 ([]) none 0 none 0 none 0 none 0 ([]) none 0 (cr.mk (aW.mk ([]) 0 ([]) ([]) 0 0 0) ([]) ([]) 0 ([])) none 0 ([]) none 0 none 0 none 0 none 0 ([]) none 0 (by first|exact vL|exact c) (by first|exact vL|exact Z) (by first|exact pT|exact d) (by first|exact pT|exact d)) (aC (mw _ _)<|aC (mw _ _)<|aC vH<|aC (mw _ _)<|aC (mw _ _)<|aC (mw _ _)<|aC (mw _ _)<|aC vH<|aC (mw _ _)<|aC (mw _ _)<|aC vH<|aC (mw _ _)<|aC (mw _ _)<|aC (mw _ _)<|aC (mw _ _)<|aC vH<|aS) U)<|rP 2 [] mn ?_
  refine cv (t:=81) U (aQ fun Ar=>?_) (aP fun Ar=>?_)
  ·exact absurd U Ar
  refine rP 5 [] mn ?_
  refine cv (t:=86) U (aQ fun As=>?_) (aP fun As=>?_)
  ·exact absurd U As
  refine aY 2 U<|rS (CL (kM (ep r h i t) A_ BB (ep r h i t) BA BC I I) (aC (ak (n:=(ep r h i t).length) 1 U sm)<|aC (ak (n:=(ep r h i t).length) 0 U sm)<|aS) U)<|rP 2 [] mn ?_
  refine cv (t:=91) U (aQ fun At=>?_) (aP fun At=>?_)
  ·exact absurd U At
  refine rP 5 [] mn ?_
  refine cv (t:=96) U (aQ fun Au=>?_) (aP fun Au=>?_)
  ·exact absurd U Au
  refine e7 2 [0,1] (mc 8 U (mc 18 U mn)) U<|rS (CL (ph r G N M H O B0 P J R K S V L T r kA kC az cA cC bA bC slA slC drA drC ha heA heC (by exact b) (by exact D) (by exact W) (by exact W)) (aC (ak (n:=r.aA.aM.length) 9 U sm)<|aC (ak (n:=r.aA.aj.length) 10 U (gn Bz))<|aC (eN 11 U kh)<|aC (ak (n:=r.aA.ae.length) 12 U sm)<|aC (ak (n:=r.aH.length) 13 U sm)<|aC (ak (n:=r.cm.length) 14 U sm)<|aC (ak (n:=r.aq.length) 15 U (dy A.1))<|aC (ju 16 U A)<|fG 20 U U<|fG 21 U U<|fG 22 U U<|fG 23 U U<|fG 24 U U<|fG 25 U U<|fG 26 U U<|fG 27 U U<|aS) U)<|rP 2 [] mn ?_
  refine RK A0<|an<|Q1 hQ U U U ?_
  first|exact cB (dh rfl)|rfl
 obtain ⟨E,⟨B,F⟩,C⟩:=v.1 rfl
 try dsimp only [cond_true,cond_false,List.cons_append,List.nil_append]
 try dsimp only at E B F C
 have u:=C
 have A2:=B
 have c:=fw.rep D B F C
 refine aY 3 U<|AL U qC fun Bv=>fq U kT U<|aY 1 U<|RK o<|WS fun _ A1=>rP 4 [0,1] (mc 23 U (mc 22 U mn)) ?_
 refine cX (yf r kA kC az cA cC bA bC slA slC drA drC ha heA heC h i t sd sd) (aZ [25,26,27,28,29,30,31,32]) U fun BS x=>?_
 obtain ⟨AS,Bj,AW,AE,y,AF,AD,z,AG,AA,AH,AB,AI,AC,AK,AQ⟩:=BS
 cases AS
 ·obtain ⟨X,he⟩:=x.2 rfl
  try dsimp only at X he
  subst X
  try dsimp only [cond_true,cond_false,List.cons_append,List.nil_append]
  exact absurd E he
 obtain ⟨E,⟨B,F⟩,C⟩:=x.1 rfl
 try dsimp only [cond_true,cond_false,List.cons_append,List.nil_append]
 try dsimp only at E B F C
 have a:=C
 have p:=B
 have Z:=fw.rep D B F C
 refine aY 3 U<|AL U qC fun BZ=>fq U kT U<|aY 1 U<|RK A1<|WS fun _ AM=>rP 4 [0,1] (mc 22 U (mc 31 U mn)) ?_
 refine cX (zp h i t r G N M H O B0 P J R K S V L T sd) (fG 33 U U<|aC (ak (n:=r.aA.aM.length) 23 U sm)<|aC (ak (n:=r.aA.aj.length) 24 U (gn Bz))<|aC (eN 25 U kh)<|aC (ak (n:=r.aA.ae.length) 26 U sm)<|aC (ak (n:=r.aH.length) 27 U sm)<|aC (ak (n:=r.cm.length) 28 U sm)<|aC (ak (n:=r.aq.length) 29 U (dy A.1))<|aC (ju 30 U A)<|aS) U fun A8 BJ=>?_
 obtain ⟨AT,Af⟩:=A8
 try dsimp only
 refine aY 5 U<|RK AM<|WS fun _ AN=>rP 4 [0,1] (mc 33 U (mc 32 U mn)) ?_
 refine cX (xu r kA kC az cA cC bA bC slA slC drA drC ha heA heC h i t sd sd) (aZ [35,36,37,38,39,40,41,42]) U fun A9 BK=>?_
 obtain ⟨AU,Ag⟩:=A9
 try dsimp only
 refine aY 5 U<|RK AN<|WS fun _ AO=>rP 2 [] mn ?_
 refine rS (CL (u9 (fu r) (fu r) e AY Aj f Aa Al (by exact Y.1) (by exact Y.1) (by exact Y.2) (by exact Y.2) sd sd) (aC (ak (n:=(fu r).length) 22 U (jC q))<|aC (eN 23 U E0)<|aC (ak (n:=(fu r).length) 20 U (jC s))<|aC (eN 21 U E0)<|aS) U) ?_
 refine rP 1 [] mn ?_
 refine cv (t:=71) U (aQ fun g=>?_) (aP fun g=>?_)
 ·exact absurd U g
 refine rP 5 [] mn ?_
 refine cv (t:=76) U (aQ fun j=>?_) (aP fun j=>?_)
 ·exact absurd U j
 refine e7 2 [0,1] (mc 11 U (mc 2 U mn)) U<|rS (CL (ph (cr.mk r.aA r.aH r.cm r.iN (gO r.aq h i t)) AV Ah Ae AX Ai AZ Ak Ab Am Ac An A5 Ad Ao (cr.mk r.aA r.aH r.cm r.iN (gO r.aq h i t)) AW AE AD y AF z AG AA AH AB AI AQ AC AK (by first|exact vL|exact c) (by first|exact vL|exact Z) (by first|exact pT|exact d) (by first|exact pT|exact d)) (aC (ak (n:=r.aA.aM.length) 12 U sm)<|aC (ak (n:=r.aA.aj.length) 13 U (gn A2))<|aC (eN 14 U kh)<|aC (ak (n:=r.aA.ae.length) 15 U sm)<|aC (ak (n:=r.aH.length) 16 U sm)<|aC (ak (n:=r.cm.length) 17 U sm)<|aC (ak (n:=(gO r.aq h i t).length) 18 U (dy u.1))<|aC (ju 19 U u)<|aC (ak (n:=r.aA.aM.length) 3 U sm)<|aC (ak (n:=r.aA.aj.length) 4 U (gn p))<|aC (eN 5 U kh)<|aC (ak (n:=r.aA.ae.length) 6 U sm)<|aC (ak (n:=r.aH.length) 7 U sm)<|aC (ak (n:=r.cm.length) 8 U sm)<|aC (ak (n:=(gO r.aq h i t).length) 9 U (dy a.1))<|aC (ju 10 U a)<|aS) U)<|rP 2 [] mn ?_
 refine cv (t:=81) U (aQ fun k=>?_) (aP fun k=>?_)
 ·exact absurd U k
 refine aY 2 U<|rS (SX (cM (r:= .bool true) U U U qp) U U)<|aY 4 U<|rS (CL (kM (ep r h i t) AT Af (ep r h i t) AU Ag I I) (aC (ak (n:=(ep r h i t).length) 1 U sm)<|aC (ak (n:=(ep r h i t).length) 0 U sm)<|aS) U)<|rP 2 [] mn ?_
 refine cv (t:=91) U (aQ fun l=>?_) (aP fun l=>?_)
 ·exact absurd U l
 refine rP 5 [] mn ?_
 refine cv (t:=96) U (aQ fun m=>?_) (aP fun m=>?_)
 ·exact absurd U m
 refine e7 2 [0,1] (mc 24 U (mc 34 U mn)) U<|rS (CL (ph r G N M H O B0 P J R K S V L T r kA kC az cA cC bA bC slA slC drA drC ha heA heC (by exact b) (by exact D) (by exact W) (by exact W)) (aC (ak (n:=r.aA.aM.length) 25 U sm)<|aC (ak (n:=r.aA.aj.length) 26 U (gn Bz))<|aC (eN 27 U kh)<|aC (ak (n:=r.aA.ae.length) 28 U sm)<|aC (ak (n:=r.aH.length) 29 U sm)<|aC (ak (n:=r.cm.length) 30 U sm)<|aC (ak (n:=r.aq.length) 31 U (dy A.1))<|aC (ju 32 U A)<|fG 36 U U<|fG 37 U U<|fG 38 U U<|fG 39 U U<|fG 40 U U<|fG 41 U U<|fG 42 U U<|fG 43 U U<|aS) U)<|rP 2 [] mn ?_
 refine RK AO<|an<|Q1 hQ U U U ?_
 first|exact cB (dh rfl)|rfl
end
section
open Go.RowKit
def ij {α:Type} (cells:α→List Value) (sz:Nat) (R:World→α→Prop) (w:World) (s:bf):Prop:= ∃ l:List α,s.n=l.length∧(rd s.a l.length sz (l.map cells)).holds w∧(∀ x∈l,R w x)∧l.length≤maxLen∧s.n≤s.c
theorem uS {w:World} {R:World→ck→Prop}: ∀ {l:List de},(∀ x∈l,ij ck.cells 3 R w x.aT)→ ∃ (ms:List ao) (az:List RA),l.map de.cells=List.zipWith ao.cells ms az∧ms.length=l.length∧az.length=l.length∧(∀ X∈aU ao.gh ms az,X.holds w)∧
 (∀ (k:Nat) m (a:RA),ms[k]? =some m→az[k]? =some a→m.aT.length≤a.2∧m.aT.length≤9223372036854775807)∧ms.map (fun m=>m.cU)=l.map (fun x=>x.cU)∧ ∀ (k:Nat) m y,ms[k]? =some m→y∈m.aT→R w y
 |[],_=>⟨[],[],rfl,rfl,rfl,(fun X hX=>by cases hX),(fun k m a h=>by simp at h),rfl,(fun k m y h=>by simp at h)⟩
 |x::l,h=>by
  obtain ⟨ms,az,E,F,G,H,AA,J,K⟩:=uS (fun y hy=>h y (cW _ hy))
  obtain ⟨sy,A,B,C,D,L⟩:=h x sm
  have e4':sy.length≤9223372036854775807:=D
  refine ⟨⟨x.cU,sy⟩::ms,(x.aT.a,x.aT.c)::az,?_,by simp [F],by simp [G],fun X hX=>?_,fun k m a hm ha=>?_,by simp [J],fun k m y hm hy=>?_⟩
  ·obtain ⟨dr,⟨a,n,c⟩⟩:=x
   simp only at A
   subst A
   simp only [List.map_cons,List.zipWith_cons_cons,E]
   rfl
  ·rcases List.mem_append.1 hX with hX|hX
   ·simp only [ao.gh,bK] at hX
    subst hX; exact B
   ·exact H X hX
  ·cases k with
   |zero=>
    simp only [List.getElem?_cons_zero,Option.some.injEq] at hm ha
    subst hm ha
    exact ⟨by simp only; omega,e4'⟩
   |succ k=>exact AA k m a (by simpa using hm) (by simpa using ha)
  ·cases k with
   |zero=>
    simp only [List.getElem?_cons_zero,Option.some.injEq] at hm
    subst hm
    exact C y hy
   |succ k=>exact K k m y (by simpa using hm) hy
theorem Hk {w:World} {s:bT} {R1:World→al→Prop} {R2:World→de→Prop} {R3:World→bI→Prop} {R4:World→ck→Prop} (h1:ij al.cells 9 R1 w s.aM.kG) (hs: ∀ x,R1 w x→0≤x.iv∧x.iv≤255) (h2:ij de.cells 2 R2 w s.aj) (hc: ∀ x,R2 w x→ij ck.cells 3 R4 w x.aT) (h3:ij bI.cells 4 R3 w s.ae):
 ∃ (l:aW) (az:List RA) (kA:OA) (kC:Nat) (cA:OA) (cC:Nat) (bA:OA) (bC:Nat),s=bT.mk (bo.mk (bf.mk kA l.aM.length kC)) l.gG (bf.mk cA l.aj.length cC) (bf.mk bA l.ae.length bC) l.cG l.eg l.cN∧tQ l az∧
  ((rd kA l.aM.length 9 (l.aM.map al.cells)).holds w∧(rd cA l.aj.length 2 (List.zipWith ao.cells l.aj az)).holds w∧(eH (aU ao.gh l.aj az)).holds w∧(rd bA l.ae.length 4 (l.ae.map bI.cells)).holds w)∧l.gG=s.gG∧l.cG=s.cG∧l.eg=s.eg∧l.cN=s.cN:=by
 obtain ⟨⟨⟨ka,kn,kc⟩⟩,fa,⟨ca,cn,cc⟩,⟨ba,bn,bc⟩,fi,fk,mi⟩:=s
 obtain ⟨ts,E,M,N,O,T⟩:=h1
 obtain ⟨cs,B,C,H,AA,R⟩:=h2
 obtain ⟨bs,A,F,P,G,Q⟩:=h3
 simp only at E B A
 subst E B A
 obtain ⟨ms,az,J,D,S,K,L,_⟩:=uS (fun x hx=>hc x (H x hx))
 have t4':ts.length≤9223372036854775807:=O
 have c4':cs.length≤9223372036854775807:=AA
 have b4':bs.length≤9223372036854775807:=G
 refine ⟨⟨ts,fa,ms,bs,fi,fk,mi⟩,az,ka,kc,ca,cc,ba,bc,by simp only [D],⟨t4',fun x hx=>hs x (N x hx),by simp only; omega,by simp only; omega,b4',L⟩,⟨M,?_,K,F⟩,U,U,U,U⟩
 simp only at C ⊢
 rw [D,← J]; exact C
end
section
open Go.RowKit
theorem wb {w:World} {R:World→aK→Prop}: ∀ {l:List bp},(∀ x∈l,ij aK.cells 2 R w x.bW.ah)→ ∃ (ms:List av) (az:List RA),l.map bp.cells=List.zipWith av.cells ms az∧ms.length=l.length∧az.length=l.length∧(∀ X∈aU av.gh ms az,X.holds w)∧
 ∀ d∈ms,d.bW.ah.length≤9223372036854775807
 |[],_=>⟨[],[],rfl,rfl,rfl,(fun X hX=>by cases hX),fun d h=>by cases h⟩
 |x::l,h=>by
  obtain ⟨ms,az,D,E,F,G,H⟩:=wb (fun y hy=>h y (cW _ hy))
  obtain ⟨sg,A,B,AA,C,J⟩:=h x sm
  have e4':sg.length≤9223372036854775807:=C
  refine ⟨⟨x.Out,x.dE,x.Time,⟨x.bW.Start,x.bW.fK,sg⟩⟩::ms,(x.bW.ah.a,x.bW.ah.c)::az,?_,by simp [E],by simp [F],fun X hX=>?_,fun d hd=>?_⟩
  ·obtain ⟨o,f,t,⟨st,nw,⟨a,n,c⟩⟩⟩:=x
   simp only at A
   subst A
   simp only [List.map_cons,List.zipWith_cons_cons,D]
   rfl
  ·rcases List.mem_append.1 hX with hX|hX
   ·simp only [av.gh,bK] at hX
    subst hX; exact B
   ·exact G X hX
  ·rcases List.mem_cons.1 hd with rfl|hd
   ·exact e4'
   ·exact H d hd
theorem w5 {w:World} {R2:World→bp→Prop} {R:World→aK→Prop} (hc: ∀ x,R2 w x→ij aK.cells 2 R w x.bW.ah): ∀ {l:List bf},(∀ x∈l,ij bp.cells 7 R2 w x)→ ∃ (ms:List (List av)) (ha:List cD),(l.map fun s=>[vS s.a s.n s.c])=List.zipWith cz ms ha∧ms.length=l.length∧ha.length=l.length∧(∀ X∈aU iA ms ha,X.holds w)∧
 ∀ (k:Nat) h (a:cD),ms[k]? =some h→ha[k]? =some a→h.length≤9223372036854775807∧a.2.length=h.length∧ ∀ d∈h,d.bW.ah.length≤9223372036854775807
 |[],_=>⟨[],[],rfl,rfl,rfl,(fun X hX=>by cases hX),(fun k h a q=>by simp at q)⟩
 |x::l,h=>by
  obtain ⟨ms,ha,J,K,L,M,N⟩:=w5 hc (fun y hy=>h y (cW _ hy))
  obtain ⟨ds,C,G,H,AA,P⟩:=h x sm
  obtain ⟨dm,az,D,B,O,E,F⟩:=wb fun y hy=>hc y (H y hy)
  have e4':ds.length≤9223372036854775807:=AA
  refine ⟨dm::ms,((x.a,x.c),az)::ha,?_,by simp [K],by simp [L],fun X hX=>?_,fun k m a hm A=>?_⟩
  ·obtain ⟨a,n,c⟩:=x
   simp only at C
   subst C
   simp only [List.map_cons,List.zipWith_cons_cons,J,cz,B]
  ·rcases List.mem_append.1 hX with hX|hX
   ·unfold iA at hX
    rcases List.mem_cons.1 hX with rfl|hX
    ·simp only
     rw [B,← D]; exact G
    ·exact E X hX
   ·exact M X hX
  ·cases k with
   |zero=>
    simp only [List.getElem?_cons_zero,Option.some.injEq] at hm A
    subst hm A
    exact ⟨I,by simp only; omega,F⟩
   |succ k=>exact N k m a (by simpa using hm) (by simpa using A)
theorem G8 {w:World} {s:cj} {R1:World→al→Prop} {R2:World→de→Prop} {R3:World→bI→Prop} {R4:World→ck→Prop} {R5:World→Int→Prop} {R6:World→bf→Prop} {R7:World→bp→Prop} {R8:World→aK→Prop}
 (h1:ij al.cells 9 R1 w s.aA.aM.kG) (hs: ∀ x,R1 w x→0≤x.iv∧x.iv≤255) (h2:ij de.cells 2 R2 w s.aA.aj) (hc: ∀ x,R2 w x→ij ck.cells 3 R4 w x.aT) (h3:ij bI.cells 4 R3 w s.aA.ae)
 (h4:ij iC 1 R5 w s.aH) (h5:ij iC 1 R5 w s.cm) (h6:ij (fun s=>[vS s.a s.n s.c]) 1 R6 w s.aq) (h7: ∀ x,R6 w x→ij bp.cells 7 R7 w x) (h8: ∀ x,R7 w x→ij aK.cells 2 R8 w x.bW.ah):
 ∃ (r:cr) (az:List RA) (ha:List cD) (kA:OA) (kC:Nat) (cA:OA) (cC:Nat) (bA:OA) (bC:Nat) (slA:OA) (slC:Nat) (drA:OA) (drC:Nat) (heA:OA) (heC:Nat),
  s=cj.mk (bT.mk (bo.mk (bf.mk kA r.aA.aM.length kC)) r.aA.gG (bf.mk cA r.aA.aj.length cC) (bf.mk bA r.aA.ae.length bC) r.aA.cG r.aA.eg r.aA.cN) (bf.mk slA r.aH.length slC) (bf.mk drA r.cm.length drC) r.iN (bf.mk heA r.aq.length heC)∧tm r az ha∧
  ((rd kA r.aA.aM.length 9 (r.aA.aM.map al.cells)).holds w∧(rd cA r.aA.aj.length 2 (List.zipWith ao.cells r.aA.aj az)).holds w∧(eH (aU ao.gh r.aA.aj az)).holds w∧(rd bA r.aA.ae.length 4 (r.aA.ae.map bI.cells)).holds w∧
   (rd slA r.aH.length 1 (r.aH.map iC)).holds w∧(rd drA r.cm.length 1 (r.cm.map iC)).holds w∧(rd heA r.aq.length 1 (List.zipWith cz r.aq ha)).holds w∧(eH (aU iA r.aq ha)).holds w):=by
 obtain ⟨ln,⟨sa,sn,sc⟩,⟨da,dn,dc⟩,tu,⟨ea,en,ec⟩⟩:=s
 obtain ⟨l,az,kA,kC,cA,cC,bA,bC,e,A,hh,_⟩:=Hk (s:=ln) h1 hs h2 hc h3
 subst e
 obtain ⟨sl,F,N,T,O,AA⟩:=h4
 obtain ⟨dr,B,G,P,H,Q⟩:=h5
 obtain ⟨he,D,E,L,M,S⟩:=h6
 obtain ⟨ms,ha,AB,C,R,J,K⟩:=w5 h8 (fun x hx=>h7 x (L x hx))
 simp only at F B D
 subst F B D
 have s4':sl.length≤9223372036854775807:=O
 have d4':dr.length≤9223372036854775807:=H
 have q4':he.length≤9223372036854775807:=M
 refine ⟨⟨l,sl,dr,tu,ms⟩,az,ha,kA,kC,cA,cC,bA,bC,sa,sc,da,dc,ea,ec,by simp only [C],⟨A,s4',d4',by simp only; omega,by simp only; omega,K⟩,hh.1,hh.2.1,hh.2.2.1,hh.2.2.2,N,G,?_,J⟩
 simp only at E ⊢
 rw [C,← AB]; exact E
end
section
open Go.ChangeShapes Go.WideShapes Go.ChangeAt Go.RowKit
theorem SN:Tryz.prog.cellsOf 32=11:=by kernel_rfl
theorem RB:Tryz.prog.cellsOf 28=7:=by kernel_rfl
theorem Ro:Tryz.prog.cellsOf 24=1:=by kernel_rfl
theorem SQ:Tryz.prog.cellsOf 22=1:=by kernel_rfl
theorem NM:Tryz.prog.cellsOf 163=9:=by kernel_rfl
theorem Aj:Tryz.prog.cellsOf 3=1:=by kernel_rfl
def yL (w:World) (n:Int):Prop:=qA n
theorem Ak:sL Tryz.prog 3 Int iC yL:=Pp mF
theorem DR:Tryz.prog.cellsOf 47=2:=by kernel_rfl
structure CR (w:World) (s:ab):Prop where
 Lo:yL w s.Lo
 Hi:yL w s.Hi
theorem Rs:fL Tryz.prog 47=some [(3,0),(3,1)]:=by kernel_rfl
theorem CM:sL Tryz.prog 47 ab ab.cells CR:=fun {H} enc w base sp A fuel cs x h=>by
 obtain ⟨hl,hp⟩:=jo Rs h
 obtain ⟨M,O,F⟩:=hp 0 3 0 rfl
 obtain ⟨K,B,AA⟩:=Ak _ _ _ _ _ _ _ _ F
 obtain ⟨N,P,G⟩:=hp 1 3 1 rfl
 obtain ⟨L,C,J⟩:=Ak _ _ _ _ _ _ _ _ G
 refine ⟨⟨K,L⟩,?_,⟨AA,J⟩⟩
 have E:=gU (hl.trans DR) (by rw [Aj]) C
 have D:=df B (m:=1) (by rw [Aj]) E
 exact D
theorem Ur:Tryz.prog.cellsOf 5=1:=by kernel_rfl
def Ub (w:World) (n:Int):Prop:=0≤n∧n≤255
theorem Un:sL Tryz.prog 5 Int KU Ub:=QY Rj
structure Ia (w:World) (s:al):Prop where
 Id:yL w s.Id
 jn:CR w s.jn
 j_:CR w s.j_
 dC:CR w s.dC
 iv:Ub w s.iv
 wF:yL w s.wF
theorem So:fL Tryz.prog 163=some [(3,0),(47,1),(47,3),(47,5),(5,7),(3,8)]:=by kernel_rfl
theorem RQ:sL Tryz.prog 163 al al.cells Ia:=fun {H} enc w base sp A fuel cs x h=>by
 obtain ⟨hl,hp⟩:=jo So h
 obtain ⟨g,p,O⟩:=hp 0 3 0 rfl
 obtain ⟨a,B,AA⟩:=Ak _ _ _ _ _ _ _ _ O
 obtain ⟨i,q,P⟩:=hp 1 47 1 rfl
 obtain ⟨b,C,V⟩:=CM _ _ _ _ _ _ _ _ P
 obtain ⟨j,r,Q⟩:=hp 2 47 3 rfl
 obtain ⟨c,D,W⟩:=CM _ _ _ _ _ _ _ _ Q
 obtain ⟨k,s,R⟩:=hp 3 47 5 rfl
 obtain ⟨d,E,X⟩:=CM _ _ _ _ _ _ _ _ R
 obtain ⟨l,t,S⟩:=hp 4 5 7 rfl
 obtain ⟨e,F,Y⟩:=Un _ _ _ _ _ _ _ _ S
 obtain ⟨o,u,T⟩:=hp 5 3 8 rfl
 obtain ⟨f,G,Z⟩:=Ak _ _ _ _ _ _ _ _ T
 refine ⟨⟨a,b,c,d,e,f⟩,?_,⟨AA,V,W,X,Y,Z⟩⟩
 have N:=gU (hl.trans NM) (by rw [Aj]) G
 have M:=df F (m:=8) (by rw [Ur]) N
 have L:=df E (m:=7) (by rw [DR]) M
 have K:=df D (m:=5) (by rw [DR]) L
 have J:=df C (m:=3) (by rw [DR]) K
 have AB:=df B (m:=1) (by rw [Aj]) J
 exact AB
def Rm (w:World) (s:bf):Prop:= ∃ l:List al,s.n=l.length∧(rd s.a l.length 9 (l.map al.cells)).holds w∧(∀ x∈l,Ia w x)∧l.length≤maxLen∧s.n≤s.c
theorem Tv:sL Tryz.prog 22 bf (fun s=>[vS s.a s.n s.c]) Rm:=mg O9 NM RQ
structure Qd (w:World) (s:bo):Prop where
 kG:Rm w s.kG
theorem SL:fL Tryz.prog 24=some [(22,0)]:=by kernel_rfl
theorem S7:sL Tryz.prog 24 bo bo.cells Qd:=fun {H} enc w base sp A fuel cs x h=>by
 obtain ⟨hl,hp⟩:=jo SL h
 obtain ⟨G,AA,D⟩:=hp 0 22 0 rfl
 obtain ⟨F,B,E⟩:=Tv _ _ _ _ _ _ _ _ D
 refine ⟨⟨F⟩,?_,⟨E⟩⟩
 have C:=gU (hl.trans Ro) (by rw [SQ]) B
 exact C
theorem Tk:Tryz.prog.cellsOf 25=1:=by kernel_rfl
theorem Ny:Tryz.prog.cellsOf 119=2:=by kernel_rfl
theorem Rc:Tryz.prog.cellsOf 117=1:=by kernel_rfl
theorem Nr:Tryz.prog.cellsOf 137=3:=by kernel_rfl
structure JM (w:World) (s:ck):Prop where
 At:yL w s.At
 dD:CR w s.dD
theorem Rb:fL Tryz.prog 137=some [(3,0),(47,1)]:=by kernel_rfl
theorem QV:sL Tryz.prog 137 ck ck.cells JM:=fun {H} enc w base sp A fuel cs x h=>by
 obtain ⟨hl,hp⟩:=jo Rb h
 obtain ⟨M,O,F⟩:=hp 0 3 0 rfl
 obtain ⟨K,B,AA⟩:=Ak _ _ _ _ _ _ _ _ F
 obtain ⟨N,P,G⟩:=hp 1 47 1 rfl
 obtain ⟨L,C,J⟩:=CM _ _ _ _ _ _ _ _ G
 refine ⟨⟨K,L⟩,?_,⟨AA,J⟩⟩
 have E:=gU (hl.trans Nr) (by rw [DR]) C
 have D:=df B (m:=1) (by rw [Aj]) E
 exact D
def Np (w:World) (s:bf):Prop:= ∃ l:List ck,s.n=l.length∧(rd s.a l.length 3 (l.map ck.cells)).holds w∧(∀ x∈l,JM w x)∧l.length≤maxLen∧s.n≤s.c
theorem Ql:sL Tryz.prog 117 bf (fun s=>[vS s.a s.n s.c]) Np:=mg N6 Nr QV
structure Jx (w:World) (s:de):Prop where
 cU:yL w s.cU
 aT:Np w s.aT
theorem Qm:fL Tryz.prog 119=some [(3,0),(117,1)]:=by kernel_rfl
theorem Qo:sL Tryz.prog 119 de de.cells Jx:=fun {H} enc w base sp A fuel cs x h=>by
 obtain ⟨hl,hp⟩:=jo Qm h
 obtain ⟨M,O,F⟩:=hp 0 3 0 rfl
 obtain ⟨K,B,AA⟩:=Ak _ _ _ _ _ _ _ _ F
 obtain ⟨N,P,G⟩:=hp 1 117 1 rfl
 obtain ⟨L,C,J⟩:=Ql _ _ _ _ _ _ _ _ G
 refine ⟨⟨K,L⟩,?_,⟨AA,J⟩⟩
 have E:=gU (hl.trans Ny) (by rw [Rc]) C
 have D:=df B (m:=1) (by rw [Aj]) E
 exact D
def QH (w:World) (s:bf):Prop:= ∃ l:List de,s.n=l.length∧(rd s.a l.length 2 (l.map de.cells)).holds w∧(∀ x∈l,Jx w x)∧l.length≤maxLen∧s.n≤s.c
theorem Th:sL Tryz.prog 25 bf (fun s=>[vS s.a s.n s.c]) QH:=mg Ra Ny Qo
theorem SU:Tryz.prog.cellsOf 26=1:=by kernel_rfl
theorem NY:Tryz.prog.cellsOf 141=4:=by kernel_rfl
theorem NW:Tryz.prog.cellsOf 139=3:=by kernel_rfl
structure Nz (w:World) (s:cP):Prop where
 aV:yL w s.aV
 lf:CR w s.lf
theorem QJ:fL Tryz.prog 139=some [(3,0),(47,1)]:=by kernel_rfl
theorem RZ:sL Tryz.prog 139 cP cP.cells Nz:=fun {H} enc w base sp A fuel cs x h=>by
 obtain ⟨hl,hp⟩:=jo QJ h
 obtain ⟨M,O,F⟩:=hp 0 3 0 rfl
 obtain ⟨K,B,AA⟩:=Ak _ _ _ _ _ _ _ _ F
 obtain ⟨N,P,G⟩:=hp 1 47 1 rfl
 obtain ⟨L,C,J⟩:=CM _ _ _ _ _ _ _ _ G
 refine ⟨⟨K,L⟩,?_,⟨AA,J⟩⟩
 have E:=gU (hl.trans NW) (by rw [DR]) C
 have D:=df B (m:=1) (by rw [Aj]) E
 exact D
structure H9 (w:World) (s:bI):Prop where
 kv:Nz w s.kv
 jr:yL w s.jr
theorem P9:fL Tryz.prog 141=some [(139,0),(3,3)]:=by kernel_rfl
theorem Q7:sL Tryz.prog 141 bI bI.cells H9:=fun {H} enc w base sp A fuel cs x h=>by
 obtain ⟨hl,hp⟩:=jo P9 h
 obtain ⟨M,O,F⟩:=hp 0 139 0 rfl
 obtain ⟨K,B,AA⟩:=RZ _ _ _ _ _ _ _ _ F
 obtain ⟨N,P,G⟩:=hp 1 3 3 rfl
 obtain ⟨L,C,J⟩:=Ak _ _ _ _ _ _ _ _ G
 refine ⟨⟨K,L⟩,?_,⟨AA,J⟩⟩
 have E:=gU (hl.trans NY) (by rw [Aj]) C
 have D:=df B (m:=3) (by rw [NW]) E
 exact D
def Q_ (w:World) (s:bf):Prop:= ∃ l:List bI,s.n=l.length∧(rd s.a l.length 4 (l.map bI.cells)).holds w∧(∀ x∈l,H9 w x)∧l.length≤maxLen∧s.n≤s.c
theorem SY:sL Tryz.prog 26 bf (fun s=>[vS s.a s.n s.c]) Q_:=mg Pa NY Q7
structure Rn (w:World) (s:bT):Prop where
 aM:Qd w s.aM
 gG:yL w s.gG
 aj:QH w s.aj
 ae:Q_ w s.ae
 cG:yL w s.cG
 eg:yL w s.eg
 cN:yL w s.cN
theorem Tg:fL Tryz.prog 28=some [(24,0),(3,1),(25,2),(26,3),(3,4),(3,5),(3,6)]:=by kernel_rfl
theorem SR:sL Tryz.prog 28 bT bT.cells Rn:=fun {H} enc w base sp A fuel cs x h=>by
 obtain ⟨hl,hp⟩:=jo Tg h
 obtain ⟨o,v,Q⟩:=hp 0 24 0 rfl
 obtain ⟨e,B,X⟩:=S7 _ _ _ _ _ _ _ _ Q
 obtain ⟨p,y,R⟩:=hp 1 3 1 rfl
 obtain ⟨f,C,Y⟩:=Ak _ _ _ _ _ _ _ _ R
 obtain ⟨q,z,S⟩:=hp 2 25 2 rfl
 obtain ⟨g,D,Z⟩:=Th _ _ _ _ _ _ _ _ S
 obtain ⟨r,y3,T⟩:=hp 3 26 3 rfl
 obtain ⟨i,E,a⟩:=SY _ _ _ _ _ _ _ _ T
 obtain ⟨s,y4,AA⟩:=hp 4 3 4 rfl
 obtain ⟨j,F,b⟩:=Ak _ _ _ _ _ _ _ _ AA
 obtain ⟨t,y5,V⟩:=hp 5 3 5 rfl
 obtain ⟨k,G,c⟩:=Ak _ _ _ _ _ _ _ _ V
 obtain ⟨u,y6,W⟩:=hp 6 3 6 rfl
 obtain ⟨l,AB,d⟩:=Ak _ _ _ _ _ _ _ _ W
 refine ⟨⟨e,f,g,i,j,k,l⟩,?_,⟨X,Y,Z,a,b,c,d⟩⟩
 have P:=gU (hl.trans RB) (by rw [Aj]) AB
 have O:=df G (m:=6) (by rw [Aj]) P
 have N:=df F (m:=5) (by rw [Aj]) O
 have M:=df E (m:=4) (by rw [SU]) N
 have L:=df D (m:=3) (by rw [Tk]) M
 have K:=df C (m:=2) (by rw [Aj]) L
 have J:=df B (m:=1) (by rw [Ro]) K
 exact J
theorem QX:Tryz.prog.cellsOf 29=1:=by kernel_rfl
def O2 (w:World) (s:bf):Prop:= ∃ l:List Int,s.n=l.length∧(rd s.a l.length 1 (l.map iC)).holds w∧(∀ x∈l,yL w x)∧l.length≤maxLen∧s.n≤s.c
theorem RO:sL Tryz.prog 29 bf (fun s=>[vS s.a s.n s.c]) O2:=mg Rr Aj Ak
theorem Tx:Tryz.prog.cellsOf 30=1:=by kernel_rfl
theorem TD:Tryz.prog.cellsOf 71=1:=by kernel_rfl
theorem Qp:Tryz.prog.cellsOf 76=7:=by kernel_rfl
theorem Ud:Tryz.prog.cellsOf 4=1:=by kernel_rfl
def Tf (w:World) (n:Bool):Prop:=True
theorem T3:sL Tryz.prog 4 Bool (fun b=>[vB b]) Tf:=Mx SI
theorem Qu:Tryz.prog.cellsOf 74=3:=by kernel_rfl
theorem TF:Tryz.prog.cellsOf 72=1:=by kernel_rfl
theorem Nq:Tryz.prog.cellsOf 165=2:=by kernel_rfl
structure Ig (w:World) (s:aK):Prop where
 fM:yL w s.fM
 Read:yL w s.Read
theorem Ry:fL Tryz.prog 165=some [(3,0),(3,1)]:=by kernel_rfl
theorem Qs:sL Tryz.prog 165 aK aK.cells Ig:=fun {H} enc w base sp A fuel cs x h=>by
 obtain ⟨hl,hp⟩:=jo Ry h
 obtain ⟨M,O,F⟩:=hp 0 3 0 rfl
 obtain ⟨K,B,AA⟩:=Ak _ _ _ _ _ _ _ _ F
 obtain ⟨N,P,G⟩:=hp 1 3 1 rfl
 obtain ⟨L,C,J⟩:=Ak _ _ _ _ _ _ _ _ G
 refine ⟨⟨K,L⟩,?_,⟨AA,J⟩⟩
 have E:=gU (hl.trans Nq) (by rw [Aj]) C
 have D:=df B (m:=1) (by rw [Aj]) E
 exact D
def Se (w:World) (s:bf):Prop:= ∃ l:List aK,s.n=l.length∧(rd s.a l.length 2 (l.map aK.cells)).holds w∧(∀ x∈l,Ig w x)∧l.length≤maxLen∧s.n≤s.c
theorem TQ:sL Tryz.prog 72 bf (fun s=>[vS s.a s.n s.c]) Se:=mg Qv Nq Qs
structure Q5 (w:World) (s:ew):Prop where
 Start:yL w s.Start
 fK:yL w s.fK
 ah:Se w s.ah
theorem TO:fL Tryz.prog 74=some [(3,0),(3,1),(72,2)]:=by kernel_rfl
theorem TE:sL Tryz.prog 74 ew ew.cells Q5:=fun {H} enc w base sp A fuel cs x h=>by
 obtain ⟨hl,hp⟩:=jo TO h
 obtain ⟨R,AA,AB⟩:=hp 0 3 0 rfl
 obtain ⟨O,B,L⟩:=Ak _ _ _ _ _ _ _ _ AB
 obtain ⟨S,V,J⟩:=hp 1 3 1 rfl
 obtain ⟨P,C,M⟩:=Ak _ _ _ _ _ _ _ _ J
 obtain ⟨T,W,K⟩:=hp 2 72 2 rfl
 obtain ⟨Q,D,N⟩:=TQ _ _ _ _ _ _ _ _ K
 refine ⟨⟨O,P,Q⟩,?_,⟨L,M,N⟩⟩
 have G:=gU (hl.trans Qu) (by rw [TF]) D
 have F:=df C (m:=2) (by rw [Aj]) G
 have E:=df B (m:=1) (by rw [Aj]) F
 exact E
structure Ou (w:World) (s:bp):Prop where
 Out:Tf w s.Out
 dE:Tf w s.dE
 Time:CR w s.Time
 bW:Q5 w s.bW
theorem SS:fL Tryz.prog 76=some [(4,0),(4,1),(47,2),(74,4)]:=by kernel_rfl
theorem Ts:sL Tryz.prog 76 bp bp.cells Ou:=fun {H} enc w base sp A fuel cs x h=>by
 obtain ⟨hl,hp⟩:=jo SS h
 obtain ⟨W,a,K⟩:=hp 0 4 0 rfl
 obtain ⟨S,B,O⟩:=T3 _ _ _ _ _ _ _ _ K
 obtain ⟨X,b,L⟩:=hp 1 4 1 rfl
 obtain ⟨T,C,P⟩:=T3 _ _ _ _ _ _ _ _ L
 obtain ⟨Y,c,M⟩:=hp 2 47 2 rfl
 obtain ⟨AA,D,Q⟩:=CM _ _ _ _ _ _ _ _ M
 obtain ⟨Z,d,N⟩:=hp 3 74 4 rfl
 obtain ⟨V,E,R⟩:=TE _ _ _ _ _ _ _ _ N
 refine ⟨⟨S,T,AA,V⟩,?_,⟨O,P,Q,R⟩⟩
 have J:=gU (hl.trans Qp) (by rw [Qu]) E
 have AB:=df D (m:=4) (by rw [DR]) J
 have G:=df C (m:=2) (by rw [Ud]) AB
 have F:=df B (m:=1) (by rw [Ud]) G
 exact F
def OZ (w:World) (s:bf):Prop:= ∃ l:List bp,s.n=l.length∧(rd s.a l.length 7 (l.map bp.cells)).holds w∧(∀ x∈l,Ou w x)∧l.length≤maxLen∧s.n≤s.c
theorem S6:sL Tryz.prog 71 bf (fun s=>[vS s.a s.n s.c]) OZ:=mg Sv Qp Ts
def RE (w:World) (s:bf):Prop:= ∃ l:List bf,s.n=l.length∧(rd s.a l.length 1 (l.map (fun s=>[vS s.a s.n s.c]))).holds w∧(∀ x∈l,OZ w x)∧l.length≤maxLen∧s.n≤s.c
theorem TC:sL Tryz.prog 30 bf (fun s=>[vS s.a s.n s.c]) RE:=mg QU TD S6
structure Tt (w:World) (s:cj):Prop where
 aA:Rn w s.aA
 aH:O2 w s.aH
 cm:O2 w s.cm
 iN:yL w s.iN
 aq:RE w s.aq
theorem Rz:fL Tryz.prog 32=some [(28,0),(29,7),(29,8),(3,9),(30,10)]:=by kernel_rfl
theorem Tr:sL Tryz.prog 32 cj cj.cells Tt:=fun {H} enc w base sp A fuel cs x h=>by
 obtain ⟨hl,hp⟩:=jo Rz h
 obtain ⟨b,g,M⟩:=hp 0 28 0 rfl
 obtain ⟨W,B,R⟩:=SR _ _ _ _ _ _ _ _ M
 obtain ⟨c,i,N⟩:=hp 1 29 7 rfl
 obtain ⟨X,C,S⟩:=RO _ _ _ _ _ _ _ _ N
 obtain ⟨d,j,O⟩:=hp 2 29 8 rfl
 obtain ⟨Y,D,T⟩:=RO _ _ _ _ _ _ _ _ O
 obtain ⟨e,k,P⟩:=hp 3 3 9 rfl
 obtain ⟨Z,E,AA⟩:=Ak _ _ _ _ _ _ _ _ P
 obtain ⟨f,l,Q⟩:=hp 4 30 10 rfl
 obtain ⟨a,F,V⟩:=TC _ _ _ _ _ _ _ _ Q
 refine ⟨⟨W,X,Y,Z,a⟩,?_,⟨R,S,T,AA,V⟩⟩
 have L:=gU (hl.trans SN) (by rw [Tx]) F
 have K:=df E (m:=10) (by rw [Aj]) L
 have J:=df D (m:=9) (by rw [QX]) K
 have AB:=df C (m:=8) (by rw [QX]) J
 have G:=df B (m:=7) (by rw [RB]) AB
 exact G
theorem vl:ownKnob Tryz.prog.godebug=none:=by kernel_rfl
theorem uu:laidOutB Tryz.prog=true:=by kernel_rfl
theorem sI (os:Os) (started:os.Started) (H:Type) (enc:TypeId×Value→H):
 ReturnsInHanded {} Tryz.checked os 5 .any (fun w args=>(Rows.raceRepairsSpec.pre enc Tryz.prog Tryz.f5 [] false w args∧laidMetH Tryz.prog [("kreisel/race.table",Rows.laid_kreisel_race_table)] w)∧sizedMet enc Tryz.prog Tryz.f5 (OpenSpec.ofChange Rows.raceRepairsSpec) false w args) (Rows.raceRepairsSpec.post enc Tryz.prog Tryz.f5 false true false false):=by
 refine returnsInHanded_of_change_and (C:=Tryz.checked) (X:=(fun w _=>laidMetH Tryz.prog [("kreisel/race.table",Rows.laid_kreisel_race_table)] w)) (fun _ _ _ hh h=>h.of_heap hh) vl started kr Tryz.func5
  (ChangeSpec.witness_shaped (enc:=enc) (C:=Tryz.checked) (os:=os) (X:=(fun w _=>laidMetH Tryz.prog [("kreisel/race.table",Rows.laid_kreisel_race_table)] w)) false (World.doorLaid Tryz.prog 400 os) #[.agg #[(vS none 0 0),(vI 0),(vS none 0 0),(vS none 0 0),(vI 0),(vI 0),(vI 0),(vS none 0 0),(vS none 0 0),(vI 0),(vS none 0 0)],vI 0,vI 0,.agg #[(vI 0),(vI 0)]] 8 rfl (World.shaped_of_RefB kr kr) kr kr kr (CU os _)) ?_
 intro W base args ds gs before E hW _ _ hL _
 have D: ∀ (j:Nat) t v,Tryz.f5.params[j]? =some t→args[j]? =some v→Value.okWide Tryz.prog W .any base t v:=E
 have hW':=hW
 obtain ⟨p,q,K,hV,rfl,f,g⟩:=hW
 have hA:DataW.TrodAll enc Tryz.prog W 0 (fun _=>true) true Tryz.f5.params.toList args.toList ds p:=K
 have F:=hA
 rw [Tryz.params5] at hA D
 obtain ⟨Q,z,d0,AD,p0,q0,L,rfl,rfl,a,i⟩:=trodAll_cons hA
 obtain ⟨R,AA,d1,V,p1,q1,rfl,rfl,rfl,b,l⟩:=trodAll_cons i
 obtain ⟨S,AB,d2,Y,p2,q2,rfl,rfl,rfl,c,m⟩:=trodAll_cons l
 obtain ⟨T,AC,d3,Z,p3,q3,rfl,rfl,rfl,d,o⟩:=trodAll_cons m
 obtain ⟨rfl,rfl,rfl⟩:=trodAll_nil o
 obtain rfl:args= #[Q,R,S,T]:=by cases args; simp_all
 obtain ⟨rfl,rfl⟩:=trodVars_none hV
 obtain ⟨s0,rfl,R0⟩:=v7 Rz Tr (D 0 32 Q rfl rfl) a
 obtain ⟨s,rfl,R1⟩:=E1 (k:= .i64) mF (D 1 3 R rfl rfl) b
 obtain ⟨u,rfl,R2⟩:=E1 (k:= .i64) mF (D 2 3 S rfl rfl) c
 obtain ⟨y,rfl,R3⟩:=v7 Rs CM (D 3 47 T rfl rfl) d
 simp only [List.append_nil] at hW' F
 have J:=x3 hL
 obtain ⟨r,az,ha,kA,kC,cA,cC,bA,bC,O,P,drA,drC,M,N,rfl,G,B⟩:=G8 (R1:=Ia) (R2:=Jx) (R3:=H9) (R4:=JM) (R5:=yL) (R6:=OZ) (R7:=Ou) (R8:=Ig) R0.aA.aM.kG (fun x hx=>hx.iv) R0.aA.aj (fun x hx=>hx.aT) R0.aA.ae R0.aH R0.cm R0.aq (fun x hx=>hx) (fun x hx=>hx.bW.ah)
 have AE:=(x9 r kA kC az cA cC bA bC O P drA drC ha M N s u y G).run W (by intro A hA; simp only [dL,List.not_mem_nil,or_false] at hA; rcases hA with rfl|rfl|rfl|rfl|rfl|rfl|rfl|rfl|rfl; exact J; exact B.1; exact B.2.1; exact B.2.2.1; exact B.2.2.2.1; exact B.2.2.2.2.1; exact B.2.2.2.2.2.1; exact B.2.2.2.2.2.2.1; exact B.2.2.2.2.2.2.2)
 refine (AE).mono fun e W' ⟨he,hk⟩=>?_
 subst he
 exact ⟨_,U,IJ uu hW' F U U kr hk.below kr SI⟩
theorem ti:Rows.RaceRepairsSaid:=
 OpenClaim.holds_of_wide 5 Tryz.f5 rfl rfl rfl rfl rfl rfl rfl ⟨rfl,rfl,rfl,rfl,rfl⟩ rfl rfl rfl rfl rfl kr Tryz.func5 rZ
  (of_decide_eq_true kr) (by unfold Func.isWrapper; first|(rw [if_pos (by decide+kernel)]; kernel_rfl)|(rw [if_neg (by decide+kernel)]; exact ⟨rfl,rfl⟩))
  (fun os started H enc _=>sI os started H enc)
/-- the statement -/
theorem raceRepairs_said:Rows.RaceRepairsCardSaid:=
 Claim7.holds_tied_plain_at .later [] [.funcsDeep] true (true,"981a7e6aa00b04bbbf7562520f02155a1be509dd9d233787eb37c6cf32ecaf8a") true
  ti (fun _ h=>by cases h) kr (fun _ h=>by cases h) raceRepairs_row_tie rfl ⟨rfl,rfl⟩ kr rfl
  (fun f fn hf B=>by
   obtain rfl:f=5:=Option.some.inj ((show Tryz.prog.funcNamed "kreisel/kreisellaw06.RaceRepairs"=some 5 by kernel_rfl).symm.trans hf) |>.symm
   obtain rfl:fn=Tryz.f5:=(Option.some.inj (Tryz.func5.symm.trans B)).symm
   exact ⟨kr,fun j t ht=>by
    rw [Tryz.params5] at ht
    have hm:t∈([32,3,3,47]:List Nat):=by simpa using Array.mem_of_getElem? ht
    have A:(([32,3,3,47]:List Nat).all fun u=> !Tryz.prog.wantsStandIn u)=true:=by kernel_rfl
    exact (show Tryz.prog.wantsStandIn t=false by simpa using List.all_eq_true.1 A t hm)⟩)
  kr
#print axioms raceRepairs_said
end
end Go.Proofs.YtcoejkiaokbmpaaGreatDoor
