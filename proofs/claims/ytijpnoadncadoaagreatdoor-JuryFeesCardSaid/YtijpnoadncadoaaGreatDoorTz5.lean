/-
 The statement juryFees_said, part 5 of 8: SeqO, RankP, TabP, NestS, Grp, JSeq, JTop, JFees, JMor, JFeeL, ExL, Twin, Fresh, Rep, ExJ, Win6, JWin, JAlv, DrawB, B1, Jw1, IdxK, Jw2, S1, Frozen, MarkD, Marks, Follow, OpenM, V1, V3, B4, B2, B3, B5, B6, V2.
 Conditions: none.
-/
import Derived.Test.YtijpnoadncadoaaGreatDoorTz1
import Derived.Test.YtijpnoadncadoaaGreatDoorTz2
import Derived.Test.YtijpnoadncadoaaGreatDoorTz3
import Derived.Test.YtijpnoadncadoaaGreatDoorTz4
namespace Go.Proofs.YtijpnoadncadoaaGreatDoor
set_option maxRecDepth 100000
set_option maxHeartbeats 4000000
set_option linter.unusedVariables false
section
open Go.RowKit
abbrev Ue (C:List aw) (i j:Nat):List Nat:=i::j::(List.range C.length).filter fun k=>k != i&&k != j
def SP {σ:Type} (w0:World) (P:Program) (l:Nat) (step:σ→List Value→aw→σ→Prop) (J:σ→aw→Prop) (Z:aw→Prop):Prop:=
 ∀ k x R k' A w,step k x R k'→J k A→w0.heap.size≤w.heap.size→(cd [A,R]).holds w→YieldAt (Fw none) 0 P l x.toArray w fun e w'=>
  (e= .returned (.bool true)∧ ∃ B,J k' B∧Mv (cd [A,R]) B w w')∨(e= .returned (.bool false)∧ ∃ B,Z B∧Mv (cd [A,R]) B w w')
structure OP {σ:Type} (P:Program) (f:FuncId) (fi ca:List Value) (Cp:List aw) (s0:σ) (step:σ→List Value→aw→σ→Prop) (fin:σ→Prop):Prop where
 go:sW P f=true
 run: ∀ (l:Nat) (J:σ→aw→Prop) (Z:aw→Prop) (A0:aw) (w:World),SP w P l step J Z→J s0 A0→A0.holds w→(∀ A∈Cp,A.holds w)→(∀ A∈Cp,Cq A0 A.ro)→
  Calls P f (fi++Value.func (.yield l) #[] #[]::ca).toArray w (Bo J Z fin A0 w)
theorem Ld {σ:Type} {P:Program} {f:FuncId} {fn:Func} {c:Code} {fi ca:List Value} {Cp:List aw} {s0:σ} {step:σ→List Value→aw→σ→Prop} {fin:σ→Prop} (hgo:sW P f=true) (hf:P.funcs[f]? =some fn) (hb:fn.body=some c) (hn:Nat.ble (fi.length+ca.length+1) fn.ntmps=true)
 (h: ∀ (l:Nat) (J:σ→aw→Prop) (Z:aw→Prop) (A0:aw) (w0:World) (Q:dq),SP w0 P l step J Z→J s0 A0→Fo A0 w0 A0→
  (∀ D L C,LJ ⟨P,none,fn.ntmps,⟨A0.wf,fun _=>True⟩,w0⟩ fn (Bo J Z fin A0 w0) D L C→KJ ⟨P,none,fn.ntmps,⟨A0.wf,fun _=>True⟩,w0⟩ (Q .ret) D L C)→
  (∀ D L C,LJ ⟨P,none,fn.ntmps,⟨A0.wf,fun _=>True⟩,w0⟩ fn (Bo J Z fin A0 w0) D L C→KJ ⟨P,none,fn.ntmps,⟨A0.wf,fun _=>True⟩,w0⟩ (Q .normal) D L C)→
  WJ ⟨P,none,fn.ntmps,⟨A0.wf,fun _=>True⟩,w0⟩ c Q [] (MZ (fi++Value.func (.yield l) #[] #[]::ca)) (A0::Cp.map aw.ro)):OP P f fi ca Cp s0 step fin:=by
 refine ⟨hgo,fun l J Z A0 w hY hJ hA F E=>?_⟩
 refine zW hf hb (by simpa [Nat.add_assoc] using hn) (h l J Z A0 w · hY hJ (fun b hb=> .inl hb)) ?_
 have G:=qV F
 refine ⟨dR.refl _ _,fun A hA'=>?_,List.Pairwise.cons (fun B hB=>?_) G.sep,fun A hA' b hb=>?_,fun _ _ _ _=> .inr trivial⟩
 ·rcases bR.1 hA' with rfl|hA'
  ·exact hA
  ·exact G.holds A hA'
 ·obtain ⟨B',hB',rfl⟩:=cy.1 hB
  exact E B' hB'
 ·rcases bR.1 hA' with rfl|hA'
  ·exact .inr hb
  ·obtain ⟨B',hB',rfl⟩:=cy.1 hA'
   exact hb.elim
section
variable {E:e9} {ops:Array Oper} {Q:dq} {rest:List Oper} {D:List Deferred} {L:List (Nat×Value)} {C:List aw}
variable {d:Nat} {ty:TypeId} {ps:String} {af:Array Edge} {g:Option (Nat×Bool)}
/-- a call of yield -/
theorem Im {σ:Type} {fop:Operand} {xs:Array Operand} {ts:Array TypeId} {l:Nat} {k k':σ} {vs:List Value} {step:σ→List Value→aw→σ→Prop} {J:σ→aw→Prop} {Z:aw→Prop} {A0 A R:aw} {C1:List aw} (i j:Nat) (hS:E.S=⟨A0.wf,fun _=>True⟩) (hY:SP E.w0 E.P l step J Z) (hJ:J k A) (hF:Fo A0 E.w0 A) (hg:kj ops L g=true) (hf:ev L fop=some (.func (.yield l) #[] #[]))
 (hx:evs L xs.toList=some vs) (hk:step k vs R k') (hR:R.wr=true) (hn:decide (Ue C i j).Nodup=true) (hC:pH C (Ue C i j)=some (A::R::C1)) (hd:Nat.blt d E.n=true)
 (k1: ∀ B,J k' B→Fo A0 E.w0 B→RJ E ops Q rest D ((d,.bool true)::L) (B::C1))
 (k2: ∀ B,Z B→Fo A0 E.w0 B→RJ E ops Q rest D ((d,.bool false)::L) (B::C1)):
 RJ E ops Q (⟨some d,.call {callee:= .value fop,args:=xs,argTypes:=ts},ty,ps,af,g⟩::rest) D L C:=by
 intro a w F N
 have AA:St E.S E.w0 ([A,R]++C1) w:=St.kG _ hn (p_ hC) N
 have hs:=AA.tied
 have hd':d<E.n:=by rw [← Nat.blt_eq]; exact hd
 unfold sG
 rw [if_pos (eB F hg)]
 have O:xs.map a.eval=vs.toArray:=by
  have:=F.evs hx
  apply Array.ext'
  simp [this]
 obtain ⟨fn,tmps,assign,body,hy,hr⟩:=hY k vs R k' A w hk hJ hs.keeps.size (hs.holds _ cJ)
 have H:(execOp a.eval ⟨some d,.call {callee:= .value fop,args:=xs,argTypes:=ts},ty,ps,af,g⟩).run E.P w= .ok (.round l fn tmps assign body) w:=by
  simp [execOp,resolve,F.ev hf,Deferred.ofValue,invoke,O,hy]
 refine ⟨fun _ _=>trivial,?_⟩
 rw [Oper.semAt_eq _ _ _ sm,H]
 refine ⟨fun h=>by simp at h,?_⟩
 have G: ∀ (B:aw) (w':World),Mv (cd [A,R]) B w w'→Fo A0 E.w0 B:=fun B w' m b hb=>by
  rcases m.fr b hb with ⟨X,hX,K⟩|K
  ·rcases bR.1 hX with rfl|hX
   ·exact hF b K
   ·rw [cm] at hX; subst hX
    rcases AA.own X sm b (X.whole hR b K) with M|M
    ·exact .inr M
    ·rw [hS] at M; exact .inl (A0.kD b M)
  ·exact .inr (Nat.le_trans hs.keeps.size K)
 have hr':RoundIn (Fw E.r) 0 E.P l fn tmps assign body w _:=hr
 refine hr'.mono fun e w' he=>?_
 rcases he with ⟨rfl,B,hB,m⟩|⟨rfl,B,hB,m⟩
 ·exact k1 B hB (G B w' m) _ _ (F.put hd' _) (hs.mv 0 U m)
 ·exact k2 B hB (G B w' m) _ _ (F.put hd' _) (hs.mv 0 U m)
end
theorem JF {σ:Type} {E:e9} {Q:dq} {D:ig} {L L0:dA} {C F:List aw} {g:Operand} {ps:Array Tmp} {assign body:Code} {f:FuncId} {fi ca:List Value} {Cp:List aw} {s0:σ} {step:σ→List Value→aw→σ→Prop} {fin_:σ→Prop} {ι κ:Type}
 (inv:σ→ι→Prop) (Ci:σ→ι→List aw) (invx:Code→κ→Prop) (Cx:Code→κ→List aw) (isJ isF:List Nat) (y0:ι)
 (hr:E.r=none) (hg:ev L g=some (.func (.func f) fi.toArray ca.toArray)) (hs:OP E.P f fi ca Cp s0 step fin_)
 (hnd:decide (isJ++isF).Nodup=true) (hJ:kG C isJ=Ci s0 y0) (hF:kG C isF=F) (h0:inv s0 y0) (hCp: ∀ A∈Cp,∃ B∈F,Hu B A)
 (hps: ∀ k x R k',step k x R k'→x.length=ps.size) (hpn:ps.toList.all (fun t=>Nat.blt t E.n)=true) (hL:dG L L0)
 (round: ∀ (k:σ) (x:List Value) (R:aw) (k':σ) (y:ι) (l:Nat) (ra rb:Loop) (S:BS) (w0:World) (K:Act→World→Prop) (Qr:dq),E.w0.heap.size≤w0.heap.size→step k x R k'→inv k y→
  (∀ L' C',WJ ⟨E.P,some l,E.n,S,w0⟩ body Qr [] L' (jo l (.loop rb)::C')→KJ ⟨E.P,some l,E.n,S,w0⟩ K [] L' (jo l (.loop ra)::C'))→
  (∀ y' L' C',inv k' y'→(∀ w,St S w0 C' w→St S w0 (jo l (.loop rb)::Ci k' y') w)→KJ ⟨E.P,some l,E.n,S,w0⟩ (Qr .normal) [] L' C')→
  (∀ id z L' C',invx (.exit id) z→(∀ w,St S w0 C' w→St S w0 (jo l (.loop rb)::Cx (.exit id) z) w)→KJ ⟨E.P,some l,E.n,S,w0⟩ (Qr (.exit id)) [] L' C')→
  (∀ z L' C',invx .ret z→(∀ w,St S w0 C' w→St S w0 (jo l (.loop rb)::Cx .ret z) w)→KJ ⟨E.P,some l,E.n,S,w0⟩ (Qr .ret) [] L' C')→
  WJ ⟨E.P,some l,E.n,S,w0⟩ assign (Exit.then K (fun _ _ _=>False)) [] (yp ps.toList x L0) (jo l (.loop ra)::(Ci k y++[R])))
 (fin: ∀ r s y,fin_ s→inv s y→KJ E (Q .normal) (jS r::D) L0 (jo r (.deferred (some []))::(F++Ci s y)))
 (finx: ∀ r id z,invx (.exit id) z→KJ E (Q (.exit id)) (jS r::D) L0 (jo r (.deferred (some []))::(F++Cx (.exit id) z)))
 (finr: ∀ r z,invx .ret z→KJ E (Q .ret) (jS r::D) L0 (jo r (.deferred (some []))::(F++Cx .ret z))):WJ E (.rangeFunc g ps assign body) Q D L C:=by
 intro a w hf u
 refine wpIn_rangeFunc fun fn _=>?_
 show ∃ l jS w₁ d w₁' f args w₂,(Instr.enterLoop fn a.tmps ps assign body E.r).run E.P w= .ok (l,jS) w₁∧_
 rw [hr]
 obtain ⟨rec,G⟩: ∃ rec:LoopState→Option Code→Loop,rec=fun st pe=>{state:=st,pending:=pe,fn,tmps:=a.tmps,params:=ps,assign,body,defers:=w.heap.size}:=⟨_,rfl⟩
 obtain ⟨W1,T⟩: ∃ W1,(w.alloc (.deferred (some []))).alloc (.loop (rec .ready none))=W1:=⟨_,rfl⟩
 have A2:a.eval g= .func (.func f) fi.toArray ca.toArray:=hf.ev hg
 have q:(Instr.enterLoop fn a.tmps ps assign body none).run E.P w= .ok (w.heap.size+1,[jS w.heap.size]) W1:=by
  rw [← T,G]; exact run_enterLoop_outer _ _ _ _ _
 -- the state with the record and the block
 have AC:St E.S E.w0 ((jo (w.heap.size+1) (.loop (rec .ready none))::Ci s0 y0)++(jo w.heap.size (.deferred (some []))::F)) W1:=by
  have Y:St E.S E.w0 (Ci s0 y0++F) w:=St.kG (isJ++isF) hnd (by have Y:=hJ; have o:=hF; unfold Go.Proofs.YtijpnoadncadoaaGreatDoor.kG at Y o ⊢; rw [List.filterMap_append,Y,o]) u
  have hn:Ku w W1 [jo (w.heap.size+1) (.loop (rec .ready none)),jo w.heap.size (.deferred (some []))]:=by
   refine ⟨fun A hA=>?_,fun A hA b hb=>?_,?_⟩
   ·rcases bR.1 hA with rfl|hA
    ·show W1.heap[w.heap.size+1]? =_
     rw [← T]; have:=World.alloc_heap_new (w.alloc (.deferred (some []))) (.loop (rec .ready none)); rwa [World.size_alloc] at this
    ·simp only [cm] at hA; subst hA
     show W1.heap[w.heap.size]? =_
     rw [← T]; exact (Below.heap_alloc _ _ _ sm).trans (World.alloc_heap_new w _)
   ·rcases bR.1 hA with rfl|hA
    ·have:b=w.heap.size+1:=hb
     omega
    ·simp only [cm] at hA; subst hA
     have:b=w.heap.size:=hb
     omega
   ·refine List.Pairwise.cons (fun B hB b Y o=>?_) (List.pairwise_singleton _ _)
    simp only [cm] at hB; subst hB
    have X:b=w.heap.size+1:=Y
    have O:b=w.heap.size:=o
    omega
  have hk:dR no w W1:=by rw [← T]; exact (dR.alloc no w _).trans (dR.alloc no _ _)
  have o:=Y.grow hk hn
  refine o.perm ?_
  simp only [List.cons_append,List.nil_append]
  exact List.Perm.cons _ (List.perm_middle.symm)
 have i:=AC.tied
 obtain ⟨H,A7⟩:=List.pairwise_cons.1 i.sep
 have A0:=i.holds _ (cJ ..)
 let J:σ→aw→Prop:=fun k A=> ∃ y,inv k y∧A=cd (jo (w.heap.size+1) (.loop (rec .ready none))::Ci k y)
 let Z:aw→Prop:=fun A=> ∃ c z,(c= .ret∨ ∃ id,c= .exit id)∧invx c z∧A=cd (jo (w.heap.size+1) (.loop (rec .done (some c)))::Cx c z)
 refine ⟨w.heap.size+1,[jS w.heap.size],W1,{target:= .fn (.func f) ca.toArray,args:=fi.toArray++ #[.func (.yield (w.heap.size+1)) #[] #[]]},W1,f,
  (fi++Value.func (.yield (w.heap.size+1)) #[] #[]::ca).toArray,W1,q,?_,fun _ _=>trivial,?_,fun h=>by simp at h,?_⟩
 ·simp only [resolve,A2]
  simp [Deferred.ofValue,Act.eval]
 ·have:fi.toArray++ #[Value.func (.yield (w.heap.size+1)) #[] #[]]++ca.toArray=(fi++Value.func (.yield (w.heap.size+1)) #[] #[]::ca).toArray:=by simp
  simp [invoke,mZ hs.go]
 ·refine (pB E.r (hs.run (w.heap.size+1) J Z _ W1 ?_ ⟨y0,h0,U⟩ A0 ?_ ?_)).mono ?_
  ·-- a round
   rintro k x R k' A W hx ⟨y,hy,rfl⟩ A1 hA
   have hl:W.heap[w.heap.size+1]? =some (.loop (rec .ready none)):=(hA.1 _ (cJ ..)).1 _ (cJ ..)
   have AO:=run_yield (P:=E.P) (args:=x.toArray) hl (by rw [G]; simpa using hps k x R k' hx)
   rw [G] at AO
   refine ⟨fn,_,assign,body,AO,roundIn_of_wpIn trivial ?_⟩
   let A:aw:=cd [cd (jo (w.heap.size+1) (.loop (rec .ready none))::Ci k y),R]
   have A3:Fr E.n [] (yp ps.toList x L0) {tmps:=(ps.zip x.toArray).foldl (fun tmps (t,a)=>tmps.setIfInBounds t a) a.tmps,defers:=[]}:=by
    have Y:=Dh ps.toList x L0 a.tmps (fun t ht=>by have:=de.1 hpn t ht; rwa [Nat.blt_eq] at this) ⟨rfl,hf.size,fun t v hv=>hf.at_ t v (hL t v hv)⟩
    rw [← Array.foldl_toList]
    simpa using Y
   have p: ∀ (c:Option Code) (b:Bool),({rec .busy none with state:=if b then .ready else .done,pending:=c}:Loop)=rec (if b then .ready else .done) c:=fun c b=>by rw [G]
   have AA: ∀ (c:Option Code) (N:World) (C':List aw) (S:BS),St S W (jo (w.heap.size+1) (.loop (rec .busy none))::C') N→
    ∃ M,(Instr.endRound (w.heap.size+1) c).run E.P N= .ok (.bool c.isNone) M∧St S W (jo (w.heap.size+1) (.loop (rec (if c.isNone then .ready else .done) c))::C') M:=fun c N C' S H=>by
    have AB:N.heap[w.heap.size+1]? =some (.loop (rec .busy none)):=H.holds _ (cJ ..)
    refine ⟨_,run_endRound c AB,?_⟩
    have:=H.y7 (b:=w.heap.size+1) (A':=jo (w.heap.size+1) (.loop (rec (if c.isNone then .ready else .done) c))) 0 rfl rfl rfl (hE _) (fun _ h=>h) (World.putObj_heap_same (dM AB))
    rw [p]
    exact this
   refine round k x R k' y (w.heap.size+1) (rec .ready none) (rec .busy none) ⟨A.wf,A.fr⟩ W _ (roundPost E.P (w.heap.size+1) (fun e w'=>(e= .returned (.bool true)∧ ∃ B,J k' B∧Mv A B W w')∨(e= .returned (.bool false)∧ ∃ B,Z B∧Mv A B W w'))) (Nat.le_trans (Nat.le_trans u.keeps.size (by rw [← T]; simp; omega)) A1) hx hy ?_ ?_ ?_ ?_ _ _ A3 (by have:=(St.zA hA).jB; simpa using this)
   ·intro L' C' hW a1 N j H
    have AB:N.heap[w.heap.size+1]? =some (.loop (rec .ready none)):=H.holds _ (cJ ..)
    refine ⟨_,run_beginRound AB (by rw [G]),hW _ _ j ?_⟩
    have:=H.y7 (b:=w.heap.size+1) (A':=jo (w.heap.size+1) (.loop (rec .busy none))) 0 rfl rfl rfl (hE _) (fun _ h=>h) (World.putObj_heap_same (dM AB))
    have e:({rec .ready none with state:= .busy}:Loop)=rec .busy none:=by rw [G]
    rw [e]; exact this
   ·intro y' L' C' hy' hC' a1 N j H
    obtain ⟨M,X,O⟩:=AA none N _ _ (hC' _ H)
    exact ⟨_,M,X,.inl ⟨U,_,⟨y',hy',U⟩,Mv.of O⟩⟩
   ·intro id z L' C' hz hC' a1 N j H
    obtain ⟨M,X,O⟩:=AA (some (.exit id)) N _ _ (hC' _ H)
    exact ⟨_,M,X,.inr ⟨U,_,⟨_,z,.inr ⟨id,U⟩,hz,U⟩,Mv.of O⟩⟩
   ·intro z L' C' hz hC' a1 N j H
    obtain ⟨M,X,O⟩:=AA (some .ret) N _ _ (hC' _ H)
    exact ⟨_,M,X,.inr ⟨U,_,⟨_,z,.inl U,hz,U⟩,Mv.of O⟩⟩
  ·intro A hA
   obtain ⟨B,hB,hc⟩:=hCp A hA
   exact hc.holds _ (i.holds B (dW _ (dW _ hB)))
  ·intro A hA b hb hb'
   obtain ⟨B,hB,hc⟩:=hCp A hA
   exact ⟨(H B (dW _ hB) b hb (hc.fr b hb')).1,fun h=>h⟩
  ·rintro e w' ⟨v,rfl,hh⟩
   have V:Fr E.n (jS w.heap.size::D) L0 {a with defers:=[jS w.heap.size]++a.defers}:=⟨by simp [hf.defers],hf.size,fun t v hv=>hf.at_ t v (hL t v hv)⟩
   have hleave: ∀ (st:LoopState) (c:Option Code) (C':List aw),st≠ .busy→Mv (cd (jo (w.heap.size+1) (.loop (rec .ready none))::Ci s0 y0)) (cd (jo (w.heap.size+1) (.loop (rec st c))::C')) W1 w'→
    ∃ M,(Instr.endLoop (w.heap.size+1)).run E.P w'= .ok c M∧St E.S E.w0 (jo w.heap.size (.deferred (some []))::(F++C')) M:=fun st c C' A5 m=>by
    have Y:=(i.mv 0 rfl m).jB
    have h1':St E.S E.w0 ((jo (w.heap.size+1) (.loop (rec st c))::C')++(jo w.heap.size (.deferred (some []))::F)) w':=Y
    have AB:w'.heap[w.heap.size+1]? =some (.loop (rec st c)):=h1'.holds (jo (w.heap.size+1) (.loop (rec st c))) sm
    refine ⟨_,by have:=run_endLoop (P:=E.P) AB (by rw [G]; exact A5); rw [this,G],?_⟩
    have o:=h1'.y7 (b:=w.heap.size+1) (A':=jo (w.heap.size+1) (.loop {rec st c with state:= .exhausted})) 0 rfl rfl rfl (hE _) (fun _ h=>h) (World.putObj_heap_same (dM AB))
    have h3:St E.S E.w0 (C'++(jo w.heap.size (.deferred (some []))::F)) _:=o.take (List.sublist_cons_self _ _)
    rw [G] at h3
    refine h3.perm ?_
    exact (List.perm_append_comm).trans sm
   rcases hh with ⟨s,B,A4,⟨y,hy,rfl⟩,m⟩|⟨B,⟨c,z,hc,hz,rfl⟩,m⟩
   ·obtain ⟨M,X,O⟩:=hleave .ready none _ sm m
    exact ⟨none,M,X,fin w.heap.size s y A4 hy _ _ V O⟩
   ·obtain ⟨M,X,O⟩:=hleave .done (some c) _ sm m
    refine ⟨some c,M,X,?_⟩
    rcases hc with rfl|⟨id,rfl⟩
    ·exact wpIn_ret (finr w.heap.size z hz _ _ V O)
    ·exact wpIn_exit (finx w.heap.size id z hz _ _ V O)
end
section
abbrev OH:=List (Int×Bool)
section
variable {m:OH} {P Q:Int→Prop} {k:Int}
end
/-- two rows that go up and have the same numbers, each once -/
theorem Gu {a b:List Int} (ha:a.Pairwise (· ≤ ·)) (hb:b.Pairwise (· ≤ ·)) (na:a.Nodup) (nb:b.Nodup) (h: ∀ x,x∈a↔x∈b):a=b:=
 sw ((List.perm_ext_iff_of_nodup na nb).2 h) ha hb
section
variable {m left:sX} {i n x:Int} {y:ag}
end
section
variable {m:sX} {i:Int} {own:ag} {ys:List Int} {nev ranks:OH} {n a b:Int}
end
section
variable {nw left rk:OH} {N R:Int→Prop} {u:Int} {v:Bool}
end
section
variable {m left:sX} {i x n:Int} {own y:ag} {ys:List Int}
end
section
variable {r:fg} {h i:Int} {ht:List ay} {d:ay}
end
end
section
def Nx (f:Int→ag) (g:List Int):Prop:= ∀ t,(∃ a∈g,(f a).Lo<t)→(∃ b∈g,t≤(f b).Lo)→ ∃ c∈g,(f c).Lo<t∧t≤(f c).Hi
def ND (f:Int→ag) (g h:List Int):Prop:= ∀ a∈g,∀ b∈h,(f a).Hi<(f b).Lo
structure Qb (f:Int→ag) (keys:List Int) (G:List (List Int)):Prop where
 perm:G.flatten.Perm keys
 some_: ∀ g∈G,g≠[]
 apart:G.Pairwise (ND f)
 tight: ∀ g∈G,Nx f g
section
variable {f:Int→ag} {keys:List Int} {G G':List (List Int)} {g h:List Int} {x:Int}
end
section
variable {f:Int→ag} {p:List Int} {G:List (List Int)} {g:List Int} {x last:Int}
end
end
section
open Go.RowKit
/-- a map, or nil -/
def oC (o:Option Nat):List Value:=[Value.map o]
theorem z_ {α:Type}: ∀ {ms:List α} {asl:List Nat},ms.length=asl.length→List.zipWith gE ms asl=(asl.map some).map oC
 |[],[],_=>rfl
 |[],_::_,h=>by simp at h
 |_::_,[],h=>by simp at h
 |x::ms,y::asl,h=>by simp only [List.zipWith_cons_cons,List.map_cons,z_ (ms:=ms) (asl:=asl) (by simpa using h)]; rfl
/-- what stands for all but one -/
def jf {M A:Type} (f:M→A→List aw) (ms:List M) (asl:List A) (k:Nat):List aw:=bw f (ms.take k) (asl.take k)++bw f (ms.drop (k+1)) (asl.drop (k+1))
theorem rN {M A:Type} {f:M→A→List aw}: ∀ {ms:List M} {asl:List A} {k:Nat} {m:M} {a:A},ms[k]? =some m→asl[k]? =some a→(bw f ms asl).Perm (f m a++jf f ms asl k)
 |[],_,k,m,a,h,_=>by simp at h
 |_::_,[],k,m,a,_,h=>by simp at h
 |x::ms,y::asl,0,m,a,h,h2=>by
  simp at h h2; subst h h2
  simp [jf,bw]
 |x::ms,y::asl,k+1,m,a,h,h2=>by
  have ih:=rN (f:=f) (ms:=ms) (asl:=asl) (k:=k) (by simpa using h) (by simpa using h2)
  show (f x y++bw f ms asl).Perm (f m a++jf f (x::ms) (y::asl) (k+1))
  have e:jf f (x::ms) (y::asl) (k+1)=f x y++jf f ms asl k:=by simp [jf,bw,List.append_assoc]
  rw [e]
  refine (ih.append_left (f x y)).trans ?_
  rw [← List.append_assoc,← List.append_assoc]
  exact List.perm_append_comm.append_right _
theorem F3 {M A:Type} {f:M→A→List aw} {ms:List M} {asl:List A} {k:Nat} {m':M}:jf f (ms.set k m') asl k=jf f ms asl k:=by
 unfold jf
 rw [List.take_set_of_le (Nat.le_refl k),List.drop_set_of_lt (Nat.lt_succ_self k)]
theorem uH {S:BS} {w0 w:World} {C X Y:List aw} (hp:X.Perm Y) (h:St S w0 (cd X::C) w):St S w0 (cd Y::C) w:=by
 have A:St S w0 (X++C) w:=h.jB
 exact (A.perm (hp.append_right C)).tied
theorem St.out {M A:Type} {f:M→A→List aw} {S:BS} {w0 w:World} {C:List aw} {ms:List M} {asl:List A} {k:Nat} {m:M} {a:A} {X:aw} (hm:ms[k]? =some m) (ha:asl[k]? =some a) (hf:f m a=[X]) (h:St S w0 (cd (bw f ms asl)::C) w):St S w0 (X::cd (jf f ms asl k)::C) w:=by
 have B:=(uH (rN hm ha) h).jB
 rw [hf] at B
 have D:St S w0 (jf f ms asl k++(X::C)) w:=B.perm (List.perm_middle (a:=X) (l₁:=jf f ms asl k) (l₂:=C)).symm
 exact D.tied.perm (List.Perm.swap _ _ _)
theorem St.back {M A:Type} {f:M→A→List aw} {S:BS} {w0 w:World} {C:List aw} {ms:List M} {asl:List A} {k:Nat} {m':M} {a:A} {X:aw} (hk:k<ms.length) (ha:asl[k]? =some a) (hf:f m' a=[X]) (h:St S w0 (X::cd (jf f ms asl k)::C) w):St S w0 (cd (bw f (ms.set k m') asl)::C) w:=by
 have B:St S w0 (cd (jf f ms asl k)::X::C) w:=h.perm (List.Perm.swap _ _ _)
 have D:=B.jB
 have E:St S w0 ((f m' a++jf f (ms.set k m') asl k)++C) w:=by
  rw [hf,F3]
  exact D.perm (List.perm_middle (a:=X) (l₁:=jf f ms asl k) (l₂:=C))
 exact uH (rN (List.getElem?_set_self hk) ha).symm E.tied
section
variable {E:e9} {ops:Array Oper} {Q:dq} {rest:List Oper} {D:List Deferred} {L:List (Nat×Value)} {C C1:List aw}
variable {M A:Type} {f:M→A→List aw} {ms:List M} {asl:List A} {k:Nat} {m:M} {a:A} {X:aw}
theorem zg {c:Code} (i:Nat) (hm:ms[k]? =some m) (ha:asl[k]? =some a) (hf:f m a=[X]) (hn:decide (i::(List.range C.length).filter fun k=>k != i).Nodup=true) (hC:kG C (i::(List.range C.length).filter fun k=>k != i)=cd (bw f ms asl)::C1)
 (h:WJ E c Q D L (X::cd (jf f ms asl k)::C1)):WJ E c Q D L C:=fun a w hf' hs=>h a w hf' (St.out hm ha hf (St.kG _ hn hC hs))
theorem Ai {K:Act→World→Prop} (i j:Nat) (hk:k<ms.length) (ha:asl[k]? =some a) (hf:f m a=[X]) (hn:decide (j::i::(List.range C.length).filter fun k=>k != i&&k != j).Nodup=true) (hC:kG C (j::i::(List.range C.length).filter fun k=>k != i&&k != j)=X::cd (jf f ms asl k)::C1)
 (h:KJ E K D L (cd (bw f (ms.set k m) asl)::C1)):KJ E K D L C:=fun a w hf' hs=>h a w hf' (St.back hk ha hf (St.kG _ hn hC hs))
end
end
section
open Go.RowKit
def yi (l:List Int) (a:RA):List Value:=[vS a.1 l.length a.2]
def Px (l:List Int) (a:RA):List aw:=[rd a.1 l.length 1 (l.map iC)]
def G4 (l:List Int) (a:RA):List aw:=[own a.1 a.2 ML 1 (l.map iC)]
theorem M_: ∀ (m:List Int) (a:RA) (w:World),(∀ X∈G4 m a,X.holds w)→ ∀ X∈Px m a,X.holds w:=fun m a w h X hX=>by
 simp only [Px,cm] at hX
 subst hX
 have:=nM (h _ (cm.2 rfl))
 simpa using this
theorem yd {l:List (List Int)} {bz:List RA}:(cd (bw G4 l bz)).wr=true:=by
 show (bw G4 l bz).all (·.wr)=true
 rw [de]
 intro X hX
 obtain ⟨k,m,a,_,_,h⟩:=j9 hX
 simp only [G4,cm] at h
 subst h; rfl
theorem zS {ls:List (List Int)} {az:List RA} (h:az.length=ls.length):(List.zipWith yi ls az).length=ls.length:=by simp [h]
theorem Lp (l:List (List Int)) (az:List RA): ∀ v∈(List.zipWith yi l az).flatten,v.oneCell'=true:=by
 induction l generalizing az with
 |nil=>intro v hv; simp at hv
 |cons x l ih=>
  cases az with
  |nil=>intro v hv; simp at hv
  |cons a az=>
   intro v hv
   rw [List.zipWith_cons_cons,List.flatten_cons,g0] at hv
   rcases hv with hv|hv
   ·simp [yi] at hv; subst hv; rfl
   ·exact ih az v hv
section
variable {M A:Type} {f:M→A→List aw} {ms:List M} {asl:List A} {k:Nat} {m:M} {a:A} {X:aw}
variable {E:e9} {ops:Array Oper} {Q:dq} {rest:List Oper} {D:List Deferred} {L:List (Nat×Value)} {C C1:List aw}
abbrev QO (C:List aw) (i j:Nat):List Nat:=j::i::(List.range C.length).filter fun k=>k != i&&k != j
theorem N9 {Y Y':List aw} (i j:Nat) (hn:decide (QO C i j).Nodup=true) (hC:pH C (QO C i j)=some (X::cd Y::C1)) (e:Y++[X]=Y') (h:RJ E ops Q rest D L (cd Y'::C1)):RJ E ops Q rest D L C:=fun a w hf hs=>h a w hf ((St.kG _ hn (p_ hC) hs).tie e)
end
theorem CU {M A:Type} {f:M→A→List aw} {ms:List M} {asl:List A} {m:M} {a:A} {X:aw} (h:ms.length=asl.length) (hf:f m a=[X]):bw f ms asl++[X]=bw f (ms++[m]) (asl++[a]):=by
 rw [lq h]; simp [bw,hf]
theorem FW {M A β:Type} {f:M→A→β} {ms:List M} {asl:List A} {m:M} {a:A} (h:ms.length=asl.length):List.zipWith f ms asl++List.zipWith f [m] [a]=List.zipWith f (ms++[m]) (asl++[a]):=(List.zipWith_append h).symm
section
variable {f:Int→ag} {L:List Int} {G:List (List Int)} {g:List Int} {x last:Int} {i j:Nat}
end
end
section
open Go.RowKit
/-- the faults that a map of places says -/
def lF (fs:List aX) (m:List (Int×Bool)) (f:aX):Prop:=(List.lookup (oP fs f) m).getD false=true
/-- what comes next: the row of a heat, in memory of its own -/
def ID (G:List (List Int)) (k:Nat) (x:List Value) (R:aw) (k':Nat):Prop:= ∃ (a:OA) (c:Nat) (row:List Int),G[k]? =some row∧x=[vS a row.length c]∧R=own a c ML 1 (row.map iC)∧k'=k+1
section
variable {l:bj} {fs:List aX} {m:List (Int×Bool)} {d:ay} {h:List ay} {j:cV} {F G:aX→Prop} {k n q:Nat} {f f0:aX}
noncomputable def lx (l:bj) (fs:List aX) (m:List (Int×Bool)) (h:List ay) (s:Nat):Bool:=(h[s]?).any fun d=> @decide (IM l (lF fs m) fs d) (Classical.propDecidable _)
theorem MB:(fs.any fun f=>((List.lookup (oP fs f) m).getD false)&& !decide (g4 l f d=0))= @decide (IM l (lF fs m) fs d) (Classical.propDecidable _):=by
 rw [Bool.eq_iff_iff,List.any_eq_true,@decide_eq_true_iff _ (Classical.propDecidable _)]
 constructor
 ·rintro ⟨f,hf,hb⟩
  rw [dg,Bool.not_eq_true',decide_eq_false_iff_not] at hb
  exact ⟨f,hf,hb.1,hb.2⟩
 ·rintro ⟨f,hf,A,B⟩
  exact ⟨f,hf,by rw [dg,Bool.not_eq_true',decide_eq_false_iff_not]; exact ⟨A,B⟩⟩
theorem E6 (hd:h[q]? =some d):lx l fs m h q=(fs.any fun f=>((List.lookup (oP fs f) m).getD false)&& !decide (g4 l f d=0)):=by
 unfold lx; rw [hd,MB]; rfl
theorem IX {ht:List ay} (hh:j.Race.aB[k]? =some ht):(iE j (lF j.aC m))[k]? =some (lY (lx j.Race.aj j.aC m ht) ht.length):=Le hh
/-- only who is told, of faults of the row -/
theorem Ba (h: ∀ f∈j.aC,(F f↔G f)):iE j F=iE j G:=by
 unfold iE
 apply List.map_congr_left
 intro x _
 exact FO h
end
def wa (fs:List aX) (gs:List aX):List (Int×Bool):=gs.foldl (fun m f=>eo m (oP fs f) true) []
section
variable {fs gs:List aX} {f g:aX} {m:List (Int×Bool)}
theorem Gk {x y:Int}:(List.lookup y (eo m x true)).getD false=true↔y=x∨(List.lookup y m).getD false=true:=by
 rw [lO]
 by_cases e:y=x
 ·rw [if_pos e]; simp [e]
 ·rw [if_neg e]; simp [e]
theorem Ee: ∀ {gs:List aX} {m:List (Int×Bool)} {y:Int},(List.lookup y (gs.foldl (fun m f=>eo m (oP fs f) true) m)).getD false=true↔(∃ g∈gs,y=oP fs g)∨(List.lookup y m).getD false=true
 |[],m,y=>by simp
 |g::gs,m,y=>by
  rw [List.foldl_cons,Ee (gs:=gs),Gk]
  constructor
  ·rintro (⟨u,A,B⟩|h|h)
   ·exact .inl ⟨u,dW _ A,B⟩
   ·exact .inl ⟨g,cJ,h⟩
   ·exact .inr h
  ·rintro (⟨u,A,B⟩|h)
   ·rcases bR.1 A with rfl|A
    ·exact .inr (.inl B)
    ·exact .inl ⟨u,A,B⟩
   ·exact .inr (.inr h)
theorem RS (hg: ∀ g∈gs,g∈fs) (hf:f∈fs):lF fs (wa fs gs) f↔f∈gs:=by
 unfold lF wa
 rw [Ee]
 constructor
 ·rintro (⟨g,A,B⟩|h)
  ·rw [IE hf (hg g A) B]; exact A
  ·simp at h
 ·intro h; exact .inl ⟨f,h,rfl⟩
theorem Gj:wa fs (gs++[g])=eo (wa fs gs) (oP fs g) true:=by unfold wa; rw [List.foldl_append]; rfl
end
noncomputable def FD (j:cV) (t:Nat):List aX:=((im j).take t).filterMap fun i=>(j.aq[i.toNat]?).bind fun p=>j.aC[p.jU.toNat]?
section
variable {j:cV} {t:Nat} {i:Int} {p:a_} {f g:aX}
theorem Jo (hi:(im j)[t]? =some i) (hp:j.aq[i.toNat]? =some p) (hf:j.aC[p.jU.toNat]? =some f):FD j (t+1)=FD j t++[f]:=by
 unfold FD
 rw [List.take_add_one,hi,List.filterMap_append]
 simp [hp,hf]
theorem LD: ∀ g∈FD j t,g∈j.aC:=fun g h=>by
 obtain ⟨i,_,A⟩:=List.mem_filterMap.1 h
 cases e:j.aq[i.toNat]? with
 |none=>rw [e] at A; cases A
 |some p=>rw [e] at A; exact aP A
theorem KM (ht:(im j).length≤t):f∈FD j t↔oo j f:=by
 unfold FD
 rw [List.take_of_length_le ht,List.mem_filterMap]
 constructor
 ·rintro ⟨x,hx,h⟩
  obtain ⟨i,_,rfl,p,hp,hg⟩:=qj.1 hx
  rw [Int.toNat_natCast,hp] at h
  exact ⟨i,p,hp,hg,h⟩
 ·rintro ⟨i,p,hp,hg,hf⟩
  exact ⟨(i:Int),qj.2 ⟨i,(aY.1 hp).1,U,p,hp,hg⟩,by rw [Int.toNat_natCast,hp]; exact hf⟩
theorem Cv (ht:(im j).length≤t):iE j (lF j.aC (wa j.aC (FD j t)))=kS j:=
 Ba fun f hf=>(RS LD hf).trans (KM ht)
theorem GZ (hi:(im j)[t]? =some i): ∃ k:Nat,i=(k:Int)∧k<j.aq.length:=by
 obtain ⟨k,A,B,_⟩:=qj.1 (aP hi)
 exact ⟨k,B,A⟩
theorem xn:(im j).length≤j.aq.length:=qh
end
end
section
open Go.RowKit
theorem xg {α:Type} {l:List α} {k:Nat} {x:α} (h:l[k]? =some x):l.take (k+1)=l.take k++[x]:=by rw [List.take_add_one,h]; rfl
theorem qE {a b:Int} (h1: -60000≤a∧a≤60000) (h2:0≤b∧b≤100000): -9223372036854775808≤a*b∧a*b≤9223372036854775807:=by
 have A:=Int.mul_le_mul_of_nonneg_right h1.1 h2.1
 have B:=Int.mul_le_mul_of_nonneg_right h1.2 h2.1
 omega
def ju (j:cV) (k h s:Int):Prop:=(0≤k∧k≤(j.aC.length:Int)-1)∧(0≤h∧h≤(j.Race.aB.length:Int)-1)∧0≤s∧s≤(j.Race.aT.length:Int)-1
instance (j:cV) (k h s:Int):Decidable (ju j k h s):=by unfold ju; infer_instance
noncomputable def oU (j:cV) (k h s:Int):Int:=if dU j=0 then (if ju j k h s then 0 else 2) else dU j
noncomputable def pW (j:cV) (k h s:Int):Int:=if dU j=0∧ju j k h s then (match j.aC[k.toNat]?,(j.Race.aB[h.toNat]?).bind (·[s.toNat]?) with
 |some f,some d=>g4 j.Race.aj f d
 |_,_=>0) else 0
noncomputable def tJ (j:cV) (i:Int):Int:=if dU j=0 then (if 0≤i∧i≤(j.aq.length:Int)-1 then 0 else 2) else dU j
noncomputable def vY (j:cV) (i:Int):Int:=if dU j=0∧(0≤i∧i≤(j.aq.length:Int)-1) then (match j.aq[i.toNat]? with
 |some p=>mO j p
 |none=>0) else 0
noncomputable def gX (j:cV):List Int:=if dU j=0 then im j else []
noncomputable def jk (j:cV):List (List Int):=if dU j=0 then kS j else []
noncomputable def vp (j:cV):Int:=if dU j=0 then w6 j else 0
noncomputable def rl (j:cV):Int:=if dU j=0 then xo j else 0
noncomputable def zF (j:cV) (s:Int) (p:a_):Bool:=decide (p.iu=s)&& !gu j p
noncomputable def oM (j:cV) (s:Int):Int:=if dU j=0 then (if 0≤s∧s≤(j.Race.aT.length:Int)-1 then 0 else 2) else dU j
noncomputable def oR (j:cV) (s:Int):Int:=if dU j=0∧(0≤s∧s≤(j.Race.aT.length:Int)-1) then DH j s else 0
section
variable {j:cV} {k h s i:Int} {f:aX} {ht:List ay} {d:ay} {p:a_}
theorem pG (e: ¬ dU j=0):pW j k h s=0∧oU j k h s=dU j:=⟨if_neg fun q=>e q.1,if_neg e⟩
theorem o2 (e:dU j=0) (n: ¬ ju j k h s):pW j k h s=0∧oU j k h s=2:=⟨if_neg fun q=>n q.2,by unfold oU; rw [if_pos e,if_neg n]⟩
theorem mN (e:dU j=0) (n:ju j k h s) (hf:j.aC[k.toNat]? =some f) (hh:j.Race.aB[h.toNat]? =some ht) (hd:ht[s.toNat]? =some d):pW j k h s=g4 j.Race.aj f d∧oU j k h s=0:=
 ⟨by unfold pW; rw [if_pos ⟨e,n⟩,hf,hh,Option.bind_some,hd],by unfold oU; rw [if_pos e,if_pos n]⟩
theorem wG (e: ¬ dU j=0):vY j i=0∧tJ j i=dU j:=⟨if_neg fun q=>e q.1,if_neg e⟩
theorem wD (e:dU j=0) (n: ¬ (0≤i∧i≤(j.aq.length:Int)-1)):vY j i=0∧tJ j i=2:=⟨if_neg fun q=>n q.2,by unfold tJ; rw [if_pos e,if_neg n]⟩
theorem tY (e:dU j=0) (n:0≤i∧i≤(j.aq.length:Int)-1) (hp:j.aq[i.toNat]? =some p):vY j i=mO j p∧tJ j i=0:=
 ⟨by unfold vY; rw [if_pos ⟨e,n⟩,hp],by unfold tJ; rw [if_pos e,if_pos n]⟩
theorem sJ (e: ¬ dU j=0):gX j=[]:=if_neg e
theorem j4 (e:dU j=0):gX j=im j:=if_pos e
theorem q7 (e: ¬ dU j=0):jk j=[]:=if_neg e
theorem vu (e:dU j=0):jk j=kS j:=if_pos e
theorem yQ (e: ¬ dU j=0):vp j=0∧rl j=0:=⟨if_neg e,if_neg e⟩
theorem lM (e:dU j=0):vp j=w6 j∧rl j=xo j:=⟨if_pos e,if_pos e⟩
theorem E2 (e: ¬ p.iu=s):zF j s p=false:=by unfold zF; rw [bx e]; rfl
theorem Bb (e:p.iu=s):zF j s p= !gu j p:=by unfold zF; rw [c8 e]; rfl
theorem Hz {P:Nat→Bool} {n:Nat}:(lY P n).length=(List.range n).countP P:=by unfold lY; rw [List.length_map,List.countP_eq_length_filter]
theorem vg (e: ¬ dU j=0):oR j s=0∧oM j s=dU j:=⟨if_neg fun q=>e q.1,if_neg e⟩
theorem vm (e:dU j=0) (n: ¬ (0≤s∧s≤(j.Race.aT.length:Int)-1)):oR j s=0∧oM j s=2:=⟨if_neg fun q=>n q.2,by unfold oM; rw [if_pos e,if_neg n]⟩
theorem wx (e:dU j=0) (n:0≤s∧s≤(j.Race.aT.length:Int)-1):oR j s= -((lY (iw j.aq fun _ p=>zF j s p) j.aq.length).length:Int)*j.j2∧oM j s=0:=
 ⟨by unfold oR; rw [if_pos ⟨e,n⟩,Hz]; rfl,by unfold oM; rw [if_pos e,if_pos n]⟩
end
end
section
section
variable {j:cV} {m n:Nat} {p:a_} {s:Int}
theorem rO (hp:j.aq[m]? =some p):jG j s (m+1)=jG j s m+if p.iu=s∧gu j p=false then 1 else 0:=by
 unfold jG
 rw [List.range_succ,List.countP_append]
 congr 1
 rw [List.countP_singleton,hp]
 simp only [Option.any_some,dg,decide_eq_true_eq,Bool.not_eq_true']
/-- the places with this number, so far -/
def CB (x:Int) (n:Nat):Nat:=((List.range n).map fun (s:Nat)=>if x=(s:Int) then 1 else 0).sum
theorem ye {x:Int}:CB x (n+1)=CB x n+if x=(n:Int) then 1 else 0:=by unfold CB; rw [List.range_succ,List.map_append,List.sum_append]; simp
theorem HW {x:Int} (h:(n:Int)≤x):CB x n=0:=by
 induction n with
 |zero=>rfl
 |succ n ih=>rw [ye,ih I,if_neg I]
theorem LO {x:Int} (h:0≤x∧x<(n:Int)):CB x n=1:=by
 induction n with
 |zero=>omega
 |succ n ih=>
  rw [ye]
  by_cases e:x=(n:Int)
  ·rw [if_pos e,HW I]
  ·rw [if_neg e,ih I]
noncomputable def gh (j:cV) (n m:Nat):Nat:=((List.range n).map fun (s:Nat)=>jG j (s:Int) m).sum
theorem lD:gh j (n+1) m=gh j n m+jG j (n:Int) m:=by unfold gh; rw [List.range_succ,List.map_append,List.sum_append]; simp
theorem zN (hp:j.aq[m]? =some p):gh j n (m+1)=gh j n m+if gu j p=false then CB p.iu n else 0:=by
 induction n with
 |zero=>unfold gh CB; simp
 |succ n ih=>
  rw [lD,lD,ih,rO hp,ye]
  by_cases h:gu j p=false
  ·by_cases e:p.iu=(n:Int)
   ·simp [h,e]; omega
   ·simp [h,e]; omega
  ·simp [h]
/-- all that is lost, and all that is granted, are all protests -/
theorem Hh (hj:nH j) (hm:m≤j.aq.length):gh j j.Race.aT.length m+(lH j m).length=m:=by
 induction m with
 |zero=>
  have:gh j j.Race.aT.length 0=0:=by
   generalize j.Race.aT.length=n
   induction n with
   |zero=>rfl
   |succ n ih=>rw [lD,ih]; rfl
  rw [this]; rfl
 |succ m ih=>
  obtain ⟨p,hp⟩: ∃ p,j.aq[m]? =some p:=⟨j.aq[m]'I,fQ _⟩
  have ih:=ih I
  have hs:=(hj.hG m p hp).jF
  unfold oa at hs
  rw [zN hp]
  cases h:gu j p with
  |true=>
   have e:lH j (m+1)=lH j m++[(m:Int)]:=vo (by rw [hp]; exact h)
   rw [e,List.length_append]; simp; omega
  |false=>
   have e:lH j (m+1)=lH j m:=qM (by rw [hp]; exact h)
   rw [e,LO I]; simp; omega
theorem EG (hj:nH j):xo j=(gh j j.Race.aT.length j.aq.length:Int)*j.j2:=by
 have h:=Hh hj (Nat.le_refl _)
 unfold xo w6 im
 rw [← Int.sub_mul]
 congr 1
 omega
end
end
section
structure UC (j x:cV):Prop where
 race:x.Race=j.Race
 TK:x.aC=j.aC
 min_:j.cu≤x.cu
 hG: ∀ (i:Nat) p,j.aq[i]? =some p→x.aq[i]? =some p
section
variable {j x:cV} {n s:Int} {h k:Nat} {a b:List Int} {f f':aX} {ht:List ay} {d:ay}
theorem OF (e:dU j=0):n∈gX j↔ ∃ i:Nat,n=(i:Int)∧ ∃ p,j.aq[i]? =some p∧gu j p=true:=by
 rw [j4 e]
 unfold im
 rw [qj]
 constructor
 ·rintro ⟨i,_,B,A⟩; exact ⟨i,B,A⟩
 ·rintro ⟨i,B,p,A,C⟩; exact ⟨i,(aY.1 A).1,B,p,A,C⟩
end
end
section
section
variable {j:cV} {m n i:Nat} {p:a_} {s:Int}
theorem GK (e:dU j=0):vp j=((gX j).length:Int)*j.j2:=by rw [(lM e).1,j4 e]; rfl
theorem HV (e:dU j=0):vp j+rl j=(j.aq.length:Int)*j.j2:=by rw [(lM e).1,(lM e).2]; unfold xo; omega
theorem xq:jG j s m≤m:=by unfold jG; exact Nat.le_trans List.countP_le_length (by rw [List.length_range]; exact Nat.le_refl _)
theorem DB:gh j n m≤n*m:=by
 induction n with
 |zero=>simp [gh]
 |succ n ih=>rw [lD,Nat.succ_mul]; have:=xq (j:=j) (s:=(n:Int)) (m:=m); omega
theorem uC (hn:n≤5) (hm:m≤8):gh j n m≤40:=Nat.le_trans DB (Nat.mul_le_mul hn hm)
theorem O4 (e:dU j=0):(gX j).length≤j.aq.length:=by rw [j4 e]; exact qh
theorem yZ (e:dU j=0) (hp:j.aq[m]? =some p):(m:Int)∈gX j↔gu j p=true:=by
 rw [OF e]
 constructor
 ·rintro ⟨i,C,q,A,B⟩
  obtain rfl:i=m:=by omega
  rw [hp] at A; cases A; exact B
 ·intro h; exact ⟨m,rfl,p,hp,h⟩
theorem FX: -(gh j 0 m:Int)*j.j2=0:=by simp [gh]
theorem Hx (e:dU j=0) (hi:i<j.Race.aT.length):oM j i=0∧oR j i= -((jG j (i:Int) j.aq.length:Nat):Int)*j.j2:=by
 refine ⟨by unfold oM; rw [if_pos e,if_pos I],?_⟩
 unfold oR; rw [if_pos ⟨e,I⟩]; rfl
theorem Fm: -((gh j (i+1) m:Nat):Int)*j.j2= -(gh j i m:Int)*j.j2+ -((jG j (i:Int) m:Nat):Int)*j.j2:=by
 rw [lD,← Int.add_mul]; congr 1; omega
theorem A_ (e:dU j=0) (hi:i=j.Race.aT.length): -(gh j i j.aq.length:Int)*j.j2= -(rl j):=by
 subst hi; rw [(lM e).2,EG (eZ e).2,Int.neg_mul]
theorem Pj (e:dU j=0):0≤rl j∧rl j≤4000000:=by
 obtain ⟨C,A⟩:=eZ e
 have F:=(e8 C).2.num
 have G:=A.np
 have B:=A.pd
 have H:=uC (j:=j) (n:=j.Race.aT.length) (m:=j.aq.length) I I
 rw [(lM e).2,EG A]
 have D:=Int.mul_nonneg (show (0:Int)≤(gh j j.Race.aT.length j.aq.length:Int) by omega) B.1
 have E:=Int.mul_le_mul (show (gh j j.Race.aT.length j.aq.length:Int)≤40 by omega) B.2 B.1 dc
 omega
theorem pj (e:dU j=0) (hp:j.aq[m]? =some p) (h:p.iu=s) (hn: ¬ (m:Int)∈gX j):((jG j s (m+1):Nat):Int)=(jG j s m:Int)+1:=by
 rw [rO hp,if_pos ⟨h,by cases q:gu j p with |true=>exact absurd ((yZ e hp).2 q) hn|false=>rfl⟩]; omega
theorem px (hp:j.aq[m]? =some p) (h: ¬ p.iu=s):((jG j s (m+1):Nat):Int)=(jG j s m:Int):=by
 rw [rO hp,if_neg (fun q=>h q.1)]; omega
theorem pA (e:dU j=0) (hp:j.aq[m]? =some p) (hn:(m:Int)∈gX j):((jG j s (m+1):Nat):Int)=(jG j s m:Int):=by
 rw [rO hp,if_neg (fun q=>by rw [(yZ e hp).1 hn] at q; exact Bool.noConfusion q.2)]; omega
end
end
section
set_option maxRecDepth 20000
def QX:au:=⟨1,⟨10000,10200⟩,⟨0,0⟩,⟨0,0⟩,0,0⟩
def yh:ax:=⟨100,[⟨0,⟨0,2⟩⟩,⟨100000,⟨5,6⟩⟩]⟩
def Pw (o:Int):bM:=⟨⟨0,⟨o,o⟩⟩,0⟩
def ob (f:Int):bj:=⟨[QX],2000,[yh],[Pw 1000,Pw 4000,Pw 9000],1,f,1⟩
def l_:cD:=⟨10000,20000,[⟨0,10600⟩,⟨0,11000⟩,⟨1,12600⟩]⟩
theorem Jq:du [QX]=true:=by decide
theorem xx:eX yh:=by
 have hi: ∀ (i:Nat) (x:cW),yh.bJ[i]? =some x→i=0∧x=⟨0,⟨0,2⟩⟩∨i=1∧x=⟨100000,⟨5,6⟩⟩:=fun i x h=>by
  match i with
  |0=>left; simp [yh] at h; exact ⟨rfl,h.symm⟩
  |1=>right; simp [yh] at h; exact ⟨rfl,h.symm⟩
  |n+2=>simp [yh] at h
 refine ⟨dc,dc,fun i x hx=>?_,fun i k x o hx hk ho=>?_⟩
 ·rcases hi i x hx with ⟨rfl,rfl⟩|⟨rfl,rfl⟩<;>(unfold fE; decide)
 ·rcases hi i x hx with ⟨rfl,rfl⟩|⟨rfl,rfl⟩
  ·omega
  ·rcases hi k o ho with ⟨rfl,rfl⟩|⟨rfl,rfl⟩
   ·unfold nE; decide
   ·omega
theorem zO {o:Int} (h:0≤o∧o<10000):fG [QX] ⟨0,⟨o,o⟩⟩:=⟨sm,QX,rfl,by show o≤o∧0≤o∧o≤10000-1; omega⟩
theorem Mg {f:Int} (hf:0≤f∧f≤3):lL (ob f):=by
 refine ⟨?_,fun c hc=>?_,fun b hb=>?_,fun i hi=>?_⟩
 ·unfold eV; simp [ob]; omega
 ·simp [ob] at hc; subst hc; exact xx
 ·simp [ob] at hb
  rcases hb with rfl|rfl|rfl
  ·exact ⟨zO I,by simp [Pw,ob]⟩
  ·exact ⟨zO I,by simp [Pw,ob]⟩
  ·exact ⟨zO I,by simp [Pw,ob]⟩
 ·have A:i<3:=hi
  have:i=0∨i=1∨i=2:=by omega
  rcases this with rfl|rfl|rfl
  ·show (1:Int)≤ly (ob 0) 0; decide
  ·show (1:Int)≤ly (ob 0) 1; decide
  ·show (1:Int)≤ly (ob 0) 2; decide
def ij:bj:=ob 1
theorem MW:dI ij=0:=xU Jq (Mg I)
theorem Hg {r x:Int} (h0:0<x) (h1:x≤86400000) (hy:gJ yh r x=true) (hn:gJ yh r (x-1)=false):fI (gJ yh r) 86400001=x:=
 y_ I I hy fun z hz A=>by
  cases e:gJ yh r z with
  |false=>rfl
  |true=>
   unfold gJ at e hn
   have:=(oJ xx hz (show z≤x-1 by omega) I).2
   have B:=of_decide_eq_true e
   have C:=of_decide_eq_false hn
   omega
theorem HU {r x:Int} (h0:0<x) (h1:x≤86400000) (hy:gI yh r x=true) (hn:gI yh r (x-1)=false):fI (gI yh r) 86400001=x:=
 y_ I I hy fun z hz A=>by
  cases e:gI yh r z with
  |false=>rfl
  |true=>
   unfold gI at e hn
   have:=(oJ xx hz (show z≤x-1 by omega) I).1
   have B:=of_decide_eq_true e
   have C:=of_decide_eq_false hn
   omega
theorem RY:rr yh 10600=⟨10596,10602⟩:=by unfold rr; rw [Hg (x:=10596) I I dc dc,HU (x:=10603) I I dc dc]; rfl
theorem Ru:rr yh 11000=⟨10996,11002⟩:=by unfold rr; rw [Hg (x:=10996) I I dc dc,HU (x:=11003) I I dc dc]; rfl
theorem PJ:rr yh 12600=⟨12596,12602⟩:=by unfold rr; rw [Hg (x:=12596) I I dc dc,HU (x:=12603) I I dc dc]; rfl
def QD (f:Int):bY:=⟨10000,20000,[500,1500,2500],[[(0,⟨10596,10602⟩),(1,⟨10996,11002⟩)],[(2,⟨12596,12602⟩)],[]],1,f,3⟩
theorem QS (f:Int):cO (ob f) ⟨0,10600⟩=⟨10596,10602⟩:=RY
theorem Rf (f:Int):cO (ob f) ⟨0,11000⟩=⟨10996,11002⟩:=Ru
theorem RT (f:Int):cO (ob f) ⟨1,12600⟩=⟨12596,12602⟩:=PJ
theorem Jp (f:Int):cL (ob f) l_.ab 3=[[(0,⟨10596,10602⟩),(1,⟨10996,11002⟩)],[(2,⟨12596,12602⟩)],[]]:=by
 have o: ∀ b:Nat,k9 (ob f) l_.ab 3 b=(nK (ob f) l_.ab b 0).toList++((nK (ob f) l_.ab b 1).toList++(nK (ob f) l_.ab b 2).toList):=fun b=>by
  rw [lp,lp,lp]; simp [k9]
 have A: ∀ b:Nat,nK (ob f) l_.ab b 0=if (0:Int)=(b:Int) then some (0,⟨10596,10602⟩) else none:=fun b=>by
  show (if (0:Int)=(b:Int)∧(cO (ob f) ⟨0,10600⟩).Lo≤(cO (ob f) ⟨0,10600⟩).Hi then some ((0:Int),cO (ob f) ⟨0,10600⟩) else none)=_
  rw [QS]; by_cases h:(0:Int)=(b:Int)
  ·rw [if_pos h,if_pos ⟨h,dc⟩]<;>rfl
  ·rw [if_neg h,if_neg fun q=>h q.1]
 have B: ∀ b:Nat,nK (ob f) l_.ab b 1=if (0:Int)=(b:Int) then some (1,⟨10996,11002⟩) else none:=fun b=>by
  show (if (0:Int)=(b:Int)∧(cO (ob f) ⟨0,11000⟩).Lo≤(cO (ob f) ⟨0,11000⟩).Hi then some ((1:Int),cO (ob f) ⟨0,11000⟩) else none)=_
  rw [Rf]; by_cases h:(0:Int)=(b:Int)
  ·rw [if_pos h,if_pos ⟨h,dc⟩]<;>rfl
  ·rw [if_neg h,if_neg fun q=>h q.1]
 have C: ∀ b:Nat,nK (ob f) l_.ab b 2=if (1:Int)=(b:Int) then some (2,⟨12596,12602⟩) else none:=fun b=>by
  show (if (1:Int)=(b:Int)∧(cO (ob f) ⟨1,12600⟩).Lo≤(cO (ob f) ⟨1,12600⟩).Hi then some ((2:Int),cO (ob f) ⟨1,12600⟩) else none)=_
  rw [RT]; by_cases h:(1:Int)=(b:Int)
  ·rw [if_pos h,if_pos ⟨h,dc⟩]<;>rfl
  ·rw [if_neg h,if_neg fun q=>h q.1]
 show [k9 (ob f) l_.ab 3 0,k9 (ob f) l_.ab 3 1,k9 (ob f) l_.ab 3 2]=_
 rw [o,o,o,A,A,A,B,B,B,C,C,C]
 rfl
theorem AB (f:Int):cb (ob f) l_=QD f:=by
 unfold cb QD
 rw [show l_.ab.length=3 from rfl,Jp]
 rfl
theorem LC (f:Int):eh (ob f) l_:=by
 refine ⟨dc,dc,fun i s hs=>?_⟩
 match i with
 |0=>simp [l_] at hs; subst hs; unfold hO iF; simp [ob,kT]
 |1=>simp [l_] at hs; subst hs; unfold hO iF; simp [ob,kT,l_]
 |2=>simp [l_] at hs; subst hs; unfold hO iF; simp [ob,kT,l_]
 |n+3=>simp [l_] at hs
theorem Bk:ic (cb ij l_)=[2,3]:=by rw [show cb ij l_=QD 1 from AB 1]; decide
theorem AA:dN ij l_ 0=0:=lv MW (LC 1) rfl (by rw [Bk]; decide)
theorem HN:hP ij l_=[2,3]:=by rw [ky AA,Bk]
theorem JO {b:Nat} (hb:b<3):dN ij l_ (jI ij b)=0:=by rw [tI (by show 0≤(b:Int)∧(b:Int)≤3-1; omega)]; exact AA
theorem E8 {b:Nat} {z:ag} (hb:b<3) (hz:vx (mz (QD 1) b)=z) (hn:z≠mC):dT ij l_ b=0∧dK ij l_ b=z:=by
 have e:mB ij l_ b=z:=by unfold mB; rw [show cb ij l_=QD 1 from AB 1]; exact hz
 have h:=oy (JO hb) (by rw [e]; exact hn)
 exact ⟨h.1,h.2.trans e⟩
theorem BJ:dT ij l_ 0=0∧dK ij l_ 0=⟨10596,11002⟩:=E8 (b:=0) I dc dc
theorem qO:dT ij l_ 1=0∧dK ij l_ 1=⟨12596,12602⟩:=E8 (b:=1) I dc dc
theorem Nr:dT ij l_ ij.bK=0∧z9 ij l_=⟨2596,2602⟩:=by
 refine ⟨qO.1,?_⟩
 rw [zm (l:=ij) (r:=l_) qO.1]
 rw [show dK ij l_ ij.bK=⟨12596,12602⟩ from qO.2]
 rfl
theorem Rw (f:Int) {a:OA} {c:Nat} (hc:2≤c):eH (ob f) [(a,c)]:=by
 refine ⟨by simp [ob],?_,by simp [ob],U,by simp [ob],fun k m a' hm ha=>?_⟩
 ·intro x hx; simp [ob] at hx; subst hx; simp [QX]
 ·match k with
  |0=>simp [ob] at hm ha; subst hm; subst ha; simp [yh]; exact hc
  |n+1=>simp at ha
end
section
open Go.RowKit
theorem rJ {l:List ax} {az:List RA} (h:az.length=l.length):(List.zipWith ax.cells l az).length=l.length:=by simp [h]
theorem zl {l:List ax} {bz:List RA}:(cd (bw ax.owns l bz)).wr=true:=by
 show (bw ax.owns l bz).all (·.wr)=true
 rw [de]
 intro X hX
 obtain ⟨k,m,a,_,_,h⟩:=j9 hX
 simp only [ax.owns,cm] at h
 subst h; rfl
theorem o1: ∀ (m:ax) (a:RA) (w:World),(∀ X∈ax.owns m a,X.holds w)→ ∀ X∈ax.gL m a,X.holds w:=fun m a w h X hX=>by
 simp only [ax.gL,cm] at hX
 subst hX
 have:=nM (h _ (cm.2 rfl))
 simpa using this
section
variable {E:e9} {ops:Array Oper} {Q:dq} {rest:List Oper} {D:List Deferred} {L:List (Nat×Value)} {C:List aw}
end
end
section
open Go.RowKit
def LI (m:ay) (a:RA):List aw:=[own a.1 a.2 Qm 2 (m.bD.ab.map aG.cells)]
def AQ (m:List ay) (a:dQ):List aw:=own a.1.1 a.1.2 PN 7 (List.zipWith ay.cells m a.2)::bw LI m a.2
theorem OV: ∀ (m:ay) (a:RA) (w:World),(∀ X∈LI m a,X.holds w)→ ∀ X∈ay.gL m a,X.holds w:=fun m a w h X hX=>by
 simp only [ay.gL,cm] at hX
 subst hX
 have:=nM (h _ (cm.2 rfl))
 simpa using this
theorem Jy {m:List ay} {asl:List RA} (h:asl.length=m.length):(List.zipWith ay.cells m asl).length=m.length:=by simp [h]
theorem pb {m:List (List ay)} {asl:List dQ} (h:asl.length=m.length):(List.zipWith dz m asl).length=m.length:=by simp [h]
theorem L6 {m:List ay} {asl:List RA}:(bw LI m asl).all (·.wr)=true:=by
 rw [de]
 intro X hX
 obtain ⟨k,d,a,_,_,h⟩:=j9 hX
 simp only [LI,cm] at h
 subst h; rfl
theorem Kl {m:List (List ay)} {asl:List dQ}:(cd (bw AQ m asl)).wr=true:=by
 show (bw AQ m asl).all (·.wr)=true
 rw [de]
 intro X hX
 obtain ⟨k,d,a,_,_,h⟩:=j9 hX
 rcases bR.1 h with rfl|h
 ·rfl
 ·exact de.1 L6 X h
/-- every heat has as many places as descents -/
def Hc (H:List (List ay)) (hz:List dQ):Prop:=hz.length=H.length∧ ∀ (k:Nat) h (a:dQ),H[k]? =some h→hz[k]? =some a→a.2.length=h.length
theorem LR {a:OA} {c e sz n:Nat} {es:List (List Value)} {w:World} (h:(own a c e sz es).holds w) (hn:es.length=n):(rd a n sz es).holds w:=by subst hn; exact nM h
theorem nj {C:List aw} {H:List (List ay)} {hz:List dQ} (i:Nat) (hC:C[i]? =some (cd (bw AQ H hz))) (hh:Hc H hz):js C (d_ (bw fy H hz)).holds:=fun w hw X hX=>by
 have hb:=hw _ (aP hC)
 obtain ⟨k,m,a,A,B,D⟩:=j9 hX
 rcases bR.1 D with rfl|D
 ·exact LR (hb.1 _ (bW A B cJ)) (Jy (hh.2 k m a A B))
 ·obtain ⟨q,d,b,E,F,G⟩:=j9 D
  exact OV d b w (fun Y hY=>hb.1 Y (bW A B (dW _ (bW E F hY)))) X G
section
variable {α:Type}
variable {bz az:List α} {i:Nat} {a b:α}
end
section
variable {E:e9} {ops:Array Oper} {Q:dq} {rest:List Oper} {D:List Deferred} {L:List (Nat×Value)} {C C1:List aw} {K:Act→World→Prop}
variable {H:List (List ay)} {hz:List dQ} {h h':List ay} {a a':dQ} {k:Nat} {X:aw} {Y Z Z':List aw}
end
end
section
open Go.RowKit
def Dd (t:ag):ay:=⟨false,true,t,⟨0,0,[]⟩⟩
def TO (H:List (List ay)) (h i:Int) (t:ag):List (List ay):=H.set h.toNat ((H[h.toNat]?.getD []).set i.toNat (Dd t))
def Nz (r:fg) (h i:Int) (t:ag):fg:=⟨r.aj,r.aT,r.bS,r.f_,TO r.aB h i t⟩
@[simp] theorem Ps {r:fg} {h i:Int} {t:ag}:(Nz r h i t).aj=r.aj:=rfl
@[simp] theorem Ow {r:fg} {h i:Int} {t:ag}:(Nz r h i t).aT=r.aT:=rfl
@[simp] theorem Pt {r:fg} {h i:Int} {t:ag}:(Nz r h i t).bS=r.bS:=rfl
section
variable {r:fg} {h i:Int} {t:ag} {ht:List ay} {d:ay}
end
section
variable {E:e9} {Q:dq} {D:List Deferred} {L:List (Nat×Value)} {C C1:List aw} {c:Code}
variable {H:List (List ay)} {hz:List dQ} {h h':List ay} {a a':dQ} {k:Nat} {bs:List RA} {i:Nat} {d d':ay} {b:RA}
end
end
section
set_option maxRecDepth 20000
def m0 (x y:Int):ay:=Dd ⟨x,y⟩
def o7:ay:=⟨false,false,gU,l_⟩
def qC:fg:=⟨ij,[4,7,9],[2,0,1],2,[[o7,m0 2600 2600,m0 2580 2609],[m0 2555 2559,m0 2540 2549,m0 2570 2575]]⟩
def ei:cV:=⟨qC,[⟨1,0,12600,13000⟩,⟨2,1,11003,11100⟩,⟨3,0,10700,10900⟩,⟨1,0,13000,14000⟩],[⟨2,0,0,0,72596⟩,⟨5,0,0,1,72603⟩,⟨6,0,0,3,20000⟩],1,500⟩
theorem zz {l:bj} {x y:Int} (h:l5 ⟨x,y⟩):iW l (m0 x y):=by rw [tw ⟨rfl,rfl⟩]; exact ⟨h,rfl,rfl,rfl⟩
theorem Jn:fH qC:=by
 refine ⟨dc,dc,dc,fun i x hx=>?_,dc,fun h hh=>?_⟩
 ·match i with
  |0=>simp [qC] at hx; subst hx; exact ⟨dc,fun y h=>absurd h dc⟩
  |1=>simp [qC] at hx; subst hx; exact ⟨dc,fun y _ h=>by simp [qC] at h; omega⟩
  |2=>simp [qC] at hx; subst hx; exact ⟨dc,fun y _ h=>by simp [qC] at h; omega⟩
  |n+3=>simp [qC] at hx
 ·simp only [qC,bR,List.not_mem_nil,or_false] at hh
  rcases hh with rfl|rfl
  ·refine ⟨U,fun d hd=>?_⟩
   simp only [bR,List.not_mem_nil,or_false] at hd
   rcases hd with rfl|rfl|rfl
   ·rw [uc ⟨rfl,rfl⟩]; exact ⟨Nr.1,rfl⟩
   ·exact zz dc
   ·exact zz dc
  ·refine ⟨U,fun d hd=>?_⟩
   simp only [bR,List.not_mem_nil,or_false] at hd
   rcases hd with rfl|rfl|rfl<;>exact zz dc
theorem OG:jP qC=0:=by unfold jP; rw [if_pos (show dI qC.aj=0 from MW),if_pos Jn]
theorem NP:nH ei:=by
 refine ⟨dc,fun f hf=>?_,dc,dc,dc,fun i p hp=>?_⟩
 ·simp only [ei,bR,List.not_mem_nil,or_false] at hf
  rcases hf with rfl|rfl|rfl|rfl<;>decide
 ·match i with
  |0=>simp [ei] at hp; subst hp; exact ⟨dc,fun q h=>absurd h dc,dc,dc,dc,o7,rfl,dc⟩
  |1=>simp [ei] at hp; subst hp; exact ⟨dc,fun q _ h=>by simp [ei] at h; subst h; decide,dc,dc,dc,o7,rfl,dc⟩
  |2=>simp [ei] at hp; subst hp; exact ⟨dc,fun q _ h=>by simp [ei] at h; subst h; decide,dc,dc,dc,o7,rfl,dc⟩
  |n+3=>simp [ei] at hp
theorem oB:dU ei=0:=h_ OG NP
theorem Cc {b:Int} (h:b<2):ud ij l_ b=true:=by
 unfold ud; rw [HN]; simp; omega
theorem Na (h:(-1:Int)<0):cP ij l_ (-1)=⟨10000,10000,true,false⟩:=if_pos h
theorem O_:cP ij l_ 0=⟨10596,11002,true,false⟩:=by
 unfold cP; rw [if_neg dc,if_pos BJ.1,BJ.2,Cc dc]; rfl
theorem zG:cP ij l_ 1=⟨12596,12602,true,false⟩:=by
 unfold cP; rw [if_neg dc,if_pos qO.1,qO.2,Cc dc]; rfl
theorem IV {f:aX} {a b:yv} (ha:cP ij l_ (ze f)=a) (hb:cP ij l_ (Pu ij f)=b):g4 ij f o7=nR f a b:=by
 unfold g4
 rw [if_pos (by decide:nU o7)]
 show nR f (cP ij l_ (ze f)) (cP ij l_ (Pu ij f))=_
 rw [ha,hb]
theorem DS:g4 ij ⟨1,0,12600,13000⟩ o7=1:=(IV (f:=⟨1,0,12600,13000⟩) (show cP ij l_ (-1)=_ from Na dc) (show cP ij l_ (1)=_ from zG)).trans dc
theorem Ob:g4 ij ⟨2,1,11003,11100⟩ o7=2:=(IV (f:=⟨2,1,11003,11100⟩) (show cP ij l_ (0)=_ from O_) (show cP ij l_ (1)=_ from zG)).trans dc
theorem JT:g4 ij ⟨1,0,13000,14000⟩ o7=0:=(IV (f:=⟨1,0,13000,14000⟩) (show cP ij l_ (-1)=_ from Na dc) (show cP ij l_ (1)=_ from zG)).trans dc
theorem OM {f:aX} {x y:Int}:g4 ij f (m0 x y)=0:=cN (by simp [m0,Dd,nU])
theorem Bs {p:a_} (hd:qo ei p=some o7):mO ei p=if p.At≤72596 then 0 else if p.At≤72602 then 1 else 2:=by
 unfold mO
 rw [hd]
 simp only
 have e:cP ei.Race.aj o7.bD ei.Race.aj.bK=⟨12596,12602,true,false⟩:=zG
 rw [e]; rfl
theorem Ia:mO ei ⟨2,0,0,0,72596⟩=0:=(Bs rfl).trans dc
theorem Ht:mO ei ⟨5,0,0,1,72603⟩=2:=(Bs rfl).trans dc
theorem I_ {p:a_} {f:aX} (hd:qo ei p=some o7) (hf:ei.aC[p.jU.toNat]? =some f):gu ei p=(decide (mO ei p≠2)&&decide (g4 ij f o7≠0)):=by
 unfold gu; rw [hd,hf]; rfl
theorem CC:gu ei ⟨2,0,0,0,72596⟩=true:=by rw [I_ (f:=⟨1,0,12600,13000⟩) rfl rfl,Ia,DS]; rfl
theorem Ig:gu ei ⟨5,0,0,1,72603⟩=false:=by rw [I_ (f:=⟨2,1,11003,11100⟩) rfl rfl,Ht]; rfl
theorem IS:gu ei ⟨6,0,0,3,20000⟩=false:=by rw [I_ (f:=⟨1,0,13000,14000⟩) rfl rfl,JT]; simp
theorem wB:im ei=[0]:=by
 unfold im lH
 show lY (fun i=>(ei.aq[i]?).any (gu ei)) 3=[0]
 rw [qM (by show gu ei ⟨6,0,0,3,20000⟩=false; exact IS),qM (by show gu ei ⟨5,0,0,1,72603⟩=false; exact Ig),vo (by show gu ei ⟨2,0,0,0,72596⟩=true; exact CC)]
 rfl
theorem Mh:IM ij (oo ei) ei.aC o7:=⟨⟨1,0,12600,13000⟩,by simp [ei],⟨0,⟨2,0,0,0,72596⟩,rfl,CC,rfl⟩,by rw [DS]; decide⟩
theorem ur {x y:Int}: ¬ IM ij (oo ei) ei.aC (m0 x y):=fun ⟨f,_,_,h⟩=>h OM
theorem Mn:kS ei=[[0],[]]:=by
 have A:wV ij (oo ei) ei.aC [o7,m0 2600 2600,m0 2580 2609] 3=[0]:=by
  unfold wV
  rw [qM (by simp [ur]),qM (by simp [ur]),vo (by simp [Mh])]; rfl
 have B:wV ij (oo ei) ei.aC [m0 2555 2559,m0 2540 2549,m0 2570 2575] 3=[]:=by
  unfold wV
  rw [qM (by simp [ur]),qM (by simp [ur]),qM (by simp [ur])]; rfl
 show [wV ij (oo ei) ei.aC [o7,m0 2600 2600,m0 2580 2609] 3,wV ij (oo ei) ei.aC [m0 2555 2559,m0 2540 2549,m0 2570 2575] 3]=_
 rw [A,B]
theorem Bq:w6 ei=500∧xo ei=1000:=by
 have h:w6 ei=500:=by unfold w6; rw [wB]; rfl
 exact ⟨h,by unfold xo; rw [h]; rfl⟩
theorem FR:DH ei 0= -1000:=by
 have h:jG ei 0 3=2:=by
  unfold jG
  rw [show List.range 3=[0,1,2] from rfl]
  simp only [List.countP_cons,List.countP_nil]
  rw [show (ei.aq[0]?)=some ⟨2,0,0,0,72596⟩ from rfl,show (ei.aq[1]?)=some ⟨5,0,0,1,72603⟩ from rfl,show (ei.aq[2]?)=some ⟨6,0,0,3,20000⟩ from rfl]
  simp only [Option.any_some,CC,Ig,IS]
  decide
 unfold DH
 rw [show ei.aq.length=3 from rfl,h]; rfl
end
section
open Go.RowKit
section
variable {E:e9} {ops:Array Oper} {Q:dq} {rest:List Oper} {D:List Deferred} {L:List (Nat×Value)} {C C1:List aw}
end
theorem x8 {C:List aw}: ∀ {a b:List Nat} {X Y:List aw},pH C a=some X→pH C b=some Y→pH C (a++b)=some (X++Y)
 |[],b,X,Y,h,h2=>by cases h; exact h2
 |i::a,b,X,Y,h,h2=>by
  unfold pH at h
  split at h
  ·rename_i A hA
   split at h
   ·rename_i l hl
    cases h
    have ih:=x8 hl h2
    show (match C[i]? with
     |some A=>match pH C (a++b) with
      |some l=>some (A::l)
      |none=>none
     |none=>none)=_
    rw [hA,ih]; rfl
   ·cases h
  ·cases h
theorem G1 {E:e9} {ops:Array Oper} {Q:dq} {rest:List Oper} {D:ig} {L:dA} {C C1:List aw} (X:List aw) (i1 i2:List Nat) (h1:pH C i1=some X) (h2:pH C i2=some C1) (h:RJ E ops Q rest D L (cd X::C1)) (hn:decide (i1++i2).Nodup=true:=by rfl):RJ E ops Q rest D L C:=fun a w hf hs=>h a w hf (St.tied (St.kG _ hn (p_ (x8 h1 h2)) hs))
theorem z3 {E:e9} {ops:Array Oper} {Q:dq} {rest:List Oper} {D:ig} {L:dA} {C C1:List aw} (ix:List Nat) (hn:decide ix.Nodup=true) (hC:pH C ix=some C1) (h:RJ E ops Q rest D L C1):RJ E ops Q rest D L C:=fun a w hf hs=>h a w hf (St.kG _ hn (p_ hC) hs)
theorem rj {M A B:Type} {f:M→A→List B} {n:Nat} (h: ∀ m a,(f m a).length=n): ∀ {ms:List M} {asl:List A},∀ x∈List.zipWith f ms asl,x.length=n
 |[],asl,x,hx=>by simp at hx
 |m::ms,[],x,hx=>by simp at hx
 |m::ms,a::asl,x,hx=>by
  rw [List.zipWith_cons_cons] at hx
  rcases bR.1 hx with rfl|hx
  ·exact h m a
  ·exact rj h x hx
theorem EN (m:ay) (a:RA):(ay.cells m a).length=7:=rfl
theorem Iu (m:List ay) (a:dQ):(dz m a).length=1:=rfl
theorem Pb (m:List Int) (a:RA):(yi m a).length=1:=rfl
end
section
open Go.RowKit
theorem FJ {E:e9} {c:Code} {Q:dq} {D:ig} {L:dA} {C C1:List aw} (X:List aw) (i1 i2:List Nat) (h1:pH C i1=some X) (h2:pH C i2=some C1) (h:WJ E c Q D L (cd X::C1)) (hn:decide (i1++i2).Nodup=true:=by rfl):WJ E c Q D L C:=fun a w hf hs=>h a w hf (St.tied (St.kG _ hn (p_ (x8 h1 h2)) hs))
def HD:List ay:=[o7,m0 2600 2600,m0 2580 2609]
def QY:List ay:=[m0 2555 2559,m0 2540 2549,m0 2570 2575]
theorem HP {p q s t u v x y:RA}:Hc qC.aB [(p,[s,t,u]),(q,[v,x,y])]:=⟨rfl,fun k h a hk ha=>by
 match k with
 |0=>simp [qC] at hk ha; subst hk; subst ha; rfl
 |1=>simp [qC] at hk ha; subst hk; subst ha; rfl
 |n+2=>simp at ha⟩
theorem LG {bz:List RA} {hz:List dQ} (h:eH ij bz) (hh:Hc qC.aB hz):oW qC bz hz:=⟨h,dc,dc,dc,hh.1,fun k x a hx ha=>by
 have hm:=aP hx
 have hs:=hh.2 k x a hx ha
 simp only [qC,bR,List.not_mem_nil,or_false] at hm
 rcases hm with rfl|rfl
 ·exact ⟨dc,hs,dc⟩
 ·exact ⟨dc,hs,dc⟩⟩
theorem Nt {bz:List RA} {hz:List dQ} (h:eH ij bz) (hh:Hc qC.aB hz):hH ei bz hz:=⟨LG h hh,dc,dc,dc⟩
end
section
open Go.RowKit
theorem Od:oU ei 0 0 0=0∧pW ei 0 0 0=1:=by
 have e:=mN (j:=ei) (k:=0) (h:=0) (s:=0) (f:=⟨1,0,12600,13000⟩) (ht:=HD) (d:=o7) oB dc rfl rfl rfl
 exact ⟨e.2,e.1.trans DS⟩
theorem Ol:oU ei 1 0 0=0∧pW ei 1 0 0=2:=by
 have e:=mN (j:=ei) (k:=1) (h:=0) (s:=0) (f:=⟨2,1,11003,11100⟩) (ht:=HD) (d:=o7) oB dc rfl rfl rfl
 exact ⟨e.2,e.1.trans Ob⟩
theorem Oc:oU ei 3 0 0=0∧pW ei 3 0 0=0:=by
 have e:=mN (j:=ei) (k:=3) (h:=0) (s:=0) (f:=⟨1,0,13000,14000⟩) (ht:=HD) (d:=o7) oB dc rfl rfl rfl
 exact ⟨e.2,e.1.trans JT⟩
theorem N2:tJ ei 0=0∧vY ei 0=0:=by
 have e:=tY (j:=ei) (i:=0) (p:=⟨2,0,0,0,72596⟩) oB dc rfl
 exact ⟨e.2,e.1.trans Ia⟩
theorem NU:tJ ei 1=0∧vY ei 1=2:=by
 have e:=tY (j:=ei) (i:=1) (p:=⟨5,0,0,1,72603⟩) oB dc rfl
 exact ⟨e.2,e.1.trans Ht⟩
theorem MG:gX ei=[0]:=(j4 oB).trans wB
theorem Kb:jk ei=[[0],[]]:=(vu oB).trans Mn
theorem MO:vp ei=500∧rl ei=1000:=⟨(lM oB).1.trans Bq.1,(lM oB).2.trans Bq.2⟩
theorem MJ:oM ei 0=0∧oR ei 0= -1000:=⟨by unfold oM; rw [if_pos oB,if_pos dc],by unfold oR; rw [if_pos ⟨oB,dc⟩]; exact FR⟩
end
section
theorem TN.sub {E:e9} {ops:Array Oper} {Q:dq} {D:ig} {C' C1 C:List aw} {tb rem:List Nat}: ∀ {n:Nat} {L L':dA},dG L L'→TN E ops D C' C1 (fun L C=>KJ E (Q .normal) D L C) tb n rem L' C→TN E ops D C' C1 (fun L C=>KJ E (Q .normal) D L C) tb n rem L C:=by
 intro n
 cases n with
 |zero=>intro L L' hs h; exact jV hs (fun _ h=>h) h
 |succ n=>intro L L' hs h i hi o ho K hK; exact M9 hs (fun _ h=>h) (h i hi o ho K hK)
theorem Mb {E:e9} {ops:Array Oper} {Q:dq} {D:ig} {C' C1 C:List aw} {bs:List Bool} {os:List Oper} {L:dA} {tb rem:List Nat} {n:Nat} {t:Nat} {b:Bool} (h:L.lookup t=some (.bool b))
 (h1:b=true→qD E ops D C' C1 (fun L'=>TN E ops D C' C1 (fun L C=>KJ E (Q .normal) D L C) tb n rem L' C) bs os ((t,.bool true)::L)) (h2:b=false→qD E ops D C' C1 (fun L'=>TN E ops D C' C1 (fun L C=>KJ E (Q .normal) D L C) tb n rem L' C) bs os ((t,.bool false)::L)):
 qD E ops D C' C1 (fun L'=>TN E ops D C' C1 (fun L C=>KJ E (Q .normal) D L C) tb n rem L' C) bs os L:=by
 have A: ∀ v:Bool,b=v→dG L ((t,.bool v)::L):=fun v hv=>dG.cons (hv▸h) (fun _ _ h=>h)
 cases b
 ·exact qD.mono (fun _ _=>TN.sub) (A _ U) (h2 U)
 ·exact qD.mono (fun _ _=>TN.sub) (A _ U) (h1 U)
theorem Q_ {E:e9} {ops:Array Oper} {Q:dq} {D:List Deferred} {L:List (Nat×Value)} {C1 C2 C:List aw} {t n:Nat} {b:Bool} {bs:List Bool} {os:List Oper} {tb rem:List Nat} (h:L.lookup t=some (.bool b)) (h2:b=false→qD E ops D C2 C1 (fun L2=>TN E ops D C2 C1 (fun L C=>KJ E (Q .normal) D L C) tb n rem L2 C) bs os ((t,.bool false)::L)) (h1:b=true→qD E ops D C2 C1 (fun L2=>TN E ops D C2 C1 (fun L C=>KJ E (Q .normal) D L C) tb n rem L2 C) bs os ((t,.bool true)::L)):qD E ops D C2 C1 (fun L2=>TN E ops D C2 C1 (fun L C=>KJ E (Q .normal) D L C) tb n rem L2 C) bs os L:=Mb h h1 h2
end
section
open Go.RowKit
theorem pg (n lo hi:Int):
 dH Tryz.prog 135 [(vI n),(vI lo),(vI hi)] [] (vB (decide (lo≤n∧n≤hi))):=by
 refine bH kr Tryz.func135 U U fun D Q hQ hN=>?_
 try dsimp only
 refine WS fun _ B=>bI 1 U<|RK B<|WS fun _ A=>rP 4 [] mn ?_
 refine cg (t:=10) U (aV fun C=>?_) (aW fun C=>?_)
 ·refine rP 5 [] mn ?_
  refine RK A<|ar<|Q1 hQ U U U ?_
  exact cB (fu.2 I)
 refine rP 5 [] mn ?_
 refine RK A<|ar<|Q1 hQ U U U ?_
 exact cB (bx I).symm
theorem pV (s:ag) (lo hi:Int):
 dH Tryz.prog 136 [(vA (ag.cells s)),(vI lo),(vI hi)] [] (vB (decide (s.Lo≤s.Hi∧lo≤s.Lo∧s.Hi≤hi))):=by
 refine bH kr Tryz.func136 U U fun E Q hQ hN=>?_
 try dsimp only
 refine WS fun _ B=>eK U fun D=>bI 1 U<|RK B<|WS fun _ A=>e7 5 [] (mc 0 U mn) U<|rS (CL (pg s.Lo lo s.Hi) (aK) U)<|rP 1 [] mn ?_
 refine cM (t:=13) U (aW fun C=>?_) (aV fun C=>?_)
 ·refine rP 6 [] mn ?_
  refine RK A<|ar<|Q1 hQ U U U ?_
  exact cB (bx I).symm
 refine rP 6 [] (mc 0 U mn) ?_
 refine RK A<|ar<|Q1 hQ U U U ?_
 exact cB (fu.2 I)
theorem KH (t:List au) (tA:OA) (tC:Nat):
 dH Tryz.prog 100 [(vA (bG.cells (bG.mk (aR.mk tA t.length tC))))] [(rd tA t.length 9 (t.map au.cells))] (vB (decide (20<(t.length:Int)))):=by
 refine bH kr Tryz.func100 U U fun D Q hQ hN=>?_
 try dsimp only
 refine WS fun _ A=>eK U fun C=>bI 1 U<|RK A<|WS fun _ B=>rP 5 [] (mc 0 U mn) ?_
 refine RK B<|ar ?_
 exact Q1 hQ U U U U
theorem Lc (l:List Int) (lA:OA) (lC:Nat) (f:Value) (p:Int→Bool) (X:aw) (hf: ∀ x0,x0∈l→CR Tryz.prog f [.int .i64 x0] [X] (.bool (p x0))) (hlen:l.length≤1000000):
 dH Tryz.prog 82 [(vS lA l.length lC),f] [(rd lA l.length 1 (l.map iC)),X] (vI (sD p l)):=by
 refine bH kr Tryz.func82 U U fun R Q hQ hN=>?_
 try dsimp only
 refine WS fun _ G=>bI 1 U<|RK G<|ao fun _ H=>WS fun _ AA=>rP 3 [] mn ?_
 refine RK AA<|aF ?_
 have B:(0≤l.length)∧((l.take 0).any p=false):=by simp
 refine bZ (ι:={z:Nat // (z≤l.length)∧((l.take z).any p=false)}) [0,1,7] [0,1] U U (fun z=>[(8,(vI (z.1:Int)))]) (fun z=>[]) (fun _=>rfl) (fun _=>rfl) (fun z=>l.length-z.1) ⟨0,B⟩ (bE U) (aU [0,1]) ?_
 clear B
 rintro ⟨i,⟨N,A⟩⟩ J4 F
 try dsimp only
 refine WS fun _ J=>rP 1 [] mn ?_
 refine RK J<|ao fun _ K=>bV U (aW fun P=>?_) (aV fun P=>?_)
 ·refine bQ<|ai<|ai<|aI<|KK H<|WS fun _ E=>rP 1 [] mn ?_
  refine RK E<|ar<|Q1 hQ U U U ?_
  exact cI (nO I A).symm
 refine WK K<|ao fun _ L=>aF<|WS fun _ M=>bI 2 U<|RK M<|WS fun _ C=>rP 3 [] mn ?_
 obtain ⟨x,hx⟩:=aM l i I
 have O:=bP iC hx
 refine rS (IA i U (aA 0 U) dD dc I I)<|rS (iK i 0 (vI x) U cq (aA 0 U) O U dc U)<|rS (SX (qk U U U (hf x (aP hx)) (bq [1])) U U)<|RK C<|cH U (fun hp=>?_) (fun hp=>?_)
 ·refine WS fun _ D=>rP 2 [] mn ?_
  refine RK D<|ar<|Q1 hQ U U U ?_
  exact cI (qF hx hp A).symm
 refine ct<|aN<|KK L<|av<|rP 2 [] mn ?_
 refine aH ?_
 refine bp (F ⟨(i+1),⟨I,tv hx A hp⟩⟩ _ _ _ U os (bE U) (aU [0,1]))
theorem pO (l:List Int) (lA:OA) (lC:Nat) (f:Value) (p:Int→Bool) (X:aw) (hf: ∀ x0,x0∈l→CR Tryz.prog f [.int .i64 x0] [X] (.bool (p x0))) (hlen:l.length≤1000000):
 dH Tryz.prog 53 [(vS lA l.length lC),f] [(rd lA l.length 1 (l.map iC)),X] (vB (l.any p)):=by
 refine bH kr Tryz.func53 U U fun C Q hQ hN=>?_
 try dsimp only
 refine WS fun _ A=>bI 1 U<|RK A<|WS fun _ B=>bI 2 U<|rS (CL (Lc l lA lC f p X (by exact hf) hlen) (bq [0,1]) U)<|rP 2 [] mn ?_
 refine RK B<|ar<|Q1 hQ U U U ?_
 exact cB sh
theorem F6 (n lo hi:Int) (g1 g2:Nat):
 dH Tryz.prog 129 [(vI n),(vP g1),(vP g2)] [(cw g1 3 [(vI lo)]),(cw g2 3 [(vI hi)])] (vB (decide (n<lo∨hi<n))):=by
 refine bH kr Tryz.func129 U U fun D Q hQ hN=>?_
 try dsimp only
 refine WS fun _ B=>bI 1 U<|RK B<|WS fun _ A=>rP 4 [] (mr 0 U mn) ?_
 refine cg (t:=8) U (aV fun C=>?_) (aW fun C=>?_)
 ·refine rP 5 [] mn ?_
  refine RK A<|ar<|Q1 hQ U U U ?_
  exact cB (c8 I).symm
 refine rP 5 [] (mr 1 U mn) ?_
 refine RK A<|ar<|Q1 hQ U U U ?_
 exact cB (fu.2 I)
theorem pw (lo hi:Int) (l:List Int) (lA:OA) (lC:Nat) (hlen:l.length≤1000000):
 dH Tryz.prog 104 [(vI lo),(vI hi),(vS lA l.length lC)] [(rd lA l.length 1 (l.map iC))] (vB (qw lo hi l)):=by
 refine bH kr Tryz.func104 U U fun F Q hQ hN=>?_
 try dsimp only
 refine WS fun _ D=>wu U U fun A=>wu U U fun B=>bI 1 U<|RK D<|WS fun _ E=>rP 1 [] mn ?_
 refine rS (FU U) ?_
 refine rS (CL (pO l lA lC (Value.func (.func 129) [].toArray [(vP A),(vP B)].toArray) (fun C=>(decide (C<lo∨hi<C))) (d_ [(cw A 3 [(vI lo)]),(cw B 3 [(vI hi)])]) (by intro C _; exact lf (fi:=[]) (ca:=[(vP A),(vP B)]) (jX (F6 C lo hi A B) (bq [0,1]))) hlen) (g_ 2 U U<|aJ (jT (bq [1,0]))<|aK) U) ?_
 refine rP 2 [] mn ?_
 refine RK E<|ar ?_
 exact Q1 hQ U U U U
theorem wo (s:ag) (lo hi:Int):
 dH Tryz.prog 105 [(vA (ag.cells s)),(vI lo),(vI hi)] [] (vB (decide (s.Lo≤s.Hi∧lo≤s.Lo∧s.Hi≤hi))):=by
 refine bH kr Tryz.func105 U U fun F Q hQ hN=>?_
 try dsimp only
 refine WS fun _ B=>eK U fun E=>bI 1 U<|RK B<|WS fun _ A=>rP 6 [] (mc 0 U mn) ?_
 refine ew (xs:=[.tmp 10,.tmp 12]) (cs:=[(vI s.Lo),(vI s.Hi)]) U dD kl U U U U (by simp [Value.cells]) U U fun C=>?_
 refine rS (CL (dH.eq (pw lo hi ([s.Lo,s.Hi]) (some ⟨C,0,none⟩) 2 (by (simp; done))) o5) (aJ (bo 0 U U (by simp [bO]) U)<|aK) U) ?_
 refine rP 1 [] mn ?_
 refine cM (t:=15) U (aW fun D=>?_) (aV fun D=>?_)
 ·refine rP 7 [] mn ?_
  refine RK A<|ar<|Q1 hQ U U U ?_
  exact cB (bx I).symm
 refine rP 7 [] (mc 1 U mn) ?_
 refine RK A<|ar<|Q1 hQ U U U ?_
 exact cB (fu.2 I)
theorem wq (ts:List au) (tsA:OA) (tsC:Nat) (hlen:ts.length≤1000000):
 dH Tryz.prog 120 [(vA (bG.cells (bG.mk (aR.mk tsA ts.length tsC))))] [(rd tsA ts.length 9 (ts.map au.cells))] (vB (du ts)):=by
 refine bH kr Tryz.func120 U U fun w0 Q hQ hN=>?_
 try dsimp only
 refine WS fun _ C3=>eK U fun b2=>bI 1 U<|RK C3<|ao fun _ Di=>WS fun _ Do=>e7 3 [] (mc 0 U mn) U<|rS (CL (pg (ts.length:Int) 1 12) (aK) U)<|rP 1 [] mn ?_
 refine RK Do<|cH U (bu fun h5=>?_) (br fun h5=>?_)
 ·refine WS fun _ EP=>rP 1 [] mn ?_
  refine RK EP<|ar<|Q1 hQ U U U ?_
  exact cB (oe I).symm
 refine WK Di<|ao fun _ EQ=>WS fun _ Eq=>rP 1 [] mn ?_
 refine RK Eq<|aF ?_
 have E:(0≤ts.length)∧(eM (-1) ts=eM (gH ts 0) (ts.drop 0))∧(-1≤gH ts 0):=by (refine ⟨I,rfl,by simp [gH]⟩)
 refine bZ (ι:={z:Nat // (z≤ts.length)∧(eM (-1) ts=eM (gH ts z) (ts.drop z))∧(-1≤gH ts z)}) [1] [0,1] U U (fun z=>[(3,(vI (z.1:Int)))]) (fun z=>[]) (fun _=>rfl) (fun _=>rfl) (fun z=>ts.length-z.1) ⟨0,E⟩ (bE U) (aU [0,1]) ?_
 clear E
 rintro ⟨i,⟨FS,A,Fd⟩⟩ J9 D
 try dsimp only
 have hz:i=0→gH ts i= -1:=Bd
 refine ao fun _ K=>WS fun _ L=>rP 5 [] (mc 0 U mn) ?_
 refine RK L<|bV U (aW fun v=>?_) (aV fun v=>?_)
 ·refine bQ<|ai<|ai<|aI<|KK EQ<|WS fun _ u=>rP 1 [] mn ?_
  refine RK u<|ar<|Q1 hQ U U U ?_
  exact cB (vG A I I).symm
 refine WK K<|ao fun _ C=>aF<|WS fun _ M=>rP 3 [] (mc 0 U mn) ?_
 obtain ⟨x,hx⟩:=aM ts i I
 have Fn:=bP au.cells hx
 refine rS (IA i U (aA 1 U) zB dc I I)<|rS (lQ i 0 (au.cells x) U cq (aA 1 U) Fn U dc U U)<|AL U Eu fun GE=>fK U Ke U<|RK M<|ao fun _ F=>ao fun _ B=>dw cx 38 kr<|lU 2 [] (mc 0 U mn) U<|dS (CL (pg x.Id 0 9999) (aK) U)<|dP 2 [] mn ?_
 refine ia (t:=26) U (bu fun w=>?_) (br fun w=>?_)
 ·refine k7 11 U<|k7 22 U<|cK<|RK B<|aS U<|WS fun _ N=>rP 1 [] mn ?_
  refine RK N<|ar<|Q1 hQ U U U ?_
  exact cB (dZ A hx (by simp only [bU,eg]; omega)).symm
 refine dP 3 [] mn ?_
 refine jM (t:=29) U (aW fun AC=>?_) (aV fun AC=>?_)
 ·refine k7 8 U<|k7 6 U<|dS (LP (ag.cells x.kN) 0 U cq U U U)<|dS (CL (pV x.kN 1 30000) (aK) U)<|dP 3 [] mn ?_
  refine ia (t:=48) U (bu fun BF=>?_) (br fun BF=>?_)
  ·refine k7 11 U<|cK<|RK B<|aS U<|WS fun _ e=>rP 1 [] mn ?_
   refine RK e<|ar<|Q1 hQ U U U ?_
   exact cB (dZ A hx (by simp only [bU,eg]; omega)).symm
  refine k7 1 U<|dS (LP (ag.cells x.mj) 0 U cq U U U)<|dS (CL (pV x.mj 0 5000) (aK) U)<|dP 3 [] mn ?_
  refine ia (t:=54) U (bu fun B3=>?_) (br fun B3=>?_)
  ·refine k7 5 U<|cK<|RK B<|aS U<|WS fun _ f=>rP 1 [] mn ?_
   refine RK f<|ar<|Q1 hQ U U U ?_
   exact cB (dZ A hx (by simp only [bU,eg]; omega)).symm
  refine lU 2 [] (mc 0 U mn) U<|dS (CL (pg x.zP 0 5000) (aK) U)<|dP 2 [] mn ?_
  refine cK<|RK B<|cH U (bu fun B9=>?_) (br fun B9=>?_)
  ·refine WS fun _ g=>rP 1 [] mn ?_
   refine RK g<|ar<|Q1 hQ U U U ?_
   exact cB (dZ A hx (by simp only [bU,eg]; omega)).symm
  refine WK F<|WS fun _ h=>e7 2 [] (mc 0 U mn) U<|RK h<|aF<|WS fun _ j=>rS (BI U mX)<|rP 1 [] mn ?_
  refine RK j<|cH U (aV fun CM=>?_) (aW fun CM=>?_)
  ·refine WS fun _ AB=>rP 5 [] (mc 0 U mn) ?_
   refine cg (t:=68) U (bu fun Ci=>?_) (br fun Ci=>?_)
   ·refine bI 5 U<|RK AB<|aS U<|WS fun _ k=>rP 1 [] mn ?_
    refine RK k<|ar<|Q1 hQ U U U ?_
    exact cB (dZ A hx (by simp only [bU,eg]; omega)).symm
   refine rP 5 [] (mc 0 U mn) ?_
   refine RK AB<|bV U (br fun Ck=>?_) (bu fun Ck=>?_)
   ·refine ct<|aN<|aN<|KK C<|av<|rP 3 [] mn ?_
    refine aH ?_
    refine bp (D ⟨(i+1),⟨I,hU A hx (by simp only [bU,eg]; omega),by rw [gF hx]; omega⟩⟩ _ _ _ U os (bE U) (aU [1,2]))
   refine WS fun _ l=>rP 1 [] mn ?_
   refine RK l<|ar<|Q1 hQ U U U ?_
   exact cB (dZ A hx (by simp only [bU,eg]; omega)).symm
  refine ao fun _ J=>WS fun _ m=>rS (BI U mX)<|rP 1 [] mn ?_
  refine RK m<|cH U (aV fun Cp=>?_) (aW fun Cp=>?_)
  ·refine WK J<|bV U (aW fun Cx=>?_) (aV fun Cx=>?_)
   ·refine WS fun _ p=>rP 1 [] mn ?_
    refine RK p<|ar<|Q1 hQ U U U ?_
    exact cB (oe I).symm
   refine WS fun _ n=>bI 1 U<|rS (LP (ag.cells x.eG) 0 U cq U U U)<|rS (CL (pV x.eG 500 20000) (aK) U)<|rP 1 [] mn ?_
   refine RK n<|bV U (br fun C0=>?_) (bu fun C0=>?_)
   ·refine ct<|aN<|aN<|KK C<|av<|rP 3 [] mn ?_
    refine aH ?_
    refine bp (D ⟨(i+1),⟨I,hU A hx (by simp only [bU,eg]; omega),by rw [gF hx]; omega⟩⟩ _ _ _ U os (bE U) (aU [1,2]))
   refine WS fun _ o=>rP 1 [] mn ?_
   refine RK o<|ar<|Q1 hQ U U U ?_
   exact cB (dZ A hx (by simp only [bU,eg]; omega)).symm
  refine av<|rS (BI U mX)<|rP 1 [] mn ?_
  refine RK J<|bV U (aW fun C1=>?_) (aV fun C1=>?_)
  ·refine WS fun _ s=>rP 1 [] mn ?_
   refine RK s<|ar<|Q1 hQ U U U ?_
   exact cB (dZ A hx (by simp only [bU,eg]; omega)).symm
  refine WS fun _ q=>bI 1 U<|rS (LP (ag.cells x.eG) 0 U cq U U U)<|rS (CL (pV x.eG 500 20000) (aK) U)<|rP 1 [] mn ?_
  refine RK q<|bV U (br fun C2=>?_) (bu fun C2=>?_)
  ·refine ct<|aN<|aN<|KK C<|av<|rP 3 [] mn ?_
   refine aH ?_
   refine bp (D ⟨(i+1),⟨I,hU A hx (by simp only [bU,eg]; omega),by rw [gF hx]; omega⟩⟩ _ _ _ U os (bE U) (aU [1,2]))
  refine WS fun _ r=>rP 1 [] mn ?_
  refine RK r<|ar<|Q1 hQ U U U ?_
  exact cB (dZ A hx (by simp only [bU,eg]; omega)).symm
 refine dP 6 [0,1] (mc 0 U (mc 1 U mn)) ?_
 obtain ⟨y,hy⟩:=aM ts (i-1) I
 have F9:=bP au.cells hy
 refine dS (IA (i-1) U (aA 2 U) zB dc I I)<|dS (qA ((i-1)*9) U (aA 2 U) (Nat.mul_pos I dc) fT U) ?_
 have Go:=C6 I hy
 refine dS (iK (i-1) 0 (vI y.Id) U cq (aA 2 U) F9 U dc U)<|dP 4 [] mn ?_
 refine ia (t:=42) U (aV fun AO=>?_) (aW fun AO=>?_)
 ·refine k7 17 U<|cK<|RK B<|aS U<|WS fun _ O=>rP 1 [] mn ?_
  refine RK O<|ar<|Q1 hQ U U U ?_
  exact cB (dZ A hx (by simp only [bU,eg]; omega)).symm
 refine k7 1 U<|dS (LP (ag.cells x.kN) 0 U cq U U U)<|dS (CL (pV x.kN 1 30000) (aK) U)<|dP 3 [] mn ?_
 refine ia (t:=48) U (bu fun Ak=>?_) (br fun Ak=>?_)
 ·refine k7 11 U<|cK<|RK B<|aS U<|WS fun _ P=>rP 1 [] mn ?_
  refine RK P<|ar<|Q1 hQ U U U ?_
  exact cB (dZ A hx (by simp only [bU,eg]; omega)).symm
 refine k7 1 U<|dS (LP (ag.cells x.mj) 0 U cq U U U)<|dS (CL (pV x.mj 0 5000) (aK) U)<|dP 3 [] mn ?_
 refine ia (t:=54) U (bu fun A0=>?_) (br fun A0=>?_)
 ·refine k7 5 U<|cK<|RK B<|aS U<|WS fun _ R=>rP 1 [] mn ?_
  refine RK R<|ar<|Q1 hQ U U U ?_
  exact cB (dZ A hx (by simp only [bU,eg]; omega)).symm
 refine lU 2 [] (mc 0 U mn) U<|dS (CL (pg x.zP 0 5000) (aK) U)<|dP 2 [] mn ?_
 refine cK<|RK B<|cH U (bu fun A1=>?_) (br fun A1=>?_)
 ·refine WS fun _ S=>rP 1 [] mn ?_
  refine RK S<|ar<|Q1 hQ U U U ?_
  exact cB (dZ A hx (by simp only [bU,eg]; omega)).symm
 refine WK F<|WS fun _ T=>e7 2 [] (mc 0 U mn) U<|RK T<|aF<|WS fun _ AA=>rS (BI U mX)<|rP 1 [] mn ?_
 refine RK AA<|cH U (aV fun A2=>?_) (aW fun A2=>?_)
 ·refine WS fun _ G=>rP 5 [] (mc 0 U mn) ?_
  refine cg (t:=68) U (bu fun A3=>?_) (br fun A3=>?_)
  ·refine bI 5 U<|RK G<|aS U<|WS fun _ V=>rP 1 [] mn ?_
   refine RK V<|ar<|Q1 hQ U U U ?_
   exact cB (dZ A hx (by simp only [bU,eg]; omega)).symm
  refine rP 5 [] (mc 0 U mn) ?_
  refine RK G<|bV U (br fun A4=>?_) (bu fun A4=>?_)
  ·refine ct<|aN<|aN<|KK C<|av<|rP 3 [] mn ?_
   refine aH ?_
   refine bp (D ⟨(i+1),⟨I,hU A hx (by simp only [bU,eg]; omega),by rw [gF hx]; omega⟩⟩ _ _ _ U os (bE U) (aU [1,2]))
  refine WS fun _ W=>rP 1 [] mn ?_
  refine RK W<|ar<|Q1 hQ U U U ?_
  exact cB (dZ A hx (by simp only [bU,eg]; omega)).symm
 refine ao fun _ H=>WS fun _ X=>rS (BI U mX)<|rP 1 [] mn ?_
 refine RK X<|cH U (aV fun A5=>?_) (aW fun A5=>?_)
 ·refine WK H<|bV U (aW fun A6=>?_) (aV fun A6=>?_)
  ·refine WS fun _ a=>rP 1 [] mn ?_
   refine RK a<|ar<|Q1 hQ U U U ?_
   exact cB (oe I).symm
  refine WS fun _ Y=>bI 1 U<|rS (LP (ag.cells x.eG) 0 U cq U U U)<|rS (CL (pV x.eG 500 20000) (aK) U)<|rP 1 [] mn ?_
  refine RK Y<|bV U (br fun A7=>?_) (bu fun A7=>?_)
  ·refine ct<|aN<|aN<|KK C<|av<|rP 3 [] mn ?_
   refine aH ?_
   refine bp (D ⟨(i+1),⟨I,hU A hx (by simp only [bU,eg]; omega),by rw [gF hx]; omega⟩⟩ _ _ _ U os (bE U) (aU [1,2]))
  refine WS fun _ Z=>rP 1 [] mn ?_
  refine RK Z<|ar<|Q1 hQ U U U ?_
  exact cB (dZ A hx (by simp only [bU,eg]; omega)).symm
 refine av<|rS (BI U mX)<|rP 1 [] mn ?_
 refine RK H<|bV U (aW fun A8=>?_) (aV fun A8=>?_)
 ·refine WS fun _ d=>rP 1 [] mn ?_
  refine RK d<|ar<|Q1 hQ U U U ?_
  exact cB (dZ A hx (by simp only [bU,eg]; omega)).symm
 refine WS fun _ b=>bI 1 U<|rS (LP (ag.cells x.eG) 0 U cq U U U)<|rS (CL (pV x.eG 500 20000) (aK) U)<|rP 1 [] mn ?_
 refine RK b<|bV U (br fun A9=>?_) (bu fun A9=>?_)
 ·refine ct<|aN<|aN<|KK C<|av<|rP 3 [] mn ?_
  refine aH ?_
  refine bp (D ⟨(i+1),⟨I,hU A hx (by simp only [bU,eg]; omega),by rw [gF hx]; omega⟩⟩ _ _ _ U os (bE U) (aU [1,2]))
 refine WS fun _ c=>rP 1 [] mn ?_
 refine RK c<|ar<|Q1 hQ U U U ?_
 exact cB (dZ A hx (by simp only [bU,eg]; omega)).symm
theorem B7 (ts:List au) (tsA:OA) (tsC:Nat) (hlen:ts.length≤1000000) (hside: ∀ x∈ts,0≤x.jm∧x.jm≤255):
 dH Tryz.prog 91 [(vA (bG.cells (bG.mk (aR.mk tsA ts.length tsC))))] [(rd tsA ts.length 9 (ts.map au.cells))] (vI (if du ts=true then 0 else 10)):=by
 refine bH kr Tryz.func91 U U fun w0 Q hQ hN=>?_
 try dsimp only
 refine WS fun _ v=>eK U fun b2=>bI 1 U<|RK v<|Aa U<|ao fun _ w=>WS fun _ y=>rP 3 [] (mc 0 U mn) ?_
 refine ew (xs:=[.tmp 11]) (cs:=[(vI (ts.length:Int))]) U dD kl U U U U (by simp [Value.cells]) U U fun b5=>?_
 refine rS (CL (dH.eq (pw 1 12 ([(ts.length:Int)]) (some ⟨b5,0,none⟩) 1 (by (simp; done))) cz) (aJ (bo 0 U U (by simp [bO]) U)<|aK) U) ?_
 refine rP 1 [] mn ?_
 refine RK y<|cH U (bu fun h6=>?_) (br fun h6=>?_)
 ·refine WS fun _ AC=>rP 1 [] mn ?_
  refine RK AC<|ar<|Q1 hQ U U U ?_
  exact cI (if_neg (by rw [oe I]; decide)).symm
 refine WK w<|WS fun _ AO=>bI 1 U<|RK AO<|WS fun _ Ak=>bI 1 U<|RK Ak<|ao fun _ J=>zY<|KK J<|ao fun _ B=>WS fun _ K=>rP 4 [] (mc 1 U mn) ?_
 refine RK K<|aF ?_
 have D:(0≤ts.length)∧(eM (-1) ts=eM (gH ts 0) (ts.drop 0))∧(-1≤gH ts 0)∧(gH ts 0≤9999):=by (refine ⟨I,rfl,by simp [gH],by simp [gH]⟩)
 refine bZ (ι:={z:Nat // (z≤ts.length)∧(eM (-1) ts=eM (gH ts z) (ts.drop z))∧(-1≤gH ts z)∧(gH ts z≤9999)}) [1,4,16,17] [1,2] U U (fun z=>[(3,(vI (gH ts z.1))),(18,(vI (z.1:Int)))]) (fun z=>[]) (fun _=>rfl) (fun _=>rfl) (fun z=>ts.length-z.1) ⟨0,D⟩ (bE U) (aU [1,2]) ?_
 clear D
 rintro ⟨i,⟨A0,A,A1,A2⟩⟩ J13 E
 try dsimp only
 refine WS fun _ L=>rP 1 [] mn ?_
 refine RK L<|ao fun _ M=>bV U (aW fun k=>?_) (aV fun k=>?_)
 ·refine bQ<|ai<|ai<|aI<|KK B<|WS fun _ O=>rP 2 [] mn ?_
  refine RK O<|ar<|Q1 hQ U U U ?_
  exact cI (if_pos (vG A I I)).symm
 refine WK M<|ao fun _ F=>aF<|WS fun _ N=>?_
 obtain ⟨x,hx⟩:=aM ts i I
 have A3:=bP au.cells hx
 refine rS (IA i U (aA 1 U) zB dc I I) ?_
 have A7:=hside x (aP hx)
 refine rS (lQ i 0 (au.cells x) U cq (aA 1 U) A3 U dc U U)<|AL U Eu fun A4=>fK U Ke U<|RK N ?_
 refine oi (ι:=Unit) [1,3,4,6,16,17,18] [0,1,2] U U (fun z=>[(7,(vB (decide (x.jm=0∧x.eG.Lo=0∧x.eG.Hi=0))))]) (fun z=>[]) (fun _=>rfl) (fun _=>rfl) ?_ fun K20 G=>?_
 ·intro _
  try dsimp only
  refine oi (ι:=Unit) [1,3,4,6,7,16,17,18] [0,1,2] U U (fun z=>[(8,(vB (decide ((1≤x.jm∧x.jm≤2)∧x.eG.Lo≤x.eG.Hi∧500≤x.eG.Lo∧x.eG.Hi≤20000))))]) (fun z=>[]) (fun _=>rfl) (fun _=>rfl) ?_ fun K21 H=>?_
  ·intro _
   try dsimp only
   refine ao fun _ AB=>WS fun _ C=>rP 4 [] (mc 0 U mn) ?_
   refine ew (xs:=[.tmp 44]) (cs:=[(vI x.Id)]) U dD kl U U U U (by simp [Value.cells]) U U fun h=>?_
   refine rS (CL (dH.eq (pw ((gH ts i)+1) 9999 ([x.Id]) (some ⟨h,0,none⟩) 1 (by (simp; done))) cz) (aJ (bo 0 U U (by simp [bO]) U)<|aK) U) ?_
   refine rP 2 [] mn ?_
   refine cg (t:=48) U (bu fun o=>?_) (br fun o=>?_)
   ·refine bI 26 U<|RK C<|aS U<|WS fun _ P=>bI 1 U<|RK P<|bQ<|ai<|e_ U<|ai<|ai<|aI<|KK B<|WS fun _ R=>rP 2 [] mn ?_
    refine RK R<|ar<|Q1 hQ U U U ?_
    exact cI (if_neg (by rw [dZ A hx (by simp only [bU,eg]; omega)]; decide)).symm
   refine bI 1 U<|rS (LP (ag.cells x.kN) 1 U cq U U U)<|rS (CL (wo x.kN 1 30000) (aK) U)<|rP 3 [] mn ?_
   refine cg (t:=54) U (bu fun p=>?_) (br fun p=>?_)
   ·refine bI 20 U<|RK C<|aS U<|WS fun _ S=>bI 1 U<|RK S<|bQ<|ai<|e_ U<|ai<|ai<|aI<|KK B<|WS fun _ T=>rP 2 [] mn ?_
    refine RK T<|ar<|Q1 hQ U U U ?_
    exact cI (if_neg (by rw [dZ A hx (by simp only [bU,eg]; omega)]; decide)).symm
   refine bI 1 U<|rS (LP (ag.cells x.mj) 1 U cq U U U)<|rS (CL (wo x.mj 0 5000) (aK) U)<|rP 3 [] mn ?_
   refine cg (t:=60) U (bu fun q=>?_) (br fun q=>?_)
   ·refine bI 14 U<|RK C<|aS U<|WS fun _ AA=>bI 1 U<|RK AA<|bQ<|ai<|e_ U<|ai<|ai<|aI<|KK B<|WS fun _ V=>rP 2 [] mn ?_
    refine RK V<|ar<|Q1 hQ U U U ?_
    exact cI (if_neg (by rw [dZ A hx (by simp only [bU,eg]; omega)]; decide)).symm
   refine rP 2 [] (mc 1 U mn) ?_
   refine ew (xs:=[.tmp 62]) (cs:=[(vI x.zP)]) U dD kl U U U U (by simp [Value.cells]) U U fun j=>?_
   refine rS (CL (dH.eq (pw 0 5000 ([x.zP]) (some ⟨j,0,none⟩) 1 (by (simp; done))) cz) (aJ (bo 0 U U (by simp [bO]) U)<|aK) U) ?_
   refine rP 3 [] mn ?_
   refine cg (t:=67) U (bu fun r=>?_) (br fun r=>?_)
   ·refine bI 7 U<|RK C<|aS U<|WS fun _ W=>bI 1 U<|RK W<|bQ<|ai<|e_ U<|ai<|ai<|aI<|KK B<|WS fun _ X=>rP 2 [] mn ?_
    refine RK X<|ar<|Q1 hQ U U U ?_
    exact cI (if_neg (by rw [dZ A hx (by simp only [bU,eg]; omega)]; decide)).symm
   refine rP 3 [] mn ?_
   refine cM (t:=70) U (br fun s=>?_) (bu fun s=>?_)
   ·refine bI 4 U<|RK C<|cp U<|WK AB<|av<|e7 3 [] (mc 2 U mn) U<|aH<|aN<|KK F<|av<|rP 2 [] mn ?_
    refine aH ?_
    have f:(vI (gH ts (i+1)))=(vI x.Id):=by rw [gF hx]
    refine bp (E ⟨(i+1),⟨I,hU A hx (by simp only [bU,eg]; omega),by rw [gF hx]; omega,by rw [gF hx]; omega⟩⟩ _ _ _ U os (cY 4<|bk U f<|bE U) (aU [3,4]))
   refine rP 4 [] mn ?_
   refine RK C<|bV U (br fun u=>?_) (bu fun u=>?_)
   ·refine WK AB<|av<|e7 3 [] (mc 2 U mn) U<|aH<|aN<|KK F<|av<|rP 2 [] mn ?_
    refine aH ?_
    have e:(vI (gH ts (i+1)))=(vI x.Id):=by rw [gF hx]
    refine bp (E ⟨(i+1),⟨I,hU A hx (by simp only [bU,eg]; omega),by rw [gF hx]; omega,by rw [gF hx]; omega⟩⟩ _ _ _ U os (cY 4<|bk U e<|bE U) (aU [3,4]))
   refine WS fun _ Y=>bI 1 U<|RK Y<|bQ<|ai<|e_ U<|ai<|ai<|aI<|KK B<|WS fun _ Z=>rP 2 [] mn ?_
   refine RK Z<|ar<|Q1 hQ U U U ?_
   exact cI (if_neg (by rw [dZ A hx (by simp only [bU,eg]; omega)]; decide)).symm
  refine av<|rP 2 [] (mc 0 U mn) ?_
  refine rS (SX (rF (m:=x.jm) U U OW s9 (oj (by first|assumption|omega))) U U)<|ew (xs:=[.tmp 33]) (cs:=[(vI x.jm)]) U dD kl U U U U (by simp [Value.cells]) U U fun g=>?_
  refine rS (CL (dH.eq (pw 1 2 ([x.jm]) (some ⟨g,0,none⟩) 1 (by (simp; done))) cz) (aJ (bo 0 U U (by simp [bO]) U)<|aK) U) ?_
  refine rP 1 [] mn ?_
  refine cM (t:=36) U (aW fun n=>?_) (aV fun n=>?_)
  ·refine rP 5 [] mn ?_
   refine aH ?_
   have d:(decide ((1≤x.jm∧x.jm≤2)∧x.eG.Lo≤x.eG.Hi∧500≤x.eG.Lo∧x.eG.Hi≤20000))=false:=bx I
   refine bp (jV (cY 8<|n8 U d<|dG.nil _) (aU [1,2,3]) (H ()))
  refine bI 1 U<|rS (LP (ag.cells x.eG) 1 U cq U U U)<|rS (CL (wo x.eG 500 20000) (aK) U)<|rP 2 [] mn ?_
  refine aH ?_
  have c:(decide ((1≤x.jm∧x.jm≤2)∧x.eG.Lo≤x.eG.Hi∧500≤x.eG.Lo∧x.eG.Hi≤20000))=(decide (x.eG.Lo≤x.eG.Hi∧500≤x.eG.Lo∧x.eG.Hi≤20000)):=fu.2 I
  refine bp (jV (cY 8<|n8 U c<|dG.nil _) (aU [1,2,3]) (H ()))
 refine av<|e7 2 [] (mc 0 U mn) U<|rS (BI U mX)<|rP 1 [] mn ?_
 refine cM (t:=25) U (aW fun l=>?_) (aV fun l=>?_)
 ·refine rP 6 [] mn ?_
  refine aH ?_
  have b:(decide (x.jm=0∧x.eG.Lo=0∧x.eG.Hi=0))=false:=bx I
  refine bp (jV (cY 7<|n8 U b<|dG.nil _) (aU [0,1,2]) (G ()))
 refine bI 1 U<|rS (LP (ag.cells x.eG) 0 U cq U U U)<|rS (SX (bf (xs:=[]) (cs:=(ag.cells (ag.mk 0 0))) U U (bg gZ U)) U U)<|rS (BI U (xb _ _ x.eG (ag.mk 0 0)))<|rP 2 [] mn ?_
 refine aH ?_
 have a:(decide (x.jm=0∧x.eG.Lo=0∧x.eG.Hi=0))=(decide (x.eG=(ag.mk 0 0))):=fu.2 (by (simp only [ag.ext_iff] at *; omega))
 refine bp (jV (cY 7<|n8 U a<|dG.nil _) (aU [0,1,2]) (G ()))
theorem DW (la:List Int) (laA:OA) (laC:Nat) (lb:List Int) (lbA:OA) (lbC:Nat) (h1:la.length≤1000000) (h2:lb.length≤1000000):
 dH Tryz.prog 19 [(vS laA la.length laC),(vS lbA lb.length lbC)] [(rd laA la.length 1 (la.map iC)),(rd lbA lb.length 1 (lb.map iC))] (vB (decide (la=lb))):=by
 refine bH kr Tryz.func19 U U fun V Q hQ hN=>?_
 try dsimp only
 refine WS fun _ J=>bI 1 U<|RK J<|ao fun _ K=>WS fun _ L=>rP 5 [] mn ?_
 refine RK L<|cH U (bu fun hl=>?_) (br fun hl=>?_)
 ·refine WS fun _ M=>rP 1 [] mn ?_
  refine RK M<|ar<|Q1 hQ U U U ?_
  first|exact cB (bx (nZ hx hy h)).symm|exact cB (c8 (nW I A I)).symm|exact cB (bx (fun e=>by subst e; omega)).symm
 refine WK K<|ao fun _ N=>WS fun _ O=>rP 1 [] mn ?_
 refine RK O<|aF ?_
 have B:(0≤la.length)∧(la.take 0=lb.take 0):=by simp
 refine bZ (ι:={z:Nat // (z≤la.length)∧(la.take z=lb.take z)}) [0,1] [0,1] U U (fun z=>[(5,(vI (z.1:Int)))]) (fun z=>[]) (fun _=>rfl) (fun _=>rfl) (fun z=>la.length-z.1) ⟨0,B⟩ (bE U) (aU [0,1]) ?_
 clear B
 rintro ⟨i,⟨S,A⟩⟩ J7 AB
 try dsimp only
 refine ao fun _ P=>WS fun _ R=>rP 4 [] mn ?_
 refine RK R<|bV U (aW fun H=>?_) (aV fun H=>?_)
 ·refine bQ<|ai<|ai<|aI<|KK N<|WS fun _ F=>rP 1 [] mn ?_
  refine RK F<|ar<|Q1 hQ U U U ?_
  first|exact cB (bx (nZ hx hy h)).symm|exact cB (c8 (nW I A I)).symm|exact cB (bx (fun e=>by subst e; omega)).symm
 refine WK P<|ao fun _ C=>aF<|ao fun _ D=>dw cx 9 kr<|dP 2 [] mn ?_
 obtain ⟨x,hx⟩:=aM la i I
 have T:=bP iC hx
 refine dS (IA i U (aA 0 U) dD dc I I)<|dS (iK i 0 (vI x) U cq (aA 0 U) T U dc U)<|dP 2 [] mn ?_
 obtain ⟨y,hy⟩:=aM lb i I
 have AA:=bP iC hy
 refine dS (IA i U (aA 1 U) dD dc I I)<|dS (iK i 0 (vI y) U cq (aA 1 U) AA U dc U)<|dP 1 [] mn ?_
 refine cK<|RK D<|cH U (bu fun h=>?_) (br fun h=>?_)
 ·refine WS fun _ E=>rP 1 [] mn ?_
  refine RK E<|ar<|Q1 hQ U U U ?_
  first|exact cB (bx (nZ hx hy h)).symm|exact cB (c8 (nW I A I)).symm|exact cB (bx (fun e=>by subst e; omega)).symm
 refine ct<|aN<|KK C<|av<|rP 3 [] mn ?_
 refine aH ?_
 have G:(vI (((i+1):Nat):Int))=(vI ((i:Int)+1)):=by exact cI I
 refine bp (AB ⟨(i+1),⟨I,uP A hx hy h⟩⟩ _ _ _ U os (dG.cons U<|dG.cons U<|bk U G<|dG.nil _) (aU [0,1]))
end
section
open Go.RowKit
theorem Kd (n lo hi:Int) (g1 g2:Nat):
 dH Tryz.prog 54 [(vI n),(vP g1),(vP g2)] [(cw g1 3 [(vI lo)]),(cw g2 3 [(vI hi)])] (vB (decide (n<lo∨hi<n))):=by
 refine bH kr Tryz.func54 U U fun D Q hQ hN=>?_
 try dsimp only
 refine WS fun _ B=>bI 1 U<|RK B<|WS fun _ A=>rP 4 [] (mr 0 U mn) ?_
 refine cg (t:=8) U (aV fun C=>?_) (aW fun C=>?_)
 ·refine rP 5 [] mn ?_
  refine RK A<|ar<|Q1 hQ U U U ?_
  exact cB (c8 I).symm
 refine rP 5 [] (mr 1 U mn) ?_
 refine RK A<|ar<|Q1 hQ U U U ?_
 exact cB (fu.2 I)
theorem iS (lo hi:Int) (l:List Int) (lA:OA) (lC:Nat) (hlen:l.length≤1000000):
 dH Tryz.prog 33 [(vI lo),(vI hi),(vS lA l.length lC)] [(rd lA l.length 1 (l.map iC))] (vB (qw lo hi l)):=by
 refine bH kr Tryz.func33 U U fun F Q hQ hN=>?_
 try dsimp only
 refine WS fun _ D=>wu U U fun A=>wu U U fun B=>bI 1 U<|RK D<|WS fun _ E=>rP 1 [] mn ?_
 refine rS (FU U) ?_
 refine rS (CL (pO l lA lC (Value.func (.func 54) [].toArray [(vP A),(vP B)].toArray) (fun C=>(decide (C<lo∨hi<C))) (d_ [(cw A 3 [(vI lo)]),(cw B 3 [(vI hi)])]) (by intro C _; exact lf (fi:=[]) (ca:=[(vP A),(vP B)]) (jX (Kd C lo hi A B) (bq [0,1]))) hlen) (g_ 2 U U<|aJ (jT (bq [1,0]))<|aK) U) ?_
 refine rP 2 [] mn ?_
 refine RK E<|ar ?_
 exact Q1 hQ U U U U
theorem tL (o fx:Bool) (tm:ag) (rv:cU):
 dH Tryz.prog 55 [(vA (aO.cells (aO.mk o fx tm rv)))] [] (vB (decide (o=false∧fx=false))):=by
 refine bH kr Tryz.func55 U U fun E Q hQ hN=>?_
 try dsimp only
 refine WS fun _ B=>eK U fun D=>bI 1 U<|RK B<|WS fun _ A=>rP 4 [] (mc 0 U mn) ?_
 refine cM (t:=6) U (fun C=>?_) (fun C=>?_)
 ·rw [Bool.not_eq_false'] at C
  refine rP 5 [] mn ?_
  refine RK A<|ar<|Q1 hQ U U U ?_
  clear hQ hN A B
  refine cB ?_
  first|(simp_all; done)|(cases fx<;>simp_all; done)
 rw [Bool.not_eq_true'] at C
 refine rP 5 [] (mc 0 U mn) ?_
 refine RK A<|ar<|Q1 hQ U U U ?_
 clear hQ hN A B
 refine cB ?_
 first|(simp_all; done)|(cases fx<;>simp_all; done)
theorem K3 (l:List aX) (lA:OA) (lC:Nat) (f:Value) (p:Int→aX→Bool) (X:aw) (hf: ∀ x0 x1,(∃ i_:Nat,x0=(i_:Int)∧l[i_]? =some x1)→CR Tryz.prog f [.int .i64 x0,.agg (aX.cells x1).toArray] [X] (.bool (p x0 x1))) (hlen:l.length≤1000000):
 rU Tryz.prog 80 [(vS lA l.length lC),f] [(rd lA l.length 4 (l.map aX.cells)),X] (fun (x:(OA)×Nat)=>(vS x.1 ((lY (iw l p) l.length).length) x.2)) (fun (x:(OA)×Nat)=>True) (fun (x:(OA)×Nat)=>[(own x.1 x.2 3 1 ((lY (iw l p) l.length).map iC))]):=by
 refine gp kr Tryz.func80 U U fun Z Q hQ hN=>?_
 try dsimp only
 refine WS fun _ M=>bI 1 U<|RK M<|WS fun _ N=>bI 1 U<|RK N<|ao fun _ O=>WS fun _ R=>rP 3 [] mn ?_
 refine RK R<|aF<|eL 3 1 ?_
 have A:(0≤l.length):=by exact Nat.zero_le _
 refine bZ (ι:={z:Nat×(OA)×Nat // (z.1≤l.length)}) [1,8,9] [1,2] U U (fun z=>[(5,(vS z.1.2.1 ((lY (iw l p) z.1.1).length) z.1.2.2)),(10,(vI (z.1.1:Int)))]) (fun z=>[(own z.1.2.1 z.1.2.2 3 1 ((lY (iw l p) z.1.1).map iC))]) (fun _=>rfl) (fun _=>rfl) (fun z=>l.length-z.1.1) ⟨(0,none,0),A⟩ (bE U) (aU [1,2,0]) ?_
 clear A
 rintro ⟨⟨i,a,c⟩,C⟩ J5 D
 try dsimp only at C
 try dsimp only
 refine WS fun _ S=>rP 1 [] mn ?_
 refine RK S<|ao fun _ T=>bV U (aW fun Y=>?_) (aV fun Y=>?_)
 ·refine bQ<|ai<|ai<|aI<|KK O<|WS fun _ G=>?_
  rw [show (lY (iw l p) i)=(lY (iw l p) l.length) from by rw [show i=l.length by omega]]
  refine rP 2 [] mn ?_
  refine RK G<|ar<|LX hQ (a,c) [2] [] mn U U U U ?_
  trivial
 refine WK T<|ao fun _ H=>aF<|WS fun _ E=>rP 1 [] mn ?_
 obtain ⟨x,hx⟩:=aM l i I
 have AA:=bP aX.cells hx
 refine rS (IA i U (aA 0 U) BC dc I I)<|rS (lQ i 0 (aX.cells x) U cq (aA 0 U) AA U dc U U)<|AL U Oe fun V=>bI 1 U<|fK U Qp U<|RK E<|WS fun _ F=>rP 3 [] (mc 0 U mn) ?_
 refine rS (SX (qk U U U (hf (i:Int) x ⟨_,U,hx⟩) (bq [2])) U U)<|RK F<|bV U (fun B=>?_) (fun B=>?_)
 ·refine ct<|aN<|KK H<|av<|rP 2 [] mn ?_
  refine aH ?_
  rw [show lY (iw l p) i=lY (iw l p) (i+1) from (qM (by rw [sb hx]; simpa using B)).symm]
  have J:(vI (((i+1):Nat):Int))=(vI ((i:Int)+1)):=by exact cI I
  refine bp (D ⟨((i+1),a,c),(by first|omega|(simp only []; omega))⟩ _ _ _ U os (cY 4<|bk U J<|dG.nil _) (aU [1,2,3]))
 refine av<|rP 2 [] mn ?_
 refine ew (xs:=[.tmp 20]) (cs:=[(vI (i:Int))]) U dD kl U U U U (by simp [Value.cells]) U U fun W=>?_
 refine fF (es2:=(List.map iC (lY (iw l p) (i+1)))) (m':=(lY (iw l p) (i+1)).length) 4 U U U tx U U sm (bo (es:=List.map iC [(i:Int)]) 0 U U (by simp [bO]) U) (lW _) (by have:=qh (P:=iw l p) (n:=i); omega) (by have:=qh (P:=iw l p) (n:=i); simp only [maxLen]; omega) (by rw [vo (by rw [sb hx]; exact B)]; simp) sm U fun K L=>?_
 try dsimp only
 refine bI 1 U<|aH<|aN<|KK H<|av<|rP 2 [] mn ?_
 refine aH ?_
 have AB:(vI (((i+1):Nat):Int))=(vI ((i:Int)+1)):=by exact cI I
 refine bp (D ⟨((i+1),K,L),(by first|omega|(simp only []; omega))⟩ _ _ _ U os (cY 4<|bk U AB<|dG.nil _) (aU [2,3,4]))
theorem zq (l:List a_) (lA:OA) (lC:Nat) (f:Value) (p:Int→a_→Bool) (X:aw) (hf: ∀ x0 x1,(∃ i_:Nat,x0=(i_:Int)∧l[i_]? =some x1)→CR Tryz.prog f [.int .i64 x0,.agg (a_.cells x1).toArray] [X] (.bool (p x0 x1))) (hlen:l.length≤1000000):
 rU Tryz.prog 30 [(vS lA l.length lC),f] [(rd lA l.length 5 (l.map a_.cells)),X] (fun (x:(OA)×Nat)=>(vS x.1 ((lY (iw l p) l.length).length) x.2)) (fun (x:(OA)×Nat)=>True) (fun (x:(OA)×Nat)=>[(own x.1 x.2 3 1 ((lY (iw l p) l.length).map iC))]):=by
 refine gp kr Tryz.func30 U U fun Z Q hQ hN=>?_
 try dsimp only
 refine WS fun _ M=>bI 1 U<|RK M<|WS fun _ N=>bI 1 U<|RK N<|ao fun _ O=>WS fun _ R=>rP 3 [] mn ?_
 refine RK R<|aF<|eL 3 1 ?_
 have A:(0≤l.length):=by exact Nat.zero_le _
 refine bZ (ι:={z:Nat×(OA)×Nat // (z.1≤l.length)}) [1,8,9] [1,2] U U (fun z=>[(5,(vS z.1.2.1 ((lY (iw l p) z.1.1).length) z.1.2.2)),(10,(vI (z.1.1:Int)))]) (fun z=>[(own z.1.2.1 z.1.2.2 3 1 ((lY (iw l p) z.1.1).map iC))]) (fun _=>rfl) (fun _=>rfl) (fun z=>l.length-z.1.1) ⟨(0,none,0),A⟩ (bE U) (aU [1,2,0]) ?_
 clear A
 rintro ⟨⟨i,a,c⟩,C⟩ J5 D
 try dsimp only at C
 try dsimp only
 refine WS fun _ S=>rP 1 [] mn ?_
 refine RK S<|ao fun _ T=>bV U (aW fun Y=>?_) (aV fun Y=>?_)
 ·refine bQ<|ai<|ai<|aI<|KK O<|WS fun _ G=>?_
  rw [show (lY (iw l p) i)=(lY (iw l p) l.length) from by rw [show i=l.length by omega]]
  refine rP 2 [] mn ?_
  refine RK G<|ar<|LX hQ (a,c) [2] [] mn U U U U ?_
  trivial
 refine WK T<|ao fun _ H=>aF<|WS fun _ E=>rP 1 [] mn ?_
 obtain ⟨x,hx⟩:=aM l i I
 have AA:=bP a_.cells hx
 refine rS (IA i U (aA 0 U) Ar dc I I)<|rS (lQ i 0 (a_.cells x) U cq (aA 0 U) AA U dc U U)<|AL U I3 fun V=>bI 1 U<|fK U LY U<|RK E<|WS fun _ F=>rP 3 [] (mc 0 U mn) ?_
 refine rS (SX (qk U U U (hf (i:Int) x ⟨_,U,hx⟩) (bq [2])) U U)<|RK F<|bV U (fun B=>?_) (fun B=>?_)
 ·refine ct<|aN<|KK H<|av<|rP 2 [] mn ?_
  refine aH ?_
  rw [show lY (iw l p) i=lY (iw l p) (i+1) from (qM (by rw [sb hx]; simpa using B)).symm]
  have J:(vI (((i+1):Nat):Int))=(vI ((i:Int)+1)):=by exact cI I
  refine bp (D ⟨((i+1),a,c),(by first|omega|(simp only []; omega))⟩ _ _ _ U os (cY 4<|bk U J<|dG.nil _) (aU [1,2,3]))
 refine av<|rP 2 [] mn ?_
 refine ew (xs:=[.tmp 20]) (cs:=[(vI (i:Int))]) U dD kl U U U U (by simp [Value.cells]) U U fun W=>?_
 refine fF (es2:=(List.map iC (lY (iw l p) (i+1)))) (m':=(lY (iw l p) (i+1)).length) 4 U U U tx U U sm (bo (es:=List.map iC [(i:Int)]) 0 U U (by simp [bO]) U) (lW _) (by have:=qh (P:=iw l p) (n:=i); omega) (by have:=qh (P:=iw l p) (n:=i); simp only [maxLen]; omega) (by rw [vo (by rw [sb hx]; exact B)]; simp) sm U fun K L=>?_
 try dsimp only
 refine bI 1 U<|aH<|aN<|KK H<|av<|rP 2 [] mn ?_
 refine aH ?_
 have AB:(vI (((i+1):Nat):Int))=(vI ((i:Int)+1)):=by exact cI I
 refine bp (D ⟨((i+1),K,L),(by first|omega|(simp only []; omega))⟩ _ _ _ U os (cY 4<|bk U AB<|dG.nil _) (aU [2,3,4]))
end
section
open Go.RowKit
variable {E:e9} {ops:Array Oper} {D:List Deferred} {L:List (Nat×Value)} {C:List aw}
variable {dst:Option Tmp} {ty:TypeId} {ps:String} {af:Array Edge} {g:Option (Nat×Bool)}
theorem uA {x ix:Operand} {t e len sz:Nat} {cs vs:List Value} {j:Int} {kd:IntKind} (m:Nat) (hg:kj ops L g=true) (hx:ev L x=some (.agg cs.toArray)) (hi:ev L ix=some (.int kd j)) (ht:tX E.P t=some (len,e)) (hk:tK E.P e=some (true,sz)) (hj:j=(m:Int)) (hm:m<len) (hv:(cs.drop (m*sz)).take sz=vs):
 SD E ops ⟨dst,.index t x ix,ty,ps,af,g⟩ D L C (.agg vs.toArray):=
 eN hg sm fun a w A _=>by
  have B:(0:Int)≤(m:Int)∧(m:Int)<(len:Int):=by omega
  subst hj
  simp [execOp,A.ev hx,A.ev hi,Instr.index,asIntOf,run_underlying (II ht),B,hm,(oQ hk w).2,Cd hk hv w]
end
section
open Go.RowKit
theorem IW (i:Int) (f:aX) (j:cV) (kA:OA) (kC:Nat) (cA:OA) (cC:Nat) (bA:OA) (bC:Nat) (slA:OA) (slC:Nat) (drA:OA) (drC:Nat) (heA:OA) (heC:Nat) (faA:OA) (faC:Nat) (prA:OA) (prC g1:Nat) (hk:0≤f.Kind∧f.Kind≤255):
 dH Tryz.prog 81 [(vI i),(vA (aX.cells f)),(vP g1)] [(cw g1 36 (dh.cells (dh.mk (di.mk (bT.mk (bG.mk (aR.mk kA j.Race.aj.aL.length kC)) j.Race.aj.eI (aR.mk cA j.Race.aj.ak.length cC) (aR.mk bA j.Race.aj.aa.length bC) j.Race.aj.bK j.Race.aj.dj j.Race.aj.ck) (aR.mk slA j.Race.aT.length slC) (aR.mk drA j.Race.bS.length drC) j.Race.f_ (aR.mk heA j.Race.aB.length heC)) (aR.mk faA j.aC.length faC) (aR.mk prA j.aq.length prC) j.cu j.j2)))] (vB (decide (¬ oL j.Race.aj.bK f))):=by
 refine bH kr Tryz.func81 U U fun V Q hQ hN=>?_
 try dsimp only
 refine WS fun _ N=>eK U fun AA=>bI 1 U<|RK N<|WS fun _ O=>e7 5 [] (mr 1 U mn) U<|RK O<|ao fun _ D=>WS fun _ P=>rP 2 [] (mc 0 U mn) ?_
 refine rS (BI U mX)<|RK P<|bV U (aW fun A=>?_) (aV fun A=>?_)
 ·refine WK D<|WS fun _ B=>rP 2 [] (mc 0 U mn) ?_
  refine rS (SX (rF (m:=f.Kind) U U OW s9 (oj (by first|assumption|omega))) U U)<|ew (xs:=[.tmp 16]) (cs:=[(vI f.Kind)]) U dD kl U U U U (by simp [Value.cells]) U U fun F=>?_
  refine rS (CL (dH.eq (iS 1 3 ([f.Kind]) (some ⟨F,0,none⟩) 1 sd) cz) (aJ (bo 0 U U (by simp [bO]) U)<|aK) U) ?_
  refine rP 2 [] mn ?_
  refine cg (t:=20) U (bu fun K=>?_) (br fun K=>?_)
  ·refine rP 24 [] mn ?_
   refine RK B<|ar<|Q1 hQ U U U ?_
   first|(refine cB (c8 ?_).symm; first|(rw [fj A]; omega)|(rw [fh A]; omega))|(refine cB (bx ?_).symm; first|(rw [fj A]; omega)|(rw [fh A]; omega))|(refine cB (decide_not.symm.trans (fu.2 ?_)); first|(rw [fj A]; omega)|(rw [fh A]; omega))
  refine rP 4 [] (mc 1 U mn) ?_
  refine ew (xs:=[.tmp 22,.tmp 24]) (cs:=[(vI f.my),(vI f.To)]) U dD kl U U U U (by simp [Value.cells]) U U fun G=>?_
  refine rS (CL (dH.eq (iS 0 86400000 ([f.my,f.To]) (some ⟨G,0,none⟩) 2 sd) o5) (aJ (bo 0 U U (by simp [bO]) U)<|aK) U) ?_
  refine rP 3 [] mn ?_
  refine cg (t:=29) U (bu fun L=>?_) (br fun L=>?_)
  ·refine rP 15 [] mn ?_
   refine RK B<|ar<|Q1 hQ U U U ?_
   first|(refine cB (c8 ?_).symm; first|(rw [fj A]; omega)|(rw [fh A]; omega))|(refine cB (bx ?_).symm; first|(rw [fj A]; omega)|(rw [fh A]; omega))|(refine cB (decide_not.symm.trans (fu.2 ?_)); first|(rw [fj A]; omega)|(rw [fh A]; omega))
  refine rP 7 [] (mc 2 U mn) ?_
  refine cg (t:=36) U (aV fun M=>?_) (aW fun M=>?_)
  ·refine rP 8 [] mn ?_
   refine RK B<|ar<|Q1 hQ U U U ?_
   first|(refine cB (c8 ?_).symm; first|(rw [fj A]; omega)|(rw [fh A]; omega))|(refine cB (bx ?_).symm; first|(rw [fj A]; omega)|(rw [fh A]; omega))|(refine cB (decide_not.symm.trans (fu.2 ?_)); first|(rw [fj A]; omega)|(rw [fh A]; omega))
  refine rP 3 [] (mc 2 U mn) ?_
  refine ew (xs:=[.tmp 39]) (cs:=[(vI f.ik)]) U dD kl U U U U (by simp [Value.cells]) U U fun H=>?_
  refine rS (CL (dH.eq (iS 0 j.Race.aj.bK ([f.ik]) (some ⟨H,0,none⟩) 1 sd) cz) (aJ (bo 0 U U (by simp [bO]) U)<|aK) U) ?_
  refine rP 3 [] mn ?_
  refine RK B<|ar<|Q1 hQ U U U ?_
  first|(refine cB (c8 ?_).symm; first|(rw [fj A]; omega)|(rw [fh A]; omega))|(refine cB (bx ?_).symm; first|(rw [fj A]; omega)|(rw [fh A]; omega))|(refine cB (decide_not.symm.trans (fu.2 ?_)); first|(rw [fj A]; omega)|(rw [fh A]; omega))
 refine av<|bI 1 U<|RK D<|WS fun _ C=>rP 2 [] (mc 0 U mn) ?_
 refine rS (SX (rF (m:=f.Kind) U U OW s9 (oj (by first|assumption|omega))) U U)<|ew (xs:=[.tmp 16]) (cs:=[(vI f.Kind)]) U dD kl U U U U (by simp [Value.cells]) U U fun R=>?_
 refine rS (CL (dH.eq (iS 1 3 ([f.Kind]) (some ⟨R,0,none⟩) 1 sd) cz) (aJ (bo 0 U U (by simp [bO]) U)<|aK) U) ?_
 refine rP 2 [] mn ?_
 refine cg (t:=20) U (bu fun T=>?_) (br fun T=>?_)
 ·refine rP 24 [] mn ?_
  refine RK C<|ar<|Q1 hQ U U U ?_
  first|(refine cB (c8 ?_).symm; first|(rw [fj A]; omega)|(rw [fh A]; omega))|(refine cB (bx ?_).symm; first|(rw [fj A]; omega)|(rw [fh A]; omega))|(refine cB (decide_not.symm.trans (fu.2 ?_)); first|(rw [fj A]; omega)|(rw [fh A]; omega))
 refine rP 4 [] (mc 1 U mn) ?_
 refine ew (xs:=[.tmp 22,.tmp 24]) (cs:=[(vI f.my),(vI f.To)]) U dD kl U U U U (by simp [Value.cells]) U U fun S=>?_
 refine rS (CL (dH.eq (iS 0 86400000 ([f.my,f.To]) (some ⟨S,0,none⟩) 2 sd) o5) (aJ (bo 0 U U (by simp [bO]) U)<|aK) U) ?_
 refine rP 3 [] mn ?_
 refine cg (t:=29) U (bu fun AB=>?_) (br fun AB=>?_)
 ·refine rP 15 [] mn ?_
  refine RK C<|ar<|Q1 hQ U U U ?_
  first|(refine cB (c8 ?_).symm; first|(rw [fj A]; omega)|(rw [fh A]; omega))|(refine cB (bx ?_).symm; first|(rw [fj A]; omega)|(rw [fh A]; omega))|(refine cB (decide_not.symm.trans (fu.2 ?_)); first|(rw [fj A]; omega)|(rw [fh A]; omega))
 refine rP 7 [] (mc 2 U mn) ?_
 refine cg (t:=36) U (aV fun J=>?_) (aW fun J=>?_)
 ·refine rP 8 [] mn ?_
  refine RK C<|ar<|Q1 hQ U U U ?_
  first|(refine cB (c8 ?_).symm; first|(rw [fj A]; omega)|(rw [fh A]; omega))|(refine cB (bx ?_).symm; first|(rw [fj A]; omega)|(rw [fh A]; omega))|(refine cB (decide_not.symm.trans (fu.2 ?_)); first|(rw [fj A]; omega)|(rw [fh A]; omega))
 refine rP 3 [] (mc 2 U mn) ?_
 refine ew (xs:=[.tmp 39]) (cs:=[(vI f.ik)]) U dD kl U U U U (by simp [Value.cells]) U U fun E=>?_
 refine rS (CL (dH.eq (iS 0 0 ([f.ik]) (some ⟨E,0,none⟩) 1 sd) cz) (aJ (bo 0 U U (by simp [bO]) U)<|aK) U) ?_
 refine rP 3 [] mn ?_
 refine RK C<|ar<|Q1 hQ U U U ?_
 first|(refine cB (c8 ?_).symm; first|(rw [fj A]; omega)|(rw [fh A]; omega))|(refine cB (bx ?_).symm; first|(rw [fj A]; omega)|(rw [fh A]; omega))|(refine cB (decide_not.symm.trans (fu.2 ?_)); first|(rw [fj A]; omega)|(rw [fh A]; omega))
theorem tM (fk fw:Int) (ff ft:Int) (al ah:Int) (ae an:Bool) (bl bh:Int) (be bn:Bool):
 dH Tryz.prog 83 [(vA (aX.cells (aX.mk fk fw ff ft))),(vA (kE.cells (kE.mk (ag.mk al ah) ae an))),(vA (kE.cells (kE.mk (ag.mk bl bh) be bn)))] [] (vB (decide (ah≤ft∧ff≤bl))):=by
 refine bH kr Tryz.func83 U U fun G Q hQ hN=>?_
 try dsimp only
 refine WS fun _ B=>eK U fun D=>eK U fun E=>eK U fun F=>bI 1 U<|RK B<|WS fun _ A=>rP 7 [0,1] (mc 1 U (mc 2 U mn)) ?_
 refine cM (t:=13) U (aW fun C=>?_) (aV fun C=>?_)
 ·refine rP 8 [] mn ?_
  refine RK A<|ar<|Q1 hQ U U U ?_
  exact cB (bx I).symm
 refine rP 8 [0,1] (mc 0 U (mc 2 U mn)) ?_
 refine RK A<|ar<|Q1 hQ U U U ?_
 exact cB (fu.2 I)
theorem Ea (fk fw:Int) (ff ft:Int) (al ah:Int) (ae an:Bool) (bl bh:Int) (be bn:Bool):
 dH Tryz.prog 87 [(vA (aX.cells (aX.mk fk fw ff ft))),(vA (kE.cells (kE.mk (ag.mk al ah) ae an))),(vA (kE.cells (kE.mk (ag.mk bl bh) be bn)))] [] (vB (decide (ag.mk (max al ff) (min ah ft)=ag.mk al ah))):=by
 refine bH kr Tryz.func87 U U fun F Q hQ hN=>?_
 try dsimp only
 refine WS fun _ A=>eK U fun C=>eK U fun D=>eK U fun E=>bI 1 U<|RK A<|WS fun _ B=>e7 5 [0,1] (mc 1 U (mc 2 U mn)) U<|rS (MX U)<|e7 5 [0,1] (mc 1 U (mc 2 U mn)) U<|rS (MN U)<|rS (SX (bf (xs:=[(0,.tmp 12),(1,.tmp 18)]) (cs:=(ag.cells (ag.mk (max al ff) (min ah ft)))) U U (bg gZ U)) U U)<|bI 1 U<|rS (LP (ag.cells (ag.mk al ah)) 1 U cq U U U)<|rS (BI U (xb _ _ (ag.mk (max al ff) (min ah ft)) (ag.mk al ah)))<|rP 1 [] mn ?_
 refine RK B<|ar ?_
 exact Q1 hQ U U U U
theorem PB (j:cV) (kA:OA) (kC:Nat) (cA:OA) (cC:Nat) (bA:OA) (bC:Nat) (slA:OA) (slC:Nat) (drA:OA) (drC:Nat) (heA:OA) (heC:Nat) (faA:OA) (faC:Nat) (prA:OA) (prC:Nat) (fk fw:Int) (ff ft:Int):
 dH Tryz.prog 84 [(vA (db.cells (db.mk (dh.mk (di.mk (bT.mk (bG.mk (aR.mk kA j.Race.aj.aL.length kC)) j.Race.aj.eI (aR.mk cA j.Race.aj.ak.length cC) (aR.mk bA j.Race.aj.aa.length bC) j.Race.aj.bK j.Race.aj.dj j.Race.aj.ck) (aR.mk slA j.Race.aT.length slC) (aR.mk drA j.Race.bS.length drC) j.Race.f_ (aR.mk heA j.Race.aB.length heC)) (aR.mk faA j.aC.length faC) (aR.mk prA j.aq.length prC) j.cu j.j2)))),(vA (aX.cells (aX.mk fk fw ff ft)))] [] (vT [(vI (-1)),(vI j.Race.aj.bK)]):=by
 refine bH kr Tryz.func84 U U fun E Q hQ hN=>?_
 try dsimp only
 refine WS fun _ A=>eK U fun C=>eK U fun D=>bI 2 U<|RK A<|ao fun _ B=>dw cx 7 kr<|dP 7 [] (mc 1 U mn) ?_
 refine cK<|RK B<|ar<|Q2 hQ U U U U ?_
 rfl
theorem RP (j:cV) (kA:OA) (kC:Nat) (cA:OA) (cC:Nat) (bA:OA) (bC:Nat) (slA:OA) (slC:Nat) (drA:OA) (drC:Nat) (heA:OA) (heC:Nat) (faA:OA) (faC:Nat) (prA:OA) (prC:Nat) (fk fw:Int) (ff ft:Int) (hw:0≤fw∧fw≤1000000):
 dH Tryz.prog 85 [(vA (db.cells (db.mk (dh.mk (di.mk (bT.mk (bG.mk (aR.mk kA j.Race.aj.aL.length kC)) j.Race.aj.eI (aR.mk cA j.Race.aj.ak.length cC) (aR.mk bA j.Race.aj.aa.length bC) j.Race.aj.bK j.Race.aj.dj j.Race.aj.ck) (aR.mk slA j.Race.aT.length slC) (aR.mk drA j.Race.bS.length drC) j.Race.f_ (aR.mk heA j.Race.aB.length heC)) (aR.mk faA j.aC.length faC) (aR.mk prA j.aq.length prC) j.cu j.j2)))),(vA (aX.cells (aX.mk fk fw ff ft)))] [] (vT [(vI (fw-1)),(vI fw)]):=by
 refine bH kr Tryz.func85 U U fun E Q hQ hN=>?_
 try dsimp only
 refine WS fun _ A=>eK U fun C=>eK U fun D=>rP 2 [] mn ?_
 refine RK A<|ao fun _ B=>dw cx 7 kr ?_
 try dsimp only
 refine dP 7 [] (mc 0 U mn) ?_
 refine cK<|RK B<|ar<|Q2 hQ U U U U ?_
 rfl
theorem RI (j:cV) (kA:OA) (kC:Nat) (cA:OA) (cC:Nat) (bA:OA) (bC:Nat) (slA:OA) (slC:Nat) (drA:OA) (drC:Nat) (heA:OA) (heC:Nat) (faA:OA) (faC:Nat) (prA:OA) (prC:Nat) (fk fw:Int) (ff ft:Int):
 dH Tryz.prog 86 [(vA (db.cells (db.mk (dh.mk (di.mk (bT.mk (bG.mk (aR.mk kA j.Race.aj.aL.length kC)) j.Race.aj.eI (aR.mk cA j.Race.aj.ak.length cC) (aR.mk bA j.Race.aj.aa.length bC) j.Race.aj.bK j.Race.aj.dj j.Race.aj.ck) (aR.mk slA j.Race.aT.length slC) (aR.mk drA j.Race.bS.length drC) j.Race.f_ (aR.mk heA j.Race.aB.length heC)) (aR.mk faA j.aC.length faC) (aR.mk prA j.aq.length prC) j.cu j.j2)))),(vA (aX.cells (aX.mk fk fw ff ft)))] [] (vT [(vI fw),(vI fw)]):=by
 refine bH kr Tryz.func86 U U fun E Q hQ hN=>?_
 try dsimp only
 refine WS fun _ A=>eK U fun C=>eK U fun D=>bI 2 U<|RK A<|ao fun _ B=>dw cx 6 kr<|dP 6 [] (mc 0 U mn) ?_
 refine cK<|RK B<|ar<|Q2 hQ U U U U ?_
 rfl
theorem xr:
 dH Tryz.prog 56 [] [] (vA ((eW.cells (eW.mk Value.nilFunc Value.nilFunc))++(eW.cells (eW.mk (Value.func (.func 84) [].toArray [].toArray) (Value.func (.func 83) [].toArray [].toArray)))++(eW.cells (eW.mk (Value.func (.func 85) [].toArray [].toArray) (Value.func (.func 83) [].toArray [].toArray)))++(eW.cells (eW.mk (Value.func (.func 86) [].toArray [].toArray) (Value.func (.func 87) [].toArray [].toArray))))):=by
 refine bH kr Tryz.func56 U U fun E Q hQ hN=>?_
 try dsimp only
 refine WS fun _ A=>AL U Ro fun D=>RK A<|WS fun _ B=>bI 1 U<|RK B<|WS fun _ C=>bI 1 U<|rS (SX (bf (xs:=[(0,.func 84),(1,.tmp 2)]) (cs:=(eW.cells (eW.mk (Value.func (.func 84) [].toArray [].toArray) (Value.func (.func 83) [].toArray [].toArray)))) U U (bg JU U)) U U)<|rP 1 [] mn ?_
 refine rS (SX (bf (xs:=[(0,.func 85),(1,.tmp 4)]) (cs:=(eW.cells (eW.mk (Value.func (.func 85) [].toArray [].toArray) (Value.func (.func 83) [].toArray [].toArray)))) U U (bg JU U)) U U)<|rS (SX (bf (xs:=[(0,.func 86),(1,.func 87)]) (cs:=(eW.cells (eW.mk (Value.func (.func 86) [].toArray [].toArray) (Value.func (.func 87) [].toArray [].toArray)))) U U (bg JU U)) U U)<|rS (SX (bf (xs:=[(1,.tmp 3),(2,.tmp 5),(3,.tmp 6)]) (cs:=((eW.cells (eW.mk Value.nilFunc Value.nilFunc))++(eW.cells (eW.mk (Value.func (.func 84) [].toArray [].toArray) (Value.func (.func 83) [].toArray [].toArray)))++(eW.cells (eW.mk (Value.func (.func 85) [].toArray [].toArray) (Value.func (.func 83) [].toArray [].toArray)))++(eW.cells (eW.mk (Value.func (.func 86) [].toArray [].toArray) (Value.func (.func 87) [].toArray [].toArray))))) U U (bg RR U)) U U)<|fK U P1 U<|RK C<|ar<|Cs hQ [0] (mc 0 U mn) U ?_
 rfl
theorem B4 (l:List aX) (lA:OA) (lC:Nat) (f:aX) (hlen:l.length≤1000000):
 dH Tryz.prog 41 [(vS lA l.length lC),(vA (aX.cells f))] [(rd lA l.length 4 (l.map aX.cells))] (vI (oP l f)):=by
 refine bH kr Tryz.func41 U U fun AA Q hQ hN=>?_
 try dsimp only
 refine WS fun _ J=>eK U fun T=>bI 1 U<|RK J<|ao fun _ K=>WS fun _ L=>rP 3 [] mn ?_
 refine RK L<|aF ?_
 have B:(0≤l.length)∧(∀ (q:Nat) y,q<0→l[q]? =some y→y≠f):=by exact ⟨Nat.zero_le _,fun q y hq=>absurd hq (Nat.not_lt_zero _)⟩
 refine bZ (ι:={z:Nat // (z≤l.length)∧(∀ (q:Nat) y,q<z→l[q]? =some y→y≠f)}) [0,3,7] [0,1] U U (fun z=>[(8,(vI (z.1:Int)))]) (fun z=>[]) (fun _=>rfl) (fun _=>rfl) (fun z=>l.length-z.1) ⟨0,B⟩ (bE U) (aU [0,1]) ?_
 clear B
 rintro ⟨i,⟨P,A⟩⟩ J5 AB
 try dsimp only
 refine WS fun _ M=>rP 1 [] mn ?_
 refine RK M<|ao fun _ N=>bV U (aW fun S=>?_) (aV fun S=>?_)
 ·refine bQ<|ai<|ai<|aI<|KK K<|WS fun _ G=>rP 1 [] mn ?_
  refine RK G<|ar<|Q1 hQ U U U ?_
  first|exact cI (Ej hx C.symm A).symm|exact cI (D4 A I).symm
 refine WK N<|ao fun _ O=>aF<|WS fun _ D=>bI 2 U<|RK D<|ao fun _ E=>dw cx 6 kr<|dP 3 [] (mc 0 U mn) ?_
 obtain ⟨x,hx⟩:=aM l i I
 have R:=bP aX.cells hx
 refine dS (IA i U (aA 1 U) BC dc I I)<|dS (lQ i 0 (aX.cells x) U cq (aA 1 U) R U dc U U)<|dS (BI U (Q7 _ _ f x))<|cK<|RK E<|cH U (aV fun C=>?_) (aW fun C=>?_)
 ·refine WS fun _ F=>rP 2 [] mn ?_
  refine RK F<|ar<|Q1 hQ U U U ?_
  first|exact cI (Ej hx C.symm A).symm|exact cI (D4 A I).symm
 refine ct<|aN<|KK O<|av<|rP 2 [] mn ?_
 refine aH ?_
 have H:(vI (((i+1):Nat):Int))=(vI ((i:Int)+1)):=by exact cI I
 refine bp (AB ⟨(i+1),⟨I,fun q y hq hy=>by rcases Nat.lt_or_ge q i with c|c; exact A q y c hy; (obtain rfl:q=i:=by omega); rw [hx] at hy; cases hy; exact fun e=>C e.symm⟩⟩ _ _ _ rfl os (cY 3<|bk rfl H<|dG.nil _) (aU [0,1]))
end
section
open Go.RowKit
theorem PQ (l:List Int) (lA:OA) (lC:Nat) (hne:1≤l.length) (hlen:l.length≤1000000):
 dH Tryz.prog 88 [(vS lA l.length lC)] [(rd lA l.length 1 (l.map iC))] (vI (nB l)):=by
 refine bH kr Tryz.func88 U U fun V Q hQ hN=>?_
 try dsimp only
 refine WS fun _ L=>bI 1 U<|RK L<|ao fun _ M=>WS fun _ N=>rP 3 [] mn ?_
 refine RK N<|cH U (aV fun AA=>?_) (aW fun AA=>?_)
 ·exfalso; omega
 refine WK M<|WS fun _ O=>rP 1 [] mn ?_
 obtain ⟨AB,B⟩:=aM l 0 I
 have hx0m:=bP iC B
 refine rS (IA 0 U (aA 0 U) dD dc U I)<|rS (iK 0 0 (vI AB) U cq (aA 0 U) hx0m U dc U)<|bI 1 U<|RK O<|ao fun _ P=>WS fun _ R=>rP 1 [] mn ?_
 refine RK R<|aF ?_
 have A:(1≤1∧1≤l.length):=by omega
 have S:(vI (nB (l.take 1)))=(vI AB):=by rw [Gn B]
 refine bZ (ι:={z:Nat // (1≤z∧z≤l.length)}) [0] [0] U U (fun z=>[(3,(vI (nB (l.take z.1)))),(4,(vI (z.1:Int)))]) (fun z=>[]) (fun _=>rfl) (fun _=>rfl) (fun z=>l.length-z.1) ⟨1,A⟩ (bk U S<|bE U) (aU [0]) ?_
 clear A
 rintro ⟨i,T⟩ J9 K
 try dsimp only
 refine ao fun _ C=>WS fun _ D=>rP 4 [] mn ?_
 refine RK D<|bV U (aW fun J=>?_) (aV fun J=>?_)
 ·refine bQ<|ai<|ai<|aI<|KK P<|WS fun _ F=>rP 2 [] mn ?_
  refine RK F<|ar<|Q1 hQ U U U ?_
  rw [List.take_of_length_le I]
 refine WK C<|ao fun _ E=>aF<|av<|rP 3 [] mn ?_
 obtain ⟨AB,B⟩:=aM l i I
 have hx0m:=bP iC B
 refine rS (IA i U (aA 0 U) dD dc I I)<|rS (iK i 0 (vI AB) U cq (aA 0 U) hx0m U dc U)<|rS (MN U)<|bI 1 U<|aH<|aN<|KK E<|av<|rP 3 [] mn ?_
 refine aH ?_
 have G:(vI (nB (l.take (i+1))))=(vI (min (nB (l.take i)) AB)):=by rw [Jj B I]
 have H:(vI (((i+1):Nat):Int))=(vI ((i:Int)+1)):=by exact cI I
 refine bp (K ⟨(i+1),(by first|omega|(simp only []; omega))⟩ _ _ _ U os (dG.cons U<|bk U G<|bk U H<|dG.nil _) (aU [0]))
end
section
open Go.RowKit
structure HY (S:BS) (w0:World) (X:aw) (C0:List aw) (w:World) (S':BS):Prop where
 st:St S w0 (X::C0) w
 w_: ∀ b,S'.w b↔ ∃ A∈C0,A.wf b
theorem CI {A B:aw} (h:Cq A B):Cq A.ro B:=fun b C D=>⟨fun h=>h,(h b C D).2⟩
theorem Ch {E:e9} {c:Code} {Q:dq} {D:ig} {L:dA} {C C0:List aw} {X:aw} (i:Nat) (hn:decide (i::(List.range C.length).filter fun k=>k != i).Nodup=true) (hC:kG C (i::(List.range C.length).filter fun k=>k != i)=X::C0)
 (h: ∀ w S',HY E.S E.w0 X C0 w S'→WJ ⟨E.P,E.r,E.n,S',w⟩ c Q D L (X.ro::C0)):WJ E c Q D L C:=fun a w hf hs=>by
 have F:=St.kG _ hn hC hs
 obtain ⟨G,H⟩:=List.pairwise_cons.1 F.sep
 refine h w ⟨fun b=> ∃ A∈C0,A.wf b,fun _=>True⟩ ⟨F,fun b=>Iff.rfl⟩ a w hf ⟨dR.refl _ _,fun A hA=>?_,List.Pairwise.cons (fun B hB=>CI (G B hB)) H,fun A hA b hb=>?_,fun A hA b hb=> .inr trivial⟩
 ·rcases bR.1 hA with rfl|hA
  ·exact F.holds X (cJ ..)
  ·exact F.holds A (dW _ hA)
 ·rcases bR.1 hA with rfl|hA
  ·exact hb.elim
  ·exact .inr ⟨A,hA,hb⟩
theorem Ah {E:e9} {S':BS} {w:World} {K:Act→World→Prop} {D:ig} {L:dA} {C0 C1 C2:List aw} {X:aw} (hz:HY E.S E.w0 X C0 w S') (is:List Nat) (hn:decide is.Nodup=true) (hC:kG C2 is=C1) (hwr:C1.all (·.wr)=true)
 (h:KJ E K D L (X::C1)):KJ ⟨E.P,E.r,E.n,S',w⟩ K D L C2:=fun a w' hf hs=>by
 have F:=St.kG is hn hC hs
 have C:=hz.st
 obtain ⟨J,M⟩:=List.pairwise_cons.1 C.sep
 have AA: ∀ b,X.fr b→ ¬ S'.w b:=fun b hb hw=>by
  obtain ⟨A,hA,hw⟩:=(hz.w_ b).1 hw
  exact (J A hA b hb (A.kD b hw)).2 hw
 have G: ∀ b,S'.w b→E.w0.heap.size≤b∨E.S.w b:=fun b hb=>by
  obtain ⟨A,hA,hw⟩:=(hz.w_ b).1 hb
  exact C.own A (dW _ hA) b hw
 have H: ∀ A∈C1,∀ b,A.fr b→w.heap.size≤b∨S'.w b:=fun A hA b hb=>F.own A hA b (A.whole (de.1 hwr A hA) b hb)
 refine h a w' hf ⟨?_,fun A hA=>?_,List.Pairwise.cons (fun B hB b hb hb'=>?_) F.sep,fun A hA b hb=>?_,fun A hA b hb=>?_⟩
 ·refine ⟨F.keeps.os.trans C.keeps.os,F.keeps.tape.trans C.keeps.tape,F.keeps.output.trans C.keeps.output,Nat.le_trans C.keeps.size F.keeps.size,fun k hk hn'=>?_⟩
  refine (F.keeps.block k (Nat.lt_of_lt_of_le hk C.keeps.size) fun hw=>?_).trans (C.keeps.block k hk hn')
  rcases G k hw with q|q
  ·omega
  ·exact hn' q
 ·rcases bR.1 hA with rfl|hA
  ·have hh:=C.holds A (cJ ..)
   exact A.oN w w' (fun b hb=>F.keeps.block b (A.lt w hh b hb) (AA b hb)) hh
  ·exact F.holds A hA
 ·exfalso
  have hl:=X.lt w (C.holds X (cJ ..)) b hb
  rcases H B hB b hb' with q|q
  ·omega
  ·exact AA b hb q
 ·rcases bR.1 hA with rfl|hA
  ·exact C.own A (cJ ..) b hb
  ·rcases F.own A hA b hb with q|q
   ·exact .inl (Nat.le_trans C.keeps.size q)
   ·exact G b q
 ·rcases bR.1 hA with rfl|hA
  ·exact C.seen A (cJ ..) b hb
  ·rcases H A hA b hb with q|q
   ·exact .inl (Nat.le_trans C.keeps.size q)
   ·obtain ⟨B,hB,hw⟩:=(hz.w_ b).1 q
    exact C.seen B (dW _ hB) b (B.kD b hw)
/-- put back, as it was -/
theorem Gt {M A:Type} {f:M→A→List aw} {S:BS} {w0 w:World} {C:List aw} {ms:List M} {asl:List A} {k:Nat} {m:M} {a:A} {X:aw} (hm:ms[k]? =some m) (ha:asl[k]? =some a) (hf:f m a=[X]) (h:St S w0 (X::cd (jf f ms asl k)::C) w):St S w0 (cd (bw f ms asl)::C) w:=by
 have B:St S w0 (cd (jf f ms asl k)::X::C) w:=h.perm (List.Perm.swap _ _ _)
 have D:St S w0 ((f m a++jf f ms asl k)++C) w:=by
  rw [hf]
  exact B.jB.perm (List.perm_middle (a:=X) (l₁:=jf f ms asl k) (l₂:=C))
 exact uH (rN hm ha).symm D.tied
theorem I1 {E:e9} {K:Act→World→Prop} {D:ig} {L:dA} {C C1:List aw} {M A:Type} {f:M→A→List aw} {ms:List M} {asl:List A} {k:Nat} {m:M} {a:A} {X:aw} (i j:Nat) (hm:ms[k]? =some m) (ha:asl[k]? =some a) (hf:f m a=[X])
 (hn:decide (j::i::(List.range C.length).filter fun k=>k != i&&k != j).Nodup=true) (hC:kG C (j::i::(List.range C.length).filter fun k=>k != i&&k != j)=X::cd (jf f ms asl k)::C1)
 (h:KJ E K D L (cd (bw f ms asl)::C1)):KJ E K D L C:=fun a w hf' hs=>h a w hf' (Gt hm ha hf (St.kG _ hn hC hs))
theorem zb {M A:Type} {f:M→A→List aw} {ms:List M} {asl:List A} {m:M} {a:A} {X:aw} (hl:ms.length=asl.length) (hf:f m a=[X]):bw f ms asl++[X]=bw f (ms++[m]) (asl++[a]):=by
 rw [lq hl,← hf]; simp [bw]
theorem zh {E:e9} {K:Act→World→Prop} {D:ig} {L:dA} {C C1:List aw} {M A:Type} {f:M→A→List aw} {ms:List M} {asl:List A} {m:M} {a:A} {X:aw} (i j:Nat) (hf:f m a=[X])
 (hn:decide (j::i::(List.range C.length).filter fun k=>k != i&&k != j).Nodup=true) (hC:kG C (j::i::(List.range C.length).filter fun k=>k != i&&k != j)=X::cd (bw f ms asl)::C1)
 (h:KJ E K D L (cd (bw f (m::ms) (a::asl))::C1)):KJ E K D L C:=fun b w hf' hs=>by
 have B:=St.kG _ hn hC hs
 have F:St E.S E.w0 (cd (bw f ms asl)::X::C1) w:=B.perm (List.Perm.swap _ _ _)
 have G:St E.S E.w0 (bw f (m::ms) (a::asl)++C1) w:=by
  show St E.S E.w0 ((f m a++bw f ms asl)++C1) w
  rw [hf]
  exact F.jB.perm (List.perm_middle (a:=X) (l₁:=bw f ms asl) (l₂:=C1))
 exact h b w hf' G.tied
end
section
open Go.RowKit
abbrev mg (r:Nat):aw:=jo r (.deferred (some []))
theorem Lz (rs:List Nat):(cd (rs.map mg)).wr=true:=by
 show (rs.map mg).all (·.wr)=true
 rw [de]
 intro X hX
 obtain ⟨r,_,rfl⟩:=cy.1 hX
 rfl
theorem wm {E:e9} {c:Code} {Q:dq} {D:ig} {L:dA} {C:List aw} {ι:Type} (Di:ι→ig) (Li:ι→dA) (Ci:ι→List aw) (μ:ι→Nat) (x0:ι)
 (hD:D=Di x0) (h0:dG L (Li x0)) (hC: ∀ w,St E.S E.w0 C w→St E.S E.w0 (Ci x0) w)
 (round: ∀ x (J:Act→World→Prop),(∀ y D' L' C',D'=Di y→μ y<μ x→dG L' (Li y)→(∀ w,St E.S E.w0 C' w→St E.S E.w0 (Ci y) w)→KJ E J D' L' C')→WJ E c (Exit.then J Q) (Di x) (Li x) (Ci x)):WJ E (.loop c) Q D L C:=by
 intro a w hf hs
 subst hD
 have H: ∃ x,Fr E.n (Di x) (Li x) a∧St E.S E.w0 (Ci x) w:=⟨x0,hf.sub h0,hC w hs⟩
 clear hf hs
 have key: ∀ (m:Nat) (a:Act) (w:World),(∃ x,μ x=m∧Fr E.n (Di x) (Li x) a∧St E.S E.w0 (Ci x) w)→(Code.loop c).wpIn (Fw E.r) 0 E.P Q a w:=by
  intro m a w hx
  refine wpIn_loop (fun a w=> ∃ x,Fr E.n (Di x) (Li x) a∧St E.S E.w0 (Ci x) w) (fun a w=>leastOf fun k=> ∃ x,μ x=k∧Fr E.n (Di x) (Li x) a∧St E.S E.w0 (Ci x) w) (by obtain ⟨x,_,h⟩:=hx; exact ⟨x,h⟩) ?_
  intro a w hx
  have F: ∃ k,∃ x,μ x=k∧Fr E.n (Di x) (Li x) a∧St E.S E.w0 (Ci x) w:=by obtain ⟨x,h⟩:=hx; exact ⟨_,x,rfl,h⟩
  obtain ⟨x,K,AA,M⟩:=(leastOf_spec F).1
  refine round x _ ?_ a w AA M
  intro y D' L' C' hD G A B a' w' hf' hs'
  subst hD
  refine ⟨⟨y,hf'.sub A,B _ hs'⟩,?_⟩
  rw [← K]
  exact Nat.lt_of_le_of_lt ((leastOf_spec ⟨_,y,U,hf'.sub A,B _ hs'⟩).2 _ ⟨y,U,hf'.sub A,B _ hs'⟩) G
 obtain ⟨x,h⟩:=H
 exact key _ a w ⟨x,U,h⟩
theorem St.SO {S:BS} {w0 w:World} {C X:List aw} {A:aw} (h:St S w0 (A::cd X::C) w):St S w0 (cd (A::X)::C) w:=by
 have B:St S w0 (cd X::A::C) w:=h.perm (List.Perm.swap _ _ _)
 have D:St S w0 ((A::X)++C) w:=B.jB.perm (List.perm_middle (a:=A) (l₁:=X) (l₂:=C))
 exact D.tied
theorem Jt {E:e9} {K:Act→World→Prop} {D:ig} {L:dA} {C C1 X:List aw} {A:aw} (i j:Nat) (hn:decide (j::i::(List.range C.length).filter fun k=>k != i&&k != j).Nodup=true) (hC:kG C (j::i::(List.range C.length).filter fun k=>k != i&&k != j)=A::cd X::C1)
 (h:KJ E K D L (cd (A::X)::C1)):KJ E K D L C:=fun a w hf hs=>h a w hf ((St.kG _ hn hC hs).SO)
theorem CP {E:e9} {K:Act→World→Prop} {D:ig} {L:dA} {C:List aw} (h:KJ E K D L (cd []::C)):KJ E K D L C:=fun a w hf hs=>h a w hf hs.Ok
theorem N6 {E:e9} {K:Act→World→Prop} {D:ig} {L:dA} (C1 C2:List aw) (h:KJ E K D L (cd C1::C2)):KJ E K D L (C1++C2):=fun a w hf hs=>h a w hf (St.tied hs)
theorem Ma {E:e9} {fn:Func} {R:Ending→World→Prop} {D:ig} {L:dA} {C C1:List aw} {rs:List Nat} (i:Nat) (hn:decide (i::(List.range C.length).filter fun k=>k != i).Nodup=true) (hC:kG C (i::(List.range C.length).filter fun k=>k != i)=cd (rs.map mg)::C1)
 (h:LJ E fn R D L C1):LJ E fn R (rs.map jS++D) L C:=by
 have key: ∀ rs:List Nat,LJ E fn R (rs.map jS++D) L (cd (rs.map mg)::C1):=by
  intro rs
  induction rs with
  |nil=>exact fun a w hf hs=>h a w hf (hs.take (List.sublist_cons_self _ _))
  |cons r rs ih=>
   have A:LJ E fn R (jS r::(rs.map jS++D)) L (mg r::cd (rs.map mg)::C1):=rq 0 rfl rfl (fun a w hf hs=>ih a w hf (hs.take (List.sublist_cons_self _ _)))
   intro a w hf hs
   refine A a w hf ?_
   have B:St E.S E.w0 ((mg r::rs.map mg)++C1) w:=St.jB (C1:=mg r::rs.map mg) hs
   have F:St E.S E.w0 (rs.map mg++(mg r::C1)) w:=B.perm (List.perm_middle (a:=mg r) (l₁:=rs.map mg) (l₂:=C1)).symm
   exact F.tied.perm (List.Perm.swap _ _ _)
 exact fun a w hf hs=>key rs a w hf (St.kG _ hn hC hs)
theorem Jv {E:e9} {fn:Func} {R:Ending→World→Prop} {L:dA} {C C1:List aw} {rs:List Nat} (i:Nat) (hn:decide (i::(List.range C.length).filter fun k=>k != i).Nodup=true) (hC:kG C (i::(List.range C.length).filter fun k=>k != i)=cd (rs.map mg)::C1)
 (h:LJ E fn R [] L C1):LJ E fn R (rs.map jS) L C:=by
 have:=Ma (D:=[]) i hn hC h
 rwa [List.append_nil] at this
end
section
open Go.RowKit
theorem pD (fs:List FM) (fb:List Nat):(cd (bw mY fs fb)).wr=true:=by
 show (bw mY fs fb).all (·.wr)=true
 rw [de]
 intro X hX
 obtain ⟨k,m,a,_,_,h⟩:=j9 hX
 simp only [mY,cm] at h
 subst h; rfl
theorem qG (fs:List TM) (fb:List Nat):(cd (bw pM fs fb)).wr=true:=by
 show (bw pM fs fb).all (·.wr)=true
 rw [de]
 intro X hX
 obtain ⟨k,m,a,_,_,h⟩:=j9 hX
 simp only [pM,cm] at h
 subst h; rfl
end
section
def dB (bl:List Nat) (n:Nat):List (Option Nat):=bl.map some++List.replicate (n-bl.length) none
def iv (bl:List Nat) (n:Nat):List (Option Nat):=List.replicate (n-bl.length) none++bl.map some
theorem nq {bl:List Nat} {n:Nat} (h:bl.length≤n):(dB bl n).length=n:=by simp [dB]; omega
theorem yw {bl:List Nat} {n:Nat} (h:bl.length≤n):(iv bl n).length=n:=by simp [iv]; omega
theorem vf {n:Nat}:List.replicate n none=dB [] n:=by simp [dB]
theorem FK {n:Nat}:List.replicate n none=iv [] n:=by simp [iv]
theorem yD {bl:List Nat} {n:Nat} (h:bl.length=n):dB bl n=bl.map some:=by simp [dB,h]
theorem GW {bl:List Nat} {n:Nat} (h:bl.length=n):iv bl n=bl.map some:=by simp [iv,h]
theorem mL {bl:List Nat} {n k g:Nat} (h:bl[k]? =some g):(dB bl n)[k]? =some (some g):=by
 have hk:=(aY.1 h).1
 unfold dB
 rw [List.getElem?_append_left (by simpa using hk),fO,h]; rfl
theorem ux {bl:List Nat} {n k i g:Nat} (h:bl[i]? =some g) (hk:k=n-bl.length+i):(iv bl n)[k]? =some (some g):=by
 subst hk
 unfold iv
 rw [List.getElem?_append_right sm,fO,List.length_replicate,Nat.add_sub_cancel_left,h]; rfl
theorem rI {bl:List Nat} {n k g:Nat} (hk:k=bl.length) (h:bl.length<n):(dB bl n).set k (some g)=dB (bl++[g]) n:=by
 subst hk
 unfold dB
 rw [List.set_append_right _ _ sm]
 have e:n-bl.length=(n-(bl++[g]).length)+1:=by simp; omega
 rw [e,List.replicate_succ]
 simp
theorem GI {bl:List Nat} {n k g:Nat} (hk:k+1+bl.length=n):(iv bl n).set k (some g)=iv (g::bl) n:=by
 unfold iv
 have e:n-bl.length=k+1:=by omega
 have A:n-(g::bl).length=k:=by simp; omega
 rw [e,A,List.set_append_left _ _ sm,List.replicate_succ',List.set_append_right _ _ sm]
 simp
theorem qn {l:List (Option Nat)} {k g:Nat} (h:l[k]? =some (some g)):(l.map oC)[k]? =some (oC (some g)):=by rw [fO,h]; rfl
theorem zR {α:Type} {l:List α} {x:α} {k:Nat} (h:k=l.length):(l++[x])[k]? =some x:=by subst h; simp
theorem IB {α:Type} {l:List α} {x y:α} {k:Nat} (h:l[k]? =some y):(l++[x])[k]? =some y:=by rw [List.getElem?_append_left (aY.1 h).1]; exact h
structure qx (w:bY) (fs:List FM):Prop where
 all: ∀ (b:Nat) m,fs[b]? =some m→ue m (fwd w b)∧(m.map (·.1)).Nodup
structure iz (w:bY) (k:Nat) (bs:List FM):Prop where
 all: ∀ (i:Nat) m,bs[i]? =some m→vC m (back w (k+i))∧(m.map (·.1)).Nodup
variable {w:bY} {b:Nat} {mb m left:List (aD×Int)} {o:Int×ag} {os:List (Int×ag)} {p:aD×Int}
theorem qx.first:qx w [[(⟨0,0⟩,w.Start)]]:=⟨fun b m h=>by
 match b with
 |0=>simp at h; subst h; exact ⟨GY,sm⟩
 |n+1=>simp at h⟩
theorem qx.add {fs:List FM} (h:qx w fs) (hl:fs.length=b+1) (hmb:fs[b]? =some mb) (hm:xH w b m) (hd:j3 w b mb m left) (h0:left=[]):qx w (fs++[m]):=⟨fun i x hx=>by
 rcases Nat.lt_or_ge i fs.length with q|q
 ·rw [List.getElem?_append_left q] at hx; exact h.all i x hx
 ·rw [List.getElem?_append_right q] at hx
  have hi:i-fs.length=0:=by
   rcases Nat.eq_zero_or_pos (i-fs.length) with z|z
   ·exact z
   ·rw [List.getElem?_eq_none (by simp; omega)] at hx; cases hx
  rw [hi] at hx
  simp at hx; subst hx
  obtain rfl:i=b+1:=by omega
  have A:=h.all b mb hmb
  exact ⟨HA A.2 A.1 hm.snd (hd.fin h0),hm.keys⟩⟩
theorem qx.ok {fs:List FM} (h:qx w fs) (hl:fs.length=w.n+1):vy w fs:=⟨hl,fun b m hm=>(h.all b m hm).1,fun b m hm=>(h.all b m hm).2⟩
theorem iz.none_:iz w b []:=⟨fun i m h=>by simp at h⟩
theorem iz.last (hb:w.n≤b):iz w b [[(⟨0,0⟩,w.gd)]]:=⟨fun i m h=>by
 match i with
 |0=>simp at h; subst h; exact ⟨Ha I,sm⟩
 |n+1=>simp at h⟩
theorem iz.add {bs:List FM} (h:iz w (b+1) bs) (hb:b<w.n) (hmb:bs[0]? =some mb) (hm:v_ w b m) (hd:jR w b mb m left) (h0:left=[]):iz w b (m::bs):=⟨fun i x hx=>by
 match i with
 |0=>
  simp at hx; subst hx
  have A:=h.all 0 mb hmb
  exact ⟨JB hb A.2 A.1 hm.snd hm.zero (hd.fin h0),hm.keys⟩
 |n+1=>
  have:=h.all n x (by simpa using hx)
  rw [show b+1+n=b+(n+1) by omega] at this
  exact this⟩
theorem iz.ok {bs:List FM} (h:iz w 0 bs) (hl:bs.length=w.n+1):sU w bs:=⟨hl,fun b m hm=>by have:=(h.all b m hm).1; rwa [Nat.zero_add] at this,fun b m hm=>(h.all b m hm).2⟩
/-- on the way through one entry's options -/
structure nA (w:bY) (b:Nat) (mb left m:List (aD×Int)) (p:aD×Int) (os:List (Int×ag)):Prop where
 on:xH w b m
 tF:j3 w b mb m left
 done:jC w b m p os
structure nI (w:bY) (b:Nat) (mb left m:List (aD×Int)) (p:aD×Int) (os:List (Int×ag)):Prop where
 on:v_ w b m
 tF:jR w b mb m left
 done:jw w b m p os
theorem nA.start (h:xH w b m) (h2:j3 w b mb m left):nA w b mb left m p []:=⟨h,h2,fun o ho=>by cases ho⟩
theorem nI.start (h:v_ w b m) (h2:jR w b mb m left):nI w b mb left m p []:=⟨h,h2,fun o ho=>by cases ho⟩
theorem Fj {q:aD×Int} (h:(m.lookup q.1).isSome=false∨q.2<(m.lookup q.1).getD 0):pK m q=eo m q.1 q.2:=by
 unfold pK
 cases e:m.lookup q.1 with
 |none=>rfl
 |some v=>rw [e] at h; simp at h; simp only; rw [if_pos h]
theorem C4 {q:aD×Int} (h:(m.lookup q.1).isSome=true) (h2: ¬ q.2<(m.lookup q.1).getD 0):pK m q=m:=by
 unfold pK
 cases e:m.lookup q.1 with
 |none=>rw [e] at h; cases h
 |some v=>rw [e] at h2; simp only [Option.getD_some] at h2; simp only; rw [if_neg h2]
theorem Ge {q:aD×Int} (h:(m.lookup q.1).isSome=false∨(m.lookup q.1).getD 0<q.2):pt m q=eo m q.1 q.2:=by
 unfold pt
 cases e:m.lookup q.1 with
 |none=>rfl
 |some v=>rw [e] at h; simp at h; simp only; rw [if_pos h]
theorem Dr {q:aD×Int} (h:(m.lookup q.1).isSome=true) (h2: ¬ (m.lookup q.1).getD 0<q.2):pt m q=m:=by
 unfold pt
 cases e:m.lookup q.1 with
 |none=>rw [e] at h; cases h
 |some v=>rw [e] at h2; simp only [Option.getD_some] at h2; simp only; rw [if_neg h2]
theorem zo {t:aD} {v y:Int} (hy:w.qy[b]? =some y) (h:max (v+y) o.2.Lo≤min o.2.Hi w.gd):k8 w b (t,v) o=some (dF t (fB o.1),max (v+y) o.2.Lo):=by
 have e:=ny hy
 subst e
 exact H8 h
theorem H9 {t:aD} {v y:Int} (hy:w.qy[b]? =some y) (h: ¬ max (v+y) o.2.Lo≤min o.2.Hi w.gd):k8 w b (t,v) o=none:=by
 have e:=ny hy
 subst e
 exact KX h
theorem zU {t:aD} {v y:Int} (hy:w.qy[b]? =some y) (h:o.2.Lo≤min v o.2.Hi):oc w b (t,v) o=some (dF t (fB o.1),min v o.2.Hi-y):=by
 have e:=ny hy
 subst e
 exact IQ h
theorem nA.set {q:aD×Int} (h:nA w b mb left m p os) (hp:p∈fwd w b) (ho:o∈iT w b) (he:k8 w b p o=some q) (hs:(m.lookup q.1).isSome=false∨q.2<(m.lookup q.1).getD 0):nA w b mb left (eo m q.1 q.2) p (os++[o]):=by
 rw [← Fj hs]
 exact ⟨h.on.add hp ho he,h.tF.lower vL,h.done.I8 he⟩
theorem nA.oN {q:aD×Int} (h:nA w b mb left m p os) (he:k8 w b p o=some q) (hs:(m.lookup q.1).isSome=true) (h2: ¬ q.2<(m.lookup q.1).getD 0):nA w b mb left m p (os++[o]):=by
 have:=h.done.I8 he
 rw [C4 hs h2] at this
 exact ⟨h.on,h.tF,this⟩
theorem nA.skip (h:nA w b mb left m p os) (he:k8 w b p o=none):nA w b mb left m p (os++[o]):=⟨h.on,h.tF,h.done.none_ he⟩
theorem nI.set {q:aD×Int} (hb:b<w.n) (h:nI w b mb left m p os) (hp:p∈back w (b+1)) (ho:o∈iT w b) (he:oc w b p o=some q) (hs:(m.lookup q.1).isSome=false∨(m.lookup q.1).getD 0<q.2):nI w b mb left (eo m q.1 q.2) p (os++[o]):=by
 rw [← Ge hs]
 exact ⟨h.on.add hb hp ho he,h.tF.upper rh,h.done.I8 he⟩
theorem nI.oN {q:aD×Int} (h:nI w b mb left m p os) (he:oc w b p o=some q) (hs:(m.lookup q.1).isSome=true) (h2: ¬ (m.lookup q.1).getD 0<q.2):nI w b mb left m p (os++[o]):=by
 have:=h.done.I8 he
 rw [Dr hs h2] at this
 exact ⟨h.on,h.tF,this⟩
theorem nI.skip (h:nI w b mb left m p os) (he:oc w b p o=none):nI w b mb left m p (os++[o]):=⟨h.on,h.tF,h.done.none_ he⟩
theorem nA.next {t:aD} {v:Int} (hn:(left.map (·.1)).Nodup) (hm:(t,v)∈left) (h:nA w b mb left m (t,v) os) (ho: ∀ o∈iT w b,o∈os):j3 w b mb m (eY left t):=h.tF.next hn hm h.done ho
theorem nI.next {t:aD} {v:Int} (hn:(left.map (·.1)).Nodup) (hm:(t,v)∈left) (h:nI w b mb left m (t,v) os) (ho: ∀ o∈iT w b,o∈os):jR w b mb m (eY left t):=h.tF.next hn hm h.done ho
theorem qx.mem {fs:List FM} (h:qx w fs) (hm:fs[b]? =some mb) (hp:p∈mb):p∈fwd w b:=(h.all b mb hm).1.1 _ _ ((fJ (h.all b mb hm).2).1 hp)
theorem iz.S9 {bs:List FM} {k:Nat} (h:iz w k bs) (hk:k=b+1) (hm:bs[0]? =some mb) (hp:p∈mb):p∈back w (b+1):=by
 subst hk
 exact (h.all 0 mb hm).1.1 _ _ ((fJ (h.all 0 mb hm).2).1 hp)
theorem iz.end_ {bs:List FM} {k j:Nat} (h:iz w k bs) (hj:bs.length=0) (hk:j=b) (hb:w.n≤b):iz w j ([(⟨0,0⟩,w.gd)]::bs):=by
 subst hk
 rw [ir hj]
 exact iz.last hb
theorem iz.more {bs:List FM} {k j:Nat} (h:iz w k bs) (hk:k=b+1) (hj:j=b) (hb:b<w.n) (hmb:bs[0]? =some mb) (hm:v_ w b m) (hd:jR w b mb m left) (h0:left=[]):iz w j (m::bs):=by
 subst hk hj
 exact h.add hb hmb hm hd h0
end
section
open Go.RowKit
theorem jx {a:OA} {c e sz n:Nat} {es:List (List Value)} (h:es.length=n):Hu (own a c e sz es) (rd a n sz es):=by subst h; exact K1
theorem qS {L:List aw}:Hu (cd L) (d_ L):=⟨fun w h=>h.1,fun b h=>h⟩
theorem Er {b:Nat} {fb:List Nat} {g:Nat} (h:fb.length=b):bw pM (List.replicate b ([]:TM)) fb++[kh iV g (cR jY [])]=bw pM (List.replicate (b+1) ([]:TM)) (fb++[g]):=by
 rw [List.replicate_succ']
 exact zb (by rw [List.length_replicate]; exact h.symm) U
theorem P8 {α:Type} {ms:List α} {fb:List Nat} {n:Nat} (h:fb.length=n) (h2:ms.length=n):List.map oC (dB fb n)=List.zipWith gE ms fb:=by
 rw [yD h]; exact (z_ I).symm
theorem ko {l:bj} {r:cD} {i:Nat} {x:aG} (hx:r.ab[i]? =some x) (h: ¬ hO l r.ab i x): ¬ eh l r:=fun q=>h (q.sig i x hx)
end
section
open Go.RowKit
theorem pk:uU Tryz.prog 158 eu:=MD MH (fun x y w=>Ox 9998 x y w) (fun x y h=>by cases x; cases y; simp [aD.cells] at h; simp [h]) (fun x=>by simp [aD.cells,Instr.sameBits]) (fun x w=>⟨_,rfl,fun p hp=>by
 simp only [bR,List.not_mem_nil,or_false] at hp
 rcases hp with rfl|rfl
 ·exact ⟨⟨_,gY cq U w⟩,_,s9⟩
 ·exact ⟨⟨_,gY cq U w⟩,_,s9⟩⟩)
theorem Ih (s:Int):
 dH Tryz.prog 74 [(vI s)] [] (vA (aD.cells (fB s))):=by
 refine bH kr Tryz.func74 U U fun H Q hQ hN=>?_
 try dsimp only
 refine WS fun _ B=>AL U tg fun G=>RK B<|ao fun _ C=>WS fun _ D=>rP 2 [] mn ?_
 refine RK D<|cH U (aV fun A=>?_) (aW fun A=>?_)
 ·refine WS fun _ E=>rS (SX (bf (xs:=[(1,.const (vI 1))]) (cs:=(aD.cells (aD.mk 0 1))) U U (bg AF U)) U U)<|fK U sB U<|RK E<|ar<|Cs hQ [0] (mc 0 U mn) U ?_
  unfold fB; first|rw [if_pos A]|rw [if_neg A]
 refine WK C<|WS fun _ F=>rS (SX (bf (xs:=[(0,.const (vI 1))]) (cs:=(aD.cells (aD.mk 1 0))) U U (bg AF U)) U U)<|fK U sB U<|RK F<|ar<|Cs hQ [0] (mc 0 U mn) U ?_
 unfold fB; first|rw [if_pos A]|rw [if_neg A]
theorem wi (x:aD) (y:aD) (hx:(0≤x.right∧x.right≤1000)∧0≤x.eQ∧x.eQ≤1000) (hy:(0≤y.right∧y.right≤1000)∧0≤y.eQ∧y.eQ≤1000):
 dH Tryz.prog 73 [(vA (aD.cells x)),(vA (aD.cells y))] [] (vA (aD.cells (dF x y))):=by
 refine bH kr Tryz.func73 U U fun F Q hQ hN=>?_
 try dsimp only
 refine WS fun _ A=>eK U fun C=>eK U fun D=>AL U tg fun E=>RK A<|WS fun _ B=>rP 10 [0,1,0,1] (mc 2 U (mc 1 U mn)) ?_
 refine rS (SX (bf (xs:=[(0,.tmp 9),(1,.tmp 14)]) (cs:=(aD.cells (aD.mk (x.right+y.right) (x.eQ+y.eQ)))) U U (bg AF U)) U U)<|fK U sB U<|RK B<|ar ?_
 exact Cs hQ [0] (mc 0 U mn) U U
theorem MS (ln:bT) (ri:cU) (e:List Int) (tms:List TM) (e_A:OA) (e_C:Nat) (tb:List Nat) (t_A:OA) (t_C:Nat) (fs:List FM) (bs:List FM) (fb:List Nat) (f_A:OA) (f_C:Nat) (bb:List Nat) (b_A:OA) (b_C gw:Nat) (x:aD) (hx:(0≤x.right∧x.right≤1000)∧0≤x.eQ∧x.eQ≤1000) (hn:ri.ab.n≤1000):
 dH Tryz.prog 72 [(vP gw),(vA (aD.cells x))] [(rd e_A e.length 1 (e.map iC)),(rd t_A tms.length 1 (List.zipWith gE tms tb)),(d_ (bw pM tms tb)),(rd f_A fs.length 1 (List.zipWith gE fs fb)),(d_ (bw mY fs fb)),(rd b_A bs.length 1 (List.zipWith gE bs bb)),(d_ (bw mY bs bb)),(cw gw 150 (b_.cells (b_.mk ln ri (aR.mk e_A e.length e_C) (aR.mk t_A tms.length t_C) (aR.mk f_A fs.length f_C) (aR.mk b_A bs.length b_C))))] (vB (kP (cS ln ri e tms) x)):=by
 refine bH kr Tryz.func72 U U fun E Q hQ hN=>?_
 try dsimp only
 refine WS fun _ C=>eK U fun D=>bI 1 U<|RK C<|ao fun _ B=>dw cx 26 kr<|lU 3 [] (mc 0 U mn) U<|dS (SX (cQ U U) U U)<|dP 5 [] (mr 8 U mn) ?_
 refine jM (t:=13) U (aW fun A=>?_) (aV fun A=>?_)
 ·refine dP 17 [] mn ?_
  refine cK<|RK B<|ar<|Q1 hQ U U U ?_
  exact cB (bx (fun h=>A h.1)).symm
 refine k7 1 U<|dS (SX (cQ U U) U U)<|lU 8 [0,1] (mr 8 U (mc 0 U mn)) U<|dS (SX (cQ U U) U U)<|dP 6 [] (mr 8 U mn) ?_
 refine cK<|RK B<|ar<|Q1 hQ U U U ?_
 exact cB (fu.2 ⟨fun h=>⟨A,h⟩,fun h=>h.2⟩)
end
section
open Go.RowKit
theorem vc (ln:bT) (ri:cU) (e:List Int) (tms:List TM) (e_A:OA) (e_C:Nat) (tb:List Nat) (t_A:OA) (t_C:Nat) (fs:List FM) (bs:List FM) (fb:List Nat) (f_A:OA) (f_C:Nat) (bb:List Nat) (b_A:OA) (b_C gw:Nat) (hw:GH (cS ln ri e tms)) (hsg:ri.ab.n≤1000) (hn:ln.aa.n=e.length) (hfw:vy (cS ln ri e tms) fs) (hfb:fb.length=fs.length):
 rU Tryz.prog 46 [(vP gw)] [(rd e_A e.length 1 (e.map iC)),(rd t_A tms.length 1 (List.zipWith gE tms tb)),(d_ (bw pM tms tb)),(rd f_A fs.length 1 (List.zipWith gE fs fb)),(d_ (bw mY fs fb)),(rd b_A bs.length 1 (List.zipWith gE bs bb)),(d_ (bw mY bs bb)),(cw gw 150 (b_.cells (b_.mk ln ri (aR.mk e_A e.length e_C) (aR.mk t_A tms.length t_C) (aR.mk f_A fs.length f_C) (aR.mk b_A bs.length b_C))))] (fun (x:(OA)×Nat)=>(vS x.1 ((ic (cS ln ri e tms)).length) x.2)) (fun (x:(OA)×Nat)=>True) (fun (x:(OA)×Nat)=>[(own x.1 x.2 3 1 ((ic (cS ln ri e tms)).map iC))]):=by
 have y:e.length≤6:=hw.n
 have u:fs.length=e.length+1:=hfw.len
 refine gp kr Tryz.func46 U U fun w0 Q hQ hN=>?_
 try dsimp only
 refine WS fun _ X=>bI 1 U<|RK X<|WS fun _ Y=>bI 1 U<|RK Y<|ao fun _ Z=>WS fun _ b=>bI 1 U<|rS (SX (cQ U U) U U)<|rP 6 [] (mr 7 U mn) ?_
 refine RK b<|aF<|eL 3 1 ?_
 have A:(0≤e.length+1):=by exact Nat.zero_le _
 refine bZ (ι:={z:Nat×(OA)×Nat // (z.1≤e.length+1)}) [0,12] [1,2,3,4,5,6,7,8] U U (fun z=>[(3,(vS z.1.2.1 ((kI (cS ln ri e tms) z.1.1).length) z.1.2.2)),(13,(vI (z.1.1:Int)))]) (fun z=>[(own z.1.2.1 z.1.2.2 3 1 ((kI (cS ln ri e tms) z.1.1).map iC))]) (fun _=>rfl) (fun _=>rfl) (fun z=>e.length+1-z.1.1) ⟨(0,none,0),A⟩ (bE U) (aU [1,2,3,4,5,6,7,8,0]) ?_
 clear A
 rintro ⟨⟨n,a,c⟩,G⟩ J5 AB
 try dsimp only at G
 try dsimp only
 refine WS fun _ d=>rP 1 [] mn ?_
 refine RK d<|ao fun _ g=>bV U (aW fun s=>?_) (aV fun s=>?_)
 ·refine bQ<|ai<|ai<|aI<|KK Z<|WS fun _ P=>?_
  rw [show kI (cS ln ri e tms) n=ic (cS ln ri e tms) by (obtain rfl:n=e.length+1:=by omega); rfl]
  refine rP 2 [] mn ?_
  refine RK P<|ar<|LX hQ (a,c) [8] [] mn U U U U ?_
  trivial
 refine WK g<|ao fun _ R=>aF<|WS fun _ J=>bI 2 U<|RK J<|WS fun _ K=>bI 1 U<|rS (SX (cQ U U) U U)<|rP 3 [] (mr 7 U mn) ?_
 obtain ⟨m,B⟩:=aM fs n I
 obtain ⟨ma,hm0a⟩:=aM fb n I
 have hm0m:(List.zipWith gE fs fb)[n]? =some (gE m ma):=er B hm0a
 refine rS (IA n U (aA 3 U) ov dc I I)<|rS (iK n 0 (Value.map (some ma)) U cq (aA 3 U) hm0m U dc U)<|p9 (kV:=eu) (m:=cR iV m) 4 U U o8 U ⟨⟨(kh eu ma (cR iV m)),(bW B hm0a (by simp [mY])),U⟩,fun h=>h⟩ (show js _ (kh eu ma (cR iV m)).holds from df 4 U (bW B hm0a (by simp [mY]))) U fun l=>?_
 try dsimp only
 refine RK K<|aF ?_
 have A:(∀ p∈m,p∈m)∧(∀ p∈m,p∈m∨kP (cS ln ri e tms) p.1=false):=by exact ⟨fun p hp=>hp,fun p hp=> .inl hp⟩
 refine bZ (ι:={z:FM // (∀ p∈z,p∈m)∧(∀ p∈m,p∈z∨kP (cS ln ri e tms) p.1=false)}) [0,3,4,12,13,23] [1,2,3,4,5,6,7,8,9] U U (fun z=>[]) (fun z=>[(Cr eu l ma (cR iV m) (cR iV z.1) none)]) (fun _=>rfl) (fun _=>rfl) (fun z=>z.1.length) ⟨m,A⟩ (dG.nil _) (aU [1,2,3,4,5,6,7,8,9,0]) ?_
 clear A
 rintro ⟨left,⟨C,D⟩⟩ J13 H
 try dsimp only
 refine WS fun _ F=>oF pk.inj (f:=iV) 9 U U U U (fun W=>?_) (fun t v hm i=>?_)
 ·refine bI 1 U<|RK F<|ao fun _ o=>cp U<|bQ<|ai<|ai<|aI<|aN<|KK R<|av<|rP 2 [] mn ?_
  refine aH ?_
  rw [← FH (w:=(cS ln ri e tms)) (k:=n) ((B0 (hfw.min _ _ B) (hfw.keys _ _ B)).symm.trans (Hp D W))]
  have S:(vI (((n+1):Nat):Int))=(vI ((n:Int)+1)):=by exact cI I
  refine bp (AB ⟨((n+1),a,c),(by first|omega|(simp only []; omega))⟩ _ _ _ U os (cY 3<|bk U S<|dG.nil _) (aU [0,1,2,3,4,5,6,7,8]))
 try dsimp only
 refine bI 1 U<|RK F<|ao fun _ L=>aS U<|WK L<|aF<|WS fun _ M=>rS (SX (oh 9 U U U) U U)<|bI 1 U<|AL U tg fun q=>fK U sB U<|RK M<|WS fun _ N=>rP 2 [] (mc 0 U mn) ?_
 have j:=Hf hw _ _ (hfw.mem B (C _ hm))
 dsimp only at j
 refine rS (CL (MS ln ri e tms e_A e_C tb t_A t_C fs bs fb f_A f_C bb b_A b_C gw t I hsg) (bq [1,2,3,4,5,6,7,8]) U)<|RK N<|bV U (fun E=>?_) (fun E=>?_)
 ·refine ct<|aN<|ry 10 U py U ?_
  refine bp (H ⟨(eY left t),⟨mA C,Kc i hm D (by first|exact E|simpa using E)⟩⟩ _ _ _ U (mH hm) (bE U) (aU [1,2,3,4,5,6,7,8,9,10]))
 refine WS fun _ O=>rP 2 [] mn ?_
 refine ew (xs:=[.tmp 32]) (cs:=[(vI (n:Int))]) U dD kl U U U U (by simp [Value.cells]) U U fun r=>?_
 have hy:jK (cS ln ri e tms) (fwd (cS ln ri e tms) n)=true:=(B0 (hfw.min _ _ B) (hfw.keys _ _ B)).symm.trans (L7 (C _ hm) E)
 refine fF (es2:=(List.map iC (kI (cS ln ri e tms) (n+1)))) (m':=(kI (cS ln ri e tms) (n+1)).length) 10 U U U tx U U sm (bo (es:=List.map iC [(n:Int)]) 0 U U (by simp [bO]) U) (lW _) (by have:=sI (w:=(cS ln ri e tms)) (k:=n); first|omega|(simp; omega)) (by have:=sI (w:=(cS ln ri e tms)) (k:=n); simp only [maxLen]; omega) (by rw [Dz hy]; simp) sm U fun AA V=>?_
 try dsimp only
 refine bI 1 U<|RK O<|bQ<|e_ U<|ai<|aI<|aN<|KK R<|av<|rP 2 [] mn ?_
 refine aH ?_
 have T:(vI (((n+1):Nat):Int))=(vI ((n:Int)+1)):=by exact cI I
 refine bp (AB ⟨((n+1),AA,V),(by first|omega|(simp only []; omega))⟩ _ _ _ U os (cY 3<|bk U T<|dG.nil _) (aU [2,3,4,5,6,7,8,9,10]))
end
section
open Go.RowKit
theorem JV (n lo hi:Int) (g1 g2:Nat):
 dH Tryz.prog 69 [(vI n),(vP g1),(vP g2)] [(cw g1 3 [(vI lo)]),(cw g2 3 [(vI hi)])] (vB (decide (n<lo∨hi<n))):=by
 refine bH kr Tryz.func69 U U fun D Q hQ hN=>?_
 try dsimp only
 refine WS fun _ B=>bI 1 U<|RK B<|WS fun _ A=>rP 4 [] (mr 0 U mn) ?_
 refine cg (t:=8) U (aV fun C=>?_) (aW fun C=>?_)
 ·refine rP 5 [] mn ?_
  refine RK A<|ar<|Q1 hQ U U U ?_
  exact cB (c8 I).symm
 refine rP 5 [] (mr 1 U mn) ?_
 refine RK A<|ar<|Q1 hQ U U U ?_
 exact cB (fu.2 I)
theorem il (lo hi:Int) (l:List Int) (lA:OA) (lC:Nat) (hlen:l.length≤1000000):
 dH Tryz.prog 44 [(vI lo),(vI hi),(vS lA l.length lC)] [(rd lA l.length 1 (l.map iC))] (vB (qw lo hi l)):=by
 refine bH kr Tryz.func44 U U fun F Q hQ hN=>?_
 try dsimp only
 refine WS fun _ D=>wu U U fun A=>wu U U fun B=>bI 1 U<|RK D<|WS fun _ E=>rP 1 [] mn ?_
 refine rS (FU U) ?_
 refine rS (CL (pO l lA lC (Value.func (.func 69) [].toArray [(vP A),(vP B)].toArray) (fun C=>(decide (C<lo∨hi<C))) (d_ [(cw A 3 [(vI lo)]),(cw B 3 [(vI hi)])]) (by intro C _; exact lf (fi:=[]) (ca:=[(vP A),(vP B)]) (jX (JV C lo hi A B) (bq [0,1]))) hlen) (g_ 2 U U<|aJ (jT (bq [1,0]))<|aK) U) ?_
 refine rP 2 [] mn ?_
 refine RK E<|ar ?_
 exact Q1 hQ U U U U
theorem SL (n d:Int) (hd:2≤d):
 dH Tryz.prog 65 [(vI n),(vI d)] [] (vI (P2 n d)):=by
 refine bH kr Tryz.func65 U U fun C Q hQ hN=>?_
 try dsimp only
 refine WS fun _ A=>bI 1 U<|RK A<|WS fun _ B=>bI 2 U<|rS (BI U Oq)<|rS (BI U IY)<|bI 1 U<|rS (BI U (Oj I (O9 (PM _) hd)))<|rP 1 [] mn ?_
 refine RK B<|ar ?_
 exact Q1 hQ U U U U
theorem Iw (n d:Int) (hd:1≤d∧d≤1000000) (hn:0≤n∧n≤1000000000000000):
 dH Tryz.prog 65 [(vI n),(vI d)] [] (vI (oZ n d)):=by
 refine bH kr Tryz.func65 U U fun C Q hQ hN=>?_
 try dsimp only
 refine WS fun _ A=>bI 1 U<|RK A<|WS fun _ B=>bI 5 U<|rS (BI U (uk I I I))<|rP 1 [] mn ?_
 refine RK B<|ar ?_
 exact Q1 hQ U U U U
theorem El (c:ax) (sA:OA) (sC:Nat) (at_:Int) (hc:eX c) (ha:0≤at_∧at_≤90000000):
 dH Tryz.prog 97 [(vA (dE.cells (dE.mk c.dC (aR.mk sA c.bJ.length sC)))),(vI at_)] [(rd sA c.bJ.length 3 (c.bJ.map cW.cells))] (vA (ag.cells (iQ c at_))):=by
 have X:=hc.len
 have J:=hc.sx
 refine bH kr Tryz.func97 U U fun e Q hQ hN=>?_
 try dsimp only
 refine WS fun _ M=>eK U fun b=>AL U ed fun d=>RK M<|WS fun _ N=>rS (SX (bf (xs:=[(0,.const (vI (-1099511627776))),(1,.const (vI 1099511627776))]) (cs:=(ag.cells (ag.mk (-1099511627776) 1099511627776))) U U (bg gZ U)) U U)<|AL U ed fun W=>fK U c_ U<|RK N<|ao fun _ O=>ao fun _ P=>?_
 have R:(ag.cells (ag.mk (-1099511627776) 1099511627776))=(ag.cells (gP c at_ 0)):=by rfl
 rw [R]
 refine av<|rP 4 [] (mc 2 U mn) ?_
 refine RK P<|aF ?_
 have A:(0≤c.bJ.length):=by exact Nat.zero_le _
 refine bZ (ι:={z:Nat // (z≤c.bJ.length)}) [1,2,4,5,11,12] [1,2,3] U U (fun z=>[(13,(vI (z.1:Int)))]) (fun z=>[(cw W 53 (ag.cells (gP c at_ z.1)))]) (fun _=>rfl) (fun _=>rfl) (fun z=>c.bJ.length-z.1) ⟨0,A⟩ (bE U) (aU [1,2,3,0]) ?_
 clear A
 rintro ⟨i,S⟩ J9 L
 try dsimp only
 refine WS fun _ B=>rP 1 [] mn ?_
 refine RK B<|ao fun _ C=>bV U (aW fun K=>?_) (aV fun K=>?_)
 ·refine bQ<|ai<|ai<|aI<|KK O<|WS fun _ G=>rP 1 [] (mc 3 U mn) ?_
  refine fK U c_ U<|RK G<|ar<|Cs hQ [0] (mc 0 U mn) U ?_
  rw [nS (show c.bJ.length≤i by omega)]
 refine WK C<|ao fun _ D=>aF<|WS fun _ E=>?_
 obtain ⟨x,hx⟩:=aM c.bJ i I
 have AA:=bP cW.cells hx
 refine rS (IA i U (aA 2 U) yq dc I I)<|rS (lQ i 0 (cW.cells x) U cq (aA 2 U) AA U dc U U)<|AL U yk fun V=>fK U zL U<|RK E<|WS fun _ F=>rP 5 [0,1] (mc 2 U (mc 0 U mn)) ?_
 have T:=hc.uT hx
 have Z:=BT hc ha i
 have Y:=Ev J ha (show 0≤x.At∧x.At≤90000000 by omega)
 refine e7 5 [] (mc 0 U mn) U<|rS (MX U)<|rS (BI U (qs ⟨I,I⟩))<|rS (CL (Iw (c.dC*(max (at_-x.At) (x.At-at_))) 1000000 I I) (aK) U)<|bI 1 U<|RK F<|av<|rP 6 [0,1] (mc 4 U (mc 0 U mn)) ?_
 have a:0≤oZ (c.dC*max (at_-x.At) (x.At-at_)) 1000000∧oZ (c.dC*max (at_-x.At) (x.At-at_)) 1000000≤90001:=uZ J ha T.1
 refine bI 1 U<|rS (MX U)<|rP 7 [0,1] (mc 4 U (mc 0 U mn)) ?_
 refine rS (MN U)<|rS (SX (bf (xs:=[(0,.tmp 37),(1,.tmp 45)]) (cs:=(ag.cells (ag.mk (max ((gP c at_ i).Lo) (x.eD.Lo-(oZ (c.dC*(max (at_-x.At) (x.At-at_))) 1000000))) (min ((gP c at_ i).Hi) (x.eD.Hi+(oZ (c.dC*(max (at_-x.At) (x.At-at_))) 1000000)))))) U U (bg gZ U)) U U)<|PH U c_ U<|aH<|aN<|KK D ?_
 have H:(ag.cells (ag.mk (max ((gP c at_ i).Lo) (x.eD.Lo-(oZ (c.dC*(max (at_-x.At) (x.At-at_))) 1000000))) (min ((gP c at_ i).Hi) (x.eD.Hi+(oZ (c.dC*(max (at_-x.At) (x.At-at_))) 1000000)))))=(ag.cells (gP c at_ (i+1))):=by rw [j7 hx]; rfl
 rw [H]
 refine av<|rP 2 [] mn ?_
 refine aH ?_
 have AB:(vI (((i+1):Nat):Int))=(vI ((i:Int)+1)):=by exact cI I
 refine bp (L ⟨(i+1),(by first|omega|(simp only []; omega))⟩ _ _ _ U os (cY 6<|bk U AB<|dG.nil _) (aU [1,2,3,4]))
theorem ON (c:ax) (sA:OA) (sC:Nat) (hlen:c.bJ.length≤1000000) (hcap:c.bJ.length≤sC):
 dH Tryz.prog 110 [(vA (dE.cells (dE.mk c.dC (aR.mk sA c.bJ.length sC))))] [(rd sA c.bJ.length 3 (c.bJ.map cW.cells))] (vB (decide (eX c))):=by
 refine bH kr Tryz.func110 U U fun w0 Q hQ hN=>?_
 try dsimp only
 refine WS fun _ BF=>eK U fun b2=>bI 1 U<|RK BF<|Aa U<|ao fun _ B3=>WS fun _ q=>rP 2 [] (mc 0 U mn) ?_
 refine ew (xs:=[.tmp 11]) (cs:=[(vI c.dC)]) U dD kl U U U U (by simp [Value.cells]) U U fun b5=>?_
 refine rS (CL (dH.eq (il 0 1000 ([c.dC]) (some ⟨b5,0,none⟩) 1 (by (simp; done))) cz) (aJ (bo 0 U U (by simp [bO]) U)<|aK) U) ?_
 refine rP 2 [] mn ?_
 refine cg (t:=15) U (bu fun AB=>?_) (br fun AB=>?_)
 ·refine bI 7 U<|RK q<|aS U<|WS fun _ B9=>rP 1 [] mn ?_
  refine RK B9<|ar<|Q1 hQ U U U ?_
  exact cB (bx fun h=>AB h.sx).symm
 refine rP 3 [] (mc 1 U mn) ?_
 refine ew (xs:=[.tmp 18]) (cs:=[(vI (c.bJ.length:Int))]) U dD kl U U U U (by simp [Value.cells]) U U fun b7=>?_
 refine rS (CL (dH.eq (il 1 5 ([(c.bJ.length:Int)]) (some ⟨b7,0,none⟩) 1 (by (simp; done))) cz) (aJ (bo 0 U U (by simp [bO]) U)<|aK) U) ?_
 refine rP 2 [] mn ?_
 refine RK q<|cH U (bu fun O=>?_) (br fun O=>?_)
 ·refine WS fun _ CM=>rP 1 [] mn ?_
  refine RK CM<|ar<|Q1 hQ U U U ?_
  exact cB (bx fun h=>O (by have:=h.len; omega)).symm
 refine WK B3<|WS fun _ Ci=>bI 1 U<|RK Ci<|WS fun _ R=>bI 1 U<|RK R<|ao fun _ S=>zY<|KK S<|ao fun _ K=>WS fun _ T=>rP 4 [] (mc 2 U mn) ?_
 refine RK T<|aF ?_
 have B:(0≤c.bJ.length)∧(sS c 0):=by exact ⟨Nat.zero_le _,Ff⟩
 have r:(vI (kH c 0))=(vI (-1)):=by rw [gT rfl]
 refine bZ (ι:={z:Nat // (z≤c.bJ.length)∧(sS c z)}) [1,2,4,24,25] [2,3] U U (fun z=>[(3,(vI (kH c z.1))),(26,(vI (z.1:Int)))]) (fun z=>[]) (fun _=>rfl) (fun _=>rfl) (fun z=>c.bJ.length-z.1) ⟨0,B⟩ (bk U r<|bE U) (aU [2,3]) ?_
 clear B
 rintro ⟨i,⟨L,C⟩⟩ J15 P
 try dsimp only
 have Di: -1≤kH c i∧kH c i≤86400000:=N0 L C
 refine WS fun _ AA=>rP 1 [] mn ?_
 refine RK AA<|ao fun _ V=>bV U (aW fun A5=>?_) (aV fun A5=>?_)
 ·refine bQ<|ai<|ai<|aI<|KK K<|WS fun _ f=>rP 2 [] mn ?_
  refine RK f<|ar<|Q1 hQ U U U ?_
  exact cB (c8 (FF AB I (by have e:i=c.bJ.length:=I; rw [← e]; exact C))).symm
 refine WK V<|ao fun _ W=>aF<|WS fun _ X=>rP 1 [] mn ?_
 obtain ⟨x,hx⟩:=aM c.bJ i I
 have Cx:=bP cW.cells hx
 refine rS (IA i U (aA 1 U) yq dc I I)<|rS (lQ i 0 (cW.cells x) U cq (aA 1 U) Cx U dc U U)<|AL U yk fun C0=>rP 1 [] mn ?_
 refine fK U zL U<|RK X ?_
 refine oi (ι:=Unit) [1,2,3,5,6,24,25,26] [0,1,2] U U (fun z=>[(4,(vB (decide (fE c i x))))]) (fun z=>[]) (fun _=>rfl) (fun _=>rfl) ?_ fun K22 G=>?_
 ·intro _
  try dsimp only
  refine ao fun _ Y=>WS fun _ Z=>e7 3 [] (mc 1 U mn) U<|rS (Ux i U yq I I)<|rP 2 [] mn ?_
  refine RK Z<|aF ?_
  have B:(0≤i)∧((decide (fE c i x))=(decide (mo c i x 0))):=by exact ⟨Nat.zero_le _,fu.2 C9.symm⟩
  refine bZ (ι:={z:Nat×Bool // (z.1≤i)∧(z.2=(decide (mo c i x z.1)))}) [1,2,3,5,6,24,25,26,59,60] [0,1,2] U U (fun z=>[(4,(vB z.1.2)),(61,(vI (z.1.1:Int)))]) (fun z=>[]) (fun _=>rfl) (fun _=>rfl) (fun z=>i-z.1.1) ⟨(0,(decide (fE c i x))),B⟩ (bE U) (aU [0,1,2]) ?_
  clear B
  rintro ⟨⟨k,b⟩,⟨M,A⟩⟩ J25 F
  try dsimp only at M A
  try dsimp only
  refine WS fun _ a=>rP 1 [] mn ?_
  refine RK a<|ao fun _ d=>bV U (aW fun A7=>?_) (aV fun A7=>?_)
  ·refine bQ<|ai<|ai<|aI<|KK Y<|ao fun _ m=>WS fun _ n=>rP 2 [] mn ?_
   refine RK n<|cH U (fun D=>?_) (fun D=>?_)
   ·rw [Bool.not_eq_true'] at D
    refine bQ<|ai<|e_ U<|ai<|ai<|aI<|KK K<|WS fun _ p=>rP 2 [] mn ?_
    refine RK p<|ar<|Q1 hQ U U U ?_
    exact cB (by have e:k=i:=I; rw [e] at A; rw [D] at A ⊢; exact (bx (Jx hx (of_decide_eq_false A.symm))).symm)
   rw [Bool.not_eq_false'] at D
   refine WK m<|av<|e7 3 [] (mc 0 U mn) U<|aH<|aN<|KK W<|av<|rP 2 [] mn ?_
   refine aH ?_
   have Ak:(vB true)=(vB b):=by exact cB D.symm
   have A0:(vI (kH c (i+1)))=(vI x.At):=by rw [oI hx]
   have A1:(vI (((i+1):Nat):Int))=(vI ((i:Int)+1)):=by exact cI I
   refine bp (P ⟨(i+1),⟨I,Gx C hx (by have e:k=i:=I; rw [e] at A; exact of_decide_eq_true (A.symm.trans D))⟩⟩ _ _ _ U os (dG.cons U<|dG.cons U<|bk U Ak<|dG.cons U<|dG.cons U<|bk U A0<|bk U A1<|dG.nil _) (aU [1,2]))
  refine WK d<|ao fun _ H=>aF<|WS fun _ g=>?_
  obtain ⟨o,ho⟩:=aM c.bJ k I
  have Ck:=bP cW.cells ho
  refine rS (Us k U (aA 2 U) yq dc I I I)<|rS (lQ k 0 (cW.cells o) U cq (aA 2 U) Ck U dc U U)<|AL U yk fun C1=>fK U zL U<|RK g<|WS fun _ l=>e7 6 [0,1,2] (mc 2 U (mc 1 U (mc 0 U mn))) U<|rS (BI U IY)<|rS (BI U Pg)<|rS (CL (SL (Am (c.dC*(Am (x.At-o.At)))) 1000000 I) (aK) U)<|bI 1 U<|RK l<|av<|rP 2 [] mn ?_
  refine cM (t:=75) U (fun J=>?_) (fun J=>?_)
  ·refine bI 6 U<|bI 16 U<|aH<|aN<|KK H<|av<|rP 2 [] mn ?_
   refine aH ?_
   have AO:(vI (((k+1):Nat):Int))=(vI ((k:Int)+1)):=by exact cI I
   refine bp (F ⟨((k+1),false),⟨I,by exact (bx fun h=>by have h2:=((sY ho).1 h).1; rw [A] at J; exact absurd (c8 h2) (by rw [J]; decide)).symm⟩⟩ _ _ _ U os (cY 11<|bk U AO<|dG.nil _) (aU [1,2,3]))
  refine rP 6 [0,1] (mc 1 U (mc 0 U mn)) ?_
  have A2:mo c i x k:=of_decide_eq_true (A.symm.trans J)
  obtain ⟨Cp,Do,EP⟩:=uN (fun j y hj hy=>(C j y hj hy).1) hx A2.1 I ho
  have N:=LL AB Cp
  refine rP 5 [] mn ?_
  refine cM (t:=86) U (aW fun E=>?_) (aV fun E=>?_)
  ·refine bI 11 U<|aH<|aN<|KK H<|av<|rP 2 [] mn ?_
   refine aH ?_
   have AC:(vI (((k+1):Nat):Int))=(vI ((k:Int)+1)):=by exact cI I
   refine bp (F ⟨((k+1),false),⟨I,by exact (bx fun h=>by have h2:=((sY ho).1 h).2; rw [N] at E; exact E h2.1).symm⟩⟩ _ _ _ U os (cY 11<|bk U AC<|dG.nil _) (aU [1,2,3]))
  refine e7 11 [0,1] (mc 0 U (mc 1 U mn)) U<|aH<|aN<|KK H<|av<|rP 2 [] mn ?_
  refine aH ?_
  have w:(vI (((k+1):Nat):Int))=(vI ((k:Int)+1)):=by exact cI I
  refine bp (F ⟨((k+1),(decide ((o.eD.Lo-x.eD.Hi)≤(P2 (Am (c.dC*(Am (x.At-o.At)))) 1000000)))),⟨I,by exact fu.2 (by rw [sY ho,N]; rw [N] at E; exact ⟨fun h=>⟨A2,E,h⟩,fun h=>h.2.2⟩)⟩⟩ _ _ _ U os (cY 11<|bk U w<|dG.nil _) (aU [1,2,3]))
 refine av<|rP 4 [] (mc 0 U mn) ?_
 refine ew (xs:=[.tmp 34]) (cs:=[(vI x.At)]) U dD kl U U U U (by simp [Value.cells]) U U fun A3=>?_
 refine rS (CL (dH.eq (il ((kH c i)+1) 86400000 ([x.At]) (some ⟨A3,0,none⟩) 1 (by (simp; done))) cz) (aJ (bo 0 U U (by simp [bO]) U)<|aK) U) ?_
 refine rP 1 [] mn ?_
 refine cM (t:=37) U (aW fun A8=>?_) (aV fun A8=>?_)
 ·refine rP 19 [] mn ?_
  refine aH ?_
  have v:(decide (fE c i x))=false:=bx (by unfold fE; omega)
  refine bp (jV (cY 8<|n8 U v<|dG.nil _) (aU [1,2,3]) (G ()))
 refine rP 6 [] (mc 1 U mn) ?_
 refine ew (xs:=[.tmp 40,.tmp 43]) (cs:=[(vI x.eD.Lo),(vI x.eD.Hi)]) U dD kl U U U U (by simp [Value.cells]) U U fun A4=>?_
 refine rS (CL (dH.eq (il (-10000) 10000 ([x.eD.Lo,x.eD.Hi]) (some ⟨A4,0,none⟩) 2 (by (simp; done))) o5) (aJ (bo 0 U U (by simp [bO]) U)<|aK) U) ?_
 refine rP 2 [] mn ?_
 refine cM (t:=47) U (aW fun A9=>?_) (aV fun A9=>?_)
 ·refine rP 9 [] mn ?_
  refine aH ?_
  have u:(decide (fE c i x))=false:=bx (by unfold fE; omega)
  refine bp (jV (cY 8<|n8 U u<|dG.nil _) (aU [2,3,4]) (G ()))
 refine rP 9 [] (mc 2 U mn) ?_
 refine aH ?_
 have s:(decide (fE c i x))=(decide (x.eD.Lo≤x.eD.Hi)):=fu.2 (by unfold fE; omega)
 refine bp (jV (cY 8<|n8 U s<|dG.nil _) (aU [2,3,4]) (G ()))
theorem Rj (ms:List ax) (az:List RA) (k:Nat) (m:ax) (a:RA) (hm:ms[k]? =some m) (ha:az[k]? =some a) (hc:m.bJ.length≤a.2∧m.bJ.length≤1000000):
 dH Tryz.prog 109 [(vA (dE.cells (dE.mk m.dC (aR.mk a.1 m.bJ.length a.2))))] [(d_ (bw ax.gL ms az))] (vB (!(decide (eX m)))):=by
 obtain ⟨C,D⟩:=hc
 refine bH kr Tryz.func109 U U fun F Q hQ hN=>?_
 try dsimp only
 refine WS fun _ A=>eK U fun E=>bI 1 U<|RK A<|WS fun _ B=>e7 1 [] (mc 0 U mn) U<|rS (CL (ON m a.1 a.2 asm asm) (aJ (show js _ (rd a.1 m.bJ.length 3 (m.bJ.map cW.cells)).holds from (df 1 U (bW hm ha (by simp [ax.gL]))))<|aK) U)<|rP 2 [] mn ?_
 refine RK B<|ar ?_
 exact Q1 hQ U U U U
theorem Fz (l:List ax) (az:List RA) (lA:OA) (lC:Nat) (f:Value) (p:ax→Bool) (X:aw) (hf: ∀ (k:Nat) m a,l[k]? =some m→az[k]? =some a→CR Tryz.prog f [.agg (ax.cells m a).toArray] [X] (.bool (p m))) (hlen:l.length≤1000000) (has:az.length=l.length):
 dH Tryz.prog 130 [(vS lA l.length lC),f] [(rd lA l.length 2 (List.zipWith ax.cells l az)),(d_ (bw ax.gL l az)),X] (vI (sD p l)):=by
 refine bH kr Tryz.func130 U U fun T Q hQ hN=>?_
 try dsimp only
 refine WS fun _ AA=>bI 1 U<|RK AA<|ao fun _ J=>WS fun _ K=>rP 3 [] mn ?_
 refine RK K<|aF ?_
 have B:(0≤l.length)∧((l.take 0).any p=false):=by simp
 refine bZ (ι:={z:Nat // (z≤l.length)∧((l.take z).any p=false)}) [0,1,7] [0,1,2] U U (fun z=>[(8,(vI (z.1:Int)))]) (fun z=>[]) (fun _=>rfl) (fun _=>rfl) (fun z=>l.length-z.1) ⟨0,B⟩ (bE U) (aU [0,1,2]) ?_
 clear B
 rintro ⟨i,⟨P,A⟩⟩ J4 H
 try dsimp only
 refine WS fun _ L=>rP 1 [] mn ?_
 refine RK L<|ao fun _ M=>bV U (aW fun S=>?_) (aV fun S=>?_)
 ·refine bQ<|ai<|ai<|aI<|KK J<|WS fun _ E=>rP 1 [] mn ?_
  refine RK E<|ar<|Q1 hQ U U U ?_
  exact cI (nO I A).symm
 refine WK M<|ao fun _ N=>aF<|WS fun _ O=>bI 2 U<|RK O<|WS fun _ C=>rP 3 [] mn ?_
 obtain ⟨x,hx⟩:=aM l i I
 obtain ⟨xa,G⟩:=aM az i I
 have R:(List.zipWith ax.cells l az)[i]? =some (ax.cells x xa):=er hx G
 refine rS (IA i U (aA 0 U) Ga dc I I)<|rS (lQ i 0 (dE.cells (dE.mk x.dC (aR.mk xa.1 x.bJ.length xa.2))) U cq (aA 0 U) R U dc U U)<|rS (SX (qk U U U (hf i x xa hx G) (bq [2])) U U)<|RK C<|cH U (fun hp=>?_) (fun hp=>?_)
 ·refine WS fun _ D=>rP 2 [] mn ?_
  refine RK D<|ar<|Q1 hQ U U U ?_
  exact cI (qF hx hp A).symm
 refine ct<|aN<|KK N<|av<|rP 2 [] mn ?_
 refine aH ?_
 have F:(vI (((i+1):Nat):Int))=(vI ((i:Int)+1)):=by exact cI I
 refine bp (H ⟨(i+1),⟨I,tv hx A hp⟩⟩ _ _ _ U os (cY 3<|bk U F<|dG.nil _) (aU [0,1,2]))
theorem zZ (l:List ax) (az:List RA) (lA:OA) (lC:Nat) (f:Value) (p:ax→Bool) (X:aw) (hf: ∀ (k:Nat) m a,l[k]? =some m→az[k]? =some a→CR Tryz.prog f [.agg (ax.cells m a).toArray] [X] (.bool (p m))) (hlen:l.length≤1000000) (has:az.length=l.length):
 dH Tryz.prog 108 [(vS lA l.length lC),f] [(rd lA l.length 2 (List.zipWith ax.cells l az)),(d_ (bw ax.gL l az)),X] (vB (l.any p)):=by
 refine bH kr Tryz.func108 U U fun C Q hQ hN=>?_
 try dsimp only
 refine WS fun _ A=>bI 1 U<|RK A<|WS fun _ B=>bI 2 U<|rS (CL (Fz l az lA lC f p X (by exact hf) hlen has) (On 0 1 2 U U U U U U) U)<|rP 2 [] mn ?_
 refine RK B<|ar<|Q1 hQ U U U ?_
 exact cB sh
theorem Gz (l:List bM) (lA:OA) (lC:Nat) (f:Value) (p:bM→Bool) (X:aw) (hf: ∀ x0,x0∈l→CR Tryz.prog f [.agg (bM.cells x0).toArray] [X] (.bool (p x0))) (hlen:l.length≤1000000):
 dH Tryz.prog 131 [(vS lA l.length lC),f] [(rd lA l.length 4 (l.map bM.cells)),X] (vI (sD p l)):=by
 refine bH kr Tryz.func131 U U fun S Q hQ hN=>?_
 try dsimp only
 refine WS fun _ H=>bI 1 U<|RK H<|ao fun _ AA=>WS fun _ J=>rP 3 [] mn ?_
 refine RK J<|aF ?_
 have B:(0≤l.length)∧((l.take 0).any p=false):=by simp
 refine bZ (ι:={z:Nat // (z≤l.length)∧((l.take z).any p=false)}) [0,1,7] [0,1] U U (fun z=>[(8,(vI (z.1:Int)))]) (fun z=>[]) (fun _=>rfl) (fun _=>rfl) (fun z=>l.length-z.1) ⟨0,B⟩ (bE U) (aU [0,1]) ?_
 clear B
 rintro ⟨i,⟨O,A⟩⟩ J4 G
 try dsimp only
 refine WS fun _ K=>rP 1 [] mn ?_
 refine RK K<|ao fun _ L=>bV U (aW fun R=>?_) (aV fun R=>?_)
 ·refine bQ<|ai<|ai<|aI<|KK AA<|WS fun _ E=>rP 1 [] mn ?_
  refine RK E<|ar<|Q1 hQ U U U ?_
  exact cI (nO I A).symm
 refine WK L<|ao fun _ M=>aF<|WS fun _ N=>bI 2 U<|RK N<|WS fun _ C=>rP 3 [] mn ?_
 obtain ⟨x,hx⟩:=aM l i I
 have P:=bP bM.cells hx
 refine rS (IA i U (aA 0 U) xQ dc I I)<|rS (lQ i 0 (bM.cells x) U cq (aA 0 U) P U dc U U)<|rS (SX (qk U U U (hf x (aP hx)) (bq [1])) U U)<|RK C<|cH U (fun hp=>?_) (fun hp=>?_)
 ·refine WS fun _ D=>rP 2 [] mn ?_
  refine RK D<|ar<|Q1 hQ U U U ?_
  exact cI (qF hx hp A).symm
 refine ct<|aN<|KK M<|av<|rP 2 [] mn ?_
 refine aH ?_
 have F:(vI (((i+1):Nat):Int))=(vI ((i:Int)+1)):=by exact cI I
 refine bp (G ⟨(i+1),⟨I,tv hx A hp⟩⟩ _ _ _ U os (cY 3<|bk U F<|dG.nil _) (aU [0,1]))
theorem zt (l:List bM) (lA:OA) (lC:Nat) (f:Value) (p:bM→Bool) (X:aw) (hf: ∀ x0,x0∈l→CR Tryz.prog f [.agg (bM.cells x0).toArray] [X] (.bool (p x0))) (hlen:l.length≤1000000):
 dH Tryz.prog 112 [(vS lA l.length lC),f] [(rd lA l.length 4 (l.map bM.cells)),X] (vB (l.any p)):=by
 refine bH kr Tryz.func112 U U fun C Q hQ hN=>?_
 try dsimp only
 refine WS fun _ A=>bI 1 U<|RK A<|WS fun _ B=>bI 2 U<|rS (CL (Gz l lA lC f p X (by exact hf) hlen) (bq [0,1]) U)<|rP 2 [] mn ?_
 refine RK B<|ar<|Q1 hQ U U U ?_
 exact cB sh
end
section
open Go.RowKit
theorem pT (a:ag) (l:List ag) (lA:OA) (lC:Nat) (ha:lR a) (hl: ∀ z∈l,lR z) (hlen:l.length≤4):
 dH Tryz.prog 118 [(vA (ag.cells a)),(vS lA l.length lC)] [(rd lA l.length 2 (l.map ag.cells))] (vA (ag.cells (kQ a l))):=by
 refine bH kr Tryz.func118 U U fun AA Q hQ hN=>?_
 try dsimp only
 refine WS fun _ AB=>eK U fun R=>AL U ed fun T=>RK AB<|ao fun _ J=>WS fun _ K=>rP 3 [] mn ?_
 refine RK K<|aF ?_
 have A:(0≤l.length):=by exact Nat.zero_le _
 refine bZ (ι:={z:Nat // (z≤l.length)}) [2,4,7,8] [0,2] U U (fun z=>[(9,(vI (z.1:Int)))]) (fun z=>[(cw R 53 (ag.cells (kQ a (l.take z.1))))]) (fun _=>rfl) (fun _=>rfl) (fun z=>l.length-z.1) ⟨0,A⟩ (bE U) (aU [0,2,1]) ?_
 clear A
 rintro ⟨i,N⟩ J6 H
 try dsimp only
 refine WS fun _ L=>rP 1 [] mn ?_
 refine RK L<|ao fun _ M=>bV U (aW fun S=>?_) (aV fun S=>?_)
 ·refine bQ<|ai<|ai<|aI<|KK J<|ao fun _ D=>?_
  have G:(ag.cells (kQ a (l.take i)))=(ag.cells (kQ a l)):=by rw [G9 I]
  rw [G]
  refine av<|rP 1 [] (mc 2 U mn) ?_
  refine fK U c_ U<|RK D<|ar ?_
  exact Cs hQ [0] (mc 0 U mn) U U
 refine WK M<|ao fun _ B=>aF<|WS fun _ C=>?_
 obtain ⟨x,hx⟩:=aM l i I
 have O:=bP ag.cells hx
 refine rS (IA i U (aA 1 U) lk dc I I)<|rS (lQ i 0 (ag.cells x) U cq (aA 1 U) O U dc U U)<|AL U ed fun P=>fK U c_ U<|RK C<|av ?_
 have hb:=Nu ha hl i
 have hz:=hl x (aP hx)
 unfold lR at hz
 refine rP 10 [0,1,0,1] (mc 3 U (mc 0 U mn)) ?_
 refine rS (SX (bf (xs:=[(0,.tmp 17),(1,.tmp 22)]) (cs:=(ag.cells (ag.mk (((kQ a (l.take i)).Lo)+x.Lo) (((kQ a (l.take i)).Hi)+x.Hi)))) U U (bg gZ U)) U U)<|Sh U c_ U<|aH<|aN<|KK B ?_
 have E:(ag.cells (ag.mk (((kQ a (l.take i)).Lo)+x.Lo) (((kQ a (l.take i)).Hi)+x.Hi)))=(ag.cells (kQ a (l.take (i+1)))):=by rw [yU hx]; rfl
 rw [E]
 refine av<|rP 2 [] mn ?_
 refine aH ?_
 have F:(vI ((i+1):Int))=(vI ((i:Int)+1)):=by exact cI I
 refine bp (H ⟨(i+1),(by first|omega|(simp only []; omega))⟩ _ _ _ U os (cY 4<|bk U F<|dG.nil _) (aU [1,2,3]))
theorem Fa (ts:List au) (tsA:OA) (tsC:Nat) (hlen:ts.length≤1000000) (hside: ∀ x∈ts,0≤x.jm∧x.jm≤255):
 dH Tryz.prog 115 [(vA (bG.cells (bG.mk (aR.mk tsA ts.length tsC))))] [(rd tsA ts.length 9 (ts.map au.cells))] (vT [(vA (eC.cells (eC.mk (bG.mk (aR.mk tsA ts.length tsC))))),(vI (if du ts=true then 0 else 10))]):=by
 refine bH kr Tryz.func115 U U fun E Q hQ hN=>?_
 try dsimp only
 refine WS fun _ A=>eK U fun C=>AL U JM fun D=>bI 1 U<|RK A<|ao fun _ B=>dw cx 4 kr<|lU 1 [] (mc 1 U mn) U<|dS (SX (bf (xs:=[(0,.tmp 4)]) (cs:=(eC.cells (eC.mk (bG.mk (aR.mk tsA ts.length tsC))))) U U (bg Rm U)) U U)<|lU 1 [] (mc 1 U mn) U<|dS (CL (B7 ts tsA tsC hlen hside) (bq [2]) U)<|cK<|fK U JL U<|rP 1 [] mn ?_
 refine RK B<|ar ?_
 exact mQ hQ [0] (mc 0 U mn) U U
theorem LB (f:Int) (tsA:OA) (tsN tsC:Nat):
 rU Tryz.prog 134 [(vA (eC.cells (eC.mk (bG.mk (aR.mk tsA tsN tsC))))),(vI f)] [] (fun (x:Nat×Nat)=>(Value.func (.func 151) [].toArray [(Value.pointer (some ⟨x.1,0,none⟩)),(Value.pointer (some ⟨x.2,0,none⟩))].toArray)) (fun (x:Nat×Nat)=>True) (fun (x:Nat×Nat)=>[(cw x.1 3 [(vI f)]),(cw x.2 196 (eC.cells (eC.mk (bG.mk (aR.mk tsA tsN tsC)))))]):=by
 refine gp kr Tryz.func134 U U fun E Q hQ hN=>?_
 try dsimp only
 refine WS fun _ A=>eK U fun C=>wu U U fun D=>bI 1 U<|RK A<|WS fun _ B=>rS (FU U)<|rP 1 [] mn ?_
 refine RK B<|ar<|LX hQ (D,C) [0,1] [] mn U U U U ?_
 trivial
theorem Gp (ts:List au) (tsA:OA) (tsC:Nat) (f:Int) (g1 g2:Nat) (hst: ∀ x∈ts,bU x) (hlen:ts.length≤12) (hf:0≤f∧f≤ts.length):
 Mu Tryz.prog 151 [] [(vP g1),(vP g2)] [(rd tsA ts.length 9 (ts.map au.cells)),(cw g1 3 [(vI f)]),(cw g2 196 (eC.cells (eC.mk (bG.mk (aR.mk tsA ts.length tsC)))))] (uf ts f.toNat):=by
 refine EL kr Tryz.func151 U U fun l J Z A0 p Q hY g d hQ hN=>?_
 try dsimp only
 refine WS fun _ h=>AL U ed fun n=>AL U ed fun o=>RK h<|WS fun _ i=>rP 2 [] (mr 4 U mn) ?_
 refine RK i<|aF ?_
 have P:(0≤ts.length-f.toNat)∧(J 0 A0)∧(Fo A0 p A0):=by exact ⟨Nat.zero_le _,g,d⟩
 have m:(vI (f+(0:Int)))=(vI f):=by exact cI I
 refine bZ (ι:={z:Nat×aw // (z.1≤ts.length-f.toNat)∧(J z.1 z.2)∧(Fo A0 p z.2)}) [0,1,2,4,5] [3,4,5] U U (fun z=>[(6,(vI (f+(z.1.1:Int))))]) (fun z=>[(cw o 53 (ag.cells (gK ts f.toNat z.1.1))),(cw n 53 (ag.cells (eE ts f.toNat z.1.1))),z.1.2]) (fun _=>rfl) (fun _=>rfl) (fun z=>ts.length-f.toNat-z.1.1) ⟨(0,A0),P⟩ (bk U m<|dG.nil _) (aU [3,4,5,0,1,2]) ?_
 clear P
 rintro ⟨⟨k,A⟩,⟨W,R,S⟩⟩ J6 V
 try dsimp only at W R S
 try dsimp only
 refine ao fun _ j=>WS fun _ X=>rP 3 [0,1] (mc 4 U (mc 3 U mn)) ?_
 refine E3 5 hY R S U U U (yC I) U U (fun B9 C B=>?_) (fun B9 C B=>?_)
 rotate_left 1
 ·refine rP 8 [] mn ?_
  refine RK X<|cp U<|bQ<|ai<|ai<|aI ?_
  refine hN _ _ _ (jZ (vs:=[]) trivial fun w hs=>M0 5 U C B hs)
 refine rP 8 [] (mr 2 U mn) ?_
 refine RK X<|bV U (aW fun c=>?_) (aV fun c=>?_)
 ·refine bQ<|ai<|ai<|aI ?_
  refine hN _ _ _ (jZ (vs:=[]) trivial fun w hs=>P_ 5 U (by rw [tq]; have e:ts.length-f.toNat+1=k+1:=I; rw [e]; exact C) B hs)
 refine WK j<|ao fun _ M=>aF<|mx cx [0,1,2,3,4,5,6,7,10,11,12,13,14,15,16,17] [8,9,18,19,20,21] [true,false,false,false,false,false,false,false,true,false,false,false,false,false,false,false] [8,9,18] [(rd tsA ts.length 9 (ts.map au.cells)).ro,(cw g1 3 [(vI f)]).ro,(cw g2 196 (eC.cells (eC.mk (bG.mk (aR.mk tsA ts.length tsC))))).ro,B9] [(rd tsA ts.length 9 (ts.map au.cells)).ro,(cw g1 3 [(vI f)]).ro,(cw g2 196 (eC.cells (eC.mk (bG.mk (aR.mk tsA ts.length tsC))))).ro,(cw o 53 (ag.cells (gK ts f.toNat k))),(cw n 53 (ag.cells (eE ts f.toNat k))),B9] kr (aU [0,1,2,5]) (aU [0,1,2,3,4,5])<|fS U (LW 4 U cq U U)<|eS U (FA 0 U fT U)<|eS U (FA 0 U fT U)<|eS U (HI (vS tsA ts.length tsC) 2 U cq U U)<|eS U (MV U) ?_
 obtain ⟨x,hx⟩:=aM ts (f.toNat+k) I
 have a:=bP au.cells hx
 refine eS U (IA (f.toNat+k) U (aA 0 U) zB dc I I) ?_
 have L:=hst x (aP hx)
 refine eS U (qA (((f.toNat+k)*9)+1) U (aA 0 U) (Nat.mul_pos I dc) fT U)<|eS U (lQ (f.toNat+k) 1 (ag.cells x.kN) U cq (aA 0 U) a U dc U U)<|fS U (LW 3 U cq U U)<|eS U (FA 0 U fT U)<|eS U (FA 0 U fT U)<|eS U (HI (vS tsA ts.length tsC) 2 U cq U U)<|eS U (MV U)<|eS U (IA (f.toNat+k) U (aA 0 U) zB dc I I)<|eS U (qA (((f.toNat+k)*9)+3) U (aA 0 U) (Nat.mul_pos I dc) fT U)<|eS U (lQ (f.toNat+k) 3 (ag.cells x.mj) U cq (aA 0 U) a U dc U U)<|eJ U<|mS [8,18] kr (iO ?_<|iO ?_<|qm)
 rotate_left 1
 ·refine vE (rem':=[8,9,19,20,21]) U kr fun T14 N=>ew (xs:=[.tmp 39]) (cs:=(ag.cells x.mj)) U lk ed U U U U (by simp [Value.cells,ag.aZ]) U U fun T=>aH (N _ _ (aU [1,2,3,6]) (aU [1,2,3,4,5,6]) ?_)
  refine N1 8<|vE (rem':=[9,19,20,21]) U kr fun T16 D=>ew (xs:=[.tmp 29]) (cs:=(ag.cells x.kN)) U lk ed U U U U (by simp [Value.cells,ag.aZ]) U U fun AA=>aH (D _ _ (aU [2,3,4,7]) (aU [2,3,4,5,6,7]) ?_)
  refine N1 9<|vE (rem':=[19,20,21]) U kr fun T18 O=>?_
  refine rS (CL (dH.eq (pT (eE ts f.toNat k) ([x.kN]) (some ⟨AA,0,none⟩) 1 (by exact qL hst I) (by intro z hz; simp only [cm] at hz; subst hz; exact uD L) sm) nD) (aJ (bo 0 rfl rfl (by simp [ag.aZ]) rfl)<|aK) rfl) ?_
  refine aH (O _ _ (aU [2,3,4,7]) (aU [2,3,4,5,6,7]) ?_)
  refine N1 19<|NO U U [20,21] fun T19 E=>?_
  refine rS (CL (dH.eq (pT (gK ts f.toNat k) ([x.mj]) (some ⟨T,0,none⟩) 1 (by exact wP hst I) (by intro z hz; simp only [cm] at hz; subst hz; exact vq L) sm) nD) (aJ (bo 1 rfl rfl (by simp [ag.aZ]) rfl)<|aK) rfl) ?_
  refine aH (E _ _ (aU [2,3,4,7]) ?_)
  refine N1 20<|NO U U [21] fun T20 F=>Sc U c_ U<|aH (F _ _ (aU [2,3,4,7]) ?_)
  refine N1 21<|NO U U [] fun T21 G=>HQ U c_ U<|aH (G _ _ (aU [2,3,4,7]) ?_)
  refine lS<|aN<|KK M ?_
  have H:(ag.cells (mK (eE ts f.toNat k) x.kN))=(ag.cells (eE ts f.toNat (k+1))):=by rw [pL hx]
  rw [H]
  have AB:(ag.cells (mK (gK ts f.toNat k) x.mj))=(ag.cells (gK ts f.toNat (k+1))):=by rw [qg hx]
  rw [AB]
  refine av<|rP 3 [] mn ?_
  refine aH ?_
  have K:(vI (f+(((k+1):Nat):Int)))=(vI ((f+(k:Int))+1)):=by exact cI I
  refine bp (V ⟨((k+1),B9),⟨I,C,B⟩⟩ _ _ _ U os (cY 5<|bk U K<|dG.nil _) (aU [2,3,4,5,6,7]))
 refine vE (rem':=[9,18,19,20,21]) U kr fun T14 N=>ew (xs:=[.tmp 29]) (cs:=(ag.cells x.kN)) U lk ed U U U U (by simp [Value.cells,ag.aZ]) U U fun T=>aH (N _ _ (aU [1,2,3,6]) (aU [1,2,3,4,5,6]) ?_)
 refine mS [9,18] kr (iO ?_<|iO ?_<|qm)
 rotate_left 1
 ·refine vE (rem':=[9,19,20,21]) U kr fun T16 D=>ew (xs:=[.tmp 39]) (cs:=(ag.cells x.mj)) U lk ed U U U U (by simp [Value.cells,ag.aZ]) U U fun AA=>aH (D _ _ (aU [2,3,4,7]) (aU [2,3,4,5,6,7]) ?_)
  refine N1 9<|vE (rem':=[19,20,21]) U kr fun T18 O=>?_
  refine rS (CL (dH.eq (pT (eE ts f.toNat k) ([x.kN]) (some ⟨T,0,none⟩) 1 (by exact qL hst I) (by intro z hz; simp only [cm] at hz; subst hz; exact uD L) sm) nD) (aJ (bo 1 rfl rfl (by simp [ag.aZ]) rfl)<|aK) rfl) ?_
  refine aH (O _ _ (aU [2,3,4,7]) (aU [2,3,4,5,6,7]) ?_)
  refine N1 19<|NO U U [20,21] fun T19 E=>?_
  refine rS (CL (dH.eq (pT (gK ts f.toNat k) ([x.mj]) (some ⟨AA,0,none⟩) 1 (by exact wP hst I) (by intro z hz; simp only [cm] at hz; subst hz; exact vq L) sm) nD) (aJ (bo 0 rfl rfl (by simp [ag.aZ]) rfl)<|aK) rfl) ?_
  refine aH (E _ _ (aU [2,3,4,7]) ?_)
  refine N1 20<|NO U U [21] fun T20 F=>Sc U c_ U<|aH (F _ _ (aU [2,3,4,7]) ?_)
  refine N1 21<|NO U U [] fun T21 G=>HQ U c_ U<|aH (G _ _ (aU [2,3,4,7]) ?_)
  refine lS<|aN<|KK M ?_
  have H:(ag.cells (mK (eE ts f.toNat k) x.kN))=(ag.cells (eE ts f.toNat (k+1))):=by rw [pL hx]
  rw [H]
  have AB:(ag.cells (mK (gK ts f.toNat k) x.mj))=(ag.cells (gK ts f.toNat (k+1))):=by rw [qg hx]
  rw [AB]
  refine av<|rP 3 [] mn ?_
  refine aH ?_
  have K:(vI (f+(((k+1):Nat):Int)))=(vI ((f+(k:Int))+1)):=by exact cI I
  refine bp (V ⟨((k+1),B9),⟨I,C,B⟩⟩ _ _ _ U os (cY 5<|bk U K<|dG.nil _) (aU [2,3,4,5,6,7]))
 refine vE (rem':=[18,19,20,21]) U kr fun T16 D=>?_
 refine rS (CL (dH.eq (pT (eE ts f.toNat k) ([x.kN]) (some ⟨T,0,none⟩) 1 (by exact qL hst I) (by intro z hz; simp only [cm] at hz; subst hz; exact uD L) sm) nD) (aJ (bo 0 rfl rfl (by simp [ag.aZ]) rfl)<|aK) rfl) ?_
 refine aH (D _ _ (aU [1,2,3,6]) (aU [1,2,3,4,5,6]) ?_)
 refine N1 18<|vE (rem':=[19,20,21]) U kr fun T17 Y=>ew (xs:=[.tmp 39]) (cs:=(ag.cells x.mj)) U lk ed U U U U (by simp [Value.cells,ag.aZ]) U U fun b=>aH (Y _ _ (aU [2,3,4,7]) (aU [2,3,4,5,6,7]) ?_)
 refine N1 19<|NO U U [20,21] fun T19 E=>?_
 refine rS (CL (dH.eq (pT (gK ts f.toNat k) ([x.mj]) (some ⟨b,0,none⟩) 1 (by exact wP hst I) (by intro z hz; simp only [cm] at hz; subst hz; exact vq L) sm) nD) (aJ (bo 0 rfl rfl (by simp [ag.aZ]) rfl)<|aK) rfl) ?_
 refine aH (E _ _ (aU [2,3,4,7]) ?_)
 refine N1 20<|NO U U [21] fun T20 F=>Sc U c_ U<|aH (F _ _ (aU [2,3,4,7]) ?_)
 refine N1 21<|NO U U [] fun T21 G=>HQ U c_ U<|aH (G _ _ (aU [2,3,4,7]) ?_)
 refine lS<|aN<|KK M ?_
 have H:(ag.cells (mK (eE ts f.toNat k) x.kN))=(ag.cells (eE ts f.toNat (k+1))):=by rw [pL hx]
 rw [H]
 have AB:(ag.cells (mK (gK ts f.toNat k) x.mj))=(ag.cells (gK ts f.toNat (k+1))):=by rw [qg hx]
 rw [AB]
 refine av<|rP 3 [] mn ?_
 refine aH ?_
 have K:(vI (f+(((k+1):Nat):Int)))=(vI ((f+(k:Int))+1)):=by exact cI I
 refine bp (V ⟨((k+1),B9),⟨I,C,B⟩⟩ _ _ _ U os (cY 5<|bk U K<|dG.nil _) (aU [2,3,4,5,6,7]))
theorem Jh (ts:List au) (tsA:OA) (tsC:Nat) (f t:Int) (hst: ∀ x∈ts,bU x) (hlen:ts.length≤12) (hf:0≤f∧f≤t∧t≤ts.length):
 dH Tryz.prog 117 [(vA (eC.cells (eC.mk (bG.mk (aR.mk tsA ts.length tsC))))),(vI f),(vI t)] [(rd tsA ts.length 9 (ts.map au.cells))] (vT [(vA (ag.cells (eE ts f.toNat (t-f).toNat))),(vA (ag.cells (gK ts f.toNat (t-f).toNat)))]):=by
 refine bH kr Tryz.func117 U U fun w0 Q hQ hN=>?_
 try dsimp only
 refine WS fun _ M=>eK U fun a=>wu U U fun b=>wu U U fun d=>AL U ed fun e=>AL U ed fun g=>RK M<|ao fun _ AA=>WS fun _ V=>rP 2 [0,1] (mc 4 U (mc 3 U mn)) ?_
 refine cX (LB f tsA ts.length tsC) (aK) U fun u n=>?_
 obtain ⟨B,C⟩:=u
 try dsimp only
 refine RK V<|aF<|jr 7 U (by exact fun _ h=>h) ?_
 refine D9 (L0:=[(3,(vP a)),(4,(vP b)),(5,(vP d)),(6,(vP e)),(7,(vP g))]) (F:=[(rd tsA ts.length 9 (ts.map au.cells)).ro,(cw B 3 [(vI f)]),(cw C 196 (eC.cells (eC.mk (bG.mk (aR.mk tsA ts.length tsC)))))]) (xs:=(uf ts f.toNat)) (fun k (y:ag×ag×Int)=>(k≤(t-f).toNat)∧(y.2.2=f+(k:Int))) (fun k y=>[(cw g 53 (ag.cells y.2.1)),(cw e 53 (ag.cells y.1)),(cw d 3 [(vI t)]),(cw b 3 [(vI y.2.2)]),(cw a 196 (eC.cells (eC.mk (bG.mk (aR.mk tsA ts.length tsC))))),(rd tsA ts.length 9 (ts.map au.cells)).ro]) (fun c (z:Unit)=>(c= .exit 0)) (fun _ z=>[(cw g 53 (ag.cells (gK ts f.toNat (t-f).toNat))),(cw e 53 (ag.cells (eE ts f.toNat (t-f).toNat))),(cw d 3 [(vI t)]),(cw b 3 [(vI t)]),(cw a 196 (eC.cells (eC.mk (bG.mk (aR.mk tsA ts.length tsC))))),(rd tsA ts.length 9 (ts.map au.cells)).ro]) [3,4,5,6,7,8] [0,1,2] (gU,gU,f) U U (Gp ts tsA tsC f B C (by first|assumption|omega|(simp; done)) (by first|assumption|omega|(simp; done)) I) U U U (by exact ⟨Nat.zero_le _,sm⟩) (by simp only [List.forall_mem_cons,List.not_mem_nil,false_imp_iff,implies_true,and_true]; exact ⟨⟨_,sm,(dJ (bX _))⟩,⟨_,sm,(bX _)⟩,⟨_,sm,(bX _)⟩⟩) (by exact Dp) U (bE U) ?_ ?_ ?_ ?_
 rotate_left 1
 ·rintro q ⟨v,z2,m⟩ J
  obtain ⟨A,K⟩:=J
  try dsimp only at A K
  try dsimp only
  exfalso; rw [tq] at A; omega
 ·rintro r id _ Y
  have hc:=Y
  cases hc
  try dsimp only
  refine aI<|KK AA<|ao fun _ D=>dV cx [2,3] [] [] [0,1,2,3,4,5,6,7,8,9] [] U U U U U<|eS U (LW 5 U cq U U)<|eS U (LW 4 U cq U U)<|eJ U<|cv U fun T30 E=>HQ U c_ U<|aH (E _ _ (aU [0,1,2,3,4,5,6,7,8,9]) ?_)
  refine cv U fun T31 G=>PH U c_ U<|aH (G _ _ (aU [0,1,2,3,4,5,6,7,8,9]) ?_)
  refine fY U<|KK D<|ar<|hQ _ _ _ (rq 0 U U<|jZ (vs:=[(vA (ag.cells (eE ts f.toNat (t-f).toNat))),(vA (ag.cells (gK ts f.toNat (t-f).toNat)))]) ⟨⟨_,U,.inl ⟨_,_,cq,p8 (vs:=(ag.cells (eE ts f.toNat (t-f).toNat))) 5 U U,U,U⟩⟩,⟨_,U,.inl ⟨_,_,cq,p8 (vs:=(ag.cells (gK ts f.toNat (t-f).toNat))) 4 U U,U,U⟩⟩,trivial⟩ fun w hs=>AE ?_ hs)
  show (vT [(vA (ag.cells (eE ts f.toNat (t-f).toNat))),(vA (ag.cells (gK ts f.toNat (t-f).toNat)))])=(vT [(vA (ag.cells (eE ts f.toNat (t-f).toNat))),(vA (ag.cells (gK ts f.toNat (t-f).toNat)))])
  clear hs w hQ hN G T31 E T30 D V AA M
  rfl
 ·rintro s _ Z
  cases Z
 rintro k x ⟨v,z2,m⟩ l ra rb S w1 K13 Qr14 hx AB N H L j
 obtain ⟨hk,rfl⟩:=FN hx
 obtain ⟨A,K⟩:=AB
 try dsimp only at A K
 try dsimp only
 refine WS fun _ O=>AL U ed fun o=>fK U c_ U<|RK O<|av<|AL U ed fun p=>fK U c_ U<|aH<|jV (fun _ _ h=>h) (aU [2,0,1,3,4,5,6,7,8])<|bp (N _ _ ?_)
 refine aF<|ao fun _ P=>ao fun _ R=>dV cx [2,3] [] [] [0,1,2,5,6,7,8] [] U U U U U<|eS U (LW 2 U cq U U)<|eS U (LW 1 U cq U U)<|eJ U<|cv U fun T21 W=>PH U c_ U<|aH (W _ _ (aU [0,1,2,5,6,7,8]) ?_)
 refine cv U fun T22 X=>Sh U c_ U<|aH (X _ _ (aU [0,1,2,5,6,7,8]) ?_)
 refine fY U<|KK R<|WS fun _ T=>rP 3 [0,1] (mc 6 U (mc 5 U mn)) ?_
 refine RK T<|cH U (aV fun i=>?_) (aW fun i=>?_)
 ·refine bQ<|ai<|e_ U ?_
  rw [show m=t from by omega]
  obtain rfl:k=(t-f).toNat:=by omega
  exact L _ () _ _ (by exact U) (aU [0,3,4,5,6,7,8])
 refine WK P<|av<|rP 2 [] (mc 6 U mn) ?_
 refine Ut U Eg U U<|aH<|aN ?_
 exact H ((eE ts f.toNat k),(gK ts f.toNat k),(m+1)) _ _ (by refine ⟨I,?_⟩; dsimp only; omega) (aU [0,3,4,5,6,7,8])
end
section
open Go.RowKit
theorem Fq (i:Int) (s:cE) (ts:List au) (tsA:OA) (tsC g1:Nat) (hst: ∀ x∈ts,bU x) (hlen:ts.length≤12):
 dH Tryz.prog 133 [(vI i),(vA (cE.cells s)),(vP g1)] [(rd tsA ts.length 9 (ts.map au.cells)),(cw g1 196 (eC.cells (eC.mk (bG.mk (aR.mk tsA ts.length tsC)))))] (vB (!(decide (fG ts s)))):=by
 refine bH kr Tryz.func133 U U fun AA Q hQ hN=>?_
 try dsimp only
 refine WS fun _ C=>eK U fun G=>rP 1 [] mn ?_
 refine RK C<|ao fun _ A=>mx cx [0,1,2,3,4,5,6] [7,8,9,10,11,12,13,14,15,16,17,18,19,20,21,22,23,24,25,26] [false,false,false,false,false,false,false] [] [(cw G 120 (cE.cells s)),(rd tsA ts.length 9 (ts.map au.cells)).ro,(cw g1 196 (eC.cells (eC.mk (bG.mk (aR.mk tsA ts.length tsC))))).ro] [] kr (aU [0,1,2]) (aU [])<|eS U (FA 0 U fT U)<|eS U (FA 0 U fT U)<|eS U (HI (vS tsA ts.length tsC) 2 U cq U U)<|eS U (LN U Qs)<|eS U (BI U (xL ⟨I,I⟩))<|eS U (FA 0 U fT U)<|eS U (L1 (vI s.bB) 0 U cq U U)<|eJ U<|N1 7<|NO U U [8,9,10,11,12,13,14,15,16,17,18,19,20,21,22,23,24,25,26] fun T4 D=>ew (xs:=[.tmp 12]) (cs:=[(vI s.bB)]) U dD kl U U U U (by simp [Value.cells]) U U fun H=>RD D 1 U<|Pm [14,15,16,17,18,19,20,21,22,23,24,25,26,27,28,29,30,31,5] kr kr U _ U U (aU [1,2,3]) ?_
 refine dS (CL (dH.eq (pw 0 ((ts.length:Int)-1) ([s.bB]) (some ⟨H,0,none⟩) 1 (by (simp; done))) cz) (aJ (bo 0 U U (by simp [bO]) U)<|aK) U) ?_
 refine dP 2 [] mn ?_
 refine ia (t:=16) U (bu fun B=>?_) (br fun B=>?_)
 ·refine k7 9 U<|dP 7 [] mn ?_
  refine cK<|RK A<|ar<|Q1 hQ U U U ?_
  (refine cB ?_; rw [bx (BQ I)]; rfl)
 refine k7 1 U<|dS (LP (ag.cells s.mP) 1 U cq U U U)<|dP 5 [0,1] (mr 3 U (mc 1 U mn)) ?_
 obtain ⟨x,hx⟩:=aM ts ((s.bB).toNat) I
 have E:=bP au.cells hx
 refine dS (IA ((s.bB).toNat) U (aA 2 U) zB dc I I)<|dS (qA ((((s.bB).toNat)*9)+1) U (aA 2 U) (Nat.mul_pos I dc) fT U) ?_
 have F:=(hst x (aP hx)).2.1
 simp only [eg] at F
 refine dS (qA ((((s.bB).toNat)*9)+1) U (aA 2 U) (Nat.mul_pos I dc) fT U)<|dS (iK ((s.bB).toNat) 1 (vI x.kN.Lo) U cq (aA 2 U) E U dc U)<|k7 1 U<|dS (CL (wo s.mP 0 (x.kN.Lo-1)) (aK) U)<|dP 3 [] mn ?_
 refine cK<|RK A<|ar<|Q1 hQ U U U ?_
 exact congrArg (fun b=>vB (!b)) (fu.2 (Bp I hx).symm)
theorem C8 (l:List cE) (lA:OA) (lC:Nat) (f:Value) (p:Int→cE→Bool) (X:aw) (hf: ∀ x0 x1,(∃ k:Nat,x0=(k:Int)∧l[k]? =some x1)→CR Tryz.prog f [.int .i64 x0,.agg (cE.cells x1).toArray] [X] (.bool (p x0 x1))) (hlen:l.length≤1000000):
 rU Tryz.prog 132 [(vS lA l.length lC),f] [(rd lA l.length 3 (l.map cE.cells)),X] (fun (x:(OA)×Nat)=>(vS x.1 ((HK (fun jj yy=>p (jj:Int) yy) l).length) x.2)) (fun (x:(OA)×Nat)=>True) (fun (x:(OA)×Nat)=>[(own x.1 x.2 3 1 ((HK (fun jj yy=>p (jj:Int) yy) l).map iC))]):=by
 refine gp kr Tryz.func132 U U fun W Q hQ hN=>?_
 try dsimp only
 refine WS fun _ L=>bI 1 U<|RK L<|WS fun _ M=>bI 1 U<|RK M<|ao fun _ N=>WS fun _ O=>rP 3 [] mn ?_
 refine RK O<|aF<|eL 3 1 ?_
 have A:(0≤l.length):=by exact Nat.zero_le _
 refine bZ (ι:={z:Nat×(OA)×Nat // (z.1≤l.length)}) [0,1,8,9] [1,2] U U (fun z=>[(5,(vS z.1.2.1 ((sK (fun jj yy=>p (jj:Int) yy) l z.1.1).length) z.1.2.2)),(10,(vI (z.1.1:Int)))]) (fun z=>[(own z.1.2.1 z.1.2.2 3 1 ((sK (fun jj yy=>p (jj:Int) yy) l z.1.1).map iC))]) (fun _=>rfl) (fun _=>rfl) (fun z=>l.length-z.1.1) ⟨(0,none,0),A⟩ (bE U) (aU [1,2,0]) ?_
 clear A
 rintro ⟨⟨i,a,c⟩,B⟩ J5 C
 try dsimp only at B
 try dsimp only
 refine WS fun _ P=>rP 1 [] mn ?_
 refine RK P<|ao fun _ R=>bV U (aW fun V=>?_) (aV fun V=>?_)
 ·refine bQ<|ai<|ai<|aI<|KK N<|WS fun _ F=>?_
  rw [LQ (p:=fun (i:Nat) x=>p (i:Int) x) (show i=l.length by omega)]
  refine rP 2 [] mn ?_
  refine RK F<|ar<|LX hQ (a,c) [2] [] mn U U U U ?_
  trivial
 refine WK R<|ao fun _ G=>aF<|WS fun _ D=>rP 1 [] mn ?_
 obtain ⟨x,hx⟩:=aM l i I
 have S:=bP cE.cells hx
 refine rS (IA i U (aA 0 U) H3 dc I I)<|rS (lQ i 0 (cE.cells x) U cq (aA 0 U) S U dc U U)<|AL U Fb fun T=>bI 1 U<|fK U MQ U<|RK D<|WS fun _ E=>rP 3 [] (mc 0 U mn) ?_
 refine rS (SX (qk U U U (hf (i:Int) x ⟨i,U,hx⟩) (bq [2])) U U)<|RK E<|bV U (fun hp=>?_) (fun hp=>?_)
 ·refine ct<|aN<|KK G<|av ?_
  rw [← K2 (p:=fun (i:Nat) x=>p (i:Int) x) hx hp]
  refine rP 2 [] mn ?_
  refine aH ?_
  have AB:(vI (((i+1):Nat):Int))=(vI ((i:Int)+1)):=by exact cI I
  refine bp (C ⟨((i+1),a,c),(by first|omega|(simp only []; omega))⟩ _ _ _ U os (cY 5<|bk U AB<|dG.nil _) (aU [1,2,3]))
 refine av<|rP 2 [] mn ?_
 refine ew (xs:=[.tmp 20]) (cs:=[(vI (i:Int))]) U dD kl U U U U (by simp [Value.cells]) U U fun AA=>?_
 refine fF (es2:=(List.map iC (sK (fun jj yy=>p (jj:Int) yy) l (i+1)))) (m':=(sK (fun jj yy=>p (jj:Int) yy) l (i+1)).length) 4 U U U tx U U sm (bo (es:=List.map iC [(i:Int)]) 0 U U (by simp [bO]) U) (lW _) (by have:=Az (p:=fun (i:Nat) x=>p (i:Int) x) (l:=l) (n:=i); simp; omega) (by have:=Az (p:=fun (i:Nat) x=>p (i:Int) x) (l:=l) (n:=i); simp only [maxLen]; omega) (by rw [IG hx hp]; simp) sm U fun J K=>?_
 try dsimp only
 refine bI 1 U<|aH<|aN<|KK G<|av<|rP 2 [] mn ?_
 refine aH ?_
 have H:(vI (((i+1):Nat):Int))=(vI ((i:Int)+1)):=by exact cI I
 refine bp (C ⟨((i+1),J,K),(by first|omega|(simp only []; omega))⟩ _ _ _ U os (cY 5<|bk U H<|dG.nil _) (aU [2,3,4]))
theorem Cb (ts:List au) (tsA:OA) (tsC:Nat) (l:List cE) (lA:OA) (lC:Nat) (hst: ∀ x∈ts,bU x) (hlen:ts.length≤12) (hl:l.length≤4):
 dH Tryz.prog 116 [(vA (eC.cells (eC.mk (bG.mk (aR.mk tsA ts.length tsC))))),(vS lA l.length lC)] [(rd tsA ts.length 9 (ts.map au.cells)),(rd lA l.length 3 (l.map cE.cells))] (vB (decide (∀ s∈l,fG ts s))):=by
 refine bH kr Tryz.func116 U U fun J Q hQ hN=>?_
 try dsimp only
 refine WS fun _ B=>eK U fun A=>bI 1 U<|RK B<|WS fun _ C=>rP 1 [] mn ?_
 refine rS (FU U) ?_
 refine cX (C8 l lA lC (Value.func (.func 133) [].toArray [(vP A)].toArray) (fun E D=>(!(decide (fG ts D)))) (d_ [(rd tsA ts.length 9 (ts.map au.cells)),(cw A 196 (eC.cells (eC.mk (bG.mk (aR.mk tsA ts.length tsC)))))]) (by intro E D _; exact lf (fi:=[]) (ca:=[(vP A)]) (jX (Fq E D ts tsA tsC A (by first|assumption|omega) (by first|assumption|omega)) (bq [0,1]))) I) (g_ 2 U U<|aJ (jT (bq [1,0]))<|aK) U fun G F=>?_
 obtain ⟨H,AA⟩:=G
 try dsimp only
 refine rP 3 [] mn ?_
 refine RK C<|ar<|Q1 hQ U U U ?_
 exact congrArg Value.bool (decide_eq_decide.2 (by rw [show ∀ n:Nat,((n:Int)=0)↔n=0 from fun n=>by omega,Gl]; simp only [Bool.not_eq_false',decide_eq_true_eq]; exact ⟨fun h s hs=>by obtain ⟨k,hk⟩:=List.getElem?_of_mem hs; exact h k s hk,fun h k s hk=>h s (List.mem_of_getElem? hk)⟩))
theorem Dw (z:ag) (hz:lR z):
 dH Tryz.prog 119 [(vA (ag.cells z))] [] (vA (ag.cells (ot z))):=by
 unfold lR at hz
 refine bH kr Tryz.func119 U U fun E Q hQ hN=>?_
 try dsimp only
 refine WS fun _ A=>eK U fun C=>AL U ed fun D=>RK A<|WS fun _ B=>e7 2 [] (mc 1 U mn) U<|rS (NG U ⟨I,I⟩)<|rP 2 [] (mc 1 U mn) ?_
 refine rS (NG U ⟨I,I⟩)<|rS (SX (bf (xs:=[(0,.tmp 5),(1,.tmp 8)]) (cs:=(ag.cells (ag.mk (-z.Hi) (-z.Lo)))) U U (bg gZ U)) U U)<|fK U c_ U<|RK B<|ar ?_
 exact Cs hQ [0] (mc 0 U mn) U U
theorem Re (ts:List au) (tsA:OA) (tsC:Nat) (s:cE) (hlen:ts.length≤1000000) (hside: ∀ x∈ts,0≤x.jm∧x.jm≤255):
 dH Tryz.prog 93 [(vA (bG.cells (bG.mk (aR.mk tsA ts.length tsC)))),(vA (cE.cells s))] [(rd tsA ts.length 9 (ts.map au.cells))] (vT [(vA (ag.cells (N5 ts s))),(vI (EI ts s))]):=by
 refine bH kr Tryz.func93 U U fun Z Q hQ hN=>?_
 try dsimp only
 refine WS fun _ K=>eK U fun V=>eK U fun W=>AL U ed fun X=>bI 1 U<|RK K<|WS fun _ L=>e7 1 [] (mc 2 U mn) U<|rS (CL (Fa ts tsA tsC hlen hside) (bq [3]) U)<|bI 3 U<|AL U JM fun Y=>fK U JL U<|bI 1 U<|RK L<|ao fun _ M=>WS fun _ N=>rP 2 [] mn ?_
 refine RK N<|cH U (bu fun he=>?_) (br fun he=>?_)
 ·refine WS fun _ O=>rS (SX (bf (xs:=[]) (cs:=(ag.cells (ag.mk 0 0))) U U (bg gZ U)) U U)<|bI 1 U<|sr U c_ U<|rP 1 [] mn ?_
  refine RK O<|ar<|mQ hQ [0] (mc 1 U mn) U ?_
  (have e:=Kk (s:=s) (yG he).1; rw [e.1,e.2,(yG he).2]<;>rfl)
 refine WK M<|ao fun _ C=>WS fun _ D=>?_
 have B:=DZ he
 have H:=kf B
 have R:=kZ B
 refine rP 2 [0,1] (mc 0 U (mc 2 U mn)) ?_
 refine ew (xs:=[.tmp 20]) (cs:=(cE.cells s)) U H3 Fb U U U U (by simp [Value.cells,cE.aZ]) U U fun AB=>?_
 refine rS (CL (dH.eq (Cb ts tsA tsC ([s]) (some ⟨AB,0,none⟩) 1 asm asm (by (simp; done))) Dv) (g_ 5 U U<|aJ (bo 0 U U (by simp [cE.aZ]) U)<|aK) U) ?_
 refine rP 1 [] mn ?_
 refine RK D<|cH U (bu fun A=>?_) (br fun A=>?_)
 ·refine WS fun _ E=>rS (SX (bf (xs:=[]) (cs:=(ag.cells (ag.mk 0 0))) U U (bg gZ U)) U U)<|G3 U c_ U<|rP 1 [] mn ?_
  refine RK E<|ar<|mQ hQ [0] (mc 2 U mn) U ?_
  (have e:=HF B A; rw [e.1,e.2]<;>rfl)
 refine WK C<|WS fun _ F=>?_
 have AA:=A.1
 have P:=qX H A
 refine e7 3 [0,1] (mc 1 U (mc 3 U mn)) U<|rS (CL (Jh ts tsA tsC 0 s.bB asm asm I) (bq [5]) U)<|bI 3 U<|AL U ed fun S=>AL U ed fun T=>sr U c_ U<|fK U c_ U<|RK F<|WS fun _ G=>rP 2 [] (mc 1 U mn) ?_
 refine rS (LP (ag.cells s.mP) 5 U cq U U U)<|ew (xs:=[.tmp 34]) (cs:=(ag.cells s.mP)) U lk ed U U U U (by simp [Value.cells,ag.aZ]) U U fun J=>?_
 refine rS (CL (dH.eq (pT (eE ts (0:Int).toNat (s.bB-0).toNat) ([s.mP]) (some ⟨J,0,none⟩) 1 (by exact qL H I) (by intro z hz; simp only [cm] at hz; subst hz; exact P) sm) nD) (aJ (bo 0 rfl rfl (by simp [ag.aZ]) rfl)<|aK) rfl) ?_
 refine HQ U c_ U<|rP 1 [] mn ?_
 refine RK G<|ar<|mQ hQ [0] (mc 5 U mn) U ?_
 (have e:=x5 B A; rw [e.1,e.2]; unfold Kr; rw [show (s.bB-0).toNat=s.bB.toNat by rw [Int.sub_zero]]<;>rfl)
theorem KB (ts:List au) (tsA:OA) (tsC:Nat) (p:cE) (q:cE) (hlen:ts.length≤1000000) (hside: ∀ x∈ts,0≤x.jm∧x.jm≤255):
 dH Tryz.prog 94 [(vA (bG.cells (bG.mk (aR.mk tsA ts.length tsC)))),(vA (cE.cells p)),(vA (cE.cells q))] [(rd tsA ts.length 9 (ts.map au.cells))] (vT [(vA (ag.cells (k6 ts p q))),(vI (l6 ts p q))]):=by
 refine bH kr Tryz.func94 U U fun w Q hQ hN=>?_
 try dsimp only
 refine WS fun _ c=>eK U fun r=>eK U fun s=>eK U fun t=>AL U ed fun u=>bI 1 U<|RK c<|WS fun _ d=>e7 1 [] (mc 3 U mn) U<|rS (CL (Fa ts tsA tsC hlen hside) (bq [4]) U)<|bI 3 U<|AL U JM fun v=>fK U JL U<|bI 1 U<|RK d<|ao fun _ g=>WS fun _ h=>rP 2 [] mn ?_
 refine RK h<|cH U (bu fun he=>?_) (br fun he=>?_)
 ·refine WS fun _ G=>rS (SX (bf (xs:=[]) (cs:=(ag.cells (ag.mk 0 0))) U U (bg gZ U)) U U)<|bI 1 U<|sr U c_ U<|rP 1 [] mn ?_
  refine RK G<|ar<|mQ hQ [0] (mc 1 U mn) U ?_
  (have e:=vi (a:=p) (b:=q) (yG he).1; rw [e.1,e.2,(yG he).2]<;>rfl)
 refine WK g<|ao fun _ H=>WS fun _ AB=>?_
 have A:=DZ he
 have F:=kf A
 have j:=kZ A
 refine rP 3 [0,1,2] (mc 0 U (mc 3 U (mc 2 U mn))) ?_
 refine ew (xs:=[.tmp 22,.tmp 23]) (cs:=((cE.cells p)++(cE.cells q))) U H3 Fb U U U U (by simp [Value.cells,cE.aZ]) U U fun X=>?_
 refine rS (CL (dH.eq (Cb ts tsA tsC ([p,q]) (some ⟨X,0,none⟩) 2 asm asm (by (simp; done))) Dc) (g_ 6 U U<|aJ (bo 0 U U (by simp [cE.aZ]) U)<|aK) U) ?_
 refine rP 1 [] mn ?_
 refine RK AB<|cH U (bu fun D=>?_) (br fun D=>?_)
 ·refine WS fun _ J=>rS (SX (bf (xs:=[]) (cs:=(ag.cells (ag.mk 0 0))) U U (bg gZ U)) U U)<|G3 U c_ U<|rP 1 [] mn ?_
  refine RK J<|ar<|mQ hQ [0] (mc 2 U mn) U ?_
  (have e:=o0 A D; rw [e.1,e.2]<;>rfl)
 refine WK H<|WS fun _ K=>?_
 obtain ⟨hp,hq⟩:=D
 have n:=hp.1
 have o:=hq.1
 have i:=qX F hp
 have W:=qX F hq
 have V:=zX i
 have B:=qL F (f:=(min p.bB q.bB).toNat) (k:=(max p.bB q.bB-min p.bB q.bB).toNat) I
 refine e7 5 [0,1,2] (mc 1 U (mc 4 U (mc 3 U mn))) U<|rS (MN U)<|e7 4 [0,1] (mc 4 U (mc 3 U mn)) U<|rS (MX U)<|rS (CL (Jh ts tsA tsC (min p.bB q.bB) (max p.bB q.bB) asm asm I) (bq [6]) U)<|bI 3 U<|AL U ed fun l=>AL U ed fun m=>sr U c_ U<|fK U c_ U<|RK K<|ao fun _ C=>WS fun _ L=>rP 5 [0,1] (mc 5 U (mc 6 U mn)) ?_
 refine RK L<|bV U (aW fun E=>?_) (aV fun E=>?_)
 ·refine WK C<|ao fun _ N=>dV cx [6,7,8] [] [] [0,1,2,3,5,6,7,8] [] U U U U U<|eS U (LW 1 U cq U U)<|eS U (FA 1 U fT U)<|eS U (LP (ag.cells q.mP) 4 U cq U U U)<|eS U (FA 1 U fT U)<|eS U (LP (ag.cells p.mP) 5 U cq U U U)<|eS U (CL (Dw p.mP asm) (aK) U)<|eS U (AG U)<|eJ U<|cv U fun T26 S=>ew (xs:=[.tmp 52,.tmp 55]) (cs:=((ag.cells q.mP)++(ag.cells (ot p.mP)))) U lk ed U U U U (by simp [Value.cells,ag.aZ]) U U fun Z=>aH (S _ _ (aU [1,2,3,4,6,7,8,9]) ?_)
  refine cv U fun T28 T=>?_
  refine rS (CL (dH.eq (pT (eE ts (min p.bB q.bB).toNat ((max p.bB q.bB)-(min p.bB q.bB)).toNat) ([q.mP,(ot p.mP)]) (some ⟨Z,0,none⟩) 2 (by first|exact B|exact zX B) (by intro z hz; simp only [bR,List.not_mem_nil,or_false] at hz; rcases hz with rfl|rfl; exact W; exact V) sm) Ca) (aJ (bo 0 rfl rfl (by simp [ag.aZ]) rfl)<|aK) rfl) ?_
  refine aH (T _ _ (aU [1,2,3,4,6,7,8,9]) ?_)
  refine cv U fun T29 AA=>HQ U c_ U<|aH (AA _ _ (aU [1,2,3,4,6,7,8,9]) ?_)
  refine fY U<|KK N<|ar<|mQ hQ [0] (mc 5 U mn) U ?_
  (have e:=lK A ⟨hp,hq⟩; rw [e.1,e.2]; unfold j6 xC; rw [if_neg E]<;>rfl)
 refine av<|rP 1 [] (mc 1 U mn) ?_
 refine rS (CL (Dw (eE ts (min p.bB q.bB).toNat ((max p.bB q.bB)-(min p.bB q.bB)).toNat) asm) (aK) U)<|sr U c_ U<|RK C<|ao fun _ M=>dV cx [6,7,8] [] [] [0,1,2,3,5,6,7,8] [] U U U U U<|eS U (LW 1 U cq U U)<|eS U (FA 1 U fT U)<|eS U (LP (ag.cells q.mP) 4 U cq U U U)<|eS U (FA 1 U fT U)<|eS U (LP (ag.cells p.mP) 5 U cq U U U)<|eS U (CL (Dw p.mP asm) (aK) U)<|eS U (AG U)<|eJ U<|cv U fun T21 O=>ew (xs:=[.tmp 52,.tmp 55]) (cs:=((ag.cells q.mP)++(ag.cells (ot p.mP)))) U lk ed U U U U (by simp [Value.cells,ag.aZ]) U U fun Y=>aH (O _ _ (aU [1,2,3,4,6,7,8,9]) ?_)
 refine cv U fun T23 P=>?_
 refine rS (CL (dH.eq (pT (ot (eE ts (min p.bB q.bB).toNat ((max p.bB q.bB)-(min p.bB q.bB)).toNat)) ([q.mP,(ot p.mP)]) (some ⟨Y,0,none⟩) 2 (by first|exact B|exact zX B) (by intro z hz; simp only [bR,List.not_mem_nil,or_false] at hz; rcases hz with rfl|rfl; exact W; exact V) sm) Ca) (aJ (bo 0 rfl rfl (by simp [ag.aZ]) rfl)<|aK) rfl) ?_
 refine aH (P _ _ (aU [1,2,3,4,6,7,8,9]) ?_)
 refine cv U fun T24 R=>HQ U c_ U<|aH (R _ _ (aU [1,2,3,4,6,7,8,9]) ?_)
 refine fY U<|KK M<|ar<|mQ hQ [0] (mc 5 U mn) U ?_
 (have e:=lK A ⟨hp,hq⟩; rw [e.1,e.2]; unfold j6 xC; rw [if_pos E]<;>rfl)
theorem rX (ts:List au) (tsA:OA) (tsC:Nat) (s:cE) (hst: ∀ x∈ts,bU x) (hlen:ts.length≤12):
 dH Tryz.prog 139 [(vA (bG.cells (bG.mk (aR.mk tsA ts.length tsC)))),(vA (cE.cells s))] [(rd tsA ts.length 9 (ts.map au.cells))] (vB (decide (fG ts s))):=by
 refine bH kr Tryz.func139 U U fun H Q hQ hN=>?_
 try dsimp only
 refine WS fun _ C=>eK U fun F=>eK U fun G=>bI 1 U<|RK C<|ao fun _ A=>dw cx 22 kr<|lU 6 [0,1] (mc 0 U (mc 1 U mn)) U<|dS (CL (pg s.bB 0 ((ts.length:Int)-1)) (aK) U)<|dP 1 [] mn ?_
 refine jM (t:=12) U (aW fun B=>?_) (aV fun B=>?_)
 ·refine k7 8 U<|dP 6 [] mn ?_
  refine cK<|RK A<|ar<|Q1 hQ U U U ?_
  (refine cB ?_; rw [bx (BQ I)])
 refine k7 1 U<|dS (LP (ag.cells s.mP) 0 U cq U U U)<|dP 4 [0,1] (mc 1 U (mc 0 U mn)) ?_
 obtain ⟨x,hx⟩:=aM ts ((s.bB).toNat) I
 have D:=bP au.cells hx
 refine dS (IA ((s.bB).toNat) U (aA 2 U) zB dc I I)<|dS (qA ((((s.bB).toNat)*9)+1) U (aA 2 U) (Nat.mul_pos I dc) fT U) ?_
 have E:=(hst x (aP hx)).2.1
 simp only [eg] at E
 refine dS (qA ((((s.bB).toNat)*9)+1) U (aA 2 U) (Nat.mul_pos I dc) fT U)<|dS (iK ((s.bB).toNat) 1 (vI x.kN.Lo) U cq (aA 2 U) D U dc U)<|k7 1 U<|dS (CL (pV s.mP 0 (x.kN.Lo-1)) (aK) U)<|dP 2 [] mn ?_
 refine cK<|RK A<|ar<|Q1 hQ U U U ?_
 exact cB (fu.2 (Bp I hx).symm)
theorem zC (ts:List au) (tsA:OA) (tsC:Nat) (f t:Int) (hst: ∀ x∈ts,bU x) (hlen:ts.length≤12) (hf:0≤f∧f≤t∧t≤ts.length):
 dH Tryz.prog 161 [(vA (bG.cells (bG.mk (aR.mk tsA ts.length tsC)))),(vI f),(vI t)] [(rd tsA ts.length 9 (ts.map au.cells))] (vT [(vA (ag.cells (eE ts f.toNat (t-f).toNat))),(vA (ag.cells (gK ts f.toNat (t-f).toNat)))]):=by
 refine bH kr Tryz.func161 U U fun i Q hQ hN=>?_
 try dsimp only
 refine WS fun _ R=>eK U fun e=>AL U ed fun g=>AL U ed fun h=>RK R<|WS fun _ S=>AL U ed fun a=>AL U ed fun b=>RK S<|ao fun _ T=>WS fun _ AA=>rP 2 [] mn ?_
 refine RK AA<|aF ?_
 have A:(0≤(t-f).toNat):=by exact Nat.zero_le _
 have K:(vI (f+(0:Int)))=(vI f):=by exact cI I
 refine bZ (ι:={z:Nat // (z≤(t-f).toNat)}) [1,2,3,6,7,8,9] [2,3,4,5] U U (fun z=>[(10,(vI (f+(z.1:Int))))]) (fun z=>[(cw b 53 (ag.cells (gK ts f.toNat z.1))),(cw a 53 (ag.cells (eE ts f.toNat z.1)))]) (fun _=>rfl) (fun _=>rfl) (fun z=>(t-f).toNat-z.1) ⟨0,A⟩ (bk U K<|dG.nil _) (aU [2,3,4,5,0,1]) ?_
 clear A
 rintro ⟨k,V⟩ J11 B
 try dsimp only
 refine ao fun _ C=>WS fun _ D=>rP 3 [] mn ?_
 refine RK D<|bV U (aW fun P=>?_) (aV fun P=>?_)
 ·refine bQ<|ai<|ai<|aI<|KK T<|ao fun _ H=>dV cx [2,3] [] [] [2,3,4,5] [] U U U U U<|eS U (LW 3 U cq U U)<|eS U (LW 2 U cq U U)<|eJ U<|cv U fun T23 AB=>sr U c_ U<|aH (AB _ _ (aU [2,3,4,5]) ?_)
  refine cv U fun T24 J=>fK U c_ U<|aH (J _ _ (aU [2,3,4,5]) ?_)
  refine fY U<|KK H<|ar<|mQ hQ [0,1] (mc 1 U (mc 0 U mn)) U ?_
  obtain rfl:k=(t-f).toNat:=I; rfl
 refine WK C<|ao fun _ E=>aF<|WS fun _ F=>rP 3 [] (mc 2 U mn) ?_
 obtain ⟨x,hx⟩:=aM ts (f.toNat+k) I
 have Y:=bP au.cells hx
 refine rS (IA (f.toNat+k) U (aA 3 U) zB dc I I)<|rS (lQ (f.toNat+k) 0 (au.cells x) U cq (aA 3 U) Y U dc U U)<|AL U Eu fun Z=>fK U Ke U<|RK F<|WS fun _ G=>?_
 have O:=hst x (aP hx)
 have d:=mm hst f.toNat k
 have c:=EB hst f.toNat k
 have W:=O.2.1
 have X:=O.2.2.1
 simp only [eg] at W X
 refine e7 12 [0,1,0,1] (mc 6 U (mc 0 U mn)) U<|rS (SX (bf (xs:=[(0,.tmp 28),(1,.tmp 34)]) (cs:=(ag.cells (ag.mk (((eE ts f.toNat k).Lo)+x.kN.Lo) (((eE ts f.toNat k).Hi)+x.kN.Hi)))) U U (bg gZ U)) U U)<|Sc U c_ U<|RK G<|av<|rP 12 [0,1,0,1] (mc 5 U (mc 0 U mn)) ?_
 refine rS (SX (bf (xs:=[(0,.tmp 41),(1,.tmp 47)]) (cs:=(ag.cells (ag.mk (((gK ts f.toNat k).Lo)+x.mj.Lo) (((gK ts f.toNat k).Hi)+x.mj.Hi)))) U U (bg gZ U)) U U)<|HQ U c_ U<|aH<|aN<|KK E ?_
 have L:(ag.cells (ag.mk (((eE ts f.toNat k).Lo)+x.kN.Lo) (((eE ts f.toNat k).Hi)+x.kN.Hi)))=(ag.cells (eE ts f.toNat (k+1))):=by rw [pL hx]; rfl
 rw [L]
 have M:(ag.cells (ag.mk (((gK ts f.toNat k).Lo)+x.mj.Lo) (((gK ts f.toNat k).Hi)+x.mj.Hi)))=(ag.cells (gK ts f.toNat (k+1))):=by rw [qg hx]; rfl
 rw [M]
 refine av<|rP 3 [] mn ?_
 refine aH ?_
 have N:(vI (f+(((k+1):Nat):Int)))=(vI ((f+(k:Int))+1)):=by exact cI I
 refine bp (B ⟨(k+1),(by first|omega|(simp only []; omega))⟩ _ _ _ U os (cY 7<|bk U N<|dG.nil _) (aU [1,2,3,4,5,6]))
end
section
open Go.RowKit
theorem Pn (l:bj) (kA:OA) (kC:Nat) (az:List RA) (cA:OA) (cC:Nat) (bA:OA) (bC:Nat) (hin:eH l az):
 dH Tryz.prog 106 [(vA (bT.cells (ki l kA kC cA cC bA bC)))] [(rd kA l.aL.length 9 (l.aL.map au.cells)),(rd cA l.ak.length 2 (List.zipWith ax.cells l.ak az)),(d_ (bw ax.gL l.ak az)),(rd bA l.aa.length 4 (l.aa.map bM.cells))] (vB (decide (eV l))):=by
 have R:=hin.te
 have P:=hin.s_
 have N:=hin.oY
 have O:=hin.s7
 refine bH kr Tryz.func106 U U fun T Q hQ hN=>?_
 try dsimp only
 refine WS fun _ G=>eK U fun S=>bI 1 U<|RK G<|WS fun _ A=>rP 2 [] (mc 0 U mn) ?_
 refine ew (xs:=[.tmp 4]) (cs:=[(vI l.eI)]) U dD kl U U U U (by simp [Value.cells]) U U fun H=>?_
 refine rS (CL (dH.eq (il 1 5000 ([l.eI]) (some ⟨H,0,none⟩) 1 (by (simp; done))) cz) (aJ (bo 0 U U (by simp [bO]) U)<|aK) U) ?_
 refine rP 1 [] mn ?_
 refine cM (t:=7) U (aW fun K=>?_) (aV fun K=>?_)
 ·refine rP 36 [] mn ?_
  refine RK A<|ar<|Q1 hQ U U U ?_
  exact cB (bx (by unfold eV; omega)).symm
 refine rP 3 [] (mc 1 U mn) ?_
 refine ew (xs:=[.tmp 10]) (cs:=[(vI (l.ak.length:Int))]) U dD kl U U U U (by simp [Value.cells]) U U fun AA=>?_
 refine rS (CL (dH.eq (il 1 4 ([(l.ak.length:Int)]) (some ⟨AA,0,none⟩) 1 (by (simp; done))) cz) (aJ (bo 0 U U (by simp [bO]) U)<|aK) U) ?_
 refine rP 2 [] mn ?_
 refine cM (t:=14) U (aW fun L=>?_) (aV fun L=>?_)
 ·refine rP 29 [] mn ?_
  refine RK A<|ar<|Q1 hQ U U U ?_
  exact cB (bx (by unfold eV; omega)).symm
 refine rP 3 [] (mc 2 U mn) ?_
 refine ew (xs:=[.tmp 17]) (cs:=[(vI (l.aa.length:Int))]) U dD kl U U U U (by simp [Value.cells]) U U fun J=>?_
 refine rS (CL (dH.eq (il 1 6 ([(l.aa.length:Int)]) (some ⟨J,0,none⟩) 1 (by (simp; done))) cz) (aJ (bo 0 U U (by simp [bO]) U)<|aK) U) ?_
 refine rP 2 [] mn ?_
 refine cM (t:=21) U (aW fun M=>?_) (aV fun M=>?_)
 ·refine rP 22 [] mn ?_
  refine RK A<|ar<|Q1 hQ U U U ?_
  exact cB (bx (by unfold eV; omega)).symm
 refine rP 6 [] (mc 3 U mn) ?_
 refine ew (xs:=[.tmp 27]) (cs:=[(vI l.bK)]) U dD kl U U U U (by simp [Value.cells]) U U fun B=>?_
 refine rS (CL (dH.eq (il 0 ((l.aa.length:Int)-1) ([l.bK]) (some ⟨B,0,none⟩) 1 (by (simp; done))) cz) (aJ (bo 0 U U (by simp [bO]) U)<|aK) U) ?_
 refine rP 2 [] mn ?_
 refine cM (t:=31) U (aW fun E=>?_) (aV fun E=>?_)
 ·refine rP 12 [] mn ?_
  refine RK A<|ar<|Q1 hQ U U U ?_
  exact cB (bx (by unfold eV; omega)).symm
 refine rP 2 [] (mc 4 U mn) ?_
 refine ew (xs:=[.tmp 33]) (cs:=[(vI l.dj)]) U dD kl U U U U (by simp [Value.cells]) U U fun C=>?_
 refine rS (CL (dH.eq (il 0 3 ([l.dj]) (some ⟨C,0,none⟩) 1 (by (simp; done))) cz) (aJ (bo 0 U U (by simp [bO]) U)<|aK) U) ?_
 refine rP 2 [] mn ?_
 refine cM (t:=37) U (aW fun F=>?_) (aV fun F=>?_)
 ·refine rP 6 [] mn ?_
  refine RK A<|ar<|Q1 hQ U U U ?_
  exact cB (bx (by unfold eV; omega)).symm
 refine rP 2 [] (mc 5 U mn) ?_
 refine ew (xs:=[.tmp 39]) (cs:=[(vI l.ck)]) U dD kl U U U U (by simp [Value.cells]) U U fun D=>?_
 refine rS (CL (dH.eq (il 0 3 ([l.ck]) (some ⟨D,0,none⟩) 1 (by (simp; done))) cz) (aJ (bo 0 U U (by simp [bO]) U)<|aK) U) ?_
 refine rP 2 [] mn ?_
 refine RK A<|ar<|Q1 hQ U U U ?_
 exact cB (fu.2 (by unfold eV; omega))
theorem N3 (l:bj) (kA:OA) (kC:Nat) (az:List RA) (cA:OA) (cC:Nat) (bA:OA) (bC:Nat) (hin:eH l az):
 dH Tryz.prog 107 [(vA (bT.cells (ki l kA kC cA cC bA bC)))] [(rd kA l.aL.length 9 (l.aL.map au.cells)),(rd cA l.ak.length 2 (List.zipWith ax.cells l.ak az)),(d_ (bw ax.gL l.ak az)),(rd bA l.aa.length 4 (l.aa.map bM.cells))] (vB (decide (∀ c∈l.ak,eX c))):=by
 have H:=hin.te
 have G:=hin.s_
 have E:=hin.oY
 have F:=hin.s7
 refine bH kr Tryz.func107 U U fun K Q hQ hN=>?_
 try dsimp only
 refine WS fun _ C=>eK U fun J=>bI 1 U<|RK C<|WS fun _ D=>rP 2 [] (mc 0 U mn) ?_
 refine rS (CL (zZ l.ak az cA cC (Value.func (.func 109) [].toArray [].toArray) (fun m=>(!(decide (eX m)))) (d_ (bw ax.gL l.ak az)) (by intro AA m a B A; exact lf (fi:=[]) (ca:=[]) (Rj l.ak az AA m a (by exact B) (by exact A) (by exact hin.Se _ _ _ B A))) asm asm) (On 2 3 3 U U U U U U) U) ?_
 refine rP 2 [] mn ?_
 refine RK D<|ar<|Q1 hQ U U U ?_
 exact cB (by rw [Bool.eq_iff_iff,decide_eq_true_eq]; exact CS)
theorem Oh (b:bM) (l:bj) (kA:OA) (kC:Nat) (az:List RA) (cA:OA) (cC:Nat) (bA:OA) (bC g1:Nat) (hin:eH l az) (htr:du l.aL=true):
 dH Tryz.prog 113 [(vA (bM.cells b)),(vP g1)] [(rd kA l.aL.length 9 (l.aL.map au.cells)),(rd cA l.ak.length 2 (List.zipWith ax.cells l.ak az)),(d_ (bw ax.gL l.ak az)),(rd bA l.aa.length 4 (l.aa.map bM.cells)),(cw g1 28 (bT.cells (ki l kA kC cA cC bA bC)))] (vB (!(decide (j_ l b)))):=by
 have J:=hin.te
 have H:=hin.s_
 have F:=hin.oY
 have G:=hin.s7
 have AA:=hin.side
 refine bH kr Tryz.func113 U U fun M Q hQ hN=>?_
 try dsimp only
 refine WS fun _ C=>eK U fun K=>bI 1 U<|RK C<|WS fun _ D=>bI 1 U<|rS (UB (bG.cells (bG.mk (aR.mk kA l.aL.length kC))) 5 U cq U U U)<|bI 1 U<|rS (LP (cE.cells b.mR) 0 U cq U U U)<|rS (CL (Re l.aL kA kC b.mR asm asm) (bq [1]) U)<|bI 3 U<|AL U ed fun L=>fK U c_ U<|bI 1 U<|RK D<|WS fun _ B=>rP 3 [] mn ?_
 refine cg (t:=16) U (bu fun A=>?_) (br fun A=>?_)
 ·refine rP 11 [] mn ?_
  refine RK B<|ar<|Q1 hQ U U U ?_
  (refine cB ?_; rw [bx (fun h:j_ l b=>A ((EM htr).2 h.1))]; rfl)
 refine rP 6 [0,1] (mr 6 U (mc 1 U mn)) ?_
 refine ew (xs:=[.tmp 22]) (cs:=[(vI b.kb)]) U dD kl U U U U (by simp [Value.cells]) U U fun E=>?_
 refine rS (CL (dH.eq (il 0 ((l.ak.length:Int)-1) ([b.kb]) (some ⟨E,0,none⟩) 1 (by (simp; done))) cz) (aJ (bo 0 U U (by simp [bO]) U)<|aK) U) ?_
 refine rP 3 [] mn ?_
 refine RK B<|ar<|Q1 hQ U U U ?_
 (refine cB ?_; refine congrArg Bool.not (fu.2 ⟨fun h=>⟨(EM htr).1 A,I,I⟩,fun h=>by have:=h.2; omega⟩))
theorem Oo (l:bj) (kA:OA) (kC:Nat) (az:List RA) (cA:OA) (cC:Nat) (bA:OA) (bC:Nat) (hin:eH l az) (htr:du l.aL=true):
 dH Tryz.prog 111 [(vA (bT.cells (ki l kA kC cA cC bA bC)))] [(rd kA l.aL.length 9 (l.aL.map au.cells)),(rd cA l.ak.length 2 (List.zipWith ax.cells l.ak az)),(d_ (bw ax.gL l.ak az)),(rd bA l.aa.length 4 (l.aa.map bM.cells))] (vB (decide (∀ b∈l.aa,j_ l b))):=by
 have H:=hin.te
 have G:=hin.s_
 have E:=hin.oY
 have F:=hin.s7
 refine bH kr Tryz.func111 U U fun AA Q hQ hN=>?_
 try dsimp only
 refine WS fun _ B=>eK U fun A=>bI 1 U<|RK B<|WS fun _ C=>rP 2 [] (mc 0 U mn) ?_
 refine rS (FU U) ?_
 refine rS (CL (zt l.aa bA bC (Value.func (.func 113) [].toArray [(vP A)].toArray) (fun D=>(!(decide (j_ l D)))) (d_ [(rd kA l.aL.length 9 (l.aL.map au.cells)),(rd cA l.ak.length 2 (List.zipWith ax.cells l.ak az)),(d_ (bw ax.gL l.ak az)),(rd bA l.aa.length 4 (l.aa.map bM.cells)),(cw A 28 (bT.cells (ki l kA kC cA cC bA bC)))]) (by intro D _; exact lf (fi:=[]) (ca:=[(vP A)]) (jX (Oh D l kA kC az cA cC bA bC A (by first|assumption|omega) (by first|assumption|omega)) (bq [0,1,2,3,4]))) asm) (g_ 4 U U<|aJ (jT (bq [1,2,3,4,0]))<|aK) U) ?_
 refine rP 2 [] mn ?_
 refine RK C<|ar<|Q1 hQ U U U ?_
 exact cB (by rw [Bool.eq_iff_iff,decide_eq_true_eq]; exact GJ)
theorem Hj (l:bj) (kA:OA) (kC:Nat) (az:List RA) (cA:OA) (cC:Nat) (bA:OA) (bC:Nat) (n:Int) (hin:eH l az) (htr:du l.aL=true) (hbk: ∀ b∈l.aa,j_ l b) (hn:0≤n∧n<(l.aa.length:Int)):
 dH Tryz.prog 66 [(vA (bT.cells (ki l kA kC cA cC bA bC))),(vI n)] [(rd kA l.aL.length 9 (l.aL.map au.cells)),(rd cA l.ak.length 2 (List.zipWith ax.cells l.ak az)),(d_ (bw ax.gL l.ak az)),(rd bA l.aa.length 4 (l.aa.map bM.cells))] (vI (ly l n.toNat)):=by
 have P:=hin.te
 have N:=hin.s_
 have L:=hin.oY
 have M:=hin.s7
 have O:=hin.side
 refine bH kr Tryz.func66 U U fun AA Q hQ hN=>?_
 try dsimp only
 refine WS fun _ E=>eK U fun R=>bI 1 U<|RK E<|WS fun _ F=>rP 3 [] (mc 0 U mn) ?_
 obtain ⟨x,hx⟩:=aM l.aa ((n).toNat) I
 have J:=bP bM.cells hx
 refine rS (IA ((n).toNat) U (aA 4 U) xQ dc I I)<|rS (qA (((n).toNat)*4) U (aA 4 U) (Nat.mul_pos I dc) fT U)<|rS (lQ ((n).toNat) 0 (cE.cells x.mR) U cq (aA 4 U) J U dc U U)<|AL U Fb fun S=>fK U MQ U<|RK F<|WS fun _ G=>bI 1 U<|rS (LP (bG.cells (bG.mk (aR.mk kA l.aL.length kC))) 1 U cq U U U)<|e7 1 [] (mc 0 U mn) U<|rS (CL (Re l.aL kA kC x.mR asm asm) (bq [2]) U)<|bI 3 U<|AL U ed fun T=>fK U c_ U<|bI 1 U<|RK G<|ao fun _ C=>WS fun _ H=>rP 2 [] mn ?_
 refine RK H<|bV U (aW fun D=>?_) (aV fun D=>?_)
 ·refine WK C<|WS fun _ B=>rP 3 [] (mc 0 U mn) ?_
  refine RK B<|ar<|Q1 hQ U U U ?_
  (refine congrArg (Value.int .i64) ?_; rw [show n.toNat=0 by omega] at hx ⊢; rw [zd hx,(x5 htr (hbk _ (List.mem_of_getElem? hx)).1).2])
 refine dV cx [14] [] [] [1,2,3,4,5,6] [] U U U U U<|eS U (FA 0 U fT U)<|eS U (LP (bG.cells (bG.mk (aR.mk kA l.aL.length kC))) 1 U cq U U U)<|eS U (FA 3 U fT U)<|eS U (L1 (vS bA l.aa.length bC) 1 U cq U U)<|eS U (MV U)<|eS U (BI U (xL ⟨I,I⟩)) ?_
 obtain ⟨y,hy⟩:=aM l.aa (((n-1)).toNat) I
 have K:=bP bM.cells hy
 refine eS U (IA (((n-1)).toNat) U (aA 5 U) xQ dc I I)<|eS U (qA ((((n-1)).toNat)*4) U (aA 5 U) (Nat.mul_pos I dc) fT U)<|eS U (lQ (((n-1)).toNat) 0 (cE.cells y.mR) U cq (aA 5 U) K U dc U U)<|eS U (LW 0 U cq U U)<|eS U (CL (KB l.aL kA kC y.mR x.mR asm asm) (bq [2]) U)<|eS U (MV U)<|eS U (EX U)<|eS U (EX U)<|eJ U<|cv U fun T9 AB=>fK U c_ U<|aH (AB _ _ (aU [1,2,3,4,5,6]) ?_)
 refine fY U<|KK C<|WS fun _ A=>rP 3 [] (mc 0 U mn) ?_
 refine RK A<|ar<|Q1 hQ U U U ?_
 (refine congrArg (Value.int .i64) ?_; rw [AP I hx (by rw [show n.toNat-1=(n-1).toNat by omega]; exact hy),(lK htr ⟨(hbk _ (List.mem_of_getElem? hy)).1,(hbk _ (List.mem_of_getElem? hx)).1⟩).2])
theorem NK (l:bj) (kA:OA) (kC:Nat) (az:List RA) (cA:OA) (cC:Nat) (bA:OA) (bC:Nat) (hin:eH l az) (htr:du l.aL=true) (hbk: ∀ b∈l.aa,j_ l b):
 dH Tryz.prog 114 [(vA (bT.cells (ki l kA kC cA cC bA bC)))] [(rd kA l.aL.length 9 (l.aL.map au.cells)),(rd cA l.ak.length 2 (List.zipWith ax.cells l.ak az)),(d_ (bw ax.gL l.ak az)),(rd bA l.aa.length 4 (l.aa.map bM.cells))] (vB (decide (∀ i,i<l.aa.length→1≤ly l i))):=by
 have V:=hin.te
 have AA:=hin.s_
 have S:=hin.oY
 have T:=hin.s7
 refine bH kr Tryz.func114 U U fun X Q hQ hN=>?_
 try dsimp only
 refine WS fun _ J=>eK U fun W=>bI 1 U<|RK J<|ao fun _ K=>WS fun _ L=>rP 4 [] (mc 0 U mn) ?_
 refine RK L<|aF ?_
 have A:(0≤l.aa.length)∧(∀ j,j<0→1≤ly l j):=by exact ⟨Nat.zero_le _,fun j hj=>absurd hj (Nat.not_lt_zero _)⟩
 refine bZ (ι:={z:Nat // (z≤l.aa.length)∧(∀ j,j<z→1≤ly l j)}) [1,6] [0,1,2,3,4] U U (fun z=>[(7,(vI (z.1:Int)))]) (fun z=>[]) (fun _=>rfl) (fun _=>rfl) (fun z=>l.aa.length-z.1) ⟨0,A⟩ (bE U) (aU [0,1,2,3,4]) ?_
 clear A
 rintro ⟨i,⟨P,B⟩⟩ J5 AB
 try dsimp only
 refine WS fun _ M=>rP 1 [] mn ?_
 refine RK M<|ao fun _ N=>bV U (aW fun R=>?_) (aV fun R=>?_)
 ·refine bQ<|ai<|ai<|aI<|KK K<|WS fun _ G=>rP 1 [] mn ?_
  refine RK G<|ar<|Q1 hQ U U U ?_
  exact cB (c8 (fun j hj=>B j I)).symm
 refine WK N<|ao fun _ O=>aF<|WS fun _ D=>bI 2 U<|RK D<|WS fun _ E=>e7 2 [] (mc 0 U mn) U<|rS (CL (Hj l kA kC az cA cC bA bC (i:Int) hin htr hbk I) (bq [1,2,3,4]) U)<|rP 1 [] mn ?_
 refine RK E<|cH U (aV fun C=>?_) (aW fun C=>?_)
 ·refine WS fun _ F=>rP 1 [] mn ?_
  refine RK F<|ar<|Q1 hQ U U U ?_
  exact cB (bx (fun h=>by have:=h i I; simp only [Int.toNat_natCast] at C; omega)).symm
 refine ct<|aN<|KK O<|av<|rP 2 [] mn ?_
 refine aH ?_
 have H:(vI (((i+1):Nat):Int))=(vI ((i:Int)+1)):=by exact cI I
 refine bp (AB ⟨(i+1),⟨I,fun j hj=>by rcases Nat.lt_or_ge j i with q|q; exact B j q; (obtain rfl:j=i:=by omega); simp only [Int.toNat_natCast] at C; omega⟩⟩ _ _ _ rfl os (dG.cons rfl<|dG.cons rfl<|bk rfl H<|dG.nil _) (aU [0,1,2,3,4]))
end
section
open Go.RowKit
theorem OU:
 dH Tryz.prog 92 [] [] (vA ((g9.cells (g9.mk (Value.func (.func 106) [].toArray [].toArray)))++(g9.cells (g9.mk (Value.func (.func 107) [].toArray [].toArray)))++(g9.cells (g9.mk (Value.func (.func 111) [].toArray [].toArray)))++(g9.cells (g9.mk (Value.func (.func 114) [].toArray [].toArray))))):=by
 refine bH kr Tryz.func92 U U fun D Q hQ hN=>?_
 try dsimp only
 refine WS fun _ A=>AL U Rg fun C=>RK A<|WS fun _ B=>rS (SX (bf (xs:=[(0,.func 106)]) (cs:=(g9.cells (g9.mk (Value.func (.func 106) [].toArray [].toArray)))) U U (bg Ey U)) U U)<|rS (SX (bf (xs:=[(0,.func 107)]) (cs:=(g9.cells (g9.mk (Value.func (.func 107) [].toArray [].toArray)))) U U (bg Ey U)) U U)<|rS (SX (bf (xs:=[(0,.func 111)]) (cs:=(g9.cells (g9.mk (Value.func (.func 111) [].toArray [].toArray)))) U U (bg Ey U)) U U)<|rS (SX (bf (xs:=[(0,.func 114)]) (cs:=(g9.cells (g9.mk (Value.func (.func 114) [].toArray [].toArray)))) U U (bg Ey U)) U U)<|rS (SX (bf (xs:=[(0,.tmp 1),(1,.tmp 2),(2,.tmp 3),(3,.tmp 4)]) (cs:=((g9.cells (g9.mk (Value.func (.func 106) [].toArray [].toArray)))++(g9.cells (g9.mk (Value.func (.func 107) [].toArray [].toArray)))++(g9.cells (g9.mk (Value.func (.func 111) [].toArray [].toArray)))++(g9.cells (g9.mk (Value.func (.func 114) [].toArray [].toArray))))) U U (bg RW U)) U U)<|fK U PR U<|RK B<|ar ?_
 exact Cs hQ [0] (mc 0 U mn) U U
theorem x3 (l:bj) (kA:OA) (kC:Nat) (az:List RA) (cA:OA) (cC:Nat) (bA:OA) (bC:Nat) (hin:eH l az):
 dH Tryz.prog 64 [(vA (bT.cells (ki l kA kC cA cC bA bC)))] [(rd kA l.aL.length 9 (l.aL.map au.cells)),(rd cA l.ak.length 2 (List.zipWith ax.cells l.ak az)),(d_ (bw ax.gL l.ak az)),(rd bA l.aa.length 4 (l.aa.map bM.cells))] (vI (dI l)):=by
 have A2:=hin.te
 have A0:=hin.s_
 have AO:=hin.oY
 have Ak:=hin.s7
 have A1:=hin.side
 refine bH kr Tryz.func64 U U fun w0 Q hQ hN=>?_
 try dsimp only
 refine WS fun _ m=>eK U fun b2=>bI 1 U<|RK m<|ao fun _ n=>WS fun _ o=>bI 1 U<|rS (LP (bG.cells (bG.mk (aR.mk kA l.aL.length kC))) 0 U cq U U U)<|rS (CL (B7 l.aL kA kC asm asm) (bq [1]) U)<|bI 1 U<|RK o<|WS fun _ p=>rP 2 [] mn ?_
 refine RK p<|cH U (bu fun B=>?_) (br fun B=>?_)
 ·refine WS fun _ q=>rP 2 [] mn ?_
  refine RK q<|ar<|Q1 hQ U U U ?_
  (refine cI ?_; rw [(yG B).2,yE (yG B).1])
 refine WK n<|ao fun _ s=>WS fun _ t=>?_
 have A:=DZ B
 refine rS (CL OU (aK) U)<|bI 1 U<|RK t<|aF<|qJ 5<|kW fun R9 u=>WS fun _ C=>rS (SX (gn (r:= .bool true) U U U qq) U U)<|RK C<|ao fun _ D=>aS U<|WK D<|ao fun _ E=>aF<|WS fun _ F=>rS (SX (uq (vs:=(g9.cells (g9.mk (Value.func (.func 106) [].toArray [].toArray)))) 0 U U U E9 cq U dc U) U U)<|AL U Es fun x=>fK U En U<|RK F<|WS fun _ G=>e7 3 [0,1] (mc 0 U (mc 1 U mn)) U<|rS (CL (Pn l kA kC az cA cC bA bC hin) (bq [2,3,4,5]) U)<|rP 1 [] mn ?_
 refine RK G<|cH U (bu fun g=>?_) (br fun g=>?_)
 ·refine WS fun _ H=>rP 1 [] mn ?_
  refine RK H<|ar<|Q1 hQ U U U ?_
  exact cI (q9 A fun h=>absurd h.head asm).symm
 refine ct<|aN<|KK E<|av<|rS (SX (gn (r:= .int .i64 1) U U U (ox ⟨dc,dc⟩)) U U)<|bI 1 U<|RK u<|kW fun R18 d=>WS fun _ AB=>rS (SX (gn (r:= .bool true) U U U qq) U U)<|RK AB<|ao fun _ J=>aS U<|WK J<|ao fun _ K=>aF<|WS fun _ L=>rS (SX (uq (vs:=(g9.cells (g9.mk (Value.func (.func 107) [].toArray [].toArray)))) 1 U U U E9 cq U dc U) U U)<|AL U Es fun y=>fK U En U<|RK L<|WS fun _ M=>e7 3 [0,1] (mc 0 U (mc 2 U mn)) U<|rS (CL (N3 l kA kC az cA cC bA bC hin) (bq [3,4,5,6]) U)<|rP 1 [] mn ?_
 refine RK M<|cH U (bu fun i=>?_) (br fun i=>?_)
 ·refine WS fun _ N=>rP 1 [] mn ?_
  refine RK N<|ar<|Q1 hQ U U U ?_
  exact cI (q9 A fun h=>absurd h.clock asm).symm
 refine ct<|aN<|KK K<|av<|rS (SX (gn (r:= .int .i64 2) U U U (ox ⟨dc,dc⟩)) U U)<|bI 1 U<|RK d<|kW fun R27 e=>WS fun _ O=>rS (SX (gn (r:= .bool true) U U U qq) U U)<|RK O<|ao fun _ P=>aS U<|WK P<|ao fun _ R=>aF<|WS fun _ S=>rS (SX (uq (vs:=(g9.cells (g9.mk (Value.func (.func 111) [].toArray [].toArray)))) 2 U U U E9 cq U dc U) U U)<|AL U Es fun z=>fK U En U<|RK S<|WS fun _ T=>e7 3 [0,1] (mc 0 U (mc 3 U mn)) U<|rS (CL (Oo l kA kC az cA cC bA bC hin asm) (bq [4,5,6,7]) U)<|rP 1 [] mn ?_
 refine RK T<|cH U (bu fun j=>?_) (br fun j=>?_)
 ·refine WS fun _ AA=>rP 1 [] mn ?_
  refine RK AA<|ar<|Q1 hQ U U U ?_
  exact cI (q9 A fun h=>absurd h.ui asm).symm
 refine ct<|aN<|KK R<|av<|rS (SX (gn (r:= .int .i64 3) U U U (ox ⟨dc,dc⟩)) U U)<|bI 1 U<|RK e<|kW fun R36 f=>WS fun _ V=>rS (SX (gn (r:= .bool true) U U U qq) U U)<|RK V<|ao fun _ W=>aS U<|WK W<|ao fun _ X=>aF<|WS fun _ Y=>rS (SX (uq (vs:=(g9.cells (g9.mk (Value.func (.func 114) [].toArray [].toArray)))) 3 U U U E9 cq U dc U) U U)<|AL U Es fun AC=>fK U En U<|RK Y<|WS fun _ Z=>e7 3 [0,1] (mc 0 U (mc 4 U mn)) U<|rS (CL (NK l kA kC az cA cC bA bC hin asm asm) (bq [5,6,7,8]) U)<|rP 1 [] mn ?_
 refine RK Z<|cH U (bu fun k=>?_) (br fun k=>?_)
 ·refine WS fun _ a=>rP 1 [] mn ?_
  refine RK a<|ar<|Q1 hQ U U U ?_
  exact cI (q9 A fun h=>absurd h.NW asm).symm
 refine ct<|aN<|KK X<|av<|rS (SX (gn (r:= .int .i64 4) U U U (ox ⟨dc,dc⟩)) U U)<|bI 1 U<|RK f<|kW fun R45 w=>WS fun _ b=>rS (SX (gn (r:= .bool false) U U U qq) U U)<|RK b<|ao fun _ v=>cp U<|bQ<|ai<|ai<|aI<|KK s<|WS fun _ c=>rP 1 [] mn ?_
 refine RK c<|ar<|Q1 hQ U U U ?_
 exact cI (xU A (yx asm asm asm asm)).symm
theorem BM (lo hi:Int) (f:Value) (p:Int→Bool) (X:aw) (r:Int) (hf: ∀ x0,0≤x0∧x0<hi→CR Tryz.prog f [.int .i64 x0] [X] (.bool (p x0))) (hb:0≤lo∧lo≤r∧r≤hi∧hi≤100000000) (hno: ∀ x,lo≤x→x<r→p x=false) (hyes: ∀ x,r≤x→x<hi→p x=true):
 dH Tryz.prog 95 [(vI lo),(vI hi),f] [X] (vI r):=by
 refine bH kr Tryz.func95 U U fun N Q hQ hN=>?_
 try dsimp only
 refine WS fun _ F=>rP 1 [] mn ?_
 refine RK F<|ao fun _ G=>aF ?_
 have A:(lo≤lo∧lo≤r)∧(r≤hi∧hi≤hi):=by omega
 refine bZ (ι:={z:Int×Int // (lo≤z.1∧z.1≤r)∧(r≤z.2∧z.2≤hi)}) [2] [0] U U (fun z=>[(0,(vI z.1.1)),(1,(vI z.1.2))]) (fun z=>[]) (fun _=>rfl) (fun _=>rfl) (fun z=>(z.1.2-z.1.1).toNat) ⟨(lo,hi),A⟩ (bE U) (aU [0]) ?_
 clear A
 rintro ⟨⟨a,b⟩,⟨B,C⟩⟩ J3 D
 try dsimp only at B C
 try dsimp only
 refine ao fun _ H=>WS fun _ AA=>rP 3 [] mn ?_
 refine RK AA<|bV U (aW fun M=>?_) (aV fun M=>?_)
 ·refine bQ<|ai<|ai<|aI<|KK G<|WS fun _ L=>rP 2 [] mn ?_
  refine RK L<|ar<|Q1 hQ U U U ?_
  exact cI I
 refine WK H<|aF<|WS fun _ J=>bI 4 U<|rS (BI U (uk I I I))<|bI 2 U<|RK J<|WS fun _ K=>rP 2 [] mn ?_
 refine rS (SX (qk U U U (hf (a+((b-a)/2)) I) (bq [0])) U U)<|RK K<|cH U (fun hp=>?_) (fun hp=>?_)
 ·refine av<|rP 2 [] mn ?_
  refine aH<|aN ?_
  refine bp (D ⟨(a,(a+((b-a)/2))),(by dsimp only; rcases Int.lt_or_le (a+(b-a)/2) r with q|q; (have E:=hno _ I q; (rw [E] at hp; cases hp)); (have E:=hyes _ q I; (refine ⟨⟨I,I⟩,I,I⟩)))⟩ _ _ _ rfl (by simp only []; omega) (bE rfl) (aU [0]))
 refine av<|rP 3 [] mn ?_
 refine aH<|aN ?_
 refine bp (D ⟨(((a+((b-a)/2))+1),b),(by dsimp only; rcases Int.lt_or_le (a+(b-a)/2) r with q|q; (have E:=hno _ I q; (refine ⟨⟨I,I⟩,I,I⟩)); (have E:=hyes _ q I; (rw [E] at hp; cases hp)))⟩ _ _ _ rfl (by simp only []; omega) (bE rfl) (aU [0]))
theorem Jb (u:Int) (c:ax) (sA:OA) (sC g1:Nat) (s:aG) (g2:Nat) (hc:eX c) (hu:0≤u∧u≤90000000):
 dH Tryz.prog 96 [(vI u),(vP g1),(vP g2)] [(rd sA c.bJ.length 3 (c.bJ.map cW.cells)),(cw g1 73 (dE.cells (dE.mk c.dC (aR.mk sA c.bJ.length sC)))),(cw g2 78 (aG.cells s))] (vB (decide (s.Read≤u+(iQ c u).Hi))):=by
 have C:=qQ hc hu
 refine bH kr Tryz.func96 U U fun D Q hQ hN=>?_
 try dsimp only
 refine WS fun _ A=>bI 1 U<|RK A<|ao fun _ B=>dw cx 10 kr<|lU 3 [] (mr 1 U mn) U<|dS (CL (El c sA sC u hc hu) (bq [0]) U)<|dS (SX (rY (v:=(vI ((iQ c u).Hi))) U U fT G_ U) U U)<|dP 5 [] (mr 2 U mn) ?_
 refine cK<|RK B<|ar ?_
 exact Q1 hQ U U U U
theorem JJ (u:Int) (c:ax) (sA:OA) (sC g1:Nat) (s:aG) (g2:Nat) (hc:eX c) (hu:0≤u∧u≤90000000):
 dH Tryz.prog 98 [(vI u),(vP g1),(vP g2)] [(rd sA c.bJ.length 3 (c.bJ.map cW.cells)),(cw g1 73 (dE.cells (dE.mk c.dC (aR.mk sA c.bJ.length sC)))),(cw g2 78 (aG.cells s))] (vB (decide (s.Read<u+(iQ c u).Lo))):=by
 have C:=qQ hc hu
 refine bH kr Tryz.func98 U U fun D Q hQ hN=>?_
 try dsimp only
 refine WS fun _ A=>bI 1 U<|RK A<|ao fun _ B=>dw cx 10 kr<|lU 3 [] (mr 1 U mn) U<|dS (CL (El c sA sC u hc hu) (bq [0]) U)<|dS (SX (rY (v:=(vI ((iQ c u).Lo))) U U fT IN U) U U)<|dP 5 [] (mr 2 U mn) ?_
 refine cK<|RK B<|ar ?_
 exact Q1 hQ U U U U
theorem zw (l:bj) (kA:OA) (kC:Nat) (az:List RA) (cA:OA) (cC:Nat) (bA:OA) (bC:Nat) (s:aG) (hin:eH l az) (hok:lL l) (hs:(0≤s.fz∧s.fz≤(l.aa.length:Int)-1)∧0≤s.Read∧s.Read≤86400000):
 dH Tryz.prog 67 [(vA (bT.cells (ki l kA kC cA cC bA bC))),(vA (aG.cells s))] [(rd kA l.aL.length 9 (l.aL.map au.cells)),(rd cA l.ak.length 2 (List.zipWith ax.cells l.ak az)),(d_ (bw ax.gL l.ak az)),(rd bA l.aa.length 4 (l.aa.map bM.cells))] (vA (ag.cells (cO l s))):=by
 have V:=hin.te
 have S:=hin.s_
 have P:=hin.oY
 have R:=hin.s7
 refine bH kr Tryz.func67 U U fun Z Q hQ hN=>?_
 try dsimp only
 refine WS fun _ AB=>eK U fun X=>eK U fun D=>AL U ed fun Y=>RK AB<|ao fun _ J=>dV cx [11,12] [] [] [0,1,2,3,4,5,6] [] U U U U U<|eS U (FA 2 U fT U)<|eS U (L1 (vS cA l.ak.length cC) 2 U cq U U)<|eS U (FA 3 U fT U)<|eS U (L1 (vS bA l.aa.length bC) 2 U cq U U)<|eS U (FA 0 U fT U)<|eS U (L1 (vI s.fz) 1 U cq U U) ?_
 obtain ⟨y,hy⟩:=aM l.aa ((s.fz).toNat) I
 have O:=bP bM.cells hy
 refine eS U (IA ((s.fz).toNat) U (aA 6 U) xQ dc I I)<|eS U (qA ((((s.fz).toNat)*4)+3) U (aA 6 U) (Nat.mul_pos I dc) fT U)<|eS U (iK ((s.fz).toNat) 3 (vI y.kb) U cq (aA 6 U) O U dc U) ?_
 have W:=(hok.ui _ (aP hy)).2
 obtain ⟨x,hx⟩:=aM l.ak ((y.kb).toNat) I
 obtain ⟨xa,F⟩:=aM az ((y.kb).toNat) I
 have N:(List.zipWith ax.cells l.ak az)[(y.kb).toNat]? =some (ax.cells x xa):=er hx F
 refine eS U (IA ((y.kb).toNat) U (aA 4 U) Ga dc I I)<|eS U (lQ ((y.kb).toNat) 0 (dE.cells (dE.mk x.dC (aR.mk xa.1 x.bJ.length xa.2))) U cq (aA 4 U) N U dc U U)<|eJ U<|cv U fun T6 L=>AL U Og fun E=>aH (L _ _ (aU [1,2,3,4,5,6,7]) ?_)
 refine cv U fun T8 M=>fK U QP U<|aH (M _ _ (aU [1,2,3,4,5,6,7]) ?_)
 refine fY U<|KK J<|WS fun _ K=>?_
 have A:=hok.clock _ (aP hx)
 have AA:=iL (p:=gJ x s.Read) (n:=86400001)
 have T:=iL (p:=gI x s.Read) (n:=86400001)
 refine rS (FU U) ?_
 refine rS (CL (BM 0 86400001 (Value.func (.func 96) [].toArray [(vP E),(vP D)].toArray) (fun B=>(decide (s.Read≤B+(iQ x B).Hi))) (d_ [(rd xa.1 x.bJ.length 3 (x.bJ.map cW.cells)),(cw E 73 (dE.cells (dE.mk x.dC (aR.mk xa.1 x.bJ.length xa.2)))),(cw D 78 (aG.cells s))]) (fI (gJ x s.Read) 86400001) (by intro B _; exact lf (fi:=[]) (ca:=[(vP E),(vP D)]) (jX (Jb B x xa.1 xa.2 E s D (by first|assumption|omega) (by first|assumption|omega)) (On 0 1 2 U U U U U U))) I (by intro z G hz; exact (lh A G I).1 hz) (by intro z hz H; exact (lh A I H).2.1 hz)) (aJ (jT (aJ (show js _ (rd xa.1 x.bJ.length 3 (x.bJ.map cW.cells)).holds from (df 6 U (bW hx F (by simp [ax.gL]))))<|g_ 0 U U<|g_ 2 U U<|aK))<|aK) U) ?_
 refine rS (FU U) ?_
 refine rS (CL (BM 0 86400001 (Value.func (.func 98) [].toArray [(vP E),(vP D)].toArray) (fun C=>(decide (s.Read<C+(iQ x C).Lo))) (d_ [(rd xa.1 x.bJ.length 3 (x.bJ.map cW.cells)),(cw E 73 (dE.cells (dE.mk x.dC (aR.mk xa.1 x.bJ.length xa.2)))),(cw D 78 (aG.cells s))]) (fI (gI x s.Read) 86400001) (by intro C _; exact lf (fi:=[]) (ca:=[(vP E),(vP D)]) (jX (JJ C x xa.1 xa.2 E s D (by first|assumption|omega) (by first|assumption|omega)) (On 0 1 2 U U U U U U))) I (by intro z G hz; exact (lh A G I).2.2.1 hz) (by intro z hz H; exact (lh A I H).2.2.2 hz)) (aJ (jT (aJ (show js _ (rd xa.1 x.bJ.length 3 (x.bJ.map cW.cells)).holds from (df 6 U (bW hx F (by simp [ax.gL]))))<|g_ 0 U U<|g_ 2 U U<|aK))<|aK) U) ?_
 refine rP 1 [] mn ?_
 refine rS (SX (bf (xs:=[(0,.tmp 18),(1,.tmp 21)]) (cs:=(ag.cells (ag.mk (fI (gJ x s.Read) 86400001) ((fI (gI x s.Read) 86400001)-1)))) U U (bg gZ U)) U U)<|sr U c_ U<|RK K<|ar<|Cs hQ [0] (mc 1 U mn) U ?_
 unfold cO rr; rw [xe hy hx]
end
section
open Go.RowKit
theorem sN (ln:bT) (ri:cU) (e:List Int) (tms:List TM) (e_A:OA) (e_C:Nat) (tb:List Nat) (t_A:OA) (t_C:Nat) (fA:OA) (fN fC:Nat) (bA:OA) (bN bC:Nat) (gw b:Nat) (g1 g2:Nat) (hb:b<tms.length) (htb:tb.length=tms.length):
 KP Tryz.prog 99 [] [(vP g1),(vP g2)] [(rd e_A e.length 1 (e.map iC)),(rd t_A tms.length 1 (List.zipWith gE tms tb)),(d_ (bw pM tms tb)),(cw gw 150 (b_.cells (b_.mk ln ri (aR.mk e_A e.length e_C) (aR.mk t_A tms.length t_C) (aR.mk fA fN fC) (aR.mk bA bN bC)))),(cw g1 108 [(vP gw)]),(cw g2 3 [(vI (b:Int))])] ([]:List (Int×ag)) (fun ys x ys'=> ∃ o,o∈iT (cS ln ri e tms) b∧x=Ng o∧ys'=ys++[o]) (fun ys=> ∀ o∈iT (cS ln ri e tms) b,o∈ys):=by
 refine E1 kr Tryz.func99 U U fun l J Z A0 d Q hY V AA hQ hN=>?_
 try dsimp only
 refine ao fun _ X=>ao fun _ R=>dw cx 12 kr<|lU 2 [] (mr 5 U mn) U<|dS (SX (cQ U U) U U)<|lU 4 [0,1] (mr 4 U (mr 5 U mn)) U<|dS (SX (cQ U U) U U)<|dP 3 [] (mr 4 U mn) ?_
 refine dS (SX (bf (xs:=[(0,.tmp 11),(1,.tmp 16)]) (cs:=(ag.cells (ag.mk ri.Start ri.gd))) U U (bg gZ U)) U U)<|cK<|yc (k:=([]:List (Int×ag))) (k':=(([]:List (Int×ag))++[((-1),(ag.mk ri.Start ri.gd))])) 0 (by first|exact hsz|exact Nat.le_refl _) hY V AA U U U (by exact ⟨(-1,⟨ri.Start,ri.gd⟩),cJ ..,U,U⟩) U U (fun B3 N M=>?_) (fun B3 N M=>?_)
 rotate_left 1
 ·refine rP 1 [] mn ?_
  refine RK R<|aS U<|ar ?_
  refine hQ _ _ _ (jZ (vs:=[]) trivial fun w hs=>D8 0 U N M hs)
 refine bI 1 U<|RK R<|cp U<|WK X<|ao fun _ Y=>dw cx 7 kr<|lU 1 [] (mr 5 U mn) U<|dS (SX (cQ U U) U U)<|dP 3 [0,1] (mr 4 U (mr 6 U mn)) ?_
 obtain ⟨x,hx⟩:=aM tms b I
 obtain ⟨xa,L⟩:=aM tb b I
 have a:(List.zipWith gE tms tb)[b]? =some (gE x xa):=er hx L
 refine dS (IA b U (aA 2 U) xP dc I I)<|dS (iK b 0 (Value.map (some xa)) U cq (aA 2 U) a U dc U)<|cK<|p9 (kV:=iV) (m:=cR jY x) 3 U U su U ⟨⟨(kh iV xa (cR jY x)),(bW hx L (by simp [pM])),U⟩,fun h=>h⟩ (show js _ (kh iV xa (cR jY x)).holds from df 3 U (bW hx L (by simp [pM]))) U fun j=>?_
 try dsimp only
 refine RK Y<|aF ?_
 have G:(∀ o∈x,o∈x∨o∈(([]:List (Int×ag))++[((-1),(ag.mk ri.Start ri.gd))]))∧(∀ o∈x,o∈x)∧(J (([]:List (Int×ag))++[((-1),(ag.mk ri.Start ri.gd))]) B3)∧(Fo A0 d B3)∧((-1,(⟨ri.Start,ri.gd⟩:ag))∈(([]:List (Int×ag))++[((-1),(ag.mk ri.Start ri.gd))])):=by exact ⟨fun o ho=> .inl ho,fun o ho=>ho,asm,asm,sm⟩
 refine bZ (ι:={z:TM×(List (Int×ag))×aw // (∀ o∈x,o∈z.1∨o∈z.2.1)∧(∀ o∈z.1,o∈x)∧(J z.2.1 z.2.2)∧(Fo A0 d z.2.2)∧((-1,(⟨ri.Start,ri.gd⟩:ag))∈z.2.1)}) [0,1,2,27] [2,3,4,6,7] U U (fun z=>[]) (fun z=>[(Cr iV j xa (cR jY x) (cR jY z.1.1) none),z.1.2.2]) (fun _=>rfl) (fun _=>rfl) (fun z=>z.1.1.length) ⟨(x,(([]:List (Int×ag))++[((-1),(ag.mk ri.Start ri.gd))]),B3),G⟩ (dG.nil _) (aU [2,3,4,6,7,0,1]) ?_
 clear G
 rintro ⟨⟨left,ys,A⟩,⟨B,C,D,E,F⟩⟩ J8 W
 try dsimp only at B C D E F
 try dsimp only
 refine WS fun _ S=>oF (iM s9).inj (f:=jY) 5 U U U U (fun T=>?_) (fun i z hm hn=>?_)
 ·refine rP 1 [] mn ?_
  refine RK S<|ao fun _ c=>cp U<|bQ<|ai<|ai<|aI ?_
  refine hN _ _ _ (jZ (vs:=[]) trivial fun w hs=>O0 6 U (by exact Fv hx B T F) D E hs)
 try dsimp only
 refine bI 1 U<|RK S<|ao fun _ O=>aS U<|WK O<|aF<|WS fun _ P=>rS (SX (oh 5 U U U) U U)<|bI 2 U<|AL U ed fun g=>bI 1 U<|fK U c_ U<|RK P<|WS fun _ K=>rP 3 [] (mc 0 U mn) ?_
 refine yc (k:=ys) (k':=(ys++[(i,z)])) 7 (by first|exact hsz|exact Nat.le_refl _) hY D E U U U (by exact ⟨(i,z),(wN hx).2 (.inr (C _ hm)),U,U⟩) U U (fun B15 AB H=>?_) (fun B15 AB H=>?_)
 rotate_left 1
 ·refine rP 1 [] mn ?_
  refine RK K<|aS U<|ar ?_
  refine hQ _ _ _ (jZ (vs:=[]) trivial fun w hs=>D8 7 U AB H hs)
 refine rP 1 [] mn ?_
 refine RK K<|cp U<|ct<|aN<|ry 6 U py U ?_
 refine bp (W ⟨((eY left i),(ys++[(i,z)]),B15),⟨FG hn hm B,mA C,asm,asm,by simp [F]⟩⟩ _ _ _ U (mH hm) (bE U) (aU [1,2,3,4,5,6,7]))
theorem uV (gw b:Nat):
 rU Tryz.prog 71 [(vP gw),(vI (b:Int))] [] (fun (x:Nat×Nat)=>(Value.func (.func 99) [].toArray [(Value.pointer (some ⟨x.1,0,none⟩)),(Value.pointer (some ⟨x.2,0,none⟩))].toArray)) (fun (x:Nat×Nat)=>True) (fun (x:Nat×Nat)=>[(cw x.1 108 [(vP gw)]),(cw x.2 3 [(vI (b:Int))])]):=by
 refine gp kr Tryz.func71 U U fun E Q hQ hN=>?_
 try dsimp only
 refine WS fun _ A=>wu U U fun C=>wu U U fun D=>bI 1 U<|RK A<|WS fun _ B=>rS (FU U)<|rP 1 [] mn ?_
 refine RK B<|ar<|LX hQ (C,D) [1,0] [] mn U U U U ?_
 trivial
theorem IZ (gw b:Nat):
 rU Tryz.prog 45 [(vP gw),(vI (b:Int))] [] (fun (x:Nat×Nat)=>(Value.func (.func 70) [].toArray [(Value.pointer (some ⟨x.1,0,none⟩)),(Value.pointer (some ⟨x.2,0,none⟩))].toArray)) (fun (x:Nat×Nat)=>True) (fun (x:Nat×Nat)=>[(cw x.1 108 [(vP gw)]),(cw x.2 3 [(vI (b:Int))])]):=by
 refine gp kr Tryz.func45 U U fun E Q hQ hN=>?_
 try dsimp only
 refine WS fun _ A=>wu U U fun C=>wu U U fun D=>bI 1 U<|RK A<|WS fun _ B=>rS (FU U)<|rP 1 [] mn ?_
 refine RK B<|ar<|LX hQ (C,D) [1,0] [] mn U U U U ?_
 trivial
end
end Go.Proofs.YtijpnoadncadoaaGreatDoor
