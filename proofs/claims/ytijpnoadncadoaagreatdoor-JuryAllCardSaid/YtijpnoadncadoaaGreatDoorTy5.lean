/-
 The statement juryAll_said, part 5 of 8: SeqO, RankP, TabP, NestS, Grp, JSeq, JTop, JMor, JFeeL, JAll, JAllL, ExL, Twin, Fresh, Rep, ExJ, Win6, JWin, JAlv, DrawB, MapD, Bits, B1, Jw1, IdxK, Jw2, S1, Frozen, MarkD, Marks, Follow, OpenM, V1, V3, B4, B2, B3, B5, B6, V2.
 Conditions: none.
-/
import Derived.Test.YtijpnoadncadoaaGreatDoorTy1
import Derived.Test.YtijpnoadncadoaaGreatDoorTy2
import Derived.Test.YtijpnoadncadoaaGreatDoorTy3
import Derived.Test.YtijpnoadncadoaaGreatDoorTy4
import Derived.KernelRfl
namespace Go.Proofs.YtijpnoadncadoaaGreatDoor
set_option maxRecDepth 100000
set_option maxHeartbeats 4000000
set_option linter.unusedVariables false
section
open Go.RowKit
abbrev UA (C:List av) (i j:Nat):List Nat:=i::j::(List.range C.length).filter fun k=>k != i&&k != j
def Tr {σ:Type} (w0:World) (P:Program) (l:Nat) (step:σ→List Value→av→σ→Prop) (J:σ→av→Prop) (Z:av→Prop):Prop:=
 ∀ k x R k' A w,step k x R k'→J k A→w0.heap.size≤w.heap.size→(bX [A,R]).holds w→YieldAt (Fw none) 0 P l x.toArray w fun e w'=>
  (e= .returned (.bool true)∧ ∃ B,J k' B∧Mv (bX [A,R]) B w w')∨(e= .returned (.bool false)∧ ∃ B,Z B∧Mv (bX [A,R]) B w w')
structure NB {σ:Type} (P:Program) (f:FuncId) (fi ca:List Value) (Cp:List av) (s0:σ) (step:σ→List Value→av→σ→Prop) (fin:σ→Prop):Prop where
 go:sf P f=true
 run: ∀ (l:Nat) (J:σ→av→Prop) (Z:av→Prop) (A0:av) (w:World),Tr w P l step J Z→J s0 A0→A0.holds w→(∀ A∈Cp,A.holds w)→(∀ A∈Cp,Ca A0 A.ro)→
  Calls P f (fi++Value.func (.yield l) #[] #[]::ca).toArray w (Bw J Z fin A0 w)
theorem Mh {σ:Type} {P:Program} {f:FuncId} {fn:Func} {c:Code} {fi ca:List Value} {Cp:List av} {s0:σ} {step:σ→List Value→av→σ→Prop} {fin:σ→Prop} (hgo:sf P f=true) (hf:P.funcs[f]? =some fn) (hb:fn.body=some c) (hn:Nat.ble (fi.length+ca.length+1) fn.ntmps=true)
 (h: ∀ (l:Nat) (J:σ→av→Prop) (Z:av→Prop) (A0:av) (w0:World) (Q:cZ),Tr w0 P l step J Z→J s0 A0→Fo A0 w0 A0→
  (∀ D L C,LJ ⟨P,none,fn.ntmps,⟨A0.wf,fun _=>True⟩,w0⟩ fn (Bw J Z fin A0 w0) D L C→KJ ⟨P,none,fn.ntmps,⟨A0.wf,fun _=>True⟩,w0⟩ (Q .ret) D L C)→
  (∀ D L C,LJ ⟨P,none,fn.ntmps,⟨A0.wf,fun _=>True⟩,w0⟩ fn (Bw J Z fin A0 w0) D L C→KJ ⟨P,none,fn.ntmps,⟨A0.wf,fun _=>True⟩,w0⟩ (Q .normal) D L C)→
  WJ ⟨P,none,fn.ntmps,⟨A0.wf,fun _=>True⟩,w0⟩ c Q [] (Nk (fi++Value.func (.yield l) #[] #[]::ca)) (A0::Cp.map av.ro)):NB P f fi ca Cp s0 step fin:=by
 refine ⟨hgo,fun l J Z A0 w hY hJ hA F E=>?_⟩
 refine zn hf hb (by simpa [Nat.add_assoc] using hn) (h l J Z A0 w · hY hJ (fun b hb=> .inl hb)) ?_
 have G:=qh F
 refine ⟨dE.refl _ _,fun A hA'=>?_,List.Pairwise.cons (fun B hB=>?_) G.sep,fun A hA' b hb=>?_,fun _ _ _ _=> .inr trivial⟩
 ·rcases bO.1 hA' with rfl|hA'
  ·exact hA
  ·exact G.holds A hA'
 ·obtain ⟨B',hB',rfl⟩:=cr.1 hB
  exact E B' hB'
 ·rcases bO.1 hA' with rfl|hA'
  ·exact .inr hb
  ·obtain ⟨B',hB',rfl⟩:=cr.1 hA'
   exact hb.elim
section
variable {E:eT} {ops:Array Oper} {Q:cZ} {rest:List Oper} {D:List Deferred} {L:List (Nat×Value)} {C:List av}
variable {d:Nat} {ty:TypeId} {ps:String} {af:Array Edge} {g:Option (Nat×Bool)}
/-- a call of yield -/
theorem H2 {σ:Type} {fop:Operand} {xs:Array Operand} {ts:Array TypeId} {l:Nat} {k k':σ} {vs:List Value} {step:σ→List Value→av→σ→Prop} {J:σ→av→Prop} {Z:av→Prop} {A0 A R:av} {C1:List av} (i j:Nat) (hS:E.S=⟨A0.wf,fun _=>True⟩) (hY:Tr E.w0 E.P l step J Z) (hJ:J k A) (hF:Fo A0 E.w0 A) (hg:j0 ops L g=true) (hf:ev L fop=some (.func (.yield l) #[] #[]))
 (hx:evs L xs.toList=some vs) (hk:step k vs R k') (hR:R.wr=true) (hn:decide (UA C i j).Nodup=true) (hC:o9 C (UA C i j)=some (A::R::C1)) (hd:Nat.blt d E.n=true)
 (k1: ∀ B,J k' B→Fo A0 E.w0 B→RJ E ops Q rest D ((d,.bool true)::L) (B::C1))
 (k2: ∀ B,Z B→Fo A0 E.w0 B→RJ E ops Q rest D ((d,.bool false)::L) (B::C1)):
 RJ E ops Q (⟨some d,.call {callee:= .value fop,args:=xs,argTypes:=ts},ty,ps,af,g⟩::rest) D L C:=by
 intro a w F N
 have AA:St E.S E.w0 ([A,R]++C1) w:=St.kh _ hn (pE hC) N
 have hs:=AA.tied
 have hd':d<E.n:=by rw [← Nat.blt_eq]; exact hd
 unfold rX
 rw [if_pos (ed F hg)]
 have O:xs.map a.eval=vs.toArray:=by
  have:=F.evs hx
  apply Array.ext'
  simp [this]
 obtain ⟨fn,tmps,assign,body,hy,hr⟩:=hY k vs R k' A w hk hJ hs.keeps.size (hs.holds _ ct)
 have H:(execOp a.eval ⟨some d,.call {callee:= .value fop,args:=xs,argTypes:=ts},ty,ps,af,g⟩).run E.P w= .ok (.round l fn tmps assign body) w:=by
  simp [execOp,resolve,F.ev hf,Deferred.ofValue,invoke,O,hy]
 refine ⟨fun _ _=>trivial,?_⟩
 rw [Oper.semAt_eq _ _ _ sm,H]
 refine ⟨fun h=>by simp at h,?_⟩
 have G: ∀ (B:av) (w':World),Mv (bX [A,R]) B w w'→Fo A0 E.w0 B:=fun B w' m b hb=>by
  rcases m.eW b hb with ⟨X,hX,K⟩|K
  ·rcases bO.1 hX with rfl|hX
   ·exact hF b K
   ·rw [cd] at hX; subst hX
    rcases AA.own X sm b (X.whole hR b K) with M|M
    ·exact .inr M
    ·rw [hS] at M; exact .inl (A0.j_ b M)
  ·exact .inr (Nat.le_trans hs.keeps.size K)
 have hr':RoundIn (Fw E.r) 0 E.P l fn tmps assign body w _:=hr
 refine hr'.mono fun e w' he=>?_
 rcases he with ⟨rfl,B,hB,m⟩|⟨rfl,B,hB,m⟩
 ·exact k1 B hB (G B w' m) _ _ (F.put hd' _) (hs.mv 0 U m)
 ·exact k2 B hB (G B w' m) _ _ (F.put hd' _) (hs.mv 0 U m)
end
theorem JQ {σ:Type} {E:eT} {Q:cZ} {D:g6} {L L0:di} {C F:List av} {g:Operand} {ps:Array Tmp} {assign body:Code} {f:FuncId} {fi ca:List Value} {Cp:List av} {s0:σ} {step:σ→List Value→av→σ→Prop} {fin_:σ→Prop} {ι κ:Type}
 (inv:σ→ι→Prop) (Ci:σ→ι→List av) (invx:Code→κ→Prop) (Cx:Code→κ→List av) (isJ isF:List Nat) (y0:ι)
 (hr:E.r=none) (hg:ev L g=some (.func (.func f) fi.toArray ca.toArray)) (hs:NB E.P f fi ca Cp s0 step fin_)
 (hnd:decide (isJ++isF).Nodup=true) (hJ:kh C isJ=Ci s0 y0) (hF:kh C isF=F) (h0:inv s0 y0) (hCp: ∀ A∈Cp,∃ B∈F,Js B A)
 (hps: ∀ k x R k',step k x R k'→x.length=ps.size) (hpn:ps.toList.all (fun t=>Nat.blt t E.n)=true) (hL:df L L0)
 (round: ∀ (k:σ) (x:List Value) (R:av) (k':σ) (y:ι) (l:Nat) (ra rb:Loop) (S:BS) (w0:World) (K:Act→World→Prop) (Qr:cZ),E.w0.heap.size≤w0.heap.size→step k x R k'→inv k y→
  (∀ L' C',WJ ⟨E.P,some l,E.n,S,w0⟩ body Qr [] L' (jc l (.loop rb)::C')→KJ ⟨E.P,some l,E.n,S,w0⟩ K [] L' (jc l (.loop ra)::C'))→
  (∀ y' L' C',inv k' y'→(∀ w,St S w0 C' w→St S w0 (jc l (.loop rb)::Ci k' y') w)→KJ ⟨E.P,some l,E.n,S,w0⟩ (Qr .normal) [] L' C')→
  (∀ id z L' C',invx (.exit id) z→(∀ w,St S w0 C' w→St S w0 (jc l (.loop rb)::Cx (.exit id) z) w)→KJ ⟨E.P,some l,E.n,S,w0⟩ (Qr (.exit id)) [] L' C')→
  (∀ z L' C',invx .ret z→(∀ w,St S w0 C' w→St S w0 (jc l (.loop rb)::Cx .ret z) w)→KJ ⟨E.P,some l,E.n,S,w0⟩ (Qr .ret) [] L' C')→
  WJ ⟨E.P,some l,E.n,S,w0⟩ assign (Exit.then K (fun _ _ _=>False)) [] (xZ ps.toList x L0) (jc l (.loop ra)::(Ci k y++[R])))
 (fin: ∀ r s y,fin_ s→inv s y→KJ E (Q .normal) (jE r::D) L0 (jc r (.deferred (some []))::(F++Ci s y)))
 (finx: ∀ r id z,invx (.exit id) z→KJ E (Q (.exit id)) (jE r::D) L0 (jc r (.deferred (some []))::(F++Cx (.exit id) z)))
 (finr: ∀ r z,invx .ret z→KJ E (Q .ret) (jE r::D) L0 (jc r (.deferred (some []))::(F++Cx .ret z))):WJ E (.rangeFunc g ps assign body) Q D L C:=by
 intro a w hf u
 refine wpIn_rangeFunc fun fn _=>?_
 show ∃ l jE w₁ d w₁' f args w₂,(Instr.enterLoop fn a.tmps ps assign body E.r).run E.P w= .ok (l,jE) w₁∧_
 rw [hr]
 obtain ⟨rec,G⟩: ∃ rec:LoopState→Option Code→Loop,rec=fun st pe=>{state:=st,pending:=pe,fn,tmps:=a.tmps,params:=ps,assign,body,defers:=w.heap.size}:=⟨_,rfl⟩
 obtain ⟨W1,T⟩: ∃ W1,(w.alloc (.deferred (some []))).alloc (.loop (rec .ready none))=W1:=⟨_,rfl⟩
 have A3:a.eval g= .func (.func f) fi.toArray ca.toArray:=hf.ev hg
 have q:(Instr.enterLoop fn a.tmps ps assign body none).run E.P w= .ok (w.heap.size+1,[jE w.heap.size]) W1:=by
  rw [← T,G]; exact run_enterLoop_outer _ _ _ _ _
 -- the state with the record and the block
 have AC:St E.S E.w0 ((jc (w.heap.size+1) (.loop (rec .ready none))::Ci s0 y0)++(jc w.heap.size (.deferred (some []))::F)) W1:=by
  have Y:St E.S E.w0 (Ci s0 y0++F) w:=St.kh (isJ++isF) hnd (by have Y:=hJ; have o:=hF; unfold Go.Proofs.YtijpnoadncadoaaGreatDoor.kh at Y o ⊢; rw [List.filterMap_append,Y,o]) u
  have hn:Kv w W1 [jc (w.heap.size+1) (.loop (rec .ready none)),jc w.heap.size (.deferred (some []))]:=by
   refine ⟨fun A hA=>?_,fun A hA b hb=>?_,?_⟩
   ·rcases bO.1 hA with rfl|hA
    ·show W1.heap[w.heap.size+1]? =_
     rw [← T]; have:=World.alloc_heap_new (w.alloc (.deferred (some []))) (.loop (rec .ready none)); rwa [World.size_alloc] at this
    ·simp only [cd] at hA; subst hA
     show W1.heap[w.heap.size]? =_
     rw [← T]; exact (Below.heap_alloc _ _ _ sm).trans (World.alloc_heap_new w _)
   ·rcases bO.1 hA with rfl|hA
    ·have:b=w.heap.size+1:=hb
     omega
    ·simp only [cd] at hA; subst hA
     have:b=w.heap.size:=hb
     omega
   ·refine List.Pairwise.cons (fun B hB b Y o=>?_) (List.pairwise_singleton _ _)
    simp only [cd] at hB; subst hB
    have X:b=w.heap.size+1:=Y
    have O:b=w.heap.size:=o
    omega
  have hk:dE no w W1:=by rw [← T]; exact (dE.alloc no w _).trans (dE.alloc no _ _)
  have o:=Y.grow hk hn
  refine o.perm ?_
  simp only [List.cons_append,List.nil_append]
  exact List.Perm.cons _ (List.perm_middle.symm)
 have i:=AC.tied
 obtain ⟨H,A8⟩:=List.pairwise_cons.1 i.sep
 have A1:=i.holds _ (ct ..)
 let J:σ→av→Prop:=fun k A=> ∃ y,inv k y∧A=bX (jc (w.heap.size+1) (.loop (rec .ready none))::Ci k y)
 let Z:av→Prop:=fun A=> ∃ c z,(c= .ret∨ ∃ id,c= .exit id)∧invx c z∧A=bX (jc (w.heap.size+1) (.loop (rec .done (some c)))::Cx c z)
 refine ⟨w.heap.size+1,[jE w.heap.size],W1,{target:= .fn (.func f) ca.toArray,args:=fi.toArray++ #[.func (.yield (w.heap.size+1)) #[] #[]]},W1,f,
  (fi++Value.func (.yield (w.heap.size+1)) #[] #[]::ca).toArray,W1,q,?_,fun _ _=>trivial,?_,fun h=>by simp at h,?_⟩
 ·simp only [resolve,A3]
  simp [Deferred.ofValue,Act.eval]
 ·have:fi.toArray++ #[Value.func (.yield (w.heap.size+1)) #[] #[]]++ca.toArray=(fi++Value.func (.yield (w.heap.size+1)) #[] #[]::ca).toArray:=by simp
  simp [invoke,mK hs.go]
 ·refine (o5 E.r (hs.run (w.heap.size+1) J Z _ W1 ?_ ⟨y0,h0,U⟩ A1 ?_ ?_)).mono ?_
  ·-- a round
   rintro k x R k' A W hx ⟨y,hy,rfl⟩ A2 hA
   have hl:W.heap[w.heap.size+1]? =some (.loop (rec .ready none)):=(hA.1 _ (ct ..)).1 _ (ct ..)
   have AO:=run_yield (P:=E.P) (args:=x.toArray) hl (by rw [G]; simpa using hps k x R k' hx)
   rw [G] at AO
   refine ⟨fn,_,assign,body,AO,roundIn_of_wpIn trivial ?_⟩
   let A:av:=bX [bX (jc (w.heap.size+1) (.loop (rec .ready none))::Ci k y),R]
   have A4:Fr E.n [] (xZ ps.toList x L0) {tmps:=(ps.zip x.toArray).foldl (fun tmps (t,a)=>tmps.setIfInBounds t a) a.tmps,defers:=[]}:=by
    have Y:=C7 ps.toList x L0 a.tmps (fun t ht=>by have:=cT.1 hpn t ht; rwa [Nat.blt_eq] at this) ⟨rfl,hf.size,fun t v hv=>hf.at_ t v (hL t v hv)⟩
    rw [← Array.foldl_toList]
    simpa using Y
   have p: ∀ (c:Option Code) (b:Bool),({rec .busy none with state:=if b then .ready else .done,pending:=c}:Loop)=rec (if b then .ready else .done) c:=fun c b=>by rw [G]
   have AA: ∀ (c:Option Code) (N:World) (C':List av) (S:BS),St S W (jc (w.heap.size+1) (.loop (rec .busy none))::C') N→
    ∃ M,(Instr.endRound (w.heap.size+1) c).run E.P N= .ok (.bool c.isNone) M∧St S W (jc (w.heap.size+1) (.loop (rec (if c.isNone then .ready else .done) c))::C') M:=fun c N C' S H=>by
    have AB:N.heap[w.heap.size+1]? =some (.loop (rec .busy none)):=H.holds _ (ct ..)
    refine ⟨_,run_endRound c AB,?_⟩
    have:=H.x7 (b:=w.heap.size+1) (A':=jc (w.heap.size+1) (.loop (rec (if c.isNone then .ready else .done) c))) 0 rfl rfl rfl (gU _) (fun _ h=>h) (World.putObj_heap_same (dA AB))
    rw [p]
    exact this
   refine round k x R k' y (w.heap.size+1) (rec .ready none) (rec .busy none) ⟨A.wf,A.eW⟩ W _ (roundPost E.P (w.heap.size+1) (fun e w'=>(e= .returned (.bool true)∧ ∃ B,J k' B∧Mv A B W w')∨(e= .returned (.bool false)∧ ∃ B,Z B∧Mv A B W w'))) (Nat.le_trans (Nat.le_trans u.keeps.size (by rw [← T]; simp; omega)) A2) hx hy ?_ ?_ ?_ ?_ _ _ A4 (by have:=(St.zu hA).je; simpa using this)
   ·intro L' C' hW a1 N j H
    have AB:N.heap[w.heap.size+1]? =some (.loop (rec .ready none)):=H.holds _ (ct ..)
    refine ⟨_,run_beginRound AB (by rw [G]),hW _ _ j ?_⟩
    have:=H.x7 (b:=w.heap.size+1) (A':=jc (w.heap.size+1) (.loop (rec .busy none))) 0 rfl rfl rfl (gU _) (fun _ h=>h) (World.putObj_heap_same (dA AB))
    have e:({rec .ready none with state:= .busy}:Loop)=rec .busy none:=by rw [G]
    rw [e]; exact this
   ·intro y' L' C' hy' hC' a1 N j H
    obtain ⟨M,X,O⟩:=AA none N _ _ (hC' _ H)
    exact ⟨_,M,X,.inl ⟨U,_,⟨y',hy',U⟩,Mv.of O⟩⟩
   ·intro id z L' C' hz hC' a1 N j H
    obtain ⟨M,X,O⟩:=AA (some (.exit id)) N _ _ (hC' _ H)
    exact ⟨_,M,X,.inr ⟨U,_,⟨_,z,.inr ⟨id,U⟩,hz,U⟩,Mv.of O⟩⟩
   ·intro z L' C' hz hC' a1 N j H
    obtain ⟨M,X,O⟩:=AA (some .ret) N _ _ (hC' _ H)
    exact ⟨_,M,X,.inr ⟨U,_,⟨_,z,.inl U,hz,U⟩,Mv.of O⟩⟩
  ·intro A hA
   obtain ⟨B,hB,hc⟩:=hCp A hA
   exact hc.holds _ (i.holds B (dJ _ (dJ _ hB)))
  ·intro A hA b hb hb'
   obtain ⟨B,hB,hc⟩:=hCp A hA
   exact ⟨(H B (dJ _ hB) b hb (hc.eW b hb')).1,fun h=>h⟩
  ·rintro e w' ⟨v,rfl,hh⟩
   have V:Fr E.n (jE w.heap.size::D) L0 {a with defers:=[jE w.heap.size]++a.defers}:=⟨by simp [hf.defers],hf.size,fun t v hv=>hf.at_ t v (hL t v hv)⟩
   have hleave: ∀ (st:LoopState) (c:Option Code) (C':List av),st≠ .busy→Mv (bX (jc (w.heap.size+1) (.loop (rec .ready none))::Ci s0 y0)) (bX (jc (w.heap.size+1) (.loop (rec st c))::C')) W1 w'→
    ∃ M,(Instr.endLoop (w.heap.size+1)).run E.P w'= .ok c M∧St E.S E.w0 (jc w.heap.size (.deferred (some []))::(F++C')) M:=fun st c C' A6 m=>by
    have Y:=(i.mv 0 rfl m).je
    have h1':St E.S E.w0 ((jc (w.heap.size+1) (.loop (rec st c))::C')++(jc w.heap.size (.deferred (some []))::F)) w':=Y
    have AB:w'.heap[w.heap.size+1]? =some (.loop (rec st c)):=h1'.holds (jc (w.heap.size+1) (.loop (rec st c))) sm
    refine ⟨_,by have:=run_endLoop (P:=E.P) AB (by rw [G]; exact A6); rw [this,G],?_⟩
    have o:=h1'.x7 (b:=w.heap.size+1) (A':=jc (w.heap.size+1) (.loop {rec st c with state:= .exhausted})) 0 rfl rfl rfl (gU _) (fun _ h=>h) (World.putObj_heap_same (dA AB))
    have h3:St E.S E.w0 (C'++(jc w.heap.size (.deferred (some []))::F)) _:=o.take (List.sublist_cons_self _ _)
    rw [G] at h3
    refine h3.perm ?_
    exact (List.perm_append_comm).trans sm
   rcases hh with ⟨s,B,A5,⟨y,hy,rfl⟩,m⟩|⟨B,⟨c,z,hc,hz,rfl⟩,m⟩
   ·obtain ⟨M,X,O⟩:=hleave .ready none _ sm m
    exact ⟨none,M,X,fin w.heap.size s y A5 hy _ _ V O⟩
   ·obtain ⟨M,X,O⟩:=hleave .done (some c) _ sm m
    refine ⟨some c,M,X,?_⟩
    rcases hc with rfl|⟨id,rfl⟩
    ·exact wpIn_ret (finr w.heap.size z hz _ _ V O)
    ·exact wpIn_exit (finx w.heap.size id z hz _ _ V O)
end
section
abbrev Pb:=List (Int×Bool)
section
variable {m:Pb} {P Q:Int→Prop} {k:Int}
end
/-- two rows that go up and have the same numbers, each once -/
theorem FI {a b:List Int} (ha:a.Pairwise (· ≤ ·)) (hb:b.Pairwise (· ≤ ·)) (na:a.Nodup) (nb:b.Nodup) (h: ∀ x,x∈a↔x∈b):a=b:=
 rU ((List.perm_ext_iff_of_nodup na nb).2 h) ha hb
section
variable {m left:sE} {i n x:Int} {y:ag}
end
section
variable {m:sE} {i:Int} {own:ag} {ys:List Int} {nev ranks:Pb} {n a b:Int}
end
section
variable {nw left rk:Pb} {N R:Int→Prop} {u:Int} {v:Bool}
end
section
variable {m left:sE} {i x n:Int} {own y:ag} {ys:List Int}
end
section
variable {r:eV} {h i:Int} {ht:List aw} {d:aw}
end
end
section
def OT (f:Int→ag) (g:List Int):Prop:= ∀ t,(∃ a∈g,(f a).Lo<t)→(∃ b∈g,t≤(f b).Lo)→ ∃ c∈g,(f c).Lo<t∧t≤(f c).Hi
def Od (f:Int→ag) (g h:List Int):Prop:= ∀ a∈g,∀ b∈h,(f a).Hi<(f b).Lo
structure Rt (f:Int→ag) (keys:List Int) (G:List (List Int)):Prop where
 perm:G.flatten.Perm keys
 some_: ∀ g∈G,g≠[]
 apart:G.Pairwise (Od f)
 tight: ∀ g∈G,OT f g
section
variable {f:Int→ag} {keys:List Int} {G G':List (List Int)} {g h:List Int} {x:Int}
end
section
variable {f:Int→ag} {p:List Int} {G:List (List Int)} {g:List Int} {x last:Int}
end
end
section
open Go.RowKit
/-- a map, or nil -/
def oC (o:Option Nat):List Value:=[Value.map o]
theorem zX {α:Type}: ∀ {ms:List α} {asl:List Nat},ms.length=asl.length→List.zipWith f_ ms asl=(asl.map some).map oC
 |[],[],_=>rfl
 |[],_::_,h=>by simp at h
 |_::_,[],h=>by simp at h
 |x::ms,y::asl,h=>by simp only [List.zipWith_cons_cons,List.map_cons,zX (ms:=ms) (asl:=asl) (by simpa using h)]; rfl
/-- what stands for all but one -/
def iT {M A:Type} (f:M→A→List av) (ms:List M) (asl:List A) (k:Nat):List av:=br f (ms.take k) (asl.take k)++br f (ms.drop (k+1)) (asl.drop (k+1))
theorem ru {M A:Type} {f:M→A→List av}: ∀ {ms:List M} {asl:List A} {k:Nat} {m:M} {a:A},ms[k]? =some m→asl[k]? =some a→(br f ms asl).Perm (f m a++iT f ms asl k)
 |[],_,k,m,a,h,_=>by simp at h
 |_::_,[],k,m,a,_,h=>by simp at h
 |x::ms,y::asl,0,m,a,h,h2=>by
  simp at h h2; subst h h2
  simp [iT,br]
 |x::ms,y::asl,k+1,m,a,h,h2=>by
  have ih:=ru (f:=f) (ms:=ms) (asl:=asl) (k:=k) (by simpa using h) (by simpa using h2)
  show (f x y++br f ms asl).Perm (f m a++iT f (x::ms) (y::asl) (k+1))
  have e:iT f (x::ms) (y::asl) (k+1)=f x y++iT f ms asl k:=by simp [iT,br,List.append_assoc]
  rw [e]
  refine (ih.append_left (f x y)).trans ?_
  rw [← List.append_assoc,← List.append_assoc]
  exact List.perm_append_comm.append_right _
theorem F7 {M A:Type} {f:M→A→List av} {ms:List M} {asl:List A} {k:Nat} {m':M}:iT f (ms.set k m') asl k=iT f ms asl k:=by
 unfold iT
 rw [List.take_set_of_le (Nat.le_refl k),List.drop_set_of_lt (Nat.lt_succ_self k)]
theorem uw {S:BS} {w0 w:World} {C X Y:List av} (hp:X.Perm Y) (h:St S w0 (bX X::C) w):St S w0 (bX Y::C) w:=by
 have A:St S w0 (X++C) w:=h.je
 exact (A.perm (hp.append_right C)).tied
theorem St.out {M A:Type} {f:M→A→List av} {S:BS} {w0 w:World} {C:List av} {ms:List M} {asl:List A} {k:Nat} {m:M} {a:A} {X:av} (hm:ms[k]? =some m) (ha:asl[k]? =some a) (hf:f m a=[X]) (h:St S w0 (bX (br f ms asl)::C) w):St S w0 (X::bX (iT f ms asl k)::C) w:=by
 have B:=(uw (ru hm ha) h).je
 rw [hf] at B
 have D:St S w0 (iT f ms asl k++(X::C)) w:=B.perm (List.perm_middle (a:=X) (l₁:=iT f ms asl k) (l₂:=C)).symm
 exact D.tied.perm (List.Perm.swap _ _ _)
theorem St.back {M A:Type} {f:M→A→List av} {S:BS} {w0 w:World} {C:List av} {ms:List M} {asl:List A} {k:Nat} {m':M} {a:A} {X:av} (hk:k<ms.length) (ha:asl[k]? =some a) (hf:f m' a=[X]) (h:St S w0 (X::bX (iT f ms asl k)::C) w):St S w0 (bX (br f (ms.set k m') asl)::C) w:=by
 have B:St S w0 (bX (iT f ms asl k)::X::C) w:=h.perm (List.Perm.swap _ _ _)
 have D:=B.je
 have E:St S w0 ((f m' a++iT f (ms.set k m') asl k)++C) w:=by
  rw [hf,F7]
  exact D.perm (List.perm_middle (a:=X) (l₁:=iT f ms asl k) (l₂:=C))
 exact uw (ru (List.getElem?_set_self hk) ha).symm E.tied
section
variable {E:eT} {ops:Array Oper} {Q:cZ} {rest:List Oper} {D:List Deferred} {L:List (Nat×Value)} {C C1:List av}
variable {M A:Type} {f:M→A→List av} {ms:List M} {asl:List A} {k:Nat} {m:M} {a:A} {X:av}
theorem yQ {c:Code} (i:Nat) (hm:ms[k]? =some m) (ha:asl[k]? =some a) (hf:f m a=[X]) (hn:decide (i::(List.range C.length).filter fun k=>k != i).Nodup=true) (hC:kh C (i::(List.range C.length).filter fun k=>k != i)=bX (br f ms asl)::C1)
 (h:WJ E c Q D L (X::bX (iT f ms asl k)::C1)):WJ E c Q D L C:=fun a w hf' hs=>h a w hf' (St.out hm ha hf (St.kh _ hn hC hs))
theorem zF {K:Act→World→Prop} (i j:Nat) (hk:k<ms.length) (ha:asl[k]? =some a) (hf:f m a=[X]) (hn:decide (j::i::(List.range C.length).filter fun k=>k != i&&k != j).Nodup=true) (hC:kh C (j::i::(List.range C.length).filter fun k=>k != i&&k != j)=X::bX (iT f ms asl k)::C1)
 (h:KJ E K D L (bX (br f (ms.set k m) asl)::C1)):KJ E K D L C:=fun a w hf' hs=>h a w hf' (St.back hk ha hf (St.kh _ hn hC hs))
end
end
section
open Go.RowKit
def vD (l:List Int) (a:RA):List Value:=[vS a.1 l.length a.2]
def M0 (l:List Int) (a:RA):List av:=[rd a.1 l.length 1 (l.map iC)]
def GY (l:List Int) (a:RA):List av:=[own a.1 a.2 Nh 1 (l.map iC)]
theorem EM: ∀ (m:List Int) (a:RA) (w:World),(∀ X∈GY m a,X.holds w)→ ∀ X∈M0 m a,X.holds w:=fun m a w h X hX=>by
 simp only [M0,cd] at hX
 subst hX
 have:=nv (h _ (cd.2 rfl))
 simpa using this
theorem xM {l:List (List Int)} {bz:List RA}:(bX (br GY l bz)).wr=true:=by
 show (br GY l bz).all (·.wr)=true
 rw [cT]
 intro X hX
 obtain ⟨k,m,a,_,_,h⟩:=jW hX
 simp only [GY,cd] at h
 subst h; rfl
theorem mG {ls:List (List Int)} {az:List RA} (h:az.length=ls.length):(List.zipWith vD ls az).length=ls.length:=by simp [h]
theorem My (l:List (List Int)) (az:List RA): ∀ v∈(List.zipWith vD l az).flatten,v.oneCell'=true:=by
 induction l generalizing az with
 |nil=>intro v hv; simp at hv
 |cons x l ih=>
  cases az with
  |nil=>intro v hv; simp at hv
  |cons a az=>
   intro v hv
   rw [List.zipWith_cons_cons,List.flatten_cons,gR] at hv
   rcases hv with hv|hv
   ·simp [vD] at hv; subst hv; rfl
   ·exact ih az v hv
section
variable {M A:Type} {f:M→A→List av} {ms:List M} {asl:List A} {k:Nat} {m:M} {a:A} {X:av}
variable {E:eT} {ops:Array Oper} {Q:cZ} {rest:List Oper} {D:List Deferred} {L:List (Nat×Value)} {C C1:List av}
abbrev Ro (C:List av) (i j:Nat):List Nat:=j::i::(List.range C.length).filter fun k=>k != i&&k != j
theorem Oe {Y Y':List av} (i j:Nat) (hn:decide (Ro C i j).Nodup=true) (hC:o9 C (Ro C i j)=some (X::bX Y::C1)) (e:Y++[X]=Y') (h:RJ E ops Q rest D L (bX Y'::C1)):RJ E ops Q rest D L C:=fun a w hf hs=>h a w hf ((St.kh _ hn (pE hC) hs).tie e)
end
theorem Dd {M A:Type} {f:M→A→List av} {ms:List M} {asl:List A} {m:M} {a:A} {X:av} (h:ms.length=asl.length) (hf:f m a=[X]):br f ms asl++[X]=br f (ms++[m]) (asl++[a]):=by
 rw [kT h]; simp [br,hf]
theorem Fk {M A β:Type} {f:M→A→β} {ms:List M} {asl:List A} {m:M} {a:A} (h:ms.length=asl.length):List.zipWith f ms asl++List.zipWith f [m] [a]=List.zipWith f (ms++[m]) (asl++[a]):=(List.zipWith_append h).symm
section
variable {f:Int→ag} {L:List Int} {G:List (List Int)} {g:List Int} {x last:Int} {i j:Nat}
end
end
section
open Go.RowKit
/-- the faults that a map of places says -/
def lk (fs:List aS) (m:List (Int×Bool)) (f:aS):Prop:=(List.lookup (oo fs f) m).getD false=true
/-- what comes next: the row of a heat, in memory of its own -/
def H5 (G:List (List Int)) (k:Nat) (x:List Value) (R:av) (k':Nat):Prop:= ∃ (a:OA) (c:Nat) (row:List Int),G[k]? =some row∧x=[vS a row.length c]∧R=own a c Nh 1 (row.map iC)∧k'=k+1
section
variable {l:bg} {fs:List aS} {m:List (Int×Bool)} {d:aw} {h:List aw} {j:cH} {F G:aS→Prop} {k n q:Nat} {f f0:aS}
noncomputable def kX (l:bg) (fs:List aS) (m:List (Int×Bool)) (h:List aw) (s:Nat):Bool:=(h[s]?).any fun d=> @decide (Dz l (lk fs m) fs d) (Classical.propDecidable _)
theorem Lp:(fs.any fun f=>((List.lookup (oo fs f) m).getD false)&& !decide (fK l f d=0))= @decide (Dz l (lk fs m) fs d) (Classical.propDecidable _):=by
 rw [Bool.eq_iff_iff,List.any_eq_true,@decide_eq_true_iff _ (Classical.propDecidable _)]
 constructor
 ·rintro ⟨f,hf,hb⟩
  rw [cW,Bool.not_eq_true',decide_eq_false_iff_not] at hb
  exact ⟨f,hf,hb.1,hb.2⟩
 ·rintro ⟨f,hf,A,B⟩
  exact ⟨f,hf,by rw [cW,Bool.not_eq_true',decide_eq_false_iff_not]; exact ⟨A,B⟩⟩
theorem Ec (hd:h[q]? =some d):kX l fs m h q=(fs.any fun f=>((List.lookup (oo fs f) m).getD false)&& !decide (fK l f d=0)):=by
 unfold kX; rw [hd,Lp]; rfl
theorem Hk {ht:List aw} (hh:j.Race.aH[k]? =some ht):(g8 j (lk j.aI m))[k]? =some (iQ (kX j.Race.au j.aI m ht) ht.length):=Eo hh
/-- only who is told, of faults of the row -/
theorem Bg (h: ∀ f∈j.aI,(F f↔G f)):g8 j F=g8 j G:=by
 unfold g8
 apply List.map_congr_left
 intro x _
 exact GF h
end
def vx (fs:List aS) (gs:List aS):List (Int×Bool):=gs.foldl (fun m f=>dz m (oo fs f) true) []
section
variable {fs gs:List aS} {f g:aS} {m:List (Int×Bool)}
theorem yp {x y:Int}:(List.lookup y (dz m x true)).getD false=true↔y=x∨(List.lookup y m).getD false=true:=by
 rw [lf]
 by_cases e:y=x
 ·rw [if_pos e]; simp [e]
 ·rw [if_neg e]; simp [e]
theorem E0: ∀ {gs:List aS} {m:List (Int×Bool)} {y:Int},(List.lookup y (gs.foldl (fun m f=>dz m (oo fs f) true) m)).getD false=true↔(∃ g∈gs,y=oo fs g)∨(List.lookup y m).getD false=true
 |[],m,y=>by simp
 |g::gs,m,y=>by
  rw [List.foldl_cons,E0 (gs:=gs),yp]
  constructor
  ·rintro (⟨u,A,B⟩|h|h)
   ·exact .inl ⟨u,dJ _ A,B⟩
   ·exact .inl ⟨g,ct,h⟩
   ·exact .inr h
  ·rintro (⟨u,A,B⟩|h)
   ·rcases bO.1 A with rfl|A
    ·exact .inr (.inl B)
    ·exact .inl ⟨u,A,B⟩
   ·exact .inr (.inr h)
theorem Qq (hg: ∀ g∈gs,g∈fs) (hf:f∈fs):lk fs (vx fs gs) f↔f∈gs:=by
 unfold lk vx
 rw [E0]
 constructor
 ·rintro (⟨g,A,B⟩|h)
  ·rw [JM hf (hg g A) B]; exact A
  ·simp at h
 ·intro h; exact .inl ⟨f,h,rfl⟩
theorem GL:vx fs (gs++[g])=dz (vx fs gs) (oo fs g) true:=by unfold vx; rw [List.foldl_append]; rfl
end
noncomputable def FF (j:cH) (t:Nat):List aS:=((iF j).take t).filterMap fun i=>(j.ax[i.toNat]?).bind fun p=>j.aI[p.fZ.toNat]?
section
variable {j:cH} {t:Nat} {i:Int} {p:aZ} {f g:aS}
theorem Ij (hi:(iF j)[t]? =some i) (hp:j.ax[i.toNat]? =some p) (hf:j.aI[p.fZ.toNat]? =some f):FF j (t+1)=FF j t++[f]:=by
 unfold FF
 rw [List.take_add_one,hi,List.filterMap_append]
 simp [hp,hf]
theorem LO: ∀ g∈FF j t,g∈j.aI:=fun g h=>by
 obtain ⟨i,_,A⟩:=List.mem_filterMap.1 h
 cases e:j.ax[i.toNat]? with
 |none=>rw [e] at A; cases A
 |some p=>rw [e] at A; exact aR A
theorem Mm (ht:(iF j).length≤t):f∈FF j t↔lZ j f:=by
 unfold FF
 rw [List.take_of_length_le ht,List.mem_filterMap]
 constructor
 ·rintro ⟨x,hx,h⟩
  obtain ⟨i,_,rfl,p,hp,hg⟩:=sj.1 hx
  rw [Int.toNat_natCast,hp] at h
  exact ⟨i,p,hp,hg,h⟩
 ·rintro ⟨i,p,hp,hg,hf⟩
  exact ⟨(i:Int),sj.2 ⟨i,(aW.1 hp).1,U,p,hp,hg⟩,by rw [Int.toNat_natCast,hp]; exact hf⟩
theorem C4 (ht:(iF j).length≤t):g8 j (lk j.aI (vx j.aI (FF j t)))=jY j:=
 Bg fun f hf=>(Qq LO hf).trans (Mm ht)
theorem GJ (hi:(iF j)[t]? =some i): ∃ k:Nat,i=(k:Int)∧k<j.ax.length:=by
 obtain ⟨k,A,B,_⟩:=sj.1 (aR hi)
 exact ⟨k,B,A⟩
theorem wY:(iF j).length≤j.ax.length:=nk
end
end
section
open Go.RowKit
theorem xC {α:Type} {l:List α} {k:Nat} {x:α} (h:l[k]? =some x):l.take (k+1)=l.take k++[x]:=by rw [List.take_add_one,h]; rfl
theorem DQ {a b:Int} (h1: -60000≤a∧a≤60000) (h2:0≤b∧b≤100000): -9223372036854775808≤a*b∧a*b≤9223372036854775807:=by
 have A:=Int.mul_le_mul_of_nonneg_right h1.1 h2.1
 have B:=Int.mul_le_mul_of_nonneg_right h1.2 h2.1
 omega
def kB (j:cH) (k h s:Int):Prop:=(0≤k∧k≤(j.aI.length:Int)-1)∧(0≤h∧h≤(j.Race.aH.length:Int)-1)∧0≤s∧s≤(j.Race.bj.length:Int)-1
instance (j:cH) (k h s:Int):Decidable (kB j k h s):=by unfold kB; infer_instance
noncomputable def mB (j:cH) (k h s:Int):Int:=if dU j=0 then (if kB j k h s then 0 else 2) else dU j
noncomputable def lO (j:cH) (k h s:Int):Int:=if dU j=0∧kB j k h s then (match j.aI[k.toNat]?,(j.Race.aH[h.toNat]?).bind (·[s.toNat]?) with
 |some f,some d=>fK j.Race.au f d
 |_,_=>0) else 0
noncomputable def rW (j:cH) (i:Int):Int:=if dU j=0 then (if 0≤i∧i≤(j.ax.length:Int)-1 then 0 else 2) else dU j
noncomputable def tU (j:cH) (i:Int):Int:=if dU j=0∧(0≤i∧i≤(j.ax.length:Int)-1) then (match j.ax[i.toNat]? with
 |some p=>lz j p
 |none=>0) else 0
noncomputable def iG (j:cH):List Int:=if dU j=0 then iF j else []
noncomputable def eu (j:cH):List (List Int):=if dU j=0 then jY j else []
noncomputable def zh (j:cH):Int:=if dU j=0 then yw j else 0
noncomputable def zz (j:cH):Int:=if dU j=0 then Eu j else 0
noncomputable def z9 (j:cH) (s:Int) (p:aZ):Bool:=decide (p.hP=s)&& !eI j p
noncomputable def qw (j:cH) (s:Int):Int:=if dU j=0 then (if 0≤s∧s≤(j.Race.bj.length:Int)-1 then 0 else 2) else dU j
noncomputable def sk (j:cH) (s:Int):Int:=if dU j=0∧(0≤s∧s≤(j.Race.bj.length:Int)-1) then Dp j s else 0
section
variable {j:cH} {k h s i:Int} {f:aS} {ht:List aw} {d:aw} {p:aZ}
theorem Gi (e: ¬ dU j=0):lO j k h s=0∧mB j k h s=dU j:=⟨if_neg fun q=>e q.1,if_neg e⟩
theorem uA (e:dU j=0) (n: ¬ kB j k h s):lO j k h s=0∧mB j k h s=2:=⟨if_neg fun q=>n q.2,by unfold mB; rw [if_pos e,if_neg n]⟩
theorem oQ (e:dU j=0) (n:kB j k h s) (hf:j.aI[k.toNat]? =some f) (hh:j.Race.aH[h.toNat]? =some ht) (hd:ht[s.toNat]? =some d):lO j k h s=fK j.Race.au f d∧mB j k h s=0:=
 ⟨by unfold lO; rw [if_pos ⟨e,n⟩,hf,hh,Option.bind_some,hd],by unfold mB; rw [if_pos e,if_pos n]⟩
theorem JE (e: ¬ dU j=0):tU j i=0∧rW j i=dU j:=⟨if_neg fun q=>e q.1,if_neg e⟩
theorem Kc (e:dU j=0) (n: ¬ (0≤i∧i≤(j.ax.length:Int)-1)):tU j i=0∧rW j i=2:=⟨if_neg fun q=>n q.2,by unfold rW; rw [if_pos e,if_neg n]⟩
theorem vQ (e:dU j=0) (n:0≤i∧i≤(j.ax.length:Int)-1) (hp:j.ax[i.toNat]? =some p):tU j i=lz j p∧rW j i=0:=
 ⟨by unfold tU; rw [if_pos ⟨e,n⟩,hp],by unfold rW; rw [if_pos e,if_pos n]⟩
theorem wN (e: ¬ dU j=0):iG j=[]:=if_neg e
theorem lL (e:dU j=0):iG j=iF j:=if_pos e
theorem vr (e: ¬ dU j=0):eu j=[]:=if_neg e
theorem oh (e:dU j=0):eu j=jY j:=if_pos e
theorem Fv (e: ¬ dU j=0):zh j=0∧zz j=0:=⟨if_neg e,if_neg e⟩
theorem wi (e:dU j=0):zh j=yw j∧zz j=Eu j:=⟨if_pos e,if_pos e⟩
theorem Lv (e: ¬ p.hP=s):z9 j s p=false:=by unfold z9; rw [bD e]; rfl
theorem HI (e:p.hP=s):z9 j s p= !eI j p:=by unfold z9; rw [dq e]; rfl
theorem IN {P:Nat→Bool} {n:Nat}:(iQ P n).length=(List.range n).countP P:=by unfold iQ; rw [List.length_map,List.countP_eq_length_filter]
theorem FG (e: ¬ dU j=0):sk j s=0∧qw j s=dU j:=⟨if_neg fun q=>e q.1,if_neg e⟩
theorem F6 (e:dU j=0) (n: ¬ (0≤s∧s≤(j.Race.bj.length:Int)-1)):sk j s=0∧qw j s=2:=⟨if_neg fun q=>n q.2,by unfold qw; rw [if_pos e,if_neg n]⟩
theorem HC (e:dU j=0) (n:0≤s∧s≤(j.Race.bj.length:Int)-1):sk j s= -((iQ (hO j.ax fun _ p=>z9 j s p) j.ax.length).length:Int)*j.Cf∧qw j s=0:=
 ⟨by unfold sk; rw [if_pos ⟨e,n⟩,IN]; rfl,by unfold qw; rw [if_pos e,if_pos n]⟩
end
end
section
structure UQ (j x:cH):Prop where
 race:x.Race=j.Race
 Te:x.aI=j.aI
 min_:j.gV≤x.gV
 gO: ∀ (i:Nat) p,j.ax[i]? =some p→x.ax[i]? =some p
section
variable {j x:cH} {n s:Int} {h k:Nat} {a b:List Int} {f f':aS} {ht:List aw} {d:aw}
theorem KD (e:dU j=0):(eu j).length=j.Race.aH.length:=by
 rw [oh e]; exact I3
theorem GU {s:Nat} (e:dU j=0) (hf:j.aI[k]? =some f) (hh:j.Race.aH[h]? =some ht) (hd:ht[s]? =some d):mB j k h s=0∧lO j k h s=fK j.Race.au f d:=by
 have hs:=((eQ (eH e).1).2.gj ht (aR hh)).1
 have A:=(aW.1 hf).1
 have B:=(aW.1 hh).1
 have C:=(aW.1 hd).1
 have:=oQ (k:=(k:Int)) (h:=(h:Int)) (s:=(s:Int)) e (by unfold kB; omega) (by simpa using hf) (by simpa using hh) (by simpa using hd)
 exact ⟨this.2,this.1⟩
end
end
section
section
variable {j:cH} {m n i:Nat} {p:aZ} {s:Int}
theorem N9 (e:dU j=0):(iG j).length≤j.ax.length:=by rw [lL e]; exact nk
end
end
section
/-- the faults about which one of the first protests is granted -/
def mJ (j:cH) (n:Nat) (k:Int):Prop:= ∃ (i:Nat) (p:aZ),i<n∧j.ax[i]? =some p∧eI j p=true∧p.fZ=k
section
variable {j:cH} {n:Nat} {k:Int} {p:aZ} {d:aw}
theorem C8: ¬ mJ j 0 k:=fun ⟨i,p,h,_⟩=>absurd h (Nat.not_lt_zero _)
theorem FN (hp:j.ax[n]? =some p) (hg:eI j p=true):mJ j (n+1) k↔mJ j n k∨k=p.fZ:=by
 constructor
 ·rintro ⟨i,q,D,A,C,B⟩
  by_cases c:i=n
  ·subst c; rw [hp] at A; cases A; exact .inr B.symm
  ·exact .inl ⟨i,q,om,A,C,B⟩
 ·rintro (⟨i,q,D,A,C,B⟩|h)
  ·exact ⟨i,q,om,A,C,B⟩
  ·exact ⟨n,p,om,hp,hg,h.symm⟩
theorem HR (hp:j.ax[n]? =some p) (hg:eI j p=false):mJ j (n+1) k↔mJ j n k:=by
 constructor
 ·rintro ⟨i,q,D,A,B,C⟩
  by_cases c:i=n
  ·subst c; rw [hp] at A; cases A; rw [hg] at B; cases B
  ·exact ⟨i,q,om,A,B,C⟩
 ·rintro ⟨i,q,D,A,B,C⟩; exact ⟨i,q,om,A,B,C⟩
/-- touched, by the first faults -/
def xq (j:cH) (d:aw) (m:Nat):Prop:= ∃ (k:Nat) (f:aS),k<m∧j.aI[k]? =some f∧mJ j j.ax.length (k:Int)∧ ¬ fK j.Race.au f d=0
theorem HW: ¬ xq j d 0:=fun ⟨k,f,h,_⟩=>absurd h (Nat.not_lt_zero _)
theorem wa {m:Nat} {f:aS} (hf:j.aI[m]? =some f):xq j d (m+1)↔xq j d m∨(mJ j j.ax.length (m:Int)∧ ¬ fK j.Race.au f d=0):=by
 constructor
 ·rintro ⟨k,g,D,C,A,B⟩
  by_cases c:k=m
  ·subst c; rw [hf] at C; cases C; exact .inr ⟨A,B⟩
  ·exact .inl ⟨k,g,om,C,A,B⟩
 ·rintro (⟨k,g,D,C,A,B⟩|⟨A,B⟩)
  ·exact ⟨k,g,om,C,A,B⟩
  ·exact ⟨m,f,om,hf,A,B⟩
theorem Lc (hj:oB j):xq j d j.aI.length↔Dz j.Race.au (lZ j) j.aI d:=by
 constructor
 ·rintro ⟨k,f,F,E,⟨i,p,G,A,C,D⟩,B⟩
  refine ⟨f,aR E,⟨i,p,A,C,?_⟩,B⟩
  rw [D,Int.toNat_natCast]; exact E
 ·rintro ⟨f,hf,⟨i,p,A,C,D⟩,B⟩
  have hp:=(hj.gO i p A).fault
  refine ⟨p.fZ.toNat,f,om,D,⟨i,p,(aW.1 A).1,A,C,om⟩,B⟩
/-- a protest is granted if its fault may touch its own descent, and it is not too late -/
theorem Gj {f:aS} (hd:m_ j p=some d) (hf:j.aI[p.fZ.toNat]? =some f):eI j p=true↔ ¬ fK j.Race.au f d=0∧ ¬ lz j p=2:=by
 unfold eI
 rw [hd,hf]
 simp only [cW,decide_eq_true_eq,ne_eq]
 exact and_comm
end
end
section
section
variable {P:Nat→Bool} {n q:Nat} {x:Int}
/-- the pointer that goes beside tells whether it is so -/
theorem Kl (hq:q<n) (h: ¬ ((iQ P q).length:Int)<((iQ P n).length:Int)):false=P q:=by
 cases e:P q with
 |false=>rfl
 |true=>
  have:=(aW.1 (M1 e hq)).1
  omega
theorem M4 (hq:q<n) (hx:(iQ P n)[(iQ P q).length]? =some x):decide (x=(q:Int))=P q:=by
 cases e:P q with
 |false=>exact bD (Pe e hq hx)
 |true=>rw [M1 e hq] at hx; cases hx; exact dq rfl
theorem Ol {b:Bool} {P Q:Prop} (h:b=true↔ ¬ P∧ ¬ Q) (hp:P) (hx:(b==false)=false):False:=by
 cases b
 ·cases hx
 ·exact (h.1 U).1 hp
theorem ME {b:Bool} {P Q:Prop} [Decidable Q] (h:b=true↔ ¬ P∧ ¬ Q) (hp: ¬ P) (hx:(b== !decide Q)=false):False:=by
 cases b
 ·by_cases q:Q
  ·simp [q] at hx
  ·exact Bool.noConfusion (h.2 ⟨hp,q⟩)
 ·have:=(h.1 rfl).2; simp [this] at hx
theorem wb (h:P n=true):((iQ P (n+1)).length:Int)=((iQ P n).length:Int)+1:=by rw [qD h,List.length_append]; rfl
theorem yV (h: ¬ P n=true):((iQ P (n+1)).length:Int)=((iQ P n).length:Int):=by rw [oW (by simpa using h)]
end
noncomputable def rJ (j:cH) (i:Nat):Bool:=(j.ax[i]?).any (eI j)
noncomputable def qb (j:cH) (ht:List aw) (s:Nat):Bool:=(ht[s]?).any fun d=> @decide (Dz j.Race.au (lZ j) j.aI d) (Classical.propDecidable _)
noncomputable def pJ (j:cH) (d:aw) (k:Nat):Bool:= @decide (xq j d k) (Classical.propDecidable _)
/-- the faults about which one of the first protests is granted, as a map -/
noncomputable def fQ (j:cH):Nat→List (Int×Bool)
 |0=>[]
 |n+1=>match j.ax[n]? with
  |some p=>if eI j p=true then dz (fQ j n) p.fZ true else fQ j n
  |none=>fQ j n
section
variable {j:cH} {n q k:Nat} {x y:Int} {p:aZ} {d:aw} {f:aS} {ht:List aw} {row:List Int} {h:Nat}
theorem Rj (e:dU j=0):iG j=iQ (rJ j) j.ax.length:=(lL e).trans rfl
theorem zN (hp:j.ax[n]? =some p):rJ j n=eI j p:=by unfold rJ; rw [hp]; rfl
theorem w8 (hp:j.ax[n]? =some p) (hg:eI j p=true):dz (fQ j n) p.fZ true=fQ j (n+1):=by
 show _=match j.ax[n]? with
  |some p=>if eI j p=true then dz (fQ j n) p.fZ true else fQ j n
  |none=>fQ j n
 rw [hp]; simp only; rw [if_pos hg]
theorem yO (hp:j.ax[n]? =some p) (hg: ¬ eI j p=true):fQ j n=fQ j (n+1):=by
 show _=match j.ax[n]? with
  |some p=>if eI j p=true then dz (fQ j n) p.fZ true else fQ j n
  |none=>fQ j n
 rw [hp]; simp only; rw [if_neg hg]
theorem mY: ∀ {n:Nat},(List.lookup y (fQ j n)).getD false=true↔mJ j n y
 |0=>⟨fun h=>by simp [fQ] at h,fun h=>absurd h C8⟩
 |n+1=>by
  cases hp:j.ax[n]? with
  |none=>
   have e:fQ j (n+1)=fQ j n:=by
    show (match j.ax[n]? with
     |some p=>if eI j p=true then dz (fQ j n) p.fZ true else fQ j n
     |none=>fQ j n)=_
    rw [hp]
   rw [e,mY]
   constructor
   ·rintro ⟨i,p,C,A,B⟩; exact ⟨i,p,om,A,B⟩
   ·rintro ⟨i,p,C,A,B⟩
    refine ⟨i,p,?_,A,B⟩
    by_cases c:i=n
    ·subst c; rw [hp] at A; cases A
    ·omega
  |some p=>
   by_cases hg:eI j p=true
   ·rw [← w8 hp hg,yp,mY,FN hp hg]
    exact Or.comm
   ·rw [← yO hp hg,mY,HR hp (by simpa using hg)]
/-- touched, by the first faults -/
theorem NM:pJ j d 0=false:= @decide_eq_false _ (Classical.propDecidable _) HW
theorem Hd (hf:j.aI[k]? =some f) (h:pJ j d k=true):true=pJ j d (k+1):=by
 have h:= @of_decide_eq_true _ (Classical.propDecidable _) h
 exact (@decide_eq_true _ (Classical.propDecidable _) ((wa hf).2 (.inl h))).symm
theorem I7 (hf:j.aI[k]? =some f) (h: ¬ pJ j d k=true) (ha:(List.lookup (k:Int) (fQ j j.ax.length)).getD false=true):(!decide (fK j.Race.au f d=0))=pJ j d (k+1):=by
 have h: ¬ xq j d k:=fun q=>h (@decide_eq_true _ (Classical.propDecidable _) q)
 have ha:=mY.1 ha
 rw [← decide_not]
 unfold pJ
 rw [gv,wa hf]
 exact ⟨fun q=> .inr ⟨ha,q⟩,fun q=>q.elim (fun z=>absurd z h) (·.2)⟩
theorem Im (hf:j.aI[k]? =some f) (h: ¬ pJ j d k=true) (ha: ¬ (List.lookup (k:Int) (fQ j j.ax.length)).getD false=true):false=pJ j d (k+1):=by
 have h: ¬ xq j d k:=fun q=>h (@decide_eq_true _ (Classical.propDecidable _) q)
 have ha: ¬ mJ j j.ax.length (k:Int):=fun q=>ha (mY.2 q)
 exact (@decide_eq_false _ (Classical.propDecidable _) (fun q=>((wa hf).1 q).elim h (fun z=>ha z.1))).symm
theorem OO (e:dU j=0) (hd:ht[q]? =some d):pJ j d j.aI.length=qb j ht q:=by
 unfold pJ qb
 rw [hd]
 simp only [Option.any_some]
 rw [gv]
 exact Lc (eH e).2
theorem zm (e:dU j=0) (hh:j.Race.aH[h]? =some ht) (hr:(eu j)[h]? =some row):row=iQ (qb j ht) ht.length:=by
 rw [oh e] at hr
 unfold jY at hr
 rw [Eo hh] at hr
 cases hr; rfl
theorem Cu (e:dU j=0) (hp:j.ax[n]? =some p):(mB j p.fZ p.iu p.hP=0∧rW j n=0)∧(eI j p=true↔ ¬ lO j p.fZ p.iu p.hP=0∧ ¬ tU j n=2):=by
 obtain ⟨C,B⟩:=eH e
 have A:=B.gO n p hp
 obtain ⟨d,hd,hr,ha⟩:=A.jy
 have hf:=A.fault
 have hs:=A.kM
 unfold qf at hs
 have hg:j.aI[p.fZ.toNat]? =some (j.aI[p.fZ.toNat]'om):=e_ _
 unfold m_ at hd
 cases hh:j.Race.aH[p.iu.toNat]? with
 |none=>rw [hh] at hd; cases hd
 |some ht=>
  rw [hh] at hd
  have t:=oQ (k:=p.fZ) (h:=p.iu) (s:=p.hP) e (by have:=A.gj; unfold kB; omega) hg hh hd
  have hl:=(aW.1 hp).1
  have l:=vQ (i:=(n:Int)) e om (by simpa using hp)
  refine ⟨⟨t.2,l.2⟩,?_⟩
  rw [t.1,l.1]
  exact Gj (by unfold m_; rw [hh]; exact hd) hg
end
end
section
set_option maxRecDepth 20000
def Ql:ao:=⟨1,⟨10000,10200⟩,⟨0,0⟩,⟨0,0⟩,0,0⟩
def xT:ay:=⟨100,[⟨0,⟨0,2⟩⟩,⟨100000,⟨5,6⟩⟩]⟩
def PL (o:Int):bI:=⟨⟨0,⟨o,o⟩⟩,0⟩
def nK (f:Int):bg:=⟨[Ql],2000,[xT],[PL 1000,PL 4000,PL 9000],1,f,1⟩
def lF:cx:=⟨10000,20000,[⟨0,10600⟩,⟨0,11000⟩,⟨1,12600⟩]⟩
theorem I5:c8 [Ql]=true:=by decide
theorem xE:eM xT:=by
 have hi: ∀ (i:Nat) (x:cQ),xT.bG[i]? =some x→i=0∧x=⟨0,⟨0,2⟩⟩∨i=1∧x=⟨100000,⟨5,6⟩⟩:=fun i x h=>by
  match i with
  |0=>left; simp [xT] at h; exact ⟨rfl,h.symm⟩
  |1=>right; simp [xT] at h; exact ⟨rfl,h.symm⟩
  |n+2=>simp [xT] at h
 refine ⟨dc,dc,fun i x hx=>?_,fun i k x o hx hk ho=>?_⟩
 ·rcases hi i x hx with ⟨rfl,rfl⟩|⟨rfl,rfl⟩<;>(unfold e9; decide)
 ·rcases hi i x hx with ⟨rfl,rfl⟩|⟨rfl,rfl⟩
  ·omega
  ·rcases hi k o ho with ⟨rfl,rfl⟩|⟨rfl,rfl⟩
   ·unfold nG; decide
   ·omega
theorem zw {o:Int} (h:0≤o∧o<10000):fh [Ql] ⟨0,⟨o,o⟩⟩:=⟨sm,Ql,rfl,by show o≤o∧0≤o∧o≤10000-1; omega⟩
theorem L9 {f:Int} (hf:0≤f∧f≤3):kZ (nK f):=by
 refine ⟨?_,fun c hc=>?_,fun b hb=>?_,fun i hi=>?_⟩
 ·unfold eL; simp [nK]; omega
 ·simp [nK] at hc; subst hc; exact xE
 ·simp [nK] at hb
  rcases hb with rfl|rfl|rfl
  ·exact ⟨zw om,by simp [PL,nK]⟩
  ·exact ⟨zw om,by simp [PL,nK]⟩
  ·exact ⟨zw om,by simp [PL,nK]⟩
 ·have A:i<3:=hi
  have:i=0∨i=1∨i=2:=by omega
  rcases this with rfl|rfl|rfl
  ·show (1:Int)≤kY (nK 0) 0; decide
  ·show (1:Int)≤kY (nK 0) 1; decide
  ·show (1:Int)≤kY (nK 0) 2; decide
def g7:bg:=nK 1
theorem Nv:dw g7=0:=wv I5 (L9 om)
theorem HX {r x:Int} (h0:0<x) (h1:x≤86400000) (hy:gh xT r x=true) (hn:gh xT r (x-1)=false):fp (gh xT r) 86400001=x:=
 yn om om hy fun z hz A=>by
  cases e:gh xT r z with
  |false=>rfl
  |true=>
   unfold gh at e hn
   have:=(n7 xE hz (show z≤x-1 by omega) om).2
   have B:=of_decide_eq_true e
   have C:=of_decide_eq_false hn
   omega
theorem JH {r x:Int} (h0:0<x) (h1:x≤86400000) (hy:gl xT r x=true) (hn:gl xT r (x-1)=false):fp (gl xT r) 86400001=x:=
 yn om om hy fun z hz A=>by
  cases e:gl xT r z with
  |false=>rfl
  |true=>
   unfold gl at e hn
   have:=(n7 xE hz (show z≤x-1 by omega) om).1
   have B:=of_decide_eq_true e
   have C:=of_decide_eq_false hn
   omega
theorem Qn:qv xT 10600=⟨10596,10602⟩:=by unfold qv; rw [HX (x:=10596) om om dc dc,JH (x:=10603) om om dc dc]; rfl
theorem QC:qv xT 11000=⟨10996,11002⟩:=by unfold qv; rw [HX (x:=10996) om om dc dc,JH (x:=11003) om om dc dc]; rfl
theorem Rw:qv xT 12600=⟨12596,12602⟩:=by unfold qv; rw [HX (x:=12596) om om dc dc,JH (x:=12603) om om dc dc]; rfl
def QZ (f:Int):bS:=⟨10000,20000,[500,1500,2500],[[(0,⟨10596,10602⟩),(1,⟨10996,11002⟩)],[(2,⟨12596,12602⟩)],[]],1,f,3⟩
theorem Rn (f:Int):cJ (nK f) ⟨0,10600⟩=⟨10596,10602⟩:=Qn
theorem Sc (f:Int):cJ (nK f) ⟨0,11000⟩=⟨10996,11002⟩:=QC
theorem Rh (f:Int):cJ (nK f) ⟨1,12600⟩=⟨12596,12602⟩:=Rw
theorem Jb (f:Int):cG (nK f) lF.aa 3=[[(0,⟨10596,10602⟩),(1,⟨10996,11002⟩)],[(2,⟨12596,12602⟩)],[]]:=by
 have o: ∀ b:Nat,kO (nK f) lF.aa 3 b=(nu (nK f) lF.aa b 0).toList++((nu (nK f) lF.aa b 1).toList++(nu (nK f) lF.aa b 2).toList):=fun b=>by
  rw [kU,kU,kU]; simp [kO]
 have A: ∀ b:Nat,nu (nK f) lF.aa b 0=if (0:Int)=(b:Int) then some (0,⟨10596,10602⟩) else none:=fun b=>by
  show (if (0:Int)=(b:Int)∧(cJ (nK f) ⟨0,10600⟩).Lo≤(cJ (nK f) ⟨0,10600⟩).Hi then some ((0:Int),cJ (nK f) ⟨0,10600⟩) else none)=_
  rw [Rn]; by_cases h:(0:Int)=(b:Int)
  ·rw [if_pos h,if_pos ⟨h,dc⟩]<;>rfl
  ·rw [if_neg h,if_neg fun q=>h q.1]
 have B: ∀ b:Nat,nu (nK f) lF.aa b 1=if (0:Int)=(b:Int) then some (1,⟨10996,11002⟩) else none:=fun b=>by
  show (if (0:Int)=(b:Int)∧(cJ (nK f) ⟨0,11000⟩).Lo≤(cJ (nK f) ⟨0,11000⟩).Hi then some ((1:Int),cJ (nK f) ⟨0,11000⟩) else none)=_
  rw [Sc]; by_cases h:(0:Int)=(b:Int)
  ·rw [if_pos h,if_pos ⟨h,dc⟩]<;>rfl
  ·rw [if_neg h,if_neg fun q=>h q.1]
 have C: ∀ b:Nat,nu (nK f) lF.aa b 2=if (1:Int)=(b:Int) then some (2,⟨12596,12602⟩) else none:=fun b=>by
  show (if (1:Int)=(b:Int)∧(cJ (nK f) ⟨1,12600⟩).Lo≤(cJ (nK f) ⟨1,12600⟩).Hi then some ((2:Int),cJ (nK f) ⟨1,12600⟩) else none)=_
  rw [Rh]; by_cases h:(1:Int)=(b:Int)
  ·rw [if_pos h,if_pos ⟨h,dc⟩]<;>rfl
  ·rw [if_neg h,if_neg fun q=>h q.1]
 show [kO (nK f) lF.aa 3 0,kO (nK f) lF.aa 3 1,kO (nK f) lF.aa 3 2]=_
 rw [o,o,o,A,A,A,B,B,B,C,C,C]
 rfl
theorem Bn (f:Int):bW (nK f) lF=QZ f:=by
 unfold bW QZ
 rw [show lF.aa.length=3 from rfl,Jb]
 rfl
theorem Mc (f:Int):dR (nK f) lF:=by
 refine ⟨dc,dc,fun i s hs=>?_⟩
 match i with
 |0=>simp [lF] at hs; subst hs; unfold g5 ij; simp [nK,kv]
 |1=>simp [lF] at hs; subst hs; unfold g5 ij; simp [nK,kv,lF]
 |2=>simp [lF] at hs; subst hs; unfold g5 ij; simp [nK,kv,lF]
 |n+3=>simp [lF] at hs
theorem Bh:gX (bW g7 lF)=[2,3]:=by rw [show bW g7 lF=QZ 1 from Bn 1]; decide
theorem BB:dF g7 lF 0=0:=kP Nv (Mc 1) rfl (by rw [Bh]; decide)
theorem Hb:g4 g7 lF=[2,3]:=by rw [j2 BB,Bh]
theorem Jg {b:Nat} (hb:b<3):dF g7 lF (jn g7 b)=0:=by rw [sP (by show 0≤(b:Int)∧(b:Int)≤3-1; omega)]; exact BB
theorem EA {b:Nat} {z:ag} (hb:b<3) (hz:vc (ml (QZ 1) b)=z) (hn:z≠l6):dI g7 lF b=0∧dD g7 lF b=z:=by
 have e:mo g7 lF b=z:=by unfold mo; rw [show bW g7 lF=QZ 1 from Bn 1]; exact hz
 have h:=nX (Jg hb) (by rw [e]; exact hn)
 exact ⟨h.1,h.2.trans e⟩
theorem AV:dI g7 lF 0=0∧dD g7 lF 0=⟨10596,11002⟩:=EA (b:=0) om dc dc
theorem ql:dI g7 lF 1=0∧dD g7 lF 1=⟨12596,12602⟩:=EA (b:=1) om dc dc
theorem Pa:dI g7 lF g7.cD=0∧zd g7 lF=⟨2596,2602⟩:=by
 refine ⟨ql.1,?_⟩
 rw [zD (l:=g7) (r:=lF) ql.1]
 rw [show dD g7 lF g7.cD=⟨12596,12602⟩ from ql.2]
 rfl
theorem P8 (f:Int) {a:OA} {c:Nat} (hc:2≤c):eo (nK f) [(a,c)]:=by
 refine ⟨by simp [nK],?_,by simp [nK],U,by simp [nK],fun k m a' hm ha=>?_⟩
 ·intro x hx; simp [nK] at hx; subst hx; simp [Ql]
 ·match k with
  |0=>simp [nK] at hm ha; subst hm; subst ha; simp [xT]; exact hc
  |n+1=>simp at ha
end
section
open Go.RowKit
theorem re {l:List ay} {az:List RA} (h:az.length=l.length):(List.zipWith ay.cells l az).length=l.length:=by simp [h]
theorem yX {l:List ay} {bz:List RA}:(bX (br ay.owns l bz)).wr=true:=by
 show (br ay.owns l bz).all (·.wr)=true
 rw [cT]
 intro X hX
 obtain ⟨k,m,a,_,_,h⟩:=jW hX
 simp only [ay.owns,cd] at h
 subst h; rfl
theorem oM: ∀ (m:ay) (a:RA) (w:World),(∀ X∈ay.owns m a,X.holds w)→ ∀ X∈ay.gn m a,X.holds w:=fun m a w h X hX=>by
 simp only [ay.gn,cd] at hX
 subst hX
 have:=nv (h _ (cd.2 rfl))
 simpa using this
section
variable {E:eT} {ops:Array Oper} {Q:cZ} {rest:List Oper} {D:List Deferred} {L:List (Nat×Value)} {C:List av}
end
end
section
open Go.RowKit
def Mg (m:aw) (a:RA):List av:=[own a.1 a.2 RP 2 (m.bw.aa.map aF.cells)]
def Aw (m:List aw) (a:dG):List av:=own a.1.1 a.1.2 Sf 7 (List.zipWith aw.cells m a.2)::br Mg m a.2
theorem NY: ∀ (m:aw) (a:RA) (w:World),(∀ X∈Mg m a,X.holds w)→ ∀ X∈aw.gn m a,X.holds w:=fun m a w h X hX=>by
 simp only [aw.gn,cd] at hX
 subst hX
 have:=nv (h _ (cd.2 rfl))
 simpa using this
theorem G9 {m:List aw} {asl:List RA} (h:asl.length=m.length):(List.zipWith aw.cells m asl).length=m.length:=by simp [h]
theorem o1 {m:List (List aw)} {asl:List dG} (h:asl.length=m.length):(List.zipWith de m asl).length=m.length:=by simp [h]
theorem LS {m:List aw} {asl:List RA}:(br Mg m asl).all (·.wr)=true:=by
 rw [cT]
 intro X hX
 obtain ⟨k,d,a,_,_,h⟩:=jW hX
 simp only [Mg,cd] at h
 subst h; rfl
theorem Hl {m:List (List aw)} {asl:List dG}:(bX (br Aw m asl)).wr=true:=by
 show (br Aw m asl).all (·.wr)=true
 rw [cT]
 intro X hX
 obtain ⟨k,d,a,_,_,h⟩:=jW hX
 rcases bO.1 h with rfl|h
 ·rfl
 ·exact cT.1 LS X h
/-- every heat has as many places as descents -/
def HN (H:List (List aw)) (hz:List dG):Prop:=hz.length=H.length∧ ∀ (k:Nat) h (a:dG),H[k]? =some h→hz[k]? =some a→a.2.length=h.length
theorem LR {a:OA} {c e sz n:Nat} {es:List (List Value)} {w:World} (h:(own a c e sz es).holds w) (hn:es.length=n):(rd a n sz es).holds w:=by subst hn; exact nv h
theorem mU {C:List av} {H:List (List aw)} {hz:List dG} (i:Nat) (hC:C[i]? =some (bX (br Aw H hz))) (hh:HN H hz):iN C (dL (br eY H hz)).holds:=fun w hw X hX=>by
 have hb:=hw _ (aR hC)
 obtain ⟨k,m,a,A,B,D⟩:=jW hX
 rcases bO.1 D with rfl|D
 ·exact LR (hb.1 _ (bM A B ct)) (G9 (hh.2 k m a A B))
 ·obtain ⟨q,d,b,E,F,G⟩:=jW D
  exact NY d b w (fun Y hY=>hb.1 Y (bM A B (dJ _ (bM E F hY)))) X G
section
variable {α:Type}
variable {bz az:List α} {i:Nat} {a b:α}
end
section
variable {E:eT} {ops:Array Oper} {Q:cZ} {rest:List Oper} {D:List Deferred} {L:List (Nat×Value)} {C C1:List av} {K:Act→World→Prop}
variable {H:List (List aw)} {hz:List dG} {h h':List aw} {a a':dG} {k:Nat} {X:av} {Y Z Z':List av}
end
end
section
open Go.RowKit
def Cq (t:ag):aw:=⟨false,true,t,⟨0,0,[]⟩⟩
def Ur (H:List (List aw)) (h i:Int) (t:ag):List (List aw):=H.set h.toNat ((H[h.toNat]?.getD []).set i.toNat (Cq t))
def OW (r:eV) (h i:Int) (t:ag):eV:=⟨r.au,r.bj,r.cq,r.qe,Ur r.aH h i t⟩
@[simp] theorem PI {r:eV} {h i:Int} {t:ag}:(OW r h i t).au=r.au:=rfl
@[simp] theorem O1 {r:eV} {h i:Int} {t:ag}:(OW r h i t).bj=r.bj:=rfl
@[simp] theorem PG {r:eV} {h i:Int} {t:ag}:(OW r h i t).cq=r.cq:=rfl
section
variable {r:eV} {h i:Int} {t:ag} {ht:List aw} {d:aw}
end
section
variable {E:eT} {Q:cZ} {D:List Deferred} {L:List (Nat×Value)} {C C1:List av} {c:Code}
variable {H:List (List aw)} {hz:List dG} {h h':List aw} {a a':dG} {k:Nat} {bs:List RA} {i:Nat} {d d':aw} {b:RA}
end
end
section
set_option maxRecDepth 20000
def mI (x y:Int):aw:=Cq ⟨x,y⟩
def oT:aw:=⟨false,false,gF,lF⟩
def p_:eV:=⟨g7,[4,7,9],[2,0,1],2,[[oT,mI 2600 2600,mI 2580 2609],[mI 2555 2559,mI 2540 2549,mI 2570 2575]]⟩
def dT:cH:=⟨p_,[⟨1,0,12600,13000⟩,⟨2,1,11003,11100⟩,⟨3,0,10700,10900⟩,⟨1,0,13000,14000⟩],[⟨2,0,0,0,72596⟩,⟨5,0,0,1,72603⟩,⟨6,0,0,3,20000⟩],1,500⟩
theorem zb {l:bg} {x y:Int} (h:lE ⟨x,y⟩):iM l (mI x y):=by rw [tG ⟨rfl,rfl⟩]; exact ⟨h,rfl,rfl,rfl⟩
theorem IC:fj p_:=by
 refine ⟨dc,dc,dc,fun i x hx=>?_,dc,fun h hh=>?_⟩
 ·match i with
  |0=>simp [p_] at hx; subst hx; exact ⟨dc,fun y h=>absurd h dc⟩
  |1=>simp [p_] at hx; subst hx; exact ⟨dc,fun y _ h=>by simp [p_] at h; omega⟩
  |2=>simp [p_] at hx; subst hx; exact ⟨dc,fun y _ h=>by simp [p_] at h; omega⟩
  |n+3=>simp [p_] at hx
 ·simp only [p_,bO,List.not_mem_nil,or_false] at hh
  rcases hh with rfl|rfl
  ·refine ⟨U,fun d hd=>?_⟩
   simp only [bO,List.not_mem_nil,or_false] at hd
   rcases hd with rfl|rfl|rfl
   ·rw [sV ⟨rfl,rfl⟩]; exact ⟨Pa.1,rfl⟩
   ·exact zb dc
   ·exact zb dc
  ·refine ⟨U,fun d hd=>?_⟩
   simp only [bO,List.not_mem_nil,or_false] at hd
   rcases hd with rfl|rfl|rfl<;>exact zb dc
theorem Ox:jv p_=0:=by unfold jv; rw [if_pos (show dw p_.au=0 from Nv),if_pos IC]
theorem NP:oB dT:=by
 refine ⟨dc,fun f hf=>?_,dc,dc,dc,fun i p hp=>?_⟩
 ·simp only [dT,bO,List.not_mem_nil,or_false] at hf
  rcases hf with rfl|rfl|rfl|rfl<;>decide
 ·match i with
  |0=>simp [dT] at hp; subst hp; exact ⟨dc,fun q h=>absurd h dc,dc,dc,dc,oT,rfl,dc⟩
  |1=>simp [dT] at hp; subst hp; exact ⟨dc,fun q _ h=>by simp [dT] at h; subst h; decide,dc,dc,dc,oT,rfl,dc⟩
  |2=>simp [dT] at hp; subst hp; exact ⟨dc,fun q _ h=>by simp [dT] at h; subst h; decide,dc,dc,dc,oT,rfl,dc⟩
  |n+3=>simp [dT] at hp
theorem n_:dU dT=0:=xI Ox NP
theorem Bp {b:Int} (h:b<2):tD g7 lF b=true:=by
 unfold tD; rw [Hb]; simp; omega
theorem MT (h:(-1:Int)<0):cL g7 lF (-1)=⟨10000,10000,true,false⟩:=if_pos h
theorem OZ:cL g7 lF 0=⟨10596,11002,true,false⟩:=by
 unfold cL; rw [if_neg dc,if_pos AV.1,AV.2,Bp dc]; rfl
theorem zp:cL g7 lF 1=⟨12596,12602,true,false⟩:=by
 unfold cL; rw [if_neg dc,if_pos ql.1,ql.2,Bp dc]; rfl
theorem Jq {f:aS} {a b:yg} (ha:cL g7 lF (yq f)=a) (hb:cL g7 lF (PH g7 f)=b):fK g7 f oT=m7 f a b:=by
 unfold fK
 rw [if_pos (by decide:nq oT)]
 show m7 f (cL g7 lF (yq f)) (cL g7 lF (PH g7 f))=_
 rw [ha,hb]
theorem Cw:fK g7 ⟨1,0,12600,13000⟩ oT=1:=(Jq (f:=⟨1,0,12600,13000⟩) (show cL g7 lF (-1)=_ from MT dc) (show cL g7 lF (1)=_ from zp)).trans dc
theorem OV:fK g7 ⟨2,1,11003,11100⟩ oT=2:=(Jq (f:=⟨2,1,11003,11100⟩) (show cL g7 lF (0)=_ from OZ) (show cL g7 lF (1)=_ from zp)).trans dc
theorem Jo:fK g7 ⟨1,0,13000,14000⟩ oT=0:=(Jq (f:=⟨1,0,13000,14000⟩) (show cL g7 lF (-1)=_ from MT dc) (show cL g7 lF (1)=_ from zp)).trans dc
theorem O8 {f:aS} {x y:Int}:fK g7 f (mI x y)=0:=o2 (by simp [mI,Cq,nq])
theorem AH {p:aZ} (hd:m_ dT p=some oT):lz dT p=if p.At≤72596 then 0 else if p.At≤72602 then 1 else 2:=by
 unfold lz
 rw [hd]
 simp only
 have e:cL dT.Race.au oT.bw dT.Race.au.cD=⟨12596,12602,true,false⟩:=zp
 rw [e]; rfl
theorem HE:lz dT ⟨2,0,0,0,72596⟩=0:=(AH rfl).trans dc
theorem J1:lz dT ⟨5,0,0,1,72603⟩=2:=(AH rfl).trans dc
theorem Jy {p:aZ} {f:aS} (hd:m_ dT p=some oT) (hf:dT.aI[p.fZ.toNat]? =some f):eI dT p=(decide (lz dT p≠2)&&decide (fK g7 f oT≠0)):=by
 unfold eI; rw [hd,hf]; rfl
theorem CI:eI dT ⟨2,0,0,0,72596⟩=true:=by rw [Jy (f:=⟨1,0,12600,13000⟩) rfl rfl,HE,Cw]; rfl
theorem HY:eI dT ⟨5,0,0,1,72603⟩=false:=by rw [Jy (f:=⟨2,1,11003,11100⟩) rfl rfl,J1]; rfl
theorem Jm:eI dT ⟨6,0,0,3,20000⟩=false:=by rw [Jy (f:=⟨1,0,13000,14000⟩) rfl rfl,Jo]; simp
theorem xr:iF dT=[0]:=by
 unfold iF te
 show iQ (fun i=>(dT.ax[i]?).any (eI dT)) 3=[0]
 rw [oW (by show eI dT ⟨6,0,0,3,20000⟩=false; exact Jm),oW (by show eI dT ⟨5,0,0,1,72603⟩=false; exact HY),qD (by show eI dT ⟨2,0,0,0,72596⟩=true; exact CI)]
 rfl
theorem KM:Dz g7 (lZ dT) dT.aI oT:=⟨⟨1,0,12600,13000⟩,by simp [dT],⟨0,⟨2,0,0,0,72596⟩,rfl,CI,rfl⟩,by rw [Cw]; decide⟩
theorem tv {x y:Int}: ¬ Dz g7 (lZ dT) dT.aI (mI x y):=fun ⟨f,_,_,h⟩=>h O8
theorem Mx:jY dT=[[0],[]]:=by
 have A:wE g7 (lZ dT) dT.aI [oT,mI 2600 2600,mI 2580 2609] 3=[0]:=by
  unfold wE
  rw [oW (by simp [tv]),oW (by simp [tv]),qD (by simp [KM])]; rfl
 have B:wE g7 (lZ dT) dT.aI [mI 2555 2559,mI 2540 2549,mI 2570 2575] 3=[]:=by
  unfold wE
  rw [oW (by simp [tv]),oW (by simp [tv]),oW (by simp [tv])]; rfl
 show [wE g7 (lZ dT) dT.aI [oT,mI 2600 2600,mI 2580 2609] 3,wE g7 (lZ dT) dT.aI [mI 2555 2559,mI 2540 2549,mI 2570 2575] 3]=_
 rw [A,B]
theorem Bz:yw dT=500∧Eu dT=1000:=by
 have h:yw dT=500:=by unfold yw; rw [xr]; rfl
 exact ⟨h,by unfold Eu; rw [h]; rfl⟩
theorem Fz:Dp dT 0= -1000:=by
 have h:H3 dT 0 3=2:=by
  unfold H3
  rw [show List.range 3=[0,1,2] from rfl]
  simp only [List.countP_cons,List.countP_nil]
  rw [show (dT.ax[0]?)=some ⟨2,0,0,0,72596⟩ from rfl,show (dT.ax[1]?)=some ⟨5,0,0,1,72603⟩ from rfl,show (dT.ax[2]?)=some ⟨6,0,0,3,20000⟩ from rfl]
  simp only [Option.any_some,CI,HY,Jm]
  decide
 unfold Dp
 rw [show dT.ax.length=3 from rfl,h]; rfl
end
section
open Go.RowKit
section
variable {E:eT} {ops:Array Oper} {Q:cZ} {rest:List Oper} {D:List Deferred} {L:List (Nat×Value)} {C C1:List av}
end
theorem wQ {C:List av}: ∀ {a b:List Nat} {X Y:List av},o9 C a=some X→o9 C b=some Y→o9 C (a++b)=some (X++Y)
 |[],b,X,Y,h,h2=>by cases h; exact h2
 |i::a,b,X,Y,h,h2=>by
  unfold o9 at h
  split at h
  ·rename_i A hA
   split at h
   ·rename_i l hl
    cases h
    have ih:=wQ hl h2
    show (match C[i]? with
     |some A=>match o9 C (a++b) with
      |some l=>some (A::l)
      |none=>none
     |none=>none)=_
    rw [hA,ih]; rfl
   ·cases h
  ·cases h
theorem Fx {E:eT} {ops:Array Oper} {Q:cZ} {rest:List Oper} {D:g6} {L:di} {C C1:List av} (X:List av) (i1 i2:List Nat) (h1:o9 C i1=some X) (h2:o9 C i2=some C1) (h:RJ E ops Q rest D L (bX X::C1)) (hn:decide (i1++i2).Nodup=true:=by rfl):RJ E ops Q rest D L C:=fun a w hf hs=>h a w hf (St.tied (St.kh _ hn (pE (wQ h1 h2)) hs))
theorem ze {E:eT} {ops:Array Oper} {Q:cZ} {rest:List Oper} {D:g6} {L:di} {C C1:List av} (ix:List Nat) (hn:decide ix.Nodup=true) (hC:o9 C ix=some C1) (h:RJ E ops Q rest D L C1):RJ E ops Q rest D L C:=fun a w hf hs=>h a w hf (St.kh _ hn (pE hC) hs)
theorem qF {M A B:Type} {f:M→A→List B} {n:Nat} (h: ∀ m a,(f m a).length=n): ∀ {ms:List M} {asl:List A},∀ x∈List.zipWith f ms asl,x.length=n
 |[],asl,x,hx=>by simp at hx
 |m::ms,[],x,hx=>by simp at hx
 |m::ms,a::asl,x,hx=>by
  rw [List.zipWith_cons_cons] at hx
  rcases bO.1 hx with rfl|hx
  ·exact h m a
  ·exact qF h x hx
theorem Eb (m:aw) (a:RA):(aw.cells m a).length=7:=rfl
theorem G8 (m:List aw) (a:dG):(de m a).length=1:=rfl
theorem N3 (m:List Int) (a:RA):(vD m a).length=1:=rfl
end
section
open Go.RowKit
theorem E5 {E:eT} {c:Code} {Q:cZ} {D:g6} {L:di} {C C1:List av} (X:List av) (i1 i2:List Nat) (h1:o9 C i1=some X) (h2:o9 C i2=some C1) (h:WJ E c Q D L (bX X::C1)) (hn:decide (i1++i2).Nodup=true:=by rfl):WJ E c Q D L C:=fun a w hf hs=>h a w hf (St.tied (St.kh _ hn (pE (wQ h1 h2)) hs))
def Ic:List aw:=[oT,mI 2600 2600,mI 2580 2609]
def Q9:List aw:=[mI 2555 2559,mI 2540 2549,mI 2570 2575]
theorem Kj {p q s t u v x y:RA}:HN p_.aH [(p,[s,t,u]),(q,[v,x,y])]:=⟨rfl,fun k h a hk ha=>by
 match k with
 |0=>simp [p_] at hk ha; subst hk; subst ha; rfl
 |1=>simp [p_] at hk ha; subst hk; subst ha; rfl
 |n+2=>simp at ha⟩
theorem MP {bz:List RA} {hz:List dG} (h:eo g7 bz) (hh:HN p_.aH hz):ov p_ bz hz:=⟨h,dc,dc,dc,hh.1,fun k x a hx ha=>by
 have hm:=aR hx
 have hs:=hh.2 k x a hx ha
 simp only [p_,bO,List.not_mem_nil,or_false] at hm
 rcases hm with rfl|rfl
 ·exact ⟨dc,hs,dc⟩
 ·exact ⟨dc,hs,dc⟩⟩
theorem Oa {bz:List RA} {hz:List dG} (h:eo g7 bz) (hh:HN p_.aH hz):gZ dT bz hz:=⟨MP h hh,dc,dc,dc⟩
end
section
open Go.RowKit
theorem Ow:mB dT 0 0 0=0∧lO dT 0 0 0=1:=by
 have e:=oQ (j:=dT) (k:=0) (h:=0) (s:=0) (f:=⟨1,0,12600,13000⟩) (ht:=Ic) (d:=oT) n_ dc rfl rfl rfl
 exact ⟨e.2,e.1.trans Cw⟩
theorem NV:mB dT 1 0 0=0∧lO dT 1 0 0=2:=by
 have e:=oQ (j:=dT) (k:=1) (h:=0) (s:=0) (f:=⟨2,1,11003,11100⟩) (ht:=Ic) (d:=oT) n_ dc rfl rfl rfl
 exact ⟨e.2,e.1.trans OV⟩
theorem Oc:mB dT 3 0 0=0∧lO dT 3 0 0=0:=by
 have e:=oQ (j:=dT) (k:=3) (h:=0) (s:=0) (f:=⟨1,0,13000,14000⟩) (ht:=Ic) (d:=oT) n_ dc rfl rfl rfl
 exact ⟨e.2,e.1.trans Jo⟩
theorem N4:rW dT 0=0∧tU dT 0=0:=by
 have e:=vQ (j:=dT) (i:=0) (p:=⟨2,0,0,0,72596⟩) n_ dc rfl
 exact ⟨e.2,e.1.trans HE⟩
theorem PB:rW dT 1=0∧tU dT 1=2:=by
 have e:=vQ (j:=dT) (i:=1) (p:=⟨5,0,0,1,72603⟩) n_ dc rfl
 exact ⟨e.2,e.1.trans J1⟩
theorem MR:iG dT=[0]:=(lL n_).trans xr
theorem Ht:eu dT=[[0],[]]:=(oh n_).trans Mx
theorem M5:zh dT=500∧zz dT=1000:=⟨(wi n_).1.trans Bz.1,(wi n_).2.trans Bz.2⟩
theorem Nd:qw dT 0=0∧sk dT 0= -1000:=⟨by unfold qw; rw [if_pos n_,if_pos dc],by unfold sk; rw [if_pos ⟨n_,dc⟩]; exact Fz⟩
end
section
theorem TN.sub {E:eT} {ops:Array Oper} {Q:cZ} {D:g6} {C' C1 C:List av} {tb rem:List Nat}: ∀ {n:Nat} {L L':di},df L L'→TN E ops D C' C1 (fun L C=>KJ E (Q .normal) D L C) tb n rem L' C→TN E ops D C' C1 (fun L C=>KJ E (Q .normal) D L C) tb n rem L C:=by
 intro n
 cases n with
 |zero=>intro L L' hs h; exact ic hs (fun _ h=>h) h
 |succ n=>intro L L' hs h i hi o ho K hK; exact M8 hs (fun _ h=>h) (h i hi o ho K hK)
theorem Mb {E:eT} {ops:Array Oper} {Q:cZ} {D:g6} {C' C1 C:List av} {bs:List Bool} {os:List Oper} {L:di} {tb rem:List Nat} {n:Nat} {t:Nat} {b:Bool} (h:L.lookup t=some (.bool b))
 (h1:b=true→qg E ops D C' C1 (fun L'=>TN E ops D C' C1 (fun L C=>KJ E (Q .normal) D L C) tb n rem L' C) bs os ((t,.bool true)::L)) (h2:b=false→qg E ops D C' C1 (fun L'=>TN E ops D C' C1 (fun L C=>KJ E (Q .normal) D L C) tb n rem L' C) bs os ((t,.bool false)::L)):
 qg E ops D C' C1 (fun L'=>TN E ops D C' C1 (fun L C=>KJ E (Q .normal) D L C) tb n rem L' C) bs os L:=by
 have A: ∀ v:Bool,b=v→df L ((t,.bool v)::L):=fun v hv=>df.cons (hv▸h) (fun _ _ h=>h)
 cases b
 ·exact qg.mono (fun _ _=>TN.sub) (A _ U) (h2 U)
 ·exact qg.mono (fun _ _=>TN.sub) (A _ U) (h1 U)
theorem Rf {E:eT} {ops:Array Oper} {Q:cZ} {D:List Deferred} {L:List (Nat×Value)} {C1 C2 C:List av} {t n:Nat} {b:Bool} {bs:List Bool} {os:List Oper} {tb rem:List Nat} (h:L.lookup t=some (.bool b)) (h2:b=false→qg E ops D C2 C1 (fun L2=>TN E ops D C2 C1 (fun L C=>KJ E (Q .normal) D L C) tb n rem L2 C) bs os ((t,.bool false)::L)) (h1:b=true→qg E ops D C2 C1 (fun L2=>TN E ops D C2 C1 (fun L C=>KJ E (Q .normal) D L C) tb n rem L2 C) bs os ((t,.bool true)::L)):qg E ops D C2 C1 (fun L2=>TN E ops D C2 C1 (fun L C=>KJ E (Q .normal) D L C) tb n rem L2 C) bs os L:=Mb h h1 h2
end
section
open Go.RowKit
section
variable {K:Type} [DecidableEq K] {kV:K→Value}
variable {E:eT} {ops:Array Oper} {Q:cZ} {rest:List Oper} {D:List Deferred} {L:List (Nat×Value)} {C:List av}
variable {ty:TypeId} {ps:String} {af:Array Edge} {g:Option (Nat×Bool)}
theorem sG {t kt et:TypeId} {xm xk:Operand} {ts:Array TypeId} {b:Nat} {x:K} {m m':List (K×Value)} {C':List av} (i:Nat) (hg:j0 ops L g=true) (hm:ev L xm=some (.map (some b))) (hk:ev L xk=some (kV x)) (hts:ts[0]? =some t)
 (ht:E.P.underlying t=some (.map kt et)) (hkt:uE E.P kt kV) (hC:C[i]? =some (jM kV b m)) (hm':eO m x=m') (hC':C.set i (jM kV b m')=C') (k:RJ E ops Q rest D L C'):
 RJ E ops Q (⟨none,.call {callee:= .builtin .delete,args:= #[xm,xk],argTypes:=ts},ty,ps,af,g⟩::rest) D L C:=by
 subst hm' hC'
 intro a w A hs
 unfold rX
 rw [if_pos (ed A hg)]
 obtain ⟨es,c,he,hi⟩:=hs.holds _ (aR hC)
 have B:(getObj b).run E.P w= .ok (.map es c) w:=MapKept.run_getObj_map he
 rcases oJ (P:=E.P) (w:=w) (x:=x) hkt hi with ⟨F,G⟩|⟨j,AA,F,G,H⟩
 ·refine iP (v:= .tuple #[]) (w':={w with heap:=w.heap.setIfInBounds b (.map es c)}) sm ?_ ?_
  ·simp [execOp,resolve,invoke,builtin,A.ev hm,A.ev hk,Builtin.delete_,hts,run_underlying ht,B,iZ hkt,F,MapKept.run_setObj_map _ he]
  ·refine k _ _ ⟨A.defers,A.size,A.at_⟩ (hs.x7 (b:=b) i hC U U (mX _) (fun _ h=>h) ⟨_,_,o8 he,?_⟩)
   rw [CJ G]; exact hi
 ·refine iP (v:= .tuple #[]) (w':={w with heap:=w.heap.setIfInBounds b (.map (es.eraseIdxIfInBounds j) c)}) sm ?_ ?_
  ·simp [execOp,resolve,invoke,builtin,A.ev hm,A.ev hk,Builtin.delete_,hts,run_underlying ht,B,iZ hkt,F,MapKept.run_setObj_map _ he]
  ·exact k _ _ ⟨A.defers,A.size,A.at_⟩ (hs.x7 (b:=b) i hC U U (mX _) (fun _ h=>h) ⟨_,_,o8 he,hi.del G⟩)
end
end
section
open Go.RowKit
section
variable {P:Program} {t:TypeId} {x y:Operand}
end
section
variable {E:eT} {ops:Array Oper} {Q:cZ} {rest:List Oper} {D:List Deferred} {L:List (Nat×Value)} {C:List av}
variable {dst:Option Tmp} {d:Nat} {ty:TypeId} {ps:String} {af:Array Edge} {g:Option (Nat×Bool)}
theorem L5 {A:av} (i:Nat) (h:C[i]? =some A.ro):iN C A.holds:=fun w hw=>by
 have B:=hw A.ro (aR h)
 exact B
end
end
section
open Go.RowKit
theorem o3 (n lo hi:Int):
 dx Tryz.prog 135 [(vI n),(vI lo),(vI hi)] [] (vB (decide (lo≤n∧n≤hi))):=by
 refine bB kr Tryz.func135 U U fun D Q hQ hN=>?_
 try dsimp only
 refine WS fun _ B=>bE 1 U<|RK B<|WS fun _ A=>rP 4 [] I ?_
 refine bU (t:=10) U (aU fun C=>?_) (aT fun C=>?_)
 ·refine rP 5 [] I ?_
  refine RK A<|ak<|Q1 hQ U U U ?_
  exact cB (gv.2 om)
 refine rP 5 [] I ?_
 refine RK A<|ak<|Q1 hQ U U U ?_
 exact cB (bD om).symm
theorem pM (s:ag) (lo hi:Int):
 dx Tryz.prog 136 [(vA (ag.cells s)),(vI lo),(vI hi)] [] (vB (decide (s.Lo≤s.Hi∧lo≤s.Lo∧s.Hi≤hi))):=by
 refine bB kr Tryz.func136 U U fun E Q hQ hN=>?_
 try dsimp only
 refine WS fun _ B=>er U fun D=>bE 1 U<|RK B<|WS fun _ A=>eN 5 [] (mc 0 U I) U<|rS (CL (o3 s.Lo lo s.Hi) (aM) U)<|rP 1 [] I ?_
 refine ck (t:=13) U (aT fun C=>?_) (aU fun C=>?_)
 ·refine rP 6 [] I ?_
  refine RK A<|ak<|Q1 hQ U U U ?_
  exact cB (bD om).symm
 refine rP 6 [] (mc 0 U I) ?_
 refine RK A<|ak<|Q1 hQ U U U ?_
 exact cB (gv.2 om)
theorem KB (t:List ao) (tA:OA) (tC:Nat):
 dx Tryz.prog 100 [(vA (bZ.cells (bZ.mk (bH.mk tA t.length tC))))] [(rd tA t.length 9 (t.map ao.cells))] (vB (decide (20<(t.length:Int)))):=by
 refine bB kr Tryz.func100 U U fun D Q hQ hN=>?_
 try dsimp only
 refine WS fun _ A=>er U fun C=>bE 1 U<|RK A<|WS fun _ B=>rP 5 [] (mc 0 U I) ?_
 refine RK B<|ak ?_
 exact Q1 hQ U U U U
theorem Mj (l:List Int) (lA:OA) (lC:Nat) (f:Value) (p:Int→Bool) (X:av) (hf: ∀ x0,x0∈l→CX Tryz.prog f [.int .i64 x0] [X] (.bool (p x0))) (hlen:l.length≤1000000):
 dx Tryz.prog 82 [(vS lA l.length lC),f] [(rd lA l.length 1 (l.map iC)),X] (vI (rQ p l)):=by
 refine bB kr Tryz.func82 U U fun R Q hQ hN=>?_
 try dsimp only
 refine WS fun _ G=>bE 1 U<|RK G<|aj fun _ H=>WS fun _ AA=>rP 3 [] I ?_
 refine RK AA<|aB ?_
 have B:(0≤l.length)∧((l.take 0).any p=false):=by simp
 refine bT (ι:={z:Nat // (z≤l.length)∧((l.take z).any p=false)}) [0,1,7] [0,1] U U (fun z=>[(8,(vI (z.1:Int)))]) (fun z=>[]) (fun _=>rfl) (fun _=>rfl) (fun z=>l.length-z.1) ⟨0,B⟩ (bx U) (aP [0,1]) ?_
 clear B
 rintro ⟨i,⟨N,A⟩⟩ J4 F
 try dsimp only
 refine WS fun _ J=>rP 1 [] I ?_
 refine RK J<|aj fun _ K=>bQ U (aT fun P=>?_) (aU fun P=>?_)
 ·refine bL<|ai<|ai<|aG<|KK H<|WS fun _ E=>rP 1 [] I ?_
  refine RK E<|ak<|Q1 hQ U U U ?_
  exact cI (pB om A).symm
 refine WK K<|aj fun _ L=>aB<|WS fun _ M=>bE 2 U<|RK M<|WS fun _ C=>rP 3 [] I ?_
 obtain ⟨x,hx⟩:=aJ l i om
 have O:=bK iC hx
 refine rS (IA i U (aA 0 U) dp dc om om)<|rS (hG i 0 (vI x) U cb (aA 0 U) O U dc U)<|rS (SX (pO U U U (hf x (aR hx)) (bq [1])) U U)<|RK C<|cu U (fun hp=>?_) (fun hp=>?_)
 ·refine WS fun _ D=>rP 2 [] I ?_
  refine RK D<|ak<|Q1 hQ U U U ?_
  exact cI (td hx hp A).symm
 refine cf<|aL<|KK L<|aq<|rP 2 [] I ?_
 refine aD ?_
 refine a7 (F ⟨(i+1),⟨om,sM hx A hp⟩⟩ _ _ _ U os (bx U) (aP [0,1]))
theorem pL (l:List Int) (lA:OA) (lC:Nat) (f:Value) (p:Int→Bool) (X:av) (hf: ∀ x0,x0∈l→CX Tryz.prog f [.int .i64 x0] [X] (.bool (p x0))) (hlen:l.length≤1000000):
 dx Tryz.prog 53 [(vS lA l.length lC),f] [(rd lA l.length 1 (l.map iC)),X] (vB (l.any p)):=by
 refine bB kr Tryz.func53 U U fun C Q hQ hN=>?_
 try dsimp only
 refine WS fun _ A=>bE 1 U<|RK A<|WS fun _ B=>bE 2 U<|rS (CL (Mj l lA lC f p X (by exact hf) hlen) (bq [0,1]) U)<|rP 2 [] I ?_
 refine RK B<|ak<|Q1 hQ U U U ?_
 exact cB rj
theorem Gb (n lo hi:Int) (g1 g2:Nat):
 dx Tryz.prog 129 [(vI n),(vP g1),(vP g2)] [(cm g1 3 [(vI lo)]),(cm g2 3 [(vI hi)])] (vB (decide (n<lo∨hi<n))):=by
 refine bB kr Tryz.func129 U U fun D Q hQ hN=>?_
 try dsimp only
 refine WS fun _ B=>bE 1 U<|RK B<|WS fun _ A=>rP 4 [] (mr 0 U I) ?_
 refine bU (t:=8) U (aU fun C=>?_) (aT fun C=>?_)
 ·refine rP 5 [] I ?_
  refine RK A<|ak<|Q1 hQ U U U ?_
  exact cB (dq om).symm
 refine rP 5 [] (mr 1 U I) ?_
 refine RK A<|ak<|Q1 hQ U U U ?_
 exact cB (gv.2 om)
theorem o7 (lo hi:Int) (l:List Int) (lA:OA) (lC:Nat) (hlen:l.length≤1000000):
 dx Tryz.prog 104 [(vI lo),(vI hi),(vS lA l.length lC)] [(rd lA l.length 1 (l.map iC))] (vB (pW lo hi l)):=by
 refine bB kr Tryz.func104 U U fun F Q hQ hN=>?_
 try dsimp only
 refine WS fun _ D=>vR U U fun A=>vR U U fun B=>bE 1 U<|RK D<|WS fun _ E=>rP 1 [] I ?_
 refine rS (FU U) ?_
 refine rS (CL (pL l lA lC (Value.func (.func 129) [].toArray [(vP A),(vP B)].toArray) (fun C=>(decide (C<lo∨hi<C))) (dL [(cm A 3 [(vI lo)]),(cm B 3 [(vI hi)])]) (by intro C _; exact kG (fi:=[]) (ca:=[(vP A),(vP B)]) (jJ (Gb C lo hi A B) (bq [0,1]))) hlen) (gT 2 U U<|aK (jF (bq [1,0]))<|aM) U) ?_
 refine rP 2 [] I ?_
 refine RK E<|ak ?_
 exact Q1 hQ U U U U
theorem vW (s:ag) (lo hi:Int):
 dx Tryz.prog 105 [(vA (ag.cells s)),(vI lo),(vI hi)] [] (vB (decide (s.Lo≤s.Hi∧lo≤s.Lo∧s.Hi≤hi))):=by
 refine bB kr Tryz.func105 U U fun F Q hQ hN=>?_
 try dsimp only
 refine WS fun _ B=>er U fun E=>bE 1 U<|RK B<|WS fun _ A=>rP 6 [] (mc 0 U I) ?_
 refine dZ (xs:=[.tmp 10,.tmp 12]) (cs:=[(vI s.Lo),(vI s.Hi)]) U dp j5 U U U U (by simp [Value.cells]) U U fun C=>?_
 refine rS (CL (dx.eq (o7 lo hi ([s.Lo,s.Hi]) (some ⟨C,0,none⟩) 2 (by (simp; done))) oS) (aK (bk 0 U U (by simp [bJ]) U)<|aM) U) ?_
 refine rP 1 [] I ?_
 refine ck (t:=15) U (aT fun D=>?_) (aU fun D=>?_)
 ·refine rP 7 [] I ?_
  refine RK A<|ak<|Q1 hQ U U U ?_
  exact cB (bD om).symm
 refine rP 7 [] (mc 1 U I) ?_
 refine RK A<|ak<|Q1 hQ U U U ?_
 exact cB (gv.2 om)
theorem vL (ts:List ao) (tsA:OA) (tsC:Nat) (hlen:ts.length≤1000000):
 dx Tryz.prog 120 [(vA (bZ.cells (bZ.mk (bH.mk tsA ts.length tsC))))] [(rd tsA ts.length 9 (ts.map ao.cells))] (vB (c8 ts)):=by
 refine bB kr Tryz.func120 U U fun w0 Q hQ hN=>?_
 try dsimp only
 refine WS fun _ C3=>er U fun b2=>bE 1 U<|RK C3<|aj fun _ Di=>WS fun _ Do=>eN 3 [] (mc 0 U I) U<|rS (CL (o3 (ts.length:Int) 1 12) (aM) U)<|rP 1 [] I ?_
 refine RK Do<|cu U (bp fun h5=>?_) (bo fun h5=>?_)
 ·refine WS fun _ EF=>rP 1 [] I ?_
  refine RK EF<|ak<|Q1 hQ U U U ?_
  exact cB (n8 om).symm
 refine WK Di<|aj fun _ EQ=>WS fun _ Eq=>rP 1 [] I ?_
 refine RK Eq<|aB ?_
 have E:(0≤ts.length)∧(eA (-1) ts=eA (gf ts 0) (ts.drop 0))∧(-1≤gf ts 0):=by (refine ⟨om,rfl,by simp [gf]⟩)
 refine bT (ι:={z:Nat // (z≤ts.length)∧(eA (-1) ts=eA (gf ts z) (ts.drop z))∧(-1≤gf ts z)}) [1] [0,1] U U (fun z=>[(3,(vI (z.1:Int)))]) (fun z=>[]) (fun _=>rfl) (fun _=>rfl) (fun z=>ts.length-z.1) ⟨0,E⟩ (bx U) (aP [0,1]) ?_
 clear E
 rintro ⟨i,⟨FS,A,Fd⟩⟩ J9 D
 try dsimp only
 have hz:i=0→gf ts i= -1:=B5
 refine aj fun _ K=>WS fun _ L=>rP 5 [] (mc 0 U I) ?_
 refine RK L<|bQ U (aT fun v=>?_) (aU fun v=>?_)
 ·refine bL<|ai<|ai<|aG<|KK EQ<|WS fun _ u=>rP 1 [] I ?_
  refine RK u<|ak<|Q1 hQ U U U ?_
  exact cB (vg A om om).symm
 refine WK K<|aj fun _ C=>aB<|WS fun _ M=>rP 3 [] (mc 0 U I) ?_
 obtain ⟨x,hx⟩:=aJ ts i om
 have Fn:=bK ao.cells hx
 refine rS (IA i U (aA 1 U) zJ dc om om)<|rS (lh i 0 (ao.cells x) U cb (aA 1 U) Fn U dc U U)<|AL U Ek fun GT=>fu U Il U<|RK M<|aj fun _ F=>aj fun _ B=>dg cp 38 kr<|lu 2 [] (mc 0 U I) U<|dS (CL (o3 x.Id 0 9999) (aM) U)<|dP 2 [] I ?_
 refine gY (t:=26) U (bp fun w=>?_) (bo fun w=>?_)
 ·refine kI 11 U<|kI 22 U<|cE<|RK B<|aQ U<|WS fun _ N=>rP 1 [] I ?_
  refine RK N<|ak<|Q1 hQ U U U ?_
  exact cB (dM A hx (by simp only [bP,dQ]; omega)).symm
 refine dP 3 [] I ?_
 refine js (t:=29) U (aT fun AC=>?_) (aU fun AC=>?_)
 ·refine kI 8 U<|kI 6 U<|dS (LP (ag.cells x.ko) 0 U cb U U U)<|dS (CL (pM x.ko 1 30000) (aM) U)<|dP 3 [] I ?_
  refine gY (t:=48) U (bp fun B3=>?_) (bo fun B3=>?_)
  ·refine kI 11 U<|cE<|RK B<|aQ U<|WS fun _ e=>rP 1 [] I ?_
   refine RK e<|ak<|Q1 hQ U U U ?_
   exact cB (dM A hx (by simp only [bP,dQ]; omega)).symm
  refine kI 1 U<|dS (LP (ag.cells x.lS) 0 U cb U U U)<|dS (CL (pM x.lS 0 5000) (aM) U)<|dP 3 [] I ?_
  refine gY (t:=54) U (bp fun B9=>?_) (bo fun B9=>?_)
  ·refine kI 5 U<|cE<|RK B<|aQ U<|WS fun _ f=>rP 1 [] I ?_
   refine RK f<|ak<|Q1 hQ U U U ?_
   exact cB (dM A hx (by simp only [bP,dQ]; omega)).symm
  refine lu 2 [] (mc 0 U I) U<|dS (CL (o3 x.z_ 0 5000) (aM) U)<|dP 2 [] I ?_
  refine cE<|RK B<|cu U (bp fun CF=>?_) (bo fun CF=>?_)
  ·refine WS fun _ g=>rP 1 [] I ?_
   refine RK g<|ak<|Q1 hQ U U U ?_
   exact cB (dM A hx (by simp only [bP,dQ]; omega)).symm
  refine WK F<|WS fun _ h=>eN 2 [] (mc 0 U I) U<|RK h<|aB<|WS fun _ j=>rS (BI U mF)<|rP 1 [] I ?_
  refine RK j<|cu U (aU fun Cf=>?_) (aT fun Cf=>?_)
  ·refine WS fun _ AB=>rP 5 [] (mc 0 U I) ?_
   refine bU (t:=68) U (bp fun Ci=>?_) (bo fun Ci=>?_)
   ·refine bE 5 U<|RK AB<|aQ U<|WS fun _ k=>rP 1 [] I ?_
    refine RK k<|ak<|Q1 hQ U U U ?_
    exact cB (dM A hx (by simp only [bP,dQ]; omega)).symm
   refine rP 5 [] (mc 0 U I) ?_
   refine RK AB<|bQ U (bo fun Ck=>?_) (bp fun Ck=>?_)
   ·refine cf<|aL<|aL<|KK C<|aq<|rP 3 [] I ?_
    refine aD ?_
    refine a7 (D ⟨(i+1),⟨om,g0 A hx (by simp only [bP,dQ]; omega),by rw [fY hx]; omega⟩⟩ _ _ _ U os (bx U) (aP [1,2]))
   refine WS fun _ l=>rP 1 [] I ?_
   refine RK l<|ak<|Q1 hQ U U U ?_
   exact cB (dM A hx (by simp only [bP,dQ]; omega)).symm
  refine aj fun _ J=>WS fun _ m=>rS (BI U mF)<|rP 1 [] I ?_
  refine RK m<|cu U (aU fun Cp=>?_) (aT fun Cp=>?_)
  ·refine WK J<|bQ U (aT fun Cx=>?_) (aU fun Cx=>?_)
   ·refine WS fun _ p=>rP 1 [] I ?_
    refine RK p<|ak<|Q1 hQ U U U ?_
    exact cB (n8 om).symm
   refine WS fun _ n=>bE 1 U<|rS (LP (ag.cells x.ej) 0 U cb U U U)<|rS (CL (pM x.ej 500 20000) (aM) U)<|rP 1 [] I ?_
   refine RK n<|bQ U (bo fun C0=>?_) (bp fun C0=>?_)
   ·refine cf<|aL<|aL<|KK C<|aq<|rP 3 [] I ?_
    refine aD ?_
    refine a7 (D ⟨(i+1),⟨om,g0 A hx (by simp only [bP,dQ]; omega),by rw [fY hx]; omega⟩⟩ _ _ _ U os (bx U) (aP [1,2]))
   refine WS fun _ o=>rP 1 [] I ?_
   refine RK o<|ak<|Q1 hQ U U U ?_
   exact cB (dM A hx (by simp only [bP,dQ]; omega)).symm
  refine aq<|rS (BI U mF)<|rP 1 [] I ?_
  refine RK J<|bQ U (aT fun C1=>?_) (aU fun C1=>?_)
  ·refine WS fun _ s=>rP 1 [] I ?_
   refine RK s<|ak<|Q1 hQ U U U ?_
   exact cB (dM A hx (by simp only [bP,dQ]; omega)).symm
  refine WS fun _ q=>bE 1 U<|rS (LP (ag.cells x.ej) 0 U cb U U U)<|rS (CL (pM x.ej 500 20000) (aM) U)<|rP 1 [] I ?_
  refine RK q<|bQ U (bo fun C2=>?_) (bp fun C2=>?_)
  ·refine cf<|aL<|aL<|KK C<|aq<|rP 3 [] I ?_
   refine aD ?_
   refine a7 (D ⟨(i+1),⟨om,g0 A hx (by simp only [bP,dQ]; omega),by rw [fY hx]; omega⟩⟩ _ _ _ U os (bx U) (aP [1,2]))
  refine WS fun _ r=>rP 1 [] I ?_
  refine RK r<|ak<|Q1 hQ U U U ?_
  exact cB (dM A hx (by simp only [bP,dQ]; omega)).symm
 refine dP 6 [0,1] (mc 0 U (mc 1 U I)) ?_
 obtain ⟨y,hy⟩:=aJ ts (i-1) om
 have GE:=bK ao.cells hy
 refine dS (IA (i-1) U (aA 2 U) zJ dc om om)<|dS (qc ((i-1)*9) U (aA 2 U) (Nat.mul_pos om dc) fE U) ?_
 have Go:=Dx om hy
 refine dS (hG (i-1) 0 (vI y.Id) U cb (aA 2 U) GE U dc U)<|dP 4 [] I ?_
 refine gY (t:=42) U (aU fun AO=>?_) (aT fun AO=>?_)
 ·refine kI 17 U<|cE<|RK B<|aQ U<|WS fun _ O=>rP 1 [] I ?_
  refine RK O<|ak<|Q1 hQ U U U ?_
  exact cB (dM A hx (by simp only [bP,dQ]; omega)).symm
 refine kI 1 U<|dS (LP (ag.cells x.ko) 0 U cb U U U)<|dS (CL (pM x.ko 1 30000) (aM) U)<|dP 3 [] I ?_
 refine gY (t:=48) U (bp fun A0=>?_) (bo fun A0=>?_)
 ·refine kI 11 U<|cE<|RK B<|aQ U<|WS fun _ P=>rP 1 [] I ?_
  refine RK P<|ak<|Q1 hQ U U U ?_
  exact cB (dM A hx (by simp only [bP,dQ]; omega)).symm
 refine kI 1 U<|dS (LP (ag.cells x.lS) 0 U cb U U U)<|dS (CL (pM x.lS 0 5000) (aM) U)<|dP 3 [] I ?_
 refine gY (t:=54) U (bp fun A1=>?_) (bo fun A1=>?_)
 ·refine kI 5 U<|cE<|RK B<|aQ U<|WS fun _ R=>rP 1 [] I ?_
  refine RK R<|ak<|Q1 hQ U U U ?_
  exact cB (dM A hx (by simp only [bP,dQ]; omega)).symm
 refine lu 2 [] (mc 0 U I) U<|dS (CL (o3 x.z_ 0 5000) (aM) U)<|dP 2 [] I ?_
 refine cE<|RK B<|cu U (bp fun A2=>?_) (bo fun A2=>?_)
 ·refine WS fun _ S=>rP 1 [] I ?_
  refine RK S<|ak<|Q1 hQ U U U ?_
  exact cB (dM A hx (by simp only [bP,dQ]; omega)).symm
 refine WK F<|WS fun _ T=>eN 2 [] (mc 0 U I) U<|RK T<|aB<|WS fun _ AA=>rS (BI U mF)<|rP 1 [] I ?_
 refine RK AA<|cu U (aU fun A3=>?_) (aT fun A3=>?_)
 ·refine WS fun _ G=>rP 5 [] (mc 0 U I) ?_
  refine bU (t:=68) U (bp fun A4=>?_) (bo fun A4=>?_)
  ·refine bE 5 U<|RK G<|aQ U<|WS fun _ V=>rP 1 [] I ?_
   refine RK V<|ak<|Q1 hQ U U U ?_
   exact cB (dM A hx (by simp only [bP,dQ]; omega)).symm
  refine rP 5 [] (mc 0 U I) ?_
  refine RK G<|bQ U (bo fun A5=>?_) (bp fun A5=>?_)
  ·refine cf<|aL<|aL<|KK C<|aq<|rP 3 [] I ?_
   refine aD ?_
   refine a7 (D ⟨(i+1),⟨om,g0 A hx (by simp only [bP,dQ]; omega),by rw [fY hx]; omega⟩⟩ _ _ _ U os (bx U) (aP [1,2]))
  refine WS fun _ W=>rP 1 [] I ?_
  refine RK W<|ak<|Q1 hQ U U U ?_
  exact cB (dM A hx (by simp only [bP,dQ]; omega)).symm
 refine aj fun _ H=>WS fun _ X=>rS (BI U mF)<|rP 1 [] I ?_
 refine RK X<|cu U (aU fun A6=>?_) (aT fun A6=>?_)
 ·refine WK H<|bQ U (aT fun A7=>?_) (aU fun A7=>?_)
  ·refine WS fun _ a=>rP 1 [] I ?_
   refine RK a<|ak<|Q1 hQ U U U ?_
   exact cB (n8 om).symm
  refine WS fun _ Y=>bE 1 U<|rS (LP (ag.cells x.ej) 0 U cb U U U)<|rS (CL (pM x.ej 500 20000) (aM) U)<|rP 1 [] I ?_
  refine RK Y<|bQ U (bo fun A8=>?_) (bp fun A8=>?_)
  ·refine cf<|aL<|aL<|KK C<|aq<|rP 3 [] I ?_
   refine aD ?_
   refine a7 (D ⟨(i+1),⟨om,g0 A hx (by simp only [bP,dQ]; omega),by rw [fY hx]; omega⟩⟩ _ _ _ U os (bx U) (aP [1,2]))
  refine WS fun _ Z=>rP 1 [] I ?_
  refine RK Z<|ak<|Q1 hQ U U U ?_
  exact cB (dM A hx (by simp only [bP,dQ]; omega)).symm
 refine aq<|rS (BI U mF)<|rP 1 [] I ?_
 refine RK H<|bQ U (aT fun A9=>?_) (aU fun A9=>?_)
 ·refine WS fun _ d=>rP 1 [] I ?_
  refine RK d<|ak<|Q1 hQ U U U ?_
  exact cB (dM A hx (by simp only [bP,dQ]; omega)).symm
 refine WS fun _ b=>bE 1 U<|rS (LP (ag.cells x.ej) 0 U cb U U U)<|rS (CL (pM x.ej 500 20000) (aM) U)<|rP 1 [] I ?_
 refine RK b<|bQ U (bo fun BV=>?_) (bp fun BV=>?_)
 ·refine cf<|aL<|aL<|KK C<|aq<|rP 3 [] I ?_
  refine aD ?_
  refine a7 (D ⟨(i+1),⟨om,g0 A hx (by simp only [bP,dQ]; omega),by rw [fY hx]; omega⟩⟩ _ _ _ U os (bx U) (aP [1,2]))
 refine WS fun _ c=>rP 1 [] I ?_
 refine RK c<|ak<|Q1 hQ U U U ?_
 exact cB (dM A hx (by simp only [bP,dQ]; omega)).symm
theorem Bx (ts:List ao) (tsA:OA) (tsC:Nat) (hlen:ts.length≤1000000) (hside: ∀ x∈ts,0≤x.iY∧x.iY≤255):
 dx Tryz.prog 91 [(vA (bZ.cells (bZ.mk (bH.mk tsA ts.length tsC))))] [(rd tsA ts.length 9 (ts.map ao.cells))] (vI (if c8 ts=true then 0 else 10)):=by
 refine bB kr Tryz.func91 U U fun w0 Q hQ hN=>?_
 try dsimp only
 refine WS fun _ v=>er U fun b2=>bE 1 U<|RK v<|zE U<|aj fun _ w=>WS fun _ y=>rP 3 [] (mc 0 U I) ?_
 refine dZ (xs:=[.tmp 11]) (cs:=[(vI (ts.length:Int))]) U dp j5 U U U U (by simp [Value.cells]) U U fun b5=>?_
 refine rS (CL (dx.eq (o7 1 12 ([(ts.length:Int)]) (some ⟨b5,0,none⟩) 1 (by (simp; done))) cv) (aK (bk 0 U U (by simp [bJ]) U)<|aM) U) ?_
 refine rP 1 [] I ?_
 refine RK y<|cu U (bp fun h6=>?_) (bo fun h6=>?_)
 ·refine WS fun _ AC=>rP 1 [] I ?_
  refine RK AC<|ak<|Q1 hQ U U U ?_
  exact cI (if_neg (by rw [n8 om]; decide)).symm
 refine WK w<|WS fun _ AO=>bE 1 U<|RK AO<|WS fun _ A0=>bE 1 U<|RK A0<|aj fun _ J=>zc<|KK J<|aj fun _ B=>WS fun _ K=>rP 4 [] (mc 1 U I) ?_
 refine RK K<|aB ?_
 have D:(0≤ts.length)∧(eA (-1) ts=eA (gf ts 0) (ts.drop 0))∧(-1≤gf ts 0)∧(gf ts 0≤9999):=by (refine ⟨om,rfl,by simp [gf],by simp [gf]⟩)
 refine bT (ι:={z:Nat // (z≤ts.length)∧(eA (-1) ts=eA (gf ts z) (ts.drop z))∧(-1≤gf ts z)∧(gf ts z≤9999)}) [1,4,16,17] [1,2] U U (fun z=>[(3,(vI (gf ts z.1))),(18,(vI (z.1:Int)))]) (fun z=>[]) (fun _=>rfl) (fun _=>rfl) (fun z=>ts.length-z.1) ⟨0,D⟩ (bx U) (aP [1,2]) ?_
 clear D
 rintro ⟨i,⟨A1,A,A2,A3⟩⟩ J13 E
 try dsimp only
 refine WS fun _ L=>rP 1 [] I ?_
 refine RK L<|aj fun _ M=>bQ U (aT fun k=>?_) (aU fun k=>?_)
 ·refine bL<|ai<|ai<|aG<|KK B<|WS fun _ O=>rP 2 [] I ?_
  refine RK O<|ak<|Q1 hQ U U U ?_
  exact cI (if_pos (vg A om om)).symm
 refine WK M<|aj fun _ F=>aB<|WS fun _ N=>?_
 obtain ⟨x,hx⟩:=aJ ts i om
 have A4:=bK ao.cells hx
 refine rS (IA i U (aA 1 U) zJ dc om om) ?_
 have A8:=hside x (aR hx)
 refine rS (lh i 0 (ao.cells x) U cb (aA 1 U) A4 U dc U U)<|AL U Ek fun A5=>fu U Il U<|RK N ?_
 refine kD (ι:=Unit) [1,3,4,6,16,17,18] [0,1,2] U U (fun z=>[(7,(vB (decide (x.iY=0∧x.ej.Lo=0∧x.ej.Hi=0))))]) (fun z=>[]) (fun _=>rfl) (fun _=>rfl) ?_ fun K20 G=>?_
 ·intro _
  try dsimp only
  refine kD (ι:=Unit) [1,3,4,6,7,16,17,18] [0,1,2] U U (fun z=>[(8,(vB (decide ((1≤x.iY∧x.iY≤2)∧x.ej.Lo≤x.ej.Hi∧500≤x.ej.Lo∧x.ej.Hi≤20000))))]) (fun z=>[]) (fun _=>rfl) (fun _=>rfl) ?_ fun K21 H=>?_
  ·intro _
   try dsimp only
   refine aj fun _ AB=>WS fun _ C=>rP 4 [] (mc 0 U I) ?_
   refine dZ (xs:=[.tmp 44]) (cs:=[(vI x.Id)]) U dp j5 U U U U (by simp [Value.cells]) U U fun h=>?_
   refine rS (CL (dx.eq (o7 ((gf ts i)+1) 9999 ([x.Id]) (some ⟨h,0,none⟩) 1 (by (simp; done))) cv) (aK (bk 0 U U (by simp [bJ]) U)<|aM) U) ?_
   refine rP 2 [] I ?_
   refine bU (t:=48) U (bp fun o=>?_) (bo fun o=>?_)
   ·refine bE 26 U<|RK C<|aQ U<|WS fun _ P=>bE 1 U<|RK P<|bL<|ai<|eU U<|ai<|ai<|aG<|KK B<|WS fun _ R=>rP 2 [] I ?_
    refine RK R<|ak<|Q1 hQ U U U ?_
    exact cI (if_neg (by rw [dM A hx (by simp only [bP,dQ]; omega)]; decide)).symm
   refine bE 1 U<|rS (LP (ag.cells x.ko) 1 U cb U U U)<|rS (CL (vW x.ko 1 30000) (aM) U)<|rP 3 [] I ?_
   refine bU (t:=54) U (bp fun p=>?_) (bo fun p=>?_)
   ·refine bE 20 U<|RK C<|aQ U<|WS fun _ S=>bE 1 U<|RK S<|bL<|ai<|eU U<|ai<|ai<|aG<|KK B<|WS fun _ T=>rP 2 [] I ?_
    refine RK T<|ak<|Q1 hQ U U U ?_
    exact cI (if_neg (by rw [dM A hx (by simp only [bP,dQ]; omega)]; decide)).symm
   refine bE 1 U<|rS (LP (ag.cells x.lS) 1 U cb U U U)<|rS (CL (vW x.lS 0 5000) (aM) U)<|rP 3 [] I ?_
   refine bU (t:=60) U (bp fun q=>?_) (bo fun q=>?_)
   ·refine bE 14 U<|RK C<|aQ U<|WS fun _ AA=>bE 1 U<|RK AA<|bL<|ai<|eU U<|ai<|ai<|aG<|KK B<|WS fun _ V=>rP 2 [] I ?_
    refine RK V<|ak<|Q1 hQ U U U ?_
    exact cI (if_neg (by rw [dM A hx (by simp only [bP,dQ]; omega)]; decide)).symm
   refine rP 2 [] (mc 1 U I) ?_
   refine dZ (xs:=[.tmp 62]) (cs:=[(vI x.z_)]) U dp j5 U U U U (by simp [Value.cells]) U U fun j=>?_
   refine rS (CL (dx.eq (o7 0 5000 ([x.z_]) (some ⟨j,0,none⟩) 1 (by (simp; done))) cv) (aK (bk 0 U U (by simp [bJ]) U)<|aM) U) ?_
   refine rP 3 [] I ?_
   refine bU (t:=67) U (bp fun r=>?_) (bo fun r=>?_)
   ·refine bE 7 U<|RK C<|aQ U<|WS fun _ W=>bE 1 U<|RK W<|bL<|ai<|eU U<|ai<|ai<|aG<|KK B<|WS fun _ X=>rP 2 [] I ?_
    refine RK X<|ak<|Q1 hQ U U U ?_
    exact cI (if_neg (by rw [dM A hx (by simp only [bP,dQ]; omega)]; decide)).symm
   refine rP 3 [] I ?_
   refine ck (t:=70) U (bo fun s=>?_) (bp fun s=>?_)
   ·refine bE 4 U<|RK C<|cg U<|WK AB<|aq<|eN 3 [] (mc 2 U I) U<|aD<|aL<|KK F<|aq<|rP 2 [] I ?_
    refine aD ?_
    have f:(vI (gf ts (i+1)))=(vI x.Id):=by rw [fY hx]
    refine a7 (E ⟨(i+1),⟨om,g0 A hx (by simp only [bP,dQ]; omega),by rw [fY hx]; omega,by rw [fY hx]; omega⟩⟩ _ _ _ U os (cw 4<|aX U f<|bx U) (aP [3,4]))
   refine rP 4 [] I ?_
   refine RK C<|bQ U (bo fun u=>?_) (bp fun u=>?_)
   ·refine WK AB<|aq<|eN 3 [] (mc 2 U I) U<|aD<|aL<|KK F<|aq<|rP 2 [] I ?_
    refine aD ?_
    have e:(vI (gf ts (i+1)))=(vI x.Id):=by rw [fY hx]
    refine a7 (E ⟨(i+1),⟨om,g0 A hx (by simp only [bP,dQ]; omega),by rw [fY hx]; omega,by rw [fY hx]; omega⟩⟩ _ _ _ U os (cw 4<|aX U e<|bx U) (aP [3,4]))
   refine WS fun _ Y=>bE 1 U<|RK Y<|bL<|ai<|eU U<|ai<|ai<|aG<|KK B<|WS fun _ Z=>rP 2 [] I ?_
   refine RK Z<|ak<|Q1 hQ U U U ?_
   exact cI (if_neg (by rw [dM A hx (by simp only [bP,dQ]; omega)]; decide)).symm
  refine aq<|rP 2 [] (mc 0 U I) ?_
  refine rS (SX (rG (m:=x.iY) U U OI rM (nV (by first|assumption|omega))) U U)<|dZ (xs:=[.tmp 33]) (cs:=[(vI x.iY)]) U dp j5 U U U U (by simp [Value.cells]) U U fun g=>?_
  refine rS (CL (dx.eq (o7 1 2 ([x.iY]) (some ⟨g,0,none⟩) 1 (by (simp; done))) cv) (aK (bk 0 U U (by simp [bJ]) U)<|aM) U) ?_
  refine rP 1 [] I ?_
  refine ck (t:=36) U (aT fun n=>?_) (aU fun n=>?_)
  ·refine rP 5 [] I ?_
   refine aD ?_
   have d:(decide ((1≤x.iY∧x.iY≤2)∧x.ej.Lo≤x.ej.Hi∧500≤x.ej.Lo∧x.ej.Hi≤20000))=false:=bD om
   refine a7 (ic (cw 8<|mZ U d<|df.nil _) (aP [1,2,3]) (H ()))
  refine bE 1 U<|rS (LP (ag.cells x.ej) 1 U cb U U U)<|rS (CL (vW x.ej 500 20000) (aM) U)<|rP 2 [] I ?_
  refine aD ?_
  have c:(decide ((1≤x.iY∧x.iY≤2)∧x.ej.Lo≤x.ej.Hi∧500≤x.ej.Lo∧x.ej.Hi≤20000))=(decide (x.ej.Lo≤x.ej.Hi∧500≤x.ej.Lo∧x.ej.Hi≤20000)):=gv.2 om
  refine a7 (ic (cw 8<|mZ U c<|df.nil _) (aP [1,2,3]) (H ()))
 refine aq<|eN 2 [] (mc 0 U I) U<|rS (BI U mF)<|rP 1 [] I ?_
 refine ck (t:=25) U (aT fun l=>?_) (aU fun l=>?_)
 ·refine rP 6 [] I ?_
  refine aD ?_
  have b:(decide (x.iY=0∧x.ej.Lo=0∧x.ej.Hi=0))=false:=bD om
  refine a7 (ic (cw 7<|mZ U b<|df.nil _) (aP [0,1,2]) (G ()))
 refine bE 1 U<|rS (LP (ag.cells x.ej) 0 U cb U U U)<|rS (SX (a_ (xs:=[]) (cs:=(ag.cells (ag.mk 0 0))) U U (bf gM U)) U U)<|rS (BI U (xy _ _ x.ej (ag.mk 0 0)))<|rP 2 [] I ?_
 refine aD ?_
 have a:(decide (x.iY=0∧x.ej.Lo=0∧x.ej.Hi=0))=(decide (x.ej=(ag.mk 0 0))):=gv.2 (by (simp only [ag.ext_iff] at *; omega))
 refine a7 (ic (cw 7<|mZ U a<|df.nil _) (aP [0,1,2]) (G ()))
theorem CS (la:List Int) (laA:OA) (laC:Nat) (lb:List Int) (lbA:OA) (lbC:Nat) (h1:la.length≤1000000) (h2:lb.length≤1000000):
 dx Tryz.prog 19 [(vS laA la.length laC),(vS lbA lb.length lbC)] [(rd laA la.length 1 (la.map iC)),(rd lbA lb.length 1 (lb.map iC))] (vB (decide (la=lb))):=by
 refine bB kr Tryz.func19 U U fun V Q hQ hN=>?_
 try dsimp only
 refine WS fun _ J=>bE 1 U<|RK J<|aj fun _ K=>WS fun _ L=>rP 5 [] I ?_
 refine RK L<|cu U (bp fun hl=>?_) (bo fun hl=>?_)
 ·refine WS fun _ M=>rP 1 [] I ?_
  refine RK M<|ak<|Q1 hQ U U U ?_
  first|exact cB (bD (qi hx hy h)).symm|exact cB (dq (qI om A om)).symm|exact cB (bD (fun e=>by subst e; omega)).symm
 refine WK K<|aj fun _ N=>WS fun _ O=>rP 1 [] I ?_
 refine RK O<|aB ?_
 have B:(0≤la.length)∧(la.take 0=lb.take 0):=by simp
 refine bT (ι:={z:Nat // (z≤la.length)∧(la.take z=lb.take z)}) [0,1] [0,1] U U (fun z=>[(5,(vI (z.1:Int)))]) (fun z=>[]) (fun _=>rfl) (fun _=>rfl) (fun z=>la.length-z.1) ⟨0,B⟩ (bx U) (aP [0,1]) ?_
 clear B
 rintro ⟨i,⟨S,A⟩⟩ J7 AB
 try dsimp only
 refine aj fun _ P=>WS fun _ R=>rP 4 [] I ?_
 refine RK R<|bQ U (aT fun H=>?_) (aU fun H=>?_)
 ·refine bL<|ai<|ai<|aG<|KK N<|WS fun _ F=>rP 1 [] I ?_
  refine RK F<|ak<|Q1 hQ U U U ?_
  first|exact cB (bD (qi hx hy h)).symm|exact cB (dq (qI om A om)).symm|exact cB (bD (fun e=>by subst e; omega)).symm
 refine WK P<|aj fun _ C=>aB<|aj fun _ D=>dg cp 9 kr<|dP 2 [] I ?_
 obtain ⟨x,hx⟩:=aJ la i om
 have T:=bK iC hx
 refine dS (IA i U (aA 0 U) dp dc om om)<|dS (hG i 0 (vI x) U cb (aA 0 U) T U dc U)<|dP 2 [] I ?_
 obtain ⟨y,hy⟩:=aJ lb i om
 have AA:=bK iC hy
 refine dS (IA i U (aA 1 U) dp dc om om)<|dS (hG i 0 (vI y) U cb (aA 1 U) AA U dc U)<|dP 1 [] I ?_
 refine cE<|RK D<|cu U (bp fun h=>?_) (bo fun h=>?_)
 ·refine WS fun _ E=>rP 1 [] I ?_
  refine RK E<|ak<|Q1 hQ U U U ?_
  first|exact cB (bD (qi hx hy h)).symm|exact cB (dq (qI om A om)).symm|exact cB (bD (fun e=>by subst e; omega)).symm
 refine cf<|aL<|KK C<|aq<|rP 3 [] I ?_
 refine aD ?_
 have G:(vI (((i+1):Nat):Int))=(vI ((i:Int)+1)):=by exact cI om
 refine a7 (AB ⟨(i+1),⟨om,uV A hx hy h⟩⟩ _ _ _ U os (df.cons U<|df.cons U<|aX U G<|df.nil _) (aP [0,1]))
end
section
open Go.RowKit
theorem JP (n lo hi:Int) (g1 g2:Nat):
 dx Tryz.prog 54 [(vI n),(vP g1),(vP g2)] [(cm g1 3 [(vI lo)]),(cm g2 3 [(vI hi)])] (vB (decide (n<lo∨hi<n))):=by
 refine bB kr Tryz.func54 U U fun D Q hQ hN=>?_
 try dsimp only
 refine WS fun _ B=>bE 1 U<|RK B<|WS fun _ A=>rP 4 [] (mr 0 U I) ?_
 refine bU (t:=8) U (aU fun C=>?_) (aT fun C=>?_)
 ·refine rP 5 [] I ?_
  refine RK A<|ak<|Q1 hQ U U U ?_
  exact cB (dq om).symm
 refine rP 5 [] (mr 1 U I) ?_
 refine RK A<|ak<|Q1 hQ U U U ?_
 exact cB (gv.2 om)
theorem iE (lo hi:Int) (l:List Int) (lA:OA) (lC:Nat) (hlen:l.length≤1000000):
 dx Tryz.prog 33 [(vI lo),(vI hi),(vS lA l.length lC)] [(rd lA l.length 1 (l.map iC))] (vB (pW lo hi l)):=by
 refine bB kr Tryz.func33 U U fun F Q hQ hN=>?_
 try dsimp only
 refine WS fun _ D=>vR U U fun A=>vR U U fun B=>bE 1 U<|RK D<|WS fun _ E=>rP 1 [] I ?_
 refine rS (FU U) ?_
 refine rS (CL (pL l lA lC (Value.func (.func 54) [].toArray [(vP A),(vP B)].toArray) (fun C=>(decide (C<lo∨hi<C))) (dL [(cm A 3 [(vI lo)]),(cm B 3 [(vI hi)])]) (by intro C _; exact kG (fi:=[]) (ca:=[(vP A),(vP B)]) (jJ (JP C lo hi A B) (bq [0,1]))) hlen) (gT 2 U U<|aK (jF (bq [1,0]))<|aM) U) ?_
 refine rP 2 [] I ?_
 refine RK E<|ak ?_
 exact Q1 hQ U U U U
theorem tP (o fx:Bool) (tm:ag) (rv:cN):
 dx Tryz.prog 55 [(vA (aO.cells (aO.mk o fx tm rv)))] [] (vB (decide (o=false∧fx=false))):=by
 refine bB kr Tryz.func55 U U fun E Q hQ hN=>?_
 try dsimp only
 refine WS fun _ B=>er U fun D=>bE 1 U<|RK B<|WS fun _ A=>rP 4 [] (mc 0 U I) ?_
 refine ck (t:=6) U (fun C=>?_) (fun C=>?_)
 ·rw [Bool.not_eq_false'] at C
  refine rP 5 [] I ?_
  refine RK A<|ak<|Q1 hQ U U U ?_
  clear hQ hN A B
  refine cB ?_
  (simp_all; done)
 rw [Bool.not_eq_true'] at C
 refine rP 5 [] (mc 0 U I) ?_
 refine RK A<|ak<|Q1 hQ U U U ?_
 clear hQ hN A B
 refine cB ?_
 (simp_all; done)
theorem LG (l:List aS) (lA:OA) (lC:Nat) (f:Value) (p:Int→aS→Bool) (X:av) (hf: ∀ x0 x1,(∃ i_:Nat,x0=(i_:Int)∧l[i_]? =some x1)→CX Tryz.prog f [.int .i64 x0,.agg (aS.cells x1).toArray] [X] (.bool (p x0 x1))) (hlen:l.length≤1000000):
 q6 Tryz.prog 80 [(vS lA l.length lC),f] [(rd lA l.length 4 (l.map aS.cells)),X] (fun (x:(OA)×Nat)=>(vS x.1 ((iQ (hO l p) l.length).length) x.2)) (fun (x:(OA)×Nat)=>True) (fun (x:(OA)×Nat)=>[(own x.1 x.2 3 1 ((iQ (hO l p) l.length).map iC))]):=by
 refine fR kr Tryz.func80 U U fun Z Q hQ hN=>?_
 try dsimp only
 refine WS fun _ M=>bE 1 U<|RK M<|WS fun _ N=>bE 1 U<|RK N<|aj fun _ O=>WS fun _ R=>rP 3 [] I ?_
 refine RK R<|aB<|ew 3 1 ?_
 have A:(0≤l.length):=by exact Nat.zero_le _
 refine bT (ι:={z:Nat×(OA)×Nat // (z.1≤l.length)}) [1,8,9] [1,2] U U (fun z=>[(5,(vS z.1.2.1 ((iQ (hO l p) z.1.1).length) z.1.2.2)),(10,(vI (z.1.1:Int)))]) (fun z=>[(own z.1.2.1 z.1.2.2 3 1 ((iQ (hO l p) z.1.1).map iC))]) (fun _=>rfl) (fun _=>rfl) (fun z=>l.length-z.1.1) ⟨(0,none,0),A⟩ (bx U) (aP [1,2,0]) ?_
 clear A
 rintro ⟨⟨i,a,c⟩,C⟩ J5 D
 try dsimp only at C
 try dsimp only
 refine WS fun _ S=>rP 1 [] I ?_
 refine RK S<|aj fun _ T=>bQ U (aT fun Y=>?_) (aU fun Y=>?_)
 ·refine bL<|ai<|ai<|aG<|KK O<|WS fun _ G=>?_
  rw [show (iQ (hO l p) i)=(iQ (hO l p) l.length) from by rw [show i=l.length by omega]]
  refine rP 2 [] I ?_
  refine RK G<|ak<|LX hQ (a,c) [2] [] I U U U U ?_
  trivial
 refine WK T<|aj fun _ H=>aB<|WS fun _ E=>rP 1 [] I ?_
 obtain ⟨x,hx⟩:=aJ l i om
 have AA:=bK aS.cells hx
 refine rS (IA i U (aA 0 U) Ar dc om om)<|rS (lh i 0 (aS.cells x) U cb (aA 0 U) AA U dc U U)<|AL U NX fun V=>bE 1 U<|fu U P7 U<|RK E<|WS fun _ F=>rP 3 [] (mc 0 U I) ?_
 refine rS (SX (pO U U U (hf (i:Int) x ⟨_,U,hx⟩) (bq [2])) U U)<|RK F<|bQ U (fun B=>?_) (fun B=>?_)
 ·refine cf<|aL<|KK H<|aq<|rP 2 [] I ?_
  refine aD ?_
  rw [show iQ (hO l p) i=iQ (hO l p) (i+1) from (oW (by rw [rr hx]; simpa using B)).symm]
  have J:(vI (((i+1):Nat):Int))=(vI ((i:Int)+1)):=by exact cI om
  refine a7 (D ⟨((i+1),a,c),(by first|omega|(simp only []; omega))⟩ _ _ _ U os (cw 4<|aX U J<|df.nil _) (aP [1,2,3]))
 refine aq<|rP 2 [] I ?_
 refine dZ (xs:=[.tmp 20]) (cs:=[(vI (i:Int))]) U dp j5 U U U U (by simp [Value.cells]) U U fun W=>?_
 refine fg (es2:=(List.map iC (iQ (hO l p) (i+1)))) (m':=(iQ (hO l p) (i+1)).length) 4 U U U ub U U sm (bk (es:=List.map iC [(i:Int)]) 0 U U (by simp [bJ]) U) (lT _) (by have:=nk (P:=hO l p) (n:=i); omega) (by have:=nk (P:=hO l p) (n:=i); simp only [maxLen]; omega) (by rw [qD (by rw [rr hx]; exact B)]; simp) sm U fun K L=>?_
 try dsimp only
 refine bE 1 U<|aD<|aL<|KK H<|aq<|rP 2 [] I ?_
 refine aD ?_
 have AB:(vI (((i+1):Nat):Int))=(vI ((i:Int)+1)):=by exact cI om
 refine a7 (D ⟨((i+1),K,L),(by first|omega|(simp only []; omega))⟩ _ _ _ U os (cw 4<|aX U AB<|df.nil _) (aP [2,3,4]))
theorem zy (l:List aZ) (lA:OA) (lC:Nat) (f:Value) (p:Int→aZ→Bool) (X:av) (hf: ∀ x0 x1,(∃ i_:Nat,x0=(i_:Int)∧l[i_]? =some x1)→CX Tryz.prog f [.int .i64 x0,.agg (aZ.cells x1).toArray] [X] (.bool (p x0 x1))) (hlen:l.length≤1000000):
 q6 Tryz.prog 30 [(vS lA l.length lC),f] [(rd lA l.length 5 (l.map aZ.cells)),X] (fun (x:(OA)×Nat)=>(vS x.1 ((iQ (hO l p) l.length).length) x.2)) (fun (x:(OA)×Nat)=>True) (fun (x:(OA)×Nat)=>[(own x.1 x.2 3 1 ((iQ (hO l p) l.length).map iC))]):=by
 refine fR kr Tryz.func30 U U fun Z Q hQ hN=>?_
 try dsimp only
 refine WS fun _ M=>bE 1 U<|RK M<|WS fun _ N=>bE 1 U<|RK N<|aj fun _ O=>WS fun _ R=>rP 3 [] I ?_
 refine RK R<|aB<|ew 3 1 ?_
 have A:(0≤l.length):=by exact Nat.zero_le _
 refine bT (ι:={z:Nat×(OA)×Nat // (z.1≤l.length)}) [1,8,9] [1,2] U U (fun z=>[(5,(vS z.1.2.1 ((iQ (hO l p) z.1.1).length) z.1.2.2)),(10,(vI (z.1.1:Int)))]) (fun z=>[(own z.1.2.1 z.1.2.2 3 1 ((iQ (hO l p) z.1.1).map iC))]) (fun _=>rfl) (fun _=>rfl) (fun z=>l.length-z.1.1) ⟨(0,none,0),A⟩ (bx U) (aP [1,2,0]) ?_
 clear A
 rintro ⟨⟨i,a,c⟩,C⟩ J5 D
 try dsimp only at C
 try dsimp only
 refine WS fun _ S=>rP 1 [] I ?_
 refine RK S<|aj fun _ T=>bQ U (aT fun Y=>?_) (aU fun Y=>?_)
 ·refine bL<|ai<|ai<|aG<|KK O<|WS fun _ G=>?_
  rw [show (iQ (hO l p) i)=(iQ (hO l p) l.length) from by rw [show i=l.length by omega]]
  refine rP 2 [] I ?_
  refine RK G<|ak<|LX hQ (a,c) [2] [] I U U U U ?_
  trivial
 refine WK T<|aj fun _ H=>aB<|WS fun _ E=>rP 1 [] I ?_
 obtain ⟨x,hx⟩:=aJ l i om
 have AA:=bK aZ.cells hx
 refine rS (IA i U (aA 0 U) BH dc om om)<|rS (lh i 0 (aZ.cells x) U cb (aA 0 U) AA U dc U U)<|AL U HJ fun V=>bE 1 U<|fu U LD U<|RK E<|WS fun _ F=>rP 3 [] (mc 0 U I) ?_
 refine rS (SX (pO U U U (hf (i:Int) x ⟨_,U,hx⟩) (bq [2])) U U)<|RK F<|bQ U (fun B=>?_) (fun B=>?_)
 ·refine cf<|aL<|KK H<|aq<|rP 2 [] I ?_
  refine aD ?_
  rw [show iQ (hO l p) i=iQ (hO l p) (i+1) from (oW (by rw [rr hx]; simpa using B)).symm]
  have J:(vI (((i+1):Nat):Int))=(vI ((i:Int)+1)):=by exact cI om
  refine a7 (D ⟨((i+1),a,c),(by first|omega|(simp only []; omega))⟩ _ _ _ U os (cw 4<|aX U J<|df.nil _) (aP [1,2,3]))
 refine aq<|rP 2 [] I ?_
 refine dZ (xs:=[.tmp 20]) (cs:=[(vI (i:Int))]) U dp j5 U U U U (by simp [Value.cells]) U U fun W=>?_
 refine fg (es2:=(List.map iC (iQ (hO l p) (i+1)))) (m':=(iQ (hO l p) (i+1)).length) 4 U U U ub U U sm (bk (es:=List.map iC [(i:Int)]) 0 U U (by simp [bJ]) U) (lT _) (by have:=nk (P:=hO l p) (n:=i); omega) (by have:=nk (P:=hO l p) (n:=i); simp only [maxLen]; omega) (by rw [qD (by rw [rr hx]; exact B)]; simp) sm U fun K L=>?_
 try dsimp only
 refine bE 1 U<|aD<|aL<|KK H<|aq<|rP 2 [] I ?_
 refine aD ?_
 have AB:(vI (((i+1):Nat):Int))=(vI ((i:Int)+1)):=by exact cI om
 refine a7 (D ⟨((i+1),K,L),(by first|omega|(simp only []; omega))⟩ _ _ _ U os (cw 4<|aX U AB<|df.nil _) (aP [2,3,4]))
end
section
open Go.RowKit
variable {E:eT} {ops:Array Oper} {D:List Deferred} {L:List (Nat×Value)} {C:List av}
variable {dst:Option Tmp} {ty:TypeId} {ps:String} {af:Array Edge} {g:Option (Nat×Bool)}
theorem uJ {x ix:Operand} {t e len sz:Nat} {cs vs:List Value} {j:Int} {kd:IntKind} (m:Nat) (hg:j0 ops L g=true) (hx:ev L x=some (.agg cs.toArray)) (hi:ev L ix=some (.int kd j)) (ht:tX E.P t=some (len,e)) (hk:tK E.P e=some (true,sz)) (hj:j=(m:Int)) (hm:m<len) (hv:(cs.drop (m*sz)).take sz=vs):
 SD E ops ⟨dst,.index t x ix,ty,ps,af,g⟩ D L C (.agg vs.toArray):=
 eE hg sm fun a w A _=>by
  have B:(0:Int)≤(m:Int)∧(m:Int)<(len:Int):=by omega
  subst hj
  simp [execOp,A.ev hx,A.ev hi,Instr.index,asIntOf,run_underlying (Ho ht),B,hm,(oD hk w).2,Bq hk hv w]
end
section
open Go.RowKit
theorem G3 (i:Int) (f:aS) (j:cH) (kA:OA) (kC:Nat) (cA:OA) (cC:Nat) (bA:OA) (bC:Nat) (slA:OA) (slC:Nat) (drA:OA) (drC:Nat) (heA:OA) (heC:Nat) (faA:OA) (faC:Nat) (prA:OA) (prC g1:Nat) (hk:0≤f.Kind∧f.Kind≤255):
 dx Tryz.prog 81 [(vI i),(vA (aS.cells f)),(vP g1)] [(cm g1 36 (gG.cells (nN j kA kC cA cC bA bC slA slC drA drC heA heC faA faC prA prC)))] (vB (decide (¬ oj j.Race.au.cD f))):=by
 refine bB kr Tryz.func81 U U fun V Q hQ hN=>?_
 try dsimp only
 refine WS fun _ N=>er U fun AA=>bE 1 U<|RK N<|WS fun _ O=>eN 5 [] (mr 1 U I) U<|RK O<|aj fun _ D=>WS fun _ P=>rP 2 [] (mc 0 U I) ?_
 refine rS (BI U mF)<|RK P<|bQ U (aT fun A=>?_) (aU fun A=>?_)
 ·refine WK D<|WS fun _ B=>rP 2 [] (mc 0 U I) ?_
  refine rS (SX (rG (m:=f.Kind) U U OI rM (nV (by first|assumption|omega))) U U)<|dZ (xs:=[.tmp 16]) (cs:=[(vI f.Kind)]) U dp j5 U U U U (by simp [Value.cells]) U U fun F=>?_
  refine rS (CL (dx.eq (iE 1 3 ([f.Kind]) (some ⟨F,0,none⟩) 1 (by (simp; done))) cv) (aK (bk 0 U U (by simp [bJ]) U)<|aM) U) ?_
  refine rP 2 [] I ?_
  refine bU (t:=20) U (bp fun K=>?_) (bo fun K=>?_)
  ·refine rP 24 [] I ?_
   refine RK B<|ak<|Q1 hQ U U U ?_
   (refine cB (dq ?_).symm; (rw [tN A]; omega))
  refine rP 4 [] (mc 1 U I) ?_
  refine dZ (xs:=[.tmp 22,.tmp 24]) (cs:=[(vI f.l_),(vI f.To)]) U dp j5 U U U U (by simp [Value.cells]) U U fun G=>?_
  refine rS (CL (dx.eq (iE 0 86400000 ([f.l_,f.To]) (some ⟨G,0,none⟩) 2 (by (simp; done))) oS) (aK (bk 0 U U (by simp [bJ]) U)<|aM) U) ?_
  refine rP 3 [] I ?_
  refine bU (t:=29) U (bp fun L=>?_) (bo fun L=>?_)
  ·refine rP 15 [] I ?_
   refine RK B<|ak<|Q1 hQ U U U ?_
   (refine cB (dq ?_).symm; (rw [tN A]; omega))
  refine rP 7 [] (mc 2 U I) ?_
  refine bU (t:=36) U (aU fun M=>?_) (aT fun M=>?_)
  ·refine rP 8 [] I ?_
   refine RK B<|ak<|Q1 hQ U U U ?_
   (refine cB (dq ?_).symm; (rw [tN A]; omega))
  refine rP 3 [] (mc 2 U I) ?_
  refine dZ (xs:=[.tmp 39]) (cs:=[(vI f.g9)]) U dp j5 U U U U (by simp [Value.cells]) U U fun H=>?_
  refine rS (CL (dx.eq (iE 0 j.Race.au.cD ([f.g9]) (some ⟨H,0,none⟩) 1 (by (simp; done))) cv) (aK (bk 0 U U (by simp [bJ]) U)<|aM) U) ?_
  refine rP 3 [] I ?_
  refine RK B<|ak<|Q1 hQ U U U ?_
  (refine cB (decide_not.symm.trans (gv.2 ?_)); (rw [tN A]; omega))
 refine aq<|bE 1 U<|RK D<|WS fun _ C=>rP 2 [] (mc 0 U I) ?_
 refine rS (SX (rG (m:=f.Kind) U U OI rM (nV (by first|assumption|omega))) U U)<|dZ (xs:=[.tmp 16]) (cs:=[(vI f.Kind)]) U dp j5 U U U U (by simp [Value.cells]) U U fun R=>?_
 refine rS (CL (dx.eq (iE 1 3 ([f.Kind]) (some ⟨R,0,none⟩) 1 (by (simp; done))) cv) (aK (bk 0 U U (by simp [bJ]) U)<|aM) U) ?_
 refine rP 2 [] I ?_
 refine bU (t:=20) U (bp fun T=>?_) (bo fun T=>?_)
 ·refine rP 24 [] I ?_
  refine RK C<|ak<|Q1 hQ U U U ?_
  (refine cB (dq ?_).symm; (rw [tF A]; omega))
 refine rP 4 [] (mc 1 U I) ?_
 refine dZ (xs:=[.tmp 22,.tmp 24]) (cs:=[(vI f.l_),(vI f.To)]) U dp j5 U U U U (by simp [Value.cells]) U U fun S=>?_
 refine rS (CL (dx.eq (iE 0 86400000 ([f.l_,f.To]) (some ⟨S,0,none⟩) 2 (by (simp; done))) oS) (aK (bk 0 U U (by simp [bJ]) U)<|aM) U) ?_
 refine rP 3 [] I ?_
 refine bU (t:=29) U (bp fun AB=>?_) (bo fun AB=>?_)
 ·refine rP 15 [] I ?_
  refine RK C<|ak<|Q1 hQ U U U ?_
  (refine cB (dq ?_).symm; (rw [tF A]; omega))
 refine rP 7 [] (mc 2 U I) ?_
 refine bU (t:=36) U (aU fun J=>?_) (aT fun J=>?_)
 ·refine rP 8 [] I ?_
  refine RK C<|ak<|Q1 hQ U U U ?_
  (refine cB (dq ?_).symm; (rw [tF A]; omega))
 refine rP 3 [] (mc 2 U I) ?_
 refine dZ (xs:=[.tmp 39]) (cs:=[(vI f.g9)]) U dp j5 U U U U (by simp [Value.cells]) U U fun E=>?_
 refine rS (CL (dx.eq (iE 0 0 ([f.g9]) (some ⟨E,0,none⟩) 1 (by (simp; done))) cv) (aK (bk 0 U U (by simp [bJ]) U)<|aM) U) ?_
 refine rP 3 [] I ?_
 refine RK C<|ak<|Q1 hQ U U U ?_
 (refine cB (decide_not.symm.trans (gv.2 ?_)); (rw [tF A]; omega))
theorem tw (fk fw:Int) (ff ft:Int) (al ah:Int) (ae an:Bool) (bl bh:Int) (be bn:Bool):
 dx Tryz.prog 83 [(vA (aS.cells (aS.mk fk fw ff ft))),(vA (j9.cells (j9.mk (ag.mk al ah) ae an))),(vA (j9.cells (j9.mk (ag.mk bl bh) be bn)))] [] (vB (decide (ah≤ft∧ff≤bl))):=by
 refine bB kr Tryz.func83 U U fun G Q hQ hN=>?_
 try dsimp only
 refine WS fun _ B=>er U fun D=>er U fun E=>er U fun F=>bE 1 U<|RK B<|WS fun _ A=>rP 7 [0,1] (mc 1 U (mc 2 U I)) ?_
 refine ck (t:=13) U (aT fun C=>?_) (aU fun C=>?_)
 ·refine rP 8 [] I ?_
  refine RK A<|ak<|Q1 hQ U U U ?_
  exact cB (bD om).symm
 refine rP 8 [0,1] (mc 0 U (mc 2 U I)) ?_
 refine RK A<|ak<|Q1 hQ U U U ?_
 exact cB (gv.2 om)
theorem E2 (fk fw:Int) (ff ft:Int) (al ah:Int) (ae an:Bool) (bl bh:Int) (be bn:Bool):
 dx Tryz.prog 87 [(vA (aS.cells (aS.mk fk fw ff ft))),(vA (j9.cells (j9.mk (ag.mk al ah) ae an))),(vA (j9.cells (j9.mk (ag.mk bl bh) be bn)))] [] (vB (decide (ag.mk (max al ff) (min ah ft)=ag.mk al ah))):=by
 refine bB kr Tryz.func87 U U fun F Q hQ hN=>?_
 try dsimp only
 refine WS fun _ A=>er U fun C=>er U fun D=>er U fun E=>bE 1 U<|RK A<|WS fun _ B=>eN 5 [0,1] (mc 1 U (mc 2 U I)) U<|rS (MX U)<|eN 5 [0,1] (mc 1 U (mc 2 U I)) U<|rS (MN U)<|rS (SX (a_ (xs:=[(0,.tmp 12),(1,.tmp 18)]) (cs:=(ag.cells (ag.mk (max al ff) (min ah ft)))) U U (bf gM U)) U U)<|bE 1 U<|rS (LP (ag.cells (ag.mk al ah)) 1 U cb U U U)<|rS (BI U (xy _ _ (ag.mk (max al ff) (min ah ft)) (ag.mk al ah)))<|rP 1 [] I ?_
 refine RK B<|ak ?_
 exact Q1 hQ U U U U
theorem Qu (j:cH) (kA:OA) (kC:Nat) (cA:OA) (cC:Nat) (bA:OA) (bC:Nat) (slA:OA) (slC:Nat) (drA:OA) (drC:Nat) (heA:OA) (heC:Nat) (faA:OA) (faC:Nat) (prA:OA) (prC:Nat) (fk fw:Int) (ff ft:Int):
 dx Tryz.prog 84 [(vA (cU.cells (cU.mk (nN j kA kC cA cC bA bC slA slC drA drC heA heC faA faC prA prC)))),(vA (aS.cells (aS.mk fk fw ff ft)))] [] (vT [(vI (-1)),(vI j.Race.au.cD)]):=by
 refine bB kr Tryz.func84 U U fun E Q hQ hN=>?_
 try dsimp only
 refine WS fun _ A=>er U fun C=>er U fun D=>bE 2 U<|RK A<|aj fun _ B=>dg cp 7 kr<|dP 7 [] (mc 1 U I) ?_
 refine cE<|RK B<|ak<|Q2 hQ U U U U ?_
 rfl
theorem RX (j:cH) (kA:OA) (kC:Nat) (cA:OA) (cC:Nat) (bA:OA) (bC:Nat) (slA:OA) (slC:Nat) (drA:OA) (drC:Nat) (heA:OA) (heC:Nat) (faA:OA) (faC:Nat) (prA:OA) (prC:Nat) (fk fw:Int) (ff ft:Int) (hw:0≤fw∧fw≤1000000):
 dx Tryz.prog 85 [(vA (cU.cells (cU.mk (nN j kA kC cA cC bA bC slA slC drA drC heA heC faA faC prA prC)))),(vA (aS.cells (aS.mk fk fw ff ft)))] [] (vT [(vI (fw-1)),(vI fw)]):=by
 refine bB kr Tryz.func85 U U fun E Q hQ hN=>?_
 try dsimp only
 refine WS fun _ A=>er U fun C=>er U fun D=>rP 2 [] I ?_
 refine RK A<|aj fun _ B=>dg cp 7 kr ?_
 try dsimp only
 refine dP 7 [] (mc 0 U I) ?_
 refine cE<|RK B<|ak<|Q2 hQ U U U U ?_
 rfl
theorem Sb (j:cH) (kA:OA) (kC:Nat) (cA:OA) (cC:Nat) (bA:OA) (bC:Nat) (slA:OA) (slC:Nat) (drA:OA) (drC:Nat) (heA:OA) (heC:Nat) (faA:OA) (faC:Nat) (prA:OA) (prC:Nat) (fk fw:Int) (ff ft:Int):
 dx Tryz.prog 86 [(vA (cU.cells (cU.mk (nN j kA kC cA cC bA bC slA slC drA drC heA heC faA faC prA prC)))),(vA (aS.cells (aS.mk fk fw ff ft)))] [] (vT [(vI fw),(vI fw)]):=by
 refine bB kr Tryz.func86 U U fun E Q hQ hN=>?_
 try dsimp only
 refine WS fun _ A=>er U fun C=>er U fun D=>bE 2 U<|RK A<|aj fun _ B=>dg cp 6 kr<|dP 6 [] (mc 0 U I) ?_
 refine cE<|RK B<|ak<|Q2 hQ U U U U ?_
 rfl
theorem wm:
 dx Tryz.prog 56 [] [] (vA ((eK.cells (eK.mk Value.nilFunc Value.nilFunc))++(eK.cells (eK.mk (Value.func (.func 84) [].toArray [].toArray) (Value.func (.func 83) [].toArray [].toArray)))++(eK.cells (eK.mk (Value.func (.func 85) [].toArray [].toArray) (Value.func (.func 83) [].toArray [].toArray)))++(eK.cells (eK.mk (Value.func (.func 86) [].toArray [].toArray) (Value.func (.func 87) [].toArray [].toArray))))):=by
 refine bB kr Tryz.func56 U U fun E Q hQ hN=>?_
 try dsimp only
 refine WS fun _ A=>AL U RL fun D=>RK A<|WS fun _ B=>bE 1 U<|RK B<|WS fun _ C=>bE 1 U<|rS (SX (a_ (xs:=[(0,.func 84),(1,.tmp 2)]) (cs:=(eK.cells (eK.mk (Value.func (.func 84) [].toArray [].toArray) (Value.func (.func 83) [].toArray [].toArray)))) U U (bf IB U)) U U)<|rP 1 [] I ?_
 refine rS (SX (a_ (xs:=[(0,.func 85),(1,.tmp 4)]) (cs:=(eK.cells (eK.mk (Value.func (.func 85) [].toArray [].toArray) (Value.func (.func 83) [].toArray [].toArray)))) U U (bf IB U)) U U)<|rS (SX (a_ (xs:=[(0,.func 86),(1,.func 87)]) (cs:=(eK.cells (eK.mk (Value.func (.func 86) [].toArray [].toArray) (Value.func (.func 87) [].toArray [].toArray)))) U U (bf IB U)) U U)<|rS (SX (a_ (xs:=[(1,.tmp 3),(2,.tmp 5),(3,.tmp 6)]) (cs:=((eK.cells (eK.mk Value.nilFunc Value.nilFunc))++(eK.cells (eK.mk (Value.func (.func 84) [].toArray [].toArray) (Value.func (.func 83) [].toArray [].toArray)))++(eK.cells (eK.mk (Value.func (.func 85) [].toArray [].toArray) (Value.func (.func 83) [].toArray [].toArray)))++(eK.cells (eK.mk (Value.func (.func 86) [].toArray [].toArray) (Value.func (.func 87) [].toArray [].toArray))))) U U (bf Qo U)) U U)<|fu U RT U<|RK C<|ak<|Cj hQ [0] (mc 0 U I) U ?_
 rfl
theorem Am (l:List aS) (lA:OA) (lC:Nat) (f:aS) (hlen:l.length≤1000000):
 dx Tryz.prog 41 [(vS lA l.length lC),(vA (aS.cells f))] [(rd lA l.length 4 (l.map aS.cells))] (vI (oo l f)):=by
 refine bB kr Tryz.func41 U U fun AA Q hQ hN=>?_
 try dsimp only
 refine WS fun _ J=>er U fun T=>bE 1 U<|RK J<|aj fun _ K=>WS fun _ L=>rP 3 [] I ?_
 refine RK L<|aB ?_
 have B:(0≤l.length)∧(∀ (q:Nat) y,q<0→l[q]? =some y→y≠f):=by exact ⟨Nat.zero_le _,fun q y hq=>absurd hq (Nat.not_lt_zero _)⟩
 refine bT (ι:={z:Nat // (z≤l.length)∧(∀ (q:Nat) y,q<z→l[q]? =some y→y≠f)}) [0,3,7] [0,1] U U (fun z=>[(8,(vI (z.1:Int)))]) (fun z=>[]) (fun _=>rfl) (fun _=>rfl) (fun z=>l.length-z.1) ⟨0,B⟩ (bx U) (aP [0,1]) ?_
 clear B
 rintro ⟨i,⟨P,A⟩⟩ J5 AB
 try dsimp only
 refine WS fun _ M=>rP 1 [] I ?_
 refine RK M<|aj fun _ N=>bQ U (aT fun S=>?_) (aU fun S=>?_)
 ·refine bL<|ai<|ai<|aG<|KK K<|WS fun _ G=>rP 1 [] I ?_
  refine RK G<|ak<|Q1 hQ U U U ?_
  exact cI (MD A om).symm
 refine WK N<|aj fun _ O=>aB<|WS fun _ D=>bE 2 U<|RK D<|aj fun _ E=>dg cp 6 kr<|dP 3 [] (mc 0 U I) ?_
 obtain ⟨x,hx⟩:=aJ l i om
 have R:=bK aS.cells hx
 refine dS (IA i U (aA 1 U) Ar dc om om)<|dS (lh i 0 (aS.cells x) U cb (aA 1 U) R U dc U U)<|dS (BI U (QY _ _ f x))<|cE<|RK E<|cu U (aU fun C=>?_) (aT fun C=>?_)
 ·refine WS fun _ F=>rP 2 [] I ?_
  refine RK F<|ak<|Q1 hQ U U U ?_
  exact cI (MO hx C.symm A).symm
 refine cf<|aL<|KK O<|aq<|rP 2 [] I ?_
 refine aD ?_
 have H:(vI (((i+1):Nat):Int))=(vI ((i:Int)+1)):=by exact cI om
 refine a7 (AB ⟨(i+1),⟨om,fun q y hq hy=>by rcases Nat.lt_or_ge q i with c|c; exact A q y c hy; (obtain rfl:q=i:=by omega); rw [hx] at hy; cases hy; exact fun e=>C e.symm⟩⟩ _ _ _ rfl os (cw 3<|aX rfl H<|df.nil _) (aP [0,1]))
end
section
open Go.RowKit
theorem Re (l:List Int) (lA:OA) (lC:Nat) (hne:1≤l.length) (hlen:l.length≤1000000):
 dx Tryz.prog 88 [(vS lA l.length lC)] [(rd lA l.length 1 (l.map iC))] (vI (nt l)):=by
 refine bB kr Tryz.func88 U U fun V Q hQ hN=>?_
 try dsimp only
 refine WS fun _ L=>bE 1 U<|RK L<|aj fun _ M=>WS fun _ N=>rP 3 [] I ?_
 refine RK N<|cu U (aU fun AA=>?_) (aT fun AA=>?_)
 ·exfalso; omega
 refine WK M<|WS fun _ O=>rP 1 [] I ?_
 obtain ⟨AB,B⟩:=aJ l 0 om
 have hx0m:=bK iC B
 refine rS (IA 0 U (aA 0 U) dp dc U om)<|rS (hG 0 0 (vI AB) U cb (aA 0 U) hx0m U dc U)<|bE 1 U<|RK O<|aj fun _ P=>WS fun _ R=>rP 1 [] I ?_
 refine RK R<|aB ?_
 have A:(1≤1∧1≤l.length):=by omega
 have S:(vI (nt (l.take 1)))=(vI AB):=by rw [Gk B]
 refine bT (ι:={z:Nat // (1≤z∧z≤l.length)}) [0] [0] U U (fun z=>[(3,(vI (nt (l.take z.1)))),(4,(vI (z.1:Int)))]) (fun z=>[]) (fun _=>rfl) (fun _=>rfl) (fun z=>l.length-z.1) ⟨1,A⟩ (aX U S<|bx U) (aP [0]) ?_
 clear A
 rintro ⟨i,T⟩ J9 K
 try dsimp only
 refine aj fun _ C=>WS fun _ D=>rP 4 [] I ?_
 refine RK D<|bQ U (aT fun J=>?_) (aU fun J=>?_)
 ·refine bL<|ai<|ai<|aG<|KK P<|WS fun _ F=>rP 2 [] I ?_
  refine RK F<|ak<|Q1 hQ U U U ?_
  rw [List.take_of_length_le om]
 refine WK C<|aj fun _ E=>aB<|aq<|rP 3 [] I ?_
 obtain ⟨AB,B⟩:=aJ l i om
 have hx0m:=bK iC B
 refine rS (IA i U (aA 0 U) dp dc om om)<|rS (hG i 0 (vI AB) U cb (aA 0 U) hx0m U dc U)<|rS (MN U)<|bE 1 U<|aD<|aL<|KK E<|aq<|rP 3 [] I ?_
 refine aD ?_
 have G:(vI (nt (l.take (i+1))))=(vI (min (nt (l.take i)) AB)):=by rw [HO B om]
 have H:(vI (((i+1):Nat):Int))=(vI ((i:Int)+1)):=by exact cI om
 refine a7 (K ⟨(i+1),(by first|omega|(simp only []; omega))⟩ _ _ _ U os (df.cons U<|aX U G<|aX U H<|df.nil _) (aP [0]))
end
section
open Go.RowKit
structure Jj (S:BS) (w0:World) (X:av) (C0:List av) (w:World) (S':BS):Prop where
 st:St S w0 (X::C0) w
 w_: ∀ b,S'.w b↔ ∃ A∈C0,A.wf b
theorem Cz {A B:av} (h:Ca A B):Ca A.ro B:=fun b C D=>⟨fun h=>h,(h b C D).2⟩
theorem Ai {E:eT} {c:Code} {Q:cZ} {D:g6} {L:di} {C C0:List av} {X:av} (i:Nat) (hn:decide (i::(List.range C.length).filter fun k=>k != i).Nodup=true) (hC:kh C (i::(List.range C.length).filter fun k=>k != i)=X::C0)
 (h: ∀ w S',Jj E.S E.w0 X C0 w S'→WJ ⟨E.P,E.r,E.n,S',w⟩ c Q D L (X.ro::C0)):WJ E c Q D L C:=fun a w hf hs=>by
 have F:=St.kh _ hn hC hs
 obtain ⟨G,H⟩:=List.pairwise_cons.1 F.sep
 refine h w ⟨fun b=> ∃ A∈C0,A.wf b,fun _=>True⟩ ⟨F,fun b=>Iff.rfl⟩ a w hf ⟨dE.refl _ _,fun A hA=>?_,List.Pairwise.cons (fun B hB=>Cz (G B hB)) H,fun A hA b hb=>?_,fun A hA b hb=> .inr trivial⟩
 ·rcases bO.1 hA with rfl|hA
  ·exact F.holds X (ct ..)
  ·exact F.holds A (dJ _ hA)
 ·rcases bO.1 hA with rfl|hA
  ·exact hb.elim
  ·exact .inr ⟨A,hA,hb⟩
theorem za {E:eT} {S':BS} {w:World} {K:Act→World→Prop} {D:g6} {L:di} {C0 C1 C2:List av} {X:av} (hz:Jj E.S E.w0 X C0 w S') (is:List Nat) (hn:decide is.Nodup=true) (hC:kh C2 is=C1) (hwr:C1.all (·.wr)=true)
 (h:KJ E K D L (X::C1)):KJ ⟨E.P,E.r,E.n,S',w⟩ K D L C2:=fun a w' hf hs=>by
 have F:=St.kh is hn hC hs
 have C:=hz.st
 obtain ⟨J,M⟩:=List.pairwise_cons.1 C.sep
 have AA: ∀ b,X.eW b→ ¬ S'.w b:=fun b hb hw=>by
  obtain ⟨A,hA,hw⟩:=(hz.w_ b).1 hw
  exact (J A hA b hb (A.j_ b hw)).2 hw
 have G: ∀ b,S'.w b→E.w0.heap.size≤b∨E.S.w b:=fun b hb=>by
  obtain ⟨A,hA,hw⟩:=(hz.w_ b).1 hb
  exact C.own A (dJ _ hA) b hw
 have H: ∀ A∈C1,∀ b,A.eW b→w.heap.size≤b∨S'.w b:=fun A hA b hb=>F.own A hA b (A.whole (cT.1 hwr A hA) b hb)
 refine h a w' hf ⟨?_,fun A hA=>?_,List.Pairwise.cons (fun B hB b hb hb'=>?_) F.sep,fun A hA b hb=>?_,fun A hA b hb=>?_⟩
 ·refine ⟨F.keeps.os.trans C.keeps.os,F.keeps.tape.trans C.keeps.tape,F.keeps.output.trans C.keeps.output,Nat.le_trans C.keeps.size F.keeps.size,fun k hk hn'=>?_⟩
  refine (F.keeps.block k (Nat.lt_of_lt_of_le hk C.keeps.size) fun hw=>?_).trans (C.keeps.block k hk hn')
  rcases G k hw with q|q
  ·omega
  ·exact hn' q
 ·rcases bO.1 hA with rfl|hA
  ·have hh:=C.holds A (ct ..)
   exact A.oy w w' (fun b hb=>F.keeps.block b (A.lt w hh b hb) (AA b hb)) hh
  ·exact F.holds A hA
 ·exfalso
  have hl:=X.lt w (C.holds X (ct ..)) b hb
  rcases H B hB b hb' with q|q
  ·omega
  ·exact AA b hb q
 ·rcases bO.1 hA with rfl|hA
  ·exact C.own A (ct ..) b hb
  ·rcases F.own A hA b hb with q|q
   ·exact .inl (Nat.le_trans C.keeps.size q)
   ·exact G b q
 ·rcases bO.1 hA with rfl|hA
  ·exact C.seen A (ct ..) b hb
  ·rcases H A hA b hb with q|q
   ·exact .inl (Nat.le_trans C.keeps.size q)
   ·obtain ⟨B,hB,hw⟩:=(hz.w_ b).1 q
    exact C.seen B (dJ _ hB) b (B.j_ b hw)
/-- put back, as it was -/
theorem F5 {M A:Type} {f:M→A→List av} {S:BS} {w0 w:World} {C:List av} {ms:List M} {asl:List A} {k:Nat} {m:M} {a:A} {X:av} (hm:ms[k]? =some m) (ha:asl[k]? =some a) (hf:f m a=[X]) (h:St S w0 (X::bX (iT f ms asl k)::C) w):St S w0 (bX (br f ms asl)::C) w:=by
 have B:St S w0 (bX (iT f ms asl k)::X::C) w:=h.perm (List.Perm.swap _ _ _)
 have D:St S w0 ((f m a++iT f ms asl k)++C) w:=by
  rw [hf]
  exact B.je.perm (List.perm_middle (a:=X) (l₁:=iT f ms asl k) (l₂:=C))
 exact uw (ru hm ha).symm D.tied
theorem H9 {E:eT} {K:Act→World→Prop} {D:g6} {L:di} {C C1:List av} {M A:Type} {f:M→A→List av} {ms:List M} {asl:List A} {k:Nat} {m:M} {a:A} {X:av} (i j:Nat) (hm:ms[k]? =some m) (ha:asl[k]? =some a) (hf:f m a=[X])
 (hn:decide (j::i::(List.range C.length).filter fun k=>k != i&&k != j).Nodup=true) (hC:kh C (j::i::(List.range C.length).filter fun k=>k != i&&k != j)=X::bX (iT f ms asl k)::C1)
 (h:KJ E K D L (bX (br f ms asl)::C1)):KJ E K D L C:=fun a w hf' hs=>h a w hf' (F5 hm ha hf (St.kh _ hn hC hs))
theorem yJ {M A:Type} {f:M→A→List av} {ms:List M} {asl:List A} {m:M} {a:A} {X:av} (hl:ms.length=asl.length) (hf:f m a=[X]):br f ms asl++[X]=br f (ms++[m]) (asl++[a]):=by
 rw [kT hl,← hf]; simp [br]
theorem yL {E:eT} {K:Act→World→Prop} {D:g6} {L:di} {C C1:List av} {M A:Type} {f:M→A→List av} {ms:List M} {asl:List A} {m:M} {a:A} {X:av} (i j:Nat) (hf:f m a=[X])
 (hn:decide (j::i::(List.range C.length).filter fun k=>k != i&&k != j).Nodup=true) (hC:kh C (j::i::(List.range C.length).filter fun k=>k != i&&k != j)=X::bX (br f ms asl)::C1)
 (h:KJ E K D L (bX (br f (m::ms) (a::asl))::C1)):KJ E K D L C:=fun b w hf' hs=>by
 have B:=St.kh _ hn hC hs
 have F:St E.S E.w0 (bX (br f ms asl)::X::C1) w:=B.perm (List.Perm.swap _ _ _)
 have G:St E.S E.w0 (br f (m::ms) (a::asl)++C1) w:=by
  show St E.S E.w0 ((f m a++br f ms asl)++C1) w
  rw [hf]
  exact F.je.perm (List.perm_middle (a:=X) (l₁:=br f ms asl) (l₂:=C1))
 exact h b w hf' G.tied
end
section
open Go.RowKit
abbrev lV (r:Nat):av:=jc r (.deferred (some []))
theorem Ld (rs:List Nat):(bX (rs.map lV)).wr=true:=by
 show (rs.map lV).all (·.wr)=true
 rw [cT]
 intro X hX
 obtain ⟨r,_,rfl⟩:=cr.1 hX
 rfl
theorem vN {E:eT} {c:Code} {Q:cZ} {D:g6} {L:di} {C:List av} {ι:Type} (Di:ι→g6) (Li:ι→di) (Ci:ι→List av) (μ:ι→Nat) (x0:ι)
 (hD:D=Di x0) (h0:df L (Li x0)) (hC: ∀ w,St E.S E.w0 C w→St E.S E.w0 (Ci x0) w)
 (round: ∀ x (J:Act→World→Prop),(∀ y D' L' C',D'=Di y→μ y<μ x→df L' (Li y)→(∀ w,St E.S E.w0 C' w→St E.S E.w0 (Ci y) w)→KJ E J D' L' C')→WJ E c (Exit.then J Q) (Di x) (Li x) (Ci x)):WJ E (.loop c) Q D L C:=by
 intro a w hf hs
 subst hD
 have H: ∃ x,Fr E.n (Di x) (Li x) a∧St E.S E.w0 (Ci x) w:=⟨x0,hf.sub h0,hC w hs⟩
 clear hf hs
 have key: ∀ (m:Nat) (a:Act) (w:World),(∃ x,μ x=m∧Fr E.n (Di x) (Li x) a∧St E.S E.w0 (Ci x) w)→(Code.loop c).wpIn (Fw E.r) 0 E.P Q a w:=by
  intro m a w hx
  refine wpIn_loop (fun a w=> ∃ x,Fr E.n (Di x) (Li x) a∧St E.S E.w0 (Ci x) w) (fun a w=>leastOf fun k=> ∃ x,μ x=k∧Fr E.n (Di x) (Li x) a∧St E.S E.w0 (Ci x) w) (by obtain ⟨x,_,h⟩:=hx; exact ⟨x,h⟩) ?_
  intro a w hx
  have F: ∃ k,∃ x,μ x=k∧Fr E.n (Di x) (Li x) a∧St E.S E.w0 (Ci x) w:=by obtain ⟨x,h⟩:=hx; exact ⟨_,x,rfl,h⟩
  obtain ⟨x,K,AA,M⟩:=(leastOf_spec F).1
  refine round x _ ?_ a w AA M
  intro y D' L' C' hD G A B a' w' hf' hs'
  subst hD
  refine ⟨⟨y,hf'.sub A,B _ hs'⟩,?_⟩
  rw [← K]
  exact Nat.lt_of_le_of_lt ((leastOf_spec ⟨_,y,U,hf'.sub A,B _ hs'⟩).2 _ ⟨y,U,hf'.sub A,B _ hs'⟩) G
 obtain ⟨x,h⟩:=H
 exact key _ a w ⟨x,U,h⟩
theorem St.Un {S:BS} {w0 w:World} {C X:List av} {A:av} (h:St S w0 (A::bX X::C) w):St S w0 (bX (A::X)::C) w:=by
 have B:St S w0 (bX X::A::C) w:=h.perm (List.Perm.swap _ _ _)
 have D:St S w0 ((A::X)++C) w:=B.je.perm (List.perm_middle (a:=A) (l₁:=X) (l₂:=C))
 exact D.tied
theorem H_ {E:eT} {K:Act→World→Prop} {D:g6} {L:di} {C C1 X:List av} {A:av} (i j:Nat) (hn:decide (j::i::(List.range C.length).filter fun k=>k != i&&k != j).Nodup=true) (hC:kh C (j::i::(List.range C.length).filter fun k=>k != i&&k != j)=A::bX X::C1)
 (h:KJ E K D L (bX (A::X)::C1)):KJ E K D L C:=fun a w hf hs=>h a w hf ((St.kh _ hn hC hs).Un)
theorem DA {E:eT} {K:Act→World→Prop} {D:g6} {L:di} {C:List av} (h:KJ E K D L (bX []::C)):KJ E K D L C:=fun a w hf hs=>h a w hf hs.Oo
theorem NU {E:eT} {K:Act→World→Prop} {D:g6} {L:di} (C1 C2:List av) (h:KJ E K D L (bX C1::C2)):KJ E K D L (C1++C2):=fun a w hf hs=>h a w hf (St.tied hs)
theorem KZ {E:eT} {fn:Func} {R:Ending→World→Prop} {D:g6} {L:di} {C C1:List av} {rs:List Nat} (i:Nat) (hn:decide (i::(List.range C.length).filter fun k=>k != i).Nodup=true) (hC:kh C (i::(List.range C.length).filter fun k=>k != i)=bX (rs.map lV)::C1)
 (h:LJ E fn R D L C1):LJ E fn R (rs.map jE++D) L C:=by
 have key: ∀ rs:List Nat,LJ E fn R (rs.map jE++D) L (bX (rs.map lV)::C1):=by
  intro rs
  induction rs with
  |nil=>exact fun a w hf hs=>h a w hf (hs.take (List.sublist_cons_self _ _))
  |cons r rs ih=>
   have A:LJ E fn R (jE r::(rs.map jE++D)) L (lV r::bX (rs.map lV)::C1):=qG 0 rfl rfl (fun a w hf hs=>ih a w hf (hs.take (List.sublist_cons_self _ _)))
   intro a w hf hs
   refine A a w hf ?_
   have B:St E.S E.w0 ((lV r::rs.map lV)++C1) w:=St.je (C1:=lV r::rs.map lV) hs
   have F:St E.S E.w0 (rs.map lV++(lV r::C1)) w:=B.perm (List.perm_middle (a:=lV r) (l₁:=rs.map lV) (l₂:=C1)).symm
   exact F.tied.perm (List.Perm.swap _ _ _)
 exact fun a w hf hs=>key rs a w hf (St.kh _ hn hC hs)
theorem Is {E:eT} {fn:Func} {R:Ending→World→Prop} {L:di} {C C1:List av} {rs:List Nat} (i:Nat) (hn:decide (i::(List.range C.length).filter fun k=>k != i).Nodup=true) (hC:kh C (i::(List.range C.length).filter fun k=>k != i)=bX (rs.map lV)::C1)
 (h:LJ E fn R [] L C1):LJ E fn R (rs.map jE) L C:=by
 have:=KZ (D:=[]) i hn hC h
 rwa [List.append_nil] at this
end
section
open Go.RowKit
theorem oY (fs:List FM) (fb:List Nat):(bX (br mE fs fb)).wr=true:=by
 show (br mE fs fb).all (·.wr)=true
 rw [cT]
 intro X hX
 obtain ⟨k,m,a,_,_,h⟩:=jW hX
 simp only [mE,cd] at h
 subst h; rfl
theorem qU (fs:List TM) (fb:List Nat):(bX (br pf fs fb)).wr=true:=by
 show (br pf fs fb).all (·.wr)=true
 rw [cT]
 intro X hX
 obtain ⟨k,m,a,_,_,h⟩:=jW hX
 simp only [pf,cd] at h
 subst h; rfl
end
section
def dk (bl:List Nat) (n:Nat):List (Option Nat):=bl.map some++List.replicate (n-bl.length) none
def hH (bl:List Nat) (n:Nat):List (Option Nat):=List.replicate (n-bl.length) none++bl.map some
theorem mV {bl:List Nat} {n:Nat} (h:bl.length≤n):(dk bl n).length=n:=by simp [dk]; omega
theorem yU {bl:List Nat} {n:Nat} (h:bl.length≤n):(hH bl n).length=n:=by simp [hH]; omega
theorem uG {n:Nat}:List.replicate n none=dk [] n:=by simp [dk]
theorem GC {n:Nat}:List.replicate n none=hH [] n:=by simp [hH]
theorem ye {bl:List Nat} {n:Nat} (h:bl.length=n):dk bl n=bl.map some:=by simp [dk,h]
theorem GM {bl:List Nat} {n:Nat} (h:bl.length=n):hH bl n=bl.map some:=by simp [hH,h]
theorem mj {bl:List Nat} {n k g:Nat} (h:bl[k]? =some g):(dk bl n)[k]? =some (some g):=by
 have hk:=(aW.1 h).1
 unfold dk
 rw [List.getElem?_append_left (by simpa using hk),fz,h]; rfl
theorem sY {bl:List Nat} {n k i g:Nat} (h:bl[i]? =some g) (hk:k=n-bl.length+i):(hH bl n)[k]? =some (some g):=by
 subst hk
 unfold hH
 rw [List.getElem?_append_right sm,fz,List.length_replicate,Nat.add_sub_cancel_left,h]; rfl
theorem q9 {bl:List Nat} {n k g:Nat} (hk:k=bl.length) (h:bl.length<n):(dk bl n).set k (some g)=dk (bl++[g]) n:=by
 subst hk
 unfold dk
 rw [List.set_append_right _ _ sm]
 have e:n-bl.length=(n-(bl++[g]).length)+1:=by simp; omega
 rw [e,List.replicate_succ]
 simp
theorem FY {bl:List Nat} {n k g:Nat} (hk:k+1+bl.length=n):(hH bl n).set k (some g)=hH (g::bl) n:=by
 unfold hH
 have e:n-bl.length=k+1:=by omega
 have A:n-(g::bl).length=k:=by simp; omega
 rw [e,A,List.set_append_left _ _ sm,List.replicate_succ',List.set_append_right _ _ sm]
 simp
theorem pZ {l:List (Option Nat)} {k g:Nat} (h:l[k]? =some (some g)):(l.map oC)[k]? =some (oC (some g)):=by rw [fz,h]; rfl
theorem z6 {α:Type} {l:List α} {x:α} {k:Nat} (h:k=l.length):(l++[x])[k]? =some x:=by subst h; simp
theorem Ik {α:Type} {l:List α} {x y:α} {k:Nat} (h:l[k]? =some y):(l++[x])[k]? =some y:=by rw [List.getElem?_append_left (aW.1 h).1]; exact h
structure p6 (w:bS) (fs:List FM):Prop where
 all: ∀ (b:Nat) m,fs[b]? =some m→tf m (fwd w b)∧(m.map (·.1)).Nodup
structure h_ (w:bS) (k:Nat) (bs:List FM):Prop where
 all: ∀ (i:Nat) m,bs[i]? =some m→vj m (back w (k+i))∧(m.map (·.1)).Nodup
variable {w:bS} {b:Nat} {mb m left:List (aC×Int)} {o:Int×ag} {os:List (Int×ag)} {p:aC×Int}
theorem p6.first:p6 w [[(⟨0,0⟩,w.Start)]]:=⟨fun b m h=>by
 match b with
 |0=>simp at h; subst h; exact ⟨Fb,sm⟩
 |n+1=>simp at h⟩
theorem p6.add {fs:List FM} (h:p6 w fs) (hl:fs.length=b+1) (hmb:fs[b]? =some mb) (hm:xK w b m) (hd:jU w b mb m left) (h0:left=[]):p6 w (fs++[m]):=⟨fun i x hx=>by
 rcases Nat.lt_or_ge i fs.length with q|q
 ·rw [List.getElem?_append_left q] at hx; exact h.all i x hx
 ·rw [List.getElem?_append_right q] at hx
  have hi:i-fs.length=0:=by
   rcases Nat.eq_zero_or_pos (i-fs.length) with z|z
   ·exact z
   ·rw [List.getElem?_eq_none (by simp; omega)] at hx; cases hx
  rw [hi] at hx
  simp at hx; subst hx
  obtain rfl:i=b+1:=by omega
  have A:=h.all b mb hmb
  exact ⟨G6 A.2 A.1 hm.snd (hd.fin h0),hm.keys⟩⟩
theorem p6.ok {fs:List FM} (h:p6 w fs) (hl:fs.length=w.n+1):u0 w fs:=⟨hl,fun b m hm=>(h.all b m hm).1,fun b m hm=>(h.all b m hm).2⟩
theorem h_.none_:h_ w b []:=⟨fun i m h=>by simp at h⟩
theorem h_.last (hb:w.n≤b):h_ w b [[(⟨0,0⟩,w.fJ)]]:=⟨fun i m h=>by
 match i with
 |0=>simp at h; subst h; exact ⟨IL om,sm⟩
 |n+1=>simp at h⟩
theorem h_.add {bs:List FM} (h:h_ w (b+1) bs) (hb:b<w.n) (hmb:bs[0]? =some mb) (hm:vE w b m) (hd:jD w b mb m left) (h0:left=[]):h_ w b (m::bs):=⟨fun i x hx=>by
 match i with
 |0=>
  simp at hx; subst hx
  have A:=h.all 0 mb hmb
  exact ⟨Iv hb A.2 A.1 hm.snd hm.zero (hd.fin h0),hm.keys⟩
 |n+1=>
  have:=h.all n x (by simpa using hx)
  rw [show b+1+n=b+(n+1) by omega] at this
  exact this⟩
theorem h_.ok {bs:List FM} (h:h_ w 0 bs) (hl:bs.length=w.n+1):r_ w bs:=⟨hl,fun b m hm=>by have:=(h.all b m hm).1; rwa [Nat.zero_add] at this,fun b m hm=>(h.all b m hm).2⟩
/-- on the way through one entry's options -/
structure nH (w:bS) (b:Nat) (mb left m:List (aC×Int)) (p:aC×Int) (os:List (Int×ag)):Prop where
 on:xK w b m
 ud:jU w b mb m left
 done:jl w b m p os
structure nA (w:bS) (b:Nat) (mb left m:List (aC×Int)) (p:aC×Int) (os:List (Int×ag)):Prop where
 on:vE w b m
 ud:jD w b mb m left
 done:jk w b m p os
theorem nH.start (h:xK w b m) (h2:jU w b mb m left):nH w b mb left m p []:=⟨h,h2,fun o ho=>by cases ho⟩
theorem nA.start (h:vE w b m) (h2:jD w b mb m left):nA w b mb left m p []:=⟨h,h2,fun o ho=>by cases ho⟩
theorem Fg {q:aC×Int} (h:(m.lookup q.1).isSome=false∨q.2<(m.lookup q.1).getD 0):o_ m q=dz m q.1 q.2:=by
 unfold o_
 cases e:m.lookup q.1 with
 |none=>rfl
 |some v=>rw [e] at h; simp at h; simp only; rw [if_pos h]
theorem DI {q:aC×Int} (h:(m.lookup q.1).isSome=true) (h2: ¬ q.2<(m.lookup q.1).getD 0):o_ m q=m:=by
 unfold o_
 cases e:m.lookup q.1 with
 |none=>rw [e] at h; cases h
 |some v=>rw [e] at h2; simp only [Option.getD_some] at h2; simp only; rw [if_neg h2]
theorem GG {q:aC×Int} (h:(m.lookup q.1).isSome=false∨(m.lookup q.1).getD 0<q.2):oH m q=dz m q.1 q.2:=by
 unfold oH
 cases e:m.lookup q.1 with
 |none=>rfl
 |some v=>rw [e] at h; simp at h; simp only; rw [if_pos h]
theorem DM {q:aC×Int} (h:(m.lookup q.1).isSome=true) (h2: ¬ (m.lookup q.1).getD 0<q.2):oH m q=m:=by
 unfold oH
 cases e:m.lookup q.1 with
 |none=>rw [e] at h; cases h
 |some v=>rw [e] at h2; simp only [Option.getD_some] at h2; simp only; rw [if_neg h2]
theorem Aa {t:aC} {v y:Int} (hy:w.pU[b]? =some y) (h:max (v+y) o.2.Lo≤min o.2.Hi w.fJ):kK w b (t,v) o=some (dv t (e7 o.1),max (v+y) o.2.Lo):=by
 have e:=nF hy
 subst e
 exact Jl h
theorem JJ {t:aC} {v y:Int} (hy:w.pU[b]? =some y) (h: ¬ max (v+y) o.2.Lo≤min o.2.Hi w.fJ):kK w b (t,v) o=none:=by
 have e:=nF hy
 subst e
 exact MF h
theorem zx {t:aC} {v y:Int} (hy:w.pU[b]? =some y) (h:o.2.Lo≤min v o.2.Hi):nM w b (t,v) o=some (dv t (e7 o.1),min v o.2.Hi-y):=by
 have e:=nF hy
 subst e
 exact I0 h
theorem nH.set {q:aC×Int} (h:nH w b mb left m p os) (hp:p∈fwd w b) (ho:o∈iH w b) (he:kK w b p o=some q) (hs:(m.lookup q.1).isSome=false∨q.2<(m.lookup q.1).getD 0):nH w b mb left (dz m q.1 q.2) p (os++[o]):=by
 rw [← Fg hs]
 exact ⟨h.on.add hp ho he,h.ud.lower vb,h.done.Kf he⟩
theorem nH.oy {q:aC×Int} (h:nH w b mb left m p os) (he:kK w b p o=some q) (hs:(m.lookup q.1).isSome=true) (h2: ¬ q.2<(m.lookup q.1).getD 0):nH w b mb left m p (os++[o]):=by
 have:=h.done.Kf he
 rw [DI hs h2] at this
 exact ⟨h.on,h.ud,this⟩
theorem nH.skip (h:nH w b mb left m p os) (he:kK w b p o=none):nH w b mb left m p (os++[o]):=⟨h.on,h.ud,h.done.none_ he⟩
theorem nA.set {q:aC×Int} (hb:b<w.n) (h:nA w b mb left m p os) (hp:p∈back w (b+1)) (ho:o∈iH w b) (he:nM w b p o=some q) (hs:(m.lookup q.1).isSome=false∨(m.lookup q.1).getD 0<q.2):nA w b mb left (dz m q.1 q.2) p (os++[o]):=by
 rw [← GG hs]
 exact ⟨h.on.add hb hp ho he,h.ud.upper qC,h.done.Kf he⟩
theorem nA.oy {q:aC×Int} (h:nA w b mb left m p os) (he:nM w b p o=some q) (hs:(m.lookup q.1).isSome=true) (h2: ¬ (m.lookup q.1).getD 0<q.2):nA w b mb left m p (os++[o]):=by
 have:=h.done.Kf he
 rw [DM hs h2] at this
 exact ⟨h.on,h.ud,this⟩
theorem nA.skip (h:nA w b mb left m p os) (he:nM w b p o=none):nA w b mb left m p (os++[o]):=⟨h.on,h.ud,h.done.none_ he⟩
theorem nH.next {t:aC} {v:Int} (hn:(left.map (·.1)).Nodup) (hm:(t,v)∈left) (h:nH w b mb left m (t,v) os) (ho: ∀ o∈iH w b,o∈os):jU w b mb m (eO left t):=h.ud.next hn hm h.done ho
theorem nA.next {t:aC} {v:Int} (hn:(left.map (·.1)).Nodup) (hm:(t,v)∈left) (h:nA w b mb left m (t,v) os) (ho: ∀ o∈iH w b,o∈os):jD w b mb m (eO left t):=h.ud.next hn hm h.done ho
theorem p6.mem {fs:List FM} (h:p6 w fs) (hm:fs[b]? =some mb) (hp:p∈mb):p∈fwd w b:=(h.all b mb hm).1.1 _ _ ((fr (h.all b mb hm).2).1 hp)
theorem h_.Tf {bs:List FM} {k:Nat} (h:h_ w k bs) (hk:k=b+1) (hm:bs[0]? =some mb) (hp:p∈mb):p∈back w (b+1):=by
 subst hk
 exact (h.all 0 mb hm).1.1 _ _ ((fr (h.all 0 mb hm).2).1 hp)
theorem h_.end_ {bs:List FM} {k j:Nat} (h:h_ w k bs) (hj:bs.length=0) (hk:j=b) (hb:w.n≤b):h_ w j ([(⟨0,0⟩,w.fJ)]::bs):=by
 subst hk
 rw [hE hj]
 exact h_.last hb
theorem h_.more {bs:List FM} {k j:Nat} (h:h_ w k bs) (hk:k=b+1) (hj:j=b) (hb:b<w.n) (hmb:bs[0]? =some mb) (hm:vE w b m) (hd:jD w b mb m left) (h0:left=[]):h_ w j (m::bs):=by
 subst hk hj
 exact h.add hb hmb hm hd h0
end
section
open Go.RowKit
theorem jg {a:OA} {c e sz n:Nat} {es:List (List Value)} (h:es.length=n):Js (own a c e sz es) (rd a n sz es):=by subst h; exact MA
theorem qQ {L:List av}:Js (bX L) (dL L):=⟨fun w h=>h.1,fun b h=>h⟩
theorem Ew {b:Nat} {fb:List Nat} {g:Nat} (h:fb.length=b):br pf (List.replicate b ([]:TM)) fb++[jM iV g (cK jG [])]=br pf (List.replicate (b+1) ([]:TM)) (fb++[g]):=by
 rw [List.replicate_succ']
 exact yJ (by rw [List.length_replicate]; exact h.symm) U
theorem Qm {α:Type} {ms:List α} {fb:List Nat} {n:Nat} (h:fb.length=n) (h2:ms.length=n):List.map oC (dk fb n)=List.zipWith f_ ms fb:=by
 rw [ye h]; exact (zX om).symm
theorem j3 {l:bg} {r:cx} {i:Nat} {x:aF} (hx:r.aa[i]? =some x) (h: ¬ g5 l r.aa i x): ¬ dR l r:=fun q=>h (q.sig i x hx)
end
section
open Go.RowKit
theorem oZ:uE Tryz.prog 158 d_:=Le Nj (fun x y w=>NH 9998 x y w) (fun x y h=>by cases x; cases y; simp [aC.cells] at h; simp [h]) (fun x=>by simp [aC.cells,Instr.sameBits]) (fun x w=>⟨_,rfl,fun p hp=>by
 simp only [bO,List.not_mem_nil,or_false] at hp
 rcases hp with rfl|rfl
 ·exact ⟨⟨_,gK cb U w⟩,_,rM⟩
 ·exact ⟨⟨_,gK cb U w⟩,_,rM⟩⟩)
theorem Ih (s:Int):
 dx Tryz.prog 74 [(vI s)] [] (vA (aC.cells (e7 s))):=by
 refine bB kr Tryz.func74 U U fun H Q hQ hN=>?_
 try dsimp only
 refine WS fun _ B=>AL U tM fun G=>RK B<|aj fun _ C=>WS fun _ D=>rP 2 [] I ?_
 refine RK D<|cu U (aU fun A=>?_) (aT fun A=>?_)
 ·refine WS fun _ E=>rS (SX (a_ (xs:=[(1,.const (vI 1))]) (cs:=(aC.cells (aC.mk 0 1))) U U (bf AQ U)) U U)<|fu U rN U<|RK E<|ak<|Cj hQ [0] (mc 0 U I) U ?_
  unfold e7; first|rw [if_pos A]|rw [if_neg A]
 refine WK C<|WS fun _ F=>rS (SX (a_ (xs:=[(0,.const (vI 1))]) (cs:=(aC.cells (aC.mk 1 0))) U U (bf AQ U)) U U)<|fu U rN U<|RK F<|ak<|Cj hQ [0] (mc 0 U I) U ?_
 unfold e7; first|rw [if_pos A]|rw [if_neg A]
theorem vX (x:aC) (y:aC) (hx:(0≤x.right∧x.right≤1000)∧0≤x.eG∧x.eG≤1000) (hy:(0≤y.right∧y.right≤1000)∧0≤y.eG∧y.eG≤1000):
 dx Tryz.prog 73 [(vA (aC.cells x)),(vA (aC.cells y))] [] (vA (aC.cells (dv x y))):=by
 refine bB kr Tryz.func73 U U fun F Q hQ hN=>?_
 try dsimp only
 refine WS fun _ A=>er U fun C=>er U fun D=>AL U tM fun E=>RK A<|WS fun _ B=>rP 10 [0,1,0,1] (mc 2 U (mc 1 U I)) ?_
 refine rS (SX (a_ (xs:=[(0,.tmp 9),(1,.tmp 14)]) (cs:=(aC.cells (aC.mk (x.right+y.right) (x.eG+y.eG)))) U U (bf AQ U)) U U)<|fu U rN U<|RK B<|ak ?_
 exact Cj hQ [0] (mc 0 U I) U U
theorem Np (ln:cV) (ri:cN) (e:List Int) (tms:List TM) (e_A:OA) (e_C:Nat) (tb:List Nat) (t_A:OA) (t_C:Nat) (fs:List FM) (bs:List FM) (fb:List Nat) (f_A:OA) (f_C:Nat) (bb:List Nat) (b_A:OA) (b_C gw:Nat) (x:aC) (hx:(0≤x.right∧x.right≤1000)∧0≤x.eG∧x.eG≤1000) (hn:ri.aa.n≤1000):
 dx Tryz.prog 72 [(vP gw),(vA (aC.cells x))] [(rd e_A e.length 1 (e.map iC)),(rd t_A tms.length 1 (List.zipWith f_ tms tb)),(dL (br pf tms tb)),(rd f_A fs.length 1 (List.zipWith f_ fs fb)),(dL (br mE fs fb)),(rd b_A bs.length 1 (List.zipWith f_ bs bb)),(dL (br mE bs bb)),(cm gw 150 (bV.cells (bV.mk ln ri (bH.mk e_A e.length e_C) (bH.mk t_A tms.length t_C) (bH.mk f_A fs.length f_C) (bH.mk b_A bs.length b_C))))] (vB (ks (cO ln ri e tms) x)):=by
 refine bB kr Tryz.func72 U U fun E Q hQ hN=>?_
 try dsimp only
 refine WS fun _ C=>er U fun D=>bE 1 U<|RK C<|aj fun _ B=>dg cp 26 kr<|lu 3 [] (mc 0 U I) U<|dS (SX (cM U U) U U)<|dP 5 [] (mr 8 U I) ?_
 refine js (t:=13) U (aT fun A=>?_) (aU fun A=>?_)
 ·refine dP 17 [] I ?_
  refine cE<|RK B<|ak<|Q1 hQ U U U ?_
  exact cB (bD (fun h=>A h.1)).symm
 refine kI 1 U<|dS (SX (cM U U) U U)<|lu 8 [0,1] (mr 8 U (mc 0 U I)) U<|dS (SX (cM U U) U U)<|dP 6 [] (mr 8 U I) ?_
 refine cE<|RK B<|ak<|Q1 hQ U U U ?_
 exact cB (gv.2 ⟨fun h=>⟨A,h⟩,fun h=>h.2⟩)
end
section
open Go.RowKit
theorem uD (ln:cV) (ri:cN) (e:List Int) (tms:List TM) (e_A:OA) (e_C:Nat) (tb:List Nat) (t_A:OA) (t_C:Nat) (fs:List FM) (bs:List FM) (fb:List Nat) (f_A:OA) (f_C:Nat) (bb:List Nat) (b_A:OA) (b_C gw:Nat) (hw:Ft (cO ln ri e tms)) (hsg:ri.aa.n≤1000) (hn:ln.ab.n=e.length) (hfw:u0 (cO ln ri e tms) fs) (hfb:fb.length=fs.length):
 q6 Tryz.prog 46 [(vP gw)] [(rd e_A e.length 1 (e.map iC)),(rd t_A tms.length 1 (List.zipWith f_ tms tb)),(dL (br pf tms tb)),(rd f_A fs.length 1 (List.zipWith f_ fs fb)),(dL (br mE fs fb)),(rd b_A bs.length 1 (List.zipWith f_ bs bb)),(dL (br mE bs bb)),(cm gw 150 (bV.cells (bV.mk ln ri (bH.mk e_A e.length e_C) (bH.mk t_A tms.length t_C) (bH.mk f_A fs.length f_C) (bH.mk b_A bs.length b_C))))] (fun (x:(OA)×Nat)=>(vS x.1 ((gX (cO ln ri e tms)).length) x.2)) (fun (x:(OA)×Nat)=>True) (fun (x:(OA)×Nat)=>[(own x.1 x.2 3 1 ((gX (cO ln ri e tms)).map iC))]):=by
 have y:e.length≤6:=hw.n
 have u:fs.length=e.length+1:=hfw.len
 refine fR kr Tryz.func46 U U fun w0 Q hQ hN=>?_
 try dsimp only
 refine WS fun _ X=>bE 1 U<|RK X<|WS fun _ Y=>bE 1 U<|RK Y<|aj fun _ Z=>WS fun _ b=>bE 1 U<|rS (SX (cM U U) U U)<|rP 6 [] (mr 7 U I) ?_
 refine RK b<|aB<|ew 3 1 ?_
 have A:(0≤e.length+1):=by exact Nat.zero_le _
 refine bT (ι:={z:Nat×(OA)×Nat // (z.1≤e.length+1)}) [0,12] [1,2,3,4,5,6,7,8] U U (fun z=>[(3,(vS z.1.2.1 ((ke (cO ln ri e tms) z.1.1).length) z.1.2.2)),(13,(vI (z.1.1:Int)))]) (fun z=>[(own z.1.2.1 z.1.2.2 3 1 ((ke (cO ln ri e tms) z.1.1).map iC))]) (fun _=>rfl) (fun _=>rfl) (fun z=>e.length+1-z.1.1) ⟨(0,none,0),A⟩ (bx U) (aP [1,2,3,4,5,6,7,8,0]) ?_
 clear A
 rintro ⟨⟨n,a,c⟩,G⟩ J5 AB
 try dsimp only at G
 try dsimp only
 refine WS fun _ d=>rP 1 [] I ?_
 refine RK d<|aj fun _ g=>bQ U (aT fun s=>?_) (aU fun s=>?_)
 ·refine bL<|ai<|ai<|aG<|KK Z<|WS fun _ P=>?_
  rw [show ke (cO ln ri e tms) n=gX (cO ln ri e tms) by (obtain rfl:n=e.length+1:=by omega); rfl]
  refine rP 2 [] I ?_
  refine RK P<|ak<|LX hQ (a,c) [8] [] I U U U U ?_
  trivial
 refine WK g<|aj fun _ R=>aB<|WS fun _ J=>bE 2 U<|RK J<|WS fun _ K=>bE 1 U<|rS (SX (cM U U) U U)<|rP 3 [] (mr 7 U I) ?_
 obtain ⟨m,B⟩:=aJ fs n om
 obtain ⟨ma,hm0a⟩:=aJ fb n om
 have hm0m:(List.zipWith f_ fs fb)[n]? =some (f_ m ma):=dC B hm0a
 refine rS (IA n U (aA 3 U) oc dc om om)<|rS (hG n 0 (Value.map (some ma)) U cb (aA 3 U) hm0m U dc U)<|pK (kV:=d_) (m:=cK iV m) 4 U U oV U ⟨⟨(jM d_ ma (cK iV m)),(bM B hm0a (by simp [mE])),U⟩,fun h=>h⟩ (show iN _ (jM d_ ma (cK iV m)).holds from cR 4 U (bM B hm0a (by simp [mE]))) U fun l=>?_
 try dsimp only
 refine RK K<|aB ?_
 have A:(∀ p∈m,p∈m)∧(∀ p∈m,p∈m∨ks (cO ln ri e tms) p.1=false):=by exact ⟨fun p hp=>hp,fun p hp=> .inl hp⟩
 refine bT (ι:={z:FM // (∀ p∈z,p∈m)∧(∀ p∈m,p∈z∨ks (cO ln ri e tms) p.1=false)}) [0,3,4,12,13,23] [1,2,3,4,5,6,7,8,9] U U (fun z=>[]) (fun z=>[(Ch d_ l ma (cK iV m) (cK iV z.1) none)]) (fun _=>rfl) (fun _=>rfl) (fun z=>z.1.length) ⟨m,A⟩ (df.nil _) (aP [1,2,3,4,5,6,7,8,9,0]) ?_
 clear A
 rintro ⟨left,⟨C,D⟩⟩ J13 H
 try dsimp only
 refine WS fun _ F=>nZ oZ.inj (f:=iV) 9 U U U U (fun W=>?_) (fun t v hm i=>?_)
 ·refine bE 1 U<|RK F<|aj fun _ o=>cg U<|bL<|ai<|ai<|aG<|aL<|KK R<|aq<|rP 2 [] I ?_
  refine aD ?_
  rw [← GS (w:=(cO ln ri e tms)) (k:=n) ((As (hfw.min _ _ B) (hfw.keys _ _ B)).symm.trans (HK D W))]
  have S:(vI (((n+1):Nat):Int))=(vI ((n:Int)+1)):=by exact cI om
  refine a7 (AB ⟨((n+1),a,c),(by first|omega|(simp only []; omega))⟩ _ _ _ U os (cw 3<|aX U S<|df.nil _) (aP [0,1,2,3,4,5,6,7,8]))
 try dsimp only
 refine bE 1 U<|RK F<|aj fun _ L=>aQ U<|WK L<|aB<|WS fun _ M=>rS (SX (nU 9 U U U) U U)<|bE 1 U<|AL U tM fun q=>fu U rN U<|RK M<|WS fun _ N=>rP 2 [] (mc 0 U I) ?_
 have j:=HS hw _ _ (hfw.mem B (C _ hm))
 dsimp only at j
 refine rS (CL (Np ln ri e tms e_A e_C tb t_A t_C fs bs fb f_A f_C bb b_A b_C gw t om hsg) (bq [1,2,3,4,5,6,7,8]) U)<|RK N<|bQ U (fun E=>?_) (fun E=>?_)
 ·refine cf<|aL<|qt 10 U oR U ?_
  refine a7 (H ⟨(eO left t),⟨l7 C,Ji i hm D (by first|exact E|simpa using E)⟩⟩ _ _ _ U (mh hm) (bx U) (aP [1,2,3,4,5,6,7,8,9,10]))
 refine WS fun _ O=>rP 2 [] I ?_
 refine dZ (xs:=[.tmp 32]) (cs:=[(vI (n:Int))]) U dp j5 U U U U (by simp [Value.cells]) U U fun r=>?_
 have hy:jt (cO ln ri e tms) (fwd (cO ln ri e tms) n)=true:=(As (hfw.min _ _ B) (hfw.keys _ _ B)).symm.trans (KL (C _ hm) E)
 refine fg (es2:=(List.map iC (ke (cO ln ri e tms) (n+1)))) (m':=(ke (cO ln ri e tms) (n+1)).length) 10 U U U ub U U sm (bk (es:=List.map iC [(n:Int)]) 0 U U (by simp [bJ]) U) (lT _) (by have:=se (w:=(cO ln ri e tms)) (k:=n); first|omega|(simp; omega)) (by have:=se (w:=(cO ln ri e tms)) (k:=n); simp only [maxLen]; omega) (by rw [CK hy]; simp) sm U fun AA V=>?_
 try dsimp only
 refine bE 1 U<|RK O<|bL<|eU U<|ai<|aG<|aL<|KK R<|aq<|rP 2 [] I ?_
 refine aD ?_
 have T:(vI (((n+1):Nat):Int))=(vI ((n:Int)+1)):=by exact cI om
 refine a7 (AB ⟨((n+1),AA,V),(by first|omega|(simp only []; omega))⟩ _ _ _ U os (cw 3<|aX U T<|df.nil _) (aP [2,3,4,5,6,7,8,9,10]))
end
section
open Go.RowKit
theorem JK (n lo hi:Int) (g1 g2:Nat):
 dx Tryz.prog 69 [(vI n),(vP g1),(vP g2)] [(cm g1 3 [(vI lo)]),(cm g2 3 [(vI hi)])] (vB (decide (n<lo∨hi<n))):=by
 refine bB kr Tryz.func69 U U fun D Q hQ hN=>?_
 try dsimp only
 refine WS fun _ B=>bE 1 U<|RK B<|WS fun _ A=>rP 4 [] (mr 0 U I) ?_
 refine bU (t:=8) U (aU fun C=>?_) (aT fun C=>?_)
 ·refine rP 5 [] I ?_
  refine RK A<|ak<|Q1 hQ U U U ?_
  exact cB (dq om).symm
 refine rP 5 [] (mr 1 U I) ?_
 refine RK A<|ak<|Q1 hQ U U U ?_
 exact cB (gv.2 om)
theorem g_ (lo hi:Int) (l:List Int) (lA:OA) (lC:Nat) (hlen:l.length≤1000000):
 dx Tryz.prog 44 [(vI lo),(vI hi),(vS lA l.length lC)] [(rd lA l.length 1 (l.map iC))] (vB (pW lo hi l)):=by
 refine bB kr Tryz.func44 U U fun F Q hQ hN=>?_
 try dsimp only
 refine WS fun _ D=>vR U U fun A=>vR U U fun B=>bE 1 U<|RK D<|WS fun _ E=>rP 1 [] I ?_
 refine rS (FU U) ?_
 refine rS (CL (pL l lA lC (Value.func (.func 69) [].toArray [(vP A),(vP B)].toArray) (fun C=>(decide (C<lo∨hi<C))) (dL [(cm A 3 [(vI lo)]),(cm B 3 [(vI hi)])]) (by intro C _; exact kG (fi:=[]) (ca:=[(vP A),(vP B)]) (jJ (JK C lo hi A B) (bq [0,1]))) hlen) (gT 2 U U<|aK (jF (bq [1,0]))<|aM) U) ?_
 refine rP 2 [] I ?_
 refine RK E<|ak ?_
 exact Q1 hQ U U U U
theorem TG (n d:Int) (hd:2≤d):
 dx Tryz.prog 65 [(vI n),(vI d)] [] (vI (Qh n d)):=by
 refine bB kr Tryz.func65 U U fun C Q hQ hN=>?_
 try dsimp only
 refine WS fun _ A=>bE 1 U<|RK A<|WS fun _ B=>bE 2 U<|rS (BI U Pp)<|rS (BI U IJ)<|bE 1 U<|rS (BI U (NW om (NK (PS _) hd)))<|rP 1 [] I ?_
 refine RK B<|ak ?_
 exact Q1 hQ U U U U
theorem Hp (n d:Int) (hd:1≤d∧d≤1000000) (hn:0≤n∧n≤1000000000000000):
 dx Tryz.prog 65 [(vI n),(vI d)] [] (vI (oE n d)):=by
 refine bB kr Tryz.func65 U U fun C Q hQ hN=>?_
 try dsimp only
 refine WS fun _ A=>bE 1 U<|RK A<|WS fun _ B=>bE 5 U<|rS (BI U (sR om om om))<|rP 1 [] I ?_
 refine RK B<|ak ?_
 exact Q1 hQ U U U U
theorem EB (c:ay) (sA:OA) (sC:Nat) (at_:Int) (hc:eM c) (ha:0≤at_∧at_≤90000000):
 dx Tryz.prog 97 [(vA (du.cells (du.mk c.dj (bH.mk sA c.bG.length sC)))),(vI at_)] [(rd sA c.bG.length 3 (c.bG.map cQ.cells))] (vA (ag.cells (iv c at_))):=by
 have X:=hc.len
 have J:=hc.rR
 refine bB kr Tryz.func97 U U fun e Q hQ hN=>?_
 try dsimp only
 refine WS fun _ M=>er U fun b=>AL U dN fun d=>RK M<|WS fun _ N=>rS (SX (a_ (xs:=[(0,.const (vI (-1099511627776))),(1,.const (vI 1099511627776))]) (cs:=(ag.cells (ag.mk (-1099511627776) 1099511627776))) U U (bf gM U)) U U)<|AL U dN fun W=>fu U cS U<|RK N<|aj fun _ O=>aj fun _ P=>?_
 have R:(ag.cells (ag.mk (-1099511627776) 1099511627776))=(ag.cells (gD c at_ 0)):=by rfl
 rw [R]
 refine aq<|rP 4 [] (mc 2 U I) ?_
 refine RK P<|aB ?_
 have A:(0≤c.bG.length):=by exact Nat.zero_le _
 refine bT (ι:={z:Nat // (z≤c.bG.length)}) [1,2,4,5,11,12] [1,2,3] U U (fun z=>[(13,(vI (z.1:Int)))]) (fun z=>[(cm W 53 (ag.cells (gD c at_ z.1)))]) (fun _=>rfl) (fun _=>rfl) (fun z=>c.bG.length-z.1) ⟨0,A⟩ (bx U) (aP [1,2,3,0]) ?_
 clear A
 rintro ⟨i,S⟩ J9 L
 try dsimp only
 refine WS fun _ B=>rP 1 [] I ?_
 refine RK B<|aj fun _ C=>bQ U (aT fun K=>?_) (aU fun K=>?_)
 ·refine bL<|ai<|ai<|aG<|KK O<|WS fun _ G=>rP 1 [] (mc 3 U I) ?_
  refine fu U cS U<|RK G<|ak<|Cj hQ [0] (mc 0 U I) U ?_
  rw [nI (show c.bG.length≤i by omega)]
 refine WK C<|aj fun _ D=>aB<|WS fun _ E=>?_
 obtain ⟨x,hx⟩:=aJ c.bG i om
 have AA:=bK cQ.cells hx
 refine rS (IA i U (aA 2 U) x3 dc om om)<|rS (lh i 0 (cQ.cells x) U cb (aA 2 U) AA U dc U U)<|AL U x4 fun V=>fu U yY U<|RK E<|WS fun _ F=>rP 5 [0,1] (mc 2 U (mc 0 U I)) ?_
 have T:=hc.uo hx
 have Z:=Bi hc ha i
 have Y:=EL J ha (show 0≤x.At∧x.At≤90000000 by omega)
 refine eN 5 [] (mc 0 U I) U<|rS (MX U)<|rS (BI U (tn ⟨om,om⟩))<|rS (CL (Hp (c.dj*(max (at_-x.At) (x.At-at_))) 1000000 om om) (aM) U)<|bE 1 U<|RK F<|aq<|rP 6 [0,1] (mc 4 U (mc 0 U I)) ?_
 have a:0≤oE (c.dj*max (at_-x.At) (x.At-at_)) 1000000∧oE (c.dj*max (at_-x.At) (x.At-at_)) 1000000≤90001:=uj J ha T.1
 refine bE 1 U<|rS (MX U)<|rP 7 [0,1] (mc 4 U (mc 0 U I)) ?_
 refine rS (MN U)<|rS (SX (a_ (xs:=[(0,.tmp 37),(1,.tmp 45)]) (cs:=(ag.cells (ag.mk (max ((gD c at_ i).Lo) (x.eh.Lo-(oE (c.dj*(max (at_-x.At) (x.At-at_))) 1000000))) (min ((gD c at_ i).Hi) (x.eh.Hi+(oE (c.dj*(max (at_-x.At) (x.At-at_))) 1000000)))))) U U (bf gM U)) U U)<|QV U cS U<|aD<|aL<|KK D ?_
 have H:(ag.cells (ag.mk (max ((gD c at_ i).Lo) (x.eh.Lo-(oE (c.dj*(max (at_-x.At) (x.At-at_))) 1000000))) (min ((gD c at_ i).Hi) (x.eh.Hi+(oE (c.dj*(max (at_-x.At) (x.At-at_))) 1000000)))))=(ag.cells (gD c at_ (i+1))):=by rw [jS hx]; rfl
 rw [H]
 refine aq<|rP 2 [] I ?_
 refine aD ?_
 have AB:(vI (((i+1):Nat):Int))=(vI ((i:Int)+1)):=by exact cI om
 refine a7 (L ⟨(i+1),(by first|omega|(simp only []; omega))⟩ _ _ _ U os (cw 6<|aX U AB<|df.nil _) (aP [1,2,3,4]))
theorem Oj (c:ay) (sA:OA) (sC:Nat) (hlen:c.bG.length≤1000000) (hcap:c.bG.length≤sC):
 dx Tryz.prog 110 [(vA (du.cells (du.mk c.dj (bH.mk sA c.bG.length sC))))] [(rd sA c.bG.length 3 (c.bG.map cQ.cells))] (vB (decide (eM c))):=by
 refine bB kr Tryz.func110 U U fun w0 Q hQ hN=>?_
 try dsimp only
 refine WS fun _ B3=>er U fun b2=>bE 1 U<|RK B3<|zE U<|aj fun _ B9=>WS fun _ q=>rP 2 [] (mc 0 U I) ?_
 refine dZ (xs:=[.tmp 11]) (cs:=[(vI c.dj)]) U dp j5 U U U U (by simp [Value.cells]) U U fun b5=>?_
 refine rS (CL (dx.eq (g_ 0 1000 ([c.dj]) (some ⟨b5,0,none⟩) 1 (by (simp; done))) cv) (aK (bk 0 U U (by simp [bJ]) U)<|aM) U) ?_
 refine rP 2 [] I ?_
 refine bU (t:=15) U (bp fun AB=>?_) (bo fun AB=>?_)
 ·refine bE 7 U<|RK q<|aQ U<|WS fun _ CF=>rP 1 [] I ?_
  refine RK CF<|ak<|Q1 hQ U U U ?_
  exact cB (bD fun h=>AB h.rR).symm
 refine rP 3 [] (mc 1 U I) ?_
 refine dZ (xs:=[.tmp 18]) (cs:=[(vI (c.bG.length:Int))]) U dp j5 U U U U (by simp [Value.cells]) U U fun b7=>?_
 refine rS (CL (dx.eq (g_ 1 5 ([(c.bG.length:Int)]) (some ⟨b7,0,none⟩) 1 (by (simp; done))) cv) (aK (bk 0 U U (by simp [bJ]) U)<|aM) U) ?_
 refine rP 2 [] I ?_
 refine RK q<|cu U (bp fun O=>?_) (bo fun O=>?_)
 ·refine WS fun _ Cf=>rP 1 [] I ?_
  refine RK Cf<|ak<|Q1 hQ U U U ?_
  exact cB (bD fun h=>O (by have:=h.len; omega)).symm
 refine WK B9<|WS fun _ Ci=>bE 1 U<|RK Ci<|WS fun _ R=>bE 1 U<|RK R<|aj fun _ S=>zc<|KK S<|aj fun _ K=>WS fun _ T=>rP 4 [] (mc 2 U I) ?_
 refine RK T<|aB ?_
 have B:(0≤c.bG.length)∧(sw c 0):=by exact ⟨Nat.zero_le _,Gf⟩
 have r:(vI (kg c 0))=(vI (-1)):=by rw [gE rfl]
 refine bT (ι:={z:Nat // (z≤c.bG.length)∧(sw c z)}) [1,2,4,24,25] [2,3] U U (fun z=>[(3,(vI (kg c z.1))),(26,(vI (z.1:Int)))]) (fun z=>[]) (fun _=>rfl) (fun _=>rfl) (fun z=>c.bG.length-z.1) ⟨0,B⟩ (aX U r<|bx U) (aP [2,3]) ?_
 clear B
 rintro ⟨i,⟨L,C⟩⟩ J15 P
 try dsimp only
 have Di: -1≤kg c i∧kg c i≤86400000:=N6 L C
 refine WS fun _ AA=>rP 1 [] I ?_
 refine RK AA<|aj fun _ V=>bQ U (aT fun A6=>?_) (aU fun A6=>?_)
 ·refine bL<|ai<|ai<|aG<|KK K<|WS fun _ f=>rP 2 [] I ?_
  refine RK f<|ak<|Q1 hQ U U U ?_
  exact cB (dq (Gm AB om (by have e:i=c.bG.length:=om; rw [← e]; exact C))).symm
 refine WK V<|aj fun _ W=>aB<|WS fun _ X=>rP 1 [] I ?_
 obtain ⟨x,hx⟩:=aJ c.bG i om
 have Cx:=bK cQ.cells hx
 refine rS (IA i U (aA 1 U) x3 dc om om)<|rS (lh i 0 (cQ.cells x) U cb (aA 1 U) Cx U dc U U)<|AL U x4 fun C0=>rP 1 [] I ?_
 refine fu U yY U<|RK X ?_
 refine kD (ι:=Unit) [1,2,3,5,6,24,25,26] [0,1,2] U U (fun z=>[(4,(vB (decide (e9 c i x))))]) (fun z=>[]) (fun _=>rfl) (fun _=>rfl) ?_ fun K22 G=>?_
 ·intro _
  try dsimp only
  refine aj fun _ Y=>WS fun _ Z=>eN 3 [] (mc 1 U I) U<|rS (UO i U x3 om om)<|rP 2 [] I ?_
  refine RK Z<|aB ?_
  have B:(0≤i)∧((decide (e9 c i x))=(decide (l0 c i x 0))):=by exact ⟨Nat.zero_le _,gv.2 CG.symm⟩
  refine bT (ι:={z:Nat×Bool // (z.1≤i)∧(z.2=(decide (l0 c i x z.1)))}) [1,2,3,5,6,24,25,26,59,60] [0,1,2] U U (fun z=>[(4,(vB z.1.2)),(61,(vI (z.1.1:Int)))]) (fun z=>[]) (fun _=>rfl) (fun _=>rfl) (fun z=>i-z.1.1) ⟨(0,(decide (e9 c i x))),B⟩ (bx U) (aP [0,1,2]) ?_
  clear B
  rintro ⟨⟨k,b⟩,⟨M,A⟩⟩ J25 F
  try dsimp only at M A
  try dsimp only
  refine WS fun _ a=>rP 1 [] I ?_
  refine RK a<|aj fun _ d=>bQ U (aT fun A8=>?_) (aU fun A8=>?_)
  ·refine bL<|ai<|ai<|aG<|KK Y<|aj fun _ m=>WS fun _ n=>rP 2 [] I ?_
   refine RK n<|cu U (fun D=>?_) (fun D=>?_)
   ·rw [Bool.not_eq_true'] at D
    refine bL<|ai<|eU U<|ai<|ai<|aG<|KK K<|WS fun _ p=>rP 2 [] I ?_
    refine RK p<|ak<|Q1 hQ U U U ?_
    exact cB (by have e:k=i:=om; rw [e] at A; rw [D] at A ⊢; exact (bD (Jz hx (of_decide_eq_false A.symm))).symm)
   rw [Bool.not_eq_false'] at D
   refine WK m<|aq<|eN 3 [] (mc 0 U I) U<|aD<|aL<|KK W<|aq<|rP 2 [] I ?_
   refine aD ?_
   have A0:(vB true)=(vB b):=by exact cB D.symm
   have A1:(vI (kg c (i+1)))=(vI x.At):=by rw [od hx]
   have A2:(vI (((i+1):Nat):Int))=(vI ((i:Int)+1)):=by exact cI om
   refine a7 (P ⟨(i+1),⟨om,Fi C hx (by have e:k=i:=om; rw [e] at A; exact of_decide_eq_true (A.symm.trans D))⟩⟩ _ _ _ U os (df.cons U<|df.cons U<|aX U A0<|df.cons U<|df.cons U<|aX U A1<|aX U A2<|df.nil _) (aP [1,2]))
  refine WK d<|aj fun _ H=>aB<|WS fun _ g=>?_
  obtain ⟨o,ho⟩:=aJ c.bG k om
  have Ck:=bK cQ.cells ho
  refine rS (UN k U (aA 2 U) x3 dc om om om)<|rS (lh k 0 (cQ.cells o) U cb (aA 2 U) Ck U dc U U)<|AL U x4 fun C1=>fu U yY U<|RK g<|WS fun _ l=>eN 6 [0,1,2] (mc 2 U (mc 1 U (mc 0 U I))) U<|rS (BI U IJ)<|rS (BI U Pm)<|rS (CL (TG (Ad (c.dj*(Ad (x.At-o.At)))) 1000000 om) (aM) U)<|bE 1 U<|RK l<|aq<|rP 2 [] I ?_
  refine ck (t:=75) U (fun J=>?_) (fun J=>?_)
  ·refine bE 6 U<|bE 16 U<|aD<|aL<|KK H<|aq<|rP 2 [] I ?_
   refine aD ?_
   have AO:(vI (((k+1):Nat):Int))=(vI ((k:Int)+1)):=by exact cI om
   refine a7 (F ⟨((k+1),false),⟨om,by exact (bD fun h=>by have h2:=((sr ho).1 h).1; rw [A] at J; exact absurd (dq h2) (by rw [J]; decide)).symm⟩⟩ _ _ _ U os (cw 11<|aX U AO<|df.nil _) (aP [1,2,3]))
  refine rP 6 [0,1] (mc 1 U (mc 0 U I)) ?_
  have A3:l0 c i x k:=of_decide_eq_true (A.symm.trans J)
  obtain ⟨Cp,Do,EF⟩:=ux (fun j y hj hy=>(C j y hj hy).1) hx A3.1 om ho
  have N:=K2 AB Cp
  refine rP 5 [] I ?_
  refine ck (t:=86) U (aT fun E=>?_) (aU fun E=>?_)
  ·refine bE 11 U<|aD<|aL<|KK H<|aq<|rP 2 [] I ?_
   refine aD ?_
   have AC:(vI (((k+1):Nat):Int))=(vI ((k:Int)+1)):=by exact cI om
   refine a7 (F ⟨((k+1),false),⟨om,by exact (bD fun h=>by have h2:=((sr ho).1 h).2; rw [N] at E; exact E h2.1).symm⟩⟩ _ _ _ U os (cw 11<|aX U AC<|df.nil _) (aP [1,2,3]))
  refine eN 11 [0,1] (mc 0 U (mc 1 U I)) U<|aD<|aL<|KK H<|aq<|rP 2 [] I ?_
  refine aD ?_
  have w:(vI (((k+1):Nat):Int))=(vI ((k:Int)+1)):=by exact cI om
  refine a7 (F ⟨((k+1),(decide ((o.eh.Lo-x.eh.Hi)≤(Qh (Ad (c.dj*(Ad (x.At-o.At)))) 1000000)))),⟨om,by exact gv.2 (by rw [sr ho,N]; rw [N] at E; exact ⟨fun h=>⟨A3,E,h⟩,fun h=>h.2.2⟩)⟩⟩ _ _ _ U os (cw 11<|aX U w<|df.nil _) (aP [1,2,3]))
 refine aq<|rP 4 [] (mc 0 U I) ?_
 refine dZ (xs:=[.tmp 34]) (cs:=[(vI x.At)]) U dp j5 U U U U (by simp [Value.cells]) U U fun A4=>?_
 refine rS (CL (dx.eq (g_ ((kg c i)+1) 86400000 ([x.At]) (some ⟨A4,0,none⟩) 1 (by (simp; done))) cv) (aK (bk 0 U U (by simp [bJ]) U)<|aM) U) ?_
 refine rP 1 [] I ?_
 refine ck (t:=37) U (aT fun A9=>?_) (aU fun A9=>?_)
 ·refine rP 19 [] I ?_
  refine aD ?_
  have v:(decide (e9 c i x))=false:=bD (by unfold e9; omega)
  refine a7 (ic (cw 8<|mZ U v<|df.nil _) (aP [1,2,3]) (G ()))
 refine rP 6 [] (mc 1 U I) ?_
 refine dZ (xs:=[.tmp 40,.tmp 43]) (cs:=[(vI x.eh.Lo),(vI x.eh.Hi)]) U dp j5 U U U U (by simp [Value.cells]) U U fun A5=>?_
 refine rS (CL (dx.eq (g_ (-10000) 10000 ([x.eh.Lo,x.eh.Hi]) (some ⟨A5,0,none⟩) 2 (by (simp; done))) oS) (aK (bk 0 U U (by simp [bJ]) U)<|aM) U) ?_
 refine rP 2 [] I ?_
 refine ck (t:=47) U (aT fun BV=>?_) (aU fun BV=>?_)
 ·refine rP 9 [] I ?_
  refine aD ?_
  have u:(decide (e9 c i x))=false:=bD (by unfold e9; omega)
  refine a7 (ic (cw 8<|mZ U u<|df.nil _) (aP [2,3,4]) (G ()))
 refine rP 9 [] (mc 2 U I) ?_
 refine aD ?_
 have s:(decide (e9 c i x))=(decide (x.eh.Lo≤x.eh.Hi)):=gv.2 (by unfold e9; omega)
 refine a7 (ic (cw 8<|mZ U s<|df.nil _) (aP [2,3,4]) (G ()))
theorem PT (ms:List ay) (az:List RA) (k:Nat) (m:ay) (a:RA) (hm:ms[k]? =some m) (ha:az[k]? =some a) (hc:m.bG.length≤a.2∧m.bG.length≤1000000):
 dx Tryz.prog 109 [(vA (du.cells (du.mk m.dj (bH.mk a.1 m.bG.length a.2))))] [(dL (br ay.gn ms az))] (vB (!(decide (eM m)))):=by
 obtain ⟨C,D⟩:=hc
 refine bB kr Tryz.func109 U U fun F Q hQ hN=>?_
 try dsimp only
 refine WS fun _ A=>er U fun E=>bE 1 U<|RK A<|WS fun _ B=>eN 1 [] (mc 0 U I) U<|rS (CL (Oj m a.1 a.2 asm asm) (aK (show iN _ (rd a.1 m.bG.length 3 (m.bG.map cQ.cells)).holds from (cR 1 U (bM hm ha (by simp [ay.gn]))))<|aM) U)<|rP 2 [] I ?_
 refine RK B<|ak ?_
 exact Q1 hQ U U U U
theorem F8 (l:List ay) (az:List RA) (lA:OA) (lC:Nat) (f:Value) (p:ay→Bool) (X:av) (hf: ∀ (k:Nat) m a,l[k]? =some m→az[k]? =some a→CX Tryz.prog f [.agg (ay.cells m a).toArray] [X] (.bool (p m))) (hlen:l.length≤1000000) (has:az.length=l.length):
 dx Tryz.prog 130 [(vS lA l.length lC),f] [(rd lA l.length 2 (List.zipWith ay.cells l az)),(dL (br ay.gn l az)),X] (vI (rQ p l)):=by
 refine bB kr Tryz.func130 U U fun T Q hQ hN=>?_
 try dsimp only
 refine WS fun _ AA=>bE 1 U<|RK AA<|aj fun _ J=>WS fun _ K=>rP 3 [] I ?_
 refine RK K<|aB ?_
 have B:(0≤l.length)∧((l.take 0).any p=false):=by simp
 refine bT (ι:={z:Nat // (z≤l.length)∧((l.take z).any p=false)}) [0,1,7] [0,1,2] U U (fun z=>[(8,(vI (z.1:Int)))]) (fun z=>[]) (fun _=>rfl) (fun _=>rfl) (fun z=>l.length-z.1) ⟨0,B⟩ (bx U) (aP [0,1,2]) ?_
 clear B
 rintro ⟨i,⟨P,A⟩⟩ J4 H
 try dsimp only
 refine WS fun _ L=>rP 1 [] I ?_
 refine RK L<|aj fun _ M=>bQ U (aT fun S=>?_) (aU fun S=>?_)
 ·refine bL<|ai<|ai<|aG<|KK J<|WS fun _ E=>rP 1 [] I ?_
  refine RK E<|ak<|Q1 hQ U U U ?_
  exact cI (pB om A).symm
 refine WK M<|aj fun _ N=>aB<|WS fun _ O=>bE 2 U<|RK O<|WS fun _ C=>rP 3 [] I ?_
 obtain ⟨x,hx⟩:=aJ l i om
 obtain ⟨xa,G⟩:=aJ az i om
 have R:(List.zipWith ay.cells l az)[i]? =some (ay.cells x xa):=dC hx G
 refine rS (IA i U (aA 0 U) F0 dc om om)<|rS (lh i 0 (du.cells (du.mk x.dj (bH.mk xa.1 x.bG.length xa.2))) U cb (aA 0 U) R U dc U U)<|rS (SX (pO U U U (hf i x xa hx G) (bq [2])) U U)<|RK C<|cu U (fun hp=>?_) (fun hp=>?_)
 ·refine WS fun _ D=>rP 2 [] I ?_
  refine RK D<|ak<|Q1 hQ U U U ?_
  exact cI (td hx hp A).symm
 refine cf<|aL<|KK N<|aq<|rP 2 [] I ?_
 refine aD ?_
 have F:(vI (((i+1):Nat):Int))=(vI ((i:Int)+1)):=by exact cI om
 refine a7 (H ⟨(i+1),⟨om,sM hx A hp⟩⟩ _ _ _ U os (cw 3<|aX U F<|df.nil _) (aP [0,1,2]))
theorem zo (l:List ay) (az:List RA) (lA:OA) (lC:Nat) (f:Value) (p:ay→Bool) (X:av) (hf: ∀ (k:Nat) m a,l[k]? =some m→az[k]? =some a→CX Tryz.prog f [.agg (ay.cells m a).toArray] [X] (.bool (p m))) (hlen:l.length≤1000000) (has:az.length=l.length):
 dx Tryz.prog 108 [(vS lA l.length lC),f] [(rd lA l.length 2 (List.zipWith ay.cells l az)),(dL (br ay.gn l az)),X] (vB (l.any p)):=by
 refine bB kr Tryz.func108 U U fun C Q hQ hN=>?_
 try dsimp only
 refine WS fun _ A=>bE 1 U<|RK A<|WS fun _ B=>bE 2 U<|rS (CL (F8 l az lA lC f p X (by exact hf) hlen has) (NJ 0 1 2 U U U U U U) U)<|rP 2 [] I ?_
 refine RK B<|ak<|Q1 hQ U U U ?_
 exact cB rj
theorem Ga (l:List bI) (lA:OA) (lC:Nat) (f:Value) (p:bI→Bool) (X:av) (hf: ∀ x0,x0∈l→CX Tryz.prog f [.agg (bI.cells x0).toArray] [X] (.bool (p x0))) (hlen:l.length≤1000000):
 dx Tryz.prog 131 [(vS lA l.length lC),f] [(rd lA l.length 4 (l.map bI.cells)),X] (vI (rQ p l)):=by
 refine bB kr Tryz.func131 U U fun S Q hQ hN=>?_
 try dsimp only
 refine WS fun _ H=>bE 1 U<|RK H<|aj fun _ AA=>WS fun _ J=>rP 3 [] I ?_
 refine RK J<|aB ?_
 have B:(0≤l.length)∧((l.take 0).any p=false):=by simp
 refine bT (ι:={z:Nat // (z≤l.length)∧((l.take z).any p=false)}) [0,1,7] [0,1] U U (fun z=>[(8,(vI (z.1:Int)))]) (fun z=>[]) (fun _=>rfl) (fun _=>rfl) (fun z=>l.length-z.1) ⟨0,B⟩ (bx U) (aP [0,1]) ?_
 clear B
 rintro ⟨i,⟨O,A⟩⟩ J4 G
 try dsimp only
 refine WS fun _ K=>rP 1 [] I ?_
 refine RK K<|aj fun _ L=>bQ U (aT fun R=>?_) (aU fun R=>?_)
 ·refine bL<|ai<|ai<|aG<|KK AA<|WS fun _ E=>rP 1 [] I ?_
  refine RK E<|ak<|Q1 hQ U U U ?_
  exact cI (pB om A).symm
 refine WK L<|aj fun _ M=>aB<|WS fun _ N=>bE 2 U<|RK N<|WS fun _ C=>rP 3 [] I ?_
 obtain ⟨x,hx⟩:=aJ l i om
 have P:=bK bI.cells hx
 refine rS (IA i U (aA 0 U) xH dc om om)<|rS (lh i 0 (bI.cells x) U cb (aA 0 U) P U dc U U)<|rS (SX (pO U U U (hf x (aR hx)) (bq [1])) U U)<|RK C<|cu U (fun hp=>?_) (fun hp=>?_)
 ·refine WS fun _ D=>rP 2 [] I ?_
  refine RK D<|ak<|Q1 hQ U U U ?_
  exact cI (td hx hp A).symm
 refine cf<|aL<|KK M<|aq<|rP 2 [] I ?_
 refine aD ?_
 have F:(vI (((i+1):Nat):Int))=(vI ((i:Int)+1)):=by exact cI om
 refine a7 (G ⟨(i+1),⟨om,sM hx A hp⟩⟩ _ _ _ U os (cw 3<|aX U F<|df.nil _) (aP [0,1]))
theorem zK (l:List bI) (lA:OA) (lC:Nat) (f:Value) (p:bI→Bool) (X:av) (hf: ∀ x0,x0∈l→CX Tryz.prog f [.agg (bI.cells x0).toArray] [X] (.bool (p x0))) (hlen:l.length≤1000000):
 dx Tryz.prog 112 [(vS lA l.length lC),f] [(rd lA l.length 4 (l.map bI.cells)),X] (vB (l.any p)):=by
 refine bB kr Tryz.func112 U U fun C Q hQ hN=>?_
 try dsimp only
 refine WS fun _ A=>bE 1 U<|RK A<|WS fun _ B=>bE 2 U<|rS (CL (Ga l lA lC f p X (by exact hf) hlen) (bq [0,1]) U)<|rP 2 [] I ?_
 refine RK B<|ak<|Q1 hQ U U U ?_
 exact cB rj
end
section
open Go.RowKit
theorem pN (a:ag) (l:List ag) (lA:OA) (lC:Nat) (ha:lv a) (hl: ∀ z∈l,lv z) (hlen:l.length≤4):
 dx Tryz.prog 118 [(vA (ag.cells a)),(vS lA l.length lC)] [(rd lA l.length 2 (l.map ag.cells))] (vA (ag.cells (kl a l))):=by
 refine bB kr Tryz.func118 U U fun AA Q hQ hN=>?_
 try dsimp only
 refine WS fun _ AB=>er U fun R=>AL U dN fun T=>RK AB<|aj fun _ J=>WS fun _ K=>rP 3 [] I ?_
 refine RK K<|aB ?_
 have A:(0≤l.length):=by exact Nat.zero_le _
 refine bT (ι:={z:Nat // (z≤l.length)}) [2,4,7,8] [0,2] U U (fun z=>[(9,(vI (z.1:Int)))]) (fun z=>[(cm R 53 (ag.cells (kl a (l.take z.1))))]) (fun _=>rfl) (fun _=>rfl) (fun z=>l.length-z.1) ⟨0,A⟩ (bx U) (aP [0,2,1]) ?_
 clear A
 rintro ⟨i,N⟩ J6 H
 try dsimp only
 refine WS fun _ L=>rP 1 [] I ?_
 refine RK L<|aj fun _ M=>bQ U (aT fun S=>?_) (aU fun S=>?_)
 ·refine bL<|ai<|ai<|aG<|KK J<|aj fun _ D=>?_
  have G:(ag.cells (kl a (l.take i)))=(ag.cells (kl a l)):=by rw [Ke om]
  rw [G]
  refine aq<|rP 1 [] (mc 2 U I) ?_
  refine fu U cS U<|RK D<|ak ?_
  exact Cj hQ [0] (mc 0 U I) U U
 refine WK M<|aj fun _ B=>aB<|WS fun _ C=>?_
 obtain ⟨x,hx⟩:=aJ l i om
 have O:=bK ag.cells hx
 refine rS (IA i U (aA 1 U) kS dc om om)<|rS (lh i 0 (ag.cells x) U cb (aA 1 U) O U dc U U)<|AL U dN fun P=>fu U cS U<|RK C<|aq ?_
 have hb:=OF ha hl i
 have hz:=hl x (aR hx)
 unfold lv at hz
 refine rP 10 [0,1,0,1] (mc 3 U (mc 0 U I)) ?_
 refine rS (SX (a_ (xs:=[(0,.tmp 17),(1,.tmp 22)]) (cs:=(ag.cells (ag.mk (((kl a (l.take i)).Lo)+x.Lo) (((kl a (l.take i)).Hi)+x.Hi)))) U U (bf gM U)) U U)<|Sx U cS U<|aD<|aL<|KK B ?_
 have E:(ag.cells (ag.mk (((kl a (l.take i)).Lo)+x.Lo) (((kl a (l.take i)).Hi)+x.Hi)))=(ag.cells (kl a (l.take (i+1)))):=by rw [yo hx]; rfl
 rw [E]
 refine aq<|rP 2 [] I ?_
 refine aD ?_
 have F:(vI ((i+1):Int))=(vI ((i:Int)+1)):=by exact cI om
 refine a7 (H ⟨(i+1),(by first|omega|(simp only []; omega))⟩ _ _ _ U os (cw 4<|aX U F<|df.nil _) (aP [1,2,3]))
theorem EY (ts:List ao) (tsA:OA) (tsC:Nat) (hlen:ts.length≤1000000) (hside: ∀ x∈ts,0≤x.iY∧x.iY≤255):
 dx Tryz.prog 115 [(vA (bZ.cells (bZ.mk (bH.mk tsA ts.length tsC))))] [(rd tsA ts.length 9 (ts.map ao.cells))] (vT [(vA (eg.cells (eg.mk (bZ.mk (bH.mk tsA ts.length tsC))))),(vI (if c8 ts=true then 0 else 10))]):=by
 refine bB kr Tryz.func115 U U fun E Q hQ hN=>?_
 try dsimp only
 refine WS fun _ A=>er U fun C=>AL U JX fun D=>bE 1 U<|RK A<|aj fun _ B=>dg cp 4 kr<|lu 1 [] (mc 1 U I) U<|dS (SX (a_ (xs:=[(0,.tmp 4)]) (cs:=(eg.cells (eg.mk (bZ.mk (bH.mk tsA ts.length tsC))))) U U (bf PZ U)) U U)<|lu 1 [] (mc 1 U I) U<|dS (CL (Bx ts tsA tsC hlen hside) (bq [2]) U)<|cE<|fu U Kk U<|rP 1 [] I ?_
 refine RK B<|ak ?_
 exact my hQ [0] (mc 0 U I) U U
theorem LF (f:Int) (tsA:OA) (tsN tsC:Nat):
 q6 Tryz.prog 134 [(vA (eg.cells (eg.mk (bZ.mk (bH.mk tsA tsN tsC))))),(vI f)] [] (fun (x:Nat×Nat)=>(Value.func (.func 151) [].toArray [(Value.pointer (some ⟨x.1,0,none⟩)),(Value.pointer (some ⟨x.2,0,none⟩))].toArray)) (fun (x:Nat×Nat)=>True) (fun (x:Nat×Nat)=>[(cm x.1 3 [(vI f)]),(cm x.2 196 (eg.cells (eg.mk (bZ.mk (bH.mk tsA tsN tsC)))))]):=by
 refine fR kr Tryz.func134 U U fun E Q hQ hN=>?_
 try dsimp only
 refine WS fun _ A=>er U fun C=>vR U U fun D=>bE 1 U<|RK A<|WS fun _ B=>rS (FU U)<|rP 1 [] I ?_
 refine RK B<|ak<|LX hQ (D,C) [0,1] [] I U U U U ?_
 trivial
theorem F2 (ts:List ao) (tsA:OA) (tsC:Nat) (f:Int) (g1 g2:Nat) (hst: ∀ x∈ts,bP x) (hlen:ts.length≤12) (hf:0≤f∧f≤ts.length):
 Lb Tryz.prog 151 [] [(vP g1),(vP g2)] [(rd tsA ts.length 9 (ts.map ao.cells)),(cm g1 3 [(vI f)]),(cm g2 196 (eg.cells (eg.mk (bZ.mk (bH.mk tsA ts.length tsC)))))] (tI ts f.toNat):=by
 refine E3 kr Tryz.func151 U U fun l J Z A0 p Q hY g d hQ hN=>?_
 try dsimp only
 refine WS fun _ h=>AL U dN fun n=>AL U dN fun o=>RK h<|WS fun _ i=>rP 2 [] (mr 4 U I) ?_
 refine RK i<|aB ?_
 have P:(0≤ts.length-f.toNat)∧(J 0 A0)∧(Fo A0 p A0):=by exact ⟨Nat.zero_le _,g,d⟩
 have m:(vI (f+(0:Int)))=(vI f):=by exact cI om
 refine bT (ι:={z:Nat×av // (z.1≤ts.length-f.toNat)∧(J z.1 z.2)∧(Fo A0 p z.2)}) [0,1,2,4,5] [3,4,5] U U (fun z=>[(6,(vI (f+(z.1.1:Int))))]) (fun z=>[(cm o 53 (ag.cells (gp ts f.toNat z.1.1))),(cm n 53 (ag.cells (ei ts f.toNat z.1.1))),z.1.2]) (fun _=>rfl) (fun _=>rfl) (fun z=>ts.length-f.toNat-z.1.1) ⟨(0,A0),P⟩ (aX U m<|df.nil _) (aP [3,4,5,0,1,2]) ?_
 clear P
 rintro ⟨⟨k,A⟩,⟨W,R,S⟩⟩ J6 V
 try dsimp only at W R S
 try dsimp only
 refine aj fun _ j=>WS fun _ X=>rP 3 [0,1] (mc 4 U (mc 3 U I)) ?_
 refine Er 5 hY R S U U U (yR om) U U (fun B9 C B=>?_) (fun B9 C B=>?_)
 rotate_left 1
 ·refine rP 8 [] I ?_
  refine RK X<|cg U<|bL<|ai<|ai<|aG ?_
  refine hN _ _ _ (jI (vs:=[]) trivial fun w hs=>Nu 5 U C B hs)
 refine rP 8 [] (mr 2 U I) ?_
 refine RK X<|bQ U (aT fun c=>?_) (aU fun c=>?_)
 ·refine bL<|ai<|ai<|aG ?_
  refine hN _ _ _ (jI (vs:=[]) trivial fun w hs=>RR 5 U (by rw [sT]; have e:ts.length-f.toNat+1=k+1:=om; rw [e]; exact C) B hs)
 refine WK j<|aj fun _ M=>aB<|l3 cp [0,1,2,3,4,5,6,7,10,11,12,13,14,15,16,17] [8,9,18,19,20,21] [true,false,false,false,false,false,false,false,true,false,false,false,false,false,false,false] [8,9,18] [(rd tsA ts.length 9 (ts.map ao.cells)).ro,(cm g1 3 [(vI f)]).ro,(cm g2 196 (eg.cells (eg.mk (bZ.mk (bH.mk tsA ts.length tsC))))).ro,B9] [(rd tsA ts.length 9 (ts.map ao.cells)).ro,(cm g1 3 [(vI f)]).ro,(cm g2 196 (eg.cells (eg.mk (bZ.mk (bH.mk tsA ts.length tsC))))).ro,(cm o 53 (ag.cells (gp ts f.toNat k))),(cm n 53 (ag.cells (ei ts f.toNat k))),B9] kr (aP [0,1,2,5]) (aP [0,1,2,3,4,5])<|fS U (LW 4 U cb U U)<|eS U (FA 0 U fE U)<|eS U (FA 0 U fE U)<|eS U (Io (vS tsA ts.length tsC) 2 U cb U U)<|eS U (MV U) ?_
 obtain ⟨x,hx⟩:=aJ ts (f.toNat+k) om
 have a:=bK ao.cells hx
 refine eS U (IA (f.toNat+k) U (aA 0 U) zJ dc om om) ?_
 have L:=hst x (aR hx)
 refine eS U (qc (((f.toNat+k)*9)+1) U (aA 0 U) (Nat.mul_pos om dc) fE U)<|eS U (lh (f.toNat+k) 1 (ag.cells x.ko) U cb (aA 0 U) a U dc U U)<|fS U (LW 3 U cb U U)<|eS U (FA 0 U fE U)<|eS U (FA 0 U fE U)<|eS U (Io (vS tsA ts.length tsC) 2 U cb U U)<|eS U (MV U)<|eS U (IA (f.toNat+k) U (aA 0 U) zJ dc om om)<|eS U (qc (((f.toNat+k)*9)+3) U (aA 0 U) (Nat.mul_pos om dc) fE U)<|eS U (lh (f.toNat+k) 3 (ag.cells x.lS) U cb (aA 0 U) a U dc U U)<|ep U<|mz [8,18] kr (iy ?_<|iy ?_<|pX)
 rotate_left 1
 ·refine vp (rem':=[8,9,19,20,21]) U kr fun T14 N=>dZ (xs:=[.tmp 39]) (cs:=(ag.cells x.lS)) U kS dN U U U U (by simp [Value.cells,ag.aY]) U U fun T=>aD (N _ _ (aP [1,2,3,6]) (aP [1,2,3,4,5,6]) ?_)
  refine N1 8<|vp (rem':=[9,19,20,21]) U kr fun T16 D=>dZ (xs:=[.tmp 29]) (cs:=(ag.cells x.ko)) U kS dN U U U U (by simp [Value.cells,ag.aY]) U U fun AA=>aD (D _ _ (aP [2,3,4,7]) (aP [2,3,4,5,6,7]) ?_)
  refine N1 9<|vp (rem':=[19,20,21]) U kr fun T18 O=>?_
  refine rS (CL (dx.eq (pN (ei ts f.toNat k) ([x.ko]) (some ⟨AA,0,none⟩) 1 (by exact qs hst om) (by intro z hz; simp only [cd] at hz; subst hz; exact uq L) sm) nE) (aK (bk 0 rfl rfl (by simp [ag.aY]) rfl)<|aM) rfl) ?_
  refine aD (O _ _ (aP [2,3,4,7]) (aP [2,3,4,5,6,7]) ?_)
  refine N1 19<|NO U U [20,21] fun T19 E=>?_
  refine rS (CL (dx.eq (pN (gp ts f.toNat k) ([x.lS]) (some ⟨T,0,none⟩) 1 (by exact wG hst om) (by intro z hz; simp only [cd] at hz; subst hz; exact uR L) sm) nE) (aK (bk 1 rfl rfl (by simp [ag.aY]) rfl)<|aM) rfl) ?_
  refine aD (E _ _ (aP [2,3,4,7]) ?_)
  refine N1 20<|NO U U [21] fun T20 F=>Sr U cS U<|aD (F _ _ (aP [2,3,4,7]) ?_)
  refine N1 21<|NO U U [] fun T21 G=>ID U cS U<|aD (G _ _ (aP [2,3,4,7]) ?_)
  refine lx<|aL<|KK M ?_
  have H:(ag.cells (l5 (ei ts f.toNat k) x.ko))=(ag.cells (ei ts f.toNat (k+1))):=by rw [pQ hx]
  rw [H]
  have AB:(ag.cells (l5 (gp ts f.toNat k) x.lS))=(ag.cells (gp ts f.toNat (k+1))):=by rw [pH hx]
  rw [AB]
  refine aq<|rP 3 [] I ?_
  refine aD ?_
  have K:(vI (f+(((k+1):Nat):Int)))=(vI ((f+(k:Int))+1)):=by exact cI om
  refine a7 (V ⟨((k+1),B9),⟨om,C,B⟩⟩ _ _ _ U os (cw 5<|aX U K<|df.nil _) (aP [2,3,4,5,6,7]))
 refine vp (rem':=[9,18,19,20,21]) U kr fun T14 N=>dZ (xs:=[.tmp 29]) (cs:=(ag.cells x.ko)) U kS dN U U U U (by simp [Value.cells,ag.aY]) U U fun T=>aD (N _ _ (aP [1,2,3,6]) (aP [1,2,3,4,5,6]) ?_)
 refine mz [9,18] kr (iy ?_<|iy ?_<|pX)
 rotate_left 1
 ·refine vp (rem':=[9,19,20,21]) U kr fun T16 D=>dZ (xs:=[.tmp 39]) (cs:=(ag.cells x.lS)) U kS dN U U U U (by simp [Value.cells,ag.aY]) U U fun AA=>aD (D _ _ (aP [2,3,4,7]) (aP [2,3,4,5,6,7]) ?_)
  refine N1 9<|vp (rem':=[19,20,21]) U kr fun T18 O=>?_
  refine rS (CL (dx.eq (pN (ei ts f.toNat k) ([x.ko]) (some ⟨T,0,none⟩) 1 (by exact qs hst om) (by intro z hz; simp only [cd] at hz; subst hz; exact uq L) sm) nE) (aK (bk 1 rfl rfl (by simp [ag.aY]) rfl)<|aM) rfl) ?_
  refine aD (O _ _ (aP [2,3,4,7]) (aP [2,3,4,5,6,7]) ?_)
  refine N1 19<|NO U U [20,21] fun T19 E=>?_
  refine rS (CL (dx.eq (pN (gp ts f.toNat k) ([x.lS]) (some ⟨AA,0,none⟩) 1 (by exact wG hst om) (by intro z hz; simp only [cd] at hz; subst hz; exact uR L) sm) nE) (aK (bk 0 rfl rfl (by simp [ag.aY]) rfl)<|aM) rfl) ?_
  refine aD (E _ _ (aP [2,3,4,7]) ?_)
  refine N1 20<|NO U U [21] fun T20 F=>Sr U cS U<|aD (F _ _ (aP [2,3,4,7]) ?_)
  refine N1 21<|NO U U [] fun T21 G=>ID U cS U<|aD (G _ _ (aP [2,3,4,7]) ?_)
  refine lx<|aL<|KK M ?_
  have H:(ag.cells (l5 (ei ts f.toNat k) x.ko))=(ag.cells (ei ts f.toNat (k+1))):=by rw [pQ hx]
  rw [H]
  have AB:(ag.cells (l5 (gp ts f.toNat k) x.lS))=(ag.cells (gp ts f.toNat (k+1))):=by rw [pH hx]
  rw [AB]
  refine aq<|rP 3 [] I ?_
  refine aD ?_
  have K:(vI (f+(((k+1):Nat):Int)))=(vI ((f+(k:Int))+1)):=by exact cI om
  refine a7 (V ⟨((k+1),B9),⟨om,C,B⟩⟩ _ _ _ U os (cw 5<|aX U K<|df.nil _) (aP [2,3,4,5,6,7]))
 refine vp (rem':=[18,19,20,21]) U kr fun T16 D=>?_
 refine rS (CL (dx.eq (pN (ei ts f.toNat k) ([x.ko]) (some ⟨T,0,none⟩) 1 (by exact qs hst om) (by intro z hz; simp only [cd] at hz; subst hz; exact uq L) sm) nE) (aK (bk 0 rfl rfl (by simp [ag.aY]) rfl)<|aM) rfl) ?_
 refine aD (D _ _ (aP [1,2,3,6]) (aP [1,2,3,4,5,6]) ?_)
 refine N1 18<|vp (rem':=[19,20,21]) U kr fun T17 Y=>dZ (xs:=[.tmp 39]) (cs:=(ag.cells x.lS)) U kS dN U U U U (by simp [Value.cells,ag.aY]) U U fun b=>aD (Y _ _ (aP [2,3,4,7]) (aP [2,3,4,5,6,7]) ?_)
 refine N1 19<|NO U U [20,21] fun T19 E=>?_
 refine rS (CL (dx.eq (pN (gp ts f.toNat k) ([x.lS]) (some ⟨b,0,none⟩) 1 (by exact wG hst om) (by intro z hz; simp only [cd] at hz; subst hz; exact uR L) sm) nE) (aK (bk 0 rfl rfl (by simp [ag.aY]) rfl)<|aM) rfl) ?_
 refine aD (E _ _ (aP [2,3,4,7]) ?_)
 refine N1 20<|NO U U [21] fun T20 F=>Sr U cS U<|aD (F _ _ (aP [2,3,4,7]) ?_)
 refine N1 21<|NO U U [] fun T21 G=>ID U cS U<|aD (G _ _ (aP [2,3,4,7]) ?_)
 refine lx<|aL<|KK M ?_
 have H:(ag.cells (l5 (ei ts f.toNat k) x.ko))=(ag.cells (ei ts f.toNat (k+1))):=by rw [pQ hx]
 rw [H]
 have AB:(ag.cells (l5 (gp ts f.toNat k) x.lS))=(ag.cells (gp ts f.toNat (k+1))):=by rw [pH hx]
 rw [AB]
 refine aq<|rP 3 [] I ?_
 refine aD ?_
 have K:(vI (f+(((k+1):Nat):Int)))=(vI ((f+(k:Int))+1)):=by exact cI om
 refine a7 (V ⟨((k+1),B9),⟨om,C,B⟩⟩ _ _ _ U os (cw 5<|aX U K<|df.nil _) (aP [2,3,4,5,6,7]))
theorem Je (ts:List ao) (tsA:OA) (tsC:Nat) (f t:Int) (hst: ∀ x∈ts,bP x) (hlen:ts.length≤12) (hf:0≤f∧f≤t∧t≤ts.length):
 dx Tryz.prog 117 [(vA (eg.cells (eg.mk (bZ.mk (bH.mk tsA ts.length tsC))))),(vI f),(vI t)] [(rd tsA ts.length 9 (ts.map ao.cells))] (vT [(vA (ag.cells (ei ts f.toNat (t-f).toNat))),(vA (ag.cells (gp ts f.toNat (t-f).toNat)))]):=by
 refine bB kr Tryz.func117 U U fun w0 Q hQ hN=>?_
 try dsimp only
 refine WS fun _ M=>er U fun a=>vR U U fun b=>vR U U fun d=>AL U dN fun e=>AL U dN fun g=>RK M<|aj fun _ AA=>WS fun _ V=>rP 2 [0,1] (mc 4 U (mc 3 U I)) ?_
 refine cX (LF f tsA ts.length tsC) (aM) U fun u n=>?_
 obtain ⟨B,C⟩:=u
 try dsimp only
 refine RK V<|aB<|jd 7 U (by exact fun _ h=>h) ?_
 refine EP (L0:=[(3,(vP a)),(4,(vP b)),(5,(vP d)),(6,(vP e)),(7,(vP g))]) (F:=[(rd tsA ts.length 9 (ts.map ao.cells)).ro,(cm B 3 [(vI f)]),(cm C 196 (eg.cells (eg.mk (bZ.mk (bH.mk tsA ts.length tsC)))))]) (xs:=(tI ts f.toNat)) (fun k (y:ag×ag×Int)=>(k≤(t-f).toNat)∧(y.2.2=f+(k:Int))) (fun k y=>[(cm g 53 (ag.cells y.2.1)),(cm e 53 (ag.cells y.1)),(cm d 3 [(vI t)]),(cm b 3 [(vI y.2.2)]),(cm a 196 (eg.cells (eg.mk (bZ.mk (bH.mk tsA ts.length tsC))))),(rd tsA ts.length 9 (ts.map ao.cells)).ro]) (fun c (z:Unit)=>(c= .exit 0)) (fun _ z=>[(cm g 53 (ag.cells (gp ts f.toNat (t-f).toNat))),(cm e 53 (ag.cells (ei ts f.toNat (t-f).toNat))),(cm d 3 [(vI t)]),(cm b 3 [(vI t)]),(cm a 196 (eg.cells (eg.mk (bZ.mk (bH.mk tsA ts.length tsC))))),(rd tsA ts.length 9 (ts.map ao.cells)).ro]) [3,4,5,6,7,8] [0,1,2] (gF,gF,f) U U (F2 ts tsA tsC f B C (by first|assumption|omega|(simp; done)) (by first|assumption|omega|(simp; done)) om) U U U (by exact ⟨Nat.zero_le _,sm⟩) (by simp only [List.forall_mem_cons,List.not_mem_nil,false_imp_iff,implies_true,and_true]; exact ⟨⟨_,sm,(dy (bR _))⟩,⟨_,sm,(bR _)⟩,⟨_,sm,(bR _)⟩⟩) (by exact DH) U (bx U) ?_ ?_ ?_ ?_
 rotate_left 1
 ·rintro q ⟨v,z2,m⟩ J
  obtain ⟨A,K⟩:=J
  try dsimp only at A K
  try dsimp only
  exfalso; rw [sT] at A; omega
 ·rintro r id _ Y
  have hc:=Y
  cases hc
  try dsimp only
  refine aG<|KK AA<|aj fun _ D=>dH cp [2,3] [] [] [0,1,2,3,4,5,6,7,8,9] [] U U U U U<|eS U (LW 5 U cb U U)<|eS U (LW 4 U cb U U)<|ep U<|cj U fun T30 E=>ID U cS U<|aD (E _ _ (aP [0,1,2,3,4,5,6,7,8,9]) ?_)
  refine cj U fun T31 G=>QV U cS U<|aD (G _ _ (aP [0,1,2,3,4,5,6,7,8,9]) ?_)
  refine fH U<|KK D<|ak<|hQ _ _ _ (qG 0 U U<|jI (vs:=[(vA (ag.cells (ei ts f.toNat (t-f).toNat))),(vA (ag.cells (gp ts f.toNat (t-f).toNat)))]) ⟨⟨_,U,.inl ⟨_,_,cb,py (vs:=(ag.cells (ei ts f.toNat (t-f).toNat))) 5 U U,U,U⟩⟩,⟨_,U,.inl ⟨_,_,cb,py (vs:=(ag.cells (gp ts f.toNat (t-f).toNat))) 4 U U,U,U⟩⟩,trivial⟩ fun w hs=>Al ?_ hs)
  show (vT [(vA (ag.cells (ei ts f.toNat (t-f).toNat))),(vA (ag.cells (gp ts f.toNat (t-f).toNat)))])=(vT [(vA (ag.cells (ei ts f.toNat (t-f).toNat))),(vA (ag.cells (gp ts f.toNat (t-f).toNat)))])
  clear hs w hQ hN G T31 E T30 D V AA M
  rfl
 ·rintro s _ Z
  cases Z
 rintro k x ⟨v,z2,m⟩ l ra rb S w1 K13 Qr14 hx AB N H L j
 obtain ⟨hk,rfl⟩:=GD hx
 obtain ⟨A,K⟩:=AB
 try dsimp only at A K
 try dsimp only
 refine WS fun _ O=>AL U dN fun o=>fu U cS U<|RK O<|aq<|AL U dN fun p=>fu U cS U<|aD<|ic (fun _ _ h=>h) (aP [2,0,1,3,4,5,6,7,8])<|a7 (N _ _ ?_)
 refine aB<|aj fun _ P=>aj fun _ R=>dH cp [2,3] [] [] [0,1,2,5,6,7,8] [] U U U U U<|eS U (LW 2 U cb U U)<|eS U (LW 1 U cb U U)<|ep U<|cj U fun T21 W=>QV U cS U<|aD (W _ _ (aP [0,1,2,5,6,7,8]) ?_)
 refine cj U fun T22 X=>Sx U cS U<|aD (X _ _ (aP [0,1,2,5,6,7,8]) ?_)
 refine fH U<|KK R<|WS fun _ T=>rP 3 [0,1] (mc 6 U (mc 5 U I)) ?_
 refine RK T<|cu U (aU fun i=>?_) (aT fun i=>?_)
 ·refine bL<|ai<|eU U ?_
  rw [show m=t from by omega]
  obtain rfl:k=(t-f).toNat:=by omega
  exact L _ () _ _ (by exact U) (aP [0,3,4,5,6,7,8])
 refine WK P<|aq<|rP 2 [] (mc 6 U I) ?_
 refine UK U ER U U<|aD<|aL ?_
 exact H ((ei ts f.toNat k),(gp ts f.toNat k),(m+1)) _ _ (by refine ⟨om,?_⟩; dsimp only; omega) (aP [0,3,4,5,6,7,8])
end
section
open Go.RowKit
theorem FD (i:Int) (s:cy) (ts:List ao) (tsA:OA) (tsC g1:Nat) (hst: ∀ x∈ts,bP x) (hlen:ts.length≤12):
 dx Tryz.prog 133 [(vI i),(vA (cy.cells s)),(vP g1)] [(rd tsA ts.length 9 (ts.map ao.cells)),(cm g1 196 (eg.cells (eg.mk (bZ.mk (bH.mk tsA ts.length tsC)))))] (vB (!(decide (fh ts s)))):=by
 refine bB kr Tryz.func133 U U fun AA Q hQ hN=>?_
 try dsimp only
 refine WS fun _ C=>er U fun G=>rP 1 [] I ?_
 refine RK C<|aj fun _ A=>l3 cp [0,1,2,3,4,5,6] [7,8,9,10,11,12,13,14,15,16,17,18,19,20,21,22,23,24,25,26] [false,false,false,false,false,false,false] [] [(cm G 120 (cy.cells s)),(rd tsA ts.length 9 (ts.map ao.cells)).ro,(cm g1 196 (eg.cells (eg.mk (bZ.mk (bH.mk tsA ts.length tsC))))).ro] [] kr (aP [0,1,2]) (aP [])<|eS U (FA 0 U fE U)<|eS U (FA 0 U fE U)<|eS U (Io (vS tsA ts.length tsC) 2 U cb U U)<|eS U (LN U Ri)<|eS U (BI U (wg ⟨om,om⟩))<|eS U (FA 0 U fE U)<|eS U (L1 (vI s.bu) 0 U cb U U)<|ep U<|N1 7<|NO U U [8,9,10,11,12,13,14,15,16,17,18,19,20,21,22,23,24,25,26] fun T4 D=>dZ (xs:=[.tmp 12]) (cs:=[(vI s.bu)]) U dp j5 U U U U (by simp [Value.cells]) U U fun H=>RD D 1 U<|NR [14,15,16,17,18,19,20,21,22,23,24,25,26,27,28,29,30,31,5] kr kr U _ U U (aP [1,2,3]) ?_
 refine dS (CL (dx.eq (o7 0 ((ts.length:Int)-1) ([s.bu]) (some ⟨H,0,none⟩) 1 (by (simp; done))) cv) (aK (bk 0 U U (by simp [bJ]) U)<|aM) U) ?_
 refine dP 2 [] I ?_
 refine gY (t:=16) U (bp fun B=>?_) (bo fun B=>?_)
 ·refine kI 9 U<|dP 7 [] I ?_
  refine cE<|RK A<|ak<|Q1 hQ U U U ?_
  (refine cB ?_; rw [bD (BY om)]; rfl)
 refine kI 1 U<|dS (LP (ag.cells s.mu) 1 U cb U U U)<|dP 5 [0,1] (mr 3 U (mc 1 U I)) ?_
 obtain ⟨x,hx⟩:=aJ ts ((s.bu).toNat) om
 have E:=bK ao.cells hx
 refine dS (IA ((s.bu).toNat) U (aA 2 U) zJ dc om om)<|dS (qc ((((s.bu).toNat)*9)+1) U (aA 2 U) (Nat.mul_pos om dc) fE U) ?_
 have F:=(hst x (aR hx)).2.1
 simp only [dQ] at F
 refine dS (qc ((((s.bu).toNat)*9)+1) U (aA 2 U) (Nat.mul_pos om dc) fE U)<|dS (hG ((s.bu).toNat) 1 (vI x.ko.Lo) U cb (aA 2 U) E U dc U)<|kI 1 U<|dS (CL (vW s.mu 0 (x.ko.Lo-1)) (aM) U)<|dP 3 [] I ?_
 refine cE<|RK A<|ak<|Q1 hQ U U U ?_
 exact congrArg (fun b=>vB (!b)) (gv.2 (Ah om hx).symm)
theorem DU (l:List cy) (lA:OA) (lC:Nat) (f:Value) (p:Int→cy→Bool) (X:av) (hf: ∀ x0 x1,(∃ k:Nat,x0=(k:Int)∧l[k]? =some x1)→CX Tryz.prog f [.int .i64 x0,.agg (cy.cells x1).toArray] [X] (.bool (p x0 x1))) (hlen:l.length≤1000000):
 q6 Tryz.prog 132 [(vS lA l.length lC),f] [(rd lA l.length 3 (l.map cy.cells)),X] (fun (x:(OA)×Nat)=>(vS x.1 ((HV (fun jj yy=>p (jj:Int) yy) l).length) x.2)) (fun (x:(OA)×Nat)=>True) (fun (x:(OA)×Nat)=>[(own x.1 x.2 3 1 ((HV (fun jj yy=>p (jj:Int) yy) l).map iC))]):=by
 refine fR kr Tryz.func132 U U fun W Q hQ hN=>?_
 try dsimp only
 refine WS fun _ L=>bE 1 U<|RK L<|WS fun _ M=>bE 1 U<|RK M<|aj fun _ N=>WS fun _ O=>rP 3 [] I ?_
 refine RK O<|aB<|ew 3 1 ?_
 have A:(0≤l.length):=by exact Nat.zero_le _
 refine bT (ι:={z:Nat×(OA)×Nat // (z.1≤l.length)}) [0,1,8,9] [1,2] U U (fun z=>[(5,(vS z.1.2.1 ((sB (fun jj yy=>p (jj:Int) yy) l z.1.1).length) z.1.2.2)),(10,(vI (z.1.1:Int)))]) (fun z=>[(own z.1.2.1 z.1.2.2 3 1 ((sB (fun jj yy=>p (jj:Int) yy) l z.1.1).map iC))]) (fun _=>rfl) (fun _=>rfl) (fun z=>l.length-z.1.1) ⟨(0,none,0),A⟩ (bx U) (aP [1,2,0]) ?_
 clear A
 rintro ⟨⟨i,a,c⟩,B⟩ J5 C
 try dsimp only at B
 try dsimp only
 refine WS fun _ P=>rP 1 [] I ?_
 refine RK P<|aj fun _ R=>bQ U (aT fun V=>?_) (aU fun V=>?_)
 ·refine bL<|ai<|ai<|aG<|KK N<|WS fun _ F=>?_
  rw [Lt (p:=fun (i:Nat) x=>p (i:Int) x) (show i=l.length by omega)]
  refine rP 2 [] I ?_
  refine RK F<|ak<|LX hQ (a,c) [2] [] I U U U U ?_
  trivial
 refine WK R<|aj fun _ G=>aB<|WS fun _ D=>rP 1 [] I ?_
 obtain ⟨x,hx⟩:=aJ l i om
 have S:=bK cy.cells hx
 refine rS (IA i U (aA 0 U) He dc om om)<|rS (lh i 0 (cy.cells x) U cb (aA 0 U) S U dc U U)<|AL U EW fun T=>bE 1 U<|fu U Nf U<|RK D<|WS fun _ E=>rP 3 [] (mc 0 U I) ?_
 refine rS (SX (pO U U U (hf (i:Int) x ⟨i,U,hx⟩) (bq [2])) U U)<|RK E<|bQ U (fun hp=>?_) (fun hp=>?_)
 ·refine cf<|aL<|KK G<|aq ?_
  rw [← Lz (p:=fun (i:Nat) x=>p (i:Int) x) hx hp]
  refine rP 2 [] I ?_
  refine aD ?_
  have AB:(vI (((i+1):Nat):Int))=(vI ((i:Int)+1)):=by exact cI om
  refine a7 (C ⟨((i+1),a,c),(by first|omega|(simp only []; omega))⟩ _ _ _ U os (cw 5<|aX U AB<|df.nil _) (aP [1,2,3]))
 refine aq<|rP 2 [] I ?_
 refine dZ (xs:=[.tmp 20]) (cs:=[(vI (i:Int))]) U dp j5 U U U U (by simp [Value.cells]) U U fun AA=>?_
 refine fg (es2:=(List.map iC (sB (fun jj yy=>p (jj:Int) yy) l (i+1)))) (m':=(sB (fun jj yy=>p (jj:Int) yy) l (i+1)).length) 4 U U U ub U U sm (bk (es:=List.map iC [(i:Int)]) 0 U U (by simp [bJ]) U) (lT _) (by have:=AR (p:=fun (i:Nat) x=>p (i:Int) x) (l:=l) (n:=i); simp; omega) (by have:=AR (p:=fun (i:Nat) x=>p (i:Int) x) (l:=l) (n:=i); simp only [maxLen]; omega) (by rw [I1 hx hp]; simp) sm U fun J K=>?_
 try dsimp only
 refine bE 1 U<|aD<|aL<|KK G<|aq<|rP 2 [] I ?_
 refine aD ?_
 have H:(vI (((i+1):Nat):Int))=(vI ((i:Int)+1)):=by exact cI om
 refine a7 (C ⟨((i+1),J,K),(by first|omega|(simp only []; omega))⟩ _ _ _ U os (cw 5<|aX U H<|df.nil _) (aP [2,3,4]))
theorem Bc (ts:List ao) (tsA:OA) (tsC:Nat) (l:List cy) (lA:OA) (lC:Nat) (hst: ∀ x∈ts,bP x) (hlen:ts.length≤12) (hl:l.length≤4):
 dx Tryz.prog 116 [(vA (eg.cells (eg.mk (bZ.mk (bH.mk tsA ts.length tsC))))),(vS lA l.length lC)] [(rd tsA ts.length 9 (ts.map ao.cells)),(rd lA l.length 3 (l.map cy.cells))] (vB (decide (∀ s∈l,fh ts s))):=by
 refine bB kr Tryz.func116 U U fun J Q hQ hN=>?_
 try dsimp only
 refine WS fun _ B=>er U fun A=>bE 1 U<|RK B<|WS fun _ C=>rP 1 [] I ?_
 refine rS (FU U) ?_
 refine cX (DU l lA lC (Value.func (.func 133) [].toArray [(vP A)].toArray) (fun E D=>(!(decide (fh ts D)))) (dL [(rd tsA ts.length 9 (ts.map ao.cells)),(cm A 196 (eg.cells (eg.mk (bZ.mk (bH.mk tsA ts.length tsC)))))]) (by intro E D _; exact kG (fi:=[]) (ca:=[(vP A)]) (jJ (FD E D ts tsA tsC A (by first|assumption|omega) (by first|assumption|omega)) (bq [0,1]))) om) (gT 2 U U<|aK (jF (bq [1,0]))<|aM) U fun G F=>?_
 obtain ⟨H,AA⟩:=G
 try dsimp only
 refine rP 3 [] I ?_
 refine RK C<|ak<|Q1 hQ U U U ?_
 exact congrArg Value.bool (decide_eq_decide.2 (by rw [show ∀ n:Nat,((n:Int)=0)↔n=0 from fun n=>by omega,Fm]; simp only [Bool.not_eq_false',decide_eq_true_eq]; exact ⟨fun h s hs=>by obtain ⟨k,hk⟩:=List.getElem?_of_mem hs; exact h k s hk,fun h k s hk=>h s (List.mem_of_getElem? hk)⟩))
theorem DP (z:ag) (hz:lv z):
 dx Tryz.prog 119 [(vA (ag.cells z))] [] (vA (ag.cells (nW z))):=by
 unfold lv at hz
 refine bB kr Tryz.func119 U U fun E Q hQ hN=>?_
 try dsimp only
 refine WS fun _ A=>er U fun C=>AL U dN fun D=>RK A<|WS fun _ B=>eN 2 [] (mc 1 U I) U<|rS (NG U ⟨om,om⟩)<|rP 2 [] (mc 1 U I) ?_
 refine rS (NG U ⟨om,om⟩)<|rS (SX (a_ (xs:=[(0,.tmp 5),(1,.tmp 8)]) (cs:=(ag.cells (ag.mk (-z.Hi) (-z.Lo)))) U U (bf gM U)) U U)<|fu U cS U<|RK B<|ak ?_
 exact Cj hQ [0] (mc 0 U I) U U
theorem QW (ts:List ao) (tsA:OA) (tsC:Nat) (s:cy) (hlen:ts.length≤1000000) (hside: ∀ x∈ts,0≤x.iY∧x.iY≤255):
 dx Tryz.prog 93 [(vA (bZ.cells (bZ.mk (bH.mk tsA ts.length tsC)))),(vA (cy.cells s))] [(rd tsA ts.length 9 (ts.map ao.cells))] (vT [(vA (ag.cells (ND ts s))),(vI (Ed ts s))]):=by
 refine bB kr Tryz.func93 U U fun Z Q hQ hN=>?_
 try dsimp only
 refine WS fun _ K=>er U fun V=>er U fun W=>AL U dN fun X=>bE 1 U<|RK K<|WS fun _ L=>eN 1 [] (mc 2 U I) U<|rS (CL (EY ts tsA tsC hlen hside) (bq [3]) U)<|bE 3 U<|AL U JX fun Y=>fu U Kk U<|bE 1 U<|RK L<|aj fun _ M=>WS fun _ N=>rP 2 [] I ?_
 refine RK N<|cu U (bp fun he=>?_) (bo fun he=>?_)
 ·refine WS fun _ O=>rS (SX (a_ (xs:=[]) (cs:=(ag.cells (ag.mk 0 0))) U U (bf gM U)) U U)<|bE 1 U<|rL U cS U<|rP 1 [] I ?_
  refine RK O<|ak<|my hQ [0] (mc 1 U I) U ?_
  (have e:=JZ (s:=s) (x8 he).1; rw [e.1,e.2,(x8 he).2]<;>rfl)
 refine WK M<|aj fun _ C=>WS fun _ D=>?_
 have B:=C_ he
 have H:=jV B
 have R:=kF B
 refine rP 2 [0,1] (mc 0 U (mc 2 U I)) ?_
 refine dZ (xs:=[.tmp 20]) (cs:=(cy.cells s)) U He EW U U U U (by simp [Value.cells,cy.aY]) U U fun AB=>?_
 refine rS (CL (dx.eq (Bc ts tsA tsC ([s]) (some ⟨AB,0,none⟩) 1 asm asm (by (simp; done))) CR) (gT 5 U U<|aK (bk 0 U U (by simp [cy.aY]) U)<|aM) U) ?_
 refine rP 1 [] I ?_
 refine RK D<|cu U (bp fun A=>?_) (bo fun A=>?_)
 ·refine WS fun _ E=>rS (SX (a_ (xs:=[]) (cs:=(ag.cells (ag.mk 0 0))) U U (bf gM U)) U U)<|GX U cS U<|rP 1 [] I ?_
  refine RK E<|ak<|my hQ [0] (mc 2 U I) U ?_
  (have e:=IT B A; rw [e.1,e.2]<;>rfl)
 refine WK C<|WS fun _ F=>?_
 have AA:=A.1
 have P:=qp H A
 refine eN 3 [0,1] (mc 1 U (mc 3 U I)) U<|rS (CL (Je ts tsA tsC 0 s.bu asm asm om) (bq [5]) U)<|bE 3 U<|AL U dN fun S=>AL U dN fun T=>rL U cS U<|fu U cS U<|RK F<|WS fun _ G=>rP 2 [] (mc 1 U I) ?_
 refine rS (LP (ag.cells s.mu) 5 U cb U U U)<|dZ (xs:=[.tmp 34]) (cs:=(ag.cells s.mu)) U kS dN U U U U (by simp [Value.cells,ag.aY]) U U fun J=>?_
 refine rS (CL (dx.eq (pN (ei ts (0:Int).toNat (s.bu-0).toNat) ([s.mu]) (some ⟨J,0,none⟩) 1 (by exact qs H om) (by intro z hz; simp only [cd] at hz; subst hz; exact P) sm) nE) (aK (bk 0 rfl rfl (by simp [ag.aY]) rfl)<|aM) rfl) ?_
 refine ID U cS U<|rP 1 [] I ?_
 refine RK G<|ak<|my hQ [0] (mc 5 U I) U ?_
 (have e:=wc B A; rw [e.1,e.2]; unfold Kx; rw [show (s.bu-0).toNat=s.bu.toNat by rw [Int.sub_zero]]<;>rfl)
theorem KR (ts:List ao) (tsA:OA) (tsC:Nat) (p:cy) (q:cy) (hlen:ts.length≤1000000) (hside: ∀ x∈ts,0≤x.iY∧x.iY≤255):
 dx Tryz.prog 94 [(vA (bZ.cells (bZ.mk (bH.mk tsA ts.length tsC)))),(vA (cy.cells p)),(vA (cy.cells q))] [(rd tsA ts.length 9 (ts.map ao.cells))] (vT [(vA (ag.cells (kN ts p q))),(vI (lK ts p q))]):=by
 refine bB kr Tryz.func94 U U fun w Q hQ hN=>?_
 try dsimp only
 refine WS fun _ c=>er U fun r=>er U fun s=>er U fun t=>AL U dN fun u=>bE 1 U<|RK c<|WS fun _ d=>eN 1 [] (mc 3 U I) U<|rS (CL (EY ts tsA tsC hlen hside) (bq [4]) U)<|bE 3 U<|AL U JX fun v=>fu U Kk U<|bE 1 U<|RK d<|aj fun _ g=>WS fun _ h=>rP 2 [] I ?_
 refine RK h<|cu U (bp fun he=>?_) (bo fun he=>?_)
 ·refine WS fun _ G=>rS (SX (a_ (xs:=[]) (cs:=(ag.cells (ag.mk 0 0))) U U (bf gM U)) U U)<|bE 1 U<|rL U cS U<|rP 1 [] I ?_
  refine RK G<|ak<|my hQ [0] (mc 1 U I) U ?_
  (have e:=uk (a:=p) (b:=q) (x8 he).1; rw [e.1,e.2,(x8 he).2]<;>rfl)
 refine WK g<|aj fun _ H=>WS fun _ AB=>?_
 have A:=C_ he
 have F:=jV A
 have j:=kF A
 refine rP 3 [0,1,2] (mc 0 U (mc 3 U (mc 2 U I))) ?_
 refine dZ (xs:=[.tmp 22,.tmp 23]) (cs:=((cy.cells p)++(cy.cells q))) U He EW U U U U (by simp [Value.cells,cy.aY]) U U fun X=>?_
 refine rS (CL (dx.eq (Bc ts tsA tsC ([p,q]) (some ⟨X,0,none⟩) 2 asm asm (by (simp; done))) CD) (gT 6 U U<|aK (bk 0 U U (by simp [cy.aY]) U)<|aM) U) ?_
 refine rP 1 [] I ?_
 refine RK AB<|cu U (bp fun D=>?_) (bo fun D=>?_)
 ·refine WS fun _ J=>rS (SX (a_ (xs:=[]) (cs:=(ag.cells (ag.mk 0 0))) U U (bf gM U)) U U)<|GX U cS U<|rP 1 [] I ?_
  refine RK J<|ak<|my hQ [0] (mc 2 U I) U ?_
  (have e:=oO A D; rw [e.1,e.2]<;>rfl)
 refine WK H<|WS fun _ K=>?_
 obtain ⟨hp,hq⟩:=D
 have n:=hp.1
 have o:=hq.1
 have i:=qp F hp
 have W:=qp F hq
 have V:=zV i
 have B:=qs F (f:=(min p.bu q.bu).toNat) (k:=(max p.bu q.bu-min p.bu q.bu).toNat) om
 refine eN 5 [0,1,2] (mc 1 U (mc 4 U (mc 3 U I))) U<|rS (MN U)<|eN 4 [0,1] (mc 4 U (mc 3 U I)) U<|rS (MX U)<|rS (CL (Je ts tsA tsC (min p.bu q.bu) (max p.bu q.bu) asm asm om) (bq [6]) U)<|bE 3 U<|AL U dN fun l=>AL U dN fun m=>rL U cS U<|fu U cS U<|RK K<|aj fun _ C=>WS fun _ L=>rP 5 [0,1] (mc 5 U (mc 6 U I)) ?_
 refine RK L<|bQ U (aT fun E=>?_) (aU fun E=>?_)
 ·refine WK C<|aj fun _ N=>dH cp [6,7,8] [] [] [0,1,2,3,5,6,7,8] [] U U U U U<|eS U (LW 1 U cb U U)<|eS U (FA 1 U fE U)<|eS U (LP (ag.cells q.mu) 4 U cb U U U)<|eS U (FA 1 U fE U)<|eS U (LP (ag.cells p.mu) 5 U cb U U U)<|eS U (CL (DP p.mu asm) (aM) U)<|eS U (AG U)<|ep U<|cj U fun T26 S=>dZ (xs:=[.tmp 52,.tmp 55]) (cs:=((ag.cells q.mu)++(ag.cells (nW p.mu)))) U kS dN U U U U (by simp [Value.cells,ag.aY]) U U fun Z=>aD (S _ _ (aP [1,2,3,4,6,7,8,9]) ?_)
  refine cj U fun T28 T=>?_
  refine rS (CL (dx.eq (pN (ei ts (min p.bu q.bu).toNat ((max p.bu q.bu)-(min p.bu q.bu)).toNat) ([q.mu,(nW p.mu)]) (some ⟨Z,0,none⟩) 2 (by first|exact B|exact zV B) (by intro z hz; simp only [bO,List.not_mem_nil,or_false] at hz; rcases hz with rfl|rfl; exact W; exact V) sm) AI) (aK (bk 0 rfl rfl (by simp [ag.aY]) rfl)<|aM) rfl) ?_
  refine aD (T _ _ (aP [1,2,3,4,6,7,8,9]) ?_)
  refine cj U fun T29 AA=>ID U cS U<|aD (AA _ _ (aP [1,2,3,4,6,7,8,9]) ?_)
  refine fH U<|KK N<|ak<|my hQ [0] (mc 5 U I) U ?_
  (have e:=lp A ⟨hp,hq⟩; rw [e.1,e.2]; unfold jQ xQ; rw [if_neg E]<;>rfl)
 refine aq<|rP 1 [] (mc 1 U I) ?_
 refine rS (CL (DP (ei ts (min p.bu q.bu).toNat ((max p.bu q.bu)-(min p.bu q.bu)).toNat) asm) (aM) U)<|rL U cS U<|RK C<|aj fun _ M=>dH cp [6,7,8] [] [] [0,1,2,3,5,6,7,8] [] U U U U U<|eS U (LW 1 U cb U U)<|eS U (FA 1 U fE U)<|eS U (LP (ag.cells q.mu) 4 U cb U U U)<|eS U (FA 1 U fE U)<|eS U (LP (ag.cells p.mu) 5 U cb U U U)<|eS U (CL (DP p.mu asm) (aM) U)<|eS U (AG U)<|ep U<|cj U fun T21 O=>dZ (xs:=[.tmp 52,.tmp 55]) (cs:=((ag.cells q.mu)++(ag.cells (nW p.mu)))) U kS dN U U U U (by simp [Value.cells,ag.aY]) U U fun Y=>aD (O _ _ (aP [1,2,3,4,6,7,8,9]) ?_)
 refine cj U fun T23 P=>?_
 refine rS (CL (dx.eq (pN (nW (ei ts (min p.bu q.bu).toNat ((max p.bu q.bu)-(min p.bu q.bu)).toNat)) ([q.mu,(nW p.mu)]) (some ⟨Y,0,none⟩) 2 (by first|exact B|exact zV B) (by intro z hz; simp only [bO,List.not_mem_nil,or_false] at hz; rcases hz with rfl|rfl; exact W; exact V) sm) AI) (aK (bk 0 rfl rfl (by simp [ag.aY]) rfl)<|aM) rfl) ?_
 refine aD (P _ _ (aP [1,2,3,4,6,7,8,9]) ?_)
 refine cj U fun T24 R=>ID U cS U<|aD (R _ _ (aP [1,2,3,4,6,7,8,9]) ?_)
 refine fH U<|KK M<|ak<|my hQ [0] (mc 5 U I) U ?_
 (have e:=lp A ⟨hp,hq⟩; rw [e.1,e.2]; unfold jQ xQ; rw [if_pos E]<;>rfl)
theorem ry (ts:List ao) (tsA:OA) (tsC:Nat) (s:cy) (hst: ∀ x∈ts,bP x) (hlen:ts.length≤12):
 dx Tryz.prog 139 [(vA (bZ.cells (bZ.mk (bH.mk tsA ts.length tsC)))),(vA (cy.cells s))] [(rd tsA ts.length 9 (ts.map ao.cells))] (vB (decide (fh ts s))):=by
 refine bB kr Tryz.func139 U U fun H Q hQ hN=>?_
 try dsimp only
 refine WS fun _ C=>er U fun F=>er U fun G=>bE 1 U<|RK C<|aj fun _ A=>dg cp 22 kr<|lu 6 [0,1] (mc 0 U (mc 1 U I)) U<|dS (CL (o3 s.bu 0 ((ts.length:Int)-1)) (aM) U)<|dP 1 [] I ?_
 refine js (t:=12) U (aT fun B=>?_) (aU fun B=>?_)
 ·refine kI 8 U<|dP 6 [] I ?_
  refine cE<|RK A<|ak<|Q1 hQ U U U ?_
  (refine cB ?_; rw [bD (BY om)])
 refine kI 1 U<|dS (LP (ag.cells s.mu) 0 U cb U U U)<|dP 4 [0,1] (mc 1 U (mc 0 U I)) ?_
 obtain ⟨x,hx⟩:=aJ ts ((s.bu).toNat) om
 have D:=bK ao.cells hx
 refine dS (IA ((s.bu).toNat) U (aA 2 U) zJ dc om om)<|dS (qc ((((s.bu).toNat)*9)+1) U (aA 2 U) (Nat.mul_pos om dc) fE U) ?_
 have E:=(hst x (aR hx)).2.1
 simp only [dQ] at E
 refine dS (qc ((((s.bu).toNat)*9)+1) U (aA 2 U) (Nat.mul_pos om dc) fE U)<|dS (hG ((s.bu).toNat) 1 (vI x.ko.Lo) U cb (aA 2 U) D U dc U)<|kI 1 U<|dS (CL (pM s.mu 0 (x.ko.Lo-1)) (aM) U)<|dP 2 [] I ?_
 refine cE<|RK A<|ak<|Q1 hQ U U U ?_
 exact cB (gv.2 (Ah om hx).symm)
theorem zT (ts:List ao) (tsA:OA) (tsC:Nat) (f t:Int) (hst: ∀ x∈ts,bP x) (hlen:ts.length≤12) (hf:0≤f∧f≤t∧t≤ts.length):
 dx Tryz.prog 161 [(vA (bZ.cells (bZ.mk (bH.mk tsA ts.length tsC)))),(vI f),(vI t)] [(rd tsA ts.length 9 (ts.map ao.cells))] (vT [(vA (ag.cells (ei ts f.toNat (t-f).toNat))),(vA (ag.cells (gp ts f.toNat (t-f).toNat)))]):=by
 refine bB kr Tryz.func161 U U fun i Q hQ hN=>?_
 try dsimp only
 refine WS fun _ R=>er U fun e=>AL U dN fun g=>AL U dN fun h=>RK R<|WS fun _ S=>AL U dN fun a=>AL U dN fun b=>RK S<|aj fun _ T=>WS fun _ AA=>rP 2 [] I ?_
 refine RK AA<|aB ?_
 have A:(0≤(t-f).toNat):=by exact Nat.zero_le _
 have K:(vI (f+(0:Int)))=(vI f):=by exact cI om
 refine bT (ι:={z:Nat // (z≤(t-f).toNat)}) [1,2,3,6,7,8,9] [2,3,4,5] U U (fun z=>[(10,(vI (f+(z.1:Int))))]) (fun z=>[(cm b 53 (ag.cells (gp ts f.toNat z.1))),(cm a 53 (ag.cells (ei ts f.toNat z.1)))]) (fun _=>rfl) (fun _=>rfl) (fun z=>(t-f).toNat-z.1) ⟨0,A⟩ (aX U K<|df.nil _) (aP [2,3,4,5,0,1]) ?_
 clear A
 rintro ⟨k,V⟩ J11 B
 try dsimp only
 refine aj fun _ C=>WS fun _ D=>rP 3 [] I ?_
 refine RK D<|bQ U (aT fun P=>?_) (aU fun P=>?_)
 ·refine bL<|ai<|ai<|aG<|KK T<|aj fun _ H=>dH cp [2,3] [] [] [2,3,4,5] [] U U U U U<|eS U (LW 3 U cb U U)<|eS U (LW 2 U cb U U)<|ep U<|cj U fun T23 AB=>rL U cS U<|aD (AB _ _ (aP [2,3,4,5]) ?_)
  refine cj U fun T24 J=>fu U cS U<|aD (J _ _ (aP [2,3,4,5]) ?_)
  refine fH U<|KK H<|ak<|my hQ [0,1] (mc 1 U (mc 0 U I)) U ?_
  obtain rfl:k=(t-f).toNat:=om; rfl
 refine WK C<|aj fun _ E=>aB<|WS fun _ F=>rP 3 [] (mc 2 U I) ?_
 obtain ⟨x,hx⟩:=aJ ts (f.toNat+k) om
 have Y:=bK ao.cells hx
 refine rS (IA (f.toNat+k) U (aA 3 U) zJ dc om om)<|rS (lh (f.toNat+k) 0 (ao.cells x) U cb (aA 3 U) Y U dc U U)<|AL U Ek fun Z=>fu U Il U<|RK F<|WS fun _ G=>?_
 have O:=hst x (aR hx)
 have d:=l4 hst f.toNat k
 have c:=D7 hst f.toNat k
 have W:=O.2.1
 have X:=O.2.2.1
 simp only [dQ] at W X
 refine eN 12 [0,1,0,1] (mc 6 U (mc 0 U I)) U<|rS (SX (a_ (xs:=[(0,.tmp 28),(1,.tmp 34)]) (cs:=(ag.cells (ag.mk (((ei ts f.toNat k).Lo)+x.ko.Lo) (((ei ts f.toNat k).Hi)+x.ko.Hi)))) U U (bf gM U)) U U)<|Sr U cS U<|RK G<|aq<|rP 12 [0,1,0,1] (mc 5 U (mc 0 U I)) ?_
 refine rS (SX (a_ (xs:=[(0,.tmp 41),(1,.tmp 47)]) (cs:=(ag.cells (ag.mk (((gp ts f.toNat k).Lo)+x.lS.Lo) (((gp ts f.toNat k).Hi)+x.lS.Hi)))) U U (bf gM U)) U U)<|ID U cS U<|aD<|aL<|KK E ?_
 have L:(ag.cells (ag.mk (((ei ts f.toNat k).Lo)+x.ko.Lo) (((ei ts f.toNat k).Hi)+x.ko.Hi)))=(ag.cells (ei ts f.toNat (k+1))):=by rw [pQ hx]; rfl
 rw [L]
 have M:(ag.cells (ag.mk (((gp ts f.toNat k).Lo)+x.lS.Lo) (((gp ts f.toNat k).Hi)+x.lS.Hi)))=(ag.cells (gp ts f.toNat (k+1))):=by rw [pH hx]; rfl
 rw [M]
 refine aq<|rP 3 [] I ?_
 refine aD ?_
 have N:(vI (f+(((k+1):Nat):Int)))=(vI ((f+(k:Int))+1)):=by exact cI om
 refine a7 (B ⟨(k+1),(by first|omega|(simp only []; omega))⟩ _ _ _ U os (cw 7<|aX U N<|df.nil _) (aP [1,2,3,4,5,6]))
end
section
open Go.RowKit
theorem OP (l:bg) (kA:OA) (kC:Nat) (az:List RA) (cA:OA) (cC:Nat) (bA:OA) (bC:Nat) (hin:eo l az):
 dx Tryz.prog 106 [(vA (cV.cells (jN l kA kC cA cC bA bC)))] [(rd kA l.aV.length 9 (l.aV.map ao.cells)),(rd cA l.ar.length 2 (List.zipWith ay.cells l.ar az)),(dL (br ay.gn l.ar az)),(rd bA l.ab.length 4 (l.ab.map bI.cells))] (vB (decide (eL l))):=by
 have R:=hin.sH
 have P:=hin.sI
 have N:=hin.ot
 have O:=hin.sL
 refine bB kr Tryz.func106 U U fun T Q hQ hN=>?_
 try dsimp only
 refine WS fun _ G=>er U fun S=>bE 1 U<|RK G<|WS fun _ A=>rP 2 [] (mc 0 U I) ?_
 refine dZ (xs:=[.tmp 4]) (cs:=[(vI l.ku)]) U dp j5 U U U U (by simp [Value.cells]) U U fun H=>?_
 refine rS (CL (dx.eq (g_ 1 5000 ([l.ku]) (some ⟨H,0,none⟩) 1 (by (simp; done))) cv) (aK (bk 0 U U (by simp [bJ]) U)<|aM) U) ?_
 refine rP 1 [] I ?_
 refine ck (t:=7) U (aT fun K=>?_) (aU fun K=>?_)
 ·refine rP 36 [] I ?_
  refine RK A<|ak<|Q1 hQ U U U ?_
  exact cB (bD (by unfold eL; omega)).symm
 refine rP 3 [] (mc 1 U I) ?_
 refine dZ (xs:=[.tmp 10]) (cs:=[(vI (l.ar.length:Int))]) U dp j5 U U U U (by simp [Value.cells]) U U fun AA=>?_
 refine rS (CL (dx.eq (g_ 1 4 ([(l.ar.length:Int)]) (some ⟨AA,0,none⟩) 1 (by (simp; done))) cv) (aK (bk 0 U U (by simp [bJ]) U)<|aM) U) ?_
 refine rP 2 [] I ?_
 refine ck (t:=14) U (aT fun L=>?_) (aU fun L=>?_)
 ·refine rP 29 [] I ?_
  refine RK A<|ak<|Q1 hQ U U U ?_
  exact cB (bD (by unfold eL; omega)).symm
 refine rP 3 [] (mc 2 U I) ?_
 refine dZ (xs:=[.tmp 17]) (cs:=[(vI (l.ab.length:Int))]) U dp j5 U U U U (by simp [Value.cells]) U U fun J=>?_
 refine rS (CL (dx.eq (g_ 1 6 ([(l.ab.length:Int)]) (some ⟨J,0,none⟩) 1 (by (simp; done))) cv) (aK (bk 0 U U (by simp [bJ]) U)<|aM) U) ?_
 refine rP 2 [] I ?_
 refine ck (t:=21) U (aT fun M=>?_) (aU fun M=>?_)
 ·refine rP 22 [] I ?_
  refine RK A<|ak<|Q1 hQ U U U ?_
  exact cB (bD (by unfold eL; omega)).symm
 refine rP 6 [] (mc 3 U I) ?_
 refine dZ (xs:=[.tmp 27]) (cs:=[(vI l.cD)]) U dp j5 U U U U (by simp [Value.cells]) U U fun B=>?_
 refine rS (CL (dx.eq (g_ 0 ((l.ab.length:Int)-1) ([l.cD]) (some ⟨B,0,none⟩) 1 (by (simp; done))) cv) (aK (bk 0 U U (by simp [bJ]) U)<|aM) U) ?_
 refine rP 2 [] I ?_
 refine ck (t:=31) U (aT fun E=>?_) (aU fun E=>?_)
 ·refine rP 12 [] I ?_
  refine RK A<|ak<|Q1 hQ U U U ?_
  exact cB (bD (by unfold eL; omega)).symm
 refine rP 2 [] (mc 4 U I) ?_
 refine dZ (xs:=[.tmp 33]) (cs:=[(vI l.iI)]) U dp j5 U U U U (by simp [Value.cells]) U U fun C=>?_
 refine rS (CL (dx.eq (g_ 0 3 ([l.iI]) (some ⟨C,0,none⟩) 1 (by (simp; done))) cv) (aK (bk 0 U U (by simp [bJ]) U)<|aM) U) ?_
 refine rP 2 [] I ?_
 refine ck (t:=37) U (aT fun F=>?_) (aU fun F=>?_)
 ·refine rP 6 [] I ?_
  refine RK A<|ak<|Q1 hQ U U U ?_
  exact cB (bD (by unfold eL; omega)).symm
 refine rP 2 [] (mc 5 U I) ?_
 refine dZ (xs:=[.tmp 39]) (cs:=[(vI l.eP)]) U dp j5 U U U U (by simp [Value.cells]) U U fun D=>?_
 refine rS (CL (dx.eq (g_ 0 3 ([l.eP]) (some ⟨D,0,none⟩) 1 (by (simp; done))) cv) (aK (bk 0 U U (by simp [bJ]) U)<|aM) U) ?_
 refine rP 2 [] I ?_
 refine RK A<|ak<|Q1 hQ U U U ?_
 exact cB (gv.2 (by unfold eL; omega))
theorem Oy (l:bg) (kA:OA) (kC:Nat) (az:List RA) (cA:OA) (cC:Nat) (bA:OA) (bC:Nat) (hin:eo l az):
 dx Tryz.prog 107 [(vA (cV.cells (jN l kA kC cA cC bA bC)))] [(rd kA l.aV.length 9 (l.aV.map ao.cells)),(rd cA l.ar.length 2 (List.zipWith ay.cells l.ar az)),(dL (br ay.gn l.ar az)),(rd bA l.ab.length 4 (l.ab.map bI.cells))] (vB (decide (∀ c∈l.ar,eM c))):=by
 have H:=hin.sH
 have G:=hin.sI
 have E:=hin.ot
 have F:=hin.sL
 refine bB kr Tryz.func107 U U fun K Q hQ hN=>?_
 try dsimp only
 refine WS fun _ C=>er U fun J=>bE 1 U<|RK C<|WS fun _ D=>rP 2 [] (mc 0 U I) ?_
 refine rS (CL (zo l.ar az cA cC (Value.func (.func 109) [].toArray [].toArray) (fun m=>(!(decide (eM m)))) (dL (br ay.gn l.ar az)) (by intro AA m a B A; exact kG (fi:=[]) (ca:=[]) (PT l.ar az AA m a (by exact B) (by exact A) (by exact hin.Sw _ _ _ B A))) asm asm) (NJ 2 3 3 U U U U U U) U) ?_
 refine rP 2 [] I ?_
 refine RK D<|ak<|Q1 hQ U U U ?_
 exact cB (by rw [Bool.eq_iff_iff,decide_eq_true_eq]; exact DN)
theorem OK (b:bI) (l:bg) (kA:OA) (kC:Nat) (az:List RA) (cA:OA) (cC:Nat) (bA:OA) (bC g1:Nat) (hin:eo l az) (htr:c8 l.aV=true):
 dx Tryz.prog 113 [(vA (bI.cells b)),(vP g1)] [(rd kA l.aV.length 9 (l.aV.map ao.cells)),(rd cA l.ar.length 2 (List.zipWith ay.cells l.ar az)),(dL (br ay.gn l.ar az)),(rd bA l.ab.length 4 (l.ab.map bI.cells)),(cm g1 28 (cV.cells (jN l kA kC cA cC bA bC)))] (vB (!(decide (jR l b)))):=by
 have J:=hin.sH
 have H:=hin.sI
 have F:=hin.ot
 have G:=hin.sL
 have AA:=hin.side
 refine bB kr Tryz.func113 U U fun M Q hQ hN=>?_
 try dsimp only
 refine WS fun _ C=>er U fun K=>bE 1 U<|RK C<|WS fun _ D=>bE 1 U<|rS (UI (bZ.cells (bZ.mk (bH.mk kA l.aV.length kC))) 5 U cb U U U)<|bE 1 U<|rS (LP (cy.cells b.mx) 0 U cb U U U)<|rS (CL (QW l.aV kA kC b.mx asm asm) (bq [1]) U)<|bE 3 U<|AL U dN fun L=>fu U cS U<|bE 1 U<|RK D<|WS fun _ B=>rP 3 [] I ?_
 refine bU (t:=16) U (bp fun A=>?_) (bo fun A=>?_)
 ·refine rP 11 [] I ?_
  refine RK B<|ak<|Q1 hQ U U U ?_
  (refine cB ?_; rw [bD (fun h:jR l b=>A ((EG htr).2 h.1))]; rfl)
 refine rP 6 [0,1] (mr 6 U (mc 1 U I)) ?_
 refine dZ (xs:=[.tmp 22]) (cs:=[(vI b.jX)]) U dp j5 U U U U (by simp [Value.cells]) U U fun E=>?_
 refine rS (CL (dx.eq (g_ 0 ((l.ar.length:Int)-1) ([b.jX]) (some ⟨E,0,none⟩) 1 (by (simp; done))) cv) (aK (bk 0 U U (by simp [bJ]) U)<|aM) U) ?_
 refine rP 3 [] I ?_
 refine RK B<|ak<|Q1 hQ U U U ?_
 (refine cB ?_; refine congrArg Bool.not (gv.2 ⟨fun h=>⟨(EG htr).1 A,om,om⟩,fun h=>by have:=h.2; omega⟩))
theorem NF (l:bg) (kA:OA) (kC:Nat) (az:List RA) (cA:OA) (cC:Nat) (bA:OA) (bC:Nat) (hin:eo l az) (htr:c8 l.aV=true):
 dx Tryz.prog 111 [(vA (cV.cells (jN l kA kC cA cC bA bC)))] [(rd kA l.aV.length 9 (l.aV.map ao.cells)),(rd cA l.ar.length 2 (List.zipWith ay.cells l.ar az)),(dL (br ay.gn l.ar az)),(rd bA l.ab.length 4 (l.ab.map bI.cells))] (vB (decide (∀ b∈l.ab,jR l b))):=by
 have H:=hin.sH
 have G:=hin.sI
 have E:=hin.ot
 have F:=hin.sL
 refine bB kr Tryz.func111 U U fun AA Q hQ hN=>?_
 try dsimp only
 refine WS fun _ B=>er U fun A=>bE 1 U<|RK B<|WS fun _ C=>rP 2 [] (mc 0 U I) ?_
 refine rS (FU U) ?_
 refine rS (CL (zK l.ab bA bC (Value.func (.func 113) [].toArray [(vP A)].toArray) (fun D=>(!(decide (jR l D)))) (dL [(rd kA l.aV.length 9 (l.aV.map ao.cells)),(rd cA l.ar.length 2 (List.zipWith ay.cells l.ar az)),(dL (br ay.gn l.ar az)),(rd bA l.ab.length 4 (l.ab.map bI.cells)),(cm A 28 (cV.cells (jN l kA kC cA cC bA bC)))]) (by intro D _; exact kG (fi:=[]) (ca:=[(vP A)]) (jJ (OK D l kA kC az cA cC bA bC A (by first|assumption|omega) (by first|assumption|omega)) (bq [0,1,2,3,4]))) asm) (gT 4 U U<|aK (jF (bq [1,2,3,4,0]))<|aM) U) ?_
 refine rP 2 [] I ?_
 refine RK C<|ak<|Q1 hQ U U U ?_
 exact cB (by rw [Bool.eq_iff_iff,decide_eq_true_eq]; exact Gu)
theorem IZ (l:bg) (kA:OA) (kC:Nat) (az:List RA) (cA:OA) (cC:Nat) (bA:OA) (bC:Nat) (n:Int) (hin:eo l az) (htr:c8 l.aV=true) (hbk: ∀ b∈l.ab,jR l b) (hn:0≤n∧n<(l.ab.length:Int)):
 dx Tryz.prog 66 [(vA (cV.cells (jN l kA kC cA cC bA bC))),(vI n)] [(rd kA l.aV.length 9 (l.aV.map ao.cells)),(rd cA l.ar.length 2 (List.zipWith ay.cells l.ar az)),(dL (br ay.gn l.ar az)),(rd bA l.ab.length 4 (l.ab.map bI.cells))] (vI (kY l n.toNat)):=by
 have P:=hin.sH
 have N:=hin.sI
 have L:=hin.ot
 have M:=hin.sL
 have O:=hin.side
 refine bB kr Tryz.func66 U U fun AA Q hQ hN=>?_
 try dsimp only
 refine WS fun _ E=>er U fun R=>bE 1 U<|RK E<|WS fun _ F=>rP 3 [] (mc 0 U I) ?_
 obtain ⟨x,hx⟩:=aJ l.ab ((n).toNat) om
 have J:=bK bI.cells hx
 refine rS (IA ((n).toNat) U (aA 4 U) xH dc om om)<|rS (qc (((n).toNat)*4) U (aA 4 U) (Nat.mul_pos om dc) fE U)<|rS (lh ((n).toNat) 0 (cy.cells x.mx) U cb (aA 4 U) J U dc U U)<|AL U EW fun S=>fu U Nf U<|RK F<|WS fun _ G=>bE 1 U<|rS (LP (bZ.cells (bZ.mk (bH.mk kA l.aV.length kC))) 1 U cb U U U)<|eN 1 [] (mc 0 U I) U<|rS (CL (QW l.aV kA kC x.mx asm asm) (bq [2]) U)<|bE 3 U<|AL U dN fun T=>fu U cS U<|bE 1 U<|RK G<|aj fun _ C=>WS fun _ H=>rP 2 [] I ?_
 refine RK H<|bQ U (aT fun D=>?_) (aU fun D=>?_)
 ·refine WK C<|WS fun _ B=>rP 3 [] (mc 0 U I) ?_
  refine RK B<|ak<|Q1 hQ U U U ?_
  (refine congrArg (Value.int .i64) ?_; rw [show n.toNat=0 by omega] at hx ⊢; rw [yi hx,(wc htr (hbk _ (List.mem_of_getElem? hx)).1).2])
 refine dH cp [14] [] [] [1,2,3,4,5,6] [] U U U U U<|eS U (FA 0 U fE U)<|eS U (LP (bZ.cells (bZ.mk (bH.mk kA l.aV.length kC))) 1 U cb U U U)<|eS U (FA 3 U fE U)<|eS U (L1 (vS bA l.ab.length bC) 1 U cb U U)<|eS U (MV U)<|eS U (BI U (wg ⟨om,om⟩)) ?_
 obtain ⟨y,hy⟩:=aJ l.ab (((n-1)).toNat) om
 have K:=bK bI.cells hy
 refine eS U (IA (((n-1)).toNat) U (aA 5 U) xH dc om om)<|eS U (qc ((((n-1)).toNat)*4) U (aA 5 U) (Nat.mul_pos om dc) fE U)<|eS U (lh (((n-1)).toNat) 0 (cy.cells y.mx) U cb (aA 5 U) K U dc U U)<|eS U (LW 0 U cb U U)<|eS U (CL (KR l.aV kA kC y.mx x.mx asm asm) (bq [2]) U)<|eS U (MV U)<|eS U (EX U)<|eS U (EX U)<|ep U<|cj U fun T9 AB=>fu U cS U<|aD (AB _ _ (aP [1,2,3,4,5,6]) ?_)
 refine fH U<|KK C<|WS fun _ A=>rP 3 [] (mc 0 U I) ?_
 refine RK A<|ak<|Q1 hQ U U U ?_
 (refine congrArg (Value.int .i64) ?_; rw [BC om hx (by rw [show n.toNat-1=(n-1).toNat by omega]; exact hy),(lp htr ⟨(hbk _ (List.mem_of_getElem? hy)).1,(hbk _ (List.mem_of_getElem? hx)).1⟩).2])
theorem O6 (l:bg) (kA:OA) (kC:Nat) (az:List RA) (cA:OA) (cC:Nat) (bA:OA) (bC:Nat) (hin:eo l az) (htr:c8 l.aV=true) (hbk: ∀ b∈l.ab,jR l b):
 dx Tryz.prog 114 [(vA (cV.cells (jN l kA kC cA cC bA bC)))] [(rd kA l.aV.length 9 (l.aV.map ao.cells)),(rd cA l.ar.length 2 (List.zipWith ay.cells l.ar az)),(dL (br ay.gn l.ar az)),(rd bA l.ab.length 4 (l.ab.map bI.cells))] (vB (decide (∀ i,i<l.ab.length→1≤kY l i))):=by
 have V:=hin.sH
 have AA:=hin.sI
 have S:=hin.ot
 have T:=hin.sL
 refine bB kr Tryz.func114 U U fun X Q hQ hN=>?_
 try dsimp only
 refine WS fun _ J=>er U fun W=>bE 1 U<|RK J<|aj fun _ K=>WS fun _ L=>rP 4 [] (mc 0 U I) ?_
 refine RK L<|aB ?_
 have A:(0≤l.ab.length)∧(∀ j,j<0→1≤kY l j):=by exact ⟨Nat.zero_le _,fun j hj=>absurd hj (Nat.not_lt_zero _)⟩
 refine bT (ι:={z:Nat // (z≤l.ab.length)∧(∀ j,j<z→1≤kY l j)}) [1,6] [0,1,2,3,4] U U (fun z=>[(7,(vI (z.1:Int)))]) (fun z=>[]) (fun _=>rfl) (fun _=>rfl) (fun z=>l.ab.length-z.1) ⟨0,A⟩ (bx U) (aP [0,1,2,3,4]) ?_
 clear A
 rintro ⟨i,⟨P,B⟩⟩ J5 AB
 try dsimp only
 refine WS fun _ M=>rP 1 [] I ?_
 refine RK M<|aj fun _ N=>bQ U (aT fun R=>?_) (aU fun R=>?_)
 ·refine bL<|ai<|ai<|aG<|KK K<|WS fun _ G=>rP 1 [] I ?_
  refine RK G<|ak<|Q1 hQ U U U ?_
  exact cB (dq (fun j hj=>B j om)).symm
 refine WK N<|aj fun _ O=>aB<|WS fun _ D=>bE 2 U<|RK D<|WS fun _ E=>eN 2 [] (mc 0 U I) U<|rS (CL (IZ l kA kC az cA cC bA bC (i:Int) hin htr hbk om) (bq [1,2,3,4]) U)<|rP 1 [] I ?_
 refine RK E<|cu U (aU fun C=>?_) (aT fun C=>?_)
 ·refine WS fun _ F=>rP 1 [] I ?_
  refine RK F<|ak<|Q1 hQ U U U ?_
  exact cB (bD (fun h=>by have:=h i om; simp only [Int.toNat_natCast] at C; omega)).symm
 refine cf<|aL<|KK O<|aq<|rP 2 [] I ?_
 refine aD ?_
 have H:(vI (((i+1):Nat):Int))=(vI ((i:Int)+1)):=by exact cI om
 refine a7 (AB ⟨(i+1),⟨om,fun j hj=>by rcases Nat.lt_or_ge j i with q|q; exact B j q; (obtain rfl:j=i:=by omega); simp only [Int.toNat_natCast] at C; omega⟩⟩ _ _ _ rfl os (df.cons rfl<|df.cons rfl<|aX rfl H<|df.nil _) (aP [0,1,2,3,4]))
end
section
open Go.RowKit
theorem Oq:
 dx Tryz.prog 92 [] [] (vA ((gS.cells (gS.mk (Value.func (.func 106) [].toArray [].toArray)))++(gS.cells (gS.mk (Value.func (.func 107) [].toArray [].toArray)))++(gS.cells (gS.mk (Value.func (.func 111) [].toArray [].toArray)))++(gS.cells (gS.mk (Value.func (.func 114) [].toArray [].toArray))))):=by
 refine bB kr Tryz.func92 U U fun D Q hQ hN=>?_
 try dsimp only
 refine WS fun _ A=>AL U Rc fun C=>RK A<|WS fun _ B=>rS (SX (a_ (xs:=[(0,.func 106)]) (cs:=(gS.cells (gS.mk (Value.func (.func 106) [].toArray [].toArray)))) U U (bf D0 U)) U U)<|rS (SX (a_ (xs:=[(0,.func 107)]) (cs:=(gS.cells (gS.mk (Value.func (.func 107) [].toArray [].toArray)))) U U (bf D0 U)) U U)<|rS (SX (a_ (xs:=[(0,.func 111)]) (cs:=(gS.cells (gS.mk (Value.func (.func 111) [].toArray [].toArray)))) U U (bf D0 U)) U U)<|rS (SX (a_ (xs:=[(0,.func 114)]) (cs:=(gS.cells (gS.mk (Value.func (.func 114) [].toArray [].toArray)))) U U (bf D0 U)) U U)<|rS (SX (a_ (xs:=[(0,.tmp 1),(1,.tmp 2),(2,.tmp 3),(3,.tmp 4)]) (cs:=((gS.cells (gS.mk (Value.func (.func 106) [].toArray [].toArray)))++(gS.cells (gS.mk (Value.func (.func 107) [].toArray [].toArray)))++(gS.cells (gS.mk (Value.func (.func 111) [].toArray [].toArray)))++(gS.cells (gS.mk (Value.func (.func 114) [].toArray [].toArray))))) U U (bf QD U)) U U)<|fu U Rx U<|RK B<|ak ?_
 exact Cj hQ [0] (mc 0 U I) U U
theorem wU (l:bg) (kA:OA) (kC:Nat) (az:List RA) (cA:OA) (cC:Nat) (bA:OA) (bC:Nat) (hin:eo l az):
 dx Tryz.prog 64 [(vA (cV.cells (jN l kA kC cA cC bA bC)))] [(rd kA l.aV.length 9 (l.aV.map ao.cells)),(rd cA l.ar.length 2 (List.zipWith ay.cells l.ar az)),(dL (br ay.gn l.ar az)),(rd bA l.ab.length 4 (l.ab.map bI.cells))] (vI (dw l)):=by
 have A3:=hin.sH
 have A1:=hin.sI
 have AO:=hin.ot
 have A0:=hin.sL
 have A2:=hin.side
 refine bB kr Tryz.func64 U U fun w0 Q hQ hN=>?_
 try dsimp only
 refine WS fun _ m=>er U fun b2=>bE 1 U<|RK m<|aj fun _ n=>WS fun _ o=>bE 1 U<|rS (LP (bZ.cells (bZ.mk (bH.mk kA l.aV.length kC))) 0 U cb U U U)<|rS (CL (Bx l.aV kA kC asm asm) (bq [1]) U)<|bE 1 U<|RK o<|WS fun _ p=>rP 2 [] I ?_
 refine RK p<|cu U (bp fun B=>?_) (bo fun B=>?_)
 ·refine WS fun _ q=>rP 2 [] I ?_
  refine RK q<|ak<|Q1 hQ U U U ?_
  (refine cI ?_; rw [(x8 B).2,x9 (x8 B).1])
 refine WK n<|aj fun _ s=>WS fun _ t=>?_
 have A:=C_ B
 refine rS (CL Oq (aM) U)<|bE 1 U<|RK t<|aB<|qo 5<|kz fun R9 u=>WS fun _ C=>rS (SX (fV (r:= .bool true) U U U p7) U U)<|RK C<|aj fun _ D=>aQ U<|WK D<|aj fun _ E=>aB<|WS fun _ F=>rS (SX (tT (vs:=(gS.cells (gS.mk (Value.func (.func 106) [].toArray [].toArray)))) 0 U U U ED cb U dc U) U U)<|AL U EI fun x=>fu U EN U<|RK F<|WS fun _ G=>eN 3 [0,1] (mc 0 U (mc 1 U I)) U<|rS (CL (OP l kA kC az cA cC bA bC hin) (bq [2,3,4,5]) U)<|rP 1 [] I ?_
 refine RK G<|cu U (bp fun g=>?_) (bo fun g=>?_)
 ·refine WS fun _ H=>rP 1 [] I ?_
  refine RK H<|ak<|Q1 hQ U U U ?_
  exact cI (qk A fun h=>absurd h.head asm).symm
 refine cf<|aL<|KK E<|aq<|rS (SX (fV (r:= .int .i64 1) U U U (n9 ⟨dc,dc⟩)) U U)<|bE 1 U<|RK u<|kz fun R18 d=>WS fun _ AB=>rS (SX (fV (r:= .bool true) U U U p7) U U)<|RK AB<|aj fun _ J=>aQ U<|WK J<|aj fun _ K=>aB<|WS fun _ L=>rS (SX (tT (vs:=(gS.cells (gS.mk (Value.func (.func 107) [].toArray [].toArray)))) 1 U U U ED cb U dc U) U U)<|AL U EI fun y=>fu U EN U<|RK L<|WS fun _ M=>eN 3 [0,1] (mc 0 U (mc 2 U I)) U<|rS (CL (Oy l kA kC az cA cC bA bC hin) (bq [3,4,5,6]) U)<|rP 1 [] I ?_
 refine RK M<|cu U (bp fun i=>?_) (bo fun i=>?_)
 ·refine WS fun _ N=>rP 1 [] I ?_
  refine RK N<|ak<|Q1 hQ U U U ?_
  exact cI (qk A fun h=>absurd h.clock asm).symm
 refine cf<|aL<|KK K<|aq<|rS (SX (fV (r:= .int .i64 2) U U U (n9 ⟨dc,dc⟩)) U U)<|bE 1 U<|RK d<|kz fun R27 e=>WS fun _ O=>rS (SX (fV (r:= .bool true) U U U p7) U U)<|RK O<|aj fun _ P=>aQ U<|WK P<|aj fun _ R=>aB<|WS fun _ S=>rS (SX (tT (vs:=(gS.cells (gS.mk (Value.func (.func 111) [].toArray [].toArray)))) 2 U U U ED cb U dc U) U U)<|AL U EI fun z=>fu U EN U<|RK S<|WS fun _ T=>eN 3 [0,1] (mc 0 U (mc 3 U I)) U<|rS (CL (NF l kA kC az cA cC bA bC hin asm) (bq [4,5,6,7]) U)<|rP 1 [] I ?_
 refine RK T<|cu U (bp fun j=>?_) (bo fun j=>?_)
 ·refine WS fun _ AA=>rP 1 [] I ?_
  refine RK AA<|ak<|Q1 hQ U U U ?_
  exact cI (qk A fun h=>absurd h.sZ asm).symm
 refine cf<|aL<|KK R<|aq<|rS (SX (fV (r:= .int .i64 3) U U U (n9 ⟨dc,dc⟩)) U U)<|bE 1 U<|RK e<|kz fun R36 f=>WS fun _ V=>rS (SX (fV (r:= .bool true) U U U p7) U U)<|RK V<|aj fun _ W=>aQ U<|WK W<|aj fun _ X=>aB<|WS fun _ Y=>rS (SX (tT (vs:=(gS.cells (gS.mk (Value.func (.func 114) [].toArray [].toArray)))) 3 U U U ED cb U dc U) U U)<|AL U EI fun AC=>fu U EN U<|RK Y<|WS fun _ Z=>eN 3 [0,1] (mc 0 U (mc 4 U I)) U<|rS (CL (O6 l kA kC az cA cC bA bC hin asm asm) (bq [5,6,7,8]) U)<|rP 1 [] I ?_
 refine RK Z<|cu U (bp fun k=>?_) (bo fun k=>?_)
 ·refine WS fun _ a=>rP 1 [] I ?_
  refine RK a<|ak<|Q1 hQ U U U ?_
  exact cI (qk A fun h=>absurd h.Pv asm).symm
 refine cf<|aL<|KK X<|aq<|rS (SX (fV (r:= .int .i64 4) U U U (n9 ⟨dc,dc⟩)) U U)<|bE 1 U<|RK f<|kz fun R45 w=>WS fun _ b=>rS (SX (fV (r:= .bool false) U U U p7) U U)<|RK b<|aj fun _ v=>cg U<|bL<|ai<|ai<|aG<|KK s<|WS fun _ c=>rP 1 [] I ?_
 refine RK c<|ak<|Q1 hQ U U U ?_
 exact cI (wv A (yN asm asm asm asm)).symm
theorem Bm (lo hi:Int) (f:Value) (p:Int→Bool) (X:av) (r:Int) (hf: ∀ x0,0≤x0∧x0<hi→CX Tryz.prog f [.int .i64 x0] [X] (.bool (p x0))) (hb:0≤lo∧lo≤r∧r≤hi∧hi≤100000000) (hno: ∀ x,lo≤x→x<r→p x=false) (hyes: ∀ x,r≤x→x<hi→p x=true):
 dx Tryz.prog 95 [(vI lo),(vI hi),f] [X] (vI r):=by
 refine bB kr Tryz.func95 U U fun N Q hQ hN=>?_
 try dsimp only
 refine WS fun _ F=>rP 1 [] I ?_
 refine RK F<|aj fun _ G=>aB ?_
 have A:(lo≤lo∧lo≤r)∧(r≤hi∧hi≤hi):=by omega
 refine bT (ι:={z:Int×Int // (lo≤z.1∧z.1≤r)∧(r≤z.2∧z.2≤hi)}) [2] [0] U U (fun z=>[(0,(vI z.1.1)),(1,(vI z.1.2))]) (fun z=>[]) (fun _=>rfl) (fun _=>rfl) (fun z=>(z.1.2-z.1.1).toNat) ⟨(lo,hi),A⟩ (bx U) (aP [0]) ?_
 clear A
 rintro ⟨⟨a,b⟩,⟨B,C⟩⟩ J3 D
 try dsimp only at B C
 try dsimp only
 refine aj fun _ H=>WS fun _ AA=>rP 3 [] I ?_
 refine RK AA<|bQ U (aT fun M=>?_) (aU fun M=>?_)
 ·refine bL<|ai<|ai<|aG<|KK G<|WS fun _ L=>rP 2 [] I ?_
  refine RK L<|ak<|Q1 hQ U U U ?_
  exact cI om
 refine WK H<|aB<|WS fun _ J=>bE 4 U<|rS (BI U (sR om om om))<|bE 2 U<|RK J<|WS fun _ K=>rP 2 [] I ?_
 refine rS (SX (pO U U U (hf (a+((b-a)/2)) om) (bq [0])) U U)<|RK K<|cu U (fun hp=>?_) (fun hp=>?_)
 ·refine aq<|rP 2 [] I ?_
  refine aD<|aL ?_
  refine a7 (D ⟨(a,(a+((b-a)/2))),(by dsimp only; rcases Int.lt_or_le (a+(b-a)/2) r with q|q; (have E:=hno _ om q; (rw [E] at hp; cases hp)); (have E:=hyes _ q om; (refine ⟨⟨om,om⟩,om,om⟩)))⟩ _ _ _ rfl (by simp only []; omega) (bx rfl) (aP [0]))
 refine aq<|rP 3 [] I ?_
 refine aD<|aL ?_
 refine a7 (D ⟨(((a+((b-a)/2))+1),b),(by dsimp only; rcases Int.lt_or_le (a+(b-a)/2) r with q|q; (have E:=hno _ om q; (refine ⟨⟨om,om⟩,om,om⟩)); (have E:=hyes _ q om; (rw [E] at hp; cases hp)))⟩ _ _ _ rfl (by simp only []; omega) (bx rfl) (aP [0]))
theorem Iy (u:Int) (c:ay) (sA:OA) (sC g1:Nat) (s:aF) (g2:Nat) (hc:eM c) (hu:0≤u∧u≤90000000):
 dx Tryz.prog 96 [(vI u),(vP g1),(vP g2)] [(rd sA c.bG.length 3 (c.bG.map cQ.cells)),(cm g1 73 (du.cells (du.mk c.dj (bH.mk sA c.bG.length sC)))),(cm g2 78 (aF.cells s))] (vB (decide (s.Read≤u+(iv c u).Hi))):=by
 have C:=qJ hc hu
 refine bB kr Tryz.func96 U U fun D Q hQ hN=>?_
 try dsimp only
 refine WS fun _ A=>bE 1 U<|RK A<|aj fun _ B=>dg cp 10 kr<|lu 3 [] (mr 1 U I) U<|dS (CL (EB c sA sC u hc hu) (bq [0]) U)<|dS (SX (rh (v:=(vI ((iv c u).Hi))) U U fE JV U) U U)<|dP 5 [] (mr 2 U I) ?_
 refine cE<|RK B<|ak ?_
 exact Q1 hQ U U U U
theorem Jr (u:Int) (c:ay) (sA:OA) (sC g1:Nat) (s:aF) (g2:Nat) (hc:eM c) (hu:0≤u∧u≤90000000):
 dx Tryz.prog 98 [(vI u),(vP g1),(vP g2)] [(rd sA c.bG.length 3 (c.bG.map cQ.cells)),(cm g1 73 (du.cells (du.mk c.dj (bH.mk sA c.bG.length sC)))),(cm g2 78 (aF.cells s))] (vB (decide (s.Read<u+(iv c u).Lo))):=by
 have C:=qJ hc hu
 refine bB kr Tryz.func98 U U fun D Q hQ hN=>?_
 try dsimp only
 refine WS fun _ A=>bE 1 U<|RK A<|aj fun _ B=>dg cp 10 kr<|lu 3 [] (mr 1 U I) U<|dS (CL (EB c sA sC u hc hu) (bq [0]) U)<|dS (SX (rh (v:=(vI ((iv c u).Lo))) U U fE Iu U) U U)<|dP 5 [] (mr 2 U I) ?_
 refine cE<|RK B<|ak ?_
 exact Q1 hQ U U U U
theorem z8 (l:bg) (kA:OA) (kC:Nat) (az:List RA) (cA:OA) (cC:Nat) (bA:OA) (bC:Nat) (s:aF) (hin:eo l az) (hok:kZ l) (hs:(0≤s.eZ∧s.eZ≤(l.ab.length:Int)-1)∧0≤s.Read∧s.Read≤86400000):
 dx Tryz.prog 67 [(vA (cV.cells (jN l kA kC cA cC bA bC))),(vA (aF.cells s))] [(rd kA l.aV.length 9 (l.aV.map ao.cells)),(rd cA l.ar.length 2 (List.zipWith ay.cells l.ar az)),(dL (br ay.gn l.ar az)),(rd bA l.ab.length 4 (l.ab.map bI.cells))] (vA (ag.cells (cJ l s))):=by
 have V:=hin.sH
 have S:=hin.sI
 have P:=hin.ot
 have R:=hin.sL
 refine bB kr Tryz.func67 U U fun Z Q hQ hN=>?_
 try dsimp only
 refine WS fun _ AB=>er U fun X=>er U fun D=>AL U dN fun Y=>RK AB<|aj fun _ J=>dH cp [11,12] [] [] [0,1,2,3,4,5,6] [] U U U U U<|eS U (FA 2 U fE U)<|eS U (L1 (vS cA l.ar.length cC) 2 U cb U U)<|eS U (FA 3 U fE U)<|eS U (L1 (vS bA l.ab.length bC) 2 U cb U U)<|eS U (FA 0 U fE U)<|eS U (L1 (vI s.eZ) 1 U cb U U) ?_
 obtain ⟨y,hy⟩:=aJ l.ab ((s.eZ).toNat) om
 have O:=bK bI.cells hy
 refine eS U (IA ((s.eZ).toNat) U (aA 6 U) xH dc om om)<|eS U (qc ((((s.eZ).toNat)*4)+3) U (aA 6 U) (Nat.mul_pos om dc) fE U)<|eS U (hG ((s.eZ).toNat) 3 (vI y.jX) U cb (aA 6 U) O U dc U) ?_
 have W:=(hok.sZ _ (aR hy)).2
 obtain ⟨x,hx⟩:=aJ l.ar ((y.jX).toNat) om
 obtain ⟨xa,F⟩:=aJ az ((y.jX).toNat) om
 have N:(List.zipWith ay.cells l.ar az)[(y.jX).toNat]? =some (ay.cells x xa):=dC hx F
 refine eS U (IA ((y.jX).toNat) U (aA 4 U) F0 dc om om)<|eS U (lh ((y.jX).toNat) 0 (du.cells (du.mk x.dj (bH.mk xa.1 x.bG.length xa.2))) U cb (aA 4 U) N U dc U U)<|ep U<|cj U fun T6 L=>AL U O0 fun E=>aD (L _ _ (aP [1,2,3,4,5,6,7]) ?_)
 refine cj U fun T8 M=>fu U PU U<|aD (M _ _ (aP [1,2,3,4,5,6,7]) ?_)
 refine fH U<|KK J<|WS fun _ K=>?_
 have A:=hok.clock _ (aR hx)
 have AA:=iz (p:=gh x s.Read) (n:=86400001)
 have T:=iz (p:=gl x s.Read) (n:=86400001)
 refine rS (FU U) ?_
 refine rS (CL (Bm 0 86400001 (Value.func (.func 96) [].toArray [(vP E),(vP D)].toArray) (fun B=>(decide (s.Read≤B+(iv x B).Hi))) (dL [(rd xa.1 x.bG.length 3 (x.bG.map cQ.cells)),(cm E 73 (du.cells (du.mk x.dj (bH.mk xa.1 x.bG.length xa.2)))),(cm D 78 (aF.cells s))]) (fp (gh x s.Read) 86400001) (by intro B _; exact kG (fi:=[]) (ca:=[(vP E),(vP D)]) (jJ (Iy B x xa.1 xa.2 E s D (by first|assumption|omega) (by first|assumption|omega)) (NJ 0 1 2 U U U U U U))) om (by intro z G hz; exact (kQ A G om).1 hz) (by intro z hz H; exact (kQ A om H).2.1 hz)) (aK (jF (aK (show iN _ (rd xa.1 x.bG.length 3 (x.bG.map cQ.cells)).holds from (cR 6 U (bM hx F (by simp [ay.gn]))))<|gT 0 U U<|gT 2 U U<|aM))<|aM) U) ?_
 refine rS (FU U) ?_
 refine rS (CL (Bm 0 86400001 (Value.func (.func 98) [].toArray [(vP E),(vP D)].toArray) (fun C=>(decide (s.Read<C+(iv x C).Lo))) (dL [(rd xa.1 x.bG.length 3 (x.bG.map cQ.cells)),(cm E 73 (du.cells (du.mk x.dj (bH.mk xa.1 x.bG.length xa.2)))),(cm D 78 (aF.cells s))]) (fp (gl x s.Read) 86400001) (by intro C _; exact kG (fi:=[]) (ca:=[(vP E),(vP D)]) (jJ (Jr C x xa.1 xa.2 E s D (by first|assumption|omega) (by first|assumption|omega)) (NJ 0 1 2 U U U U U U))) om (by intro z G hz; exact (kQ A G om).2.2.1 hz) (by intro z hz H; exact (kQ A om H).2.2.2 hz)) (aK (jF (aK (show iN _ (rd xa.1 x.bG.length 3 (x.bG.map cQ.cells)).holds from (cR 6 U (bM hx F (by simp [ay.gn]))))<|gT 0 U U<|gT 2 U U<|aM))<|aM) U) ?_
 refine rP 1 [] I ?_
 refine rS (SX (a_ (xs:=[(0,.tmp 18),(1,.tmp 21)]) (cs:=(ag.cells (ag.mk (fp (gh x s.Read) 86400001) ((fp (gl x s.Read) 86400001)-1)))) U U (bf gM U)) U U)<|rL U cS U<|RK K<|ak<|Cj hQ [0] (mc 1 U I) U ?_
 unfold cJ qv; rw [wL hy hx]
end
section
open Go.RowKit
theorem r9 (ln:cV) (ri:cN) (e:List Int) (tms:List TM) (e_A:OA) (e_C:Nat) (tb:List Nat) (t_A:OA) (t_C:Nat) (fA:OA) (fN fC:Nat) (bA:OA) (bN bC:Nat) (gw b:Nat) (g1 g2:Nat) (hb:b<tms.length) (htb:tb.length=tms.length):
 Lu Tryz.prog 99 [] [(vP g1),(vP g2)] [(rd e_A e.length 1 (e.map iC)),(rd t_A tms.length 1 (List.zipWith f_ tms tb)),(dL (br pf tms tb)),(cm gw 150 (bV.cells (bV.mk ln ri (bH.mk e_A e.length e_C) (bH.mk t_A tms.length t_C) (bH.mk fA fN fC) (bH.mk bA bN bC)))),(cm g1 108 [(vP gw)]),(cm g2 3 [(vI (b:Int))])] ([]:List (Int×ag)) (fun ys x ys'=> ∃ o,o∈iH (cO ln ri e tms) b∧x=Nm o∧ys'=ys++[o]) (fun ys=> ∀ o∈iH (cO ln ri e tms) b,o∈ys):=by
 refine EE kr Tryz.func99 U U fun l J Z A0 d Q hY V AA hQ hN=>?_
 try dsimp only
 refine aj fun _ X=>aj fun _ R=>dg cp 12 kr<|lu 2 [] (mr 5 U I) U<|dS (SX (cM U U) U U)<|lu 4 [0,1] (mr 4 U (mr 5 U I)) U<|dS (SX (cM U U) U U)<|dP 3 [] (mr 4 U I) ?_
 refine dS (SX (a_ (xs:=[(0,.tmp 11),(1,.tmp 16)]) (cs:=(ag.cells (ag.mk ri.Start ri.fJ))) U U (bf gM U)) U U)<|cE<|xP (k:=([]:List (Int×ag))) (k':=(([]:List (Int×ag))++[((-1),(ag.mk ri.Start ri.fJ))])) 0 (by first|exact hsz|exact Nat.le_refl _) hY V AA U U U (by exact ⟨(-1,⟨ri.Start,ri.fJ⟩),ct ..,U,U⟩) U U (fun B3 N M=>?_) (fun B3 N M=>?_)
 rotate_left 1
 ·refine rP 1 [] I ?_
  refine RK R<|aQ U<|ak ?_
  refine hQ _ _ _ (jI (vs:=[]) trivial fun w hs=>D_ 0 U N M hs)
 refine bE 1 U<|RK R<|cg U<|WK X<|aj fun _ Y=>dg cp 7 kr<|lu 1 [] (mr 5 U I) U<|dS (SX (cM U U) U U)<|dP 3 [0,1] (mr 4 U (mr 6 U I)) ?_
 obtain ⟨x,hx⟩:=aJ tms b om
 obtain ⟨xa,L⟩:=aJ tb b om
 have a:(List.zipWith f_ tms tb)[b]? =some (f_ x xa):=dC hx L
 refine dS (IA b U (aA 2 U) wJ dc om om)<|dS (hG b 0 (Value.map (some xa)) U cb (aA 2 U) a U dc U)<|cE<|pK (kV:=iV) (m:=cK jG x) 3 U U rO U ⟨⟨(jM iV xa (cK jG x)),(bM hx L (by simp [pf])),U⟩,fun h=>h⟩ (show iN _ (jM iV xa (cK jG x)).holds from cR 3 U (bM hx L (by simp [pf]))) U fun j=>?_
 try dsimp only
 refine RK Y<|aB ?_
 have G:(∀ o∈x,o∈x∨o∈(([]:List (Int×ag))++[((-1),(ag.mk ri.Start ri.fJ))]))∧(∀ o∈x,o∈x)∧(J (([]:List (Int×ag))++[((-1),(ag.mk ri.Start ri.fJ))]) B3)∧(Fo A0 d B3)∧((-1,(⟨ri.Start,ri.fJ⟩:ag))∈(([]:List (Int×ag))++[((-1),(ag.mk ri.Start ri.fJ))])):=by exact ⟨fun o ho=> .inl ho,fun o ho=>ho,asm,asm,sm⟩
 refine bT (ι:={z:TM×(List (Int×ag))×av // (∀ o∈x,o∈z.1∨o∈z.2.1)∧(∀ o∈z.1,o∈x)∧(J z.2.1 z.2.2)∧(Fo A0 d z.2.2)∧((-1,(⟨ri.Start,ri.fJ⟩:ag))∈z.2.1)}) [0,1,2,27] [2,3,4,6,7] U U (fun z=>[]) (fun z=>[(Ch iV j xa (cK jG x) (cK jG z.1.1) none),z.1.2.2]) (fun _=>rfl) (fun _=>rfl) (fun z=>z.1.1.length) ⟨(x,(([]:List (Int×ag))++[((-1),(ag.mk ri.Start ri.fJ))]),B3),G⟩ (df.nil _) (aP [2,3,4,6,7,0,1]) ?_
 clear G
 rintro ⟨⟨left,ys,A⟩,⟨B,C,D,E,F⟩⟩ J8 W
 try dsimp only at B C D E F
 try dsimp only
 refine WS fun _ S=>nZ (gJ rM).inj (f:=jG) 5 U U U U (fun T=>?_) (fun i z hm hn=>?_)
 ·refine rP 1 [] I ?_
  refine RK S<|aj fun _ c=>cg U<|bL<|ai<|ai<|aG ?_
  refine hN _ _ _ (jI (vs:=[]) trivial fun w hs=>Oz 6 U (by exact GO hx B T F) D E hs)
 try dsimp only
 refine bE 1 U<|RK S<|aj fun _ O=>aQ U<|WK O<|aB<|WS fun _ P=>rS (SX (nU 5 U U U) U U)<|bE 2 U<|AL U dN fun g=>bE 1 U<|fu U cS U<|RK P<|WS fun _ K=>rP 3 [] (mc 0 U I) ?_
 refine xP (k:=ys) (k':=(ys++[(i,z)])) 7 (by first|exact hsz|exact Nat.le_refl _) hY D E U U U (by exact ⟨(i,z),(xg hx).2 (.inr (C _ hm)),U,U⟩) U U (fun B15 AB H=>?_) (fun B15 AB H=>?_)
 rotate_left 1
 ·refine rP 1 [] I ?_
  refine RK K<|aQ U<|ak ?_
  refine hQ _ _ _ (jI (vs:=[]) trivial fun w hs=>D_ 7 U AB H hs)
 refine rP 1 [] I ?_
 refine RK K<|cg U<|cf<|aL<|qt 6 U oR U ?_
 refine a7 (W ⟨((eO left i),(ys++[(i,z)]),B15),⟨Gr hn hm B,l7 C,asm,asm,by simp [F]⟩⟩ _ _ _ U (mh hm) (bx U) (aP [1,2,3,4,5,6,7]))
theorem uQ (gw b:Nat):
 q6 Tryz.prog 71 [(vP gw),(vI (b:Int))] [] (fun (x:Nat×Nat)=>(Value.func (.func 99) [].toArray [(Value.pointer (some ⟨x.1,0,none⟩)),(Value.pointer (some ⟨x.2,0,none⟩))].toArray)) (fun (x:Nat×Nat)=>True) (fun (x:Nat×Nat)=>[(cm x.1 108 [(vP gw)]),(cm x.2 3 [(vI (b:Int))])]):=by
 refine fR kr Tryz.func71 U U fun E Q hQ hN=>?_
 try dsimp only
 refine WS fun _ A=>vR U U fun C=>vR U U fun D=>bE 1 U<|RK A<|WS fun _ B=>rS (FU U)<|rP 1 [] I ?_
 refine RK B<|ak<|LX hQ (C,D) [1,0] [] I U U U U ?_
 trivial
theorem Ip (gw b:Nat):
 q6 Tryz.prog 45 [(vP gw),(vI (b:Int))] [] (fun (x:Nat×Nat)=>(Value.func (.func 70) [].toArray [(Value.pointer (some ⟨x.1,0,none⟩)),(Value.pointer (some ⟨x.2,0,none⟩))].toArray)) (fun (x:Nat×Nat)=>True) (fun (x:Nat×Nat)=>[(cm x.1 108 [(vP gw)]),(cm x.2 3 [(vI (b:Int))])]):=by
 refine fR kr Tryz.func45 U U fun E Q hQ hN=>?_
 try dsimp only
 refine WS fun _ A=>vR U U fun C=>vR U U fun D=>bE 1 U<|RK A<|WS fun _ B=>rS (FU U)<|rP 1 [] I ?_
 refine RK B<|ak<|LX hQ (C,D) [1,0] [] I U U U U ?_
 trivial
end
end Go.Proofs.YtijpnoadncadoaaGreatDoor
