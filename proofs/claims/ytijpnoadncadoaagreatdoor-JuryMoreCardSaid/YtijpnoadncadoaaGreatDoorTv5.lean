/-
 The statement juryMore_said, part 5 of 8: JMem, SeqO, RankP, TabP, NestS, Grp, JSeq, JTop, JMor, JFeeL, JMorM, Async, Twin, Fresh, MapD, ExL, Rep, ExJ, Win6, JWin, JAlv, B1, B10, Frozen, MarkD, Marks, Follow, OpenM, WLe, Z1, Rx4, Jla, DrawB, Bits, BoolC, RaceR, Jw1, IdxK, Jw2, S1, V1, V3, B4, B2.
 Conditions: none.
-/
import Derived.Test.YtijpnoadncadoaaGreatDoorTv1
import Derived.Test.YtijpnoadncadoaaGreatDoorTv2
import Derived.Test.YtijpnoadncadoaaGreatDoorTv3
import Derived.Test.YtijpnoadncadoaaGreatDoorTv4
import Derived.KernelRfl
namespace Go.Proofs.YtijpnoadncadoaaGreatDoor
set_option maxRecDepth 100000
set_option maxHeartbeats 4000000
set_option linter.unusedVariables false
section
open Go.RowKit
structure gp (j:bS) (az:List RA) (ha:List cZ):Prop where
 race:ld j.Race az ha
 nf:j.aA.length≤1000000
 np:j.ao.length≤1000000
 kind: ∀ f∈j.aA,0≤f.Kind∧f.Kind≤255
structure mA (j:bS) (az:List RA) (ha:List cZ):Prop where
 race:rL j.Race az ha
 nf:j.aA.length≤9223372036854775807
 np:j.ao.length≤9223372036854775807
 kind: ∀ f∈j.aA,0≤f.Kind∧f.Kind≤255
def mX (j:bS):Prop:=(l7 j.Race∨10<(j.aA.length:Int))∨15<(j.ao.length:Int)
noncomputable instance (j:bS):Decidable (mX j):=Classical.propDecidable _
theorem EH {j:bS} (h: ¬ mX j): ¬ l7 j.Race∧(j.aA.length:Int)≤10∧(j.ao.length:Int)≤15:=by
 unfold mX at h
 have A: ¬ l7 j.Race:=fun q=>h (.inl (.inl q))
 have B: ¬ 10<(j.aA.length:Int):=fun q=>h (.inl (.inr q))
 have C: ¬ 15<(j.ao.length:Int):=fun q=>h (.inr q)
 exact ⟨A,om,om⟩
theorem mA.small {j:bS} {az:List RA} {ha:List cZ} (h:mA j az ha) (hg: ¬ mX j):gp j az ha:=by
 have A:=EH hg
 exact ⟨h.race.small A.1,om,om,h.kind⟩
def oO (fin:Int) (f:aW):Prop:=(1≤f.Kind∧f.Kind≤3)∧(0≤f.mE∧f.mE≤f.To∧f.To≤86400000)∧0≤f.ig∧f.ig≤(if f.Kind=1 then 0 else fin)
instance (fin:Int) (f:aW):Decidable (oO fin f):=by unfold oO; infer_instance
theorem L9 {P:Nat→Bool} {n i:Nat} (h: ¬ 0<((ml P n).length:Int)) (hi:i<n):P i=false:=by
 cases e:P i with
 |false=>rfl
 |true=>
  have:(i:Int)∈ml P n:=Av.2 ⟨i,hi,rfl,e⟩
  have:=List.length_pos_of_mem this
  omega
theorem LO {P:Nat→Bool} {n:Nat} (h:0<((ml P n).length:Int)): ∃ i,i<n∧P i=true:=by
 obtain ⟨x,hx⟩:=List.exists_mem_of_length_pos (l:=ml P n) om
 obtain ⟨i,A,_,B⟩:=Av.1 hx
 exact ⟨i,A,B⟩
def ir {α:Type} (l:List α) (p:Int→α→Bool) (i:Nat):Bool:=(l[i]?).any (p (i:Int))
theorem rV {α:Type} {l:List α} {p:Int→α→Bool} {i:Nat} {x:α} (h:l[i]? =some x):ir l p i=p (i:Int) x:=by unfold ir; rw [h]; rfl
section
variable {fin:Int} {f:aW} {j:bS}
theorem td (hk:f.Kind=1):oO fin f↔(0≤f.mE∧f.mE≤f.To∧f.To≤86400000)∧0≤f.ig∧f.ig≤0:=by
 unfold oO; rw [if_pos hk]; omega
theorem uf (hk: ¬ f.Kind=1):oO fin f↔(1≤f.Kind∧f.Kind≤3)∧(0≤f.mE∧f.mE≤f.To∧f.To≤86400000)∧0≤f.ig∧f.ig≤fin:=by
 unfold oO; rw [if_neg hk]
theorem D6 (h:0<((ml (ir j.aA fun _ f=>decide (¬ oO j.Race.ar.cf f)) j.aA.length).length:Int)): ¬ qg j:=fun q=>by
 obtain ⟨i,hi,hb⟩:=LO h
 have hx:j.aA[i]? =some (j.aA[i]'hi):=eN hi
 rw [rV hx] at hb
 exact (of_decide_eq_true hb) (q.fault _ (aQ hx))
theorem Bg (h: ¬ 0<((ml (ir j.aA fun _ f=>decide (¬ oO j.Race.ar.cf f)) j.aA.length).length:Int)): ∀ f∈j.aA,eY j.Race.ar f:=fun f hf=>by
 obtain ⟨i,hi⟩:=List.mem_iff_getElem?.1 hf
 have hb:=L9 h (aX.1 hi).1
 rw [rV hi] at hb
 exact Decidable.of_not_not (of_decide_eq_false hb)
theorem AS {b:Bool} {p q:Prop} (h1:b=false) (h2: ¬ p) (h3: ¬ q): ¬ (b=true∨p∨q):=by
 rintro (h|h|h)
 ·rw [h1] at h; cases h
 ·exact h2 h
 ·exact h3 h
end
section
variable {l:br} {r:cD} {b:Int} {f:aW} {d:aC} {a c:yH}
theorem G8 (h:b<0):cR l r b=⟨r.Start,r.Start,true,false⟩:=if_pos h
theorem Cb (h: ¬ b<0) (e: ¬ dY l r b=0):cR l r b=⟨86400000,86400000,false,true⟩:=by unfold cR; rw [if_neg h,if_neg e]
theorem yU (h: ¬ b<0) (e:dY l r b=0) (q:tg l r b=true):cR l r b=⟨(dQ l r b).Lo,(dQ l r b).Hi,true,false⟩:=by unfold cR; rw [if_neg h,if_pos e,q]; rfl
theorem xw (h: ¬ b<0) (e:dY l r b=0) (q:tg l r b=false):cR l r b=⟨(dQ l r b).Lo,86400000,false,false⟩:=by unfold cR; rw [if_neg h,if_pos e,q]; rfl
theorem vn (h:dY l r b=0) (hb:0≤b):dW l r 0=0:=by
 by_cases e:dW l r (jB l b)=0
 ·by_cases c:0≤b∧b≤(l.aa.length:Int)-1
  ·rw [um c] at e; exact e
  ·rw [show jB l b=2 from if_neg c] at e
   have:=(iM e).2.2.1
   omega
 ·rw [(l4 e).1] at h; exact absurd h e
theorem Bm (h:dW l r 0=0):tg l r b=decide (b<nI (hU l r)):=by
 have hm:=FN (vg h)
 unfold tg
 rw [Bool.eq_iff_iff,de,decide_eq_true_iff]
 constructor
 ·intro q; exact of_decide_eq_true (q _ hm.1)
 ·intro q x hx
  have:=hm.2 x hx
  exact dI om
theorem Nw (hb:0≤b):(0≤(cR l r b).Lo∧(cR l r b).Lo≤86400000)∧0≤(cR l r b).Hi∧(cR l r b).Hi≤86400000:=by
 by_cases e:dY l r b=0
 ·have A:=t_ e
  cases q:tg l r b with
  |true=>rw [yU om e q]; simp only; omega
  |false=>rw [xw om e q]; simp only; omega
 ·rw [Cb om e]; simp only; omega
theorem jM (hk:f.Kind=1) (hr:nW d):g6 l f d=n7 f (cR l d.bD (-1)) (cR l d.bD l.cf):=by
 unfold g6 yL Qu; rw [if_pos hr,if_pos hk,if_pos hk]
theorem jL (hk:f.Kind=2) (hr:nW d):g6 l f d=n7 f (cR l d.bD (f.ig-1)) (cR l d.bD f.ig):=by
 unfold g6 yL Qu; rw [if_pos hr,if_neg om,if_pos hk,if_neg om]
theorem jK (hk:f.Kind=3) (hr:nW d):g6 l f d=n7 f (cR l d.bD f.ig) (cR l d.bD f.ig):=by
 unfold g6 yL Qu; rw [if_pos hr,if_neg om,if_neg om,if_neg om]
theorem gZ (h:a.never=true∨f.To<a.Lo∨c.Hi<f.mE):n7 f a c=0:=if_pos h
theorem pb (h: ¬ (a.never=true∨f.To<a.Lo∨c.Hi<f.mE)) (q:a.each=true) (s:uy f a c):n7 f a c=2:=by unfold n7; rw [if_neg h,if_pos ⟨q,s⟩]
theorem jJ (h: ¬ (a.never=true∨f.To<a.Lo∨c.Hi<f.mE)) (q: ¬ (a.each=true∧uy f a c)):n7 f a c=1:=by unfold n7; rw [if_neg h,if_neg q]
theorem oG (hk: ¬ f.Kind=3):uy f a c↔a.Hi≤f.To∧f.mE≤c.Lo:=by unfold uy; rw [if_neg hk]
theorem zG (hk:f.Kind=3):uy f a c↔ai.mk (max a.Lo f.mE) (min a.Hi f.To)=ai.mk a.Lo a.Hi:=by
 unfold uy; rw [if_pos hk]
 constructor
 ·intro q; congr 1<;>omega
 ·intro q; injection q with A B; omega
end
section
variable {j:bS} {p:aJ} {d:aC} {f:aW}
theorem PT (hd:nT j p=some d) (h:p.At≤(cR j.Race.ar d.bD j.Race.ar.cf).Lo+60000*j.bJ):lQ j p=0:=by unfold lQ; rw [hd]; exact if_pos h
theorem PL (hd:nT j p=some d) (h: ¬ p.At≤(cR j.Race.ar d.bD j.Race.ar.cf).Lo+60000*j.bJ) (h2:p.At≤(cR j.Race.ar d.bD j.Race.ar.cf).Hi+60000*j.bJ):lQ j p=1:=by unfold lQ; rw [hd]; simp only; rw [if_neg h,if_pos h2]
theorem PO (hd:nT j p=some d) (h: ¬ p.At≤(cR j.Race.ar d.bD j.Race.ar.cf).Lo+60000*j.bJ) (h2: ¬ p.At≤(cR j.Race.ar d.bD j.Race.ar.cf).Hi+60000*j.bJ):lQ j p=2:=by unfold lQ; rw [hd]; simp only; rw [if_neg h,if_neg h2]
theorem Kj (h:lQ j p=2):f_ j p=false:=by unfold f_; split<;>simp [h]
theorem HZ (hd:nT j p=some d) (hf:j.aA[p.ew.toNat]? =some f) (h: ¬ lQ j p=2):f_ j p= !decide (g6 j.Race.ar f d=0):=by unfold f_; rw [hd,hf]; simp [h]
end
section
variable {j:bS} {i k:Nat} {p q:aJ} {f:aW} {d:aC}
/-- the first faults are right -/
def o5 (j:bS) (k:Nat):Prop:= ∀ (i:Nat) f,i<k→j.aA[i]? =some f→eY j.Race.ar f
theorem AY:o5 j 0:=fun i f h=>absurd h (Nat.not_lt_zero _)
theorem qB (h:o5 j k) (hf:j.aA[k]? =some f) (ho:eY j.Race.ar f):o5 j (k+1):=fun i g hi hg=>by
 rcases Nat.lt_or_ge i k with c|c
 ·exact h i g c hg
 ·obtain rfl:i=k:=by omega
  rw [hf] at hg; cases hg; exact ho
theorem dT (h:o5 j k) (hk:j.aA.length≤k): ∀ f∈j.aA,eY j.Race.ar f:=fun f hf=>by
 obtain ⟨i,hi⟩:=List.mem_iff_getElem?.1 hf
 exact h i f (by have:=(aX.1 hi).1; omega) hi
/-- the first protests are right -/
def oM (j:bS) (k:Nat):Prop:= ∀ (i:Nat) p,i<k→j.ao[i]? =some p→vf j i p
theorem yb:oM j 0:=fun i f h=>absurd h (Nat.not_lt_zero _)
theorem sO (h:oM j k) (hp:j.ao[k]? =some p) (ho:vf j k p):oM j (k+1):=fun i g hi hg=>by
 rcases Nat.lt_or_ge i k with c|c
 ·exact h i g c hg
 ·obtain rfl:i=k:=by omega
  rw [hp] at hg; cases hg; exact ho
/-- the number of the last protest, so far -/
def pE (j:bS) (k:Nat):Int:=match k with
 |0=> -1
 |k+1=>match j.ao[k]? with
  |some p=>p.Id
  |none=> -1
theorem nN (hp:j.ao[k]? =some p):pE j (k+1)=p.Id:=by unfold pE; simp only [hp]
theorem NC (h:oM j k) (hk:k≤j.ao.length): -1≤pE j k∧pE j k≤9999:=by
 cases k with
 |zero=>exact ⟨by simp [pE],by simp [pE]⟩
 |succ k=>
  obtain ⟨p,hp⟩: ∃ p,j.ao[k]? =some p:=⟨j.ao[k]'om,eN _⟩
  have:=(h k p om hp).id
  rw [nN hp]; omega
theorem pz {ht:List aC} (hh:j.Race.aD[p.fj.toNat]? =some ht) (hd:ht[p.eO.toNat]? =some d):nT j p=some d:=by
 unfold nT; rw [hh]; exact hd
theorem Nf (hp:j.ao[k]? =some p) (hi:pE j k+1≤p.Id∧p.Id≤9999) (h0: -1≤pE j k) (hs:0≤p.eO∧p.eO≤(j.Race.aY.length:Int)-1) (hh:0≤p.fj∧p.fj≤(j.Race.aD.length:Int)-1) (hf:0≤p.ew∧p.ew≤(j.aA.length:Int)-1) (hd:nT j p=some d) (hr:nW d) (ha:d.bD.Start≤p.At∧p.At≤86400000):vf j k p:=by
 refine ⟨om,fun q B A=>?_,hs,hh,hf,d,hd,hr,ha⟩
 cases k with
 |zero=>omega
 |succ k=>
  rw [Nat.add_sub_cancel] at A
  rw [nN A] at hi
  omega
/-- one that is wrong -/
theorem rH (hp:j.ao[k]? =some p) (h: ¬ vf j k p): ¬ qg j:=fun q=>h (q.gU k p hp)
theorem wm (h:vf j k p) (hk:k≤j.ao.length):pE j k+1≤p.Id:=by
 cases k with
 |zero=>have:=h.id; show-1+1≤p.Id; omega
 |succ k=>
  obtain ⟨q,hq⟩: ∃ q,j.ao[k]? =some q:=⟨j.ao[k]'om,eN _⟩
  have:=h.up q om (by rw [Nat.add_sub_cancel]; exact hq)
  rw [nN hq]; omega
end
def oT (l:List aW) (f:aW):Int:=match l.findIdx? (fun x=>decide (x=f)) with
 |some i=>(i:Int)
 |none=> -1
section
variable {l:List aW} {f g x:aW} {i:Nat}
theorem Nn (hx:l[i]? =some x) (h:x=f) (hb: ∀ (q:Nat) y,q<i→l[q]? =some y→y≠f):oT l f=(i:Int):=by
 unfold oT
 have:l.findIdx? (fun x=>decide (x=f))=some i:=by
  rw [List.findIdx?_eq_some_iff_getElem]
  obtain ⟨hi,e⟩:=aX.1 hx
  refine ⟨hi,by rw [e]; simp [h],fun q hq=>?_⟩
  have:=hb q (l[q]'om) hq (eN _)
  simpa using this
 rw [this]
theorem Lv (hb: ∀ (q:Nat) y,q<i→l[q]? =some y→y≠f) (hi:l.length≤i):oT l f= -1:=by
 unfold oT
 have:l.findIdx? (fun x=>decide (x=f))=none:=by
  rw [List.findIdx?_eq_none_iff]
  intro y hy
  obtain ⟨q,hq⟩:=List.mem_iff_getElem?.1 hy
  have:=hb q y (by have:=(aX.1 hq).1; omega) hq
  simpa using this
 rw [this]
theorem BP (hf:f∈l): ∃ i:Nat,oT l f=(i:Int)∧l[i]? =some f:=by
 unfold oT
 cases h:l.findIdx? (fun x=>decide (x=f)) with
 |none=>
  rw [List.findIdx?_eq_none_iff] at h
  have:=h f hf
  simp at this
 |some i=>
  rw [List.findIdx?_eq_some_iff_getElem] at h
  obtain ⟨hi,e,_⟩:=h
  exact ⟨i,U,by rw [eN hi]; simpa using e⟩
theorem IN (hf:f∈l) (hg:g∈l) (h:oT l f=oT l g):f=g:=by
 obtain ⟨i,C,A⟩:=BP hf
 obtain ⟨k,D,B⟩:=BP hg
 have:i=k:=by omega
 subst this
 exact Option.some.inj (A.symm.trans B)
end
end
section
open Go.RowKit
abbrev VI (C:List aB) (i j:Nat):List Nat:=i::j::(List.range C.length).filter fun k=>k != i&&k != j
def Vb {σ:Type} (w0:World) (P:Program) (l:Nat) (step:σ→List Value→aB→σ→Prop) (J:σ→aB→Prop) (Z:aB→Prop):Prop:=
 ∀ k x R k' A w,step k x R k'→J k A→w0.heap.size≤w.heap.size→(bU [A,R]).holds w→YieldAt (Fw none) 0 P l x.toArray w fun e w'=>
  (e= .returned (.bool true)∧ ∃ B,J k' B∧Mv (bU [A,R]) B w w')∨(e= .returned (.bool false)∧ ∃ B,Z B∧Mv (bU [A,R]) B w w')
structure O0 {σ:Type} (P:Program) (f:FuncId) (fi ca:List Value) (Cp:List aB) (s0:σ) (step:σ→List Value→aB→σ→Prop) (fin:σ→Prop):Prop where
 go:sf P f=true
 run: ∀ (l:Nat) (J:σ→aB→Prop) (Z:aB→Prop) (A0:aB) (w:World),Vb w P l step J Z→J s0 A0→A0.holds w→(∀ A∈Cp,A.holds w)→(∀ A∈Cp,CZ A0 A.ro)→
  Calls P f (fi++Value.func (.yield l) #[] #[]::ca).toArray w (B0 J Z fin A0 w)
theorem No {σ:Type} {P:Program} {f:FuncId} {fn:Func} {c:Code} {fi ca:List Value} {Cp:List aB} {s0:σ} {step:σ→List Value→aB→σ→Prop} {fin:σ→Prop} (hgo:sf P f=true) (hf:P.funcs[f]? =some fn) (hb:fn.body=some c) (hn:Nat.ble (fi.length+ca.length+1) fn.ntmps=true)
 (h: ∀ (l:Nat) (J:σ→aB→Prop) (Z:aB→Prop) (A0:aB) (w0:World) (Q:dk),Vb w0 P l step J Z→J s0 A0→Fo A0 w0 A0→
  (∀ D L C,LJ ⟨P,none,fn.ntmps,⟨A0.wf,fun _=>True⟩,w0⟩ fn (B0 J Z fin A0 w0) D L C→KJ ⟨P,none,fn.ntmps,⟨A0.wf,fun _=>True⟩,w0⟩ (Q .ret) D L C)→
  (∀ D L C,LJ ⟨P,none,fn.ntmps,⟨A0.wf,fun _=>True⟩,w0⟩ fn (B0 J Z fin A0 w0) D L C→KJ ⟨P,none,fn.ntmps,⟨A0.wf,fun _=>True⟩,w0⟩ (Q .normal) D L C)→
  WJ ⟨P,none,fn.ntmps,⟨A0.wf,fun _=>True⟩,w0⟩ c Q [] (Oj (fi++Value.func (.yield l) #[] #[]::ca)) (A0::Cp.map aB.ro)):O0 P f fi ca Cp s0 step fin:=by
 refine ⟨hgo,fun l J Z A0 w hY hJ hA F E=>?_⟩
 refine Ag hf hb (by simpa [Nat.add_assoc] using hn) (h l J Z A0 w · hY hJ (fun b hb=> .inl hb)) ?_
 have G:=qY F
 refine ⟨dV.refl _ _,fun A hA'=>?_,List.Pairwise.cons (fun B hB=>?_) G.sep,fun A hA' b hb=>?_,fun _ _ _ _=> .inr trivial⟩
 ·rcases bW.1 hA' with rfl|hA'
  ·exact hA
  ·exact G.holds A hA'
 ·obtain ⟨B',hB',rfl⟩:=cz.1 hB
  exact E B' hB'
 ·rcases bW.1 hA' with rfl|hA'
  ·exact .inr hb
  ·obtain ⟨B',hB',rfl⟩:=cz.1 hA'
   exact hb.elim
section
variable {E:fB} {ops:Array Oper} {Q:dk} {rest:List Oper} {D:List Deferred} {L:List (Nat×Value)} {C:List aB}
variable {d:Nat} {ty:TypeId} {ps:String} {af:Array Edge} {g:Option (Nat×Bool)}
/-- a call of yield -/
theorem Kk {σ:Type} {fop:Operand} {xs:Array Operand} {ts:Array TypeId} {l:Nat} {k k':σ} {vs:List Value} {step:σ→List Value→aB→σ→Prop} {J:σ→aB→Prop} {Z:aB→Prop} {A0 A R:aB} {C1:List aB} (i j:Nat) (hS:E.S=⟨A0.wf,fun _=>True⟩) (hY:Vb E.w0 E.P l step J Z) (hJ:J k A) (hF:Fo A0 E.w0 A) (hg:kl ops L g=true) (hf:ev L fop=some (.func (.yield l) #[] #[]))
 (hx:evs L xs.toList=some vs) (hk:step k vs R k') (hR:R.wr=true) (hn:decide (VI C i j).Nodup=true) (hC:oj C (VI C i j)=some (A::R::C1)) (hd:Nat.blt d E.n=true)
 (k1: ∀ B,J k' B→Fo A0 E.w0 B→RJ E ops Q rest D ((d,.bool true)::L) (B::C1))
 (k2: ∀ B,Z B→Fo A0 E.w0 B→RJ E ops Q rest D ((d,.bool false)::L) (B::C1)):
 RJ E ops Q (⟨some d,.call {callee:= .value fop,args:=xs,argTypes:=ts},ty,ps,af,g⟩::rest) D L C:=by
 intro a w F N
 have AA:St E.S E.w0 ([A,R]++C1) w:=St.jR _ hn (ni hC) N
 have hs:=AA.tied
 have hd':d<E.n:=by rw [← Nat.blt_eq]; exact hd
 unfold sG
 rw [if_pos (eG F hg)]
 have O:xs.map a.eval=vs.toArray:=by
  have:=F.evs hx
  apply Array.ext'
  simp [this]
 obtain ⟨fn,tmps,assign,body,hy,hr⟩:=hY k vs R k' A w hk hJ hs.keeps.size (hs.holds _ cH)
 have H:(execOp a.eval ⟨some d,.call {callee:= .value fop,args:=xs,argTypes:=ts},ty,ps,af,g⟩).run E.P w= .ok (.round l fn tmps assign body) w:=by
  simp [execOp,resolve,F.ev hf,Deferred.ofValue,invoke,O,hy]
 refine ⟨fun _ _=>trivial,?_⟩
 rw [Oper.semAt_eq _ _ _ sm,H]
 refine ⟨fun h=>by simp at h,?_⟩
 have G: ∀ (B:aB) (w':World),Mv (bU [A,R]) B w w'→Fo A0 E.w0 B:=fun B w' m b hb=>by
  rcases m.fE b hb with ⟨X,hX,K⟩|K
  ·rcases bW.1 hX with rfl|hX
   ·exact hF b K
   ·rw [cu] at hX; subst hX
    rcases AA.own X sm b (X.whole hR b K) with M|M
    ·exact .inr M
    ·rw [hS] at M; exact .inl (A0.kz b M)
  ·exact .inr (Nat.le_trans hs.keeps.size K)
 have hr':RoundIn (Fw E.r) 0 E.P l fn tmps assign body w _:=hr
 refine hr'.mono fun e w' he=>?_
 rcases he with ⟨rfl,B,hB,m⟩|⟨rfl,B,hB,m⟩
 ·exact k1 B hB (G B w' m) _ _ (F.put hd' _) (hs.mv 0 U m)
 ·exact k2 B hB (G B w' m) _ _ (F.put hd' _) (hs.mv 0 U m)
end
theorem Ik {σ:Type} {E:fB} {Q:dk} {D:ib} {L L0:dD} {C F:List aB} {g:Operand} {ps:Array Tmp} {assign body:Code} {f:FuncId} {fi ca:List Value} {Cp:List aB} {s0:σ} {step:σ→List Value→aB→σ→Prop} {fin_:σ→Prop} {ι κ:Type}
 (inv:σ→ι→Prop) (Ci:σ→ι→List aB) (invx:Code→κ→Prop) (Cx:Code→κ→List aB) (isJ isF:List Nat) (y0:ι)
 (hr:E.r=none) (hg:ev L g=some (.func (.func f) fi.toArray ca.toArray)) (hs:O0 E.P f fi ca Cp s0 step fin_)
 (hnd:decide (isJ++isF).Nodup=true) (hJ:jR C isJ=Ci s0 y0) (hF:jR C isF=F) (h0:inv s0 y0) (hCp: ∀ A∈Cp,∃ B∈F,K1 B A)
 (hps: ∀ k x R k',step k x R k'→x.length=ps.size) (hpn:ps.toList.all (fun t=>Nat.blt t E.n)=true) (hL:dv L L0)
 (round: ∀ (k:σ) (x:List Value) (R:aB) (k':σ) (y:ι) (l:Nat) (ra rb:Loop) (S:BS) (w0:World) (K:Act→World→Prop) (Qr:dk),E.w0.heap.size≤w0.heap.size→step k x R k'→inv k y→
  (∀ L' C',WJ ⟨E.P,some l,E.n,S,w0⟩ body Qr [] L' (jn l (.loop rb)::C')→KJ ⟨E.P,some l,E.n,S,w0⟩ K [] L' (jn l (.loop ra)::C'))→
  (∀ y' L' C',inv k' y'→(∀ w,St S w0 C' w→St S w0 (jn l (.loop rb)::Ci k' y') w)→KJ ⟨E.P,some l,E.n,S,w0⟩ (Qr .normal) [] L' C')→
  (∀ id z L' C',invx (.exit id) z→(∀ w,St S w0 C' w→St S w0 (jn l (.loop rb)::Cx (.exit id) z) w)→KJ ⟨E.P,some l,E.n,S,w0⟩ (Qr (.exit id)) [] L' C')→
  (∀ z L' C',invx .ret z→(∀ w,St S w0 C' w→St S w0 (jn l (.loop rb)::Cx .ret z) w)→KJ ⟨E.P,some l,E.n,S,w0⟩ (Qr .ret) [] L' C')→
  WJ ⟨E.P,some l,E.n,S,w0⟩ assign (Exit.then K (fun _ _ _=>False)) [] (yx ps.toList x L0) (jn l (.loop ra)::(Ci k y++[R])))
 (fin: ∀ r s y,fin_ s→inv s y→KJ E (Q .normal) (jT r::D) L0 (jn r (.deferred (some []))::(F++Ci s y)))
 (finx: ∀ r id z,invx (.exit id) z→KJ E (Q (.exit id)) (jT r::D) L0 (jn r (.deferred (some []))::(F++Cx (.exit id) z)))
 (finr: ∀ r z,invx .ret z→KJ E (Q .ret) (jT r::D) L0 (jn r (.deferred (some []))::(F++Cx .ret z))):WJ E (.rangeFunc g ps assign body) Q D L C:=by
 intro a w hf u
 refine wpIn_rangeFunc fun fn _=>?_
 show ∃ l jT w₁ d w₁' f args w₂,(Instr.enterLoop fn a.tmps ps assign body E.r).run E.P w= .ok (l,jT) w₁∧_
 rw [hr]
 obtain ⟨rec,G⟩: ∃ rec:LoopState→Option Code→Loop,rec=fun st pe=>{state:=st,pending:=pe,fn,tmps:=a.tmps,params:=ps,assign,body,defers:=w.heap.size}:=⟨_,rfl⟩
 obtain ⟨W1,T⟩: ∃ W1,(w.alloc (.deferred (some []))).alloc (.loop (rec .ready none))=W1:=⟨_,rfl⟩
 have A1:a.eval g= .func (.func f) fi.toArray ca.toArray:=hf.ev hg
 have q:(Instr.enterLoop fn a.tmps ps assign body none).run E.P w= .ok (w.heap.size+1,[jT w.heap.size]) W1:=by
  rw [← T,G]; exact run_enterLoop_outer _ _ _ _ _
 -- the state with the record and the block
 have AC:St E.S E.w0 ((jn (w.heap.size+1) (.loop (rec .ready none))::Ci s0 y0)++(jn w.heap.size (.deferred (some []))::F)) W1:=by
  have Y:St E.S E.w0 (Ci s0 y0++F) w:=St.jR (isJ++isF) hnd (by have Y:=hJ; have o:=hF; unfold Go.Proofs.YtijpnoadncadoaaGreatDoor.jR at Y o ⊢; rw [List.filterMap_append,Y,o]) u
  have hn:Lh w W1 [jn (w.heap.size+1) (.loop (rec .ready none)),jn w.heap.size (.deferred (some []))]:=by
   refine ⟨fun A hA=>?_,fun A hA b hb=>?_,?_⟩
   ·rcases bW.1 hA with rfl|hA
    ·show W1.heap[w.heap.size+1]? =_
     rw [← T]; have:=World.alloc_heap_new (w.alloc (.deferred (some []))) (.loop (rec .ready none)); rwa [World.size_alloc] at this
    ·simp only [cu] at hA; subst hA
     show W1.heap[w.heap.size]? =_
     rw [← T]; exact (Below.heap_alloc _ _ _ sm).trans (World.alloc_heap_new w _)
   ·rcases bW.1 hA with rfl|hA
    ·have:b=w.heap.size+1:=hb
     omega
    ·simp only [cu] at hA; subst hA
     have:b=w.heap.size:=hb
     omega
   ·refine List.Pairwise.cons (fun B hB b Y o=>?_) (List.pairwise_singleton _ _)
    simp only [cu] at hB; subst hB
    have X:b=w.heap.size+1:=Y
    have O:b=w.heap.size:=o
    omega
  have hk:dV no w W1:=by rw [← T]; exact (dV.alloc no w _).trans (dV.alloc no _ _)
  have o:=Y.grow hk hn
  refine o.perm ?_
  simp only [List.cons_append,List.nil_append]
  exact List.Perm.cons _ (List.perm_middle.symm)
 have i:=AC.tied
 obtain ⟨H,A6⟩:=List.pairwise_cons.1 i.sep
 have Am:=i.holds _ (cH ..)
 let J:σ→aB→Prop:=fun k A=> ∃ y,inv k y∧A=bU (jn (w.heap.size+1) (.loop (rec .ready none))::Ci k y)
 let Z:aB→Prop:=fun A=> ∃ c z,(c= .ret∨ ∃ id,c= .exit id)∧invx c z∧A=bU (jn (w.heap.size+1) (.loop (rec .done (some c)))::Cx c z)
 refine ⟨w.heap.size+1,[jT w.heap.size],W1,{target:= .fn (.func f) ca.toArray,args:=fi.toArray++ #[.func (.yield (w.heap.size+1)) #[] #[]]},W1,f,
  (fi++Value.func (.yield (w.heap.size+1)) #[] #[]::ca).toArray,W1,q,?_,fun _ _=>trivial,?_,fun h=>by simp at h,?_⟩
 ·simp only [resolve,A1]
  simp [Deferred.ofValue,Act.eval]
 ·have:fi.toArray++ #[Value.func (.yield (w.heap.size+1)) #[] #[]]++ca.toArray=(fi++Value.func (.yield (w.heap.size+1)) #[] #[]::ca).toArray:=by simp
  simp [invoke,nc hs.go]
 ·refine (o2 E.r (hs.run (w.heap.size+1) J Z _ W1 ?_ ⟨y0,h0,U⟩ Am ?_ ?_)).mono ?_
  ·-- a round
   rintro k x R k' A W hx ⟨y,hy,rfl⟩ A0 hA
   have hl:W.heap[w.heap.size+1]? =some (.loop (rec .ready none)):=(hA.1 _ (cH ..)).1 _ (cH ..)
   have AN:=run_yield (P:=E.P) (args:=x.toArray) hl (by rw [G]; simpa using hps k x R k' hx)
   rw [G] at AN
   refine ⟨fn,_,assign,body,AN,roundIn_of_wpIn trivial ?_⟩
   let A:aB:=bU [bU (jn (w.heap.size+1) (.loop (rec .ready none))::Ci k y),R]
   have A2:Fr E.n [] (yx ps.toList x L0) {tmps:=(ps.zip x.toArray).foldl (fun tmps (t,a)=>tmps.setIfInBounds t a) a.tmps,defers:=[]}:=by
    have Y:=Es ps.toList x L0 a.tmps (fun t ht=>by have:=de.1 hpn t ht; rwa [Nat.blt_eq] at this) ⟨rfl,hf.size,fun t v hv=>hf.at_ t v (hL t v hv)⟩
    rw [← Array.foldl_toList]
    simpa using Y
   have p: ∀ (c:Option Code) (b:Bool),({rec .busy none with state:=if b then .ready else .done,pending:=c}:Loop)=rec (if b then .ready else .done) c:=fun c b=>by rw [G]
   have AA: ∀ (c:Option Code) (N:World) (C':List aB) (S:BS),St S W (jn (w.heap.size+1) (.loop (rec .busy none))::C') N→
    ∃ M,(Instr.endRound (w.heap.size+1) c).run E.P N= .ok (.bool c.isNone) M∧St S W (jn (w.heap.size+1) (.loop (rec (if c.isNone then .ready else .done) c))::C') M:=fun c N C' S H=>by
    have AB:N.heap[w.heap.size+1]? =some (.loop (rec .busy none)):=H.holds _ (cH ..)
    refine ⟨_,run_endRound c AB,?_⟩
    have:=H.ze (b:=w.heap.size+1) (A':=jn (w.heap.size+1) (.loop (rec (if c.isNone then .ready else .done) c))) 0 rfl rfl rfl (hH _) (fun _ h=>h) (World.putObj_heap_same (dN AB))
    rw [p]
    exact this
   refine round k x R k' y (w.heap.size+1) (rec .ready none) (rec .busy none) ⟨A.wf,A.fE⟩ W _ (roundPost E.P (w.heap.size+1) (fun e w'=>(e= .returned (.bool true)∧ ∃ B,J k' B∧Mv A B W w')∨(e= .returned (.bool false)∧ ∃ B,Z B∧Mv A B W w'))) (Nat.le_trans (Nat.le_trans u.keeps.size (by rw [← T]; simp; omega)) A0) hx hy ?_ ?_ ?_ ?_ _ _ A2 (by have:=(St.zR hA).ja; simpa using this)
   ·intro L' C' hW a1 N j H
    have AB:N.heap[w.heap.size+1]? =some (.loop (rec .ready none)):=H.holds _ (cH ..)
    refine ⟨_,run_beginRound AB (by rw [G]),hW _ _ j ?_⟩
    have:=H.ze (b:=w.heap.size+1) (A':=jn (w.heap.size+1) (.loop (rec .busy none))) 0 rfl rfl rfl (hH _) (fun _ h=>h) (World.putObj_heap_same (dN AB))
    have e:({rec .ready none with state:= .busy}:Loop)=rec .busy none:=by rw [G]
    rw [e]; exact this
   ·intro y' L' C' hy' hC' a1 N j H
    obtain ⟨M,X,O⟩:=AA none N _ _ (hC' _ H)
    exact ⟨_,M,X,.inl ⟨U,_,⟨y',hy',U⟩,Mv.of O⟩⟩
   ·intro id z L' C' hz hC' a1 N j H
    obtain ⟨M,X,O⟩:=AA (some (.exit id)) N _ _ (hC' _ H)
    exact ⟨_,M,X,.inr ⟨U,_,⟨_,z,.inr ⟨id,U⟩,hz,U⟩,Mv.of O⟩⟩
   ·intro z L' C' hz hC' a1 N j H
    obtain ⟨M,X,O⟩:=AA (some .ret) N _ _ (hC' _ H)
    exact ⟨_,M,X,.inr ⟨U,_,⟨_,z,.inl U,hz,U⟩,Mv.of O⟩⟩
  ·intro A hA
   obtain ⟨B,hB,hc⟩:=hCp A hA
   exact hc.holds _ (i.holds B (dR _ (dR _ hB)))
  ·intro A hA b hb hb'
   obtain ⟨B,hB,hc⟩:=hCp A hA
   exact ⟨(H B (dR _ hB) b hb (hc.fE b hb')).1,fun h=>h⟩
  ·rintro e w' ⟨v,rfl,hh⟩
   have V:Fr E.n (jT w.heap.size::D) L0 {a with defers:=[jT w.heap.size]++a.defers}:=⟨by simp [hf.defers],hf.size,fun t v hv=>hf.at_ t v (hL t v hv)⟩
   have hleave: ∀ (st:LoopState) (c:Option Code) (C':List aB),st≠ .busy→Mv (bU (jn (w.heap.size+1) (.loop (rec .ready none))::Ci s0 y0)) (bU (jn (w.heap.size+1) (.loop (rec st c))::C')) W1 w'→
    ∃ M,(Instr.endLoop (w.heap.size+1)).run E.P w'= .ok c M∧St E.S E.w0 (jn w.heap.size (.deferred (some []))::(F++C')) M:=fun st c C' A4 m=>by
    have Y:=(i.mv 0 rfl m).ja
    have h1':St E.S E.w0 ((jn (w.heap.size+1) (.loop (rec st c))::C')++(jn w.heap.size (.deferred (some []))::F)) w':=Y
    have AB:w'.heap[w.heap.size+1]? =some (.loop (rec st c)):=h1'.holds (jn (w.heap.size+1) (.loop (rec st c))) sm
    refine ⟨_,by have:=run_endLoop (P:=E.P) AB (by rw [G]; exact A4); rw [this,G],?_⟩
    have o:=h1'.ze (b:=w.heap.size+1) (A':=jn (w.heap.size+1) (.loop {rec st c with state:= .exhausted})) 0 rfl rfl rfl (hH _) (fun _ h=>h) (World.putObj_heap_same (dN AB))
    have h3:St E.S E.w0 (C'++(jn w.heap.size (.deferred (some []))::F)) _:=o.take (List.sublist_cons_self _ _)
    rw [G] at h3
    refine h3.perm ?_
    exact (List.perm_append_comm).trans sm
   rcases hh with ⟨s,B,A3,⟨y,hy,rfl⟩,m⟩|⟨B,⟨c,z,hc,hz,rfl⟩,m⟩
   ·obtain ⟨M,X,O⟩:=hleave .ready none _ sm m
    exact ⟨none,M,X,fin w.heap.size s y A3 hy _ _ V O⟩
   ·obtain ⟨M,X,O⟩:=hleave .done (some c) _ sm m
    refine ⟨some c,M,X,?_⟩
    rcases hc with rfl|⟨id,rfl⟩
    ·exact wpIn_ret (finr w.heap.size z hz _ _ V O)
    ·exact wpIn_exit (finx w.heap.size id z hz _ _ V O)
end
section
abbrev Pe:=List (Int×Bool)
section
variable {m:Pe} {P Q:Int→Prop} {k:Int}
end
/-- two rows that go up and have the same numbers, each once -/
theorem GJ {a b:List Int} (ha:a.Pairwise (· ≤ ·)) (hb:b.Pairwise (· ≤ ·)) (na:a.Nodup) (nb:b.Nodup) (h: ∀ x,x∈a↔x∈b):a=b:=
 sw ((List.perm_ext_iff_of_nodup na nb).2 h) ha hb
section
variable {m left:sT} {i n x:Int} {y:ai}
end
section
variable {m:sT} {i:Int} {own:ai} {ys:List Int} {nev ranks:Pe} {n a b:Int}
end
section
variable {nw left rk:Pe} {N R:Int→Prop} {u:Int} {v:Bool}
end
section
variable {m left:sT} {i x n:Int} {own y:ai} {ys:List Int}
end
section
variable {r:e7} {h i:Int} {ht:List aC} {d:aC}
end
end
section
def PJ (f:Int→ai) (g:List Int):Prop:= ∀ t,(∃ a∈g,(f a).Lo<t)→(∃ b∈g,t≤(f b).Lo)→ ∃ c∈g,(f c).Lo<t∧t≤(f c).Hi
def P9 (f:Int→ai) (g h:List Int):Prop:= ∀ a∈g,∀ b∈h,(f a).Hi<(f b).Lo
structure Sl (f:Int→ai) (keys:List Int) (G:List (List Int)):Prop where
 perm:G.flatten.Perm keys
 some_: ∀ g∈G,g≠[]
 apart:G.Pairwise (P9 f)
 tight: ∀ g∈G,PJ f g
section
variable {f:Int→ai} {keys:List Int} {G G':List (List Int)} {g h:List Int} {x:Int}
end
section
variable {f:Int→ai} {p:List Int} {G:List (List Int)} {g:List Int} {x last:Int}
end
end
section
open Go.RowKit
/-- a map, or nil -/
def oC (o:Option Nat):List Value:=[Value.map o]
theorem AA {α:Type}: ∀ {ms:List α} {asl:List Nat},ms.length=asl.length→List.zipWith gD ms asl=(asl.map some).map oC
 |[],[],_=>rfl
 |[],_::_,h=>by simp at h
 |_::_,[],h=>by simp at h
 |x::ms,y::asl,h=>by simp only [List.zipWith_cons_cons,List.map_cons,AA (ms:=ms) (asl:=asl) (by simpa using h)]; rfl
/-- what stands for all but one -/
def jd {M A:Type} (f:M→A→List aB) (ms:List M) (asl:List A) (k:Nat):List aB:=bo f (ms.take k) (asl.take k)++bo f (ms.drop (k+1)) (asl.drop (k+1))
theorem rJ {M A:Type} {f:M→A→List aB}: ∀ {ms:List M} {asl:List A} {k:Nat} {m:M} {a:A},ms[k]? =some m→asl[k]? =some a→(bo f ms asl).Perm (f m a++jd f ms asl k)
 |[],_,k,m,a,h,_=>by simp at h
 |_::_,[],k,m,a,_,h=>by simp at h
 |x::ms,y::asl,0,m,a,h,h2=>by
  simp at h h2; subst h h2
  simp [jd,bo]
 |x::ms,y::asl,k+1,m,a,h,h2=>by
  have ih:=rJ (f:=f) (ms:=ms) (asl:=asl) (k:=k) (by simpa using h) (by simpa using h2)
  show (f x y++bo f ms asl).Perm (f m a++jd f (x::ms) (y::asl) (k+1))
  have e:jd f (x::ms) (y::asl) (k+1)=f x y++jd f ms asl k:=by simp [jd,bo,List.append_assoc]
  rw [e]
  refine (ih.append_left (f x y)).trans ?_
  rw [← List.append_assoc,← List.append_assoc]
  exact List.perm_append_comm.append_right _
theorem GF {M A:Type} {f:M→A→List aB} {ms:List M} {asl:List A} {k:Nat} {m':M}:jd f (ms.set k m') asl k=jd f ms asl k:=by
 unfold jd
 rw [List.take_set_of_le (Nat.le_refl k),List.drop_set_of_lt (Nat.lt_succ_self k)]
theorem uS {S:BS} {w0 w:World} {C X Y:List aB} (hp:X.Perm Y) (h:St S w0 (bU X::C) w):St S w0 (bU Y::C) w:=by
 have A:St S w0 (X++C) w:=h.ja
 exact (A.perm (hp.append_right C)).tied
theorem St.out {M A:Type} {f:M→A→List aB} {S:BS} {w0 w:World} {C:List aB} {ms:List M} {asl:List A} {k:Nat} {m:M} {a:A} {X:aB} (hm:ms[k]? =some m) (ha:asl[k]? =some a) (hf:f m a=[X]) (h:St S w0 (bU (bo f ms asl)::C) w):St S w0 (X::bU (jd f ms asl k)::C) w:=by
 have B:=(uS (rJ hm ha) h).ja
 rw [hf] at B
 have D:St S w0 (jd f ms asl k++(X::C)) w:=B.perm (List.perm_middle (a:=X) (l₁:=jd f ms asl k) (l₂:=C)).symm
 exact D.tied.perm (List.Perm.swap _ _ _)
theorem St.back {M A:Type} {f:M→A→List aB} {S:BS} {w0 w:World} {C:List aB} {ms:List M} {asl:List A} {k:Nat} {m':M} {a:A} {X:aB} (hk:k<ms.length) (ha:asl[k]? =some a) (hf:f m' a=[X]) (h:St S w0 (X::bU (jd f ms asl k)::C) w):St S w0 (bU (bo f (ms.set k m') asl)::C) w:=by
 have B:St S w0 (bU (jd f ms asl k)::X::C) w:=h.perm (List.Perm.swap _ _ _)
 have D:=B.ja
 have E:St S w0 ((f m' a++jd f (ms.set k m') asl k)++C) w:=by
  rw [hf,GF]
  exact D.perm (List.perm_middle (a:=X) (l₁:=jd f ms asl k) (l₂:=C))
 exact uS (rJ (List.getElem?_set_self hk) ha).symm E.tied
section
variable {E:fB} {ops:Array Oper} {Q:dk} {rest:List Oper} {D:List Deferred} {L:List (Nat×Value)} {C C1:List aB}
variable {M A:Type} {f:M→A→List aB} {ms:List M} {asl:List A} {k:Nat} {m:M} {a:A} {X:aB}
theorem yE {c:Code} (i:Nat) (hm:ms[k]? =some m) (ha:asl[k]? =some a) (hf:f m a=[X]) (hn:decide (i::(List.range C.length).filter fun k=>k != i).Nodup=true) (hC:jR C (i::(List.range C.length).filter fun k=>k != i)=bU (bo f ms asl)::C1)
 (h:WJ E c Q D L (X::bU (jd f ms asl k)::C1)):WJ E c Q D L C:=fun a w hf' hs=>h a w hf' (St.out hm ha hf (St.jR _ hn hC hs))
theorem AF {K:Act→World→Prop} (i j:Nat) (hk:k<ms.length) (ha:asl[k]? =some a) (hf:f m a=[X]) (hn:decide (j::i::(List.range C.length).filter fun k=>k != i&&k != j).Nodup=true) (hC:jR C (j::i::(List.range C.length).filter fun k=>k != i&&k != j)=X::bU (jd f ms asl k)::C1)
 (h:KJ E K D L (bU (bo f (ms.set k m) asl)::C1)):KJ E K D L C:=fun a w hf' hs=>h a w hf' (St.back hk ha hf (St.jR _ hn hC hs))
end
end
section
open Go.RowKit
def ru (l:List Int) (a:RA):List Value:=[vS a.1 l.length a.2]
def C_ (l:List Int) (a:RA):List aB:=[rd a.1 l.length 1 (l.map iC)]
def GB (l:List Int) (a:RA):List aB:=[own a.1 a.2 On 1 (l.map iC)]
theorem pj: ∀ (m:List Int) (a:RA) (w:World),(∀ X∈GB m a,X.holds w)→ ∀ X∈C_ m a,X.holds w:=fun m a w h X hX=>by
 simp only [C_,cu] at hX
 subst hX
 have:=nU (h _ (cu.2 rfl))
 simpa using this
theorem wQ {l:List (List Int)} {bz:List RA}:(bU (bo GB l bz)).wr=true:=by
 show (bo GB l bz).all (·.wr)=true
 rw [de]
 intro X hX
 obtain ⟨k,m,a,_,_,h⟩:=j_ hX
 simp only [GB,cu] at h
 subst h; rfl
theorem jf {ls:List (List Int)} {az:List RA} (h:az.length=ls.length):(List.zipWith ru ls az).length=ls.length:=by simp [h]
theorem MO (l:List (List Int)) (az:List RA): ∀ v∈(List.zipWith ru l az).flatten,v.oneCell'=true:=by
 induction l generalizing az with
 |nil=>intro v hv; simp at hv
 |cons x l ih=>
  cases az with
  |nil=>intro v hv; simp at hv
  |cons a az=>
   intro v hv
   rw [List.zipWith_cons_cons,List.flatten_cons,gI] at hv
   rcases hv with hv|hv
   ·simp [ru] at hv; subst hv; rfl
   ·exact ih az v hv
section
variable {M A:Type} {f:M→A→List aB} {ms:List M} {asl:List A} {k:Nat} {m:M} {a:A} {X:aB}
theorem IH {β:Type} {c:M→A→β}:(List.zipWith c ms asl).set k (c m a)=List.zipWith c (ms.set k m) (asl.set k a):=by
 apply List.ext_getElem?
 intro j
 rw [List.getElem?_set]
 by_cases e:k=j
 ·subst e
  rw [if_pos rfl,List.length_zipWith,List.getElem?_zipWith,List.getElem?_set,List.getElem?_set,if_pos rfl,if_pos rfl]
  by_cases B:k<ms.length
  ·by_cases C:k<asl.length
   ·rw [if_pos om,if_pos B,if_pos C]
   ·rw [if_neg om,if_pos B,if_neg C]
  ·rw [if_neg om,if_neg B]
 ·rw [if_neg e,List.getElem?_zipWith,List.getElem?_zipWith,List.getElem?_set_ne e,List.getElem?_set_ne e]
variable {E:fB} {ops:Array Oper} {Q:dk} {rest:List Oper} {D:List Deferred} {L:List (Nat×Value)} {C C1:List aB}
abbrev LI (C:List aB) (i j:Nat):List Nat:=j::i::(List.range C.length).filter fun k=>k != i&&k != j
theorem OE {Y Y':List aB} (i j:Nat) (hn:decide (LI C i j).Nodup=true) (hC:oj C (LI C i j)=some (X::bU Y::C1)) (e:Y++[X]=Y') (h:RJ E ops Q rest D L (bU Y'::C1)):RJ E ops Q rest D L C:=fun a w hf hs=>h a w hf ((St.jR _ hn (ni hC) hs).tie e)
theorem Pk {K:Act→World→Prop} {Y Y':List aB} (i j:Nat) (hn:decide (LI C i j).Nodup=true) (hC:oj C (LI C i j)=some (X::bU Y::C1)) (e:Y++[X]=Y') (h:KJ E K D L (bU Y'::C1)):KJ E K D L C:=fun a w hf hs=>h a w hf ((St.jR _ hn (ni hC) hs).tie e)
end
theorem Ep {M A:Type} {f:M→A→List aB} {ms:List M} {asl:List A} {m:M} {a:A} {X:aB} (h:ms.length=asl.length) (hf:f m a=[X]):bo f ms asl++[X]=bo f (ms++[m]) (asl++[a]):=by
 rw [jA h]; simp [bo,hf]
theorem Hl {M A β:Type} {f:M→A→β} {ms:List M} {asl:List A} {m:M} {a:A} (h:ms.length=asl.length):List.zipWith f ms asl++List.zipWith f [m] [a]=List.zipWith f (ms++[m]) (asl++[a]):=(List.zipWith_append h).symm
section
variable {f:Int→ai} {L:List Int} {G:List (List Int)} {g:List Int} {x last:Int} {i j:Nat}
end
end
section
open Go.RowKit
/-- the faults that a map of places says -/
def lJ (fs:List aW) (m:List (Int×Bool)) (f:aW):Prop:=(List.lookup (oT fs f) m).getD false=true
/-- what comes next: the row of a heat, in memory of its own -/
def IQ (G:List (List Int)) (k:Nat) (x:List Value) (R:aB) (k':Nat):Prop:= ∃ (a:OA) (c:Nat) (row:List Int),G[k]? =some row∧x=[vS a row.length c]∧R=own a c On 1 (row.map iC)∧k'=k+1
section
variable {l:br} {fs:List aW} {m:List (Int×Bool)} {d:aC} {h:List aC} {j:bS} {F G:aW→Prop} {k n q:Nat} {f f0:aW}
noncomputable def lx (l:br) (fs:List aW) (m:List (Int×Bool)) (h:List aC) (s:Nat):Bool:=(h[s]?).any fun d=> @decide (HG l (lJ fs m) fs d) (Classical.propDecidable _)
theorem LB:(fs.any fun f=>((List.lookup (oT fs f) m).getD false)&& !decide (g6 l f d=0))= @decide (HG l (lJ fs m) fs d) (Classical.propDecidable _):=by
 rw [Bool.eq_iff_iff,List.any_eq_true,@decide_eq_true_iff _ (Classical.propDecidable _)]
 constructor
 ·rintro ⟨f,hf,hb⟩
  rw [dg,Bool.not_eq_true',decide_eq_false_iff_not] at hb
  exact ⟨f,hf,hb.1,hb.2⟩
 ·rintro ⟨f,hf,A,B⟩
  exact ⟨f,hf,by rw [dg,Bool.not_eq_true',decide_eq_false_iff_not]; exact ⟨A,B⟩⟩
theorem Ez (hd:h[q]? =some d):lx l fs m h q=(fs.any fun f=>((List.lookup (oT fs f) m).getD false)&& !decide (g6 l f d=0)):=by
 unfold lx; rw [hd,LB]; rfl
theorem Ip {ht:List aC} (hh:j.Race.aD[k]? =some ht):(ij j (lJ j.aA m))[k]? =some (ml (lx j.Race.ar j.aA m ht) ht.length):=wE hh
/-- only who is told, of faults of the row -/
theorem BT (h: ∀ f∈j.aA,(F f↔G f)):ij j F=ij j G:=by
 unfold ij
 apply List.map_congr_left
 intro x _
 exact GG h
end
def wa (fs:List aW) (gs:List aW):List (Int×Bool):=gs.foldl (fun m f=>ep m (oT fs f) true) []
section
variable {fs gs:List aW} {f g:aW} {m:List (Int×Bool)}
theorem Hx {x y:Int}:(List.lookup y (ep m x true)).getD false=true↔y=x∨(List.lookup y m).getD false=true:=by
 rw [lH]
 by_cases e:y=x
 ·rw [if_pos e]; simp [e]
 ·rw [if_neg e]; simp [e]
theorem EM: ∀ {gs:List aW} {m:List (Int×Bool)} {y:Int},(List.lookup y (gs.foldl (fun m f=>ep m (oT fs f) true) m)).getD false=true↔(∃ g∈gs,y=oT fs g)∨(List.lookup y m).getD false=true
 |[],m,y=>by simp
 |g::gs,m,y=>by
  rw [List.foldl_cons,EM (gs:=gs),Hx]
  constructor
  ·rintro (⟨u,A,B⟩|h|h)
   ·exact .inl ⟨u,dR _ A,B⟩
   ·exact .inl ⟨g,cH,h⟩
   ·exact .inr h
  ·rintro (⟨u,A,B⟩|h)
   ·rcases bW.1 A with rfl|A
    ·exact .inr (.inl B)
    ·exact .inl ⟨u,A,B⟩
   ·exact .inr (.inr h)
theorem QR (hg: ∀ g∈gs,g∈fs) (hf:f∈fs):lJ fs (wa fs gs) f↔f∈gs:=by
 unfold lJ wa
 rw [EM]
 constructor
 ·rintro (⟨g,A,B⟩|h)
  ·rw [IN hf (hg g A) B]; exact A
  ·simp at h
 ·intro h; exact .inl ⟨f,h,rfl⟩
theorem GA:wa fs (gs++[g])=ep (wa fs gs) (oT fs g) true:=by unfold wa; rw [List.foldl_append]; rfl
end
noncomputable def F3 (j:bS) (t:Nat):List aW:=((iy j).take t).filterMap fun i=>(j.ao[i.toNat]?).bind fun p=>j.aA[p.ew.toNat]?
section
variable {j:bS} {t:Nat} {i:Int} {p:aJ} {f g:aW}
theorem I7 (hi:(iy j)[t]? =some i) (hp:j.ao[i.toNat]? =some p) (hf:j.aA[p.ew.toNat]? =some f):F3 j (t+1)=F3 j t++[f]:=by
 unfold F3
 rw [List.take_add_one,hi,List.filterMap_append]
 simp [hp,hf]
theorem Mk: ∀ g∈F3 j t,g∈j.aA:=fun g h=>by
 obtain ⟨i,_,A⟩:=List.mem_filterMap.1 h
 cases e:j.ao[i.toNat]? with
 |none=>rw [e] at A; cases A
 |some p=>rw [e] at A; exact aQ A
theorem ML (ht:(iy j).length≤t):f∈F3 j t↔my j f:=by
 unfold F3
 rw [List.take_of_length_le ht,List.mem_filterMap]
 constructor
 ·rintro ⟨x,hx,h⟩
  obtain ⟨i,_,rfl,p,hp,hg⟩:=p6.1 hx
  rw [Int.toNat_natCast,hp] at h
  exact ⟨i,p,hp,hg,h⟩
 ·rintro ⟨i,p,hp,hg,hf⟩
  exact ⟨(i:Int),p6.2 ⟨i,(aX.1 hp).1,U,p,hp,hg⟩,by rw [Int.toNat_natCast,hp]; exact hf⟩
theorem D5 (ht:(iy j).length≤t):ij j (lJ j.aA (wa j.aA (F3 j t)))=jv j:=
 BT fun f hf=>(QR Mk hf).trans (ML ht)
theorem G4 (hi:(iy j)[t]? =some i): ∃ k:Nat,i=(k:Int)∧k<j.ao.length:=by
 obtain ⟨k,A,B,_⟩:=p6.1 (aQ hi)
 exact ⟨k,B,A⟩
theorem yl:(iy j).length≤j.ao.length:=oZ
end
end
section
open Go.RowKit
theorem w6 {α:Type} {l:List α} {k:Nat} {x:α} (h:l[k]? =some x):l.take (k+1)=l.take k++[x]:=by rw [List.take_add_one,h]; rfl
theorem DC {a b:Int} (h1: -60000≤a∧a≤60000) (h2:0≤b∧b≤100000): -9223372036854775808≤a*b∧a*b≤9223372036854775807:=by
 have A:=Int.mul_le_mul_of_nonneg_right h1.1 h2.1
 have B:=Int.mul_le_mul_of_nonneg_right h1.2 h2.1
 omega
def mx (j:bS) (k h s:Int):Prop:=(0≤k∧k≤(j.aA.length:Int)-1)∧(0≤h∧h≤(j.Race.aD.length:Int)-1)∧0≤s∧s≤(j.Race.aY.length:Int)-1
instance (j:bS) (k h s:Int):Decidable (mx j k h s):=by unfold mx; infer_instance
noncomputable def oR (j:bS) (k h s:Int):Int:=if db j=0 then (if mx j k h s then 0 else 2) else db j
noncomputable def pM (j:bS) (k h s:Int):Int:=if db j=0∧mx j k h s then (match j.aA[k.toNat]?,(j.Race.aD[h.toNat]?).bind (·[s.toNat]?) with
 |some f,some d=>g6 j.Race.ar f d
 |_,_=>0) else 0
noncomputable def tP (j:bS) (i:Int):Int:=if db j=0 then (if 0≤i∧i≤(j.ao.length:Int)-1 then 0 else 2) else db j
noncomputable def vY (j:bS) (i:Int):Int:=if db j=0∧(0≤i∧i≤(j.ao.length:Int)-1) then (match j.ao[i.toNat]? with
 |some p=>lQ j p
 |none=>0) else 0
noncomputable def cb (j:bS):List Int:=if db j=0 then iy j else []
noncomputable def bT (j:bS):List (List Int):=if db j=0 then jv j else []
noncomputable def zE (j:bS):Int:=if db j=0 then yR j else 0
noncomputable def zW (j:bS):Int:=if db j=0 then E5 j else 0
noncomputable def AB (j:bS) (s:Int) (p:aJ):Bool:=decide (p.eO=s)&& !f_ j p
noncomputable def qK (j:bS) (s:Int):Int:=if db j=0 then (if 0≤s∧s≤(j.Race.aY.length:Int)-1 then 0 else 2) else db j
noncomputable def sJ (j:bS) (s:Int):Int:=if db j=0∧(0≤s∧s≤(j.Race.aY.length:Int)-1) then DL j s else 0
section
variable {j:bS} {k h s i:Int} {f:aW} {ht:List aC} {d:aC} {p:aJ}
theorem Ge (e: ¬ db j=0):pM j k h s=0∧oR j k h s=db j:=⟨if_neg fun q=>e q.1,if_neg e⟩
theorem vq (e:db j=0) (n: ¬ mx j k h s):pM j k h s=0∧oR j k h s=2:=⟨if_neg fun q=>n q.2,by unfold oR; rw [if_pos e,if_neg n]⟩
theorem ua (e:db j=0) (n:mx j k h s) (hf:j.aA[k.toNat]? =some f) (hh:j.Race.aD[h.toNat]? =some ht) (hd:ht[s.toNat]? =some d):pM j k h s=g6 j.Race.ar f d∧oR j k h s=0:=
 ⟨by unfold pM; rw [if_pos ⟨e,n⟩,hf,hh,Option.bind_some,hd],by unfold oR; rw [if_pos e,if_pos n]⟩
theorem H6 (e: ¬ db j=0):vY j i=0∧tP j i=db j:=⟨if_neg fun q=>e q.1,if_neg e⟩
theorem IJ (e:db j=0) (n: ¬ (0≤i∧i≤(j.ao.length:Int)-1)):vY j i=0∧tP j i=2:=⟨if_neg fun q=>n q.2,by unfold tP; rw [if_pos e,if_neg n]⟩
theorem Ay (e:db j=0) (n:0≤i∧i≤(j.ao.length:Int)-1) (hp:j.ao[i.toNat]? =some p):vY j i=lQ j p∧tP j i=0:=
 ⟨by unfold vY; rw [if_pos ⟨e,n⟩,hp],by unfold tP; rw [if_pos e,if_pos n]⟩
theorem xN (e: ¬ db j=0):cb j=[]:=if_neg e
theorem j3 (e:db j=0):cb j=iy j:=if_pos e
theorem vQ (e: ¬ db j=0):bT j=[]:=if_neg e
theorem iD (e:db j=0):bT j=jv j:=if_pos e
theorem GV (e: ¬ db j=0):zE j=0∧zW j=0:=⟨if_neg e,if_neg e⟩
theorem wW (e:db j=0):zE j=yR j∧zW j=E5 j:=⟨if_pos e,if_pos e⟩
theorem Nv (e: ¬ p.eO=s):AB j s p=false:=by unfold AB; rw [bH e]; rfl
theorem K6 (e:p.eO=s):AB j s p= !f_ j p:=by unfold AB; rw [dI e]; rfl
theorem Ke {P:Nat→Bool} {n:Nat}:(ml P n).length=(List.range n).countP P:=by unfold ml; rw [List.length_map,List.countP_eq_length_filter]
theorem F7 (e: ¬ db j=0):sJ j s=0∧qK j s=db j:=⟨if_neg fun q=>e q.1,if_neg e⟩
theorem Gf (e:db j=0) (n: ¬ (0≤s∧s≤(j.Race.aY.length:Int)-1)):sJ j s=0∧qK j s=2:=⟨if_neg fun q=>n q.2,by unfold qK; rw [if_pos e,if_neg n]⟩
theorem Ie (e:db j=0) (n:0≤s∧s≤(j.Race.aY.length:Int)-1):sJ j s= -((ml (ir j.ao fun _ p=>AB j s p) j.ao.length).length:Int)*j.kU∧qK j s=0:=
 ⟨by unfold sJ; rw [if_pos ⟨e,n⟩,Ke]; rfl,by unfold qK; rw [if_pos e,if_pos n]⟩
end
end
section
structure HC (j x:bS):Prop where
 race:x.Race=j.Race
 Am:x.aA=j.aA
 min_:j.bJ≤x.bJ
 gU: ∀ (i:Nat) p,j.ao[i]? =some p→x.ao[i]? =some p
section
variable {j x:bS} {n s:Int} {h k:Nat} {a b:List Int} {f f':aW} {ht:List aC} {d:aC}
theorem N0 (q:HC j x) {p:aJ} (hg:f_ j p=true):f_ x p=true:=FV q.race q.Am q.min_ hg
theorem AD (e:db j=0):n∈cb j↔ ∃ i:Nat,n=(i:Int)∧ ∃ p,j.ao[i]? =some p∧f_ j p=true:=by
 rw [j3 e]
 unfold iy
 rw [p6]
 constructor
 ·rintro ⟨i,_,B,A⟩; exact ⟨i,B,A⟩
 ·rintro ⟨i,B,p,A,C⟩; exact ⟨i,(aX.1 A).1,B,p,A,C⟩
theorem zL (q:HC j x) (e:db j=0) (e':db x=0) (h:n∈cb j):n∈cb x:=by
 obtain ⟨i,A,p,B,C⟩:=(AD e).1 h
 exact (AD e').2 ⟨i,A,p,q.gU i p B,N0 q C⟩
theorem B2 (q:HC j x) (e:db j=0) (e':db x=0) (hm:x.bJ=j.bJ) (h:n∈cb x) (hn:n<(j.ao.length:Int)):n∈cb j:=by
 obtain ⟨i,B,p,C,D⟩:=(AD e').1 h
 have hi:j.ao[i]? =some (j.ao[i]'om):=eN _
 have A:=q.gU i _ hi
 rw [C] at A
 exact (AD e).2 ⟨i,B,p,by rw [hi,← A],by rw [← CF q.race q.Am hm]; exact D⟩
theorem CO (q:HC j x) (hg:my j f):my x f:=by
 obtain ⟨i,p,A,B,C⟩:=hg
 exact ⟨i,p,q.gU i p A,N0 q B,by rw [q.Am]; exact C⟩
theorem z5 (q:HC j x) (e:db j=0) (e':db x=0) (ha:(bT j)[h]? =some a) (hb:(bT x)[h]? =some b) (hs:s∈a):s∈b:=by
 rw [iD e] at ha
 rw [iD e'] at hb
 unfold jv at ha hb
 have hl:=(aX.1 ha).1
 rw [rj] at hl
 have hh:j.Race.aD[h]? =some (j.Race.aD[h]'hl):=eN _
 rw [wE hh] at ha
 rw [wE (by rw [q.race]; exact hh)] at hb
 cases ha
 cases hb
 rw [q.race,q.Am]
 exact I0 (fun f _=>CO q) hs
theorem zT (q:HC j x) (e:db j=0) (e':db x=0):(bT x).length=(bT j).length:=by
 rw [iD e,iD e']
 unfold jv
 rw [rj,rj,q.race]
theorem Ac (e:db j=0):(bT j).length=j.Race.aD.length:=by
 rw [iD e]; exact rj
theorem ND (e:db j=0) (ha:(bT j)[h]? =some a): ∃ ht,j.Race.aD[h]? =some ht∧a.length≤ht.length:=by
 rw [iD e] at ha
 unfold jv at ha
 have hl:=(aX.1 ha).1
 rw [rj] at hl
 have hh:j.Race.aD[h]? =some (j.Race.aD[h]'hl):=eN _
 rw [wE hh] at ha
 cases ha
 exact ⟨_,hh,oZ⟩
/-- another fee -/
theorem B1 (fe:Int) (e:db j=0) (e':db ⟨j.Race,j.aA,j.ao,j.bJ,fe⟩=0):cb ⟨j.Race,j.aA,j.ao,j.bJ,fe⟩=cb j:=by
 rw [j3 e,j3 e']; rfl
theorem IG (fe:Int) (e:db j=0) (e':db ⟨j.Race,j.aA,j.ao,j.bJ,fe⟩=0):bT ⟨j.Race,j.aA,j.ao,j.bJ,fe⟩=bT j:=by
 rw [iD e,iD e']; rfl
theorem Ns (m:Int) (hm:j.bJ≤m):HC j ⟨j.Race,j.aA,j.ao,m,j.kU⟩:=⟨rfl,rfl,hm,fun i p h=>h⟩
theorem Ps (p:aJ):HC j ⟨j.Race,j.aA,j.ao++[p],j.bJ,j.kU⟩:=⟨rfl,rfl,Int.le_refl _,fun i q h=>by
 show (j.ao++[p])[i]? =some q
 rw [List.getElem?_append_left (aX.1 h).1]; exact h⟩
theorem Lx (fe:Int):HC j ⟨j.Race,j.aA,j.ao,j.bJ,fe⟩:=⟨rfl,rfl,Int.le_refl _,fun i p h=>h⟩
end
end
section
section
variable {j:bS} {m n i:Nat} {p:aJ} {s:Int}
theorem zA (e:db j=0):(cb j).length≤j.ao.length:=by rw [j3 e]; exact oZ
theorem mT (e:db j=0): ∀ l∈bT j,l.length≤1000000:=fun l hl=>by
 obtain ⟨h,hh⟩:=List.getElem?_of_mem hl
 obtain ⟨ht,A,B⟩:=ND e hh
 have C:=((eX (eE e).1).2.gL ht (aQ A)).1
 have D:=(eX (eE e).1).2.num
 omega
end
end
section
theorem Nc {r:e7} {bz:List RA} {hz:List cZ} (h:ld r bz hz):rL r bz hz:=by
 obtain ⟨hl,C,D,E,A,B⟩:=h
 refine ⟨⟨by have:=hl.se; omega,hl.side,by have:=hl.sb; omega,hl.nP,by have:=hl.r9; omega,fun k m a hm ha=>by have:=hl.Qv k m a hm ha; omega⟩,om,om,om,A,fun k x a hx ha=>?_⟩
 have q:=B k x a hx ha
 exact ⟨by have:=q.len; omega,q.nP,fun d hd=>by have:=q.sig d hd; omega⟩
theorem Ai {j:bS} {bz:List RA} {hz:List cZ} (h:gp j bz hz) {ps:List aJ} {m fe:Int} (hp:ps.length≤1000001):mA ⟨j.Race,j.aA,ps,m,fe⟩ bz hz:=⟨Nc h.race,by have:=h.nf; show j.aA.length≤_; omega,by show ps.length≤_; omega,h.kind⟩
end
section
open Go.RowKit
/-- a row is taken that was made before; an operation -/
inductive fZ where
 |take (i:Nat)
 |op (j:Nat)
def fZ.ix:fZ→Nat
 | .take i=>i
 | .op j=>j
def A_ (dO:Nat→Nat):List fZ→List Nat
 |[]=>[]
 | .take i::s=>dO i::A_ dO s
 | .op _::s=>A_ dO s
theorem tG {dO:Nat→Nat} {i:Nat}: ∀ {s:List fZ},fZ.take i∈s→dO i∈A_ dO s
 | .take k::s,h=>by
  rcases bW.1 h with e|h
  ·cases e; exact cH ..
  ·exact dR _ (tG h)
 | .op k::s,h=>by
  rcases bW.1 h with e|h
  ·cases e
  ·exact tG (s:=s) h
def rB (m:Array Nat) (dO:Nat→Nat) (x y:fZ):Bool:=x.ix != y.ix&&(match y with | .op j=>iZ m x.ix j| .take i=>match x with | .take k=>dO k != dO i| .op _=>true)
def TC (m:Array Nat) (dO:Nat→Nat):List fZ→Bool
 |[]=>true
 |x::s=>s.all (rB m dO x)&&TC m dO s
theorem Fa {m:Array Nat} {dO:Nat→Nat}: ∀ {s:List fZ},TC m dO s=true→s.Pairwise fun x y=>rB m dO x y=true
 |[],_=>List.Pairwise.nil
 |x::s,h=>by
  simp only [TC,dg] at h
  exact List.Pairwise.cons (fun y hy=>de.1 h.1 y hy) (Fa h.2)
/-- what is known of the slots B is known in L -/
def B5 (B L:dD):Prop:= ∀ t v,B.lookup t=some v→L.lookup t=some v
theorem AK {B L:dD} (h:B.map (fun p=>L.lookup p.1)=B.map (fun p=>some p.2)):B5 B L:=by
 induction B with
 |nil=>intro t v h; simp at h
 |cons p B ih=>
  obtain ⟨k,u⟩:=p
  simp only [List.map_cons,List.cons.injEq] at h
  intro t v hl
  by_cases e:t=k
  ·subst e
   simp only [List.lookup,beq_self_eq_true,Option.some.injEq] at hl
   rw [h.1,hl]
  ·have:(t==k)=false:=by simpa using e
   simp only [List.lookup,this] at hl
   exact ih h.2 t v hl
theorem og {L Y:dD} {t:Nat}:(L++Y).lookup t=match L.lookup t with |some v=>some v|none=>Y.lookup t:=by
 induction L with
 |nil=>rfl
 |cons p L ih=>
  obtain ⟨k,u⟩:=p
  by_cases e:t==k
  ·simp [List.lookup,e]
  ·have:(t==k)=false:=by simpa using e
   simp only [List.cons_append,List.lookup,this,ih]
theorem B5.app {B L Y:dD} (h:B5 B L):B5 B (L++Y):=fun t v ht=>by rw [og,h t v ht]
theorem Pj {B L:dD} (h:B5 B L) {x:Operand} {v:Value} (hv:ev B x=some v):ev L x=some v:=by
 cases x<;>simp only [ev] at hv ⊢ <;>first|exact h _ _ hv|exact hv
theorem Fu {B L:dD} (h:B5 B L): ∀ {xs:List Operand} {vs:List Value},evs B xs=some vs→evs L xs=some vs
 |[],vs,hv=>hv
 |x::xs,vs,hv=>by
  simp only [evs] at hv ⊢
  cases e1:ev B x with
  |none=>rw [e1] at hv; simp at hv
  |some v=>
   cases e2:evs B xs with
   |none=>rw [e1,e2] at hv; simp at hv
   |some us=>
    rw [e1,e2] at hv
    rw [Pj h e1,Fu h e2]; exact hv
section
variable (E:fB) (ops:Array Oper) (D:List Deferred) (C':List aB) (K0:Act→World→Prop) (B:List (Nat×Value)) (dO:Nat→Nat) (VO:Nat→Nat→Value) (AO:Nat→Nat→aB)
def CH:List fZ→dD→List aB→Prop
 |[],L,C=>KJ E K0 D L C
 | .take i::s,L,C=> ∀ b,CH s ((dO i,VO i b)::L) (AO i b::C)
 | .op j::s,L,C=> ∀ o,ops[j]? =some o→ ∀ (Y:dD) (X:List aB) (K:Act→World→Prop),(∀ L' C'',(∀ w,St E.S E.w0 C'' w→St E.S E.w0 C' w)→((A_ dO s).all fun d=>(L'.lookup d).isNone)=true→B.map (fun p=>L'.lookup p.1)=B.map (fun p=>some p.2)→CH s L' C''→KJ E K D (L'++Y) (C''++X))→RJ E ops (NQ K) [o] D (L++Y) (C++X)
/-- a row that is made at any time -/
def Qx (i:Nat):Prop:= ∀ o,ops[i]? =some o→ ∀ (L:dD) (C:List aB) (K:Act→World→Prop),B5 B L→(∀ w,St E.S E.w0 C w→St E.S E.w0 C' w)→(∀ b,KJ E K D ((dO i,VO i b)::L) (AO i b::C))→RJ E ops (NQ K) [o] D L C
end
section
variable {E:fB} {ops:Array Oper} {D:List Deferred} {C' C1:List aB} {K0:Act→World→Prop} {B:List (Nat×Value)} {dO:Nat→Nat} {VO:Nat→Nat→Value} {AO:Nat→Nat→aB}
theorem MZ {Q:dk} {rest:List Oper} {L L2:dD} {C C2:List aB} (hL: ∀ a,Fr E.n D L a→Fr E.n D L2 a) (hC: ∀ w,St E.S E.w0 C w→St E.S E.w0 C2 w) (h:RJ E ops Q rest D L2 C2):RJ E ops Q rest D L C:=fun a w hf hs=>h a w (hL a hf) (hC w hs)
theorem E9 {K:Act→World→Prop} {L L2:dD} {C C2:List aB} (hL: ∀ a,Fr E.n D L a→Fr E.n D L2 a) (hC: ∀ w,St E.S E.w0 C w→St E.S E.w0 C2 w) (h:KJ E K D L2 C2):KJ E K D L C:=fun a w hf hs=>h a w (hL a hf) (hC w hs)
theorem E1 {n:Nat} {L L2:dD} (h: ∀ t v,L2.lookup t=some v→L.lookup t=some v) (a:Act) (hf:Fr n D L a):Fr n D L2 a:=⟨hf.defers,hf.size,fun t v ht=>hf.at_ t v (h t v ht)⟩
theorem C8: ∀ (T0 s':List fZ) (dn:List (Nat×Nat)) (L Y:dD) (C:List aB),(∀ x∈T0,∃ i b,x= .take i∧(i,b)∈dn)→(T0++s').Pairwise (fun x y=>rB (qv ops) dO x y=true)→(dn.map (·.1)).Nodup→(∀ p∈dn,fZ.take p.1∈T0++s')→(∀ p∈dn,Y.lookup (dO p.1)=some (VO p.1 p.2))→(∀ i,fZ.take i∈T0++s'→L.lookup (dO i)=none)→
 CH E ops D C' K0 B dO VO AO (T0++s') L C→ ∃ (dn':List (Nat×Nat)) (L':dD) (C2:List aB),CH E ops D C' K0 B dO VO AO s' L' C2∧(dn'.map (·.1)).Nodup∧(∀ p,p∈dn'↔p∈dn∧fZ.take p.1∈s')∧(∀ t v,(L'++Y).lookup t=some v→(L++Y).lookup t=some v)∧(∀ i,fZ.take i∈s'→L'.lookup (dO i)=none)∧(∀ w,St E.S E.w0 (C++dn.map fun p=>AO p.1 p.2) w→St E.S E.w0 (C2++dn'.map fun p=>AO p.1 p.2) w)
 |[],s',dn,L,Y,C,_,_,hn,hm,_,hl,h=>⟨dn,L,C,h,hn,fun p=>⟨fun q=>⟨q,hm p q⟩,fun q=>q.1⟩,fun t v q=>q,hl,fun w q=>q⟩
 |x::T0,s',dn,L,Y,C,ht,hp,hn,hm,hy,hl,h=>by
  obtain ⟨i,b,rfl,hb⟩:=ht x (cH ..)
  obtain ⟨J,P⟩:=List.pairwise_cons.1 hp
  have AB: ∀ y∈T0++s',i≠y.ix:=fun y hy e=>by
   have:=J y hy
   simp only [rB,dg,bne_iff_ne,fZ.ix] at this
   exact this.1 e
  have N: ∀ k,fZ.take k∈T0++s'→dO k≠dO i:=fun k hk e=>by
   have:=J _ hk
   simp only [rB,dg,bne_iff_ne] at this
   exact this.2 e.symm
  have K:dn.Perm ((i,b)::dn.erase (i,b)):=List.perm_cons_erase hb
  have H:((dn.erase (i,b)).map (·.1)).Nodup∧i ∉ (dn.erase (i,b)).map (·.1):=by
   have:=(K.map (·.1)).nodup_iff.1 hn
   exact ⟨(List.nodup_cons.1 this).2,(List.nodup_cons.1 this).1⟩
  have A: ∀ p∈dn.erase (i,b),p∈dn∧p.1≠i:=fun p hp=>⟨List.mem_of_mem_erase hp,fun e=>by have q:=List.mem_map_of_mem (f:=fun p:Nat×Nat=>p.1) hp; simp only [e] at q; exact H.2 q⟩
  have O:L.lookup (dO i)=none:=hl i (cH ..)
  obtain ⟨dn',L',C2,R,T,AA,V,W,X⟩:=C8 T0 s' (dn.erase (i,b)) ((dO i,VO i b)::L) Y (AO i b::C) (fun x hx=>by
   obtain ⟨k,c,rfl,hk⟩:=ht x (dR _ hx)
   refine ⟨k,c,U,?_⟩
   have F:k≠i:=fun e=>AB _ (List.mem_append_left _ hx) e.symm
   exact (List.mem_erase_of_ne (fun e=>F (congrArg Prod.fst e))).2 hk) P H.1 (fun p hp=>by
   obtain ⟨M,G⟩:=A p hp
   rcases bW.1 (hm p M) with e|e
   ·injection e with e; exact absurd e G
   ·exact e) (fun p hp=>hy p (A p hp).1) (fun k hk=>by
   have:(dO k==dO i)=false:=by simpa using N k hk
   simp only [List.lookup,this]
   exact hl k (dR _ hk)) (h b)
  refine ⟨dn',L',C2,R,T,fun p=>?_,fun t v hv=>?_,W,fun w hw=>X w ?_⟩
  ·rw [AA]
   constructor
   ·rintro ⟨M,G⟩; exact ⟨(A p M).1,G⟩
   ·rintro ⟨M,G⟩
    have F:p.1≠i:=fun e=>AB _ (List.mem_append_right _ G) e.symm
    exact ⟨(List.mem_erase_of_ne (fun e=>F (congrArg Prod.fst e))).2 M,G⟩
  ·have:=V t v hv
   rw [og] at this ⊢
   by_cases e:t=dO i
   ·subst e
    simp only [List.lookup,beq_self_eq_true] at this
    rw [O]; simp only
    rw [hy _ hb]; exact this
   ·have Q:(t==dO i)=false:=by simpa using e
    simp only [List.lookup,Q] at this
    exact this
  ·refine hw.perm ?_
   show (C++dn.map fun p=>AO p.1 p.2).Perm (AO i b::(C++(dn.erase (i,b)).map fun p=>AO p.1 p.2))
   refine ((K.map fun p:Nat×Nat=>AO p.1 p.2).append_left C).trans ?_
   exact List.perm_middle
theorem Cl: ∀ (s:List fZ) (j:Nat),fZ.op j∈s→ ∃ T0 k s',s=T0++fZ.op k::s'∧ ∀ x∈T0,∃ i,x=fZ.take i
 | .take i::s,j,h=>by
  rcases bW.1 h with e|h
  ·cases e
  ·obtain ⟨T0,k,s',rfl,A⟩:=Cl s j h
   exact ⟨.take i::T0,k,s',U,fun x hx=>by
    rcases bW.1 hx with rfl|hx
    ·exact ⟨i,U⟩
    ·exact A x hx⟩
 | .op k::s,j,_=>⟨[],k,s,rfl,fun x hx=>by cases hx⟩
def kQ (s:List fZ) (dn:List (Nat×Nat)):List Nat:=(s.map fZ.ix).filter fun i=> !(dn.map (·.1)).contains i
theorem rN {s:List fZ} {dn:List (Nat×Nat)} {i:Nat}:i∈kQ s dn↔(∃ x∈s,x.ix=i)∧ ∀ p∈dn,p.1≠i:=by
 unfold kQ
 rw [List.mem_filter,cz]
 refine and_congr Iff.rfl ?_
 rw [Bool.not_eq_true',← Bool.not_eq_true,List.contains_iff_mem,cz]
 constructor
 ·intro h p hp e; exact h ⟨p,hp,e⟩
 ·rintro h ⟨p,hp,e⟩; exact h p hp e
theorem qP (hal: ∀ i,Qx E ops D C' B dO VO AO i∨True): ∀ (n:Nat) (s:List fZ) (dn:List (Nat×Nat)) (L Y:dD) (C:List aB),(∀ i,fZ.take i∈s→Qx E ops D C' B dO VO AO i)→s.Pairwise (fun x y=>rB (qv ops) dO x y=true)→(kQ s dn).length=n→(dn.map (·.1)).Nodup→(∀ p∈dn,fZ.take p.1∈s)→(∀ p∈dn,Y.lookup (dO p.1)=some (VO p.1 p.2))→(∀ i,fZ.take i∈s→L.lookup (dO i)=none)→B5 B L→
 (∀ w,St E.S E.w0 C w→St E.S E.w0 C' w)→CH E ops D C' K0 B dO VO AO s L C→TN E ops D C' C1 (fun L C=>KJ E K0 D L C) [] n (kQ s dn) (L++Y) (C++dn.map fun p=>AO p.1 p.2)
 |0,s,dn,L,Y,C,_,hp,hlen,hn,hm,hy,hl,hB,hC,h=>by
  have hr:kQ s dn=[]:=il hlen
  have Q: ∀ x∈s,∃ i b,x=fZ.take i∧(i,b)∈dn:=fun x hx=>by
   have hx':x.ix ∉ kQ s dn:=by rw [hr]; exact List.not_mem_nil
   rw [rN] at hx'
   have: ∃ p∈dn,p.1=x.ix:=by
    apply Classical.byContradiction
    intro q
    exact hx' ⟨⟨x,hx,U⟩,fun p hp e=>q ⟨p,hp,e⟩⟩
   obtain ⟨p,T,AA⟩:=this
   have ht:=hm p T
   rcases List.mem_iff_getElem.1 hx with ⟨a,ha,ea⟩
   rcases List.mem_iff_getElem.1 ht with ⟨c,hc,ec⟩
   have d:a=c:=by
    rcases Nat.lt_trichotomy a c with q|q|q
    ·have:=eU.1 hp a c ha hc q
     simp only [rB,dg,bne_iff_ne,ea,ec] at this
     exact absurd AA.symm this.1
    ·exact q
    ·have:=eU.1 hp c a hc ha q
     simp only [rB,dg,bne_iff_ne,ea,ec] at this
     exact absurd AA this.1
   subst d
   exact ⟨p.1,p.2,by rw [← ea,ec],T⟩
  obtain ⟨dn',L',C2,V,J,O,W,h5,X⟩:=C8 s [] dn L Y C Q (by simpa using hp) hn (by simpa using hm) hy (by simpa using hl) (by simpa using h)
  show KJ E K0 D _ _
  have hd:dn'=[]:=List.eq_nil_iff_forall_not_mem.2 fun p hp=>by have:=((O p).1 hp).2; cases this
  subst hd
  refine E9 (L2:=L') (C2:=C2) (fun a hf=>E1 (fun t v ht=>W t v (by rw [og,ht])) a hf) (fun w hw=>by have:=X w hw; simpa using this) V
 |n+1,s,dn,L,Y,C,hal',hp,hlen,hn,hm,hy,hl,hB,hC,h=>by
  intro i hi o ho K hK
  obtain ⟨G,m⟩:=List.mem_filter.1 hi
  obtain ⟨⟨x,hx,rfl⟩,H⟩:=rN.1 G
  have A: ∀ k∈kQ s dn,iZ (qv ops) k x.ix=false:=fun k hk=>by
   have:=de.1 m k hk
   simpa using this
  cases x with
  |take i=>
   simp only [fZ.ix] at H A ho hK G ⊢
   refine hal' i hx o ho _ _ K hB.app (fun w hw=>hC w (hw.take (List.sublist_append_left _ _))) fun b=>?_
   have l:=hl i hx
   have AB:(kQ s dn).filter (· != i)=kQ s ((i,b)::dn):=by
    unfold kQ
    rw [List.filter_filter]
    apply List.filter_congr
    intro k _
    simp only [List.map_cons,List.contains_cons,Bool.not_or]
    rfl
   have N:(kQ s dn).Nodup:=by
    unfold kQ
    refine List.Nodup.sublist List.filter_sublist<|List.pairwise_map.2 (hp.imp fun {a c} q=>?_)
    simp only [rB,dg,bne_iff_ne] at q
    exact q.1
   have M: ∀ k,fZ.take k∈s→k≠i→dO k≠dO i:=fun k hk AC e=>by
    rcases List.mem_iff_getElem.1 hx with ⟨a,ha,ea⟩
    rcases List.mem_iff_getElem.1 hk with ⟨c,hc,ec⟩
    rcases Nat.lt_trichotomy a c with q|q|q
    ·have:=eU.1 hp a c ha hc q
     simp only [rB,dg,bne_iff_ne,ea,ec] at this
     exact this.2 e.symm
    ·subst q; rw [ea] at ec; cases ec; exact AC rfl
    ·have:=eU.1 hp c a hc ha q
     simp only [rB,dg,bne_iff_ne,ea,ec] at this
     exact this.2 e
   refine E9 (L2:=L++((dO i,VO i b)::Y)) (C2:=C++((i,b)::dn).map fun p=>AO p.1 p.2) (fun a hf=>E1 (fun t v ht=>?_) a hf) (fun w hw=>hw.perm (List.perm_middle).symm) (hK _ _ (fun w hw=>hC w (hw.take (List.sublist_append_left _ _))) (fun q=>by cases q) ?_)
   ·rw [og] at ht
    by_cases e:t=dO i
    ·subst e
     rw [l] at ht
     simp only [List.lookup,beq_self_eq_true] at ht ⊢
     exact ht
    ·have e2:(t==dO i)=false:=by simpa using e
     simp only [List.lookup,e2] at ht ⊢
     rw [og]; exact ht
   ·rw [AB]
    refine qP hal n s ((i,b)::dn) L ((dO i,VO i b)::Y) C hal' hp ?_ (List.nodup_cons.2 ⟨fun q=>?_,hn⟩) (fun p hp'=>?_) (fun p hp'=>?_) hl hB hC h
    ·rw [← AB,← List.Nodup.erase_eq_filter N,List.length_erase_of_mem G,hlen]; rfl
    ·obtain ⟨p,hp',e⟩:=cz.1 q
     exact H p hp' e
    ·rcases bW.1 hp' with rfl|hp'
     ·exact hx
     ·exact hm p hp'
    ·rcases bW.1 hp' with rfl|hp'
     ·simp [List.lookup]
     ·have:(dO p.1==dO i)=false:=by simpa using M p.1 (hm p hp') (H p hp')
      simp only [List.lookup,this]
      exact hy p hp'
  |op j=>
   simp only [fZ.ix] at H A ho hK G ⊢
   obtain ⟨T0,k,s',rfl,hT⟩:=Cl s j hx
   obtain ⟨q1,q2,q3⟩:=List.pairwise_append.1 hp
   obtain ⟨q4,q5⟩:=List.pairwise_cons.1 q2
   have R: ∀ k',fZ.op k'∈T0++fZ.op k::s'→k'∈kQ (T0++fZ.op k::s') dn:=fun k' hk'=>by
    refine rN.2 ⟨⟨_,hk',U⟩,fun p hp' e=>?_⟩
    have ht:=hm p hp'
    rcases List.mem_iff_getElem.1 hk' with ⟨a,ha,ea⟩
    rcases List.mem_iff_getElem.1 ht with ⟨c,hc,ec⟩
    rcases Nat.lt_trichotomy a c with q|q|q
    ·have:=eU.1 hp a c ha hc q
     simp only [rB,dg,bne_iff_ne,ea,ec,fZ.ix] at this
     exact this.1 e.symm
    ·subst q; rw [ea] at ec; cases ec
    ·have:=eU.1 hp c a hc ha q
     simp only [rB,dg,bne_iff_ne,ea,ec,fZ.ix] at this
     exact this.1 e
   have AN:k=j:=by
    apply Classical.byContradiction
    intro Am
    have hj':fZ.op j∈s':=by
     rcases gI.1 hx with q|q
     ·obtain ⟨i,e⟩:=hT _ q; cases e
     ·rcases bW.1 q with e|q
      ·injection e with e; exact absurd e.symm Am
      ·exact q
    have:=q4 _ hj'
    simp only [rB,dg,fZ.ix] at this
    have J:=A k (R k sm)
    rw [this.2] at J; cases J
   subst AN
   have F: ∀ x∈T0,∃ i b,x=fZ.take i∧(i,b)∈dn:=fun x hx'=>by
    obtain ⟨i,rfl⟩:=hT x hx'
    apply Classical.byContradiction
    intro q
    have r:i∈kQ (T0++fZ.op k::s') dn:=rN.2 ⟨⟨_,List.mem_append_left _ hx',rfl⟩,fun p hp' e=>q ⟨i,p.2,rfl,by rw [← e]; exact hp'⟩⟩
    have:=q3 _ hx' _ (cH ..)
    simp only [rB,dg,fZ.ix] at this
    have J:=A i r
    rw [this.2] at J; cases J
   obtain ⟨dn',L',C2,V,J,O,W,h5,X⟩:=C8 T0 (fZ.op k::s') dn L Y C F hp hn hm hy hl h
   refine MZ (fun a hf=>E1 W a hf) X (V o ho Y (dn'.map fun p=>AO p.1 p.2) K fun L3 C3 P A0 Z g=>?_)
   have AB:(kQ (T0++fZ.op k::s') dn).filter (· != k)=kQ s' dn':=by
    unfold kQ
    rw [List.map_append,List.filter_append,List.map_cons,List.filter_append]
    have e1:(List.map fZ.ix T0).filter (fun i=> !(dn.map (·.1)).contains i)=[]:=by
     apply List.filter_eq_nil_iff.2
     intro z hz
     obtain ⟨x,hx',rfl⟩:=cz.1 hz
     obtain ⟨i,b,rfl,hb⟩:=F x hx'
     simp only [fZ.ix,Bool.not_eq_true',Bool.not_eq_false,List.contains_iff_mem]
     exact List.mem_map_of_mem (f:=(·.1)) hb
    rw [e1]
    simp only [List.filter_nil,List.nil_append]
    have u:k ∉ dn.map (·.1):=fun q=>by
     obtain ⟨p,hp',e⟩:=cz.1 q
     exact H p hp' e
    rw [List.filter_cons_of_pos (by simpa [fZ.ix] using u),List.filter_cons_of_neg (by simp [fZ.ix]),List.filter_filter]
    apply List.filter_congr
    intro z hz
    obtain ⟨y,hy',rfl⟩:=cz.1 hz
    have A1:y.ix≠k:=fun e=>by
     have:=q4 y hy'
     simp only [rB,dg,bne_iff_ne,fZ.ix] at this
     exact this.1 e.symm
    rw [Bool.eq_iff_iff]
    simp only [dg,bne_iff_ne,Bool.not_eq_true',← Bool.not_eq_true,List.contains_iff_mem]
    constructor
    ·rintro ⟨_,hq⟩ hc
     obtain ⟨p,hp',e⟩:=cz.1 hc
     exact hq (by rw [← e]; exact List.mem_map_of_mem (f:=(·.1)) ((O p).1 hp').1)
    ·intro hq
     refine ⟨A1,fun hc=>?_⟩
     obtain ⟨p,hp',e⟩:=cz.1 hc
     apply hq
     rw [← e]
     refine List.mem_map_of_mem (f:=(·.1)) ((O p).2 ⟨hp',?_⟩)
     have ht:=hm p hp'
     rcases gI.1 ht with ht|ht
     ·exfalso
      have:=q3 _ ht _ (dR _ hy')
      simp only [rB,dg,bne_iff_ne,fZ.ix] at this
      exact this.1 e
     ·exact ht
   have N:(kQ (T0++fZ.op k::s') dn).Nodup:=by
    unfold kQ
    refine List.Nodup.sublist List.filter_sublist<|List.pairwise_map.2 (hp.imp fun {a c} q=>?_)
    simp only [rB,dg,bne_iff_ne] at q
    exact q.1
   refine hK _ _ (fun w hw=>P w (hw.take (List.sublist_append_left _ _))) (fun q=>by cases q) ?_
   rw [AB]
   have hdn': ∀ p∈dn',fZ.take p.1∈s':=fun p hp'=>by
    rcases bW.1 ((O p).1 hp').2 with e|e
    ·cases e
    ·exact e
   refine qP hal n s' dn' L3 Y C3 (fun i hi=>hal' i (by simp [hi])) q5 ?_ J hdn' (fun p hp'=>hy p ((O p).1 hp').1) (fun i hi=>?_) (AK Z) P g
   ·rw [← AB,← List.Nodup.erase_eq_filter N,List.length_erase_of_mem G,hlen]; rfl
   ·have:=de.1 A0 _ (tG hi)
    simpa using this
/-- the rows, at any time; the others, one after the other -/
theorem Aj {tb rem:List Nat} {L:dD} {C:List aB} (s:List fZ) (B:dD) (dO:Nat→Nat) (VO:Nat→Nat→Value) (AO:Nat→Nat→aB) {n:Nat} (htb:tb=[]) (hr:s.map fZ.ix=rem) (hn:rem.length=n) (hp:TC (qv ops) dO s=true) (hl:((A_ dO s).all fun d=>(L.lookup d).isNone)=true) (hB:B.map (fun p=>L.lookup p.1)=B.map (fun p=>some p.2)) (hC: ∀ w,St E.S E.w0 C w→St E.S E.w0 C' w)
 (hal: ∀ i,fZ.take i∈s→Qx E ops D C' B dO VO AO i) (h:CH E ops D C' K0 B dO VO AO s L C):TN E ops D C' C1 (fun L C=>KJ E K0 D L C) tb n rem L C:=by
 subst htb hr
 have e:kQ s []=s.map fZ.ix:=by unfold kQ; simp
 have:=qP (C1:=C1) (fun i=> .inr trivial) n s [] L [] C hal (Fa hp) (by rw [e]; exact hn) List.nodup_nil (fun p hp=>by cases hp) (fun p hp=>by cases hp) (fun i hi=>by
  have:=de.1 hl _ (tG hi)
  simpa using this) (AK hB) hC h
 simpa [e] using this
theorem D1 {p:Nat→Prop}: ∀ i,fZ.take i∈([]:List fZ)→p i:=fun i h=>by cases h
theorem mK {p:Nat→Prop} {j:Nat} {s:List fZ} (h: ∀ i,fZ.take i∈s→p i): ∀ i,fZ.take i∈fZ.op j::s→p i:=fun i hi=>by
 rcases bW.1 hi with e|hi
 ·cases e
 ·exact h i hi
theorem ku {p:Nat→Prop} {j:Nat} {s:List fZ} (hj:p j) (h: ∀ i,fZ.take i∈s→p i): ∀ i,fZ.take i∈fZ.take j::s→p i:=fun i hi=>by
 rcases bW.1 hi with e|hi
 ·cases e; exact hj
 ·exact h i hi
end
section
variable {E:fB} {ops:Array Oper} {D:List Deferred} {C':List aB} {B:List (Nat×Value)} {dO:Nat→Nat} {VO:Nat→Nat→Value} {AO:Nat→Nat→aB}
variable {d:Nat} {ty:TypeId} {ps:String} {af:Array Edge}
theorem wF {i t:Nat} {cs:List Value} (ho:ops[i]? =some ⟨some d,.alloc t,ty,ps,af,none⟩) (hz:tZ E.P t=some cs) (hd:Nat.blt d E.n=true) (h1:dO i=d) (h2: ∀ b,VO i b= .pointer (some ⟨b,0,none⟩)) (h3: ∀ b,AO i b=cx b t cs):Qx E ops D C' B dO VO AO i:=fun o ho' L C K hB _ hk=>by
 rw [ho] at ho'; cases ho'
 exact FL U hz hd fun b=>aK (by have:=hk b; rw [h1,h2,h3] at this; exact this)
theorem Jz {i t e sz:Nat} (ho:ops[i]? =some ⟨some d,.buildSlice t 0 #[],ty,ps,af,none⟩) (ht:tE E.P t=some (e,sz)) (hd:Nat.blt d E.n=true) (h1:dO i=d) (h2: ∀ b,VO i b= .slice (some ⟨b,0,none⟩) 0 0) (h3: ∀ b,AO i b=cx b e []):Qx E ops D C' B dO VO AO i:=fun o ho' L C K hB _ hk=>by
 rw [ho] at ho'; cases ho'
 exact qj U ht hd fun b=>aK (by have:=hk b; rw [h1,h2,h3] at this; exact this)
theorem vR {i t e sz n:Nat} {xs:List Operand} {vs:List Value} {cs zs:List Value} (ho:ops[i]? =some ⟨some d,.buildSlice t n ((xs.zipIdx.map fun p=>(p.2,p.1)).toArray),ty,ps,af,none⟩) (ht:tE E.P t=some (e,sz)) (hz:tZ E.P e=some zs) (hx:evs B xs=some vs) (hn:xs.length=n) (hp:Nat.blt 0 (n*sz)=true) (hb:Nat.ble (n*sz) 16777216=true) (hv: ∀ v∈vs,v.cells.size=sz)
 (hc:(vs.map (·.cells.toList)).flatten=cs) (hd:Nat.blt d E.n=true) (h1:dO i=d) (h2: ∀ b,VO i b= .slice (some ⟨b,0,none⟩) n n) (h3: ∀ b,AO i b=cx b e cs):Qx E ops D C' B dO VO AO i:=fun o ho' L C K hB _ hk=>by
 rw [ho] at ho'; cases ho'
 exact eB U ht hz (Fu hB hx) hn hp hb hv hc hd fun b=>aK (by have:=hk b; rw [h1,h2,h3] at this; exact this)
end
section
variable {E:fB} {ops:Array Oper} {D:List Deferred} {C':List aB} {K0:Act→World→Prop} {B:List (Nat×Value)} {dO:Nat→Nat} {VO:Nat→Nat→Value} {AO:Nat→Nat→aB}
theorem mP {j:Nat} {s:List fZ} {L:dD} {C:List aB} {o:Oper} (ho:ops[j]? =some o)
 (h: ∀ (Y:dD) (X:List aB) (K:Act→World→Prop),(∀ L' C'',(∀ w,St E.S E.w0 C'' w→St E.S E.w0 C' w)→((A_ dO s).all fun d=>(L'.lookup d).isNone)=true→B.map (fun p=>L'.lookup p.1)=B.map (fun p=>some p.2)→CH E ops D C' K0 B dO VO AO s L' C''→KJ E K D (L'++Y) (C''++X))→RJ E ops (NQ K) [o] D (L++Y) (C++X)):CH E ops D C' K0 B dO VO AO (.op j::s) L C:=fun o' ho'=>by
 rw [ho] at ho'; cases ho'
 exact h
theorem kf {s:List fZ} {L Y:dD} {C X:List aB} {K:Act→World→Prop} (hT: ∀ L' C'',(∀ w,St E.S E.w0 C'' w→St E.S E.w0 C' w)→((A_ dO s).all fun d=>(L'.lookup d).isNone)=true→B.map (fun p=>L'.lookup p.1)=B.map (fun p=>some p.2)→CH E ops D C' K0 B dO VO AO s L' C''→KJ E K D (L'++Y) (C''++X)) (nL nC:Nat)
 (hL:L.take nL++Y=L) (hC:C.take nC++X=C) (h1: ∀ w,St E.S E.w0 (C.take nC) w→St E.S E.w0 C' w) (h2:((A_ dO s).all fun d=>((L.take nL).lookup d).isNone)=true) (h3:B.map (fun p=>(L.take nL).lookup p.1)=B.map (fun p=>some p.2)) (h:CH E ops D C' K0 B dO VO AO s (L.take nL) (C.take nC)):RJ E ops (NQ K) [] D L C:=by
 have:=hT _ _ h1 h2 h3 h
 rw [hL,hC] at this
 exact aK this
theorem Ju {c:Code} {Q:dk} {L L':dD} {C:List aB} (h:L'.map (fun p=>L.lookup p.1)=L'.map (fun p=>some p.2)) (k:WJ E c Q D L' C):WJ E c Q D L C:=fun a w hf hs=>k a w (E1 (AK h) a hf) hs
theorem xZ: ∀ {C:List aB} {i:Nat} {A:aB},C[i]? =some A→C.Perm (A::C.eraseIdx i)
 |[],i,A,h=>by simp at h
 |x::C,0,A,h=>by
  simp at h; subst h
  exact List.Perm.refl _
 |x::C,i+1,A,h=>((xZ (C:=C) (i:=i) (by simpa using h)).cons x).trans (List.Perm.swap _ _ _)
theorem St.front {S:BS} {w0 w:World} {C:List aB} {A:aB} (i:Nat) (hi:C[i]? =some A) (h:St S w0 C w):St S w0 (A::C.eraseIdx i) w:=h.perm (xZ hi)
theorem FB {K:Act→World→Prop} {L:dD} {C:List aB} {A:aB} (i:Nat) (hi:C[i]? =some A) (h:KJ E K D L (A::C.eraseIdx i)):KJ E K D L C:=fun a w hf hs=>h a w hf (hs.front i hi)
theorem rM {Q:dk} {rest:List Oper} {L:dD} {C:List aB} {A:aB} (i:Nat) (hi:C[i]? =some A) (h:RJ E ops Q rest D L (A::C.eraseIdx i)):RJ E ops Q rest D L C:=fun a w hf hs=>h a w hf (hs.front i hi)
end
end
section
open Go.RowKit
theorem DA (l:List ay) (az:List RA): ∀ v∈(List.zipWith ay.cells l az).flatten,v.oneCell'=true:=by
 induction l generalizing az with
 |nil=>intro v hv; simp at hv
 |cons x l ih=>
  cases az with
  |nil=>intro v hv; simp at hv
  |cons a az=>
   intro v hv
   rw [List.zipWith_cons_cons,List.flatten_cons,gI] at hv
   rcases hv with hv|hv
   ·simp [ay.cells,dy.cells] at hv
    rcases hv with rfl|rfl<;>rfl
   ·exact ih az v hv
theorem g_ {l:List ay} {az:List RA} (h:az.length=l.length):(List.zipWith ay.cells l az).length=l.length:=by simp [h]
/-- addresses, of which some are new -/
def r_ (bz az:List RA) (i:Nat):List RA:=bz++az.drop i
theorem qX {bz az:List RA} {i:Nat} (hb:bz.length=i) (hi:i≤az.length):(r_ bz az i).length=az.length:=by simp [r_,hb]; omega
theorem JE {bz az:List RA} {i:Nat} (h:az.length≤i):r_ bz az i=bz:=by unfold r_; rw [List.drop_eq_nil_of_le h,List.append_nil]
theorem Ew {bz az:List RA} {i:Nat} {a:RA} (hb:bz.length=i) (h:az[i]? =some a):(r_ bz az i)[i]? =some a:=by
 unfold r_
 rw [List.getElem?_append_right om,hb,Nat.sub_self,List.getElem?_drop]
 simpa using h
theorem HU {bz az:List RA} {i:Nat} {a b:RA} (hb:bz.length=i) (h:az[i]? =some a):(r_ bz az i).set i b=r_ (bz++[b]) az (i+1):=by
 unfold r_
 have hi:=(aX.1 h).1
 rw [List.set_append_right _ _ om,hb,Nat.sub_self,List.drop_eq_getElem_cons hi,List.set_cons_zero]
 simp
theorem M7 {l:List ay} {bz az:List RA} {i:Nat} {x:ay} {xa nw:RA} (hx:l[i]? =some x) (hb:bz.length=i) (ha:az[i]? =some xa):
 (List.zipWith ay.cells l (r_ bz az i)).set i (ay.cells x nw)=List.zipWith ay.cells l (r_ (bz++[nw]) az (i+1)):=by
 rw [← HU hb ha]
 apply List.ext_getElem?
 intro k
 rw [List.getElem?_set]
 by_cases e:i=k
 ·subst e
  have A:=Ew hb ha
  have B:=(aX.1 A).1
  have C:=(aX.1 hx).1
  rw [if_pos rfl,List.getElem?_zipWith,hx,List.getElem?_set_self B,if_pos (by simp; omega)]
 ·rw [if_neg e,List.getElem?_zipWith,List.getElem?_zipWith,List.getElem?_set_ne e]
theorem He {l:List ay} {bz:List RA} {i:Nat} {x:ay} {nw:RA} (hx:l[i]? =some x) (hb:bz.length=i):bo ay.owns (l.take i) bz++ay.owns x nw=bo ay.owns (l.take (i+1)) (bz++[nw]):=by
 have hi:=(aX.1 hx).1
 rw [List.take_add_one,hx,Option.toList_some,jA (by rw [List.length_take,hb]; omega)]
 simp [bo]
theorem ng {l:List ay} {bz:List RA}:(bU (bo ay.owns l bz)).wr=true:=by
 show (bo ay.owns l bz).all (·.wr)=true
 rw [de]
 intro X hX
 obtain ⟨k,m,a,_,_,h⟩:=j_ hX
 simp only [ay.owns,cu] at h
 subst h; rfl
/-- what is known of new rows -/
def uz (l:List ay) (bz:List RA):Prop:= ∀ (k:Nat) m (a:RA),l[k]? =some m→bz[k]? =some a→m.bI.length≤a.2
theorem HE {l:List ay} {bz:List RA} {i:Nat} {x:ay} {nw:RA} (h:uz l bz) (hb:bz.length=i) (hx:l[i]? =some x) (hc:x.bI.length≤nw.2):uz l (bz++[nw]):=fun k m a hm ha=>by
 by_cases e:k<bz.length
 ·rw [List.getElem?_append_left e] at ha
  exact h k m a hm ha
 ·rw [List.getElem?_append_right om] at ha
  have hk:k-bz.length=0:=by
   rcases Nat.eq_zero_or_pos (k-bz.length) with A|A
   ·exact A
   ·rw [List.getElem?_eq_none (by simp; omega)] at ha; cases ha
  rw [hk] at ha
  simp at ha
  have:k=i:=by omega
  subst this
  rw [hx] at hm; cases hm
  subst ha; exact hc
theorem iN: ∀ (m:ay) (a:RA) (w:World),(∀ X∈ay.owns m a,X.holds w)→ ∀ X∈ay.gn m a,X.holds w:=fun m a w h X hX=>by
 simp only [ay.gn,cu] at hX
 subst hX
 have:=nU (h _ (cu.2 rfl))
 simpa using this
theorem eo.Ic {l:br} {az bz:List RA} (h:eo l az) (hb:bz.length=l.aj.length) (hc:uz l.aj bz):eo l bz:=⟨h.se,h.side,h.sb,hb,h.r9,fun k m a hm ha=>⟨hc k m a hm ha,by
 obtain ⟨A,B⟩: ∃ A,az[k]? =some A:=⟨az[k]'(by rw [h.nP]; exact (aX.1 hm).1),eN _⟩
 exact (h.Qv k m A hm B).2⟩⟩
section
variable {E:fB} {ops:Array Oper} {Q:dk} {rest:List Oper} {D:List Deferred} {L:List (Nat×Value)} {C:List aB}
theorem R_ {a:OA} {c e sz:Nat} {es:List (List Value)} (i:Nat) (hC:C[i]? =some (own a c e sz es)) (k:es.length≤c→RJ E ops Q rest D L C):RJ E ops Q rest D L C:=fun act w hf hs=>
 k (Nz (hs.holds _ (aQ hC))) act w hf hs
end
end
section
open Go.RowKit
def Dd (m:aC) (a:RA):List aB:=[own a.1 a.2 Tc 2 (m.bD.ag.map aI.cells)]
def sj (m:List aC) (a:cZ):List aB:=own a.1.1 a.1.2 Ra 7 (List.zipWith aC.cells m a.2)::bo Dd m a.2
theorem Pg: ∀ (m:aC) (a:RA) (w:World),(∀ X∈Dd m a,X.holds w)→ ∀ X∈aC.gn m a,X.holds w:=fun m a w h X hX=>by
 simp only [aC.gn,cu] at hX
 subst hX
 have:=nU (h _ (cu.2 rfl))
 simpa using this
theorem n8 {m:List aC} {asl:List RA} (h:asl.length=m.length):(List.zipWith aC.cells m asl).length=m.length:=by simp [h]
theorem e_ {m:List (List aC)} {asl:List cZ} (h:asl.length=m.length):(List.zipWith cP m asl).length=m.length:=by simp [h]
theorem MQ {m:List aC} {asl:List RA}:(bo Dd m asl).all (·.wr)=true:=by
 rw [de]
 intro X hX
 obtain ⟨k,d,a,_,_,h⟩:=j_ hX
 simp only [Dd,cu] at h
 subst h; rfl
theorem w4 {m:List (List aC)} {asl:List cZ}:(bU (bo sj m asl)).wr=true:=by
 show (bo sj m asl).all (·.wr)=true
 rw [de]
 intro X hX
 obtain ⟨k,d,a,_,_,h⟩:=j_ hX
 rcases bW.1 h with rfl|h
 ·rfl
 ·exact de.1 MQ X h
theorem Mc (l:List aC) (az:List RA): ∀ v∈(List.zipWith aC.cells l az).flatten,v.oneCell'=true:=by
 induction l generalizing az with
 |nil=>intro v hv; simp at hv
 |cons x l ih=>
  cases az with
  |nil=>intro v hv; simp at hv
  |cons a az=>
   intro v hv
   rw [List.zipWith_cons_cons,List.flatten_cons,gI] at hv
   rcases hv with hv|hv
   ·simp [aC.cells,aR.cells,cN.cells,ai.cells] at hv
    rcases hv with rfl|rfl|rfl|rfl|rfl|rfl|rfl<;>rfl
   ·exact ih az v hv
theorem Gs (l:List (List aC)) (az:List cZ): ∀ v∈(List.zipWith cP l az).flatten,v.oneCell'=true:=by
 induction l generalizing az with
 |nil=>intro v hv; simp at hv
 |cons x l ih=>
  cases az with
  |nil=>intro v hv; simp at hv
  |cons a az=>
   intro v hv
   rw [List.zipWith_cons_cons,List.flatten_cons,gI] at hv
   rcases hv with hv|hv
   ·simp [cP] at hv; subst hv; rfl
   ·exact ih az v hv
/-- every heat has as many places as descents -/
def Al (H:List (List aC)) (hz:List cZ):Prop:=hz.length=H.length∧ ∀ (k:Nat) h (a:cZ),H[k]? =some h→hz[k]? =some a→a.2.length=h.length
theorem Lz {a:OA} {c e sz n:Nat} {es:List (List Value)} {w:World} (h:(own a c e sz es).holds w) (hn:es.length=n):(rd a n sz es).holds w:=by subst hn; exact nU h
theorem g7 {C:List aB} {H:List (List aC)} {hz:List cZ} (i:Nat) (hC:C[i]? =some (bU (bo sj H hz))) (hh:Al H hz):iH C (dU (bo fg H hz)).holds:=fun w hw X hX=>by
 have hb:=hw _ (aQ hC)
 obtain ⟨k,m,a,A,B,D⟩:=j_ hX
 rcases bW.1 D with rfl|D
 ·exact Lz (hb.1 _ (bP A B cH)) (n8 (hh.2 k m a A B))
 ·obtain ⟨q,d,b,E,F,G⟩:=j_ D
  exact Pg d b w (fun Y hY=>hb.1 Y (bP A B (dR _ (bP E F hY)))) X G
section
variable {α:Type}
def l_ (bz az:List α) (i:Nat):List α:=bz++az.drop i
variable {bz az:List α} {i:Nat} {a b:α}
theorem jh (hb:bz.length=i) (hi:i≤az.length):(l_ bz az i).length=az.length:=by simp [l_,hb]; omega
theorem Bn (h:az.length≤i):l_ bz az i=bz:=by unfold l_; rw [List.drop_eq_nil_of_le h,List.append_nil]
theorem EW (hb:bz.length=i) (h:az[i]? =some a):(l_ bz az i)[i]? =some a:=by
 unfold l_
 rw [List.getElem?_append_right om,hb,Nat.sub_self,List.getElem?_drop]
 simpa using h
theorem JI (hb:bz.length=i):(l_ (bz++[b]) az (i+1))[i]? =some b:=by
 unfold l_
 rw [List.getElem?_append_left (by simp; omega),List.getElem?_append_right om,hb,Nat.sub_self]; rfl
theorem H2 (hb:bz.length=i) (h:az[i]? =some a):(l_ bz az i).set i b=l_ (bz++[b]) az (i+1):=by
 unfold l_
 have hi:=(aX.1 h).1
 rw [List.set_append_right _ _ om,hb,Nat.sub_self,List.drop_eq_getElem_cons hi,List.set_cons_zero]
 simp
theorem Cd {M β:Type} {c:M→α→β} {l:List M} {x:M} (hx:l[i]? =some x) (hb:bz.length=i) (h:az[i]? =some a):(List.zipWith c l (l_ bz az i)).set i (c x b)=List.zipWith c l (l_ (bz++[b]) az (i+1)):=by
 rw [IH,H2 hb h]
 congr 1
 obtain ⟨hi,rfl⟩:=aX.1 hx
 exact List.set_getElem_self hi
theorem wY {M:Type} {f:M→α→List aB} {l:List M} {x:M} (hx:l[i]? =some x) (hb:bz.length=i):bo f (l.take i) bz++f x b=bo f (l.take (i+1)) (bz++[b]):=by
 have hi:=(aX.1 hx).1
 rw [List.take_add_one,hx,Option.toList_some,jA (by rw [List.length_take,hb]; omega)]
 simp [bo]
end
theorem B8: ∀ {l:List (List aC)} {u v:List cZ},u.map (·.1)=v.map (·.1)→List.zipWith cP l u=List.zipWith cP l v
 |[],u,v,_=>by simp
 |x::l,[],[],_=>rfl
 |x::l,[],b::v,h=>by simp at h
 |x::l,a::u,[],h=>by simp at h
 |x::l,a::u,b::v,h=>by
  simp only [List.map_cons,List.cons.injEq] at h
  rw [List.zipWith_cons_cons,List.zipWith_cons_cons,B8 h.2]
  have e:cP x a=cP x b:=by simp only [cP,h.1]
  rw [e]
theorem KG {l:List (List aC)} {hz ha:List cZ} {p:RA} {x y:List RA} {i:Nat}:List.zipWith cP l (l_ (hz++[(p,x)]) ha i)=List.zipWith cP l (l_ (hz++[(p,y)]) ha i):=B8 (by simp [l_])
theorem Ly {H:List (List aC)} {hz:List cZ} {i:Nat} {x:List aC} {b:cZ} (hx:H[i]? =some x) (h: ∀ (k:Nat) y (a:cZ),H[k]? =some y→hz[k]? =some a→a.2.length=y.length) (hb:hz.length=i) (hl:b.2.length=x.length): ∀ (k:Nat) y (a:cZ),H[k]? =some y→(hz++[b])[k]? =some a→a.2.length=y.length:=fun k y a hy ha=>by
 by_cases e:k<hz.length
 ·rw [List.getElem?_append_left e] at ha
  exact h k y a hy ha
 ·rw [List.getElem?_append_right om] at ha
  have hk:k-hz.length=0:=by
   rcases Nat.eq_zero_or_pos (k-hz.length) with A|A
   ·exact A
   ·rw [List.getElem?_eq_none (by simp; omega)] at ha; cases ha
  rw [hk] at ha
  simp at ha
  have:k=i:=by omega
  subst this
  rw [hx] at hy; cases hy
  subst ha; exact hl
theorem Me {S:BS} {w0 w:World} {C:List aB} {A:aB} {Y Z:List aB} (h:St S w0 (A::bU Y::bU Z::C) w):St S w0 (bU (Z++A::Y)::C) w:=by
 have D:St S w0 (bU Y::A::bU Z::C) w:=h.perm (List.Perm.swap _ _ _)
 have E:St S w0 (Y++(A::bU Z::C)) w:=D.ja
 have F:St S w0 (bU Z::(A::Y)++C) w:=E.perm (by
  have B:(Y++(A::bU Z::C)).Perm ((A::bU Z::C)++Y):=List.perm_append_comm
  refine B.trans ?_
  show (A::bU Z::(C++Y)).Perm (bU Z::A::(Y++C))
  exact (List.Perm.swap _ _ _).trans (((List.perm_append_comm (l₁:=C) (l₂:=Y)).cons A).cons _))
 have G:St S w0 (Z++((A::Y)++C)) w:=F.ja
 have H:St S w0 ((Z++A::Y)++C) w:=by simpa using G
 exact H.tied
abbrev QG (C:List aB) (i j k:Nat):List Nat:=k::j::i::(List.range C.length).filter fun q=>q != i&&q != j&&q != k
section
variable {E:fB} {ops:Array Oper} {Q:dk} {rest:List Oper} {D:List Deferred} {L:List (Nat×Value)} {C C1:List aB} {K:Act→World→Prop}
variable {H:List (List aC)} {hz:List cZ} {h h':List aC} {a a':cZ} {k:Nat} {X:aB} {Y Z Z':List aB}
/-- i: the others, j: what hangs on the row, q: the row -/
theorem O9 (i j q:Nat) (hn:decide (QG C i j q).Nodup=true) (hC:oj C (QG C i j q)=some (X::bU Y::bU Z::C1)) (e:Z++X::Y=Z') (hk:KJ E K D L (bU Z'::C1)):KJ E K D L C:=fun a w hf hs=>by
 subst e; exact hk a w hf (Me (St.jR _ hn (ni hC) hs))
end
theorem ld.Ic {r:e7} {az bz:List RA} {ha hz:List cZ} (h:ld r az ha) (hb:bz.length=r.ar.aj.length) (hc:uz r.ar.aj bz) (hh:Al r.aD hz):ld r bz hz:=⟨h.line.Ic hb hc,h.iB,h.draw,h.iE,hh.1,fun k x a hx ha'=>by
 obtain ⟨A,C⟩: ∃ A,ha[k]? =some A:=⟨ha[k]'(by rw [h.has]; exact (aX.1 hx).1),eN _⟩
 have B:=h.gL k x A hx C
 exact ⟨B.len,hh.2 k x a hx ha',B.sig⟩⟩
end
section
open Go.RowKit
section
variable {K:Type} [DecidableEq K] {kV:K→Value}
variable {E:fB} {ops:Array Oper} {Q:dk} {rest:List Oper} {D:List Deferred} {L:List (Nat×Value)} {C:List aB}
variable {ty:TypeId} {ps:String} {af:Array Edge} {g:Option (Nat×Bool)}
theorem sM {t kt et:TypeId} {xm xk:Operand} {ts:Array TypeId} {b:Nat} {x:K} {m m':List (K×Value)} {C':List aB} (i:Nat) (hg:kl ops L g=true) (hm:ev L xm=some (.map (some b))) (hk:ev L xk=some (kV x)) (hts:ts[0]? =some t)
 (ht:E.P.underlying t=some (.map kt et)) (hkt:uY E.P kt kV) (hC:C[i]? =some (kj kV b m)) (hm':fz m x=m') (hC':C.set i (kj kV b m')=C') (k:RJ E ops Q rest D L C'):
 RJ E ops Q (⟨none,.call {callee:= .builtin .delete,args:= #[xm,xk],argTypes:=ts},ty,ps,af,g⟩::rest) D L C:=by
 subst hm' hC'
 intro a w A hs
 unfold sG
 rw [if_pos (eG A hg)]
 obtain ⟨es,c,he,hi⟩:=hs.holds _ (aQ hC)
 have B:(getObj b).run E.P w= .ok (.map es c) w:=MapKept.run_getObj_map he
 rcases o_ (P:=E.P) (w:=w) (x:=x) hkt hi with ⟨F,G⟩|⟨j,AA,F,G,H⟩
 ·refine jk (v:= .tuple #[]) (w':={w with heap:=w.heap.setIfInBounds b (.map es c)}) sm ?_ ?_
  ·simp [execOp,resolve,invoke,builtin,A.ev hm,A.ev hk,Builtin.delete_,hts,run_underlying ht,B,jl hkt,F,MapKept.run_setObj_map _ he]
  ·refine k _ _ ⟨A.defers,A.size,A.at_⟩ (hs.ze (b:=b) i hC U U (nD _) (fun _ h=>h) ⟨_,_,pH he,?_⟩)
   rw [D3 G]; exact hi
 ·refine jk (v:= .tuple #[]) (w':={w with heap:=w.heap.setIfInBounds b (.map (es.eraseIdxIfInBounds j) c)}) sm ?_ ?_
  ·simp [execOp,resolve,invoke,builtin,A.ev hm,A.ev hk,Builtin.delete_,hts,run_underlying ht,B,jl hkt,F,MapKept.run_setObj_map _ he]
  ·exact k _ _ ⟨A.defers,A.size,A.at_⟩ (hs.ze (b:=b) i hC U U (nD _) (fun _ h=>h) ⟨_,_,pH he,hi.del G⟩)
end
end
section
set_option maxRecDepth 20000
def Rq:au:=⟨1,⟨10000,10200⟩,⟨0,0⟩,⟨0,0⟩,0,0⟩
def yD:ay:=⟨100,[⟨0,⟨0,2⟩⟩,⟨100000,⟨5,6⟩⟩]⟩
def QA (o:Int):bK:=⟨⟨0,⟨o,o⟩⟩,0⟩
def oi (f:Int):br:=⟨[Rq],2000,[yD],[QA 1000,QA 4000,QA 9000],1,f,1⟩
def mq:cD:=⟨10000,20000,[⟨0,10600⟩,⟨0,11000⟩,⟨1,12600⟩]⟩
theorem Im:dq [Rq]=true:=by decide
theorem xO:fr yD:=by
 have hi: ∀ (i:Nat) (x:cQ),yD.bI[i]? =some x→i=0∧x=⟨0,⟨0,2⟩⟩∨i=1∧x=⟨100000,⟨5,6⟩⟩:=fun i x h=>by
  match i with
  |0=>left; simp [yD] at h; exact ⟨rfl,h.symm⟩
  |1=>right; simp [yD] at h; exact ⟨rfl,h.symm⟩
  |n+2=>simp [yD] at h
 refine ⟨dc,dc,fun i x hx=>?_,fun i k x o hx hk ho=>?_⟩
 ·rcases hi i x hx with ⟨rfl,rfl⟩|⟨rfl,rfl⟩<;>(unfold fT; decide)
 ·rcases hi i x hx with ⟨rfl,rfl⟩|⟨rfl,rfl⟩
  ·omega
  ·rcases hi k o ho with ⟨rfl,rfl⟩|⟨rfl,rfl⟩
   ·unfold nJ; decide
   ·omega
theorem AE {o:Int} (h:0≤o∧o<10000):fO [Rq] ⟨0,⟨o,o⟩⟩:=⟨sm,Rq,rfl,by show o≤o∧0≤o∧o≤10000-1; omega⟩
theorem Nl {f:Int} (hf:0≤f∧f≤3):lF (oi f):=by
 refine ⟨?_,fun c hc=>?_,fun b hb=>?_,fun i hi=>?_⟩
 ·unfold fp; simp [oi]; omega
 ·simp [oi] at hc; subst hc; exact xO
 ·simp [oi] at hb
  rcases hb with rfl|rfl|rfl
  ·exact ⟨AE om,by simp [QA,oi]⟩
  ·exact ⟨AE om,by simp [QA,oi]⟩
  ·exact ⟨AE om,by simp [QA,oi]⟩
 ·have A:i<3:=hi
  have:i=0∨i=1∨i=2:=by omega
  rcases this with rfl|rfl|rfl
  ·show (1:Int)≤lz (oi 0) 0; decide
  ·show (1:Int)≤lz (oi 0) 1; decide
  ·show (1:Int)≤lz (oi 0) 2; decide
def ic:br:=oi 1
theorem Oq:dJ ic=0:=xX Im (Nl om)
theorem II {r x:Int} (h0:0<x) (h1:x≤86400000) (hy:gJ yD r x=true) (hn:gJ yD r (x-1)=false):fQ (gJ yD r) 86400001=x:=
 zf om om hy fun z hz A=>by
  cases e:gJ yD r z with
  |false=>rfl
  |true=>
   unfold gJ at e hn
   have:=(oF xO hz (show z≤x-1 by omega) om).2
   have B:=of_decide_eq_true e
   have C:=of_decide_eq_false hn
   omega
theorem Jj {r x:Int} (h0:0<x) (h1:x≤86400000) (hy:gH yD r x=true) (hn:gH yD r (x-1)=false):fQ (gH yD r) 86400001=x:=
 zf om om hy fun z hz A=>by
  cases e:gH yD r z with
  |false=>rfl
  |true=>
   unfold gH at e hn
   have:=(oF xO hz (show z≤x-1 by omega) om).1
   have B:=of_decide_eq_true e
   have C:=of_decide_eq_false hn
   omega
theorem QV:qQ yD 10600=⟨10596,10602⟩:=by unfold qQ; rw [II (x:=10596) om om dc dc,Jj (x:=10603) om om dc dc]; rfl
theorem SJ:qQ yD 11000=⟨10996,11002⟩:=by unfold qQ; rw [II (x:=10996) om om dc dc,Jj (x:=11003) om om dc dc]; rfl
theorem SP:qQ yD 12600=⟨12596,12602⟩:=by unfold qQ; rw [II (x:=12596) om om dc dc,Jj (x:=12603) om om dc dc]; rfl
def RZ (f:Int):b_:=⟨10000,20000,[500,1500,2500],[[(0,⟨10596,10602⟩),(1,⟨10996,11002⟩)],[(2,⟨12596,12602⟩)],[]],1,f,3⟩
theorem Sm (f:Int):cS (oi f) ⟨0,10600⟩=⟨10596,10602⟩:=QV
theorem RL (f:Int):cS (oi f) ⟨0,11000⟩=⟨10996,11002⟩:=SJ
theorem Q0 (f:Int):cS (oi f) ⟨1,12600⟩=⟨12596,12602⟩:=SP
theorem JD (f:Int):cO (oi f) mq.ag 3=[[(0,⟨10596,10602⟩),(1,⟨10996,11002⟩)],[(2,⟨12596,12602⟩)],[]]:=by
 have o: ∀ b:Nat,lg (oi f) mq.ag 3 b=(oc (oi f) mq.ag b 0).toList++((oc (oi f) mq.ag b 1).toList++(oc (oi f) mq.ag b 2).toList):=fun b=>by
  rw [lv,lv,lv]; simp [lg]
 have A: ∀ b:Nat,oc (oi f) mq.ag b 0=if (0:Int)=(b:Int) then some (0,⟨10596,10602⟩) else none:=fun b=>by
  show (if (0:Int)=(b:Int)∧(cS (oi f) ⟨0,10600⟩).Lo≤(cS (oi f) ⟨0,10600⟩).Hi then some ((0:Int),cS (oi f) ⟨0,10600⟩) else none)=_
  rw [Sm]; by_cases h:(0:Int)=(b:Int)
  ·rw [if_pos h,if_pos ⟨h,dc⟩]<;>rfl
  ·rw [if_neg h,if_neg fun q=>h q.1]
 have B: ∀ b:Nat,oc (oi f) mq.ag b 1=if (0:Int)=(b:Int) then some (1,⟨10996,11002⟩) else none:=fun b=>by
  show (if (0:Int)=(b:Int)∧(cS (oi f) ⟨0,11000⟩).Lo≤(cS (oi f) ⟨0,11000⟩).Hi then some ((1:Int),cS (oi f) ⟨0,11000⟩) else none)=_
  rw [RL]; by_cases h:(0:Int)=(b:Int)
  ·rw [if_pos h,if_pos ⟨h,dc⟩]<;>rfl
  ·rw [if_neg h,if_neg fun q=>h q.1]
 have C: ∀ b:Nat,oc (oi f) mq.ag b 2=if (1:Int)=(b:Int) then some (2,⟨12596,12602⟩) else none:=fun b=>by
  show (if (1:Int)=(b:Int)∧(cS (oi f) ⟨1,12600⟩).Lo≤(cS (oi f) ⟨1,12600⟩).Hi then some ((2:Int),cS (oi f) ⟨1,12600⟩) else none)=_
  rw [Q0]; by_cases h:(1:Int)=(b:Int)
  ·rw [if_pos h,if_pos ⟨h,dc⟩]<;>rfl
  ·rw [if_neg h,if_neg fun q=>h q.1]
 show [lg (oi f) mq.ag 3 0,lg (oi f) mq.ag 3 1,lg (oi f) mq.ag 3 2]=_
 rw [o,o,o,A,A,A,B,B,B,C,C,C]
 rfl
theorem Cr (f:Int):cm (oi f) mq=RZ f:=by
 unfold cm RZ
 rw [show mq.ag.length=3 from rfl,JD]
 rfl
theorem LY (f:Int):eg (oi f) mq:=by
 refine ⟨dc,dc,fun i s hs=>?_⟩
 match i with
 |0=>simp [mq] at hs; subst hs; unfold h_ iA; simp [oi,kP]
 |1=>simp [mq] at hs; subst hs; unfold h_ iA; simp [oi,kP,mq]
 |2=>simp [mq] at hs; subst hs; unfold h_ iA; simp [oi,kP,mq]
 |n+3=>simp [mq] at hs
theorem Ca:hP (cm ic mq)=[2,3]:=by rw [show cm ic mq=RZ 1 from Cr 1]; decide
theorem Bb:dW ic mq 0=0:=lj Oq (LY 1) rfl (by rw [Ca]; decide)
theorem Jd:hU ic mq=[2,3]:=by rw [kp Bb,Ca]
theorem Kt {b:Nat} (hb:b<3):dW ic mq (jB ic b)=0:=by rw [um (by show 0≤(b:Int)∧(b:Int)≤3-1; omega)]; exact Bb
theorem Fe {b:Nat} {z:ai} (hb:b<3) (hz:vv (mR (RZ 1) b)=z) (hn:z≠mB):dY ic mq b=0∧dQ ic mq b=z:=by
 have e:mF ic mq b=z:=by unfold mF; rw [show cm ic mq=RZ 1 from Cr 1]; exact hz
 have h:=oH (Kt hb) (by rw [e]; exact hn)
 exact ⟨h.1,h.2.trans e⟩
theorem CP:dY ic mq 0=0∧dQ ic mq 0=⟨10596,11002⟩:=Fe (b:=0) om dc dc
theorem qM:dY ic mq 1=0∧dQ ic mq 1=⟨12596,12602⟩:=Fe (b:=1) om dc dc
theorem OZ:dY ic mq ic.cf=0∧zS ic mq=⟨2596,2602⟩:=by
 refine ⟨qM.1,?_⟩
 rw [Aw (l:=ic) (r:=mq) qM.1]
 rw [show dQ ic mq ic.cf=⟨12596,12602⟩ from qM.2]
 rfl
theorem Rf (f:Int) {a:OA} {c:Nat} (hc:2≤c):eo (oi f) [(a,c)]:=by
 refine ⟨by simp [oi],?_,by simp [oi],U,by simp [oi],fun k m a' hm ha=>?_⟩
 ·intro x hx; simp [oi] at hx; subst hx; simp [Rq]
 ·match k with
  |0=>simp [oi] at hm ha; subst hm; subst ha; simp [yD]; exact hc
  |n+1=>simp at ha
end
section
open Go.RowKit
def DG (t:ai):aC:=⟨false,true,t,⟨0,0,[]⟩⟩
def Vx (H:List (List aC)) (h i:Int) (t:ai):List (List aC):=H.set h.toNat ((H[h.toNat]?.getD []).set i.toNat (DG t))
def PS (r:e7) (h i:Int) (t:ai):e7:=⟨r.ar,r.aY,r.cd,r.j2,Vx r.aD h i t⟩
@[simp] theorem Qw {r:e7} {h i:Int} {t:ai}:(PS r h i t).ar=r.ar:=rfl
@[simp] theorem Qm {r:e7} {h i:Int} {t:ai}:(PS r h i t).aY=r.aY:=rfl
@[simp] theorem Qy {r:e7} {h i:Int} {t:ai}:(PS r h i t).cd=r.cd:=rfl
section
variable {r:e7} {h i:Int} {t:ai} {ht:List aC} {d:aC}
end
section
variable {E:fB} {Q:dk} {D:List Deferred} {L:List (Nat×Value)} {C C1:List aB} {c:Code}
variable {H:List (List aC)} {hz:List cZ} {h h':List aC} {a a':cZ} {k:Nat} {bs:List RA} {i:Nat} {d d':aC} {b:RA}
end
end
section
set_option maxRecDepth 20000
def nj (x y:Int):aC:=DG ⟨x,y⟩
def pg:aC:=⟨false,false,gS,mq⟩
def qu:e7:=⟨ic,[4,7,9],[2,0,1],2,[[pg,nj 2600 2600,nj 2580 2609],[nj 2555 2559,nj 2540 2549,nj 2570 2575]]⟩
def ei:bS:=⟨qu,[⟨1,0,12600,13000⟩,⟨2,1,11003,11100⟩,⟨3,0,10700,10900⟩,⟨1,0,13000,14000⟩],[⟨2,0,0,0,72596⟩,⟨5,0,0,1,72603⟩,⟨6,0,0,3,20000⟩],1,500⟩
theorem zy {l:br} {x y:Int} (h:mh ⟨x,y⟩):iX l (nj x y):=by rw [ui ⟨rfl,rfl⟩]; exact ⟨h,rfl,rfl,rfl⟩
theorem JB:fU qu:=by
 refine ⟨dc,dc,dc,fun i x hx=>?_,dc,fun h hh=>?_⟩
 ·match i with
  |0=>simp [qu] at hx; subst hx; exact ⟨dc,fun y h=>absurd h dc⟩
  |1=>simp [qu] at hx; subst hx; exact ⟨dc,fun y _ h=>by simp [qu] at h; omega⟩
  |2=>simp [qu] at hx; subst hx; exact ⟨dc,fun y _ h=>by simp [qu] at h; omega⟩
  |n+3=>simp [qu] at hx
 ·simp only [qu,bW,List.not_mem_nil,or_false] at hh
  rcases hh with rfl|rfl
  ·refine ⟨U,fun d hd=>?_⟩
   simp only [bW,List.not_mem_nil,or_false] at hd
   rcases hd with rfl|rfl|rfl
   ·rw [tJ ⟨rfl,rfl⟩]; exact ⟨OZ.1,rfl⟩
   ·exact zy dc
   ·exact zy dc
  ·refine ⟨U,fun d hd=>?_⟩
   simp only [bW,List.not_mem_nil,or_false] at hd
   rcases hd with rfl|rfl|rfl<;>exact zy dc
theorem Pd:jN qu=0:=by unfold jN; rw [if_pos (show dJ qu.ar=0 from Oq),if_pos JB]
theorem PG:qg ei:=by
 refine ⟨dc,fun f hf=>?_,dc,dc,dc,fun i p hp=>?_⟩
 ·simp only [ei,bW,List.not_mem_nil,or_false] at hf
  rcases hf with rfl|rfl|rfl|rfl<;>decide
 ·match i with
  |0=>simp [ei] at hp; subst hp; exact ⟨dc,fun q h=>absurd h dc,dc,dc,dc,pg,rfl,dc⟩
  |1=>simp [ei] at hp; subst hp; exact ⟨dc,fun q _ h=>by simp [ei] at h; subst h; decide,dc,dc,dc,pg,rfl,dc⟩
  |2=>simp [ei] at hp; subst hp; exact ⟨dc,fun q _ h=>by simp [ei] at h; subst h; decide,dc,dc,dc,pg,rfl,dc⟩
  |n+3=>simp [ei] at hp
theorem ox:db ei=0:=wJ Pd PG
theorem Cw {b:Int} (h:b<2):tg ic mq b=true:=by
 unfold tg; rw [Jd]; simp; omega
theorem NI (h:(-1:Int)<0):cR ic mq (-1)=⟨10000,10000,true,false⟩:=if_pos h
theorem OC:cR ic mq 0=⟨10596,11002,true,false⟩:=by
 unfold cR; rw [if_neg dc,if_pos CP.1,CP.2,Cw dc]; rfl
theorem z6:cR ic mq 1=⟨12596,12602,true,false⟩:=by
 unfold cR; rw [if_neg dc,if_pos qM.1,qM.2,Cw dc]; rfl
theorem Jp {f:aW} {a b:yH} (ha:cR ic mq (yL f)=a) (hb:cR ic mq (Qu ic f)=b):g6 ic f pg=n7 f a b:=by
 unfold g6
 rw [if_pos (by decide:nW pg)]
 show n7 f (cR ic mq (yL f)) (cR ic mq (Qu ic f))=_
 rw [ha,hb]
theorem DO:g6 ic ⟨1,0,12600,13000⟩ pg=1:=(Jp (f:=⟨1,0,12600,13000⟩) (show cR ic mq (-1)=_ from NI dc) (show cR ic mq (1)=_ from z6)).trans dc
theorem PF:g6 ic ⟨2,1,11003,11100⟩ pg=2:=(Jp (f:=⟨2,1,11003,11100⟩) (show cR ic mq (0)=_ from OC) (show cR ic mq (1)=_ from z6)).trans dc
theorem HF:g6 ic ⟨1,0,13000,14000⟩ pg=0:=(Jp (f:=⟨1,0,13000,14000⟩) (show cR ic mq (-1)=_ from NI dc) (show cR ic mq (1)=_ from z6)).trans dc
theorem Pu {f:aW} {x y:Int}:g6 ic f (nj x y)=0:=rW (by simp [nj,DG,nW])
theorem Bc {p:aJ} (hd:nT ei p=some pg):lQ ei p=if p.At≤72596 then 0 else if p.At≤72602 then 1 else 2:=by
 unfold lQ
 rw [hd]
 simp only
 have e:cR ei.Race.ar pg.bD ei.Race.ar.cf=⟨12596,12602,true,false⟩:=z6
 rw [e]; rfl
theorem JT:lQ ei ⟨2,0,0,0,72596⟩=0:=(Bc rfl).trans dc
theorem KE:lQ ei ⟨5,0,0,1,72603⟩=2:=(Bc rfl).trans dc
theorem KC {p:aJ} {f:aW} (hd:nT ei p=some pg) (hf:ei.aA[p.ew.toNat]? =some f):f_ ei p=(decide (lQ ei p≠2)&&decide (g6 ic f pg≠0)):=by
 unfold f_; rw [hd,hf]; rfl
theorem DR:f_ ei ⟨2,0,0,0,72596⟩=true:=by rw [KC (f:=⟨1,0,12600,13000⟩) rfl rfl,JT,DO]; rfl
theorem Kz:f_ ei ⟨5,0,0,1,72603⟩=false:=by rw [KC (f:=⟨2,1,11003,11100⟩) rfl rfl,KE]; rfl
theorem K7:f_ ei ⟨6,0,0,3,20000⟩=false:=by rw [KC (f:=⟨1,0,13000,14000⟩) rfl rfl,HF]; simp
theorem xn:iy ei=[0]:=by
 unfold iy ux
 show ml (fun i=>(ei.ao[i]?).any (f_ ei)) 3=[0]
 rw [su (by show f_ ei ⟨6,0,0,3,20000⟩=false; exact K7),su (by show f_ ei ⟨5,0,0,1,72603⟩=false; exact Kz),xu (by show f_ ei ⟨2,0,0,0,72596⟩=true; exact DR)]
 rfl
theorem M3:HG ic (my ei) ei.aA pg:=⟨⟨1,0,12600,13000⟩,by simp [ei],⟨0,⟨2,0,0,0,72596⟩,rfl,DR,rfl⟩,by rw [DO]; decide⟩
theorem uc {x y:Int}: ¬ HG ic (my ei) ei.aA (nj x y):=fun ⟨f,_,_,h⟩=>h Pu
theorem NB:jv ei=[[0],[]]:=by
 have A:tF ic (my ei) ei.aA [pg,nj 2600 2600,nj 2580 2609] 3=[0]:=by
  unfold tF
  rw [su (by simp [uc]),su (by simp [uc]),xu (by simp [M3])]; rfl
 have B:tF ic (my ei) ei.aA [nj 2555 2559,nj 2540 2549,nj 2570 2575] 3=[]:=by
  unfold tF
  rw [su (by simp [uc]),su (by simp [uc]),su (by simp [uc])]; rfl
 show [tF ic (my ei) ei.aA [pg,nj 2600 2600,nj 2580 2609] 3,tF ic (my ei) ei.aA [nj 2555 2559,nj 2540 2549,nj 2570 2575] 3]=_
 rw [A,B]
theorem Ch:yR ei=500∧E5 ei=1000:=by
 have h:yR ei=500:=by unfold yR; rw [xn]; rfl
 exact ⟨h,by unfold E5; rw [h]; rfl⟩
theorem Gc:DL ei 0= -1000:=by
 have h:Jv ei 0 3=2:=by
  unfold Jv
  rw [show List.range 3=[0,1,2] from rfl]
  simp only [List.countP_cons,List.countP_nil]
  rw [show (ei.ao[0]?)=some ⟨2,0,0,0,72596⟩ from rfl,show (ei.ao[1]?)=some ⟨5,0,0,1,72603⟩ from rfl,show (ei.ao[2]?)=some ⟨6,0,0,3,20000⟩ from rfl]
  simp only [Option.any_some,DR,Kz,K7]
  decide
 unfold DL
 rw [show ei.ao.length=3 from rfl,h]; rfl
end
section
open Go.RowKit
section
variable {E:fB} {ops:Array Oper} {Q:dk} {rest:List Oper} {D:List Deferred} {L:List (Nat×Value)} {C C1:List aB}
end
theorem w5 {C:List aB}: ∀ {a b:List Nat} {X Y:List aB},oj C a=some X→oj C b=some Y→oj C (a++b)=some (X++Y)
 |[],b,X,Y,h,h2=>by cases h; exact h2
 |i::a,b,X,Y,h,h2=>by
  unfold oj at h
  split at h
  ·rename_i A hA
   split at h
   ·rename_i l hl
    cases h
    have ih:=w5 hl h2
    show (match C[i]? with
     |some A=>match oj C (a++b) with
      |some l=>some (A::l)
      |none=>none
     |none=>none)=_
    rw [hA,ih]; rfl
   ·cases h
  ·cases h
theorem Hc {E:fB} {ops:Array Oper} {Q:dk} {rest:List Oper} {D:ib} {L:dD} {C C1:List aB} (X:List aB) (i1 i2:List Nat) (h1:oj C i1=some X) (h2:oj C i2=some C1) (h:RJ E ops Q rest D L (bU X::C1)) (hn:decide (i1++i2).Nodup=true:=by rfl):RJ E ops Q rest D L C:=fun a w hf hs=>h a w hf (St.tied (St.jR _ hn (ni (w5 h1 h2)) hs))
theorem z3 {E:fB} {ops:Array Oper} {Q:dk} {rest:List Oper} {D:ib} {L:dD} {C C1:List aB} (ix:List Nat) (hn:decide ix.Nodup=true) (hC:oj C ix=some C1) (h:RJ E ops Q rest D L C1):RJ E ops Q rest D L C:=fun a w hf hs=>h a w hf (St.jR _ hn (ni hC) hs)
theorem qZ {M A B:Type} {f:M→A→List B} {n:Nat} (h: ∀ m a,(f m a).length=n): ∀ {ms:List M} {asl:List A},∀ x∈List.zipWith f ms asl,x.length=n
 |[],asl,x,hx=>by simp at hx
 |m::ms,[],x,hx=>by simp at hx
 |m::ms,a::asl,x,hx=>by
  rw [List.zipWith_cons_cons] at hx
  rcases bW.1 hx with rfl|hx
  ·exact h m a
  ·exact qZ h x hx
theorem FD (m:aC) (a:RA):(aC.cells m a).length=7:=rfl
theorem I_ (m:List aC) (a:cZ):(cP m a).length=1:=rfl
theorem Qa (m:List Int) (a:RA):(ru m a).length=1:=rfl
end
section
open Go.RowKit
theorem F1 {E:fB} {c:Code} {Q:dk} {D:ib} {L:dD} {C C1:List aB} (X:List aB) (i1 i2:List Nat) (h1:oj C i1=some X) (h2:oj C i2=some C1) (h:WJ E c Q D L (bU X::C1)) (hn:decide (i1++i2).Nodup=true:=by rfl):WJ E c Q D L C:=fun a w hf hs=>h a w hf (St.tied (St.jR _ hn (ni (w5 h1 h2)) hs))
def Ia:List aC:=[pg,nj 2600 2600,nj 2580 2609]
def Tr:List aC:=[nj 2555 2559,nj 2540 2549,nj 2570 2575]
theorem JO {p q s t u v x y:RA}:Al qu.aD [(p,[s,t,u]),(q,[v,x,y])]:=⟨rfl,fun k h a hk ha=>by
 match k with
 |0=>simp [qu] at hk ha; subst hk; subst ha; rfl
 |1=>simp [qu] at hk ha; subst hk; subst ha; rfl
 |n+2=>simp at ha⟩
theorem Nk {bz:List RA} {hz:List cZ} (h:eo ic bz) (hh:Al qu.aD hz):ld qu bz hz:=⟨h,dc,dc,dc,hh.1,fun k x a hx ha=>by
 have hm:=aQ hx
 have hs:=hh.2 k x a hx ha
 simp only [qu,bW,List.not_mem_nil,or_false] at hm
 rcases hm with rfl|rfl
 ·exact ⟨dc,hs,dc⟩
 ·exact ⟨dc,hs,dc⟩⟩
theorem OH {bz:List RA} {hz:List cZ} (h:eo ic bz) (hh:Al qu.aD hz):gp ei bz hz:=⟨Nk h hh,dc,dc,dc⟩
end
section
open Go.RowKit
theorem Pb:oR ei 0 0 0=0∧pM ei 0 0 0=1:=by
 have e:=ua (j:=ei) (k:=0) (h:=0) (s:=0) (f:=⟨1,0,12600,13000⟩) (ht:=Ia) (d:=pg) ox dc rfl rfl rfl
 exact ⟨e.2,e.1.trans DO⟩
theorem PI:oR ei 1 0 0=0∧pM ei 1 0 0=2:=by
 have e:=ua (j:=ei) (k:=1) (h:=0) (s:=0) (f:=⟨2,1,11003,11100⟩) (ht:=Ia) (d:=pg) ox dc rfl rfl rfl
 exact ⟨e.2,e.1.trans PF⟩
theorem OY:oR ei 3 0 0=0∧pM ei 3 0 0=0:=by
 have e:=ua (j:=ei) (k:=3) (h:=0) (s:=0) (f:=⟨1,0,13000,14000⟩) (ht:=Ia) (d:=pg) ox dc rfl rfl rfl
 exact ⟨e.2,e.1.trans HF⟩
theorem P7:tP ei 0=0∧vY ei 0=0:=by
 have e:=Ay (j:=ei) (i:=0) (p:=⟨2,0,0,0,72596⟩) ox dc rfl
 exact ⟨e.2,e.1.trans JT⟩
theorem ON:tP ei 1=0∧vY ei 1=2:=by
 have e:=Ay (j:=ei) (i:=1) (p:=⟨5,0,0,1,72603⟩) ox dc rfl
 exact ⟨e.2,e.1.trans KE⟩
theorem N4:cb ei=[0]:=(j3 ox).trans xn
theorem I2:bT ei=[[0],[]]:=(iD ox).trans NB
theorem Oe:zE ei=500∧zW ei=1000:=⟨(wW ox).1.trans Ch.1,(wW ox).2.trans Ch.2⟩
theorem NV:qK ei 0=0∧sJ ei 0= -1000:=⟨by unfold qK; rw [if_pos ox,if_pos dc],by unfold sJ; rw [if_pos ⟨ox,dc⟩]; exact Gc⟩
end
section
open Go.RowKit
theorem pC (n lo hi:Int):
 dK Tryz.prog 135 [(vI n),(vI lo),(vI hi)] [] (vB (decide (lo≤n∧n≤hi))):=by
 refine bG kr Tryz.func135 U U fun D Q hQ hN=>?_
 try dsimp only
 refine WS fun _ B=>bE 1 U<|RK B<|WS fun _ A=>rP 4 [] I ?_
 refine bZ (t:=10) U (aV fun C=>?_) (aU fun C=>?_)
 ·refine rP 5 [] I ?_
  refine RK A<|av<|Q1 hQ U U U ?_
  exact cB (gY.2 om)
 refine rP 5 [] I ?_
 refine RK A<|av<|Q1 hQ U U U ?_
 exact cB (bH om).symm
theorem p8 (s:ai) (lo hi:Int):
 dK Tryz.prog 136 [(vA (ai.cells s)),(vI lo),(vI hi)] [] (vB (decide (s.Lo≤s.Hi∧lo≤s.Lo∧s.Hi≤hi))):=by
 refine bG kr Tryz.func136 U U fun E Q hQ hN=>?_
 try dsimp only
 refine WS fun _ B=>eL U fun D=>bE 1 U<|RK B<|WS fun _ A=>e9 5 [] (mc 0 U I) U<|rS (CL (pC s.Lo lo s.Hi) (aN) U)<|rP 1 [] I ?_
 refine cL (t:=13) U (aU fun C=>?_) (aV fun C=>?_)
 ·refine rP 6 [] I ?_
  refine RK A<|av<|Q1 hQ U U U ?_
  exact cB (bH om).symm
 refine rP 6 [] (mc 0 U I) ?_
 refine RK A<|av<|Q1 hQ U U U ?_
 exact cB (gY.2 om)
theorem MS (t:List au) (tA:OA) (tC:Nat):
 dK Tryz.prog 100 [(vA (bM.cells (bM.mk (bx.mk tA t.length tC))))] [(rd tA t.length 9 (t.map au.cells))] (vB (decide (20<(t.length:Int)))):=by
 refine bG kr Tryz.func100 U U fun D Q hQ hN=>?_
 try dsimp only
 refine WS fun _ A=>eL U fun C=>bE 1 U<|RK A<|WS fun _ B=>rP 5 [] (mc 0 U I) ?_
 refine RK B<|av ?_
 exact Q1 hQ U U U U
theorem Nd (l:List Int) (lA:OA) (lC:Nat) (f:Value) (p:Int→Bool) (X:aB) (hf: ∀ x0,x0∈l→DD Tryz.prog f [.int .i64 x0] [X] (.bool (p x0))) (hlen:l.length≤1000000):
 dK Tryz.prog 82 [(vS lA l.length lC),f] [(rd lA l.length 1 (l.map iC)),X] (vI (sD p l)):=by
 refine bG kr Tryz.func82 U U fun R Q hQ hN=>?_
 try dsimp only
 refine WS fun _ G=>bE 1 U<|RK G<|aq fun _ H=>WS fun _ AA=>rP 3 [] I ?_
 refine RK AA<|aF ?_
 have B:(0≤l.length)∧((l.take 0).any p=false):=by simp
 refine bQ (ι:={z:Nat // (z≤l.length)∧((l.take z).any p=false)}) [0,1,7] [0,1] U U (fun z=>[(8,(vI (z.1:Int)))]) (fun z=>[]) (fun _=>rfl) (fun _=>rfl) (fun z=>l.length-z.1) ⟨0,B⟩ (bk U) (aP [0,1]) ?_
 clear B
 rintro ⟨i,⟨N,A⟩⟩ J4 F
 try dsimp only
 refine WS fun _ J=>rP 1 [] I ?_
 refine RK J<|aq fun _ K=>bV U (aU fun P=>?_) (aV fun P=>?_)
 ·refine bL<|ab<|ab<|aH<|KK H<|WS fun _ E=>rP 1 [] I ?_
  refine RK E<|av<|Q1 hQ U U U ?_
  exact cI (pJ om A).symm
 refine WK K<|aq fun _ L=>aF<|WS fun _ M=>bE 2 U<|RK M<|WS fun _ C=>rP 3 [] I ?_
 obtain ⟨x,hx⟩:=aM l i om
 have O:=bO iC hx
 refine rS (IA i U (aG 0 U) dp dc om om)<|rS (gQ i 0 (vI x) U cq (aG 0 U) O U dc U)<|rS (SX (qc U U U (hf x (aQ hx)) (bw [1])) U U)<|RK C<|cw U (fun hp=>?_) (fun hp=>?_)
 ·refine WS fun _ D=>rP 2 [] I ?_
  refine RK D<|av<|Q1 hQ U U U ?_
  exact cI (ud hx hp A).symm
 refine cg<|aO<|KK L<|aw<|rP 2 [] I ?_
 refine aK ?_
 refine a_ (F ⟨(i+1),⟨om,ur hx A hp⟩⟩ _ _ _ U os (bk U) (aP [0,1]))
theorem pP (l:List Int) (lA:OA) (lC:Nat) (f:Value) (p:Int→Bool) (X:aB) (hf: ∀ x0,x0∈l→DD Tryz.prog f [.int .i64 x0] [X] (.bool (p x0))) (hlen:l.length≤1000000):
 dK Tryz.prog 53 [(vS lA l.length lC),f] [(rd lA l.length 1 (l.map iC)),X] (vB (l.any p)):=by
 refine bG kr Tryz.func53 U U fun C Q hQ hN=>?_
 try dsimp only
 refine WS fun _ A=>bE 1 U<|RK A<|WS fun _ B=>bE 2 U<|rS (CL (Nd l lA lC f p X (by exact hf) hlen) (bw [0,1]) U)<|rP 2 [] I ?_
 refine RK B<|av<|Q1 hQ U U U ?_
 exact cB rE
theorem F6 (n lo hi:Int) (g1 g2:Nat):
 dK Tryz.prog 129 [(vI n),(vP g1),(vP g2)] [(cx g1 3 [(vI lo)]),(cx g2 3 [(vI hi)])] (vB (decide (n<lo∨hi<n))):=by
 refine bG kr Tryz.func129 U U fun D Q hQ hN=>?_
 try dsimp only
 refine WS fun _ B=>bE 1 U<|RK B<|WS fun _ A=>rP 4 [] (mr 0 U I) ?_
 refine bZ (t:=8) U (aV fun C=>?_) (aU fun C=>?_)
 ·refine rP 5 [] I ?_
  refine RK A<|av<|Q1 hQ U U U ?_
  exact cB (dI om).symm
 refine rP 5 [] (mr 1 U I) ?_
 refine RK A<|av<|Q1 hQ U U U ?_
 exact cB (gY.2 om)
theorem pk (lo hi:Int) (l:List Int) (lA:OA) (lC:Nat) (hlen:l.length≤1000000):
 dK Tryz.prog 104 [(vI lo),(vI hi),(vS lA l.length lC)] [(rd lA l.length 1 (l.map iC))] (vB (qs lo hi l)):=by
 refine bG kr Tryz.func104 U U fun F Q hQ hN=>?_
 try dsimp only
 refine WS fun _ D=>wq U U fun A=>wq U U fun B=>bE 1 U<|RK D<|WS fun _ E=>rP 1 [] I ?_
 refine rS (FU U) ?_
 refine rS (CL (pP l lA lC (Value.func (.func 129) [].toArray [(vP A),(vP B)].toArray) (fun C=>(decide (C<lo∨hi<C))) (dU [(cx A 3 [(vI lo)]),(cx B 3 [(vI hi)])]) (by intro C _; exact k9 (fi:=[]) (ca:=[(vP A),(vP B)]) (jY (F6 C lo hi A B) (bw [0,1]))) hlen) (gj 2 U U<|ax (jV (bw [1,0]))<|aN) U) ?_
 refine rP 2 [] I ?_
 refine RK E<|av ?_
 exact Q1 hQ U U U U
theorem wo (s:ai) (lo hi:Int):
 dK Tryz.prog 105 [(vA (ai.cells s)),(vI lo),(vI hi)] [] (vB (decide (s.Lo≤s.Hi∧lo≤s.Lo∧s.Hi≤hi))):=by
 refine bG kr Tryz.func105 U U fun F Q hQ hN=>?_
 try dsimp only
 refine WS fun _ B=>eL U fun E=>bE 1 U<|RK B<|WS fun _ A=>rP 6 [] (mc 0 U I) ?_
 refine eB (xs:=[.tmp 10,.tmp 12]) (cs:=[(vI s.Lo),(vI s.Hi)]) U dp ky U U U U (by simp [Value.cells]) U U fun C=>?_
 refine rS (CL (dK.eq (pk lo hi ([s.Lo,s.Hi]) (some ⟨C,0,none⟩) 2 (by (simp; done))) o3) (ax (bu 0 U U (by simp [bR]) U)<|aN) U) ?_
 refine rP 1 [] I ?_
 refine cL (t:=15) U (aU fun D=>?_) (aV fun D=>?_)
 ·refine rP 7 [] I ?_
  refine RK A<|av<|Q1 hQ U U U ?_
  exact cB (bH om).symm
 refine rP 7 [] (mc 1 U I) ?_
 refine RK A<|av<|Q1 hQ U U U ?_
 exact cB (gY.2 om)
theorem wx (ts:List au) (tsA:OA) (tsC:Nat) (hlen:ts.length≤1000000):
 dK Tryz.prog 120 [(vA (bM.cells (bM.mk (bx.mk tsA ts.length tsC))))] [(rd tsA ts.length 9 (ts.map au.cells))] (vB (dq ts)):=by
 refine bG kr Tryz.func120 U U fun w0 Q hQ hN=>?_
 try dsimp only
 refine WS fun _ Di=>eL U fun b2=>bE 1 U<|RK Di<|aq fun _ Do=>WS fun _ EQ=>e9 3 [] (mc 0 U I) U<|rS (CL (pC (ts.length:Int) 1 12) (aN) U)<|rP 1 [] I ?_
 refine RK EQ<|cw U (bg fun h5=>?_) (bf fun h5=>?_)
 ·refine WS fun _ Eq=>rP 1 [] I ?_
  refine RK Eq<|av<|Q1 hQ U U U ?_
  exact cB (oz om).symm
 refine WK Do<|aq fun _ Eu=>WS fun _ FG=>rP 1 [] I ?_
 refine RK FG<|aF ?_
 have E:(0≤ts.length)∧(eQ (-1) ts=eQ (gG ts 0) (ts.drop 0))∧(-1≤gG ts 0):=by (refine ⟨om,rfl,by simp [gG]⟩)
 refine bQ (ι:={z:Nat // (z≤ts.length)∧(eQ (-1) ts=eQ (gG ts z) (ts.drop z))∧(-1≤gG ts z)}) [1] [0,1] U U (fun z=>[(3,(vI (z.1:Int)))]) (fun z=>[]) (fun _=>rfl) (fun _=>rfl) (fun z=>ts.length-z.1) ⟨0,E⟩ (bk U) (aP [0,1]) ?_
 clear E
 rintro ⟨i,⟨FS,A,Fd⟩⟩ J9 D
 try dsimp only
 have hz:i=0→gG ts i= -1:=BH
 refine aq fun _ K=>WS fun _ L=>rP 5 [] (mc 0 U I) ?_
 refine RK L<|bV U (aU fun v=>?_) (aV fun v=>?_)
 ·refine bL<|ab<|ab<|aH<|KK Eu<|WS fun _ u=>rP 1 [] I ?_
  refine RK u<|av<|Q1 hQ U U U ?_
  exact cB (vC A om om).symm
 refine WK K<|aq fun _ C=>aF<|WS fun _ M=>rP 3 [] (mc 0 U I) ?_
 obtain ⟨x,hx⟩:=aM ts i om
 have Fn:=bO au.cells hx
 refine rS (IA i U (aG 1 U) yo dc om om)<|rS (lS i 0 (au.cells x) U cq (aG 1 U) Fn U dc U U)<|AL U Fy fun GT=>fR U JQ U<|RK M<|aq fun _ F=>aq fun _ B=>dA cy 38 kr<|lR 2 [] (mc 0 U I) U<|dS (CL (pC x.Id 0 9999) (aN) U)<|dP 2 [] I ?_
 refine hO (t:=26) U (bg fun w=>?_) (bf fun w=>?_)
 ·refine k6 11 U<|k6 22 U<|cM<|RK B<|aT U<|WS fun _ N=>rP 1 [] I ?_
  refine RK N<|av<|Q1 hQ U U U ?_
  exact cB (d_ A hx (by simp only [bX,eh]; omega)).symm
 refine dP 3 [] I ?_
 refine jD (t:=29) U (aU fun AC=>?_) (aV fun AC=>?_)
 ·refine k6 8 U<|k6 6 U<|dS (LP (ai.cells x.kJ) 0 U cq U U U)<|dS (CL (p8 x.kJ 1 30000) (aN) U)<|dP 3 [] I ?_
  refine hO (t:=48) U (bg fun Bx=>?_) (bf fun Bx=>?_)
  ·refine k6 11 U<|cM<|RK B<|aT U<|WS fun _ e=>rP 1 [] I ?_
   refine RK e<|av<|Q1 hQ U U U ?_
   exact cB (d_ A hx (by simp only [bX,eh]; omega)).symm
  refine k6 1 U<|dS (LP (ai.cells x.l0) 0 U cq U U U)<|dS (CL (p8 x.l0 0 5000) (aN) U)<|dP 3 [] I ?_
  refine hO (t:=54) U (bg fun B3=>?_) (bf fun B3=>?_)
  ·refine k6 5 U<|cM<|RK B<|aT U<|WS fun _ f=>rP 1 [] I ?_
   refine RK f<|av<|Q1 hQ U U U ?_
   exact cB (d_ A hx (by simp only [bX,eh]; omega)).symm
  refine lR 2 [] (mc 0 U I) U<|dS (CL (pC x.AN 0 5000) (aN) U)<|dP 2 [] I ?_
  refine cM<|RK B<|cw U (bg fun B9=>?_) (bf fun B9=>?_)
  ·refine WS fun _ g=>rP 1 [] I ?_
   refine RK g<|av<|Q1 hQ U U U ?_
   exact cB (d_ A hx (by simp only [bX,eh]; omega)).symm
  refine WK F<|WS fun _ h=>e9 2 [] (mc 0 U I) U<|RK h<|aF<|WS fun _ j=>rS (BI U lB)<|rP 1 [] I ?_
  refine RK j<|cw U (aV fun Ci=>?_) (aU fun Ci=>?_)
  ·refine WS fun _ AB=>rP 5 [] (mc 0 U I) ?_
   refine bZ (t:=68) U (bg fun Ck=>?_) (bf fun Ck=>?_)
   ·refine bE 5 U<|RK AB<|aT U<|WS fun _ k=>rP 1 [] I ?_
    refine RK k<|av<|Q1 hQ U U U ?_
    exact cB (d_ A hx (by simp only [bX,eh]; omega)).symm
   refine rP 5 [] (mc 0 U I) ?_
   refine RK AB<|bV U (bf fun Cp=>?_) (bg fun Cp=>?_)
   ·refine cg<|aO<|aO<|KK C<|aw<|rP 3 [] I ?_
    refine aK ?_
    refine a_ (D ⟨(i+1),⟨om,hZ A hx (by simp only [bX,eh]; omega),by rw [gv hx]; omega⟩⟩ _ _ _ U os (bk U) (aP [1,2]))
   refine WS fun _ l=>rP 1 [] I ?_
   refine RK l<|av<|Q1 hQ U U U ?_
   exact cB (d_ A hx (by simp only [bX,eh]; omega)).symm
  refine aq fun _ J=>WS fun _ m=>rS (BI U lB)<|rP 1 [] I ?_
  refine RK m<|cw U (aV fun Cx=>?_) (aU fun Cx=>?_)
  ·refine WK J<|bV U (aU fun C0=>?_) (aV fun C0=>?_)
   ·refine WS fun _ p=>rP 1 [] I ?_
    refine RK p<|av<|Q1 hQ U U U ?_
    exact cB (oz om).symm
   refine WS fun _ n=>bE 1 U<|rS (LP (ai.cells x.eM) 0 U cq U U U)<|rS (CL (p8 x.eM 500 20000) (aN) U)<|rP 1 [] I ?_
   refine RK n<|bV U (bf fun C1=>?_) (bg fun C1=>?_)
   ·refine cg<|aO<|aO<|KK C<|aw<|rP 3 [] I ?_
    refine aK ?_
    refine a_ (D ⟨(i+1),⟨om,hZ A hx (by simp only [bX,eh]; omega),by rw [gv hx]; omega⟩⟩ _ _ _ U os (bk U) (aP [1,2]))
   refine WS fun _ o=>rP 1 [] I ?_
   refine RK o<|av<|Q1 hQ U U U ?_
   exact cB (d_ A hx (by simp only [bX,eh]; omega)).symm
  refine aw<|rS (BI U lB)<|rP 1 [] I ?_
  refine RK J<|bV U (aU fun C2=>?_) (aV fun C2=>?_)
  ·refine WS fun _ s=>rP 1 [] I ?_
   refine RK s<|av<|Q1 hQ U U U ?_
   exact cB (d_ A hx (by simp only [bX,eh]; omega)).symm
  refine WS fun _ q=>bE 1 U<|rS (LP (ai.cells x.eM) 0 U cq U U U)<|rS (CL (p8 x.eM 500 20000) (aN) U)<|rP 1 [] I ?_
  refine RK q<|bV U (bf fun C3=>?_) (bg fun C3=>?_)
  ·refine cg<|aO<|aO<|KK C<|aw<|rP 3 [] I ?_
   refine aK ?_
   refine a_ (D ⟨(i+1),⟨om,hZ A hx (by simp only [bX,eh]; omega),by rw [gv hx]; omega⟩⟩ _ _ _ U os (bk U) (aP [1,2]))
  refine WS fun _ r=>rP 1 [] I ?_
  refine RK r<|av<|Q1 hQ U U U ?_
  exact cB (d_ A hx (by simp only [bX,eh]; omega)).symm
 refine dP 6 [0,1] (mc 0 U (mc 1 U I)) ?_
 obtain ⟨y,hy⟩:=aM ts (i-1) om
 have GE:=bO au.cells hy
 refine dS (IA (i-1) U (aG 2 U) yo dc om om)<|dS (o1 ((i-1)*9) U (aG 2 U) (Nat.mul_pos om dc) fK U) ?_
 have Go:=DK om hy
 refine dS (gQ (i-1) 0 (vI y.Id) U cq (aG 2 U) GE U dc U)<|dP 4 [] I ?_
 refine hO (t:=42) U (aV fun AO=>?_) (aU fun AO=>?_)
 ·refine k6 17 U<|cM<|RK B<|aT U<|WS fun _ O=>rP 1 [] I ?_
  refine RK O<|av<|Q1 hQ U U U ?_
  exact cB (d_ A hx (by simp only [bX,eh]; omega)).symm
 refine k6 1 U<|dS (LP (ai.cells x.kJ) 0 U cq U U U)<|dS (CL (p8 x.kJ 1 30000) (aN) U)<|dP 3 [] I ?_
 refine hO (t:=48) U (bg fun Am=>?_) (bf fun Am=>?_)
 ·refine k6 11 U<|cM<|RK B<|aT U<|WS fun _ P=>rP 1 [] I ?_
  refine RK P<|av<|Q1 hQ U U U ?_
  exact cB (d_ A hx (by simp only [bX,eh]; omega)).symm
 refine k6 1 U<|dS (LP (ai.cells x.l0) 0 U cq U U U)<|dS (CL (p8 x.l0 0 5000) (aN) U)<|dP 3 [] I ?_
 refine hO (t:=54) U (bg fun A0=>?_) (bf fun A0=>?_)
 ·refine k6 5 U<|cM<|RK B<|aT U<|WS fun _ R=>rP 1 [] I ?_
  refine RK R<|av<|Q1 hQ U U U ?_
  exact cB (d_ A hx (by simp only [bX,eh]; omega)).symm
 refine lR 2 [] (mc 0 U I) U<|dS (CL (pC x.AN 0 5000) (aN) U)<|dP 2 [] I ?_
 refine cM<|RK B<|cw U (bg fun A1=>?_) (bf fun A1=>?_)
 ·refine WS fun _ S=>rP 1 [] I ?_
  refine RK S<|av<|Q1 hQ U U U ?_
  exact cB (d_ A hx (by simp only [bX,eh]; omega)).symm
 refine WK F<|WS fun _ T=>e9 2 [] (mc 0 U I) U<|RK T<|aF<|WS fun _ AA=>rS (BI U lB)<|rP 1 [] I ?_
 refine RK AA<|cw U (aV fun A2=>?_) (aU fun A2=>?_)
 ·refine WS fun _ G=>rP 5 [] (mc 0 U I) ?_
  refine bZ (t:=68) U (bg fun A3=>?_) (bf fun A3=>?_)
  ·refine bE 5 U<|RK G<|aT U<|WS fun _ V=>rP 1 [] I ?_
   refine RK V<|av<|Q1 hQ U U U ?_
   exact cB (d_ A hx (by simp only [bX,eh]; omega)).symm
  refine rP 5 [] (mc 0 U I) ?_
  refine RK G<|bV U (bf fun A4=>?_) (bg fun A4=>?_)
  ·refine cg<|aO<|aO<|KK C<|aw<|rP 3 [] I ?_
   refine aK ?_
   refine a_ (D ⟨(i+1),⟨om,hZ A hx (by simp only [bX,eh]; omega),by rw [gv hx]; omega⟩⟩ _ _ _ U os (bk U) (aP [1,2]))
  refine WS fun _ W=>rP 1 [] I ?_
  refine RK W<|av<|Q1 hQ U U U ?_
  exact cB (d_ A hx (by simp only [bX,eh]; omega)).symm
 refine aq fun _ H=>WS fun _ X=>rS (BI U lB)<|rP 1 [] I ?_
 refine RK X<|cw U (aV fun A5=>?_) (aU fun A5=>?_)
 ·refine WK H<|bV U (aU fun A6=>?_) (aV fun A6=>?_)
  ·refine WS fun _ a=>rP 1 [] I ?_
   refine RK a<|av<|Q1 hQ U U U ?_
   exact cB (oz om).symm
  refine WS fun _ Y=>bE 1 U<|rS (LP (ai.cells x.eM) 0 U cq U U U)<|rS (CL (p8 x.eM 500 20000) (aN) U)<|rP 1 [] I ?_
  refine RK Y<|bV U (bf fun A7=>?_) (bg fun A7=>?_)
  ·refine cg<|aO<|aO<|KK C<|aw<|rP 3 [] I ?_
   refine aK ?_
   refine a_ (D ⟨(i+1),⟨om,hZ A hx (by simp only [bX,eh]; omega),by rw [gv hx]; omega⟩⟩ _ _ _ U os (bk U) (aP [1,2]))
  refine WS fun _ Z=>rP 1 [] I ?_
  refine RK Z<|av<|Q1 hQ U U U ?_
  exact cB (d_ A hx (by simp only [bX,eh]; omega)).symm
 refine aw<|rS (BI U lB)<|rP 1 [] I ?_
 refine RK H<|bV U (aU fun A8=>?_) (aV fun A8=>?_)
 ·refine WS fun _ d=>rP 1 [] I ?_
  refine RK d<|av<|Q1 hQ U U U ?_
  exact cB (d_ A hx (by simp only [bX,eh]; omega)).symm
 refine WS fun _ b=>bE 1 U<|rS (LP (ai.cells x.eM) 0 U cq U U U)<|rS (CL (p8 x.eM 500 20000) (aN) U)<|rP 1 [] I ?_
 refine RK b<|bV U (bf fun A9=>?_) (bg fun A9=>?_)
 ·refine cg<|aO<|aO<|KK C<|aw<|rP 3 [] I ?_
  refine aK ?_
  refine a_ (D ⟨(i+1),⟨om,hZ A hx (by simp only [bX,eh]; omega),by rw [gv hx]; omega⟩⟩ _ _ _ U os (bk U) (aP [1,2]))
 refine WS fun _ c=>rP 1 [] I ?_
 refine RK c<|av<|Q1 hQ U U U ?_
 exact cB (d_ A hx (by simp only [bX,eh]; omega)).symm
theorem AW (ts:List au) (tsA:OA) (tsC:Nat) (hlen:ts.length≤1000000) (hside: ∀ x∈ts,0≤x.jm∧x.jm≤255):
 dK Tryz.prog 91 [(vA (bM.cells (bM.mk (bx.mk tsA ts.length tsC))))] [(rd tsA ts.length 9 (ts.map au.cells))] (vI (if dq ts=true then 0 else 10)):=by
 refine bG kr Tryz.func91 U U fun w0 Q hQ hN=>?_
 try dsimp only
 refine WS fun _ v=>eL U fun b2=>bE 1 U<|RK v<|AI U<|aq fun _ w=>WS fun _ y=>rP 3 [] (mc 0 U I) ?_
 refine eB (xs:=[.tmp 11]) (cs:=[(vI (ts.length:Int))]) U dp ky U U U U (by simp [Value.cells]) U U fun b5=>?_
 refine rS (CL (dK.eq (pk 1 12 ([(ts.length:Int)]) (some ⟨b5,0,none⟩) 1 (by (simp; done))) cE) (ax (bu 0 U U (by simp [bR]) U)<|aN) U) ?_
 refine rP 1 [] I ?_
 refine RK y<|cw U (bg fun h6=>?_) (bf fun h6=>?_)
 ·refine WS fun _ AC=>rP 1 [] I ?_
  refine RK AC<|av<|Q1 hQ U U U ?_
  exact cI (if_neg (by rw [oz om]; decide)).symm
 refine WK w<|WS fun _ AO=>bE 1 U<|RK AO<|WS fun _ Am=>bE 1 U<|RK Am<|aq fun _ J=>Ad<|KK J<|aq fun _ B=>WS fun _ K=>rP 4 [] (mc 1 U I) ?_
 refine RK K<|aF ?_
 have D:(0≤ts.length)∧(eQ (-1) ts=eQ (gG ts 0) (ts.drop 0))∧(-1≤gG ts 0)∧(gG ts 0≤9999):=by (refine ⟨om,rfl,by simp [gG],by simp [gG]⟩)
 refine bQ (ι:={z:Nat // (z≤ts.length)∧(eQ (-1) ts=eQ (gG ts z) (ts.drop z))∧(-1≤gG ts z)∧(gG ts z≤9999)}) [1,4,16,17] [1,2] U U (fun z=>[(3,(vI (gG ts z.1))),(18,(vI (z.1:Int)))]) (fun z=>[]) (fun _=>rfl) (fun _=>rfl) (fun z=>ts.length-z.1) ⟨0,D⟩ (bk U) (aP [1,2]) ?_
 clear D
 rintro ⟨i,⟨A0,A,A1,A2⟩⟩ J13 E
 try dsimp only
 refine WS fun _ L=>rP 1 [] I ?_
 refine RK L<|aq fun _ M=>bV U (aU fun k=>?_) (aV fun k=>?_)
 ·refine bL<|ab<|ab<|aH<|KK B<|WS fun _ O=>rP 2 [] I ?_
  refine RK O<|av<|Q1 hQ U U U ?_
  exact cI (if_pos (vC A om om)).symm
 refine WK M<|aq fun _ F=>aF<|WS fun _ N=>?_
 obtain ⟨x,hx⟩:=aM ts i om
 have A3:=bO au.cells hx
 refine rS (IA i U (aG 1 U) yo dc om om) ?_
 have A7:=hside x (aQ hx)
 refine rS (lS i 0 (au.cells x) U cq (aG 1 U) A3 U dc U U)<|AL U Fy fun A4=>fR U JQ U<|RK N ?_
 refine kS (ι:=Unit) [1,3,4,6,16,17,18] [0,1,2] U U (fun z=>[(7,(vB (decide (x.jm=0∧x.eM.Lo=0∧x.eM.Hi=0))))]) (fun z=>[]) (fun _=>rfl) (fun _=>rfl) ?_ fun K20 G=>?_
 ·intro _
  try dsimp only
  refine kS (ι:=Unit) [1,3,4,6,7,16,17,18] [0,1,2] U U (fun z=>[(8,(vB (decide ((1≤x.jm∧x.jm≤2)∧x.eM.Lo≤x.eM.Hi∧500≤x.eM.Lo∧x.eM.Hi≤20000))))]) (fun z=>[]) (fun _=>rfl) (fun _=>rfl) ?_ fun K21 H=>?_
  ·intro _
   try dsimp only
   refine aq fun _ AB=>WS fun _ C=>rP 4 [] (mc 0 U I) ?_
   refine eB (xs:=[.tmp 44]) (cs:=[(vI x.Id)]) U dp ky U U U U (by simp [Value.cells]) U U fun h=>?_
   refine rS (CL (dK.eq (pk ((gG ts i)+1) 9999 ([x.Id]) (some ⟨h,0,none⟩) 1 (by (simp; done))) cE) (ax (bu 0 U U (by simp [bR]) U)<|aN) U) ?_
   refine rP 2 [] I ?_
   refine bZ (t:=48) U (bg fun o=>?_) (bf fun o=>?_)
   ·refine bE 26 U<|RK C<|aT U<|WS fun _ P=>bE 1 U<|RK P<|bL<|ab<|fD U<|ab<|ab<|aH<|KK B<|WS fun _ R=>rP 2 [] I ?_
    refine RK R<|av<|Q1 hQ U U U ?_
    exact cI (if_neg (by rw [d_ A hx (by simp only [bX,eh]; omega)]; decide)).symm
   refine bE 1 U<|rS (LP (ai.cells x.kJ) 1 U cq U U U)<|rS (CL (wo x.kJ 1 30000) (aN) U)<|rP 3 [] I ?_
   refine bZ (t:=54) U (bg fun p=>?_) (bf fun p=>?_)
   ·refine bE 20 U<|RK C<|aT U<|WS fun _ S=>bE 1 U<|RK S<|bL<|ab<|fD U<|ab<|ab<|aH<|KK B<|WS fun _ T=>rP 2 [] I ?_
    refine RK T<|av<|Q1 hQ U U U ?_
    exact cI (if_neg (by rw [d_ A hx (by simp only [bX,eh]; omega)]; decide)).symm
   refine bE 1 U<|rS (LP (ai.cells x.l0) 1 U cq U U U)<|rS (CL (wo x.l0 0 5000) (aN) U)<|rP 3 [] I ?_
   refine bZ (t:=60) U (bg fun q=>?_) (bf fun q=>?_)
   ·refine bE 14 U<|RK C<|aT U<|WS fun _ AA=>bE 1 U<|RK AA<|bL<|ab<|fD U<|ab<|ab<|aH<|KK B<|WS fun _ V=>rP 2 [] I ?_
    refine RK V<|av<|Q1 hQ U U U ?_
    exact cI (if_neg (by rw [d_ A hx (by simp only [bX,eh]; omega)]; decide)).symm
   refine rP 2 [] (mc 1 U I) ?_
   refine eB (xs:=[.tmp 62]) (cs:=[(vI x.AN)]) U dp ky U U U U (by simp [Value.cells]) U U fun j=>?_
   refine rS (CL (dK.eq (pk 0 5000 ([x.AN]) (some ⟨j,0,none⟩) 1 (by (simp; done))) cE) (ax (bu 0 U U (by simp [bR]) U)<|aN) U) ?_
   refine rP 3 [] I ?_
   refine bZ (t:=67) U (bg fun r=>?_) (bf fun r=>?_)
   ·refine bE 7 U<|RK C<|aT U<|WS fun _ W=>bE 1 U<|RK W<|bL<|ab<|fD U<|ab<|ab<|aH<|KK B<|WS fun _ X=>rP 2 [] I ?_
    refine RK X<|av<|Q1 hQ U U U ?_
    exact cI (if_neg (by rw [d_ A hx (by simp only [bX,eh]; omega)]; decide)).symm
   refine rP 3 [] I ?_
   refine cL (t:=70) U (bf fun s=>?_) (bg fun s=>?_)
   ·refine bE 4 U<|RK C<|cj U<|WK AB<|aw<|e9 3 [] (mc 2 U I) U<|aK<|aO<|KK F<|aw<|rP 2 [] I ?_
    refine aK ?_
    have f:(vI (gG ts (i+1)))=(vI x.Id):=by rw [gv hx]
    refine a_ (E ⟨(i+1),⟨om,hZ A hx (by simp only [bX,eh]; omega),by rw [gv hx]; omega,by rw [gv hx]; omega⟩⟩ _ _ _ U os (cK 4<|bj U f<|bk U) (aP [3,4]))
   refine rP 4 [] I ?_
   refine RK C<|bV U (bf fun u=>?_) (bg fun u=>?_)
   ·refine WK AB<|aw<|e9 3 [] (mc 2 U I) U<|aK<|aO<|KK F<|aw<|rP 2 [] I ?_
    refine aK ?_
    have e:(vI (gG ts (i+1)))=(vI x.Id):=by rw [gv hx]
    refine a_ (E ⟨(i+1),⟨om,hZ A hx (by simp only [bX,eh]; omega),by rw [gv hx]; omega,by rw [gv hx]; omega⟩⟩ _ _ _ U os (cK 4<|bj U e<|bk U) (aP [3,4]))
   refine WS fun _ Y=>bE 1 U<|RK Y<|bL<|ab<|fD U<|ab<|ab<|aH<|KK B<|WS fun _ Z=>rP 2 [] I ?_
   refine RK Z<|av<|Q1 hQ U U U ?_
   exact cI (if_neg (by rw [d_ A hx (by simp only [bX,eh]; omega)]; decide)).symm
  refine aw<|rP 2 [] (mc 0 U I) ?_
  refine rS (SX (ow (m:=x.jm) U U Mm sr (mC (by first|assumption|omega))) U U)<|eB (xs:=[.tmp 33]) (cs:=[(vI x.jm)]) U dp ky U U U U (by simp [Value.cells]) U U fun g=>?_
  refine rS (CL (dK.eq (pk 1 2 ([x.jm]) (some ⟨g,0,none⟩) 1 (by (simp; done))) cE) (ax (bu 0 U U (by simp [bR]) U)<|aN) U) ?_
  refine rP 1 [] I ?_
  refine cL (t:=36) U (aU fun n=>?_) (aV fun n=>?_)
  ·refine rP 5 [] I ?_
   refine aK ?_
   have d:(decide ((1≤x.jm∧x.jm≤2)∧x.eM.Lo≤x.eM.Hi∧500≤x.eM.Lo∧x.eM.Hi≤20000))=false:=bH om
   refine a_ (iF (cK 8<|nQ U d<|dv.nil _) (aP [1,2,3]) (H ()))
  refine bE 1 U<|rS (LP (ai.cells x.eM) 1 U cq U U U)<|rS (CL (wo x.eM 500 20000) (aN) U)<|rP 2 [] I ?_
  refine aK ?_
  have c:(decide ((1≤x.jm∧x.jm≤2)∧x.eM.Lo≤x.eM.Hi∧500≤x.eM.Lo∧x.eM.Hi≤20000))=(decide (x.eM.Lo≤x.eM.Hi∧500≤x.eM.Lo∧x.eM.Hi≤20000)):=gY.2 om
  refine a_ (iF (cK 8<|nQ U c<|dv.nil _) (aP [1,2,3]) (H ()))
 refine aw<|e9 2 [] (mc 0 U I) U<|rS (BI U lB)<|rP 1 [] I ?_
 refine cL (t:=25) U (aU fun l=>?_) (aV fun l=>?_)
 ·refine rP 6 [] I ?_
  refine aK ?_
  have b:(decide (x.jm=0∧x.eM.Lo=0∧x.eM.Hi=0))=false:=bH om
  refine a_ (iF (cK 7<|nQ U b<|dv.nil _) (aP [0,1,2]) (G ()))
 refine bE 1 U<|rS (LP (ai.cells x.eM) 0 U cq U U U)<|rS (SX (bq (xs:=[]) (cs:=(ai.cells (ai.mk 0 0))) U U (bp g4 U)) U U)<|rS (BI U (wR _ _ x.eM (ai.mk 0 0)))<|rP 2 [] I ?_
 refine aK ?_
 have a:(decide (x.jm=0∧x.eM.Lo=0∧x.eM.Hi=0))=(decide (x.eM=(ai.mk 0 0))):=gY.2 (by (simp only [ai.ext_iff] at *; omega))
 refine a_ (iF (cK 7<|nQ U a<|dv.nil _) (aP [0,1,2]) (G ()))
theorem Ql (ts:List au) (tsA:OA) (tsC:Nat) (hlen:ts.length≤1000000):
 p9 Tryz.prog 89 [(vA (bM.cells (bM.mk (bx.mk tsA ts.length tsC))))] [(rd tsA ts.length 9 (ts.map au.cells))] (fun (x:(OA)×Nat)=>(vA (bM.cells (bM.mk (bx.mk x.1 ts.length x.2))))) (fun (x:(OA)×Nat)=>True) (fun (x:(OA)×Nat)=>[(own x.1 x.2 118 9 (ts.map au.cells))]):=by
 refine fF kr Tryz.func89 U U fun H Q hQ hN=>?_
 try dsimp only
 refine WS fun _ A=>eL U fun F=>AL U U8 fun G=>RK A<|WS fun _ B=>qj U yo U fun E=>rP 2 [] (mc 2 U I) ?_
 refine fH (es:=(List.map au.cells [])) (C':=[own (some ⟨E,0,none⟩) 0 118 9 (List.map au.cells []),_,_,_]) 0 U sm U (by simp [maxLen]) U ?_
 refine dH (es2:=(List.map au.cells ts)) (m':=ts.length) 0 U U U U1 U U sm (aG 3 U) (sH _) os (by first|(simp only [maxLen]; omega)|(simp [maxLen]; omega)) sm sm U fun C D=>?_
 try dsimp only
 refine rS (SX (bq (xs:=[(0,.tmp 6)]) (cs:=(bM.cells (bM.mk (bx.mk C ts.length D)))) U U (bp Rx U)) U U)<|qy U Ti U<|RK B<|av<|LX hQ (C,D) [0] [0] (mc 1 U I) U U U U ?_
 trivial
theorem xQ (la:List Int) (laA:OA) (laC:Nat) (lb:List Int) (lbA:OA) (lbC:Nat) (h1:la.length≤1000000) (h2:lb.length≤1000000):
 dK Tryz.prog 19 [(vS laA la.length laC),(vS lbA lb.length lbC)] [(rd laA la.length 1 (la.map iC)),(rd lbA lb.length 1 (lb.map iC))] (vB (decide (la=lb))):=by
 refine bG kr Tryz.func19 U U fun V Q hQ hN=>?_
 try dsimp only
 refine WS fun _ J=>bE 1 U<|RK J<|aq fun _ K=>WS fun _ L=>rP 5 [] I ?_
 refine RK L<|cw U (bg fun hl=>?_) (bf fun hl=>?_)
 ·refine WS fun _ M=>rP 1 [] I ?_
  refine RK M<|av<|Q1 hQ U U U ?_
  first|exact cB (bH (qI hx hy h)).symm|exact cB (dI (qO om A om)).symm|exact cB (bH (fun e=>by subst e; omega)).symm
 refine WK K<|aq fun _ N=>WS fun _ O=>rP 1 [] I ?_
 refine RK O<|aF ?_
 have B:(0≤la.length)∧(la.take 0=lb.take 0):=by simp
 refine bQ (ι:={z:Nat // (z≤la.length)∧(la.take z=lb.take z)}) [0,1] [0,1] U U (fun z=>[(5,(vI (z.1:Int)))]) (fun z=>[]) (fun _=>rfl) (fun _=>rfl) (fun z=>la.length-z.1) ⟨0,B⟩ (bk U) (aP [0,1]) ?_
 clear B
 rintro ⟨i,⟨S,A⟩⟩ J7 AB
 try dsimp only
 refine aq fun _ P=>WS fun _ R=>rP 4 [] I ?_
 refine RK R<|bV U (aU fun H=>?_) (aV fun H=>?_)
 ·refine bL<|ab<|ab<|aH<|KK N<|WS fun _ F=>rP 1 [] I ?_
  refine RK F<|av<|Q1 hQ U U U ?_
  first|exact cB (bH (qI hx hy h)).symm|exact cB (dI (qO om A om)).symm|exact cB (bH (fun e=>by subst e; omega)).symm
 refine WK P<|aq fun _ C=>aF<|aq fun _ D=>dA cy 9 kr<|dP 2 [] I ?_
 obtain ⟨x,hx⟩:=aM la i om
 have T:=bO iC hx
 refine dS (IA i U (aG 0 U) dp dc om om)<|dS (gQ i 0 (vI x) U cq (aG 0 U) T U dc U)<|dP 2 [] I ?_
 obtain ⟨y,hy⟩:=aM lb i om
 have AA:=bO iC hy
 refine dS (IA i U (aG 1 U) dp dc om om)<|dS (gQ i 0 (vI y) U cq (aG 1 U) AA U dc U)<|dP 1 [] I ?_
 refine cM<|RK D<|cw U (bg fun h=>?_) (bf fun h=>?_)
 ·refine WS fun _ E=>rP 1 [] I ?_
  refine RK E<|av<|Q1 hQ U U U ?_
  first|exact cB (bH (qI hx hy h)).symm|exact cB (dI (qO om A om)).symm|exact cB (bH (fun e=>by subst e; omega)).symm
 refine cg<|aO<|KK C<|aw<|rP 3 [] I ?_
 refine aK ?_
 have G:(vI (((i+1):Nat):Int))=(vI ((i:Int)+1)):=by exact cI om
 refine a_ (AB ⟨(i+1),⟨om,vk A hx hy h⟩⟩ _ _ _ U os (dv.cons U<|dv.cons U<|bj U G<|dv.nil _) (aP [0,1]))
end
section
open Go.RowKit
theorem Mr (l:br) (kA:OA) (kC:Nat) (az:List RA) (cA:OA) (cC:Nat) (bA:OA) (bC:Nat) (hin:eo l az) (hng: ¬ mo l):
 p9 Tryz.prog 58 [(vA (ct.cells (jW l kA kC cA cC bA bC)))] [(rd kA l.aS.length 9 (l.aS.map au.cells)),(rd cA l.aj.length 2 (List.zipWith ay.cells l.aj az)),(dU (bo ay.gn l.aj az)),(rd bA l.aa.length 4 (l.aa.map bK.cells))] (fun (x:(OA)×Nat×(OA)×Nat×(List RA)×(OA)×Nat)=>(vA (ct.cells (ct.mk (bM.mk (bx.mk x.1 l.aS.length x.2.1)) l.hG (bx.mk x.2.2.1 l.aj.length x.2.2.2.1) (bx.mk x.2.2.2.2.2.1 l.aa.length x.2.2.2.2.2.2) l.cf l.e8 l.di)))) (fun (x:(OA)×Nat×(OA)×Nat×(List RA)×(OA)×Nat)=>x.2.2.2.2.1.length=l.aj.length∧uz l.aj x.2.2.2.2.1) (fun (x:(OA)×Nat×(OA)×Nat×(List RA)×(OA)×Nat)=>[(own x.1 x.2.1 118 9 (l.aS.map au.cells)),(own x.2.2.1 x.2.2.2.1 73 2 (List.zipWith ay.cells l.aj x.2.2.2.2.1)),(bU (bo ay.owns l.aj x.2.2.2.2.1)),(own x.2.2.2.2.2.1 x.2.2.2.2.2.2 122 4 (l.aa.map bK.cells))]):=by
 have v:=hin.se
 have u:=hin.sb
 have G:=hin.nP
 have t:=hin.r9
 have Z:=Bl hng
 refine fF Vc Tryz.func58 U U fun w0 Q hQ hN=>?_
 try dsimp only
 refine WS fun _ p=>eL U fun b2=>AL U RC fun b3=>RK p<|WS fun _ q=>rP 1 [] I ?_
 refine rS (LP (bM.cells (bM.mk (bx.mk kA l.aS.length kC))) 1 U Rg U U U) ?_
 refine cX (Ql l.aS kA kC sd) (bw [2]) U fun y w=>?_
 obtain ⟨c,d⟩:=y
 try dsimp only
 refine bE 1 U<|RT (ct.cells (ct.mk (bM.mk (bx.mk c l.aS.length d)) l.hG (bx.mk cA l.aj.length cC) (bx.mk bA l.aa.length bC) l.cf l.e8 l.di)) U Ti U U<|RK q<|WS fun _ r=>qj U Ae U fun e=>rP 2 [] (mc 3 U I) ?_
 refine fH (es:=(List.map dy.cells [])) (C':=[own (some ⟨e,0,none⟩) 0 73 2 (List.map dy.cells []),_,_,_,_,_,_,_]) 0 U sm U (by simp [maxLen]) U ?_
 refine dH (es2:=(List.zipWith ay.cells l.aj az)) (m':=l.aj.length) 0 U U U UX U U sm (aG 5 U) (DA _ _) os (by first|(simp only [maxLen]; omega)|(simp [maxLen]; omega)) sm (g_ G) U fun B D=>?_
 try dsimp only
 refine bE 1 U<|OT (ct.cells (ct.mk (bM.mk (bx.mk c l.aS.length d)) l.hG (bx.mk B l.aj.length D) (bx.mk bA l.aa.length bC) l.cf l.e8 l.di)) U US U U<|RK r<|aq fun _ N=>WS fun _ O=>rP 1 [] I ?_
 refine RK O<|aF<|od ?_
 have H:(0≤l.aj.length)∧(([]:List RA).length=0)∧(uz l.aj ([]:List RA)):=by exact ⟨Nat.zero_le _,rfl,fun k m a _ h=>by simp at h⟩
 refine bQ (ι:={z:Nat×(List RA) // (z.1≤l.aj.length)∧(z.2.length=z.1)∧(uz l.aj z.2)}) [1,2] [2,3,4,5,6,7,8] U U (fun z=>[(3,(vI (z.1.1:Int)))]) (fun z=>[(bU (bo ay.owns (l.aj.take z.1.1) z.1.2)),(own B D 73 2 (List.zipWith ay.cells l.aj (r_ z.1.2 az z.1.1)))]) (fun _=>rfl) (fun _=>rfl) (fun z=>l.aj.length-z.1.1) ⟨(0,([]:List RA)),H⟩ (bk U) (aP [2,3,4,5,6,7,8,0,1]) ?_
 clear H
 rintro ⟨⟨i,bz⟩,⟨AB,A,F⟩⟩ J15 M
 try dsimp only at AB A F
 try dsimp only
 refine aq fun _ P=>WS fun _ R=>rP 5 [] (mc 2 U I) ?_
 refine RK R<|bV U (aU fun j=>?_) (aV fun j=>?_)
 ·refine bL<|ab<|ab<|aH<|KK N<|WS fun _ T=>qj U v9 U fun g=>?_
  rw [show r_ bz az i=bz from JE om]
  rw [show l.aj.take i=l.aj from List.take_of_length_le om]
  refine rP 2 [] (mc 3 U I) ?_
  refine fH (es:=(List.map bK.cells [])) (C':=[own (some ⟨g,0,none⟩) 0 122 4 (List.map bK.cells []),_,_,_,_,_,_,_,_,_]) 0 U sm U (by simp [maxLen]) U ?_
  refine dH (es2:=(List.map bK.cells l.aa)) (m':=l.aa.length) 0 U U U TE U U sm (aG 7 U) (we _) os (by first|(simp only [maxLen]; omega)|(simp [maxLen]; omega)) sm sm U fun K L=>?_
  try dsimp only
  refine bE 1 U<|OT (ct.cells (ct.mk (bM.mk (bx.mk c l.aS.length d)) l.hG (bx.mk B l.aj.length D) (bx.mk K l.aa.length L) l.cf l.e8 l.di)) U UF U U<|RK T<|WS fun _ AA=>rP 1 [] (mc 3 U I) ?_
  refine FH U OI U<|RK AA<|av ?_
  refine LX hQ (c,d,B,D,bz,K,L) [1,9,8,0] [0] (mc 2 U I) U (by simp only [fu,List.all_nil,ng,Bool.and_true]; rfl) U U ?_
  exact ⟨dso,F⟩
 refine WK P<|aq fun _ S=>aF<|dM cy [3,10,13] [6,7,8,9,10] [0,1] [0,1,2,3,4,5,6,7] [0,1,2,3,4,5,6,7,8] U U U U U<|eS U (FA 2 U JK U)<|eS U (L1 (vS B l.aj.length D) 2 U PH U U)<|eS U (MV U)<|eS U (FA 2 U JK U)<|eS U (L1 (vS B l.aj.length D) 2 U PH U U)<|eS U (MV U) ?_
 obtain ⟨x,hx⟩:=aM l.aj i om
 obtain ⟨xa,J⟩:=aM az i om
 have b:(List.zipWith ay.cells l.aj (r_ bz az i))[i]? =some (ay.cells x xa):=dx hx (Ew A J)
 refine fS U (IA i U (ak (n:=l.aj.length) 8 U (g_ (by rw [qX A om]; exact G))) Ae dc om om) ?_
 refine fS U (o1 ((i*2)+1) U (ak (n:=l.aj.length) 8 U (g_ (by rw [qX A om]; exact G))) (Nat.mul_pos om dc) KP U) ?_
 refine fS U (gQ i 1 (vS xa.1 x.bI.length xa.2) U Re (ak (n:=l.aj.length) 8 U (g_ (by rw [qX A om]; exact G))) b U dc U) ?_
 refine fS U (IA i U (ak (n:=l.aj.length) 8 U (g_ (by rw [qX A om]; exact G))) Ae dc om om) ?_
 refine fS U (o1 ((i*2)+1) U (ak (n:=l.aj.length) 8 U (g_ (by rw [qX A om]; exact G))) (Nat.mul_pos om dc) KP U) ?_
 refine eC U<|jF U fun T20 V=>qj U xU U fun f=>aK (V _ _ (aP [1,2,3,4,5,6,7,8]) (aP [1,2,3,4,5,6,7,8,9]) ?_)
 refine jF U fun T22 W=>fH (es:=(List.map cQ.cells [])) (C':=[own (some ⟨f,0,none⟩) 0 75 3 (List.map cQ.cells []),_,_,_,_,_,_,_,_,_]) 0 U sm U (by simp [maxLen]) U ?_
 refine dH (es2:=(List.map cQ.cells x.bI)) (m':=x.bI.length) 0 U U U TF U U sm (show iH _ (rd xa.1 x.bI.length 3 (x.bI.map cQ.cells)).holds from (cY 6 U (bP hx J (by simp [ay.gn])))) (wg _) (by have:=Z.2.2.2 x (aQ hx); simp; omega) (by have:=Z.2.2.2 x (aQ hx); simp only [maxLen]; simp; omega) sm sm U fun C E=>?_
 try dsimp only
 refine R_ 0 U fun s=>aK (W _ _ (aP [1,2,3,4,5,6,7,8]) (aP [1,2,3,4,5,6,7,8,9]) ?_)
 refine cv U fun T25 X=>gR (k:=i) (o:=1) (vs:=[(vS C x.bI.length E)]) (es':=(List.zipWith ay.cells l.aj (r_ (bz++[(C,E)]) az (i+1)))) (C':=[_,_,_,_,_,_,_,_,_,(own B D 73 2 (List.zipWith ay.cells l.aj (r_ (bz++[(C,E)]) az (i+1))))]) 9 U U U UL U U U U b U dc (by exact M7 (nw:=(C,E)) hx A J) U<|aK (X _ _ (aP [1,2,3,4,5,6,7,8]) ?_)
 refine fP U<|aO<|KK S<|aw<|rP 3 [] I ?_
 refine aK<|xy (X':=bo ay.owns (l.aj.take (i+1)) (bz++[(C,E)])) 8 0 U U (He (nw:=(C,E)) hx A) ?_
 have Y:(vI (((i+1):Nat):Int))=(vI ((i:Int)+1)):=by exact cI om
 refine a_ (M ⟨((i+1),(bz++[(C,E)])),⟨om,by simp; omega,HE F A hx (by simpa using s)⟩⟩ _ _ _ U os (dv.cons U<|dv.cons U<|bj U Y<|dv.nil _) (aP [1,2,3,4,5,6,7,0,8]))
end
section
open Go.RowKit
structure HJ (S:BS) (w0:World) (X:aB) (C0:List aB) (w:World) (S':BS):Prop where
 st:St S w0 (X::C0) w
 w_: ∀ b,S'.w b↔ ∃ A∈C0,A.wf b
theorem DH {A B:aB} (h:CZ A B):CZ A.ro B:=fun b C D=>⟨fun h=>h,(h b C D).2⟩
theorem Ct {E:fB} {c:Code} {Q:dk} {D:ib} {L:dD} {C C0:List aB} {X:aB} (i:Nat) (hn:decide (i::(List.range C.length).filter fun k=>k != i).Nodup=true) (hC:jR C (i::(List.range C.length).filter fun k=>k != i)=X::C0)
 (h: ∀ w S',HJ E.S E.w0 X C0 w S'→WJ ⟨E.P,E.r,E.n,S',w⟩ c Q D L (X.ro::C0)):WJ E c Q D L C:=fun a w hf hs=>by
 have F:=St.jR _ hn hC hs
 obtain ⟨G,H⟩:=List.pairwise_cons.1 F.sep
 refine h w ⟨fun b=> ∃ A∈C0,A.wf b,fun _=>True⟩ ⟨F,fun b=>Iff.rfl⟩ a w hf ⟨dV.refl _ _,fun A hA=>?_,List.Pairwise.cons (fun B hB=>DH (G B hB)) H,fun A hA b hb=>?_,fun A hA b hb=> .inr trivial⟩
 ·rcases bW.1 hA with rfl|hA
  ·exact F.holds X (cH ..)
  ·exact F.holds A (dR _ hA)
 ·rcases bW.1 hA with rfl|hA
  ·exact hb.elim
  ·exact .inr ⟨A,hA,hb⟩
theorem Ar {E:fB} {S':BS} {w:World} {K:Act→World→Prop} {D:ib} {L:dD} {C0 C1 C2:List aB} {X:aB} (hz:HJ E.S E.w0 X C0 w S') (is:List Nat) (hn:decide is.Nodup=true) (hC:jR C2 is=C1) (hwr:C1.all (·.wr)=true)
 (h:KJ E K D L (X::C1)):KJ ⟨E.P,E.r,E.n,S',w⟩ K D L C2:=fun a w' hf hs=>by
 have F:=St.jR is hn hC hs
 have C:=hz.st
 obtain ⟨J,M⟩:=List.pairwise_cons.1 C.sep
 have AA: ∀ b,X.fE b→ ¬ S'.w b:=fun b hb hw=>by
  obtain ⟨A,hA,hw⟩:=(hz.w_ b).1 hw
  exact (J A hA b hb (A.kz b hw)).2 hw
 have G: ∀ b,S'.w b→E.w0.heap.size≤b∨E.S.w b:=fun b hb=>by
  obtain ⟨A,hA,hw⟩:=(hz.w_ b).1 hb
  exact C.own A (dR _ hA) b hw
 have H: ∀ A∈C1,∀ b,A.fE b→w.heap.size≤b∨S'.w b:=fun A hA b hb=>F.own A hA b (A.whole (de.1 hwr A hA) b hb)
 refine h a w' hf ⟨?_,fun A hA=>?_,List.Pairwise.cons (fun B hB b hb hb'=>?_) F.sep,fun A hA b hb=>?_,fun A hA b hb=>?_⟩
 ·refine ⟨F.keeps.os.trans C.keeps.os,F.keeps.tape.trans C.keeps.tape,F.keeps.output.trans C.keeps.output,Nat.le_trans C.keeps.size F.keeps.size,fun k hk hn'=>?_⟩
  refine (F.keeps.block k (Nat.lt_of_lt_of_le hk C.keeps.size) fun hw=>?_).trans (C.keeps.block k hk hn')
  rcases G k hw with q|q
  ·omega
  ·exact hn' q
 ·rcases bW.1 hA with rfl|hA
  ·have hh:=C.holds A (cH ..)
   exact A.oW w w' (fun b hb=>F.keeps.block b (A.lt w hh b hb) (AA b hb)) hh
  ·exact F.holds A hA
 ·exfalso
  have hl:=X.lt w (C.holds X (cH ..)) b hb
  rcases H B hB b hb' with q|q
  ·omega
  ·exact AA b hb q
 ·rcases bW.1 hA with rfl|hA
  ·exact C.own A (cH ..) b hb
  ·rcases F.own A hA b hb with q|q
   ·exact .inl (Nat.le_trans C.keeps.size q)
   ·exact G b q
 ·rcases bW.1 hA with rfl|hA
  ·exact C.seen A (cH ..) b hb
  ·rcases H A hA b hb with q|q
   ·exact .inl (Nat.le_trans C.keeps.size q)
   ·obtain ⟨B,hB,hw⟩:=(hz.w_ b).1 q
    exact C.seen B (dR _ hB) b (B.kz b hw)
/-- put back, as it was -/
theorem GD {M A:Type} {f:M→A→List aB} {S:BS} {w0 w:World} {C:List aB} {ms:List M} {asl:List A} {k:Nat} {m:M} {a:A} {X:aB} (hm:ms[k]? =some m) (ha:asl[k]? =some a) (hf:f m a=[X]) (h:St S w0 (X::bU (jd f ms asl k)::C) w):St S w0 (bU (bo f ms asl)::C) w:=by
 have B:St S w0 (bU (jd f ms asl k)::X::C) w:=h.perm (List.Perm.swap _ _ _)
 have D:St S w0 ((f m a++jd f ms asl k)++C) w:=by
  rw [hf]
  exact B.ja.perm (List.perm_middle (a:=X) (l₁:=jd f ms asl k) (l₂:=C))
 exact uS (rJ hm ha).symm D.tied
theorem Ii {E:fB} {K:Act→World→Prop} {D:ib} {L:dD} {C C1:List aB} {M A:Type} {f:M→A→List aB} {ms:List M} {asl:List A} {k:Nat} {m:M} {a:A} {X:aB} (i j:Nat) (hm:ms[k]? =some m) (ha:asl[k]? =some a) (hf:f m a=[X])
 (hn:decide (j::i::(List.range C.length).filter fun k=>k != i&&k != j).Nodup=true) (hC:jR C (j::i::(List.range C.length).filter fun k=>k != i&&k != j)=X::bU (jd f ms asl k)::C1)
 (h:KJ E K D L (bU (bo f ms asl)::C1)):KJ E K D L C:=fun a w hf' hs=>h a w hf' (GD hm ha hf (St.jR _ hn hC hs))
theorem zo {M A:Type} {f:M→A→List aB} {ms:List M} {asl:List A} {m:M} {a:A} {X:aB} (hl:ms.length=asl.length) (hf:f m a=[X]):bo f ms asl++[X]=bo f (ms++[m]) (asl++[a]):=by
 rw [jA hl,← hf]; simp [bo]
theorem yZ {E:fB} {K:Act→World→Prop} {D:ib} {L:dD} {C C1:List aB} {M A:Type} {f:M→A→List aB} {ms:List M} {asl:List A} {m:M} {a:A} {X:aB} (i j:Nat) (hf:f m a=[X])
 (hn:decide (j::i::(List.range C.length).filter fun k=>k != i&&k != j).Nodup=true) (hC:jR C (j::i::(List.range C.length).filter fun k=>k != i&&k != j)=X::bU (bo f ms asl)::C1)
 (h:KJ E K D L (bU (bo f (m::ms) (a::asl))::C1)):KJ E K D L C:=fun b w hf' hs=>by
 have B:=St.jR _ hn hC hs
 have F:St E.S E.w0 (bU (bo f ms asl)::X::C1) w:=B.perm (List.Perm.swap _ _ _)
 have G:St E.S E.w0 (bo f (m::ms) (a::asl)++C1) w:=by
  show St E.S E.w0 ((f m a++bo f ms asl)++C1) w
  rw [hf]
  exact F.ja.perm (List.perm_middle (a:=X) (l₁:=bo f ms asl) (l₂:=C1))
 exact h b w hf' G.tied
end
section
open Go.RowKit
abbrev l6 (r:Nat):aB:=jn r (.deferred (some []))
theorem LR (rs:List Nat):(bU (rs.map l6)).wr=true:=by
 show (rs.map l6).all (·.wr)=true
 rw [de]
 intro X hX
 obtain ⟨r,_,rfl⟩:=cz.1 hX
 rfl
theorem wD {E:fB} {c:Code} {Q:dk} {D:ib} {L:dD} {C:List aB} {ι:Type} (Di:ι→ib) (Li:ι→dD) (Ci:ι→List aB) (μ:ι→Nat) (x0:ι)
 (hD:D=Di x0) (h0:dv L (Li x0)) (hC: ∀ w,St E.S E.w0 C w→St E.S E.w0 (Ci x0) w)
 (round: ∀ x (J:Act→World→Prop),(∀ y D' L' C',D'=Di y→μ y<μ x→dv L' (Li y)→(∀ w,St E.S E.w0 C' w→St E.S E.w0 (Ci y) w)→KJ E J D' L' C')→WJ E c (Exit.then J Q) (Di x) (Li x) (Ci x)):WJ E (.loop c) Q D L C:=by
 intro a w hf hs
 subst hD
 have H: ∃ x,Fr E.n (Di x) (Li x) a∧St E.S E.w0 (Ci x) w:=⟨x0,hf.sub h0,hC w hs⟩
 clear hf hs
 have key: ∀ (m:Nat) (a:Act) (w:World),(∃ x,μ x=m∧Fr E.n (Di x) (Li x) a∧St E.S E.w0 (Ci x) w)→(Code.loop c).wpIn (Fw E.r) 0 E.P Q a w:=by
  intro m a w hx
  refine wpIn_loop (fun a w=> ∃ x,Fr E.n (Di x) (Li x) a∧St E.S E.w0 (Ci x) w) (fun a w=>leastOf fun k=> ∃ x,μ x=k∧Fr E.n (Di x) (Li x) a∧St E.S E.w0 (Ci x) w) (by obtain ⟨x,_,h⟩:=hx; exact ⟨x,h⟩) ?_
  intro a w hx
  have F: ∃ k,∃ x,μ x=k∧Fr E.n (Di x) (Li x) a∧St E.S E.w0 (Ci x) w:=by obtain ⟨x,h⟩:=hx; exact ⟨_,x,rfl,h⟩
  obtain ⟨x,K,AA,M⟩:=(leastOf_spec F).1
  refine round x _ ?_ a w AA M
  intro y D' L' C' hD G A B a' w' hf' hs'
  subst hD
  refine ⟨⟨y,hf'.sub A,B _ hs'⟩,?_⟩
  rw [← K]
  exact Nat.lt_of_le_of_lt ((leastOf_spec ⟨_,y,U,hf'.sub A,B _ hs'⟩).2 _ ⟨y,U,hf'.sub A,B _ hs'⟩) G
 obtain ⟨x,h⟩:=H
 exact key _ a w ⟨x,U,h⟩
theorem St.Uq {S:BS} {w0 w:World} {C X:List aB} {A:aB} (h:St S w0 (A::bU X::C) w):St S w0 (bU (A::X)::C) w:=by
 have B:St S w0 (bU X::A::C) w:=h.perm (List.Perm.swap _ _ _)
 have D:St S w0 ((A::X)++C) w:=B.ja.perm (List.perm_middle (a:=A) (l₁:=X) (l₂:=C))
 exact D.tied
theorem Iq {E:fB} {K:Act→World→Prop} {D:ib} {L:dD} {C C1 X:List aB} {A:aB} (i j:Nat) (hn:decide (j::i::(List.range C.length).filter fun k=>k != i&&k != j).Nodup=true) (hC:jR C (j::i::(List.range C.length).filter fun k=>k != i&&k != j)=A::bU X::C1)
 (h:KJ E K D L (bU (A::X)::C1)):KJ E K D L C:=fun a w hf hs=>h a w hf ((St.jR _ hn hC hs).Uq)
theorem Dz {E:fB} {K:Act→World→Prop} {D:ib} {L:dD} {C:List aB} (h:KJ E K D L (bU []::C)):KJ E K D L C:=fun a w hf hs=>h a w hf hs.Pq
theorem Qh {E:fB} {K:Act→World→Prop} {D:ib} {L:dD} (C1 C2:List aB) (h:KJ E K D L (bU C1::C2)):KJ E K D L (C1++C2):=fun a w hf hs=>h a w hf (St.tied hs)
theorem MY {E:fB} {fn:Func} {R:Ending→World→Prop} {D:ib} {L:dD} {C C1:List aB} {rs:List Nat} (i:Nat) (hn:decide (i::(List.range C.length).filter fun k=>k != i).Nodup=true) (hC:jR C (i::(List.range C.length).filter fun k=>k != i)=bU (rs.map l6)::C1)
 (h:LJ E fn R D L C1):LJ E fn R (rs.map jT++D) L C:=by
 have key: ∀ rs:List Nat,LJ E fn R (rs.map jT++D) L (bU (rs.map l6)::C1):=by
  intro rs
  induction rs with
  |nil=>exact fun a w hf hs=>h a w hf (hs.take (List.sublist_cons_self _ _))
  |cons r rs ih=>
   have A:LJ E fn R (jT r::(rs.map jT++D)) L (l6 r::bU (rs.map l6)::C1):=qG 0 rfl rfl (fun a w hf hs=>ih a w hf (hs.take (List.sublist_cons_self _ _)))
   intro a w hf hs
   refine A a w hf ?_
   have B:St E.S E.w0 ((l6 r::rs.map l6)++C1) w:=St.ja (C1:=l6 r::rs.map l6) hs
   have F:St E.S E.w0 (rs.map l6++(l6 r::C1)) w:=B.perm (List.perm_middle (a:=l6 r) (l₁:=rs.map l6) (l₂:=C1)).symm
   exact F.tied.perm (List.Perm.swap _ _ _)
 exact fun a w hf hs=>key rs a w hf (St.jR _ hn hC hs)
theorem JY {E:fB} {fn:Func} {R:Ending→World→Prop} {L:dD} {C C1:List aB} {rs:List Nat} (i:Nat) (hn:decide (i::(List.range C.length).filter fun k=>k != i).Nodup=true) (hC:jR C (i::(List.range C.length).filter fun k=>k != i)=bU (rs.map l6)::C1)
 (h:LJ E fn R [] L C1):LJ E fn R (rs.map jT) L C:=by
 have:=MY (D:=[]) i hn hC h
 rwa [List.append_nil] at this
end
section
open Go.RowKit
theorem pA (fs:List FM) (fb:List Nat):(bU (bo m6 fs fb)).wr=true:=by
 show (bo m6 fs fb).all (·.wr)=true
 rw [de]
 intro X hX
 obtain ⟨k,m,a,_,_,h⟩:=j_ hX
 simp only [m6,cu] at h
 subst h; rfl
theorem qE (fs:List TM) (fb:List Nat):(bU (bo qf fs fb)).wr=true:=by
 show (bo qf fs fb).all (·.wr)=true
 rw [de]
 intro X hX
 obtain ⟨k,m,a,_,_,h⟩:=j_ hX
 simp only [qf,cu] at h
 subst h; rfl
end
section
def dE (bl:List Nat) (n:Nat):List (Option Nat):=bl.map some++List.replicate (n-bl.length) none
def iu (bl:List Nat) (n:Nat):List (Option Nat):=List.replicate (n-bl.length) none++bl.map some
theorem nu {bl:List Nat} {n:Nat} (h:bl.length≤n):(dE bl n).length=n:=by simp [dE]; omega
theorem yG {bl:List Nat} {n:Nat} (h:bl.length≤n):(iu bl n).length=n:=by simp [iu]; omega
theorem u6 {n:Nat}:List.replicate n none=dE [] n:=by simp [dE]
theorem GL {n:Nat}:List.replicate n none=iu [] n:=by simp [iu]
theorem zt {bl:List Nat} {n:Nat} (h:bl.length=n):dE bl n=bl.map some:=by simp [dE,h]
theorem G9 {bl:List Nat} {n:Nat} (h:bl.length=n):iu bl n=bl.map some:=by simp [iu,h]
theorem mS {bl:List Nat} {n k g:Nat} (h:bl[k]? =some g):(dE bl n)[k]? =some (some g):=by
 have hk:=(aX.1 h).1
 unfold dE
 rw [List.getElem?_append_left (by simpa using hk),fX,h]; rfl
theorem tT {bl:List Nat} {n k i g:Nat} (h:bl[i]? =some g) (hk:k=n-bl.length+i):(iu bl n)[k]? =some (some g):=by
 subst hk
 unfold iu
 rw [List.getElem?_append_right sm,fX,List.length_replicate,Nat.add_sub_cancel_left,h]; rfl
theorem rG {bl:List Nat} {n k g:Nat} (hk:k=bl.length) (h:bl.length<n):(dE bl n).set k (some g)=dE (bl++[g]) n:=by
 subst hk
 unfold dE
 rw [List.set_append_right _ _ sm]
 have e:n-bl.length=(n-(bl++[g]).length)+1:=by simp; omega
 rw [e,List.replicate_succ]
 simp
theorem FR {bl:List Nat} {n k g:Nat} (hk:k+1+bl.length=n):(iu bl n).set k (some g)=iu (g::bl) n:=by
 unfold iu
 have e:n-bl.length=k+1:=by omega
 have A:n-(g::bl).length=k:=by simp; omega
 rw [e,A,List.set_append_left _ _ sm,List.replicate_succ',List.set_append_right _ _ sm]
 simp
theorem qp {l:List (Option Nat)} {k g:Nat} (h:l[k]? =some (some g)):(l.map oC)[k]? =some (oC (some g)):=by rw [fX,h]; rfl
theorem zI {α:Type} {l:List α} {x:α} {k:Nat} (h:k=l.length):(l++[x])[k]? =some x:=by subst h; simp
theorem KW {α:Type} {l:List α} {x y:α} {k:Nat} (h:l[k]? =some y):(l++[x])[k]? =some y:=by rw [List.getElem?_append_left (aX.1 h).1]; exact h
structure qo (w:b_) (fs:List FM):Prop where
 all: ∀ (b:Nat) m,fs[b]? =some m→tU m (fwd w b)∧(m.map (·.1)).Nodup
structure iv (w:b_) (k:Nat) (bs:List FM):Prop where
 all: ∀ (i:Nat) m,bs[i]? =some m→vD m (back w (k+i))∧(m.map (·.1)).Nodup
variable {w:b_} {b:Nat} {mb m left:List (aL×Int)} {o:Int×ai} {os:List (Int×ai)} {p:aL×Int}
theorem qo.first:qo w [[(⟨0,0⟩,w.Start)]]:=⟨fun b m h=>by
 match b with
 |0=>simp at h; subst h; exact ⟨GM,sm⟩
 |n+1=>simp at h⟩
theorem qo.add {fs:List FM} (h:qo w fs) (hl:fs.length=b+1) (hmb:fs[b]? =some mb) (hm:xg w b m) (hd:ke w b mb m left) (h0:left=[]):qo w (fs++[m]):=⟨fun i x hx=>by
 rcases Nat.lt_or_ge i fs.length with q|q
 ·rw [List.getElem?_append_left q] at hx; exact h.all i x hx
 ·rw [List.getElem?_append_right q] at hx
  have hi:i-fs.length=0:=by
   rcases Nat.eq_zero_or_pos (i-fs.length) with z|z
   ·exact z
   ·rw [List.getElem?_eq_none (by simp; omega)] at hx; cases hx
  rw [hi] at hx
  simp at hx; subst hx
  obtain rfl:i=b+1:=by omega
  have A:=h.all b mb hmb
  exact ⟨Is A.2 A.1 hm.snd (hd.fin h0),hm.keys⟩⟩
theorem qo.ok {fs:List FM} (h:qo w fs) (hl:fs.length=w.n+1):vW w fs:=⟨hl,fun b m hm=>(h.all b m hm).1,fun b m hm=>(h.all b m hm).2⟩
theorem iv.none_:iv w b []:=⟨fun i m h=>by simp at h⟩
theorem iv.last (hb:w.n≤b):iv w b [[(⟨0,0⟩,w.gf)]]:=⟨fun i m h=>by
 match i with
 |0=>simp at h; subst h; exact ⟨K2 om,sm⟩
 |n+1=>simp at h⟩
theorem iv.add {bs:List FM} (h:iv w (b+1) bs) (hb:b<w.n) (hmb:bs[0]? =some mb) (hm:wh w b m) (hd:jQ w b mb m left) (h0:left=[]):iv w b (m::bs):=⟨fun i x hx=>by
 match i with
 |0=>
  simp at hx; subst hx
  have A:=h.all 0 mb hmb
  exact ⟨Jw hb A.2 A.1 hm.snd hm.zero (hd.fin h0),hm.keys⟩
 |n+1=>
  have:=h.all n x (by simpa using hx)
  rw [show b+1+n=b+(n+1) by omega] at this
  exact this⟩
theorem iv.ok {bs:List FM} (h:iv w 0 bs) (hl:bs.length=w.n+1):sL w bs:=⟨hl,fun b m hm=>by have:=(h.all b m hm).1; rwa [Nat.zero_add] at this,fun b m hm=>(h.all b m hm).2⟩
/-- on the way through one entry's options -/
structure n_ (w:b_) (b:Nat) (mb left m:List (aL×Int)) (p:aL×Int) (os:List (Int×ai)):Prop where
 on:xg w b m
 tH:ke w b mb m left
 done:jx w b m p os
structure nM (w:b_) (b:Nat) (mb left m:List (aL×Int)) (p:aL×Int) (os:List (Int×ai)):Prop where
 on:wh w b m
 tH:jQ w b mb m left
 done:jy w b m p os
theorem n_.start (h:xg w b m) (h2:ke w b mb m left):n_ w b mb left m p []:=⟨h,h2,fun o ho=>by cases ho⟩
theorem nM.start (h:wh w b m) (h2:jQ w b mb m left):nM w b mb left m p []:=⟨h,h2,fun o ho=>by cases ho⟩
theorem GQ {q:aL×Int} (h:(m.lookup q.1).isSome=false∨q.2<(m.lookup q.1).getD 0):pG m q=ep m q.1 q.2:=by
 unfold pG
 cases e:m.lookup q.1 with
 |none=>rfl
 |some v=>rw [e] at h; simp at h; simp only; rw [if_pos h]
theorem DE {q:aL×Int} (h:(m.lookup q.1).isSome=true) (h2: ¬ q.2<(m.lookup q.1).getD 0):pG m q=m:=by
 unfold pG
 cases e:m.lookup q.1 with
 |none=>rw [e] at h; cases h
 |some v=>rw [e] at h2; simp only [Option.getD_some] at h2; simp only; rw [if_neg h2]
theorem Gd {q:aL×Int} (h:(m.lookup q.1).isSome=false∨(m.lookup q.1).getD 0<q.2):o8 m q=ep m q.1 q.2:=by
 unfold o8
 cases e:m.lookup q.1 with
 |none=>rfl
 |some v=>rw [e] at h; simp at h; simp only; rw [if_pos h]
theorem Ee {q:aL×Int} (h:(m.lookup q.1).isSome=true) (h2: ¬ (m.lookup q.1).getD 0<q.2):o8 m q=m:=by
 unfold o8
 cases e:m.lookup q.1 with
 |none=>rw [e] at h; cases h
 |some v=>rw [e] at h2; simp only [Option.getD_some] at h2; simp only; rw [if_neg h2]
theorem zJ {t:aL} {v y:Int} (hy:w.qn[b]? =some y) (h:max (v+y) o.2.Lo≤min o.2.Hi w.gf):kW w b (t,v) o=some (dG t (fJ o.1),max (v+y) o.2.Lo):=by
 have e:=oe hy
 subst e
 exact IX h
theorem KB {t:aL} {v y:Int} (hy:w.qn[b]? =some y) (h: ¬ max (v+y) o.2.Lo≤min o.2.Hi w.gf):kW w b (t,v) o=none:=by
 have e:=oe hy
 subst e
 exact LF h
theorem zz {t:aL} {v y:Int} (hy:w.qn[b]? =some y) (h:o.2.Lo≤min v o.2.Hi):oh w b (t,v) o=some (dG t (fJ o.1),min v o.2.Hi-y):=by
 have e:=oe hy
 subst e
 exact KX h
theorem n_.set {q:aL×Int} (h:n_ w b mb left m p os) (hp:p∈fwd w b) (ho:o∈iT w b) (he:kW w b p o=some q) (hs:(m.lookup q.1).isSome=false∨q.2<(m.lookup q.1).getD 0):n_ w b mb left (ep m q.1 q.2) p (os++[o]):=by
 rw [← GQ hs]
 exact ⟨h.on.add hp ho he,h.tH.lower vH,h.done.Iw he⟩
theorem n_.oW {q:aL×Int} (h:n_ w b mb left m p os) (he:kW w b p o=some q) (hs:(m.lookup q.1).isSome=true) (h2: ¬ q.2<(m.lookup q.1).getD 0):n_ w b mb left m p (os++[o]):=by
 have:=h.done.Iw he
 rw [DE hs h2] at this
 exact ⟨h.on,h.tH,this⟩
theorem n_.skip (h:n_ w b mb left m p os) (he:kW w b p o=none):n_ w b mb left m p (os++[o]):=⟨h.on,h.tH,h.done.none_ he⟩
theorem nM.set {q:aL×Int} (hb:b<w.n) (h:nM w b mb left m p os) (hp:p∈back w (b+1)) (ho:o∈iT w b) (he:oh w b p o=some q) (hs:(m.lookup q.1).isSome=false∨(m.lookup q.1).getD 0<q.2):nM w b mb left (ep m q.1 q.2) p (os++[o]):=by
 rw [← Gd hs]
 exact ⟨h.on.add hb hp ho he,h.tH.upper qJ,h.done.Iw he⟩
theorem nM.oW {q:aL×Int} (h:nM w b mb left m p os) (he:oh w b p o=some q) (hs:(m.lookup q.1).isSome=true) (h2: ¬ (m.lookup q.1).getD 0<q.2):nM w b mb left m p (os++[o]):=by
 have:=h.done.Iw he
 rw [Ee hs h2] at this
 exact ⟨h.on,h.tH,this⟩
theorem nM.skip (h:nM w b mb left m p os) (he:oh w b p o=none):nM w b mb left m p (os++[o]):=⟨h.on,h.tH,h.done.none_ he⟩
theorem n_.next {t:aL} {v:Int} (hn:(left.map (·.1)).Nodup) (hm:(t,v)∈left) (h:n_ w b mb left m (t,v) os) (ho: ∀ o∈iT w b,o∈os):ke w b mb m (fz left t):=h.tH.next hn hm h.done ho
theorem nM.next {t:aL} {v:Int} (hn:(left.map (·.1)).Nodup) (hm:(t,v)∈left) (h:nM w b mb left m (t,v) os) (ho: ∀ o∈iT w b,o∈os):jQ w b mb m (fz left t):=h.tH.next hn hm h.done ho
theorem qo.mem {fs:List FM} (h:qo w fs) (hm:fs[b]? =some mb) (hp:p∈mb):p∈fwd w b:=(h.all b mb hm).1.1 _ _ ((fV (h.all b mb hm).2).1 hp)
theorem iv.VD {bs:List FM} {k:Nat} (h:iv w k bs) (hk:k=b+1) (hm:bs[0]? =some mb) (hp:p∈mb):p∈back w (b+1):=by
 subst hk
 exact (h.all 0 mb hm).1.1 _ _ ((fV (h.all 0 mb hm).2).1 hp)
theorem iv.end_ {bs:List FM} {k j:Nat} (h:iv w k bs) (hj:bs.length=0) (hk:j=b) (hb:w.n≤b):iv w j ([(⟨0,0⟩,w.gf)]::bs):=by
 subst hk
 rw [il hj]
 exact iv.last hb
theorem iv.more {bs:List FM} {k j:Nat} (h:iv w k bs) (hk:k=b+1) (hj:j=b) (hb:b<w.n) (hmb:bs[0]? =some mb) (hm:wh w b m) (hd:jQ w b mb m left) (h0:left=[]):iv w j (m::bs):=by
 subst hk hj
 exact h.add hb hmb hm hd h0
end
section
open Go.RowKit
theorem jw {a:OA} {c e sz n:Nat} {es:List (List Value)} (h:es.length=n):K1 (own a c e sz es) (rd a n sz es):=by subst h; exact Mh
theorem qT {L:List aB}:K1 (bU L) (dU L):=⟨fun w h=>h.1,fun b h=>h⟩
theorem EK {b:Nat} {fb:List Nat} {g:Nat} (h:fb.length=b):bo qf (List.replicate b ([]:TM)) fb++[kj iV g (cU jZ [])]=bo qf (List.replicate (b+1) ([]:TM)) (fb++[g]):=by
 rw [List.replicate_succ']
 exact zo (by rw [List.length_replicate]; exact h.symm) U
theorem RN {α:Type} {ms:List α} {fb:List Nat} {n:Nat} (h:fb.length=n) (h2:ms.length=n):List.map oC (dE fb n)=List.zipWith gD ms fb:=by
 rw [zt h]; exact (AA om).symm
theorem kx {l:br} {r:cD} {i:Nat} {x:aI} (hx:r.ag[i]? =some x) (h: ¬ h_ l r.ag i x): ¬ eg l r:=fun q=>h (q.sig i x hx)
end
section
structure Dt (w w':b_):Prop where
 start:w'.Start=w.Start
 now:w.gf≤w'.gf
 n:w'.n=w.n
 least: ∀ b,cp w' b≤cp w b
 times:w'.vJ=w.vJ
 OM:w.di≤w'.di
 SW:w.e8≤w'.e8
 sigs:w'.PY=w.PY
variable {w w':b_}
theorem Dt.opt (h:Dt w w') {b:Nat} {o:Int×ai} (ho:o∈iT w b): ∃ o'∈iT w' b,o'.1=o.1∧o'.2.Lo≤o.2.Lo∧o.2.Hi≤o'.2.Hi:=by
 unfold iT at ho
 rcases bW.1 ho with rfl|ho
 ·exact ⟨(-1,⟨w'.Start,w'.gf⟩),cH ..,U,by simp only [h.start]; omega,h.now⟩
 ·refine ⟨o,dR _ ?_,U,Int.le_refl _,Int.le_refl _⟩
  unfold uw at ho ⊢; rw [h.times]; exact ho
theorem Dt.may (h:Dt w w') {t:aL} (ht:kO w t=true):kO w' t=true:=by
 unfold kO at ht ⊢
 have:=of_decide_eq_true ht
 have A:=h.OM
 have B:=h.SW
 have C:=h.sigs
 exact dI om
theorem Dt.fwd (h:Dt w w'): ∀ (b:Nat) (p:aL×Int),p∈fwd w b→ ∃ p'∈Go.Proofs.YtijpnoadncadoaaGreatDoor.fwd w' b,p'.1=p.1∧p'.2≤p.2:=by
 intro b
 induction b with
 |zero=>
  intro p hp
  simp only [Go.Proofs.YtijpnoadncadoaaGreatDoor.fwd,cu] at hp ⊢
  subst hp
  exact ⟨_,U,U,by simp only [h.start]; omega⟩
 |succ b ih=>
  intro q hq
  obtain ⟨p,hp,o,ho,e⟩:=gh.1 hq
  obtain ⟨p',hp',A,D⟩:=ih p hp
  obtain ⟨o',ho',B,E,F⟩:=h.opt ho
  have hl:=h.least b
  have hn:=h.now
  unfold kW at e
  split at e
  ·rename_i C
   simp only [Option.some.injEq] at e
   subst e
   refine ⟨(dG p'.1 (fJ o'.1),max (p'.2+cp w' b) o'.2.Lo),gh.2 ⟨p',hp',o',ho',by unfold kW; rw [if_pos om]⟩,by simp only [A,B],by simp only; omega⟩
  ·cases e
theorem Dt.bwd (h:Dt w w'): ∀ (k:Nat) (p:aL×Int),p∈bwd w k→ ∃ p'∈Go.Proofs.YtijpnoadncadoaaGreatDoor.bwd w' k,p'.1=p.1∧p.2≤p'.2:=by
 intro k
 induction k with
 |zero=>
  intro p hp
  simp only [Go.Proofs.YtijpnoadncadoaaGreatDoor.bwd,cu] at hp ⊢
  subst hp
  exact ⟨_,U,U,h.now⟩
 |succ k ih=>
  intro q hq
  simp only [Go.Proofs.YtijpnoadncadoaaGreatDoor.bwd,bW,List.mem_flatMap,List.mem_filterMap] at hq ⊢
  rcases hq with rfl|⟨p,hp,o,ho,e⟩
  ·exact ⟨_,.inl U,U,h.now⟩
  ·obtain ⟨p',hp',A,D⟩:=ih p hp
   obtain ⟨o',ho',B,E,F⟩:=h.opt ho
   have hl:=h.least (w.n-(k+1))
   rw [h.n]
   unfold oh at e
   split at e
   ·rename_i C
    simp only [Option.some.injEq] at e
    subst e
    exact ⟨(dG p'.1 (fJ o'.1),min p'.2 o'.2.Hi-cp w' (w.n-(k+1))),.inr ⟨p',hp',o',ho',by unfold oh; rw [if_pos om]⟩,by simp only [A,B],by simp only; omega⟩
   ·cases e
theorem Dt.back (h:Dt w w') {b:Nat} {p:aL×Int} (hp:p∈back w b): ∃ p'∈Go.Proofs.YtijpnoadncadoaaGreatDoor.back w' b,p'.1=p.1∧p.2≤p'.2:=by
 unfold Go.Proofs.YtijpnoadncadoaaGreatDoor.back at hp ⊢
 rw [h.n]
 exact h.bwd _ p hp
theorem Dt.pass (h:Dt w w') {b:Nat} {q:Int×ai} (hq:q∈mR w b): ∃ q'∈mR w' b,q'.1=q.1∧q'.2.Lo≤q.2.Lo∧q.2.Hi≤q'.2.Hi:=by
 obtain ⟨o,ho,p,hp,u,hu,e⟩:=iJ.1 hq
 obtain ⟨D,E,rfl⟩:=jH.1 e
 obtain ⟨o',ho',A,F,G⟩:=h.opt ho
 obtain ⟨p',hp',B,H⟩:=h.fwd _ p hp
 obtain ⟨u',hu',C,AA⟩:=h.back hu
 have hl:=h.least b
 simp only [jI] at D
 refine ⟨(o'.1,jI w' b p' u' o'),iJ.2 ⟨o',ho',p',hp',u',hu',jH.2 ⟨?_,?_,U⟩⟩,A,?_,?_⟩
 ·simp only [jI]; omega
 ·have:=h.may E
  unfold xE at this ⊢
  rw [A,B,C]; exact this
 ·simp only [jI]; omega
 ·simp only [jI]; omega
theorem pD {k:Int}:k∈hP w↔ ∃ i:Nat,k=(i:Int)∧i≤w.n∧jE w (fwd w i)=true:=by
 unfold hP kH
 simp only [cz,List.mem_filter,List.mem_range]
 constructor
 ·rintro ⟨i,⟨B,A⟩,rfl⟩; exact ⟨i,rfl,om,A⟩
 ·rintro ⟨i,rfl,B,A⟩; exact ⟨i,⟨om,A⟩,rfl⟩
theorem Dt.Gi (h:Dt w w') {k:Int} (hk:k∈hP w):k∈hP w':=by
 obtain ⟨i,rfl,C,A⟩:=pD.1 hk
 refine pD.2 ⟨i,U,by rw [h.n]; exact C,?_⟩
 unfold jE at A ⊢
 obtain ⟨p,hp,D⟩:=List.any_eq_true.1 A
 obtain ⟨p',hp',B,_⟩:=h.fwd _ p hp
 exact List.any_eq_true.2 ⟨p',hp',by rw [B]; exact h.may D⟩
/-- two rides, of two lines, of which one allows more -/
structure Tz (l:br) (r:cD) (l':br) (r':cD):Prop where
 line:dJ l=0
 line':dJ l'=0
 jS:eg l r
 ride':eg l' r'
 w:Dt (cm l r) (cm l' r')
 Oi:l'.aa.length=l.aa.length
variable {l l':br} {r r':cD}
theorem Tz.ok (h:Tz l r l' r') (he:dW l r 0=0):dW l' r' 0=0:=by
 refine lj h.line' h.ride' U fun e=>?_
 obtain ⟨k,hk⟩:=List.exists_mem_of_ne_nil _ (iM he).2.2.2
 have:=h.w.Gi hk
 rw [e] at this; cases this
theorem Tz.Eu (h:Tz l r l' r') {k:Int} (hk:k∈hU l r):k∈hU l' r':=by
 by_cases he:dW l r 0=0
 ·rw [kp he] at hk
  rw [kp (h.ok he)]
  exact h.w.Gi hk
 ·rw [nE he] at hk; cases hk
theorem Gm {b:Nat} (hb:b<l.aa.length):dW l r (jB l b)=dW l r 0:=by rw [um om]
theorem yI {b:Nat}:cp (cm l r) b=if b<l.aa.length then ej l b else 0:=by
 unfold cp cm cr
 split
 ·rename_i h
  simp [h]
 ·rename_i h
  simp [h]
theorem GH {sg:List aI} {i:Nat} (h:i=0):kP sg i=⟨-1,0⟩:=by subst h; rfl
theorem rz {sg:List aI} {i:Nat} {y:aI} (h:0<i) (hy:sg[i-1]? =some y):kP sg i=y:=by unfold kP; rw [if_neg om,hy]; rfl
def OW (l:br):Prop:= ¬ mo l∧dJ l=0
noncomputable instance (l:br):Decidable (OW l):=Classical.propDecidable _
end
section
open Go.RowKit
theorem Ny (r:cD) (sgA:OA) (sgC:Nat) (hsl:r.ag.length≤1000000):
 p9 Tryz.prog 59 [(vA (cN.cells (jr r sgA sgC)))] [(rd sgA r.ag.length 2 (r.ag.map aI.cells))] (fun (x:(OA)×Nat)=>(vA (cN.cells (cN.mk r.Start r.gf (bx.mk x.1 r.ag.length x.2))))) (fun (x:(OA)×Nat)=>True) (fun (x:(OA)×Nat)=>[(own x.1 x.2 78 2 (r.ag.map aI.cells))]):=by
 refine fF kr Tryz.func59 U U fun AA Q hQ hN=>?_
 try dsimp only
 refine WS fun _ A=>eL U fun G=>AL U Rt fun H=>RK A<|WS fun _ B=>qj U yC U fun F=>rP 2 [] (mc 2 U I) ?_
 refine fH (es:=(List.map aI.cells [])) (C':=[own (some ⟨F,0,none⟩) 0 78 2 (List.map aI.cells []),_,_,_]) 0 U sm U (by simp [maxLen]) U ?_
 refine dH (es2:=(List.map aI.cells r.ag)) (m':=r.ag.length) 0 U U U UO U U sm (aG 3 U) (uv _) os (by first|(simp only [maxLen]; omega)|(simp [maxLen]; omega)) sm sm U fun D E=>?_
 try dsimp only
 refine bE 1 U<|RT (cN.cells (jr r D E)) U Uk U U<|RK B<|WS fun _ C=>rP 1 [] (mc 2 U I) ?_
 refine qy U Qd U<|RK C<|av<|LX hQ (D,E) [0] [0] (mc 1 U I) U U U U ?_
 trivial
end
section
open Go.RowKit
theorem D9 (r:e7) (kA:OA) (kC:Nat) (az:List RA) (cA:OA) (cC:Nat) (bA:OA) (bC:Nat) (slA:OA) (slC:Nat) (drA:OA) (drC:Nat) (ha:List cZ) (heA:OA) (heC:Nat) (hin:ld r az ha) (hng: ¬ l7 r):
 p9 Tryz.prog 37 [(vA (er.cells (yz r kA kC cA cC bA bC slA slC drA drC heA heC)))] [(rd kA r.ar.aS.length 9 (r.ar.aS.map au.cells)),(rd cA r.ar.aj.length 2 (List.zipWith ay.cells r.ar.aj az)),(dU (bo ay.gn r.ar.aj az)),(rd bA r.ar.aa.length 4 (r.ar.aa.map bK.cells)),(rd slA r.aY.length 1 (r.aY.map iC)),(rd drA r.cd.length 1 (r.cd.map iC)),(rd heA r.aD.length 1 (List.zipWith cP r.aD ha)),(dU (bo fg r.aD ha))] (fun (x:(OA)×Nat×(OA)×Nat×(List RA)×(OA)×Nat×(OA)×Nat×(OA)×Nat×(OA)×Nat×(List cZ))=>(vA (er.cells (er.mk (ct.mk (bM.mk (bx.mk x.1 r.ar.aS.length x.2.1)) r.ar.hG (bx.mk x.2.2.1 r.ar.aj.length x.2.2.2.1) (bx.mk x.2.2.2.2.2.1 r.ar.aa.length x.2.2.2.2.2.2.1) r.ar.cf r.ar.e8 r.ar.di) (bx.mk x.2.2.2.2.2.2.2.1 r.aY.length x.2.2.2.2.2.2.2.2.1) (bx.mk x.2.2.2.2.2.2.2.2.2.1 r.cd.length x.2.2.2.2.2.2.2.2.2.2.1) r.j2 (bx.mk x.2.2.2.2.2.2.2.2.2.2.2.1 r.aD.length x.2.2.2.2.2.2.2.2.2.2.2.2.1))))) (fun (x:(OA)×Nat×(OA)×Nat×(List RA)×(OA)×Nat×(OA)×Nat×(OA)×Nat×(OA)×Nat×(List cZ))=>(x.2.2.2.2.1.length=r.ar.aj.length∧uz r.ar.aj x.2.2.2.2.1)∧Al r.aD x.2.2.2.2.2.2.2.2.2.2.2.2.2) (fun (x:(OA)×Nat×(OA)×Nat×(List RA)×(OA)×Nat×(OA)×Nat×(OA)×Nat×(OA)×Nat×(List cZ))=>[(own x.1 x.2.1 118 9 (r.ar.aS.map au.cells)),(own x.2.2.1 x.2.2.2.1 73 2 (List.zipWith ay.cells r.ar.aj x.2.2.2.2.1)),(bU (bo ay.owns r.ar.aj x.2.2.2.2.1)),(own x.2.2.2.2.2.1 x.2.2.2.2.2.2.1 122 4 (r.ar.aa.map bK.cells)),(own x.2.2.2.2.2.2.2.1 x.2.2.2.2.2.2.2.2.1 3 1 (r.aY.map iC)),(own x.2.2.2.2.2.2.2.2.2.1 x.2.2.2.2.2.2.2.2.2.2.1 3 1 (r.cd.map iC)),(own x.2.2.2.2.2.2.2.2.2.2.2.1 x.2.2.2.2.2.2.2.2.2.2.2.2.1 51 1 (List.zipWith cP r.aD x.2.2.2.2.2.2.2.2.2.2.2.2.2)),(bU (bo sj r.aD x.2.2.2.2.2.2.2.2.2.2.2.2.2))]):=by
 have p:=hin.line
 have Ic:=hin.iE
 have G:=hin.has
 have IO:=hin.iB
 have Go:=hin.draw
 have IP:=j7 (r:=r)
 have Cx:=E_ hng
 refine fF kr Tryz.func37 U U fun w0 Q hQ hN=>?_
 try dsimp only
 refine WS fun _ Eu=>eL U fun b2=>AL U TP fun b3=>RK Eu<|WS fun _ FG=>rP 1 [] I ?_
 refine rS (LP (ct.cells (jW r.ar kA kC cA cC bA bC)) 1 U cq U U U)<|cX (Mr r.ar kA kC az cA cC bA bC (by exact p) (by exact Cx.1)) (bw [2,3,4,5]) U fun y5 GT=>?_
 obtain ⟨T,V,AA,L,s,K,N⟩:=y5
 try dsimp only
 obtain ⟨FS,Fd⟩:=GT
 refine bE 1 U<|VV (er.cells (er.mk (ct.mk (bM.mk (bx.mk T r.ar.aS.length V)) r.ar.hG (bx.mk AA r.ar.aj.length L) (bx.mk K r.ar.aa.length N) r.ar.cf r.ar.e8 r.ar.di) (bx.mk slA r.aY.length slC) (bx.mk drA r.cd.length drC) r.j2 (bx.mk heA r.aD.length heC))) U OI U U<|RK FG<|WS fun _ v=>qj U dp U fun C2=>rP 2 [] (mc 6 U I) ?_
 refine fH (es:=(List.map iC [])) (C':=[own (some ⟨C2,0,none⟩) 0 3 1 (List.map iC []),_,_,_,_,_,_,_,_,_,_,_,_,_,_]) 0 U sm U (by simp [maxLen]) U ?_
 refine dH (es2:=(List.map iC r.aY)) (m':=r.aY.length) 0 U U U r8 U U sm (aG 11 U) (kZ _) (by simp; omega) (by simp only [maxLen]; simp; omega) sm sm U fun X Y=>?_
 try dsimp only
 refine bE 1 U<|V4 (er.cells (er.mk (ct.mk (bM.mk (bx.mk T r.ar.aS.length V)) r.ar.hG (bx.mk AA r.ar.aj.length L) (bx.mk K r.ar.aa.length N) r.ar.cf r.ar.e8 r.ar.di) (bx.mk X r.aY.length Y) (bx.mk drA r.cd.length drC) r.j2 (bx.mk heA r.aD.length heC))) U F9 U U<|RK v<|WS fun _ w=>qj U dp U fun C3=>rP 2 [] (mc 7 U I) ?_
 refine fH (es:=(List.map iC [])) (C':=[own (some ⟨C3,0,none⟩) 0 3 1 (List.map iC []),_,_,_,_,_,_,_,_,_,_,_,_,_,_,_]) 0 U sm U (by simp [maxLen]) U ?_
 refine dH (es2:=(List.map iC r.cd)) (m':=r.cd.length) 0 U U U r8 U U sm (aG 13 U) (kZ _) (by simp; omega) (by simp only [maxLen]; simp; omega) sm sm U fun g j=>?_
 try dsimp only
 refine bE 1 U<|VW (er.cells (er.mk (ct.mk (bM.mk (bx.mk T r.ar.aS.length V)) r.ar.hG (bx.mk AA r.ar.aj.length L) (bx.mk K r.ar.aa.length N) r.ar.cf r.ar.e8 r.ar.di) (bx.mk X r.aY.length Y) (bx.mk g r.cd.length j) r.j2 (bx.mk heA r.aD.length heC))) U F9 U U<|RK w<|WS fun _ AC=>qj U oQ U fun Di=>rP 2 [] (mc 8 U I) ?_
 refine fH (es:=(List.map sC [])) (C':=[own (some ⟨Di,0,none⟩) 0 51 1 (List.map sC []),_,_,_,_,_,_,_,_,_,_,_,_,_,_,_,_]) 0 U sm U (by simp [maxLen]) U ?_
 refine dH (es2:=(List.zipWith cP r.aD ha)) (m':=r.aD.length) 0 U U U Vq U U sm (aG 15 U) (Gs _ _) (by simp; omega) (by simp only [maxLen]; simp; omega) sm (e_ G) U fun J M=>?_
 try dsimp only
 refine bE 1 U<|V1 (er.cells (er.mk (ct.mk (bM.mk (bx.mk T r.ar.aS.length V)) r.ar.hG (bx.mk AA r.ar.aj.length L) (bx.mk K r.ar.aa.length N) r.ar.cf r.ar.e8 r.ar.di) (bx.mk X r.aY.length Y) (bx.mk g r.cd.length j) r.j2 (bx.mk J r.aD.length M))) U Vz U U<|RK AC<|aq fun _ AN=>WS fun _ AO=>rP 1 [] I ?_
 refine RK AO<|aF<|od ?_
 have F:(0≤r.aD.length)∧(([]:List cZ).length=0)∧(∀ (k:Nat) y (a:cZ),r.aD[k]? =some y→([]:List cZ)[k]? =some a→a.2.length=y.length):=by exact ⟨Nat.zero_le _,rfl,fun k y a _ q=>by simp at q⟩
 refine bQ (ι:={z:Nat×(List cZ) // (z.1≤r.aD.length)∧(z.2.length=z.1)∧(∀ (k:Nat) y (a:cZ),r.aD[k]? =some y→z.2[k]? =some a→a.2.length=y.length)}) [1,2] [2,3,4,5,6,7,8,9,10,11,12,13,14,15,16,17] U U (fun z=>[(3,(vI (z.1.1:Int)))]) (fun z=>[(bU (bo sj (r.aD.take z.1.1) z.1.2)),(own J M 51 1 (List.zipWith cP r.aD (l_ z.1.2 ha z.1.1)))]) (fun _=>rfl) (fun _=>rfl) (fun z=>r.aD.length-z.1.1) ⟨(0,([]:List cZ)),F⟩ (bk U) (aP [2,3,4,5,6,7,8,9,10,11,12,13,14,15,16,17,0,1]) ?_
 clear F
 rintro ⟨⟨h,hz⟩,⟨m,B,S⟩⟩ J28 t
 try dsimp only at m B S
 try dsimp only
 refine aq fun _ Am=>WS fun _ A0=>rP 5 [] (mc 7 U I) ?_
 refine RK A0<|bV U (aU fun EQ=>?_) (aV fun EQ=>?_)
 ·refine bL<|ab<|ab<|aH<|KK AN<|aq fun _ A7=>?_
  have Fn:Al r.aD hz:=⟨om,S⟩
  rw [show (l_ hz ha h)=hz from Bn om,show r.aD.take h=r.aD from List.take_of_length_le om]
  refine aw<|rP 1 [] (mc 7 U I) ?_
  refine Rj U Rr U<|RK A7<|av ?_
  refine LX hQ (T,V,AA,L,s,K,N,X,Y,g,j,J,M,hz) [2,3,4,5,1,0,17,16] [0] (mc 6 U I) U (by show List.all _ _=true; simp only [fu,List.all_nil,ng,w4,Bool.and_true]; rfl) U U ?_
  exact ⟨⟨FS,Fd⟩,Fn⟩
 refine WK Am<|aq fun _ A1=>aF<|aq fun _ A2=>dM cy [3,9,11] [6,7,8] [0,1] [0,1,2,3,4,5,6,7,8,9,10,11,12,13,14,15,16] [0,1,2,3,4,5,6,7,8,9,10,11,12,13,14,15,16,17] U U U U U<|eS U (FA 10 U fK U)<|eS U (L1 (vS J r.aD.length M) 7 U cq U U)<|eS U (MV U)<|eS U (FA 10 U fK U)<|eS U (L1 (vS J r.aD.length M) 7 U cq U U)<|eS U (MV U) ?_
 obtain ⟨ht,AB⟩:=aM r.aD h om
 obtain ⟨C,O⟩:=aM ha h om
 have e:(List.zipWith cP r.aD (l_ hz ha h))[h]? =some (cP ht C):=dx AB (EW B O)
 have C0:=hin.gL _ _ _ AB O
 have H:=C0.nP
 have C1:=Cx.2.2.2.2 ht (aQ AB)
 refine fS U (IA h U (ak (n:=r.aD.length) 17 U (e_ (by rw [jh B om]; exact G))) oQ dc om om) ?_
 refine fS U (gQ h 0 (vS C.1.1 ht.length C.1.2) U cq (ak (n:=r.aD.length) 17 U (e_ (by rw [jh B om]; exact G))) e U dc U) ?_
 refine fS U (IA h U (ak (n:=r.aD.length) 17 U (e_ (by rw [jh B om]; exact G))) oQ dc om om) ?_
 refine eC U<|jF U fun T34 A8=>qj U sh U fun Do=>aK (A8 _ _ (aP [1,2,3,4,5,6,7,8,9,10,11,12,13,14,15,16,17]) (aP [1,2,3,4,5,6,7,8,9,10,11,12,13,14,15,16,17,18]) ?_)
 refine jF U fun T36 A9=>fH (es:=(List.map aR.cells [])) (C':=[own (some ⟨Do,0,none⟩) 0 58 7 (List.map aR.cells []),_,_,_,_,_,_,_,_,_,_,_,_,_,_,_,_,_,_]) 0 U sm U (by simp [maxLen]) U ?_
 refine dH (es2:=(List.zipWith aC.cells ht C.2)) (m':=ht.length) 0 U U U Uj U U sm (show iH _ (rd C.1.1 ht.length 7 (List.zipWith aC.cells ht C.2)).holds from (cY 16 U (bP AB O cH))) (Mc _ _) (by simp; omega) (by simp only [maxLen]; simp; omega) sm (n8 H) U fun D E=>?_
 try dsimp only
 refine aK (A9 _ _ (aP [1,2,3,4,5,6,7,8,9,10,11,12,13,14,15,16,17]) (aP [1,2,3,4,5,6,7,8,9,10,11,12,13,14,15,16,17,18]) ?_)
 refine cv U fun T39 Bx=>gR (k:=h) (o:=0) (vs:=[(vS D ht.length E)]) (es':=(List.zipWith cP r.aD (l_ (hz++[((D,E),C.2)]) ha (h+1)))) (C':=[_,_,_,_,_,_,_,_,_,_,_,_,_,_,_,_,_,_,(own J M 51 1 (List.zipWith cP r.aD (l_ (hz++[((D,E),C.2)]) ha (h+1))))]) 18 U U U Ui U U U U e U dc (by exact Cd (b:=((D,E),C.2)) AB B O) U<|aK (Bx _ _ (aP [1,2,3,4,5,6,7,8,9,10,11,12,13,14,15,16,17]) ?_)
 refine fP U<|KK A2<|WS fun _ A3=>rP 1 [] I ?_
 refine RK A3<|aF<|od ?_
 have F:(0≤ht.length)∧(([]:List RA).length=0):=by exact ⟨Nat.zero_le _,rfl⟩
 refine bQ (ι:={z:Nat×(List RA) // (z.1≤ht.length)∧(z.2.length=z.1)}) [1,2,3] [2,3,4,5,6,7,8,9,10,11,12,13,14,15,16,17,18,19] U U (fun z=>[(4,(vI (z.1.1:Int)))]) (fun z=>[(bU (bo Dd (ht.take z.1.1) z.1.2)),(own D E 58 7 (List.zipWith aC.cells ht (l_ z.1.2 C.2 z.1.1)))]) (fun _=>rfl) (fun _=>rfl) (fun z=>ht.length-z.1.1) ⟨(0,([]:List RA)),F⟩ (bk U) (aP [2,3,4,5,6,7,8,9,10,11,12,13,14,15,16,17,18,19,0,1]) ?_
 clear F
 rintro ⟨⟨i,dz⟩,⟨Z,A⟩⟩ J41 u
 try dsimp only at Z A
 try dsimp only
 refine aq fun _ A4=>WS fun _ A5=>rP 4 [] (mc 7 U I) ?_
 have W:(List.zipWith cP r.aD (l_ (hz++[((D,E),C.2)]) ha (h+1)))[h]? =some (cP ht ((D,E),C.2)):=dx AB (JI B)
 refine rS (IA h U (ak (n:=r.aD.length) 17 U (e_ (by rw [jh (by simp; omega) om]; exact G))) oQ dc om om) ?_
 refine rS (gQ h 0 (vS D ht.length E) U cq (ak (n:=r.aD.length) 17 U (e_ (by rw [jh (by simp; omega) om]; exact G))) W U dc U) ?_
 refine rP 2 [] I ?_
 refine RK A5<|bV U (aU fun Eq=>?_) (aV fun Eq=>?_)
 ·refine bL<|ab<|ab<|aH<|aO<|KK A1<|aw<|rP 3 [] I ?_
  refine aK ?_
  have Hi:dz.length=ht.length:=by omega
  rw [show (l_ dz C.2 i)=dz from Bn om,show ht.take i=ht from List.take_of_length_le om]
  refine O9 (Z':=bo sj (r.aD.take (h+1)) (hz++[((D,E),dz)])) 16 18 19 U U (wY (f:=sj) (b:=((D,E),dz)) AB B) ?_
  rw [KG (y:=dz)]
  have Ck:(vI (((h+1):Nat):Int))=(vI ((h:Int)+1)):=by exact cI om
  refine a_ (t ⟨((h+1),(hz++[((D,E),dz)])),⟨om,by simp; omega,Ly AB S B dso⟩⟩ _ _ _ U os (dv.cons U<|dv.cons U<|bj U Ck<|dv.nil _) (aP [1,2,3,4,5,6,7,8,9,10,11,12,13,14,15,16,0,17]))
 refine WK A4<|aq fun _ A6=>aF<|dM cy [15,18] [12,13,14,15,16] [0] [0,1,2,3,4,5,6,7,8,9,10,11,12,13,14,15,16,17,18] [0,1,2,3,4,5,6,7,8,9,10,11,12,13,14,15,16,17,18,19] U U U U U<|eS U (FA 10 U fK U)<|eS U (L1 (vS J r.aD.length M) 7 U cq U U)<|eS U (MV U) ?_
 refine eS U (IA h U (ak (n:=r.aD.length) 17 U (e_ (by rw [jh (by simp; omega) om]; exact G))) oQ dc om om) ?_
 refine eS U (gQ h 0 (vS D ht.length E) U cq (ak (n:=r.aD.length) 17 U (e_ (by rw [jh (by simp; omega) om]; exact G))) W U dc U) ?_
 refine eS U (MV U)<|eS U (FA 10 U fK U)<|eS U (L1 (vS J r.aD.length M) 7 U cq U U)<|eS U (MV U) ?_
 refine eS U (IA h U (ak (n:=r.aD.length) 17 U (e_ (by rw [jh (by simp; omega) om]; exact G))) oQ dc om om) ?_
 refine eS U (gQ h 0 (vS D ht.length E) U cq (ak (n:=r.aD.length) 17 U (e_ (by rw [jh (by simp; omega) om]; exact G))) W U dc U) ?_
 refine eS U (MV U) ?_
 obtain ⟨d,hd⟩:=aM ht i om
 obtain ⟨da,l⟩:=aM C.2 i om
 have Cp:(List.zipWith aC.cells ht (l_ dz C.2 i))[i]? =some (aC.cells d da):=dx hd (EW A l)
 have GE:=C0.sig d (aQ hd)
 have H1:=C1.2 d (aQ hd)
 refine fS U (IA i U (ak (n:=ht.length) 19 U (n8 (by rw [jh A om]; exact H))) sh dc om om) ?_
 refine fS U (o1 ((i*7)+4) U (ak (n:=ht.length) 19 U (n8 (by rw [jh A om]; exact H))) (Nat.mul_pos om dc) fK U) ?_
 refine fS U (lS i 4 (cN.cells (cN.mk d.bD.Start d.bD.gf (bx.mk da.1 d.bD.ag.length da.2))) U cq (ak (n:=ht.length) 19 U (n8 (by rw [jh A om]; exact H))) Cp U dc U U) ?_
 refine fS U (IA i U (ak (n:=ht.length) 19 U (n8 (by rw [jh A om]; exact H))) sh dc om om) ?_
 refine fS U (o1 ((i*7)+4) U (ak (n:=ht.length) 19 U (n8 (by rw [jh A om]; exact H))) (Nat.mul_pos om dc) fK U) ?_
 refine eC U<|jF U fun T46 B3=>cX (Ny d.bD da.1 da.2 (by exact GE)) (ax (show iH _ (rd da.1 d.bD.ag.length 2 (d.bD.ag.map aI.cells)).holds from (cY 15 U (bP AB O (dR _ (bP hd l (by simp [aC.gn]))))))<|aN) U fun Gi IR=>?_
 obtain ⟨P,R⟩:=Gi
 try dsimp only
 refine aK (B3 _ _ (aP [1,2,3,4,5,6,7,8,9,10,11,12,13,14,15,16,17,18,19]) (aP [1,2,3,4,5,6,7,8,9,10,11,12,13,14,15,16,17,18,19,20]) ?_)
 refine cv U fun T51 B9=>gR (k:=i) (o:=4) (vs:=(cN.cells (jr d.bD P R))) (es':=(List.zipWith aC.cells ht (l_ (dz++[(P,R)]) C.2 (i+1)))) (C':=[_,_,_,_,_,_,_,_,_,_,_,_,_,_,_,_,_,_,_,_,(own D E 58 7 (List.zipWith aC.cells ht (l_ (dz++[(P,R)]) C.2 (i+1))))]) 20 U U U Qd U U U U Cp U dc (by exact Cd (c:=aC.cells) (b:=(P,R)) hd A l) U<|aK (B9 _ _ (aP [1,2,3,4,5,6,7,8,9,10,11,12,13,14,15,16,17,18,19]) ?_)
 refine fP U<|aO<|KK A6<|aw<|rP 3 [] I ?_
 refine aK<|Pk (Y':=bo Dd (ht.take (i+1)) (dz++[(P,R)])) 19 0 U U (wY (f:=Dd) (b:=(P,R)) hd A) ?_
 have Ci:(vI (((i+1):Nat):Int))=(vI ((i:Int)+1)):=by exact cI om
 refine a_ (u ⟨((i+1),(dz++[(P,R)])),⟨om,by simp; omega⟩⟩ _ _ _ U os (cK 3<|bj U Ci<|dv.nil _) (aP [1,2,3,4,5,6,7,8,9,10,11,12,13,14,15,16,17,18,0,19]))
end
section
open Go.RowKit
theorem As (j:bS) (kA:OA) (kC:Nat) (az:List RA) (cA:OA) (cC:Nat) (bA:OA) (bC:Nat) (slA:OA) (slC:Nat) (drA:OA) (drC:Nat) (ha:List cZ) (heA:OA) (heC:Nat) (faA:OA) (faC:Nat) (prA:OA) (prC:Nat) (hin:gp j az ha) (hng: ¬ mX j):
 p9 Tryz.prog 18 [(vA (du.cells (mZ j kA kC cA cC bA bC slA slC drA drC heA heC faA faC prA prC)))] [(rd kA j.Race.ar.aS.length 9 (j.Race.ar.aS.map au.cells)),(rd cA j.Race.ar.aj.length 2 (List.zipWith ay.cells j.Race.ar.aj az)),(dU (bo ay.gn j.Race.ar.aj az)),(rd bA j.Race.ar.aa.length 4 (j.Race.ar.aa.map bK.cells)),(rd slA j.Race.aY.length 1 (j.Race.aY.map iC)),(rd drA j.Race.cd.length 1 (j.Race.cd.map iC)),(rd heA j.Race.aD.length 1 (List.zipWith cP j.Race.aD ha)),(dU (bo fg j.Race.aD ha)),(rd faA j.aA.length 4 (j.aA.map aW.cells)),(rd prA j.ao.length 5 (j.ao.map aJ.cells))] (fun (x:(OA)×Nat×(OA)×Nat×(List RA)×(OA)×Nat×(OA)×Nat×(OA)×Nat×(OA)×Nat×(List cZ)×(OA)×Nat×(OA)×Nat)=>(vA (du.cells (du.mk (er.mk (ct.mk (bM.mk (bx.mk x.1 j.Race.ar.aS.length x.2.1)) j.Race.ar.hG (bx.mk x.2.2.1 j.Race.ar.aj.length x.2.2.2.1) (bx.mk x.2.2.2.2.2.1 j.Race.ar.aa.length x.2.2.2.2.2.2.1) j.Race.ar.cf j.Race.ar.e8 j.Race.ar.di) (bx.mk x.2.2.2.2.2.2.2.1 j.Race.aY.length x.2.2.2.2.2.2.2.2.1) (bx.mk x.2.2.2.2.2.2.2.2.2.1 j.Race.cd.length x.2.2.2.2.2.2.2.2.2.2.1) j.Race.j2 (bx.mk x.2.2.2.2.2.2.2.2.2.2.2.1 j.Race.aD.length x.2.2.2.2.2.2.2.2.2.2.2.2.1)) (bx.mk x.2.2.2.2.2.2.2.2.2.2.2.2.2.2.1 j.aA.length x.2.2.2.2.2.2.2.2.2.2.2.2.2.2.2.1) (bx.mk x.2.2.2.2.2.2.2.2.2.2.2.2.2.2.2.2.1 j.ao.length x.2.2.2.2.2.2.2.2.2.2.2.2.2.2.2.2.2) j.bJ j.kU)))) (fun (x:(OA)×Nat×(OA)×Nat×(List RA)×(OA)×Nat×(OA)×Nat×(OA)×Nat×(OA)×Nat×(List cZ)×(OA)×Nat×(OA)×Nat)=>(x.2.2.2.2.1.length=j.Race.ar.aj.length∧uz j.Race.ar.aj x.2.2.2.2.1)∧Al j.Race.aD x.2.2.2.2.2.2.2.2.2.2.2.2.2.1) (fun (x:(OA)×Nat×(OA)×Nat×(List RA)×(OA)×Nat×(OA)×Nat×(OA)×Nat×(OA)×Nat×(List cZ)×(OA)×Nat×(OA)×Nat)=>[(own x.1 x.2.1 118 9 (j.Race.ar.aS.map au.cells)),(own x.2.2.1 x.2.2.2.1 73 2 (List.zipWith ay.cells j.Race.ar.aj x.2.2.2.2.1)),(bU (bo ay.owns j.Race.ar.aj x.2.2.2.2.1)),(own x.2.2.2.2.2.1 x.2.2.2.2.2.2.1 122 4 (j.Race.ar.aa.map bK.cells)),(own x.2.2.2.2.2.2.2.1 x.2.2.2.2.2.2.2.2.1 3 1 (j.Race.aY.map iC)),(own x.2.2.2.2.2.2.2.2.2.1 x.2.2.2.2.2.2.2.2.2.2.1 3 1 (j.Race.cd.map iC)),(own x.2.2.2.2.2.2.2.2.2.2.2.1 x.2.2.2.2.2.2.2.2.2.2.2.2.1 51 1 (List.zipWith cP j.Race.aD x.2.2.2.2.2.2.2.2.2.2.2.2.2.1)),(bU (bo sj j.Race.aD x.2.2.2.2.2.2.2.2.2.2.2.2.2.1)),(own x.2.2.2.2.2.2.2.2.2.2.2.2.2.2.1 x.2.2.2.2.2.2.2.2.2.2.2.2.2.2.2.1 80 4 (j.aA.map aW.cells)),(own x.2.2.2.2.2.2.2.2.2.2.2.2.2.2.2.2.1 x.2.2.2.2.2.2.2.2.2.2.2.2.2.2.2.2.2 47 5 (j.ao.map aJ.cells))]):=by
 have V:=hin.race
 have f:=hin.race.line
 have l:=hin.race.iE
 have m:=hin.race.has
 have k:=hin.race.iB
 have h:=hin.nf
 have i:=hin.np
 have d:=EH hng
 refine fF kr Tryz.func18 U U fun q Q hQ hN=>?_
 try dsimp only
 refine WS fun _ Z=>eL U fun o=>AL U zM fun p=>RK Z<|WS fun _ a=>rP 1 [] I ?_
 refine rS (LP (er.cells (yz j.Race kA kC cA cC bA bC slA slC drA drC heA heC)) 1 U cq U U U)<|cX (D9 j.Race kA kC az cA cC bA bC slA slC drA drC ha heA heC (by exact V) (by exact d.1)) (bw [2,3,4,5,6,7,8,9]) U fun n g=>?_
 obtain ⟨J,L,K,E,P,A,F,B,G,C,H,D,AB,W⟩:=n
 try dsimp only
 obtain ⟨⟨b,c⟩,e⟩:=g
 refine bE 1 U<|VT (du.cells (du.mk (er.mk (ct.mk (bM.mk (bx.mk J j.Race.ar.aS.length L)) j.Race.ar.hG (bx.mk K j.Race.ar.aj.length E) (bx.mk A j.Race.ar.aa.length F) j.Race.ar.cf j.Race.ar.e8 j.Race.ar.di) (bx.mk B j.Race.aY.length G) (bx.mk C j.Race.cd.length H) j.Race.j2 (bx.mk D j.Race.aD.length AB)) (bx.mk faA j.aA.length faC) (bx.mk prA j.ao.length prC) j.bJ j.kU)) U Rr U U<|RK a<|WS fun _ S=>qj U Ap U fun X=>rP 2 [] (mc 10 U I) ?_
 refine fH (es:=(List.map aW.cells [])) (C':=[own (some ⟨X,0,none⟩) 0 80 4 (List.map aW.cells []),_,_,_,_,_,_,_,_,_,_,_,_,_,_,_,_,_,_,_,_]) 0 U sm U (by simp [maxLen]) U ?_
 refine dH (es2:=(List.map aW.cells j.aA)) (m':=j.aA.length) 0 U U U Um U U sm (aG 19 U) (vh _) (by simp; omega) (by simp only [maxLen]; simp; omega) sm sm U fun M N=>?_
 try dsimp only
 refine bE 1 U<|QE (du.cells (du.mk (er.mk (ct.mk (bM.mk (bx.mk J j.Race.ar.aS.length L)) j.Race.ar.hG (bx.mk K j.Race.ar.aj.length E) (bx.mk A j.Race.ar.aa.length F) j.Race.ar.cf j.Race.ar.e8 j.Race.ar.di) (bx.mk B j.Race.aY.length G) (bx.mk C j.Race.cd.length H) j.Race.j2 (bx.mk D j.Race.aD.length AB)) (bx.mk M j.aA.length N) (bx.mk prA j.ao.length prC) j.bJ j.kU)) U Ug U U<|RK S<|WS fun _ T=>qj U yq U fun Y=>rP 2 [] (mc 11 U I) ?_
 refine fH (es:=(List.map aJ.cells [])) (C':=[own (some ⟨Y,0,none⟩) 0 47 5 (List.map aJ.cells []),_,_,_,_,_,_,_,_,_,_,_,_,_,_,_,_,_,_,_,_,_]) 0 U sm U (by simp [maxLen]) U ?_
 refine dH (es2:=(List.map aJ.cells j.ao)) (m':=j.ao.length) 0 U U U RI U U sm (aG 21 U) (nZ _) (by simp; omega) (by simp only [maxLen]; simp; omega) sm sm U fun O R=>?_
 try dsimp only
 refine bE 1 U<|Q7 (du.cells (du.mk (er.mk (ct.mk (bM.mk (bx.mk J j.Race.ar.aS.length L)) j.Race.ar.hG (bx.mk K j.Race.ar.aj.length E) (bx.mk A j.Race.ar.aa.length F) j.Race.ar.cf j.Race.ar.e8 j.Race.ar.di) (bx.mk B j.Race.aY.length G) (bx.mk C j.Race.cd.length H) j.Race.j2 (bx.mk D j.Race.aD.length AB)) (bx.mk M j.aA.length N) (bx.mk O j.ao.length R) j.bJ j.kU)) U Tk U U<|RK T<|WS fun _ AA=>rP 1 [] (mc 11 U I) ?_
 refine Vj U Bz U<|RK AA<|av ?_
 refine LX hQ (J,L,K,E,P,A,F,B,G,C,H,D,AB,W,M,N,O,R) [2,3,4,5,6,7,8,9,1,0] [0] (mc 10 U I) U (by show List.all _ _=true; simp only [fu,List.all_nil,ng,w4,Bool.and_true]; rfl) U U ?_
 exact ⟨⟨b,c⟩,e⟩
end
section
theorem TN.sub {E:fB} {ops:Array Oper} {Q:dk} {D:ib} {C' C1 C:List aB} {tb rem:List Nat}: ∀ {n:Nat} {L L':dD},dv L L'→TN E ops D C' C1 (fun L C=>KJ E (Q .normal) D L C) tb n rem L' C→TN E ops D C' C1 (fun L C=>KJ E (Q .normal) D L C) tb n rem L C:=by
 intro n
 cases n with
 |zero=>intro L L' hs h; exact iF hs (fun _ h=>h) h
 |succ n=>intro L L' hs h i hi o ho K hK; exact NX hs (fun _ h=>h) (h i hi o ho K hK)
theorem NA {E:fB} {ops:Array Oper} {Q:dk} {D:ib} {C' C1 C:List aB} {bs:List Bool} {os:List Oper} {L:dD} {tb rem:List Nat} {n:Nat} {t:Nat} {b:Bool} (h:L.lookup t=some (.bool b))
 (h1:b=true→qx E ops D C' C1 (fun L'=>TN E ops D C' C1 (fun L C=>KJ E (Q .normal) D L C) tb n rem L' C) bs os ((t,.bool true)::L)) (h2:b=false→qx E ops D C' C1 (fun L'=>TN E ops D C' C1 (fun L C=>KJ E (Q .normal) D L C) tb n rem L' C) bs os ((t,.bool false)::L)):
 qx E ops D C' C1 (fun L'=>TN E ops D C' C1 (fun L C=>KJ E (Q .normal) D L C) tb n rem L' C) bs os L:=by
 have A: ∀ v:Bool,b=v→dv L ((t,.bool v)::L):=fun v hv=>dv.cons (hv▸h) (fun _ _ h=>h)
 cases b
 ·exact qx.mono (fun _ _=>TN.sub) (A _ U) (h2 U)
 ·exact qx.mono (fun _ _=>TN.sub) (A _ U) (h1 U)
theorem Rw {E:fB} {ops:Array Oper} {Q:dk} {D:List Deferred} {L:List (Nat×Value)} {C1 C2 C:List aB} {t n:Nat} {b:Bool} {bs:List Bool} {os:List Oper} {tb rem:List Nat} (h:L.lookup t=some (.bool b)) (h2:b=false→qx E ops D C2 C1 (fun L2=>TN E ops D C2 C1 (fun L C=>KJ E (Q .normal) D L C) tb n rem L2 C) bs os ((t,.bool false)::L)) (h1:b=true→qx E ops D C2 C1 (fun L2=>TN E ops D C2 C1 (fun L C=>KJ E (Q .normal) D L C) tb n rem L2 C) bs os ((t,.bool true)::L)):qx E ops D C2 C1 (fun L2=>TN E ops D C2 C1 (fun L C=>KJ E (Q .normal) D L C) tb n rem L2 C) bs os L:=NA h h1 h2
end
section
open Go.RowKit
section
variable {P:Program} {t:TypeId} {x y:Operand}
end
section
variable {E:fB} {ops:Array Oper} {Q:dk} {rest:List Oper} {D:List Deferred} {L:List (Nat×Value)} {C:List aB}
variable {dst:Option Tmp} {d:Nat} {ty:TypeId} {ps:String} {af:Array Edge} {g:Option (Nat×Bool)}
theorem M5 {A:aB} (i:Nat) (h:C[i]? =some A.ro):iH C A.holds:=fun w hw=>by
 have B:=hw A.ro (aQ h)
 exact B
end
end
section
open Go.RowKit
def qk (b:Bool):List Value:=[.bool b]
@[simp] theorem Ao (b:Bool):(qk b).length=1:=rfl
theorem Gt (l:List Bool): ∀ v∈(l.map qk).flatten,v.oneCell'=true:=kR (fun s=>rfl) l
end
section
def lW (r:e7) (i:Nat):Prop:= ∀ (j:Nat) x,j<i→r.aD[j]? =some x→ ¬ pf x
def nA (x:List aC) (i:Nat):Prop:= ∀ (j:Nat) d,j<i→x[j]? =some d→ ¬ 15<(d.bD.ag.length:Int)
section
variable {r:e7} {i:Nat} {x:List aC} {d:aC}
theorem AU:lW r 0:=fun j x hj=>absurd hj (Nat.not_lt_zero _)
theorem Bt (h:lW r i) (hx:r.aD[i]? =some x) (ho: ¬ pf x):lW r (i+1):=fun j y hj hy=>by
 rcases Nat.lt_or_ge j i with q|q
 ·exact h j y q hy
 ·obtain rfl:j=i:=by omega
  rw [hx] at hy; cases hy; exact ho
theorem BY:nA x 0:=fun j x hj=>absurd hj (Nat.not_lt_zero _)
theorem Ce (h:nA x i) (hx:x[i]? =some d) (ho: ¬ 15<(d.bD.ag.length:Int)):nA x (i+1):=fun j y hj hy=>by
 rcases Nat.lt_or_ge j i with q|q
 ·exact h j y q hy
 ·obtain rfl:j=i:=by omega
  rw [hx] at hy; cases hy; exact ho
theorem Eg (hl: ¬ 8<(x.length:Int)) (h:nA x i) (hi:x.length≤i): ¬ pf x:=by
 rintro (q|⟨d,hd,q⟩)
 ·exact hl q
 ·obtain ⟨j,hj⟩:=List.getElem?_of_mem hd
  exact h j d (by have:=(aX.1 hj).1; omega) hj q
theorem GY (h1: ¬ mo r.ar) (h2: ¬ 8<(r.aY.length:Int)∧ ¬ 8<(r.cd.length:Int)∧ ¬ 5<(r.aD.length:Int)) (h:lW r i) (hi:r.aD.length≤i): ¬ l7 r:=by
 rintro ((q|q)|⟨x,hx,q⟩)
 ·exact h1 q
 ·omega
 ·obtain ⟨j,hj⟩:=List.getElem?_of_mem hx
  exact h j x (by have:=(aX.1 hj).1; omega) hj q
theorem pU (h:mo r.ar∨8<(r.aY.length:Int)∨8<(r.cd.length:Int)∨5<(r.aD.length:Int)):l7 r:= .inl h
theorem Cs (hx:r.aD[i]? =some x) (h:8<(x.length:Int)):l7 r:= .inr ⟨x,aQ hx,.inl h⟩
theorem Ea {j:Nat} (hx:r.aD[i]? =some x) (hd:x[j]? =some d) (h:15<(d.bD.ag.length:Int)):l7 r:= .inr ⟨x,aQ hx,.inr ⟨d,aQ hd,h⟩⟩
end
noncomputable def pB (l:br) (d:aC):ai:=if d.Out=true then gS else gl l d
theorem HS {l:br} {d:aC} (h:iX l d):pB l d=gl l d:=by
 unfold pB
 split
 ·rename_i q
  rw [ER q]
  rw [qU q] at h
  exact h.2.1.symm
 ·rfl
theorem z_ {l:br} {d:aC} (h:d.Out=true):pB l d=gS:=if_pos h
theorem EJ {l:br} {d:aC} (h:d.Out=false∧d.dB=true):pB l d=d.Time:=by unfold pB; rw [if_neg (by rw [h.1]; decide),Fl h]
theorem Fg {l:br} {d:aC} (h:d.Out=false∧d.dB=false):pB l d=zS l d.bD:=by unfold pB; rw [if_neg (by rw [h.1]; decide),EN h]
def QD (r:e7) (j:Nat):Prop:= ∀ x,r.aY[j]? =some x→(0≤x∧x≤9999)∧ ∀ y,0<j→r.aY[j-1]? =some y→y<x
def KI (r:e7) (j:Nat):Prop:= ∀ x,r.cd[j]? =some x→(0≤x∧x≤(r.aY.length:Int)-1)∧ ∀ (k:Nat) y,k<j→r.cd[k]? =some y→y≠x
def yi (r:e7) (i:Nat):Prop:= ∀ j,j<i→QD r j∧KI r j
section
variable {r:e7} {i k:Nat} {x:Int}
theorem JA:yi r 0:=fun j hj=>absurd hj (Nat.not_lt_zero _)
theorem BA (h:yi r i) (h1:QD r i) (h2:KI r i):yi r (i+1):=fun j hj=>by
 rcases Nat.lt_or_ge j i with q|q
 ·exact h j q
 ·obtain rfl:j=i:=by omega
  exact ⟨h1,h2⟩
theorem w9 {l:List Int} {u v:Int} (h: ∀ (q:Nat) y,q<k→l[q]? =some y→y≠v) (hx:l[k]? =some u) (hne: ¬ u=v): ∀ (q:Nat) y,q<k+1→l[q]? =some y→y≠v:=fun q y hq hy=>by
 rcases Nat.lt_or_ge q k with c|c
 ·exact h q y c hy
 ·obtain rfl:q=k:=by omega
  rw [hx] at hy; cases hy; exact hne
theorem J0 (hl:r.cd.length=r.aY.length) (h:yi r r.aY.length):r.cd.Perm (FX r.aY.length):=by
 have nd:r.cd.Nodup:=by
  rw [List.nodup_iff_pairwise_ne,eU]
  intro a b ha hb A
  exact ((h b om).2 _ (eN hb)).2 a _ A (eN ha)
 have hm: ∀ x∈r.cd,x∈FX r.aY.length:=fun x hx=>by
  obtain ⟨j,hj⟩:=List.getElem?_of_mem hx
  have:=((h j (by have:=(aX.1 hj).1; omega)).2 x hj).1
  exact cz.2 ⟨x.toNat,List.mem_range.2 om,om⟩
 have ndu:(FX r.aY.length).Nodup:=by
  unfold FX
  rw [List.nodup_iff_pairwise_ne,List.pairwise_map]
  exact List.pairwise_lt_range.imp fun h=>by omega
 have e:nS r.cd=(FX r.aY.length).filter fun x=>decide (x∈r.cd):=by
  refine GJ tx ((wI _).filter _) (l3.nodup_iff.2 nd) (ndu.filter _) fun x=>?_
  rw [l3.mem_iff,List.mem_filter,decide_eq_true_eq]
  exact ⟨fun q=>⟨hm x q,q⟩,fun q=>q.2⟩
 have B:=congrArg List.length e
 rw [tS,hl] at B
 have C:(FX r.aY.length).filter (fun x=>decide (x∈r.cd))=FX r.aY.length:=List.filter_sublist.eq_of_length (by rw [← B]; simp)
 rw [C] at e
 rw [← e]; exact l3.symm
theorem GS {n:Nat} (h1:1≤(r.aY.length:Int)∧(r.aY.length:Int)≤5) (h2:r.cd.length=r.aY.length) (h3:0≤r.j2∧r.j2≤5) (h4:1≤(r.aD.length:Int)∧(r.aD.length:Int)≤3)
 (hn:n=r.aY.length) (h6:yi r n) (h7:km r i) (hi:r.aD.length≤i):fU r:=by
 subst hn
 refine ⟨h1,h3,h4,fun k x hx=>(h6 k (aX.1 hx).1).1 x hx,J0 h2 h6,fun h hh=>?_⟩
 obtain ⟨j,hj⟩:=List.getElem?_of_mem hh
 exact h7 j h (by have:=(aX.1 hj).1; omega) hj
theorem fU.Ig (h:fU r) (hx:r.cd[i]? =some x):0≤x∧x≤(r.aY.length:Int)-1:=by
 obtain ⟨k,hk,rfl⟩:=cz.1 (h.draw.mem_iff.1 (aQ hx))
 have:=List.mem_range.1 hk
 omega
theorem fU.PU (h:fU r):r.cd.Nodup:=by
 refine h.draw.nodup_iff.2 ?_
 rw [List.nodup_iff_pairwise_ne,List.pairwise_map]
 exact List.pairwise_lt_range.imp fun h=>by omega
theorem fU.P2 (h:fU r) {u v:Int} (hki:k<i) (hu:r.cd[k]? =some u) (hv:r.cd[i]? =some v): ¬ u=v:=by
 have A:=h.PU
 rw [List.nodup_iff_pairwise_ne,eU] at A
 obtain ⟨a,ea⟩:=aX.1 hu
 obtain ⟨b,eb⟩:=aX.1 hv
 subst ea eb
 exact A k i a b hki
end
section
variable {r:e7} {i k n:Nat} {s:ai} {l:br} {hs:List (List aC)}
end
section
variable {r:e7} {i x:Int} {own s:ai} {k:Nat} {ys zs:List Int}
end
section
variable {B:List Bool} {P Q:Int→Prop} {k x:Nat} {m:sT} {i y a b:Int} {ys:List Int}
end
end
section
open Go.RowKit
theorem JN (n lo hi:Int) (g1 g2:Nat):
 dK Tryz.prog 54 [(vI n),(vP g1),(vP g2)] [(cx g1 3 [(vI lo)]),(cx g2 3 [(vI hi)])] (vB (decide (n<lo∨hi<n))):=by
 refine bG kr Tryz.func54 U U fun D Q hQ hN=>?_
 try dsimp only
 refine WS fun _ B=>bE 1 U<|RK B<|WS fun _ A=>rP 4 [] (mr 0 U I) ?_
 refine bZ (t:=8) U (aV fun C=>?_) (aU fun C=>?_)
 ·refine rP 5 [] I ?_
  refine RK A<|av<|Q1 hQ U U U ?_
  exact cB (dI om).symm
 refine rP 5 [] (mr 1 U I) ?_
 refine RK A<|av<|Q1 hQ U U U ?_
 exact cB (gY.2 om)
theorem iS (lo hi:Int) (l:List Int) (lA:OA) (lC:Nat) (hlen:l.length≤1000000):
 dK Tryz.prog 33 [(vI lo),(vI hi),(vS lA l.length lC)] [(rd lA l.length 1 (l.map iC))] (vB (qs lo hi l)):=by
 refine bG kr Tryz.func33 U U fun F Q hQ hN=>?_
 try dsimp only
 refine WS fun _ D=>wq U U fun A=>wq U U fun B=>bE 1 U<|RK D<|WS fun _ E=>rP 1 [] I ?_
 refine rS (FU U) ?_
 refine rS (CL (pP l lA lC (Value.func (.func 54) [].toArray [(vP A),(vP B)].toArray) (fun C=>(decide (C<lo∨hi<C))) (dU [(cx A 3 [(vI lo)]),(cx B 3 [(vI hi)])]) (by intro C _; exact k9 (fi:=[]) (ca:=[(vP A),(vP B)]) (jY (JN C lo hi A B) (bw [0,1]))) hlen) (gj 2 U U<|ax (jV (bw [1,0]))<|aN) U) ?_
 refine rP 2 [] I ?_
 refine RK E<|av ?_
 exact Q1 hQ U U U U
theorem tD (o fx:Bool) (tm:ai) (rv:cN):
 dK Tryz.prog 55 [(vA (aR.cells (aR.mk o fx tm rv)))] [] (vB (decide (o=false∧fx=false))):=by
 refine bG kr Tryz.func55 U U fun E Q hQ hN=>?_
 try dsimp only
 refine WS fun _ B=>eL U fun D=>bE 1 U<|RK B<|WS fun _ A=>rP 4 [] (mc 0 U I) ?_
 refine cL (t:=6) U (fun C=>?_) (fun C=>?_)
 ·rw [Bool.not_eq_false'] at C
  refine rP 5 [] I ?_
  refine RK A<|av<|Q1 hQ U U U ?_
  clear hQ hN A B
  refine cB ?_
  (simp_all; done)
 rw [Bool.not_eq_true'] at C
 refine rP 5 [] (mc 0 U I) ?_
 refine RK A<|av<|Q1 hQ U U U ?_
 clear hQ hN A B
 refine cB ?_
 (simp_all; done)
theorem My (l:List aW) (lA:OA) (lC:Nat) (f:Value) (p:Int→aW→Bool) (X:aB) (hf: ∀ x0 x1,(∃ i_:Nat,x0=(i_:Int)∧l[i_]? =some x1)→DD Tryz.prog f [.int .i64 x0,.agg (aW.cells x1).toArray] [X] (.bool (p x0 x1))) (hlen:l.length≤1000000):
 p9 Tryz.prog 80 [(vS lA l.length lC),f] [(rd lA l.length 4 (l.map aW.cells)),X] (fun (x:(OA)×Nat)=>(vS x.1 ((ml (ir l p) l.length).length) x.2)) (fun (x:(OA)×Nat)=>True) (fun (x:(OA)×Nat)=>[(own x.1 x.2 3 1 ((ml (ir l p) l.length).map iC))]):=by
 refine fF kr Tryz.func80 U U fun Z Q hQ hN=>?_
 try dsimp only
 refine WS fun _ M=>bE 1 U<|RK M<|WS fun _ N=>bE 1 U<|RK N<|aq fun _ O=>WS fun _ R=>rP 3 [] I ?_
 refine RK R<|aF<|eP 3 1 ?_
 have A:(0≤l.length):=by exact Nat.zero_le _
 refine bQ (ι:={z:Nat×(OA)×Nat // (z.1≤l.length)}) [1,8,9] [1,2] U U (fun z=>[(5,(vS z.1.2.1 ((ml (ir l p) z.1.1).length) z.1.2.2)),(10,(vI (z.1.1:Int)))]) (fun z=>[(own z.1.2.1 z.1.2.2 3 1 ((ml (ir l p) z.1.1).map iC))]) (fun _=>rfl) (fun _=>rfl) (fun z=>l.length-z.1.1) ⟨(0,none,0),A⟩ (bk U) (aP [1,2,0]) ?_
 clear A
 rintro ⟨⟨i,a,c⟩,C⟩ J5 D
 try dsimp only at C
 try dsimp only
 refine WS fun _ S=>rP 1 [] I ?_
 refine RK S<|aq fun _ T=>bV U (aU fun Y=>?_) (aV fun Y=>?_)
 ·refine bL<|ab<|ab<|aH<|KK O<|WS fun _ G=>?_
  rw [show (ml (ir l p) i)=(ml (ir l p) l.length) from by rw [show i=l.length by omega]]
  refine rP 2 [] I ?_
  refine RK G<|av<|LX hQ (a,c) [2] [] I U U U U ?_
  trivial
 refine WK T<|aq fun _ H=>aF<|WS fun _ E=>rP 1 [] I ?_
 obtain ⟨x,hx⟩:=aM l i om
 have AA:=bO aW.cells hx
 refine rS (IA i U (aG 0 U) Ap dc om om)<|rS (lS i 0 (aW.cells x) U cq (aG 0 U) AA U dc U U)<|AL U P5 fun V=>bE 1 U<|fR U RM U<|RK E<|WS fun _ F=>rP 3 [] (mc 0 U I) ?_
 refine rS (SX (qc U U U (hf (i:Int) x ⟨_,U,hx⟩) (bw [2])) U U)<|RK F<|bV U (fun B=>?_) (fun B=>?_)
 ·refine cg<|aO<|KK H<|aw<|rP 2 [] I ?_
  refine aK ?_
  rw [show ml (ir l p) i=ml (ir l p) (i+1) from (su (by rw [rV hx]; simpa using B)).symm]
  have J:(vI (((i+1):Nat):Int))=(vI ((i:Int)+1)):=by exact cI om
  refine a_ (D ⟨((i+1),a,c),(by first|omega|(simp only []; omega))⟩ _ _ _ U os (cK 4<|bj U J<|dv.nil _) (aP [1,2,3]))
 refine aw<|rP 2 [] I ?_
 refine eB (xs:=[.tmp 20]) (cs:=[(vI (i:Int))]) U dp ky U U U U (by simp [Value.cells]) U U fun W=>?_
 refine dH (es2:=(List.map iC (ml (ir l p) (i+1)))) (m':=(ml (ir l p) (i+1)).length) 4 U U U r8 U U sm (bu (es:=List.map iC [(i:Int)]) 0 U U (by simp [bR]) U) (kZ _) (by have:=oZ (P:=ir l p) (n:=i); omega) (by have:=oZ (P:=ir l p) (n:=i); simp only [maxLen]; omega) (by rw [xu (by rw [rV hx]; exact B)]; simp) sm U fun K L=>?_
 try dsimp only
 refine bE 1 U<|aK<|aO<|KK H<|aw<|rP 2 [] I ?_
 refine aK ?_
 have AB:(vI (((i+1):Nat):Int))=(vI ((i:Int)+1)):=by exact cI om
 refine a_ (D ⟨((i+1),K,L),(by first|omega|(simp only []; omega))⟩ _ _ _ U os (cK 4<|bj U AB<|dv.nil _) (aP [2,3,4]))
theorem Af (l:List aJ) (lA:OA) (lC:Nat) (f:Value) (p:Int→aJ→Bool) (X:aB) (hf: ∀ x0 x1,(∃ i_:Nat,x0=(i_:Int)∧l[i_]? =some x1)→DD Tryz.prog f [.int .i64 x0,.agg (aJ.cells x1).toArray] [X] (.bool (p x0 x1))) (hlen:l.length≤1000000):
 p9 Tryz.prog 30 [(vS lA l.length lC),f] [(rd lA l.length 5 (l.map aJ.cells)),X] (fun (x:(OA)×Nat)=>(vS x.1 ((ml (ir l p) l.length).length) x.2)) (fun (x:(OA)×Nat)=>True) (fun (x:(OA)×Nat)=>[(own x.1 x.2 3 1 ((ml (ir l p) l.length).map iC))]):=by
 refine fF kr Tryz.func30 U U fun Z Q hQ hN=>?_
 try dsimp only
 refine WS fun _ M=>bE 1 U<|RK M<|WS fun _ N=>bE 1 U<|RK N<|aq fun _ O=>WS fun _ R=>rP 3 [] I ?_
 refine RK R<|aF<|eP 3 1 ?_
 have A:(0≤l.length):=by exact Nat.zero_le _
 refine bQ (ι:={z:Nat×(OA)×Nat // (z.1≤l.length)}) [1,8,9] [1,2] U U (fun z=>[(5,(vS z.1.2.1 ((ml (ir l p) z.1.1).length) z.1.2.2)),(10,(vI (z.1.1:Int)))]) (fun z=>[(own z.1.2.1 z.1.2.2 3 1 ((ml (ir l p) z.1.1).map iC))]) (fun _=>rfl) (fun _=>rfl) (fun z=>l.length-z.1.1) ⟨(0,none,0),A⟩ (bk U) (aP [1,2,0]) ?_
 clear A
 rintro ⟨⟨i,a,c⟩,C⟩ J5 D
 try dsimp only at C
 try dsimp only
 refine WS fun _ S=>rP 1 [] I ?_
 refine RK S<|aq fun _ T=>bV U (aU fun Y=>?_) (aV fun Y=>?_)
 ·refine bL<|ab<|ab<|aH<|KK O<|WS fun _ G=>?_
  rw [show (ml (ir l p) i)=(ml (ir l p) l.length) from by rw [show i=l.length by omega]]
  refine rP 2 [] I ?_
  refine RK G<|av<|LX hQ (a,c) [2] [] I U U U U ?_
  trivial
 refine WK T<|aq fun _ H=>aF<|WS fun _ E=>rP 1 [] I ?_
 obtain ⟨x,hx⟩:=aM l i om
 have AA:=bO aJ.cells hx
 refine rS (IA i U (aG 0 U) yq dc om om)<|rS (lS i 0 (aJ.cells x) U cq (aG 0 U) AA U dc U U)<|AL U I9 fun V=>bE 1 U<|fR U OP U<|RK E<|WS fun _ F=>rP 3 [] (mc 0 U I) ?_
 refine rS (SX (qc U U U (hf (i:Int) x ⟨_,U,hx⟩) (bw [2])) U U)<|RK F<|bV U (fun B=>?_) (fun B=>?_)
 ·refine cg<|aO<|KK H<|aw<|rP 2 [] I ?_
  refine aK ?_
  rw [show ml (ir l p) i=ml (ir l p) (i+1) from (su (by rw [rV hx]; simpa using B)).symm]
  have J:(vI (((i+1):Nat):Int))=(vI ((i:Int)+1)):=by exact cI om
  refine a_ (D ⟨((i+1),a,c),(by first|omega|(simp only []; omega))⟩ _ _ _ U os (cK 4<|bj U J<|dv.nil _) (aP [1,2,3]))
 refine aw<|rP 2 [] I ?_
 refine eB (xs:=[.tmp 20]) (cs:=[(vI (i:Int))]) U dp ky U U U U (by simp [Value.cells]) U U fun W=>?_
 refine dH (es2:=(List.map iC (ml (ir l p) (i+1)))) (m':=(ml (ir l p) (i+1)).length) 4 U U U r8 U U sm (bu (es:=List.map iC [(i:Int)]) 0 U U (by simp [bR]) U) (kZ _) (by have:=oZ (P:=ir l p) (n:=i); omega) (by have:=oZ (P:=ir l p) (n:=i); simp only [maxLen]; omega) (by rw [xu (by rw [rV hx]; exact B)]; simp) sm U fun K L=>?_
 try dsimp only
 refine bE 1 U<|aK<|aO<|KK H<|aw<|rP 2 [] I ?_
 refine aK ?_
 have AB:(vI (((i+1):Nat):Int))=(vI ((i:Int)+1)):=by exact cI om
 refine a_ (D ⟨((i+1),K,L),(by first|omega|(simp only []; omega))⟩ _ _ _ U os (cK 4<|bj U AB<|dv.nil _) (aP [2,3,4]))
end
section
open Go.RowKit
variable {E:fB} {ops:Array Oper} {D:List Deferred} {L:List (Nat×Value)} {C:List aB}
variable {dst:Option Tmp} {ty:TypeId} {ps:String} {af:Array Edge} {g:Option (Nat×Bool)}
theorem vj {x ix:Operand} {t e len sz:Nat} {cs vs:List Value} {j:Int} {kd:IntKind} (m:Nat) (hg:kl ops L g=true) (hx:ev L x=some (.agg cs.toArray)) (hi:ev L ix=some (.int kd j)) (ht:tX E.P t=some (len,e)) (hk:tK E.P e=some (true,sz)) (hj:j=(m:Int)) (hm:m<len) (hv:(cs.drop (m*sz)).take sz=vs):
 SD E ops ⟨dst,.index t x ix,ty,ps,af,g⟩ D L C (.agg vs.toArray):=
 eV hg sm fun a w A _=>by
  have B:(0:Int)≤(m:Int)∧(m:Int)<(len:Int):=by omega
  subst hj
  simp [execOp,A.ev hx,A.ev hi,Instr.index,asIntOf,run_underlying (JP ht),B,hm,(oN hk w).2,BV hk hv w]
end
section
open Go.RowKit
theorem HY (i:Int) (f:aW) (j:bS) (kA:OA) (kC:Nat) (cA:OA) (cC:Nat) (bA:OA) (bC:Nat) (slA:OA) (slC:Nat) (drA:OA) (drC:Nat) (heA:OA) (heC:Nat) (faA:OA) (faC:Nat) (prA:OA) (prC g1:Nat) (hk:0≤f.Kind∧f.Kind≤255):
 dK Tryz.prog 81 [(vI i),(vA (aW.cells f)),(vP g1)] [(cx g1 36 (du.cells (mZ j kA kC cA cC bA bC slA slC drA drC heA heC faA faC prA prC)))] (vB (decide (¬ oO j.Race.ar.cf f))):=by
 refine bG kr Tryz.func81 U U fun V Q hQ hN=>?_
 try dsimp only
 refine WS fun _ N=>eL U fun AA=>bE 1 U<|RK N<|WS fun _ O=>e9 5 [] (mr 1 U I) U<|RK O<|aq fun _ D=>WS fun _ P=>rP 2 [] (mc 0 U I) ?_
 refine rS (BI U lB)<|RK P<|bV U (aU fun A=>?_) (aV fun A=>?_)
 ·refine WK D<|WS fun _ B=>rP 2 [] (mc 0 U I) ?_
  refine rS (SX (ow (m:=f.Kind) U U Mm sr (mC (by first|assumption|omega))) U U)<|eB (xs:=[.tmp 16]) (cs:=[(vI f.Kind)]) U dp ky U U U U (by simp [Value.cells]) U U fun F=>?_
  refine rS (CL (dK.eq (iS 1 3 ([f.Kind]) (some ⟨F,0,none⟩) 1 (by (simp; done))) cE) (ax (bu 0 U U (by simp [bR]) U)<|aN) U) ?_
  refine rP 2 [] I ?_
  refine bZ (t:=20) U (bg fun K=>?_) (bf fun K=>?_)
  ·refine rP 24 [] I ?_
   refine RK B<|av<|Q1 hQ U U U ?_
   (refine cB (dI ?_).symm; (rw [uf A]; omega))
  refine rP 4 [] (mc 1 U I) ?_
  refine eB (xs:=[.tmp 22,.tmp 24]) (cs:=[(vI f.mE),(vI f.To)]) U dp ky U U U U (by simp [Value.cells]) U U fun G=>?_
  refine rS (CL (dK.eq (iS 0 86400000 ([f.mE,f.To]) (some ⟨G,0,none⟩) 2 (by (simp; done))) o3) (ax (bu 0 U U (by simp [bR]) U)<|aN) U) ?_
  refine rP 3 [] I ?_
  refine bZ (t:=29) U (bg fun L=>?_) (bf fun L=>?_)
  ·refine rP 15 [] I ?_
   refine RK B<|av<|Q1 hQ U U U ?_
   (refine cB (dI ?_).symm; (rw [uf A]; omega))
  refine rP 7 [] (mc 2 U I) ?_
  refine bZ (t:=36) U (aV fun M=>?_) (aU fun M=>?_)
  ·refine rP 8 [] I ?_
   refine RK B<|av<|Q1 hQ U U U ?_
   (refine cB (dI ?_).symm; (rw [uf A]; omega))
  refine rP 3 [] (mc 2 U I) ?_
  refine eB (xs:=[.tmp 39]) (cs:=[(vI f.ig)]) U dp ky U U U U (by simp [Value.cells]) U U fun H=>?_
  refine rS (CL (dK.eq (iS 0 j.Race.ar.cf ([f.ig]) (some ⟨H,0,none⟩) 1 (by (simp; done))) cE) (ax (bu 0 U U (by simp [bR]) U)<|aN) U) ?_
  refine rP 3 [] I ?_
  refine RK B<|av<|Q1 hQ U U U ?_
  (refine cB (decide_not.symm.trans (gY.2 ?_)); (rw [uf A]; omega))
 refine aw<|bE 1 U<|RK D<|WS fun _ C=>rP 2 [] (mc 0 U I) ?_
 refine rS (SX (ow (m:=f.Kind) U U Mm sr (mC (by first|assumption|omega))) U U)<|eB (xs:=[.tmp 16]) (cs:=[(vI f.Kind)]) U dp ky U U U U (by simp [Value.cells]) U U fun R=>?_
 refine rS (CL (dK.eq (iS 1 3 ([f.Kind]) (some ⟨R,0,none⟩) 1 (by (simp; done))) cE) (ax (bu 0 U U (by simp [bR]) U)<|aN) U) ?_
 refine rP 2 [] I ?_
 refine bZ (t:=20) U (bg fun T=>?_) (bf fun T=>?_)
 ·refine rP 24 [] I ?_
  refine RK C<|av<|Q1 hQ U U U ?_
  (refine cB (dI ?_).symm; (rw [td A]; omega))
 refine rP 4 [] (mc 1 U I) ?_
 refine eB (xs:=[.tmp 22,.tmp 24]) (cs:=[(vI f.mE),(vI f.To)]) U dp ky U U U U (by simp [Value.cells]) U U fun S=>?_
 refine rS (CL (dK.eq (iS 0 86400000 ([f.mE,f.To]) (some ⟨S,0,none⟩) 2 (by (simp; done))) o3) (ax (bu 0 U U (by simp [bR]) U)<|aN) U) ?_
 refine rP 3 [] I ?_
 refine bZ (t:=29) U (bg fun AB=>?_) (bf fun AB=>?_)
 ·refine rP 15 [] I ?_
  refine RK C<|av<|Q1 hQ U U U ?_
  (refine cB (dI ?_).symm; (rw [td A]; omega))
 refine rP 7 [] (mc 2 U I) ?_
 refine bZ (t:=36) U (aV fun J=>?_) (aU fun J=>?_)
 ·refine rP 8 [] I ?_
  refine RK C<|av<|Q1 hQ U U U ?_
  (refine cB (dI ?_).symm; (rw [td A]; omega))
 refine rP 3 [] (mc 2 U I) ?_
 refine eB (xs:=[.tmp 39]) (cs:=[(vI f.ig)]) U dp ky U U U U (by simp [Value.cells]) U U fun E=>?_
 refine rS (CL (dK.eq (iS 0 0 ([f.ig]) (some ⟨E,0,none⟩) 1 (by (simp; done))) cE) (ax (bu 0 U U (by simp [bR]) U)<|aN) U) ?_
 refine rP 3 [] I ?_
 refine RK C<|av<|Q1 hQ U U U ?_
 (refine cB (decide_not.symm.trans (gY.2 ?_)); (rw [td A]; omega))
theorem uo (fk fw:Int) (ff ft:Int) (al ah:Int) (ae an:Bool) (bl bh:Int) (be bn:Bool):
 dK Tryz.prog 83 [(vA (aW.cells (aW.mk fk fw ff ft))),(vA (kB.cells (kB.mk (ai.mk al ah) ae an))),(vA (kB.cells (kB.mk (ai.mk bl bh) be bn)))] [] (vB (decide (ah≤ft∧ff≤bl))):=by
 refine bG kr Tryz.func83 U U fun G Q hQ hN=>?_
 try dsimp only
 refine WS fun _ B=>eL U fun D=>eL U fun E=>eL U fun F=>bE 1 U<|RK B<|WS fun _ A=>rP 7 [0,1] (mc 1 U (mc 2 U I)) ?_
 refine cL (t:=13) U (aU fun C=>?_) (aV fun C=>?_)
 ·refine rP 8 [] I ?_
  refine RK A<|av<|Q1 hQ U U U ?_
  exact cB (bH om).symm
 refine rP 8 [0,1] (mc 0 U (mc 2 U I)) ?_
 refine RK A<|av<|Q1 hQ U U U ?_
 exact cB (gY.2 om)
theorem EC (fk fw:Int) (ff ft:Int) (al ah:Int) (ae an:Bool) (bl bh:Int) (be bn:Bool):
 dK Tryz.prog 87 [(vA (aW.cells (aW.mk fk fw ff ft))),(vA (kB.cells (kB.mk (ai.mk al ah) ae an))),(vA (kB.cells (kB.mk (ai.mk bl bh) be bn)))] [] (vB (decide (ai.mk (max al ff) (min ah ft)=ai.mk al ah))):=by
 refine bG kr Tryz.func87 U U fun F Q hQ hN=>?_
 try dsimp only
 refine WS fun _ A=>eL U fun C=>eL U fun D=>eL U fun E=>bE 1 U<|RK A<|WS fun _ B=>e9 5 [0,1] (mc 1 U (mc 2 U I)) U<|rS (MX U)<|e9 5 [0,1] (mc 1 U (mc 2 U I)) U<|rS (MN U)<|rS (SX (bq (xs:=[(0,.tmp 12),(1,.tmp 18)]) (cs:=(ai.cells (ai.mk (max al ff) (min ah ft)))) U U (bp g4 U)) U U)<|bE 1 U<|rS (LP (ai.cells (ai.mk al ah)) 1 U cq U U U)<|rS (BI U (wR _ _ (ai.mk (max al ff) (min ah ft)) (ai.mk al ah)))<|rP 1 [] I ?_
 refine RK B<|av ?_
 exact Q1 hQ U U U U
theorem Ry (j:bS) (kA:OA) (kC:Nat) (cA:OA) (cC:Nat) (bA:OA) (bC:Nat) (slA:OA) (slC:Nat) (drA:OA) (drC:Nat) (heA:OA) (heC:Nat) (faA:OA) (faC:Nat) (prA:OA) (prC:Nat) (fk fw:Int) (ff ft:Int):
 dK Tryz.prog 84 [(vA (df.cells (df.mk (mZ j kA kC cA cC bA bC slA slC drA drC heA heC faA faC prA prC)))),(vA (aW.cells (aW.mk fk fw ff ft)))] [] (vT [(vI (-1)),(vI j.Race.ar.cf)]):=by
 refine bG kr Tryz.func84 U U fun E Q hQ hN=>?_
 try dsimp only
 refine WS fun _ A=>eL U fun C=>eL U fun D=>bE 2 U<|RK A<|aq fun _ B=>dA cy 7 kr<|dP 7 [] (mc 1 U I) ?_
 refine cM<|RK B<|av<|Q2 hQ U U U U ?_
 rfl
theorem Sk (j:bS) (kA:OA) (kC:Nat) (cA:OA) (cC:Nat) (bA:OA) (bC:Nat) (slA:OA) (slC:Nat) (drA:OA) (drC:Nat) (heA:OA) (heC:Nat) (faA:OA) (faC:Nat) (prA:OA) (prC:Nat) (fk fw:Int) (ff ft:Int) (hw:0≤fw∧fw≤1000000):
 dK Tryz.prog 85 [(vA (df.cells (df.mk (mZ j kA kC cA cC bA bC slA slC drA drC heA heC faA faC prA prC)))),(vA (aW.cells (aW.mk fk fw ff ft)))] [] (vT [(vI (fw-1)),(vI fw)]):=by
 refine bG kr Tryz.func85 U U fun E Q hQ hN=>?_
 try dsimp only
 refine WS fun _ A=>eL U fun C=>eL U fun D=>rP 2 [] I ?_
 refine RK A<|aq fun _ B=>dA cy 7 kr ?_
 try dsimp only
 refine dP 7 [] (mc 0 U I) ?_
 refine cM<|RK B<|av<|Q2 hQ U U U U ?_
 rfl
theorem Rd (j:bS) (kA:OA) (kC:Nat) (cA:OA) (cC:Nat) (bA:OA) (bC:Nat) (slA:OA) (slC:Nat) (drA:OA) (drC:Nat) (heA:OA) (heC:Nat) (faA:OA) (faC:Nat) (prA:OA) (prC:Nat) (fk fw:Int) (ff ft:Int):
 dK Tryz.prog 86 [(vA (df.cells (df.mk (mZ j kA kC cA cC bA bC slA slC drA drC heA heC faA faC prA prC)))),(vA (aW.cells (aW.mk fk fw ff ft)))] [] (vT [(vI fw),(vI fw)]):=by
 refine bG kr Tryz.func86 U U fun E Q hQ hN=>?_
 try dsimp only
 refine WS fun _ A=>eL U fun C=>eL U fun D=>bE 2 U<|RK A<|aq fun _ B=>dA cy 6 kr<|dP 6 [] (mc 0 U I) ?_
 refine cM<|RK B<|av<|Q2 hQ U U U U ?_
 rfl
theorem wL:
 dK Tryz.prog 56 [] [] (vA ((fh.cells (fh.mk Value.nilFunc Value.nilFunc))++(fh.cells (fh.mk (Value.func (.func 84) [].toArray [].toArray) (Value.func (.func 83) [].toArray [].toArray)))++(fh.cells (fh.mk (Value.func (.func 85) [].toArray [].toArray) (Value.func (.func 83) [].toArray [].toArray)))++(fh.cells (fh.mk (Value.func (.func 86) [].toArray [].toArray) (Value.func (.func 87) [].toArray [].toArray))))):=by
 refine bG kr Tryz.func56 U U fun E Q hQ hN=>?_
 try dsimp only
 refine WS fun _ A=>AL U Rb fun D=>RK A<|WS fun _ B=>bE 1 U<|RK B<|WS fun _ C=>bE 1 U<|rS (SX (bq (xs:=[(0,.func 84),(1,.tmp 2)]) (cs:=(fh.cells (fh.mk (Value.func (.func 84) [].toArray [].toArray) (Value.func (.func 83) [].toArray [].toArray)))) U U (bp Km U)) U U)<|rP 1 [] I ?_
 refine rS (SX (bq (xs:=[(0,.func 85),(1,.tmp 4)]) (cs:=(fh.cells (fh.mk (Value.func (.func 85) [].toArray [].toArray) (Value.func (.func 83) [].toArray [].toArray)))) U U (bp Km U)) U U)<|rS (SX (bq (xs:=[(0,.func 86),(1,.func 87)]) (cs:=(fh.cells (fh.mk (Value.func (.func 86) [].toArray [].toArray) (Value.func (.func 87) [].toArray [].toArray)))) U U (bp Km U)) U U)<|rS (SX (bq (xs:=[(1,.tmp 3),(2,.tmp 5),(3,.tmp 6)]) (cs:=((fh.cells (fh.mk Value.nilFunc Value.nilFunc))++(fh.cells (fh.mk (Value.func (.func 84) [].toArray [].toArray) (Value.func (.func 83) [].toArray [].toArray)))++(fh.cells (fh.mk (Value.func (.func 85) [].toArray [].toArray) (Value.func (.func 83) [].toArray [].toArray)))++(fh.cells (fh.mk (Value.func (.func 86) [].toArray [].toArray) (Value.func (.func 87) [].toArray [].toArray))))) U U (bp Rn U)) U U)<|fR U SB U<|RK C<|av<|C5 hQ [0] (mc 0 U I) U ?_
 rfl
theorem BU (l:List aW) (lA:OA) (lC:Nat) (f:aW) (hlen:l.length≤1000000):
 dK Tryz.prog 41 [(vS lA l.length lC),(vA (aW.cells f))] [(rd lA l.length 4 (l.map aW.cells))] (vI (oT l f)):=by
 refine bG kr Tryz.func41 U U fun AA Q hQ hN=>?_
 try dsimp only
 refine WS fun _ J=>eL U fun T=>bE 1 U<|RK J<|aq fun _ K=>WS fun _ L=>rP 3 [] I ?_
 refine RK L<|aF ?_
 have B:(0≤l.length)∧(∀ (q:Nat) y,q<0→l[q]? =some y→y≠f):=by exact ⟨Nat.zero_le _,fun q y hq=>absurd hq (Nat.not_lt_zero _)⟩
 refine bQ (ι:={z:Nat // (z≤l.length)∧(∀ (q:Nat) y,q<z→l[q]? =some y→y≠f)}) [0,3,7] [0,1] U U (fun z=>[(8,(vI (z.1:Int)))]) (fun z=>[]) (fun _=>rfl) (fun _=>rfl) (fun z=>l.length-z.1) ⟨0,B⟩ (bk U) (aP [0,1]) ?_
 clear B
 rintro ⟨i,⟨P,A⟩⟩ J5 AB
 try dsimp only
 refine WS fun _ M=>rP 1 [] I ?_
 refine RK M<|aq fun _ N=>bV U (aU fun S=>?_) (aV fun S=>?_)
 ·refine bL<|ab<|ab<|aH<|KK K<|WS fun _ G=>rP 1 [] I ?_
  refine RK G<|av<|Q1 hQ U U U ?_
  exact cI (Lv A om).symm
 refine WK N<|aq fun _ O=>aF<|WS fun _ D=>bE 2 U<|RK D<|aq fun _ E=>dA cy 6 kr<|dP 3 [] (mc 0 U I) ?_
 obtain ⟨x,hx⟩:=aM l i om
 have R:=bO aW.cells hx
 refine dS (IA i U (aG 1 U) Ap dc om om)<|dS (lS i 0 (aW.cells x) U cq (aG 1 U) R U dc U U)<|dS (BI U (RR _ _ f x))<|cM<|RK E<|cw U (aV fun C=>?_) (aU fun C=>?_)
 ·refine WS fun _ F=>rP 2 [] I ?_
  refine RK F<|av<|Q1 hQ U U U ?_
  exact cI (Nn hx C.symm A).symm
 refine cg<|aO<|KK O<|aw<|rP 2 [] I ?_
 refine aK ?_
 have H:(vI (((i+1):Nat):Int))=(vI ((i:Int)+1)):=by exact cI om
 refine a_ (AB ⟨(i+1),⟨om,fun q y hq hy=>by rcases Nat.lt_or_ge q i with c|c; exact A q y c hy; (obtain rfl:q=i:=by omega); rw [hx] at hy; cases hy; exact fun e=>C e.symm⟩⟩ _ _ _ rfl os (cK 3<|bj rfl H<|dv.nil _) (aP [0,1]))
end
section
open Go.RowKit
theorem QS (l:List Int) (lA:OA) (lC:Nat) (hne:1≤l.length) (hlen:l.length≤1000000):
 dK Tryz.prog 88 [(vS lA l.length lC)] [(rd lA l.length 1 (l.map iC))] (vI (nI l)):=by
 refine bG kr Tryz.func88 U U fun V Q hQ hN=>?_
 try dsimp only
 refine WS fun _ L=>bE 1 U<|RK L<|aq fun _ M=>WS fun _ N=>rP 3 [] I ?_
 refine RK N<|cw U (aV fun AA=>?_) (aU fun AA=>?_)
 ·exfalso; omega
 refine WK M<|WS fun _ O=>rP 1 [] I ?_
 obtain ⟨AB,B⟩:=aM l 0 om
 have hx0m:=bO iC B
 refine rS (IA 0 U (aG 0 U) dp dc U om)<|rS (gQ 0 0 (vI AB) U cq (aG 0 U) hx0m U dc U)<|bE 1 U<|RK O<|aq fun _ P=>WS fun _ R=>rP 1 [] I ?_
 refine RK R<|aF ?_
 have A:(1≤1∧1≤l.length):=by omega
 have S:(vI (nI (l.take 1)))=(vI AB):=by rw [Hj B]
 refine bQ (ι:={z:Nat // (1≤z∧z≤l.length)}) [0] [0] U U (fun z=>[(3,(vI (nI (l.take z.1)))),(4,(vI (z.1:Int)))]) (fun z=>[]) (fun _=>rfl) (fun _=>rfl) (fun z=>l.length-z.1) ⟨1,A⟩ (bj U S<|bk U) (aP [0]) ?_
 clear A
 rintro ⟨i,T⟩ J9 K
 try dsimp only
 refine aq fun _ C=>WS fun _ D=>rP 4 [] I ?_
 refine RK D<|bV U (aU fun J=>?_) (aV fun J=>?_)
 ·refine bL<|ab<|ab<|aH<|KK P<|WS fun _ F=>rP 2 [] I ?_
  refine RK F<|av<|Q1 hQ U U U ?_
  rw [List.take_of_length_le om]
 refine WK C<|aq fun _ E=>aF<|aw<|rP 3 [] I ?_
 obtain ⟨AB,B⟩:=aM l i om
 have hx0m:=bO iC B
 refine rS (IA i U (aG 0 U) dp dc om om)<|rS (gQ i 0 (vI AB) U cq (aG 0 U) hx0m U dc U)<|rS (MN U)<|bE 1 U<|aK<|aO<|KK E<|aw<|rP 3 [] I ?_
 refine aK ?_
 have G:(vI (nI (l.take (i+1))))=(vI (min (nI (l.take i)) AB)):=by rw [IM B om]
 have H:(vI (((i+1):Nat):Int))=(vI ((i:Int)+1)):=by exact cI om
 refine a_ (K ⟨(i+1),(by first|omega|(simp only []; omega))⟩ _ _ _ U os (dv.cons U<|bj U G<|bj U H<|dv.nil _) (aP [0]))
end
section
open Go.RowKit
theorem o6:uY Tryz.prog 158 eD:=MT N3 (fun x y w=>Pw 9998 x y w) (fun x y h=>by cases x; cases y; simp [aL.cells] at h; simp [h]) (fun x=>by simp [aL.cells,Instr.sameBits]) (fun x w=>⟨_,rfl,fun p hp=>by
 simp only [bW,List.not_mem_nil,or_false] at hp
 rcases hp with rfl|rfl
 ·exact ⟨⟨_,g0 cq U w⟩,_,sr⟩
 ·exact ⟨⟨_,g0 cq U w⟩,_,sr⟩⟩)
theorem H0 (s:Int):
 dK Tryz.prog 74 [(vI s)] [] (vA (aL.cells (fJ s))):=by
 refine bG kr Tryz.func74 U U fun H Q hQ hN=>?_
 try dsimp only
 refine WS fun _ B=>AL U tN fun G=>RK B<|aq fun _ C=>WS fun _ D=>rP 2 [] I ?_
 refine RK D<|cw U (aV fun A=>?_) (aU fun A=>?_)
 ·refine WS fun _ E=>rS (SX (bq (xs:=[(1,.const (vI 1))]) (cs:=(aL.cells (aL.mk 0 1))) U U (bp BW U)) U U)<|fR U sB U<|RK E<|av<|C5 hQ [0] (mc 0 U I) U ?_
  unfold fJ; first|rw [if_pos A]|rw [if_neg A]
 refine WK C<|WS fun _ F=>rS (SX (bq (xs:=[(0,.const (vI 1))]) (cs:=(aL.cells (aL.mk 1 0))) U U (bp BW U)) U U)<|fR U sB U<|RK F<|av<|C5 hQ [0] (mc 0 U I) U ?_
 unfold fJ; first|rw [if_pos A]|rw [if_neg A]
theorem wB (x:aL) (y:aL) (hx:(0≤x.right∧x.right≤1000)∧0≤x.eW∧x.eW≤1000) (hy:(0≤y.right∧y.right≤1000)∧0≤y.eW∧y.eW≤1000):
 dK Tryz.prog 73 [(vA (aL.cells x)),(vA (aL.cells y))] [] (vA (aL.cells (dG x y))):=by
 refine bG kr Tryz.func73 U U fun F Q hQ hN=>?_
 try dsimp only
 refine WS fun _ A=>eL U fun C=>eL U fun D=>AL U tN fun E=>RK A<|WS fun _ B=>rP 10 [0,1,0,1] (mc 2 U (mc 1 U I)) ?_
 refine rS (SX (bq (xs:=[(0,.tmp 9),(1,.tmp 14)]) (cs:=(aL.cells (aL.mk (x.right+y.right) (x.eW+y.eW)))) U U (bp BW U)) U U)<|fR U sB U<|RK B<|av ?_
 exact C5 hQ [0] (mc 0 U I) U U
theorem Om (ln:ct) (ri:cN) (e:List Int) (tms:List TM) (e_A:OA) (e_C:Nat) (tb:List Nat) (t_A:OA) (t_C:Nat) (fs:List FM) (bs:List FM) (fb:List Nat) (f_A:OA) (f_C:Nat) (bb:List Nat) (b_A:OA) (b_C gw:Nat) (x:aL) (hx:(0≤x.right∧x.right≤1000)∧0≤x.eW∧x.eW≤1000) (hn:ri.ag.n≤1000):
 dK Tryz.prog 72 [(vP gw),(vA (aL.cells x))] [(rd e_A e.length 1 (e.map iC)),(rd t_A tms.length 1 (List.zipWith gD tms tb)),(dU (bo qf tms tb)),(rd f_A fs.length 1 (List.zipWith gD fs fb)),(dU (bo m6 fs fb)),(rd b_A bs.length 1 (List.zipWith gD bs bb)),(dU (bo m6 bs bb)),(cx gw 150 (ck.cells (ck.mk ln ri (bx.mk e_A e.length e_C) (bx.mk t_A tms.length t_C) (bx.mk f_A fs.length f_C) (bx.mk b_A bs.length b_C))))] (vB (kO (cV ln ri e tms) x)):=by
 refine bG kr Tryz.func72 U U fun E Q hQ hN=>?_
 try dsimp only
 refine WS fun _ C=>eL U fun D=>bE 1 U<|RK C<|aq fun _ B=>dA cy 26 kr<|lR 3 [] (mc 0 U I) U<|dS (SX (cT U U) U U)<|dP 5 [] (mr 8 U I) ?_
 refine jD (t:=13) U (aU fun A=>?_) (aV fun A=>?_)
 ·refine dP 17 [] I ?_
  refine cM<|RK B<|av<|Q1 hQ U U U ?_
  exact cB (bH (fun h=>A h.1)).symm
 refine k6 1 U<|dS (SX (cT U U) U U)<|lR 8 [0,1] (mr 8 U (mc 0 U I)) U<|dS (SX (cT U U) U U)<|dP 6 [] (mr 8 U I) ?_
 refine cM<|RK B<|av<|Q1 hQ U U U ?_
 exact cB (gY.2 ⟨fun h=>⟨A,h⟩,fun h=>h.2⟩)
end
section
open Go.RowKit
theorem uM (ln:ct) (ri:cN) (e:List Int) (tms:List TM) (e_A:OA) (e_C:Nat) (tb:List Nat) (t_A:OA) (t_C:Nat) (fs:List FM) (bs:List FM) (fb:List Nat) (f_A:OA) (f_C:Nat) (bb:List Nat) (b_A:OA) (b_C gw:Nat) (hw:Hy (cV ln ri e tms)) (hsg:ri.ag.n≤1000) (hn:ln.aa.n=e.length) (hfw:vW (cV ln ri e tms) fs) (hfb:fb.length=fs.length):
 p9 Tryz.prog 46 [(vP gw)] [(rd e_A e.length 1 (e.map iC)),(rd t_A tms.length 1 (List.zipWith gD tms tb)),(dU (bo qf tms tb)),(rd f_A fs.length 1 (List.zipWith gD fs fb)),(dU (bo m6 fs fb)),(rd b_A bs.length 1 (List.zipWith gD bs bb)),(dU (bo m6 bs bb)),(cx gw 150 (ck.cells (ck.mk ln ri (bx.mk e_A e.length e_C) (bx.mk t_A tms.length t_C) (bx.mk f_A fs.length f_C) (bx.mk b_A bs.length b_C))))] (fun (x:(OA)×Nat)=>(vS x.1 ((hP (cV ln ri e tms)).length) x.2)) (fun (x:(OA)×Nat)=>True) (fun (x:(OA)×Nat)=>[(own x.1 x.2 3 1 ((hP (cV ln ri e tms)).map iC))]):=by
 have y:e.length≤6:=hw.n
 have u:fs.length=e.length+1:=hfw.len
 refine fF kr Tryz.func46 U U fun w0 Q hQ hN=>?_
 try dsimp only
 refine WS fun _ X=>bE 1 U<|RK X<|WS fun _ Y=>bE 1 U<|RK Y<|aq fun _ Z=>WS fun _ b=>bE 1 U<|rS (SX (cT U U) U U)<|rP 6 [] (mr 7 U I) ?_
 refine RK b<|aF<|eP 3 1 ?_
 have A:(0≤e.length+1):=by exact Nat.zero_le _
 refine bQ (ι:={z:Nat×(OA)×Nat // (z.1≤e.length+1)}) [0,12] [1,2,3,4,5,6,7,8] U U (fun z=>[(3,(vS z.1.2.1 ((kH (cV ln ri e tms) z.1.1).length) z.1.2.2)),(13,(vI (z.1.1:Int)))]) (fun z=>[(own z.1.2.1 z.1.2.2 3 1 ((kH (cV ln ri e tms) z.1.1).map iC))]) (fun _=>rfl) (fun _=>rfl) (fun z=>e.length+1-z.1.1) ⟨(0,none,0),A⟩ (bk U) (aP [1,2,3,4,5,6,7,8,0]) ?_
 clear A
 rintro ⟨⟨n,a,c⟩,G⟩ J5 AB
 try dsimp only at G
 try dsimp only
 refine WS fun _ d=>rP 1 [] I ?_
 refine RK d<|aq fun _ g=>bV U (aU fun s=>?_) (aV fun s=>?_)
 ·refine bL<|ab<|ab<|aH<|KK Z<|WS fun _ P=>?_
  rw [show kH (cV ln ri e tms) n=hP (cV ln ri e tms) by (obtain rfl:n=e.length+1:=by omega); rfl]
  refine rP 2 [] I ?_
  refine RK P<|av<|LX hQ (a,c) [8] [] I U U U U ?_
  trivial
 refine WK g<|aq fun _ R=>aF<|WS fun _ J=>bE 2 U<|RK J<|WS fun _ K=>bE 1 U<|rS (SX (cT U U) U U)<|rP 3 [] (mr 7 U I) ?_
 obtain ⟨m,B⟩:=aM fs n om
 obtain ⟨ma,hm0a⟩:=aM fb n om
 have hm0m:(List.zipWith gD fs fb)[n]? =some (gD m ma):=dx B hm0a
 refine rS (IA n U (aG 3 U) ou dc om om)<|rS (gQ n 0 (Value.map (some ma)) U cq (aG 3 U) hm0m U dc U)<|pL (kV:=eD) (m:=cU iV m) 4 U U o4 U ⟨⟨(kj eD ma (cU iV m)),(bP B hm0a (by simp [m6])),U⟩,fun h=>h⟩ (show iH _ (kj eD ma (cU iV m)).holds from cY 4 U (bP B hm0a (by simp [m6]))) U fun l=>?_
 try dsimp only
 refine RK K<|aF ?_
 have A:(∀ p∈m,p∈m)∧(∀ p∈m,p∈m∨kO (cV ln ri e tms) p.1=false):=by exact ⟨fun p hp=>hp,fun p hp=> .inl hp⟩
 refine bQ (ι:={z:FM // (∀ p∈z,p∈m)∧(∀ p∈m,p∈z∨kO (cV ln ri e tms) p.1=false)}) [0,3,4,12,13,23] [1,2,3,4,5,6,7,8,9] U U (fun z=>[]) (fun z=>[(C4 eD l ma (cU iV m) (cU iV z.1) none)]) (fun _=>rfl) (fun _=>rfl) (fun z=>z.1.length) ⟨m,A⟩ (dv.nil _) (aP [1,2,3,4,5,6,7,8,9,0]) ?_
 clear A
 rintro ⟨left,⟨C,D⟩⟩ J13 H
 try dsimp only
 refine WS fun _ F=>ov o6.inj (f:=iV) 9 U U U U (fun W=>?_) (fun t v hm i=>?_)
 ·refine bE 1 U<|RK F<|aq fun _ o=>cj U<|bL<|ab<|ab<|aH<|aO<|KK R<|aw<|rP 2 [] I ?_
  refine aK ?_
  rw [← Hd (w:=(cV ln ri e tms)) (k:=n) ((By (hfw.min _ _ B) (hfw.keys _ _ B)).symm.trans (IL D W))]
  have S:(vI (((n+1):Nat):Int))=(vI ((n:Int)+1)):=by exact cI om
  refine a_ (AB ⟨((n+1),a,c),(by first|omega|(simp only []; omega))⟩ _ _ _ U os (cK 3<|bj U S<|dv.nil _) (aP [0,1,2,3,4,5,6,7,8]))
 try dsimp only
 refine bE 1 U<|RK F<|aq fun _ L=>aT U<|WK L<|aF<|WS fun _ M=>rS (SX (oJ 9 U U U) U U)<|bE 1 U<|AL U tN fun q=>fR U sB U<|RK M<|WS fun _ N=>rP 2 [] (mc 0 U I) ?_
 have j:=Ih hw _ _ (hfw.mem B (C _ hm))
 dsimp only at j
 refine rS (CL (Om ln ri e tms e_A e_C tb t_A t_C fs bs fb f_A f_C bb b_A b_C gw t om hsg) (bw [1,2,3,4,5,6,7,8]) U)<|RK N<|bV U (fun E=>?_) (fun E=>?_)
 ·refine cg<|aO<|q9 10 U py U ?_
  refine a_ (H ⟨(fz left t),⟨mH C,J_ i hm D (by first|exact E|simpa using E)⟩⟩ _ _ _ U (mO hm) (bk U) (aP [1,2,3,4,5,6,7,8,9,10]))
 refine WS fun _ O=>rP 2 [] I ?_
 refine eB (xs:=[.tmp 32]) (cs:=[(vI (n:Int))]) U dp ky U U U U (by simp [Value.cells]) U U fun r=>?_
 have hy:jE (cV ln ri e tms) (fwd (cV ln ri e tms) n)=true:=(By (hfw.min _ _ B) (hfw.keys _ _ B)).symm.trans (Mb (C _ hm) E)
 refine dH (es2:=(List.map iC (kH (cV ln ri e tms) (n+1)))) (m':=(kH (cV ln ri e tms) (n+1)).length) 10 U U U r8 U U sm (bu (es:=List.map iC [(n:Int)]) 0 U U (by simp [bR]) U) (kZ _) (by have:=sW (w:=(cV ln ri e tms)) (k:=n); first|omega|(simp; omega)) (by have:=sW (w:=(cV ln ri e tms)) (k:=n); simp only [maxLen]; omega) (by rw [DB hy]; simp) sm U fun AA V=>?_
 try dsimp only
 refine bE 1 U<|RK O<|bL<|fD U<|ab<|aH<|aO<|KK R<|aw<|rP 2 [] I ?_
 refine aK ?_
 have T:(vI (((n+1):Nat):Int))=(vI ((n:Int)+1)):=by exact cI om
 refine a_ (AB ⟨((n+1),AA,V),(by first|omega|(simp only []; omega))⟩ _ _ _ U os (cK 3<|bj U T<|dv.nil _) (aP [2,3,4,5,6,7,8,9,10]))
end
section
open Go.RowKit
theorem HV (n lo hi:Int) (g1 g2:Nat):
 dK Tryz.prog 69 [(vI n),(vP g1),(vP g2)] [(cx g1 3 [(vI lo)]),(cx g2 3 [(vI hi)])] (vB (decide (n<lo∨hi<n))):=by
 refine bG kr Tryz.func69 U U fun D Q hQ hN=>?_
 try dsimp only
 refine WS fun _ B=>bE 1 U<|RK B<|WS fun _ A=>rP 4 [] (mr 0 U I) ?_
 refine bZ (t:=8) U (aV fun C=>?_) (aU fun C=>?_)
 ·refine rP 5 [] I ?_
  refine RK A<|av<|Q1 hQ U U U ?_
  exact cB (dI om).symm
 refine rP 5 [] (mr 1 U I) ?_
 refine RK A<|av<|Q1 hQ U U U ?_
 exact cB (gY.2 om)
theorem ik (lo hi:Int) (l:List Int) (lA:OA) (lC:Nat) (hlen:l.length≤1000000):
 dK Tryz.prog 44 [(vI lo),(vI hi),(vS lA l.length lC)] [(rd lA l.length 1 (l.map iC))] (vB (qs lo hi l)):=by
 refine bG kr Tryz.func44 U U fun F Q hQ hN=>?_
 try dsimp only
 refine WS fun _ D=>wq U U fun A=>wq U U fun B=>bE 1 U<|RK D<|WS fun _ E=>rP 1 [] I ?_
 refine rS (FU U) ?_
 refine rS (CL (pP l lA lC (Value.func (.func 69) [].toArray [(vP A),(vP B)].toArray) (fun C=>(decide (C<lo∨hi<C))) (dU [(cx A 3 [(vI lo)]),(cx B 3 [(vI hi)])]) (by intro C _; exact k9 (fi:=[]) (ca:=[(vP A),(vP B)]) (jY (HV C lo hi A B) (bw [0,1]))) hlen) (gj 2 U U<|ax (jV (bw [1,0]))<|aN) U) ?_
 refine rP 2 [] I ?_
 refine RK E<|av ?_
 exact Q1 hQ U U U U
theorem UW (n d:Int) (hd:2≤d):
 dK Tryz.prog 65 [(vI n),(vI d)] [] (vI (SG n d)):=by
 refine bG kr Tryz.func65 U U fun C Q hQ hN=>?_
 try dsimp only
 refine WS fun _ A=>bE 1 U<|RK A<|WS fun _ B=>bE 2 U<|rS (BI U Pc)<|rS (BI U Ki)<|bE 1 U<|rS (BI U (Py om (Oy (QN _) hd)))<|rP 1 [] I ?_
 refine RK B<|av ?_
 exact Q1 hQ U U U U
theorem HK (n d:Int) (hd:1≤d∧d≤1000000) (hn:0≤n∧n≤1000000000000000):
 dK Tryz.prog 65 [(vI n),(vI d)] [] (vI (o0 n d)):=by
 refine bG kr Tryz.func65 U U fun C Q hQ hN=>?_
 try dsimp only
 refine WS fun _ A=>bE 1 U<|RK A<|WS fun _ B=>bE 5 U<|rS (BI U (uk om om om))<|rP 1 [] I ?_
 refine RK B<|av ?_
 exact Q1 hQ U U U U
theorem Fc (c:ay) (sA:OA) (sC:Nat) (at_:Int) (hc:fr c) (ha:0≤at_∧at_≤90000000):
 dK Tryz.prog 97 [(vA (dy.cells (dy.mk c.dF (bx.mk sA c.bI.length sC)))),(vI at_)] [(rd sA c.bI.length 3 (c.bI.map cQ.cells))] (vA (ai.cells (iQ c at_))):=by
 have X:=hc.len
 have J:=hc.sE
 refine bG kr Tryz.func97 U U fun e Q hQ hN=>?_
 try dsimp only
 refine WS fun _ M=>eL U fun b=>AL U ed fun d=>RK M<|WS fun _ N=>rS (SX (bq (xs:=[(0,.const (vI (-1099511627776))),(1,.const (vI 1099511627776))]) (cs:=(ai.cells (ai.mk (-1099511627776) 1099511627776))) U U (bp g4 U)) U U)<|AL U ed fun W=>fR U c_ U<|RK N<|aq fun _ O=>aq fun _ P=>?_
 have R:(ai.cells (ai.mk (-1099511627776) 1099511627776))=(ai.cells (gO c at_ 0)):=by rfl
 rw [R]
 refine aw<|rP 4 [] (mc 2 U I) ?_
 refine RK P<|aF ?_
 have A:(0≤c.bI.length):=by exact Nat.zero_le _
 refine bQ (ι:={z:Nat // (z≤c.bI.length)}) [1,2,4,5,11,12] [1,2,3] U U (fun z=>[(13,(vI (z.1:Int)))]) (fun z=>[(cx W 53 (ai.cells (gO c at_ z.1)))]) (fun _=>rfl) (fun _=>rfl) (fun z=>c.bI.length-z.1) ⟨0,A⟩ (bk U) (aP [1,2,3,0]) ?_
 clear A
 rintro ⟨i,S⟩ J9 L
 try dsimp only
 refine WS fun _ B=>rP 1 [] I ?_
 refine RK B<|aq fun _ C=>bV U (aU fun K=>?_) (aV fun K=>?_)
 ·refine bL<|ab<|ab<|aH<|KK O<|WS fun _ G=>rP 1 [] (mc 3 U I) ?_
  refine fR U c_ U<|RK G<|av<|C5 hQ [0] (mc 0 U I) U ?_
  rw [nR (show c.bI.length≤i by omega)]
 refine WK C<|aq fun _ D=>aF<|WS fun _ E=>?_
 obtain ⟨x,hx⟩:=aM c.bI i om
 have AA:=bO cQ.cells hx
 refine rS (IA i U (aG 2 U) xU dc om om)<|rS (lS i 0 (cQ.cells x) U cq (aG 2 U) AA U dc U U)<|AL U yw fun V=>fR U zK U<|RK E<|WS fun _ F=>rP 5 [0,1] (mc 2 U (mc 0 U I)) ?_
 have T:=hc.vo hx
 have Z:=Bh hc ha i
 have Y:=EG J ha (show 0≤x.At∧x.At≤90000000 by omega)
 refine e9 5 [] (mc 0 U I) U<|rS (MX U)<|rS (BI U (tQ ⟨om,om⟩))<|rS (CL (HK (c.dF*(max (at_-x.At) (x.At-at_))) 1000000 om om) (aN) U)<|bE 1 U<|RK F<|aw<|rP 6 [0,1] (mc 4 U (mc 0 U I)) ?_
 have a:0≤o0 (c.dF*max (at_-x.At) (x.At-at_)) 1000000∧o0 (c.dF*max (at_-x.At) (x.At-at_)) 1000000≤90001:=ve J ha T.1
 refine bE 1 U<|rS (MX U)<|rP 7 [0,1] (mc 4 U (mc 0 U I)) ?_
 refine rS (MN U)<|rS (SX (bq (xs:=[(0,.tmp 37),(1,.tmp 45)]) (cs:=(ai.cells (ai.mk (max ((gO c at_ i).Lo) (x.eJ.Lo-(o0 (c.dF*(max (at_-x.At) (x.At-at_))) 1000000))) (min ((gO c at_ i).Hi) (x.eJ.Hi+(o0 (c.dF*(max (at_-x.At) (x.At-at_))) 1000000)))))) U U (bp g4 U)) U U)<|Tg U c_ U<|aK<|aO<|KK D ?_
 have H:(ai.cells (ai.mk (max ((gO c at_ i).Lo) (x.eJ.Lo-(o0 (c.dF*(max (at_-x.At) (x.At-at_))) 1000000))) (min ((gO c at_ i).Hi) (x.eJ.Hi+(o0 (c.dF*(max (at_-x.At) (x.At-at_))) 1000000)))))=(ai.cells (gO c at_ (i+1))):=by rw [j6 hx]; rfl
 rw [H]
 refine aw<|rP 2 [] I ?_
 refine aK ?_
 have AB:(vI (((i+1):Nat):Int))=(vI ((i:Int)+1)):=by exact cI om
 refine a_ (L ⟨(i+1),(by first|omega|(simp only []; omega))⟩ _ _ _ U os (cK 6<|bj U AB<|dv.nil _) (aP [1,2,3,4]))
theorem PW (c:ay) (sA:OA) (sC:Nat) (hlen:c.bI.length≤1000000) (hcap:c.bI.length≤sC):
 dK Tryz.prog 110 [(vA (dy.cells (dy.mk c.dF (bx.mk sA c.bI.length sC))))] [(rd sA c.bI.length 3 (c.bI.map cQ.cells))] (vB (decide (fr c))):=by
 refine bG kr Tryz.func110 U U fun w0 Q hQ hN=>?_
 try dsimp only
 refine WS fun _ A9=>eL U fun b2=>bE 1 U<|RK A9<|AI U<|aq fun _ Bx=>WS fun _ q=>rP 2 [] (mc 0 U I) ?_
 refine eB (xs:=[.tmp 11]) (cs:=[(vI c.dF)]) U dp ky U U U U (by simp [Value.cells]) U U fun b5=>?_
 refine rS (CL (dK.eq (ik 0 1000 ([c.dF]) (some ⟨b5,0,none⟩) 1 (by (simp; done))) cE) (ax (bu 0 U U (by simp [bR]) U)<|aN) U) ?_
 refine rP 2 [] I ?_
 refine bZ (t:=15) U (bg fun AB=>?_) (bf fun AB=>?_)
 ·refine bE 7 U<|RK q<|aT U<|WS fun _ B3=>rP 1 [] I ?_
  refine RK B3<|av<|Q1 hQ U U U ?_
  exact cB (bH fun h=>AB h.sE).symm
 refine rP 3 [] (mc 1 U I) ?_
 refine eB (xs:=[.tmp 18]) (cs:=[(vI (c.bI.length:Int))]) U dp ky U U U U (by simp [Value.cells]) U U fun b7=>?_
 refine rS (CL (dK.eq (ik 1 5 ([(c.bI.length:Int)]) (some ⟨b7,0,none⟩) 1 (by (simp; done))) cE) (ax (bu 0 U U (by simp [bR]) U)<|aN) U) ?_
 refine rP 2 [] I ?_
 refine RK q<|cw U (bg fun O=>?_) (bf fun O=>?_)
 ·refine WS fun _ B9=>rP 1 [] I ?_
  refine RK B9<|av<|Q1 hQ U U U ?_
  exact cB (bH fun h=>O (by have:=h.len; omega)).symm
 refine WK Bx<|WS fun _ Ci=>bE 1 U<|RK Ci<|WS fun _ R=>bE 1 U<|RK R<|aq fun _ S=>Ad<|KK S<|aq fun _ K=>WS fun _ T=>rP 4 [] (mc 2 U I) ?_
 refine RK T<|aF ?_
 have B:(0≤c.bI.length)∧(sN c 0):=by exact ⟨Nat.zero_le _,G0⟩
 have r:(vI (kG c 0))=(vI (-1)):=by rw [gT rfl]
 refine bQ (ι:={z:Nat // (z≤c.bI.length)∧(sN c z)}) [1,2,4,24,25] [2,3] U U (fun z=>[(3,(vI (kG c z.1))),(26,(vI (z.1:Int)))]) (fun z=>[]) (fun _=>rfl) (fun _=>rfl) (fun z=>c.bI.length-z.1) ⟨0,B⟩ (bj U r<|bk U) (aP [2,3]) ?_
 clear B
 rintro ⟨i,⟨L,C⟩⟩ J15 P
 try dsimp only
 have Di: -1≤kG c i∧kG c i≤86400000:=Pn L C
 refine WS fun _ AA=>rP 1 [] I ?_
 refine RK AA<|aq fun _ V=>bV U (aU fun A4=>?_) (aV fun A4=>?_)
 ·refine bL<|ab<|ab<|aH<|KK K<|WS fun _ f=>rP 2 [] I ?_
  refine RK f<|av<|Q1 hQ U U U ?_
  exact cB (dI (Gb AB om (by have e:i=c.bI.length:=om; rw [← e]; exact C))).symm
 refine WK V<|aq fun _ W=>aF<|WS fun _ X=>rP 1 [] I ?_
 obtain ⟨x,hx⟩:=aM c.bI i om
 have Cx:=bO cQ.cells hx
 refine rS (IA i U (aG 1 U) xU dc om om)<|rS (lS i 0 (cQ.cells x) U cq (aG 1 U) Cx U dc U U)<|AL U yw fun C0=>rP 1 [] I ?_
 refine fR U zK U<|RK X ?_
 refine kS (ι:=Unit) [1,2,3,5,6,24,25,26] [0,1,2] U U (fun z=>[(4,(vB (decide (fT c i x))))]) (fun z=>[]) (fun _=>rfl) (fun _=>rfl) ?_ fun K22 G=>?_
 ·intro _
  try dsimp only
  refine aq fun _ Y=>WS fun _ Z=>e9 3 [] (mc 1 U I) U<|rS (VU i U xU om om)<|rP 2 [] I ?_
  refine RK Z<|aF ?_
  have B:(0≤i)∧((decide (fT c i x))=(decide (mz c i x 0))):=by exact ⟨Nat.zero_le _,gY.2 D_.symm⟩
  refine bQ (ι:={z:Nat×Bool // (z.1≤i)∧(z.2=(decide (mz c i x z.1)))}) [1,2,3,5,6,24,25,26,59,60] [0,1,2] U U (fun z=>[(4,(vB z.1.2)),(61,(vI (z.1.1:Int)))]) (fun z=>[]) (fun _=>rfl) (fun _=>rfl) (fun z=>i-z.1.1) ⟨(0,(decide (fT c i x))),B⟩ (bk U) (aP [0,1,2]) ?_
  clear B
  rintro ⟨⟨k,b⟩,⟨M,A⟩⟩ J25 F
  try dsimp only at M A
  try dsimp only
  refine WS fun _ a=>rP 1 [] I ?_
  refine RK a<|aq fun _ d=>bV U (aU fun A6=>?_) (aV fun A6=>?_)
  ·refine bL<|ab<|ab<|aH<|KK Y<|aq fun _ m=>WS fun _ n=>rP 2 [] I ?_
   refine RK n<|cw U (fun D=>?_) (fun D=>?_)
   ·rw [Bool.not_eq_true'] at D
    refine bL<|ab<|fD U<|ab<|ab<|aH<|KK K<|WS fun _ p=>rP 2 [] I ?_
    refine RK p<|av<|Q1 hQ U U U ?_
    exact cB (by have e:k=i:=om; rw [e] at A; rw [D] at A ⊢; exact (bH (Kl hx (of_decide_eq_false A.symm))).symm)
   rw [Bool.not_eq_false'] at D
   refine WK m<|aw<|e9 3 [] (mc 0 U I) U<|aK<|aO<|KK W<|aw<|rP 2 [] I ?_
   refine aK ?_
   have AO:(vB true)=(vB b):=by exact cB D.symm
   have Am:(vI (kG c (i+1)))=(vI x.At):=by rw [oK hx]
   have A0:(vI (((i+1):Nat):Int))=(vI ((i:Int)+1)):=by exact cI om
   refine a_ (P ⟨(i+1),⟨om,Ha C hx (by have e:k=i:=om; rw [e] at A; exact of_decide_eq_true (A.symm.trans D))⟩⟩ _ _ _ U os (dv.cons U<|dv.cons U<|bj U AO<|dv.cons U<|dv.cons U<|bj U Am<|bj U A0<|dv.nil _) (aP [1,2]))
  refine WK d<|aq fun _ H=>aF<|WS fun _ g=>?_
  obtain ⟨o,ho⟩:=aM c.bI k om
  have Ck:=bO cQ.cells ho
  refine rS (VS k U (aG 2 U) xU dc om om om)<|rS (lS k 0 (cQ.cells o) U cq (aG 2 U) Ck U dc U U)<|AL U yw fun C1=>fR U zK U<|RK g<|WS fun _ l=>e9 6 [0,1,2] (mc 2 U (mc 1 U (mc 0 U I))) U<|rS (BI U Ki)<|rS (BI U Qq)<|rS (CL (UW (AQ (c.dF*(AQ (x.At-o.At)))) 1000000 om) (aN) U)<|bE 1 U<|RK l<|aw<|rP 2 [] I ?_
  refine cL (t:=75) U (fun J=>?_) (fun J=>?_)
  ·refine bE 6 U<|bE 16 U<|aK<|aO<|KK H<|aw<|rP 2 [] I ?_
   refine aK ?_
   have AN:(vI (((k+1):Nat):Int))=(vI ((k:Int)+1)):=by exact cI om
   refine a_ (F ⟨((k+1),false),⟨om,by exact (bH fun h=>by have h2:=((sI ho).1 h).1; rw [A] at J; exact absurd (dI h2) (by rw [J]; decide)).symm⟩⟩ _ _ _ U os (cK 11<|bj U AN<|dv.nil _) (aP [1,2,3]))
  refine rP 6 [0,1] (mc 1 U (mc 0 U I)) ?_
  have A1:mz c i x k:=of_decide_eq_true (A.symm.trans J)
  obtain ⟨Cp,Do,EQ⟩:=uH (fun j y hj hy=>(C j y hj hy).1) hx A1.1 om ho
  have N:=Mw AB Cp
  refine rP 5 [] I ?_
  refine cL (t:=86) U (aU fun E=>?_) (aV fun E=>?_)
  ·refine bE 11 U<|aK<|aO<|KK H<|aw<|rP 2 [] I ?_
   refine aK ?_
   have AC:(vI (((k+1):Nat):Int))=(vI ((k:Int)+1)):=by exact cI om
   refine a_ (F ⟨((k+1),false),⟨om,by exact (bH fun h=>by have h2:=((sI ho).1 h).2; rw [N] at E; exact E h2.1).symm⟩⟩ _ _ _ U os (cK 11<|bj U AC<|dv.nil _) (aP [1,2,3]))
  refine e9 11 [0,1] (mc 0 U (mc 1 U I)) U<|aK<|aO<|KK H<|aw<|rP 2 [] I ?_
  refine aK ?_
  have w:(vI (((k+1):Nat):Int))=(vI ((k:Int)+1)):=by exact cI om
  refine a_ (F ⟨((k+1),(decide ((o.eJ.Lo-x.eJ.Hi)≤(SG (AQ (c.dF*(AQ (x.At-o.At)))) 1000000)))),⟨om,by exact gY.2 (by rw [sI ho,N]; rw [N] at E; exact ⟨fun h=>⟨A1,E,h⟩,fun h=>h.2.2⟩)⟩⟩ _ _ _ U os (cK 11<|bj U w<|dv.nil _) (aP [1,2,3]))
 refine aw<|rP 4 [] (mc 0 U I) ?_
 refine eB (xs:=[.tmp 34]) (cs:=[(vI x.At)]) U dp ky U U U U (by simp [Value.cells]) U U fun A2=>?_
 refine rS (CL (dK.eq (ik ((kG c i)+1) 86400000 ([x.At]) (some ⟨A2,0,none⟩) 1 (by (simp; done))) cE) (ax (bu 0 U U (by simp [bR]) U)<|aN) U) ?_
 refine rP 1 [] I ?_
 refine cL (t:=37) U (aU fun A7=>?_) (aV fun A7=>?_)
 ·refine rP 19 [] I ?_
  refine aK ?_
  have v:(decide (fT c i x))=false:=bH (by unfold fT; omega)
  refine a_ (iF (cK 8<|nQ U v<|dv.nil _) (aP [1,2,3]) (G ()))
 refine rP 6 [] (mc 1 U I) ?_
 refine eB (xs:=[.tmp 40,.tmp 43]) (cs:=[(vI x.eJ.Lo),(vI x.eJ.Hi)]) U dp ky U U U U (by simp [Value.cells]) U U fun A3=>?_
 refine rS (CL (dK.eq (ik (-10000) 10000 ([x.eJ.Lo,x.eJ.Hi]) (some ⟨A3,0,none⟩) 2 (by (simp; done))) o3) (ax (bu 0 U U (by simp [bR]) U)<|aN) U) ?_
 refine rP 2 [] I ?_
 refine cL (t:=47) U (aU fun A8=>?_) (aV fun A8=>?_)
 ·refine rP 9 [] I ?_
  refine aK ?_
  have u:(decide (fT c i x))=false:=bH (by unfold fT; omega)
  refine a_ (iF (cK 8<|nQ U u<|dv.nil _) (aP [2,3,4]) (G ()))
 refine rP 9 [] (mc 2 U I) ?_
 refine aK ?_
 have s:(decide (fT c i x))=(decide (x.eJ.Lo≤x.eJ.Hi)):=gY.2 (by unfold fT; omega)
 refine a_ (iF (cK 8<|nQ U s<|dv.nil _) (aP [2,3,4]) (G ()))
theorem QY (ms:List ay) (az:List RA) (k:Nat) (m:ay) (a:RA) (hm:ms[k]? =some m) (ha:az[k]? =some a) (hc:m.bI.length≤a.2∧m.bI.length≤1000000):
 dK Tryz.prog 109 [(vA (dy.cells (dy.mk m.dF (bx.mk a.1 m.bI.length a.2))))] [(dU (bo ay.gn ms az))] (vB (!(decide (fr m)))):=by
 obtain ⟨C,D⟩:=hc
 refine bG kr Tryz.func109 U U fun F Q hQ hN=>?_
 try dsimp only
 refine WS fun _ A=>eL U fun E=>bE 1 U<|RK A<|WS fun _ B=>e9 1 [] (mc 0 U I) U<|rS (CL (PW m a.1 a.2 asm asm) (ax (show iH _ (rd a.1 m.bI.length 3 (m.bI.map cQ.cells)).holds from (cY 1 U (bP hm ha (by simp [ay.gn]))))<|aN) U)<|rP 2 [] I ?_
 refine RK B<|av ?_
 exact Q1 hQ U U U U
theorem Ho (l:List ay) (az:List RA) (lA:OA) (lC:Nat) (f:Value) (p:ay→Bool) (X:aB) (hf: ∀ (k:Nat) m a,l[k]? =some m→az[k]? =some a→DD Tryz.prog f [.agg (ay.cells m a).toArray] [X] (.bool (p m))) (hlen:l.length≤1000000) (has:az.length=l.length):
 dK Tryz.prog 130 [(vS lA l.length lC),f] [(rd lA l.length 2 (List.zipWith ay.cells l az)),(dU (bo ay.gn l az)),X] (vI (sD p l)):=by
 refine bG kr Tryz.func130 U U fun T Q hQ hN=>?_
 try dsimp only
 refine WS fun _ AA=>bE 1 U<|RK AA<|aq fun _ J=>WS fun _ K=>rP 3 [] I ?_
 refine RK K<|aF ?_
 have B:(0≤l.length)∧((l.take 0).any p=false):=by simp
 refine bQ (ι:={z:Nat // (z≤l.length)∧((l.take z).any p=false)}) [0,1,7] [0,1,2] U U (fun z=>[(8,(vI (z.1:Int)))]) (fun z=>[]) (fun _=>rfl) (fun _=>rfl) (fun z=>l.length-z.1) ⟨0,B⟩ (bk U) (aP [0,1,2]) ?_
 clear B
 rintro ⟨i,⟨P,A⟩⟩ J4 H
 try dsimp only
 refine WS fun _ L=>rP 1 [] I ?_
 refine RK L<|aq fun _ M=>bV U (aU fun S=>?_) (aV fun S=>?_)
 ·refine bL<|ab<|ab<|aH<|KK J<|WS fun _ E=>rP 1 [] I ?_
  refine RK E<|av<|Q1 hQ U U U ?_
  exact cI (pJ om A).symm
 refine WK M<|aq fun _ N=>aF<|WS fun _ O=>bE 2 U<|RK O<|WS fun _ C=>rP 3 [] I ?_
 obtain ⟨x,hx⟩:=aM l i om
 obtain ⟨xa,G⟩:=aM az i om
 have R:(List.zipWith ay.cells l az)[i]? =some (ay.cells x xa):=dx hx G
 refine rS (IA i U (aG 0 U) Ae dc om om)<|rS (lS i 0 (dy.cells (dy.mk x.dF (bx.mk xa.1 x.bI.length xa.2))) U cq (aG 0 U) R U dc U U)<|rS (SX (qc U U U (hf i x xa hx G) (bw [2])) U U)<|RK C<|cw U (fun hp=>?_) (fun hp=>?_)
 ·refine WS fun _ D=>rP 2 [] I ?_
  refine RK D<|av<|Q1 hQ U U U ?_
  exact cI (ud hx hp A).symm
 refine cg<|aO<|KK N<|aw<|rP 2 [] I ?_
 refine aK ?_
 have F:(vI (((i+1):Nat):Int))=(vI ((i:Int)+1)):=by exact cI om
 refine a_ (H ⟨(i+1),⟨om,ur hx A hp⟩⟩ _ _ _ U os (cK 3<|bj U F<|dv.nil _) (aP [0,1,2]))
theorem zB (l:List ay) (az:List RA) (lA:OA) (lC:Nat) (f:Value) (p:ay→Bool) (X:aB) (hf: ∀ (k:Nat) m a,l[k]? =some m→az[k]? =some a→DD Tryz.prog f [.agg (ay.cells m a).toArray] [X] (.bool (p m))) (hlen:l.length≤1000000) (has:az.length=l.length):
 dK Tryz.prog 108 [(vS lA l.length lC),f] [(rd lA l.length 2 (List.zipWith ay.cells l az)),(dU (bo ay.gn l az)),X] (vB (l.any p)):=by
 refine bG kr Tryz.func108 U U fun C Q hQ hN=>?_
 try dsimp only
 refine WS fun _ A=>bE 1 U<|RK A<|WS fun _ B=>bE 2 U<|rS (CL (Ho l az lA lC f p X (by exact hf) hlen has) (PV 0 1 2 U U U U U U) U)<|rP 2 [] I ?_
 refine RK B<|av<|Q1 hQ U U U ?_
 exact cB rE
theorem Hs (l:List bK) (lA:OA) (lC:Nat) (f:Value) (p:bK→Bool) (X:aB) (hf: ∀ x0,x0∈l→DD Tryz.prog f [.agg (bK.cells x0).toArray] [X] (.bool (p x0))) (hlen:l.length≤1000000):
 dK Tryz.prog 131 [(vS lA l.length lC),f] [(rd lA l.length 4 (l.map bK.cells)),X] (vI (sD p l)):=by
 refine bG kr Tryz.func131 U U fun S Q hQ hN=>?_
 try dsimp only
 refine WS fun _ H=>bE 1 U<|RK H<|aq fun _ AA=>WS fun _ J=>rP 3 [] I ?_
 refine RK J<|aF ?_
 have B:(0≤l.length)∧((l.take 0).any p=false):=by simp
 refine bQ (ι:={z:Nat // (z≤l.length)∧((l.take z).any p=false)}) [0,1,7] [0,1] U U (fun z=>[(8,(vI (z.1:Int)))]) (fun z=>[]) (fun _=>rfl) (fun _=>rfl) (fun z=>l.length-z.1) ⟨0,B⟩ (bk U) (aP [0,1]) ?_
 clear B
 rintro ⟨i,⟨O,A⟩⟩ J4 G
 try dsimp only
 refine WS fun _ K=>rP 1 [] I ?_
 refine RK K<|aq fun _ L=>bV U (aU fun R=>?_) (aV fun R=>?_)
 ·refine bL<|ab<|ab<|aH<|KK AA<|WS fun _ E=>rP 1 [] I ?_
  refine RK E<|av<|Q1 hQ U U U ?_
  exact cI (pJ om A).symm
 refine WK L<|aq fun _ M=>aF<|WS fun _ N=>bE 2 U<|RK N<|WS fun _ C=>rP 3 [] I ?_
 obtain ⟨x,hx⟩:=aM l i om
 have P:=bO bK.cells hx
 refine rS (IA i U (aG 0 U) v9 dc om om)<|rS (lS i 0 (bK.cells x) U cq (aG 0 U) P U dc U U)<|rS (SX (qc U U U (hf x (aQ hx)) (bw [1])) U U)<|RK C<|cw U (fun hp=>?_) (fun hp=>?_)
 ·refine WS fun _ D=>rP 2 [] I ?_
  refine RK D<|av<|Q1 hQ U U U ?_
  exact cI (ud hx hp A).symm
 refine cg<|aO<|KK M<|aw<|rP 2 [] I ?_
 refine aK ?_
 have F:(vI (((i+1):Nat):Int))=(vI ((i:Int)+1)):=by exact cI om
 refine a_ (G ⟨(i+1),⟨om,ur hx A hp⟩⟩ _ _ _ U os (cK 3<|bj U F<|dv.nil _) (aP [0,1]))
theorem Aa (l:List bK) (lA:OA) (lC:Nat) (f:Value) (p:bK→Bool) (X:aB) (hf: ∀ x0,x0∈l→DD Tryz.prog f [.agg (bK.cells x0).toArray] [X] (.bool (p x0))) (hlen:l.length≤1000000):
 dK Tryz.prog 112 [(vS lA l.length lC),f] [(rd lA l.length 4 (l.map bK.cells)),X] (vB (l.any p)):=by
 refine bG kr Tryz.func112 U U fun C Q hQ hN=>?_
 try dsimp only
 refine WS fun _ A=>bE 1 U<|RK A<|WS fun _ B=>bE 2 U<|rS (CL (Hs l lA lC f p X (by exact hf) hlen) (bw [0,1]) U)<|rP 2 [] I ?_
 refine RK B<|av<|Q1 hQ U U U ?_
 exact cB rE
end
section
open Go.RowKit
theorem pY (a:ai) (l:List ai) (lA:OA) (lC:Nat) (ha:lT a) (hl: ∀ z∈l,lT z) (hlen:l.length≤4):
 dK Tryz.prog 118 [(vA (ai.cells a)),(vS lA l.length lC)] [(rd lA l.length 2 (l.map ai.cells))] (vA (ai.cells (kI a l))):=by
 refine bG kr Tryz.func118 U U fun AA Q hQ hN=>?_
 try dsimp only
 refine WS fun _ AB=>eL U fun R=>AL U ed fun T=>RK AB<|aq fun _ J=>WS fun _ K=>rP 3 [] I ?_
 refine RK K<|aF ?_
 have A:(0≤l.length):=by exact Nat.zero_le _
 refine bQ (ι:={z:Nat // (z≤l.length)}) [2,4,7,8] [0,2] U U (fun z=>[(9,(vI (z.1:Int)))]) (fun z=>[(cx R 53 (ai.cells (kI a (l.take z.1))))]) (fun _=>rfl) (fun _=>rfl) (fun z=>l.length-z.1) ⟨0,A⟩ (bk U) (aP [0,2,1]) ?_
 clear A
 rintro ⟨i,N⟩ J6 H
 try dsimp only
 refine WS fun _ L=>rP 1 [] I ?_
 refine RK L<|aq fun _ M=>bV U (aU fun S=>?_) (aV fun S=>?_)
 ·refine bL<|ab<|ab<|aH<|KK J<|aq fun _ D=>?_
  have G:(ai.cells (kI a (l.take i)))=(ai.cells (kI a l)):=by rw [JW om]
  rw [G]
  refine aw<|rP 1 [] (mc 2 U I) ?_
  refine fR U c_ U<|RK D<|av ?_
  exact C5 hQ [0] (mc 0 U I) U U
 refine WK M<|aq fun _ B=>aF<|WS fun _ C=>?_
 obtain ⟨x,hx⟩:=aM l i om
 have O:=bO ai.cells hx
 refine rS (IA i U (aG 1 U) lu dc om om)<|rS (lS i 0 (ai.cells x) U cq (aG 1 U) O U dc U U)<|AL U ed fun P=>fR U c_ U<|RK C<|aw ?_
 have hb:=OJ ha hl i
 have hz:=hl x (aQ hx)
 unfold lT at hz
 refine rP 10 [0,1,0,1] (mc 3 U (mc 0 U I)) ?_
 refine rS (SX (bq (xs:=[(0,.tmp 17),(1,.tmp 22)]) (cs:=(ai.cells (ai.mk (((kI a (l.take i)).Lo)+x.Lo) (((kI a (l.take i)).Hi)+x.Hi)))) U U (bp g4 U)) U U)<|Ty U c_ U<|aK<|aO<|KK B ?_
 have E:(ai.cells (ai.mk (((kI a (l.take i)).Lo)+x.Lo) (((kI a (l.take i)).Hi)+x.Hi)))=(ai.cells (kI a (l.take (i+1)))):=by rw [yJ hx]; rfl
 rw [E]
 refine aw<|rP 2 [] I ?_
 refine aK ?_
 have F:(vI ((i+1):Int))=(vI ((i:Int)+1)):=by exact cI om
 refine a_ (H ⟨(i+1),(by first|omega|(simp only []; omega))⟩ _ _ _ U os (cK 4<|bj U F<|dv.nil _) (aP [1,2,3]))
theorem ES (ts:List au) (tsA:OA) (tsC:Nat) (hlen:ts.length≤1000000) (hside: ∀ x∈ts,0≤x.jm∧x.jm≤255):
 dK Tryz.prog 115 [(vA (bM.cells (bM.mk (bx.mk tsA ts.length tsC))))] [(rd tsA ts.length 9 (ts.map au.cells))] (vT [(vA (eI.cells (eI.mk (bM.mk (bx.mk tsA ts.length tsC))))),(vI (if dq ts=true then 0 else 10))]):=by
 refine bG kr Tryz.func115 U U fun E Q hQ hN=>?_
 try dsimp only
 refine WS fun _ A=>eL U fun C=>AL U Je fun D=>bE 1 U<|RK A<|aq fun _ B=>dA cy 4 kr<|lR 1 [] (mc 1 U I) U<|dS (SX (bq (xs:=[(0,.tmp 4)]) (cs:=(eI.cells (eI.mk (bM.mk (bx.mk tsA ts.length tsC))))) U U (bp Q_ U)) U U)<|lR 1 [] (mc 1 U I) U<|dS (CL (AW ts tsA tsC hlen hside) (bw [2]) U)<|cM<|fR U JS U<|rP 1 [] I ?_
 refine RK B<|av ?_
 exact mY hQ [0] (mc 0 U I) U U
theorem Nt (f:Int) (tsA:OA) (tsN tsC:Nat):
 p9 Tryz.prog 134 [(vA (eI.cells (eI.mk (bM.mk (bx.mk tsA tsN tsC))))),(vI f)] [] (fun (x:Nat×Nat)=>(Value.func (.func 151) [].toArray [(Value.pointer (some ⟨x.1,0,none⟩)),(Value.pointer (some ⟨x.2,0,none⟩))].toArray)) (fun (x:Nat×Nat)=>True) (fun (x:Nat×Nat)=>[(cx x.1 3 [(vI f)]),(cx x.2 196 (eI.cells (eI.mk (bM.mk (bx.mk tsA tsN tsC)))))]):=by
 refine fF kr Tryz.func134 U U fun E Q hQ hN=>?_
 try dsimp only
 refine WS fun _ A=>eL U fun C=>wq U U fun D=>bE 1 U<|RK A<|WS fun _ B=>rS (FU U)<|rP 1 [] I ?_
 refine RK B<|av<|LX hQ (D,C) [0,1] [] I U U U U ?_
 trivial
theorem F4 (ts:List au) (tsA:OA) (tsC:Nat) (f:Int) (g1 g2:Nat) (hst: ∀ x∈ts,bX x) (hlen:ts.length≤12) (hf:0≤f∧f≤ts.length):
 Ma Tryz.prog 151 [] [(vP g1),(vP g2)] [(rd tsA ts.length 9 (ts.map au.cells)),(cx g1 3 [(vI f)]),(cx g2 196 (eI.cells (eI.mk (bM.mk (bx.mk tsA ts.length tsC)))))] (uh ts f.toNat):=by
 refine FI kr Tryz.func151 U U fun l J Z A0 p Q hY g d hQ hN=>?_
 try dsimp only
 refine WS fun _ h=>AL U ed fun n=>AL U ed fun o=>RK h<|WS fun _ i=>rP 2 [] (mr 4 U I) ?_
 refine RK i<|aF ?_
 have P:(0≤ts.length-f.toNat)∧(J 0 A0)∧(Fo A0 p A0):=by exact ⟨Nat.zero_le _,g,d⟩
 have m:(vI (f+(0:Int)))=(vI f):=by exact cI om
 refine bQ (ι:={z:Nat×aB // (z.1≤ts.length-f.toNat)∧(J z.1 z.2)∧(Fo A0 p z.2)}) [0,1,2,4,5] [3,4,5] U U (fun z=>[(6,(vI (f+(z.1.1:Int))))]) (fun z=>[(cx o 53 (ai.cells (gK ts f.toNat z.1.1))),(cx n 53 (ai.cells (eK ts f.toNat z.1.1))),z.1.2]) (fun _=>rfl) (fun _=>rfl) (fun z=>ts.length-f.toNat-z.1.1) ⟨(0,A0),P⟩ (bj U m<|dv.nil _) (aP [3,4,5,0,1,2]) ?_
 clear P
 rintro ⟨⟨k,A⟩,⟨W,R,S⟩⟩ J6 V
 try dsimp only at W R S
 try dsimp only
 refine aq fun _ j=>WS fun _ X=>rP 3 [0,1] (mc 4 U (mc 3 U I)) ?_
 refine EF 5 hY R S U U U (zm om) U U (fun B9 C B=>?_) (fun B9 C B=>?_)
 rotate_left 1
 ·refine rP 8 [] I ?_
  refine RK X<|cj U<|bL<|ab<|ab<|aH ?_
  refine hN _ _ _ (jX (vs:=[]) trivial fun w hs=>NW 5 U C B hs)
 refine rP 8 [] (mr 2 U I) ?_
 refine RK X<|bV U (aU fun c=>?_) (aV fun c=>?_)
 ·refine bL<|ab<|ab<|aH ?_
  refine hN _ _ _ (jX (vs:=[]) trivial fun w hs=>RF 5 U (by rw [tv]; have e:ts.length-f.toNat+1=k+1:=om; rw [e]; exact C) B hs)
 refine WK j<|aq fun _ M=>aF<|lI cy [0,1,2,3,4,5,6,7,10,11,12,13,14,15,16,17] [8,9,18,19,20,21] [true,false,false,false,false,false,false,false,true,false,false,false,false,false,false,false] [8,9,18] [(rd tsA ts.length 9 (ts.map au.cells)).ro,(cx g1 3 [(vI f)]).ro,(cx g2 196 (eI.cells (eI.mk (bM.mk (bx.mk tsA ts.length tsC))))).ro,B9] [(rd tsA ts.length 9 (ts.map au.cells)).ro,(cx g1 3 [(vI f)]).ro,(cx g2 196 (eI.cells (eI.mk (bM.mk (bx.mk tsA ts.length tsC))))).ro,(cx o 53 (ai.cells (gK ts f.toNat k))),(cx n 53 (ai.cells (eK ts f.toNat k))),B9] kr (aP [0,1,2,5]) (aP [0,1,2,3,4,5])<|fS U (LW 4 U cq U U)<|eS U (FA 0 U fK U)<|eS U (FA 0 U fK U)<|eS U (Kv (vS tsA ts.length tsC) 2 U cq U U)<|eS U (MV U) ?_
 obtain ⟨x,hx⟩:=aM ts (f.toNat+k) om
 have a:=bO au.cells hx
 refine eS U (IA (f.toNat+k) U (aG 0 U) yo dc om om) ?_
 have L:=hst x (aQ hx)
 refine eS U (o1 (((f.toNat+k)*9)+1) U (aG 0 U) (Nat.mul_pos om dc) fK U)<|eS U (lS (f.toNat+k) 1 (ai.cells x.kJ) U cq (aG 0 U) a U dc U U)<|fS U (LW 3 U cq U U)<|eS U (FA 0 U fK U)<|eS U (FA 0 U fK U)<|eS U (Kv (vS tsA ts.length tsC) 2 U cq U U)<|eS U (MV U)<|eS U (IA (f.toNat+k) U (aG 0 U) yo dc om om)<|eS U (o1 (((f.toNat+k)*9)+3) U (aG 0 U) (Nat.mul_pos om dc) fK U)<|eS U (lS (f.toNat+k) 3 (ai.cells x.l0) U cq (aG 0 U) a U dc U U)<|eC U<|mW [8,18] kr (iR ?_<|iR ?_<|ql)
 rotate_left 1
 ·refine vw (rem':=[8,9,19,20,21]) U kr fun T14 N=>eB (xs:=[.tmp 39]) (cs:=(ai.cells x.l0)) U lu ed U U U U (by simp [Value.cells,ai.aZ]) U U fun T=>aK (N _ _ (aP [1,2,3,6]) (aP [1,2,3,4,5,6]) ?_)
  refine N1 8<|vw (rem':=[9,19,20,21]) U kr fun T16 D=>eB (xs:=[.tmp 29]) (cs:=(ai.cells x.kJ)) U lu ed U U U U (by simp [Value.cells,ai.aZ]) U U fun AA=>aK (D _ _ (aP [2,3,4,7]) (aP [2,3,4,5,6,7]) ?_)
  refine N1 9<|vw (rem':=[19,20,21]) U kr fun T18 O=>?_
  refine rS (CL (dK.eq (pY (eK ts f.toNat k) ([x.kJ]) (some ⟨AA,0,none⟩) 1 (by exact re hst om) (by intro z hz; simp only [cu] at hz; subst hz; exact vu L) sm) nO) (ax (bu 0 rfl rfl (by simp [ai.aZ]) rfl)<|aN) rfl) ?_
  refine aK (O _ _ (aP [2,3,4,7]) (aP [2,3,4,5,6,7]) ?_)
  refine N1 19<|NO U U [20,21] fun T19 E=>?_
  refine rS (CL (dK.eq (pY (gK ts f.toNat k) ([x.l0]) (some ⟨T,0,none⟩) 1 (by exact wG hst om) (by intro z hz; simp only [cu] at hz; subst hz; exact u3 L) sm) nO) (ax (bu 1 rfl rfl (by simp [ai.aZ]) rfl)<|aN) rfl) ?_
  refine aK (E _ _ (aP [2,3,4,7]) ?_)
  refine N1 20<|NO U U [21] fun T20 F=>Rj U c_ U<|aK (F _ _ (aP [2,3,4,7]) ?_)
  refine N1 21<|NO U U [] fun T21 G=>IF U c_ U<|aK (G _ _ (aP [2,3,4,7]) ?_)
  refine lU<|aO<|KK M ?_
  have H:(ai.cells (mN (eK ts f.toNat k) x.kJ))=(ai.cells (eK ts f.toNat (k+1))):=by rw [qb hx]
  rw [H]
  have AB:(ai.cells (mN (gK ts f.toNat k) x.l0))=(ai.cells (gK ts f.toNat (k+1))):=by rw [pZ hx]
  rw [AB]
  refine aw<|rP 3 [] I ?_
  refine aK ?_
  have K:(vI (f+(((k+1):Nat):Int)))=(vI ((f+(k:Int))+1)):=by exact cI om
  refine a_ (V ⟨((k+1),B9),⟨om,C,B⟩⟩ _ _ _ U os (cK 5<|bj U K<|dv.nil _) (aP [2,3,4,5,6,7]))
 refine vw (rem':=[9,18,19,20,21]) U kr fun T14 N=>eB (xs:=[.tmp 29]) (cs:=(ai.cells x.kJ)) U lu ed U U U U (by simp [Value.cells,ai.aZ]) U U fun T=>aK (N _ _ (aP [1,2,3,6]) (aP [1,2,3,4,5,6]) ?_)
 refine mW [9,18] kr (iR ?_<|iR ?_<|ql)
 rotate_left 1
 ·refine vw (rem':=[9,19,20,21]) U kr fun T16 D=>eB (xs:=[.tmp 39]) (cs:=(ai.cells x.l0)) U lu ed U U U U (by simp [Value.cells,ai.aZ]) U U fun AA=>aK (D _ _ (aP [2,3,4,7]) (aP [2,3,4,5,6,7]) ?_)
  refine N1 9<|vw (rem':=[19,20,21]) U kr fun T18 O=>?_
  refine rS (CL (dK.eq (pY (eK ts f.toNat k) ([x.kJ]) (some ⟨T,0,none⟩) 1 (by exact re hst om) (by intro z hz; simp only [cu] at hz; subst hz; exact vu L) sm) nO) (ax (bu 1 rfl rfl (by simp [ai.aZ]) rfl)<|aN) rfl) ?_
  refine aK (O _ _ (aP [2,3,4,7]) (aP [2,3,4,5,6,7]) ?_)
  refine N1 19<|NO U U [20,21] fun T19 E=>?_
  refine rS (CL (dK.eq (pY (gK ts f.toNat k) ([x.l0]) (some ⟨AA,0,none⟩) 1 (by exact wG hst om) (by intro z hz; simp only [cu] at hz; subst hz; exact u3 L) sm) nO) (ax (bu 0 rfl rfl (by simp [ai.aZ]) rfl)<|aN) rfl) ?_
  refine aK (E _ _ (aP [2,3,4,7]) ?_)
  refine N1 20<|NO U U [21] fun T20 F=>Rj U c_ U<|aK (F _ _ (aP [2,3,4,7]) ?_)
  refine N1 21<|NO U U [] fun T21 G=>IF U c_ U<|aK (G _ _ (aP [2,3,4,7]) ?_)
  refine lU<|aO<|KK M ?_
  have H:(ai.cells (mN (eK ts f.toNat k) x.kJ))=(ai.cells (eK ts f.toNat (k+1))):=by rw [qb hx]
  rw [H]
  have AB:(ai.cells (mN (gK ts f.toNat k) x.l0))=(ai.cells (gK ts f.toNat (k+1))):=by rw [pZ hx]
  rw [AB]
  refine aw<|rP 3 [] I ?_
  refine aK ?_
  have K:(vI (f+(((k+1):Nat):Int)))=(vI ((f+(k:Int))+1)):=by exact cI om
  refine a_ (V ⟨((k+1),B9),⟨om,C,B⟩⟩ _ _ _ U os (cK 5<|bj U K<|dv.nil _) (aP [2,3,4,5,6,7]))
 refine vw (rem':=[18,19,20,21]) U kr fun T16 D=>?_
 refine rS (CL (dK.eq (pY (eK ts f.toNat k) ([x.kJ]) (some ⟨T,0,none⟩) 1 (by exact re hst om) (by intro z hz; simp only [cu] at hz; subst hz; exact vu L) sm) nO) (ax (bu 0 rfl rfl (by simp [ai.aZ]) rfl)<|aN) rfl) ?_
 refine aK (D _ _ (aP [1,2,3,6]) (aP [1,2,3,4,5,6]) ?_)
 refine N1 18<|vw (rem':=[19,20,21]) U kr fun T17 Y=>eB (xs:=[.tmp 39]) (cs:=(ai.cells x.l0)) U lu ed U U U U (by simp [Value.cells,ai.aZ]) U U fun b=>aK (Y _ _ (aP [2,3,4,7]) (aP [2,3,4,5,6,7]) ?_)
 refine N1 19<|NO U U [20,21] fun T19 E=>?_
 refine rS (CL (dK.eq (pY (gK ts f.toNat k) ([x.l0]) (some ⟨b,0,none⟩) 1 (by exact wG hst om) (by intro z hz; simp only [cu] at hz; subst hz; exact u3 L) sm) nO) (ax (bu 0 rfl rfl (by simp [ai.aZ]) rfl)<|aN) rfl) ?_
 refine aK (E _ _ (aP [2,3,4,7]) ?_)
 refine N1 20<|NO U U [21] fun T20 F=>Rj U c_ U<|aK (F _ _ (aP [2,3,4,7]) ?_)
 refine N1 21<|NO U U [] fun T21 G=>IF U c_ U<|aK (G _ _ (aP [2,3,4,7]) ?_)
 refine lU<|aO<|KK M ?_
 have H:(ai.cells (mN (eK ts f.toNat k) x.kJ))=(ai.cells (eK ts f.toNat (k+1))):=by rw [qb hx]
 rw [H]
 have AB:(ai.cells (mN (gK ts f.toNat k) x.l0))=(ai.cells (gK ts f.toNat (k+1))):=by rw [pZ hx]
 rw [AB]
 refine aw<|rP 3 [] I ?_
 refine aK ?_
 have K:(vI (f+(((k+1):Nat):Int)))=(vI ((f+(k:Int))+1)):=by exact cI om
 refine a_ (V ⟨((k+1),B9),⟨om,C,B⟩⟩ _ _ _ U os (cK 5<|bj U K<|dv.nil _) (aP [2,3,4,5,6,7]))
theorem Kx (ts:List au) (tsA:OA) (tsC:Nat) (f t:Int) (hst: ∀ x∈ts,bX x) (hlen:ts.length≤12) (hf:0≤f∧f≤t∧t≤ts.length):
 dK Tryz.prog 117 [(vA (eI.cells (eI.mk (bM.mk (bx.mk tsA ts.length tsC))))),(vI f),(vI t)] [(rd tsA ts.length 9 (ts.map au.cells))] (vT [(vA (ai.cells (eK ts f.toNat (t-f).toNat))),(vA (ai.cells (gK ts f.toNat (t-f).toNat)))]):=by
 refine bG kr Tryz.func117 U U fun w0 Q hQ hN=>?_
 try dsimp only
 refine WS fun _ M=>eL U fun a=>wq U U fun b=>wq U U fun d=>AL U ed fun e=>AL U ed fun g=>RK M<|aq fun _ AA=>WS fun _ V=>rP 2 [0,1] (mc 4 U (mc 3 U I)) ?_
 refine cX (Nt f tsA ts.length tsC) (aN) U fun u n=>?_
 obtain ⟨B,C⟩:=u
 try dsimp only
 refine RK V<|aF<|jq 7 U (by exact fun _ h=>h) ?_
 refine FK (L0:=[(3,(vP a)),(4,(vP b)),(5,(vP d)),(6,(vP e)),(7,(vP g))]) (F:=[(rd tsA ts.length 9 (ts.map au.cells)).ro,(cx B 3 [(vI f)]),(cx C 196 (eI.cells (eI.mk (bM.mk (bx.mk tsA ts.length tsC)))))]) (xs:=(uh ts f.toNat)) (fun k (y:ai×ai×Int)=>(k≤(t-f).toNat)∧(y.2.2=f+(k:Int))) (fun k y=>[(cx g 53 (ai.cells y.2.1)),(cx e 53 (ai.cells y.1)),(cx d 3 [(vI t)]),(cx b 3 [(vI y.2.2)]),(cx a 196 (eI.cells (eI.mk (bM.mk (bx.mk tsA ts.length tsC))))),(rd tsA ts.length 9 (ts.map au.cells)).ro]) (fun c (z:Unit)=>(c= .exit 0)) (fun _ z=>[(cx g 53 (ai.cells (gK ts f.toNat (t-f).toNat))),(cx e 53 (ai.cells (eK ts f.toNat (t-f).toNat))),(cx d 3 [(vI t)]),(cx b 3 [(vI t)]),(cx a 196 (eI.cells (eI.mk (bM.mk (bx.mk tsA ts.length tsC))))),(rd tsA ts.length 9 (ts.map au.cells)).ro]) [3,4,5,6,7,8] [0,1,2] (gS,gS,f) U U (F4 ts tsA tsC f B C (by first|assumption|omega|(simp; done)) (by first|assumption|omega|(simp; done)) om) U U U (by exact ⟨Nat.zero_le _,sm⟩) (by simp only [List.forall_mem_cons,List.not_mem_nil,false_imp_iff,implies_true,and_true]; exact ⟨⟨_,sm,(dL (bY _))⟩,⟨_,sm,(bY _)⟩,⟨_,sm,(bY _)⟩⟩) (by exact DP) U (bk U) ?_ ?_ ?_ ?_
 rotate_left 1
 ·rintro q ⟨v,z2,m⟩ J
  obtain ⟨A,K⟩:=J
  try dsimp only at A K
  try dsimp only
  exfalso; rw [tv] at A; omega
 ·rintro r id _ Y
  have hc:=Y
  cases hc
  try dsimp only
  refine aH<|KK AA<|aq fun _ D=>dM cy [2,3] [] [] [0,1,2,3,4,5,6,7,8,9] [] U U U U U<|eS U (LW 5 U cq U U)<|eS U (LW 4 U cq U U)<|eC U<|cv U fun T30 E=>IF U c_ U<|aK (E _ _ (aP [0,1,2,3,4,5,6,7,8,9]) ?_)
  refine cv U fun T31 G=>Tg U c_ U<|aK (G _ _ (aP [0,1,2,3,4,5,6,7,8,9]) ?_)
  refine fP U<|KK D<|av<|hQ _ _ _ (qG 0 U U<|jX (vs:=[(vA (ai.cells (eK ts f.toNat (t-f).toNat))),(vA (ai.cells (gK ts f.toNat (t-f).toNat)))]) ⟨⟨_,U,.inl ⟨_,_,cq,pI (vs:=(ai.cells (eK ts f.toNat (t-f).toNat))) 5 U U,U,U⟩⟩,⟨_,U,.inl ⟨_,_,cq,pI (vs:=(ai.cells (gK ts f.toNat (t-f).toNat))) 4 U U,U,U⟩⟩,trivial⟩ fun w hs=>Cq ?_ hs)
  show (vT [(vA (ai.cells (eK ts f.toNat (t-f).toNat))),(vA (ai.cells (gK ts f.toNat (t-f).toNat)))])=(vT [(vA (ai.cells (eK ts f.toNat (t-f).toNat))),(vA (ai.cells (gK ts f.toNat (t-f).toNat)))])
  clear hs w hQ hN G T31 E T30 D V AA M
  rfl
 ·rintro s _ Z
  cases Z
 rintro k x ⟨v,z2,m⟩ l ra rb S w1 K13 Qr14 hx AB N H L j
 obtain ⟨hk,rfl⟩:=FT hx
 obtain ⟨A,K⟩:=AB
 try dsimp only at A K
 try dsimp only
 refine WS fun _ O=>AL U ed fun o=>fR U c_ U<|RK O<|aw<|AL U ed fun p=>fR U c_ U<|aK<|iF (fun _ _ h=>h) (aP [2,0,1,3,4,5,6,7,8])<|a_ (N _ _ ?_)
 refine aF<|aq fun _ P=>aq fun _ R=>dM cy [2,3] [] [] [0,1,2,5,6,7,8] [] U U U U U<|eS U (LW 2 U cq U U)<|eS U (LW 1 U cq U U)<|eC U<|cv U fun T21 W=>Tg U c_ U<|aK (W _ _ (aP [0,1,2,5,6,7,8]) ?_)
 refine cv U fun T22 X=>Ty U c_ U<|aK (X _ _ (aP [0,1,2,5,6,7,8]) ?_)
 refine fP U<|KK R<|WS fun _ T=>rP 3 [0,1] (mc 6 U (mc 5 U I)) ?_
 refine RK T<|cw U (aV fun i=>?_) (aU fun i=>?_)
 ·refine bL<|ab<|fD U ?_
  rw [show m=t from by omega]
  obtain rfl:k=(t-f).toNat:=by omega
  exact L _ () _ _ (by exact U) (aP [0,3,4,5,6,7,8])
 refine WK P<|aw<|rP 2 [] (mc 6 U I) ?_
 refine V2 U AR U U<|aK<|aO ?_
 exact H ((eK ts f.toNat k),(gK ts f.toNat k),(m+1)) _ _ (by refine ⟨om,?_⟩; dsimp only; omega) (aP [0,3,4,5,6,7,8])
end
end Go.Proofs.YtijpnoadncadoaaGreatDoor
