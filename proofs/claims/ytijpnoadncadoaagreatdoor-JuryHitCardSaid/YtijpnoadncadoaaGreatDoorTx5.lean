/-
 The statement juryHit_said, part 5 of 8: JMem, SeqO, RankP, TabP, NestS, Grp, JSeq, JTop, JMor, JAllL, WLe, Ends5, Can, False, Sim, Told, Clear, Ways, JHit, JHitL, Twin, Fresh, MapD, ExL, Rep, ExJ, Win6, JWin, JAlv, B1, B10, Frozen, MarkD, Marks, Follow, OpenM, Z1, Rx4, Jla, DrawB, Bits, BoolC, RaceR, V1, V3.
 Conditions: none.
-/
import Derived.Test.YtijpnoadncadoaaGreatDoorTx1
import Derived.Test.YtijpnoadncadoaaGreatDoorTx2
import Derived.Test.YtijpnoadncadoaaGreatDoorTx3
import Derived.Test.YtijpnoadncadoaaGreatDoorTx4
import Derived.KernelRfl
namespace Go.Proofs.YtijpnoadncadoaaGreatDoor
set_option maxRecDepth 100000
set_option maxHeartbeats 4000000
set_option linter.unusedVariables false
section
open Go.RowKit
structure gG (j:cN) (az:List RA) (ha:List cW):Prop where
 race:lG j.Race az ha
 nf:j.ay.length≤1000000
 np:j.aD.length≤1000000
 kind: ∀ f∈j.ay,0≤f.Kind∧f.Kind≤255
structure sk (j:cN) (az:List RA) (ha:List cW):Prop where
 race:uC j.Race az ha
 nf:j.ay.length≤9223372036854775807
 np:j.aD.length≤9223372036854775807
 kind: ∀ f∈j.ay,0≤f.Kind∧f.Kind≤255
def oR (j:cN):Prop:=(l8 j.Race∨10<(j.ay.length:Int))∨15<(j.aD.length:Int)
noncomputable instance (j:cN):Decidable (oR j):=Classical.propDecidable _
theorem E7 {j:cN} (h: ¬ oR j): ¬ l8 j.Race∧(j.ay.length:Int)≤10∧(j.aD.length:Int)≤15:=by
 unfold oR at h
 have A: ¬ l8 j.Race:=fun q=>h (.inl (.inl q))
 have B: ¬ 10<(j.ay.length:Int):=fun q=>h (.inl (.inr q))
 have C: ¬ 15<(j.aD.length:Int):=fun q=>h (.inr q)
 exact ⟨A,I,I⟩
theorem sk.small {j:cN} {az:List RA} {ha:List cW} (h:sk j az ha) (hg: ¬ oR j):gG j az ha:=by
 have A:=E7 hg
 exact ⟨h.race.small A.1,I,I,h.kind⟩
def oP (fin:Int) (f:aM):Prop:=(1≤f.Kind∧f.Kind≤3)∧(0≤f.gu∧f.gu≤f.To∧f.To≤86400000)∧0≤f.eL∧f.eL≤(if f.Kind=1 then 0 else fin)
instance (fin:Int) (f:aM):Decidable (oP fin f):=by unfold oP; infer_instance
theorem NI {P:Nat→Bool} {n i:Nat} (h: ¬ 0<((jn P n).length:Int)) (hi:i<n):P i=false:=by
 cases e:P i with
 |false=>rfl
 |true=>
  have:(i:Int)∈jn P n:=C4.2 ⟨i,hi,rfl,e⟩
  have:=List.length_pos_of_mem this
  omega
theorem NH {P:Nat→Bool} {n:Nat} (h:0<((jn P n).length:Int)): ∃ i,i<n∧P i=true:=by
 obtain ⟨x,hx⟩:=List.exists_mem_of_length_pos (l:=jn P n) I
 obtain ⟨i,A,_,B⟩:=C4.1 hx
 exact ⟨i,A,B⟩
def h_ {α:Type} (l:List α) (p:Int→α→Bool) (i:Nat):Bool:=(l[i]?).any (p (i:Int))
theorem rU {α:Type} {l:List α} {p:Int→α→Bool} {i:Nat} {x:α} (h:l[i]? =some x):h_ l p i=p (i:Int) x:=by unfold h_; rw [h]; rfl
section
variable {fin:Int} {f:aM} {j:cN}
theorem uz (hk:f.Kind=1):oP fin f↔(0≤f.gu∧f.gu≤f.To∧f.To≤86400000)∧0≤f.eL∧f.eL≤0:=by
 unfold oP; rw [if_pos hk]; omega
theorem ur (hk: ¬ f.Kind=1):oP fin f↔(1≤f.Kind∧f.Kind≤3)∧(0≤f.gu∧f.gu≤f.To∧f.To≤86400000)∧0≤f.eL∧f.eL≤fin:=by
 unfold oP; rw [if_neg hk]
theorem Dz (h:0<((jn (h_ j.ay fun _ f=>decide (¬ oP j.Race.ar.bS f)) j.ay.length).length:Int)): ¬ pP j:=fun q=>by
 obtain ⟨i,hi,hb⟩:=NH h
 have hx:j.ay[i]? =some (j.ay[i]'hi):=eD hi
 rw [rU hx] at hb
 exact (of_decide_eq_true hb) (q.fault _ (aR hx))
theorem BE (h: ¬ 0<((jn (h_ j.ay fun _ f=>decide (¬ oP j.Race.ar.bS f)) j.ay.length).length:Int)): ∀ f∈j.ay,ew j.Race.ar f:=fun f hf=>by
 obtain ⟨i,hi⟩:=List.mem_iff_getElem?.1 hf
 have hb:=NI h (aW.1 hi).1
 rw [rU hi] at hb
 exact Decidable.of_not_not (of_decide_eq_false hb)
theorem AK {b:Bool} {p q:Prop} (h1:b=false) (h2: ¬ p) (h3: ¬ q): ¬ (b=true∨p∨q):=by
 rintro (h|h|h)
 ·rw [h1] at h; cases h
 ·exact h2 h
 ·exact h3 h
end
section
variable {l:bk} {r:cw} {b:Int} {f:aM} {d:av} {a c:vX}
theorem Gf (h:b<0):cr l r b=⟨r.Start,r.Start,true,false⟩:=if_pos h
theorem B8 (h: ¬ b<0) (e: ¬ de l r b=0):cr l r b=⟨86400000,86400000,false,true⟩:=by unfold cr; rw [if_neg h,if_neg e]
theorem zx (h: ¬ b<0) (e:de l r b=0) (q:mY l r b=true):cr l r b=⟨(cY l r b).Lo,(cY l r b).Hi,true,false⟩:=by unfold cr; rw [if_neg h,if_pos e,q]; rfl
theorem xD (h: ¬ b<0) (e:de l r b=0) (q:mY l r b=false):cr l r b=⟨(cY l r b).Lo,86400000,false,false⟩:=by unfold cr; rw [if_neg h,if_pos e,q]; rfl
theorem rV (h:de l r b=0) (hb:0≤b):dK l r 0=0:=by
 by_cases e:dK l r (iP l b)=0
 ·by_cases c:0≤b∧b≤(l.ab.length:Int)-1
  ·rw [o1 c] at e; exact e
  ·rw [show iP l b=2 from if_neg c] at e
   have:=(gM e).2.2.1
   omega
 ·rw [(l_ e).1] at h; exact absurd h e
theorem Cv (h:dK l r 0=0):mY l r b=decide (b<od (gn l r)):=by
 have hm:=F3 (vr h)
 unfold mY
 rw [Bool.eq_iff_iff,cV,decide_eq_true_iff]
 constructor
 ·intro q; exact of_decide_eq_true (q _ hm.1)
 ·intro q x hx
  have:=hm.2 x hx
  exact dx I
theorem L7 (hb:0≤b):(0≤(cr l r b).Lo∧(cr l r b).Lo≤86400000)∧0≤(cr l r b).Hi∧(cr l r b).Hi≤86400000:=by
 by_cases e:de l r b=0
 ·have A:=qL e
  cases q:mY l r b with
  |true=>rw [zx I e q]; simp only; omega
  |false=>rw [xD I e q]; simp only; omega
 ·rw [B8 I e]; simp only; omega
theorem jL (hk:f.Kind=1) (hr:kY d):eC l f d=iQ f (cr l d.a_ (-1)) (cr l d.a_ l.bS):=by
 unfold eC mM zj; rw [if_pos hr,if_pos hk,if_pos hk]
theorem jG (hk:f.Kind=2) (hr:kY d):eC l f d=iQ f (cr l d.a_ (f.eL-1)) (cr l d.a_ f.eL):=by
 unfold eC mM zj; rw [if_pos hr,if_neg I,if_pos hk,if_neg I]
theorem jM (hk:f.Kind=3) (hr:kY d):eC l f d=iQ f (cr l d.a_ f.eL) (cr l d.a_ f.eL):=by
 unfold eC mM zj; rw [if_pos hr,if_neg I,if_neg I,if_neg I]
theorem gU (h:a.never=true∨f.To<a.Lo∨c.Hi<f.gu):iQ f a c=0:=if_pos h
theorem pb (h: ¬ (a.never=true∨f.To<a.Lo∨c.Hi<f.gu)) (q:a.each=true) (s:m7 f a c):iQ f a c=2:=by unfold iQ; rw [if_neg h,if_pos ⟨q,s⟩]
theorem jH (h: ¬ (a.never=true∨f.To<a.Lo∨c.Hi<f.gu)) (q: ¬ (a.each=true∧m7 f a c)):iQ f a c=1:=by unfold iQ; rw [if_neg h,if_neg q]
theorem oL (hk: ¬ f.Kind=3):m7 f a c↔a.Hi≤f.To∧f.gu≤c.Lo:=by unfold m7; rw [if_neg hk]
theorem zX (hk:f.Kind=3):m7 f a c↔ag.mk (max a.Lo f.gu) (min a.Hi f.To)=ag.mk a.Lo a.Hi:=by
 unfold m7; rw [if_pos hk]
 constructor
 ·intro q; congr 1<;>omega
 ·intro q; injection q with A B; omega
end
section
variable {j:cN} {p:aX} {d:av} {f:aM}
theorem PI (hd:qj j p=some d) (h:p.At≤(cr j.Race.ar d.a_ j.Race.ar.bS).Lo+60000*j.fX):mR j p=0:=by unfold mR; rw [hd]; exact if_pos h
theorem P4 (hd:qj j p=some d) (h: ¬ p.At≤(cr j.Race.ar d.a_ j.Race.ar.bS).Lo+60000*j.fX) (h2:p.At≤(cr j.Race.ar d.a_ j.Race.ar.bS).Hi+60000*j.fX):mR j p=1:=by unfold mR; rw [hd]; simp only; rw [if_neg h,if_pos h2]
theorem Qd (hd:qj j p=some d) (h: ¬ p.At≤(cr j.Race.ar d.a_ j.Race.ar.bS).Lo+60000*j.fX) (h2: ¬ p.At≤(cr j.Race.ar d.a_ j.Race.ar.bS).Hi+60000*j.fX):mR j p=2:=by unfold mR; rw [hd]; simp only; rw [if_neg h,if_neg h2]
theorem HW (h:mR j p=2):iv j p=false:=by unfold iv; split<;>simp [h]
theorem Jl (hd:qj j p=some d) (hf:j.ay[p.jU.toNat]? =some f) (h: ¬ mR j p=2):iv j p= !decide (eC j.Race.ar f d=0):=by unfold iv; rw [hd,hf]; simp [h]
end
section
variable {j:cN} {i k:Nat} {p q:aX} {f:aM} {d:av}
/-- the first faults are right -/
def o6 (j:cN) (k:Nat):Prop:= ∀ (i:Nat) f,i<k→j.ay[i]? =some f→ew j.Race.ar f
theorem Be:o6 j 0:=fun i f h=>absurd h (Nat.not_lt_zero _)
theorem qD (h:o6 j k) (hf:j.ay[k]? =some f) (ho:ew j.Race.ar f):o6 j (k+1):=fun i g hi hg=>by
 rcases Nat.lt_or_ge i k with c|c
 ·exact h i g c hg
 ·obtain rfl:i=k:=by omega
  rw [hf] at hg; cases hg; exact ho
theorem dN (h:o6 j k) (hk:j.ay.length≤k): ∀ f∈j.ay,ew j.Race.ar f:=fun f hf=>by
 obtain ⟨i,hi⟩:=List.mem_iff_getElem?.1 hf
 exact h i f (by have:=(aW.1 hi).1; omega) hi
/-- the first protests are right -/
def ot (j:cN) (k:Nat):Prop:= ∀ (i:Nat) p,i<k→j.aD[i]? =some p→vc j i p
theorem yp:ot j 0:=fun i f h=>absurd h (Nat.not_lt_zero _)
theorem tn (h:ot j k) (hp:j.aD[k]? =some p) (ho:vc j k p):ot j (k+1):=fun i g hi hg=>by
 rcases Nat.lt_or_ge i k with c|c
 ·exact h i g c hg
 ·obtain rfl:i=k:=by omega
  rw [hp] at hg; cases hg; exact ho
/-- the number of the last protest, so far -/
def pC (j:cN) (k:Nat):Int:=match k with
 |0=> -1
 |k+1=>match j.aD[k]? with
  |some p=>p.Id
  |none=> -1
theorem nQ (hp:j.aD[k]? =some p):pC j (k+1)=p.Id:=by unfold pC; simp only [hp]
theorem Mr (h:ot j k) (hk:k≤j.aD.length): -1≤pC j k∧pC j k≤9999:=by
 cases k with
 |zero=>exact ⟨by simp [pC],by simp [pC]⟩
 |succ k=>
  obtain ⟨p,hp⟩: ∃ p,j.aD[k]? =some p:=⟨j.aD[k]'I,eD _⟩
  have:=(h k p I hp).id
  rw [nQ hp]; omega
theorem po {ht:List av} (hh:j.Race.aB[p.jm.toNat]? =some ht) (hd:ht[p.iM.toNat]? =some d):qj j p=some d:=by
 unfold qj; rw [hh]; exact hd
theorem ML (hp:j.aD[k]? =some p) (hi:pC j k+1≤p.Id∧p.Id≤9999) (h0: -1≤pC j k) (hs:0≤p.iM∧p.iM≤(j.Race.aY.length:Int)-1) (hh:0≤p.jm∧p.jm≤(j.Race.aB.length:Int)-1) (hf:0≤p.jU∧p.jU≤(j.ay.length:Int)-1) (hd:qj j p=some d) (hr:kY d) (ha:d.a_.Start≤p.At∧p.At≤86400000):vc j k p:=by
 refine ⟨I,fun q B A=>?_,hs,hh,hf,d,hd,hr,ha⟩
 cases k with
 |zero=>omega
 |succ k=>
  rw [Nat.add_sub_cancel] at A
  rw [nQ A] at hi
  omega
/-- one that is wrong -/
theorem rL (hp:j.aD[k]? =some p) (h: ¬ vc j k p): ¬ pP j:=fun q=>h (q.g8 k p hp)
theorem wD (h:vc j k p) (hk:k≤j.aD.length):pC j k+1≤p.Id:=by
 cases k with
 |zero=>have:=h.id; show-1+1≤p.Id; omega
 |succ k=>
  obtain ⟨q,hq⟩: ∃ q,j.aD[k]? =some q:=⟨j.aD[k]'I,eD _⟩
  have:=h.up q I (by rw [Nat.add_sub_cancel]; exact hq)
  rw [nQ hq]; omega
end
def kH (l:List aM) (f:aM):Int:=match l.findIdx? (fun x=>decide (x=f)) with
 |some i=>(i:Int)
 |none=> -1
section
variable {l:List aM} {f g x:aM} {i:Nat}
theorem Mh (hx:l[i]? =some x) (h:x=f) (hb: ∀ (q:Nat) y,q<i→l[q]? =some y→y≠f):kH l f=(i:Int):=by
 unfold kH
 have:l.findIdx? (fun x=>decide (x=f))=some i:=by
  rw [List.findIdx?_eq_some_iff_getElem]
  obtain ⟨hi,e⟩:=aW.1 hx
  refine ⟨hi,by rw [e]; simp [h],fun q hq=>?_⟩
  have:=hb q (l[q]'I) hq (eD _)
  simpa using this
 rw [this]
theorem NW (hb: ∀ (q:Nat) y,q<i→l[q]? =some y→y≠f) (hi:l.length≤i):kH l f= -1:=by
 unfold kH
 have:l.findIdx? (fun x=>decide (x=f))=none:=by
  rw [List.findIdx?_eq_none_iff]
  intro y hy
  obtain ⟨q,hq⟩:=List.mem_iff_getElem?.1 hy
  have:=hb q y (by have:=(aW.1 hq).1; omega) hq
  simpa using this
 rw [this]
theorem CI (hf:f∈l): ∃ i:Nat,kH l f=(i:Int)∧l[i]? =some f:=by
 unfold kH
 cases h:l.findIdx? (fun x=>decide (x=f)) with
 |none=>
  rw [List.findIdx?_eq_none_iff] at h
  have:=h f hf
  simp at this
 |some i=>
  rw [List.findIdx?_eq_some_iff_getElem] at h
  obtain ⟨hi,e,_⟩:=h
  exact ⟨i,U,by rw [eD hi]; simpa using e⟩
theorem BT (hf:f∈l) (hg:g∈l) (h:kH l f=kH l g):f=g:=by
 obtain ⟨i,C,A⟩:=CI hf
 obtain ⟨k,D,B⟩:=CI hg
 have:i=k:=by omega
 subst this
 exact Option.some.inj (A.symm.trans B)
end
end
section
open Go.RowKit
abbrev We (C:List ax) (i j:Nat):List Nat:=i::j::(List.range C.length).filter fun k=>k != i&&k != j
def VC {σ:Type} (w0:World) (P:Program) (l:Nat) (step:σ→List Value→ax→σ→Prop) (J:σ→ax→Prop) (Z:ax→Prop):Prop:=
 ∀ k x R k' A w,step k x R k'→J k A→w0.heap.size≤w.heap.size→(bQ [A,R]).holds w→YieldAt (Fw none) 0 P l x.toArray w fun e w'=>
  (e= .returned (.bool true)∧ ∃ B,J k' B∧Mv (bQ [A,R]) B w w')∨(e= .returned (.bool false)∧ ∃ B,Z B∧Mv (bQ [A,R]) B w w')
structure P7 {σ:Type} (P:Program) (f:FuncId) (fi ca:List Value) (Cp:List ax) (s0:σ) (step:σ→List Value→ax→σ→Prop) (fin:σ→Prop):Prop where
 go:sv P f=true
 run: ∀ (l:Nat) (J:σ→ax→Prop) (Z:ax→Prop) (A0:ax) (w:World),VC w P l step J Z→J s0 A0→A0.holds w→(∀ A∈Cp,A.holds w)→(∀ A∈Cp,CP A0 A.ro)→
  Calls P f (fi++Value.func (.yield l) #[] #[]::ca).toArray w (B1 J Z fin A0 w)
theorem Nz {σ:Type} {P:Program} {f:FuncId} {fn:Func} {c:Code} {fi ca:List Value} {Cp:List ax} {s0:σ} {step:σ→List Value→ax→σ→Prop} {fin:σ→Prop} (hgo:sv P f=true) (hf:P.funcs[f]? =some fn) (hb:fn.body=some c) (hn:Nat.ble (fi.length+ca.length+1) fn.ntmps=true)
 (h: ∀ (l:Nat) (J:σ→ax→Prop) (Z:ax→Prop) (A0:ax) (w0:World) (Q:dg),VC w0 P l step J Z→J s0 A0→Fo A0 w0 A0→
  (∀ D L C,LJ ⟨P,none,fn.ntmps,⟨A0.wf,fun _=>True⟩,w0⟩ fn (B1 J Z fin A0 w0) D L C→KJ ⟨P,none,fn.ntmps,⟨A0.wf,fun _=>True⟩,w0⟩ (Q .ret) D L C)→
  (∀ D L C,LJ ⟨P,none,fn.ntmps,⟨A0.wf,fun _=>True⟩,w0⟩ fn (B1 J Z fin A0 w0) D L C→KJ ⟨P,none,fn.ntmps,⟨A0.wf,fun _=>True⟩,w0⟩ (Q .normal) D L C)→
  WJ ⟨P,none,fn.ntmps,⟨A0.wf,fun _=>True⟩,w0⟩ c Q [] (Ov (fi++Value.func (.yield l) #[] #[]::ca)) (A0::Cp.map ax.ro)):P7 P f fi ca Cp s0 step fin:=by
 refine ⟨hgo,fun l J Z A0 w hY hJ hA F E=>?_⟩
 refine zG hf hb (by simpa [Nat.add_assoc] using hn) (h l J Z A0 w · hY hJ (fun b hb=> .inl hb)) ?_
 have G:=qT F
 refine ⟨dT.refl _ _,fun A hA'=>?_,List.Pairwise.cons (fun B hB=>?_) G.sep,fun A hA' b hb=>?_,fun _ _ _ _=> .inr trivial⟩
 ·rcases bT.1 hA' with rfl|hA'
  ·exact hA
  ·exact G.holds A hA'
 ·obtain ⟨B',hB',rfl⟩:=cE.1 hB
  exact E B' hB'
 ·rcases bT.1 hA' with rfl|hA'
  ·exact .inr hb
  ·obtain ⟨B',hB',rfl⟩:=cE.1 hA'
   exact hb.elim
section
variable {E:fg} {ops:Array Oper} {Q:dg} {rest:List Oper} {D:List Deferred} {L:List (Nat×Value)} {C:List ax}
variable {d:Nat} {ty:TypeId} {ps:String} {af:Array Edge} {g:Option (Nat×Bool)}
/-- a call of yield -/
theorem II {σ:Type} {fop:Operand} {xs:Array Operand} {ts:Array TypeId} {l:Nat} {k k':σ} {vs:List Value} {step:σ→List Value→ax→σ→Prop} {J:σ→ax→Prop} {Z:ax→Prop} {A0 A R:ax} {C1:List ax} (i j:Nat) (hS:E.S=⟨A0.wf,fun _=>True⟩) (hY:VC E.w0 E.P l step J Z) (hJ:J k A) (hF:Fo A0 E.w0 A) (hg:j0 ops L g=true) (hf:ev L fop=some (.func (.yield l) #[] #[]))
 (hx:evs L xs.toList=some vs) (hk:step k vs R k') (hR:R.wr=true) (hn:decide (We C i j).Nodup=true) (hC:oo C (We C i j)=some (A::R::C1)) (hd:Nat.blt d E.n=true)
 (k1: ∀ B,J k' B→Fo A0 E.w0 B→RJ E ops Q rest D ((d,.bool true)::L) (B::C1))
 (k2: ∀ B,Z B→Fo A0 E.w0 B→RJ E ops Q rest D ((d,.bool false)::L) (B::C1)):
 RJ E ops Q (⟨some d,.call {callee:= .value fop,args:=xs,argTypes:=ts},ty,ps,af,g⟩::rest) D L C:=by
 intro a w F N
 have AA:St E.S E.w0 ([A,R]++C1) w:=St.ko _ hn (nj hC) N
 have hs:=AA.tied
 have hd':d<E.n:=by rw [← Nat.blt_eq]; exact hd
 unfold sR
 rw [if_pos (ep F hg)]
 have O:xs.map a.eval=vs.toArray:=by
  have:=F.evs hx
  apply Array.ext'
  simp [this]
 obtain ⟨fn,tmps,assign,body,hy,hr⟩:=hY k vs R k' A w hk hJ hs.keeps.size (hs.holds _ cy)
 have H:(execOp a.eval ⟨some d,.call {callee:= .value fop,args:=xs,argTypes:=ts},ty,ps,af,g⟩).run E.P w= .ok (.round l fn tmps assign body) w:=by
  simp [execOp,resolve,F.ev hf,Deferred.ofValue,invoke,O,hy]
 refine ⟨fun _ _=>trivial,?_⟩
 rw [Oper.semAt_eq _ _ _ sm,H]
 refine ⟨fun h=>by simp at h,?_⟩
 have G: ∀ (B:ax) (w':World),Mv (bQ [A,R]) B w w'→Fo A0 E.w0 B:=fun B w' m b hb=>by
  rcases m.fr b hb with ⟨X,hX,K⟩|K
  ·rcases bT.1 hX with rfl|hX
   ·exact hF b K
   ·rw [cq] at hX; subst hX
    rcases AA.own X sm b (X.whole hR b K) with M|M
    ·exact .inr M
    ·rw [hS] at M; exact .inl (A0.kB b M)
  ·exact .inr (Nat.le_trans hs.keeps.size K)
 have hr':RoundIn (Fw E.r) 0 E.P l fn tmps assign body w _:=hr
 refine hr'.mono fun e w' he=>?_
 rcases he with ⟨rfl,B,hB,m⟩|⟨rfl,B,hB,m⟩
 ·exact k1 B hB (G B w' m) _ _ (F.put hd' _) (hs.mv 0 U m)
 ·exact k2 B hB (G B w' m) _ _ (F.put hd' _) (hs.mv 0 U m)
end
theorem HS {σ:Type} {E:fg} {Q:dg} {D:g9} {L L0:dw} {C F:List ax} {g:Operand} {ps:Array Tmp} {assign body:Code} {f:FuncId} {fi ca:List Value} {Cp:List ax} {s0:σ} {step:σ→List Value→ax→σ→Prop} {fin_:σ→Prop} {ι κ:Type}
 (inv:σ→ι→Prop) (Ci:σ→ι→List ax) (invx:Code→κ→Prop) (Cx:Code→κ→List ax) (isJ isF:List Nat) (y0:ι)
 (hr:E.r=none) (hg:ev L g=some (.func (.func f) fi.toArray ca.toArray)) (hs:P7 E.P f fi ca Cp s0 step fin_)
 (hnd:decide (isJ++isF).Nodup=true) (hJ:ko C isJ=Ci s0 y0) (hF:ko C isF=F) (h0:inv s0 y0) (hCp: ∀ A∈Cp,∃ B∈F,KB B A)
 (hps: ∀ k x R k',step k x R k'→x.length=ps.size) (hpn:ps.toList.all (fun t=>Nat.blt t E.n)=true) (hL:dh L L0)
 (round: ∀ (k:σ) (x:List Value) (R:ax) (k':σ) (y:ι) (l:Nat) (ra rb:Loop) (S:BS) (w0:World) (K:Act→World→Prop) (Qr:dg),E.w0.heap.size≤w0.heap.size→step k x R k'→inv k y→
  (∀ L' C',WJ ⟨E.P,some l,E.n,S,w0⟩ body Qr [] L' (jh l (.loop rb)::C')→KJ ⟨E.P,some l,E.n,S,w0⟩ K [] L' (jh l (.loop ra)::C'))→
  (∀ y' L' C',inv k' y'→(∀ w,St S w0 C' w→St S w0 (jh l (.loop rb)::Ci k' y') w)→KJ ⟨E.P,some l,E.n,S,w0⟩ (Qr .normal) [] L' C')→
  (∀ id z L' C',invx (.exit id) z→(∀ w,St S w0 C' w→St S w0 (jh l (.loop rb)::Cx (.exit id) z) w)→KJ ⟨E.P,some l,E.n,S,w0⟩ (Qr (.exit id)) [] L' C')→
  (∀ z L' C',invx .ret z→(∀ w,St S w0 C' w→St S w0 (jh l (.loop rb)::Cx .ret z) w)→KJ ⟨E.P,some l,E.n,S,w0⟩ (Qr .ret) [] L' C')→
  WJ ⟨E.P,some l,E.n,S,w0⟩ assign (Exit.then K (fun _ _ _=>False)) [] (yH ps.toList x L0) (jh l (.loop ra)::(Ci k y++[R])))
 (fin: ∀ r s y,fin_ s→inv s y→KJ E (Q .normal) (jR r::D) L0 (jh r (.deferred (some []))::(F++Ci s y)))
 (finx: ∀ r id z,invx (.exit id) z→KJ E (Q (.exit id)) (jR r::D) L0 (jh r (.deferred (some []))::(F++Cx (.exit id) z)))
 (finr: ∀ r z,invx .ret z→KJ E (Q .ret) (jR r::D) L0 (jh r (.deferred (some []))::(F++Cx .ret z))):WJ E (.rangeFunc g ps assign body) Q D L C:=by
 intro a w hf u
 refine wpIn_rangeFunc fun fn _=>?_
 show ∃ l jR w₁ d w₁' f args w₂,(Instr.enterLoop fn a.tmps ps assign body E.r).run E.P w= .ok (l,jR) w₁∧_
 rw [hr]
 obtain ⟨rec,G⟩: ∃ rec:LoopState→Option Code→Loop,rec=fun st pe=>{state:=st,pending:=pe,fn,tmps:=a.tmps,params:=ps,assign,body,defers:=w.heap.size}:=⟨_,rfl⟩
 obtain ⟨W1,T⟩: ∃ W1,(w.alloc (.deferred (some []))).alloc (.loop (rec .ready none))=W1:=⟨_,rfl⟩
 have A1:a.eval g= .func (.func f) fi.toArray ca.toArray:=hf.ev hg
 have q:(Instr.enterLoop fn a.tmps ps assign body none).run E.P w= .ok (w.heap.size+1,[jR w.heap.size]) W1:=by
  rw [← T,G]; exact run_enterLoop_outer _ _ _ _ _
 -- the state with the record and the block
 have AC:St E.S E.w0 ((jh (w.heap.size+1) (.loop (rec .ready none))::Ci s0 y0)++(jh w.heap.size (.deferred (some []))::F)) W1:=by
  have Y:St E.S E.w0 (Ci s0 y0++F) w:=St.ko (isJ++isF) hnd (by have Y:=hJ; have o:=hF; unfold Go.Proofs.YtijpnoadncadoaaGreatDoor.ko at Y o ⊢; rw [List.filterMap_append,Y,o]) u
  have hn:LC w W1 [jh (w.heap.size+1) (.loop (rec .ready none)),jh w.heap.size (.deferred (some []))]:=by
   refine ⟨fun A hA=>?_,fun A hA b hb=>?_,?_⟩
   ·rcases bT.1 hA with rfl|hA
    ·show W1.heap[w.heap.size+1]? =_
     rw [← T]; have:=World.alloc_heap_new (w.alloc (.deferred (some []))) (.loop (rec .ready none)); rwa [World.size_alloc] at this
    ·simp only [cq] at hA; subst hA
     show W1.heap[w.heap.size]? =_
     rw [← T]; exact (Below.heap_alloc _ _ _ sm).trans (World.alloc_heap_new w _)
   ·rcases bT.1 hA with rfl|hA
    ·have:b=w.heap.size+1:=hb
     omega
    ·simp only [cq] at hA; subst hA
     have:b=w.heap.size:=hb
     omega
   ·refine List.Pairwise.cons (fun B hB b Y o=>?_) (List.pairwise_singleton _ _)
    simp only [cq] at hB; subst hB
    have X:b=w.heap.size+1:=Y
    have O:b=w.heap.size:=o
    omega
  have hk:dT no w W1:=by rw [← T]; exact (dT.alloc no w _).trans (dT.alloc no _ _)
  have o:=Y.grow hk hn
  refine o.perm ?_
  simp only [List.cons_append,List.nil_append]
  exact List.Perm.cons _ (List.perm_middle.symm)
 have i:=AC.tied
 obtain ⟨H,A6⟩:=List.pairwise_cons.1 i.sep
 have AO:=i.holds _ (cy ..)
 let J:σ→ax→Prop:=fun k A=> ∃ y,inv k y∧A=bQ (jh (w.heap.size+1) (.loop (rec .ready none))::Ci k y)
 let Z:ax→Prop:=fun A=> ∃ c z,(c= .ret∨ ∃ id,c= .exit id)∧invx c z∧A=bQ (jh (w.heap.size+1) (.loop (rec .done (some c)))::Cx c z)
 refine ⟨w.heap.size+1,[jR w.heap.size],W1,{target:= .fn (.func f) ca.toArray,args:=fi.toArray++ #[.func (.yield (w.heap.size+1)) #[] #[]]},W1,f,
  (fi++Value.func (.yield (w.heap.size+1)) #[] #[]::ca).toArray,W1,q,?_,fun _ _=>trivial,?_,fun h=>by simp at h,?_⟩
 ·simp only [resolve,A1]
  simp [Deferred.ofValue,Act.eval]
 ·have:fi.toArray++ #[Value.func (.yield (w.heap.size+1)) #[] #[]]++ca.toArray=(fi++Value.func (.yield (w.heap.size+1)) #[] #[]::ca).toArray:=by simp
  simp [invoke,nu hs.go]
 ·refine (o2 E.r (hs.run (w.heap.size+1) J Z _ W1 ?_ ⟨y0,h0,U⟩ AO ?_ ?_)).mono ?_
  ·-- a round
   rintro k x R k' A W hx ⟨y,hy,rfl⟩ A0 hA
   have hl:W.heap[w.heap.size+1]? =some (.loop (rec .ready none)):=(hA.1 _ (cy ..)).1 _ (cy ..)
   have AD:=run_yield (P:=E.P) (args:=x.toArray) hl (by rw [G]; simpa using hps k x R k' hx)
   rw [G] at AD
   refine ⟨fn,_,assign,body,AD,roundIn_of_wpIn trivial ?_⟩
   let A:ax:=bQ [bQ (jh (w.heap.size+1) (.loop (rec .ready none))::Ci k y),R]
   have A2:Fr E.n [] (yH ps.toList x L0) {tmps:=(ps.zip x.toArray).foldl (fun tmps (t,a)=>tmps.setIfInBounds t a) a.tmps,defers:=[]}:=by
    have Y:=Ex ps.toList x L0 a.tmps (fun t ht=>by have:=cV.1 hpn t ht; rwa [Nat.blt_eq] at this) ⟨rfl,hf.size,fun t v hv=>hf.at_ t v (hL t v hv)⟩
    rw [← Array.foldl_toList]
    simpa using Y
   have p: ∀ (c:Option Code) (b:Bool),({rec .busy none with state:=if b then .ready else .done,pending:=c}:Loop)=rec (if b then .ready else .done) c:=fun c b=>by rw [G]
   have AA: ∀ (c:Option Code) (N:World) (C':List ax) (S:BS),St S W (jh (w.heap.size+1) (.loop (rec .busy none))::C') N→
    ∃ M,(Instr.endRound (w.heap.size+1) c).run E.P N= .ok (.bool c.isNone) M∧St S W (jh (w.heap.size+1) (.loop (rec (if c.isNone then .ready else .done) c))::C') M:=fun c N C' S H=>by
    have AB:N.heap[w.heap.size+1]? =some (.loop (rec .busy none)):=H.holds _ (cy ..)
    refine ⟨_,run_endRound c AB,?_⟩
    have:=H.yU (b:=w.heap.size+1) (A':=jh (w.heap.size+1) (.loop (rec (if c.isNone then .ready else .done) c))) 0 rfl rfl rfl (g7 _) (fun _ h=>h) (World.putObj_heap_same (dQ AB))
    rw [p]
    exact this
   refine round k x R k' y (w.heap.size+1) (rec .ready none) (rec .busy none) ⟨A.wf,A.fr⟩ W _ (roundPost E.P (w.heap.size+1) (fun e w'=>(e= .returned (.bool true)∧ ∃ B,J k' B∧Mv A B W w')∨(e= .returned (.bool false)∧ ∃ B,Z B∧Mv A B W w'))) (Nat.le_trans (Nat.le_trans u.keeps.size (by rw [← T]; simp; omega)) A0) hx hy ?_ ?_ ?_ ?_ _ _ A2 (by have:=(St.Ay hA).iU; simpa using this)
   ·intro L' C' hW a1 N j H
    have AB:N.heap[w.heap.size+1]? =some (.loop (rec .ready none)):=H.holds _ (cy ..)
    refine ⟨_,run_beginRound AB (by rw [G]),hW _ _ j ?_⟩
    have:=H.yU (b:=w.heap.size+1) (A':=jh (w.heap.size+1) (.loop (rec .busy none))) 0 rfl rfl rfl (g7 _) (fun _ h=>h) (World.putObj_heap_same (dQ AB))
    have e:({rec .ready none with state:= .busy}:Loop)=rec .busy none:=by rw [G]
    rw [e]; exact this
   ·intro y' L' C' hy' hC' a1 N j H
    obtain ⟨M,X,O⟩:=AA none N _ _ (hC' _ H)
    exact ⟨_,M,X,.inl ⟨U,_,⟨y',hy',U⟩,Mv.of O⟩⟩
   ·intro id z L' C' hz hC' a1 N j H
    obtain ⟨M,X,O⟩:=AA (some (.exit id)) N _ _ (hC' _ H)
    exact ⟨_,M,X,.inr ⟨U,_,⟨_,z,.inr ⟨id,U⟩,hz,U⟩,Mv.of O⟩⟩
   ·intro z L' C' hz hC' a1 N j H
    obtain ⟨M,X,O⟩:=AA (some .ret) N _ _ (hC' _ H)
    exact ⟨_,M,X,.inr ⟨U,_,⟨_,z,.inl U,hz,U⟩,Mv.of O⟩⟩
  ·intro A hA
   obtain ⟨B,hB,hc⟩:=hCp A hA
   exact hc.holds _ (i.holds B (dI _ (dI _ hB)))
  ·intro A hA b hb hb'
   obtain ⟨B,hB,hc⟩:=hCp A hA
   exact ⟨(H B (dI _ hB) b hb (hc.fr b hb')).1,fun h=>h⟩
  ·rintro e w' ⟨v,rfl,hh⟩
   have V:Fr E.n (jR w.heap.size::D) L0 {a with defers:=[jR w.heap.size]++a.defers}:=⟨by simp [hf.defers],hf.size,fun t v hv=>hf.at_ t v (hL t v hv)⟩
   have hleave: ∀ (st:LoopState) (c:Option Code) (C':List ax),st≠ .busy→Mv (bQ (jh (w.heap.size+1) (.loop (rec .ready none))::Ci s0 y0)) (bQ (jh (w.heap.size+1) (.loop (rec st c))::C')) W1 w'→
    ∃ M,(Instr.endLoop (w.heap.size+1)).run E.P w'= .ok c M∧St E.S E.w0 (jh w.heap.size (.deferred (some []))::(F++C')) M:=fun st c C' A4 m=>by
    have Y:=(i.mv 0 rfl m).iU
    have h1':St E.S E.w0 ((jh (w.heap.size+1) (.loop (rec st c))::C')++(jh w.heap.size (.deferred (some []))::F)) w':=Y
    have AB:w'.heap[w.heap.size+1]? =some (.loop (rec st c)):=h1'.holds (jh (w.heap.size+1) (.loop (rec st c))) sm
    refine ⟨_,by have:=run_endLoop (P:=E.P) AB (by rw [G]; exact A4); rw [this,G],?_⟩
    have o:=h1'.yU (b:=w.heap.size+1) (A':=jh (w.heap.size+1) (.loop {rec st c with state:= .exhausted})) 0 rfl rfl rfl (g7 _) (fun _ h=>h) (World.putObj_heap_same (dQ AB))
    have h3:St E.S E.w0 (C'++(jh w.heap.size (.deferred (some []))::F)) _:=o.take (List.sublist_cons_self _ _)
    rw [G] at h3
    refine h3.perm ?_
    exact (List.perm_append_comm).trans sm
   rcases hh with ⟨s,B,A3,⟨y,hy,rfl⟩,m⟩|⟨B,⟨c,z,hc,hz,rfl⟩,m⟩
   ·obtain ⟨M,X,O⟩:=hleave .ready none _ sm m
    exact ⟨none,M,X,fin w.heap.size s y A3 hy _ _ V O⟩
   ·obtain ⟨M,X,O⟩:=hleave .done (some c) _ sm m
    refine ⟨some c,M,X,?_⟩
    rcases hc with rfl|⟨id,rfl⟩
    ·exact wpIn_ret (finr w.heap.size z hz _ _ V O)
    ·exact wpIn_exit (finx w.heap.size id z hz _ _ V O)
end
section
abbrev PA:=List (Int×Bool)
section
variable {m:PA} {P Q:Int→Prop} {k:Int}
end
/-- two rows that go up and have the same numbers, each once -/
theorem GH {a b:List Int} (ha:a.Pairwise (· ≤ ·)) (hb:b.Pairwise (· ≤ ·)) (na:a.Nodup) (nb:b.Nodup) (h: ∀ x,x∈a↔x∈b):a=b:=
 sI ((List.perm_ext_iff_of_nodup na nb).2 h) ha hb
section
variable {m left:sV} {i n x:Int} {y:ag}
end
section
variable {m:sV} {i:Int} {own:ag} {ys:List Int} {nev ranks:PA} {n a b:Int}
end
section
variable {nw left rk:PA} {N R:Int→Prop} {u:Int} {v:Bool}
end
section
variable {m left:sV} {i x n:Int} {own y:ag} {ys:List Int}
end
section
variable {r:eZ} {h i:Int} {ht:List av} {d:av}
end
end
section
def QB (f:Int→ag) (g:List Int):Prop:= ∀ t,(∃ a∈g,(f a).Lo<t)→(∃ b∈g,t≤(f b).Lo)→ ∃ c∈g,(f c).Lo<t∧t≤(f c).Hi
def PL (f:Int→ag) (g h:List Int):Prop:= ∀ a∈g,∀ b∈h,(f a).Hi<(f b).Lo
structure Q9 (f:Int→ag) (keys:List Int) (G:List (List Int)):Prop where
 perm:G.flatten.Perm keys
 some_: ∀ g∈G,g≠[]
 apart:G.Pairwise (PL f)
 tight: ∀ g∈G,QB f g
section
variable {f:Int→ag} {keys:List Int} {G G':List (List Int)} {g h:List Int} {x:Int}
end
section
variable {f:Int→ag} {p:List Int} {G:List (List Int)} {g:List Int} {x last:Int}
end
end
section
open Go.RowKit
/-- a map, or nil -/
def oC (o:Option Nat):List Value:=[Value.map o]
theorem z7 {α:Type}: ∀ {ms:List α} {asl:List Nat},ms.length=asl.length→List.zipWith gD ms asl=(asl.map some).map oC
 |[],[],_=>rfl
 |[],_::_,h=>by simp at h
 |_::_,[],h=>by simp at h
 |x::ms,y::asl,h=>by simp only [List.zipWith_cons_cons,List.map_cons,z7 (ms:=ms) (asl:=asl) (by simpa using h)]; rfl
/-- what stands for all but one -/
def je {M A:Type} (f:M→A→List ax) (ms:List M) (asl:List A) (k:Nat):List ax:=bj f (ms.take k) (asl.take k)++bj f (ms.drop (k+1)) (asl.drop (k+1))
theorem se {M A:Type} {f:M→A→List ax}: ∀ {ms:List M} {asl:List A} {k:Nat} {m:M} {a:A},ms[k]? =some m→asl[k]? =some a→(bj f ms asl).Perm (f m a++je f ms asl k)
 |[],_,k,m,a,h,_=>by simp at h
 |_::_,[],k,m,a,_,h=>by simp at h
 |x::ms,y::asl,0,m,a,h,h2=>by
  simp at h h2; subst h h2
  simp [je,bj]
 |x::ms,y::asl,k+1,m,a,h,h2=>by
  have ih:=se (f:=f) (ms:=ms) (asl:=asl) (k:=k) (by simpa using h) (by simpa using h2)
  show (f x y++bj f ms asl).Perm (f m a++je f (x::ms) (y::asl) (k+1))
  have e:je f (x::ms) (y::asl) (k+1)=f x y++je f ms asl k:=by simp [je,bj,List.append_assoc]
  rw [e]
  refine (ih.append_left (f x y)).trans ?_
  rw [← List.append_assoc,← List.append_assoc]
  exact List.perm_append_comm.append_right _
theorem GX {M A:Type} {f:M→A→List ax} {ms:List M} {asl:List A} {k:Nat} {m':M}:je f (ms.set k m') asl k=je f ms asl k:=by
 unfold je
 rw [List.take_set_of_le (Nat.le_refl k),List.drop_set_of_lt (Nat.lt_succ_self k)]
theorem ve {S:BS} {w0 w:World} {C X Y:List ax} (hp:X.Perm Y) (h:St S w0 (bQ X::C) w):St S w0 (bQ Y::C) w:=by
 have A:St S w0 (X++C) w:=h.iU
 exact (A.perm (hp.append_right C)).tied
theorem St.out {M A:Type} {f:M→A→List ax} {S:BS} {w0 w:World} {C:List ax} {ms:List M} {asl:List A} {k:Nat} {m:M} {a:A} {X:ax} (hm:ms[k]? =some m) (ha:asl[k]? =some a) (hf:f m a=[X]) (h:St S w0 (bQ (bj f ms asl)::C) w):St S w0 (X::bQ (je f ms asl k)::C) w:=by
 have B:=(ve (se hm ha) h).iU
 rw [hf] at B
 have D:St S w0 (je f ms asl k++(X::C)) w:=B.perm (List.perm_middle (a:=X) (l₁:=je f ms asl k) (l₂:=C)).symm
 exact D.tied.perm (List.Perm.swap _ _ _)
theorem St.back {M A:Type} {f:M→A→List ax} {S:BS} {w0 w:World} {C:List ax} {ms:List M} {asl:List A} {k:Nat} {m':M} {a:A} {X:ax} (hk:k<ms.length) (ha:asl[k]? =some a) (hf:f m' a=[X]) (h:St S w0 (X::bQ (je f ms asl k)::C) w):St S w0 (bQ (bj f (ms.set k m') asl)::C) w:=by
 have B:St S w0 (bQ (je f ms asl k)::X::C) w:=h.perm (List.Perm.swap _ _ _)
 have D:=B.iU
 have E:St S w0 ((f m' a++je f (ms.set k m') asl k)++C) w:=by
  rw [hf,GX]
  exact D.perm (List.perm_middle (a:=X) (l₁:=je f ms asl k) (l₂:=C))
 exact ve (se (List.getElem?_set_self hk) ha).symm E.tied
section
variable {E:fg} {ops:Array Oper} {Q:dg} {rest:List Oper} {D:List Deferred} {L:List (Nat×Value)} {C C1:List ax}
variable {M A:Type} {f:M→A→List ax} {ms:List M} {asl:List A} {k:Nat} {m:M} {a:A} {X:ax}
theorem zf {c:Code} (i:Nat) (hm:ms[k]? =some m) (ha:asl[k]? =some a) (hf:f m a=[X]) (hn:decide (i::(List.range C.length).filter fun k=>k != i).Nodup=true) (hC:ko C (i::(List.range C.length).filter fun k=>k != i)=bQ (bj f ms asl)::C1)
 (h:WJ E c Q D L (X::bQ (je f ms asl k)::C1)):WJ E c Q D L C:=fun a w hf' hs=>h a w hf' (St.out hm ha hf (St.ko _ hn hC hs))
theorem zN {K:Act→World→Prop} (i j:Nat) (hk:k<ms.length) (ha:asl[k]? =some a) (hf:f m a=[X]) (hn:decide (j::i::(List.range C.length).filter fun k=>k != i&&k != j).Nodup=true) (hC:ko C (j::i::(List.range C.length).filter fun k=>k != i&&k != j)=X::bQ (je f ms asl k)::C1)
 (h:KJ E K D L (bQ (bj f (ms.set k m) asl)::C1)):KJ E K D L C:=fun a w hf' hs=>h a w hf' (St.back hk ha hf (St.ko _ hn hC hs))
end
end
section
open Go.RowKit
def uM (l:List Int) (a:RA):List Value:=[vS a.1 l.length a.2]
def OF (l:List Int) (a:RA):List ax:=[rd a.1 l.length 1 (l.map iC)]
def Dv (l:List Int) (a:RA):List ax:=[own a.1 a.2 Ol 1 (l.map iC)]
theorem FK: ∀ (m:List Int) (a:RA) (w:World),(∀ X∈Dv m a,X.holds w)→ ∀ X∈OF m a,X.holds w:=fun m a w h X hX=>by
 simp only [OF,cq] at hX
 subst hX
 have:=n9 (h _ (cq.2 rfl))
 simpa using this
theorem qA {l:List (List Int)} {bz:List RA}:(bQ (bj Dv l bz)).wr=true:=by
 show (bj Dv l bz).all (·.wr)=true
 rw [cV]
 intro X hX
 obtain ⟨k,m,a,_,_,h⟩:=j5 hX
 simp only [Dv,cq] at h
 subst h; rfl
theorem nq {ls:List (List Int)} {az:List RA} (h:az.length=ls.length):(List.zipWith uM ls az).length=ls.length:=by simp [h]
theorem NX (l:List (List Int)) (az:List RA): ∀ v∈(List.zipWith uM l az).flatten,v.oneCell'=true:=by
 induction l generalizing az with
 |nil=>intro v hv; simp at hv
 |cons x l ih=>
  cases az with
  |nil=>intro v hv; simp at hv
  |cons a az=>
   intro v hv
   rw [List.zipWith_cons_cons,List.flatten_cons,gJ] at hv
   rcases hv with hv|hv
   ·simp [uM] at hv; subst hv; rfl
   ·exact ih az v hv
section
variable {M A:Type} {f:M→A→List ax} {ms:List M} {asl:List A} {k:Nat} {m:M} {a:A} {X:ax}
theorem Kk {β:Type} {c:M→A→β}:(List.zipWith c ms asl).set k (c m a)=List.zipWith c (ms.set k m) (asl.set k a):=by
 apply List.ext_getElem?
 intro j
 rw [List.getElem?_set]
 by_cases e:k=j
 ·subst e
  rw [if_pos rfl,List.length_zipWith,List.getElem?_zipWith,List.getElem?_set,List.getElem?_set,if_pos rfl,if_pos rfl]
  by_cases B:k<ms.length
  ·by_cases C:k<asl.length
   ·rw [if_pos I,if_pos B,if_pos C]
   ·rw [if_neg I,if_pos B,if_neg C]
  ·rw [if_neg I,if_neg B]
 ·rw [if_neg e,List.getElem?_zipWith,List.getElem?_zipWith,List.getElem?_set_ne e,List.getElem?_set_ne e]
variable {E:fg} {ops:Array Oper} {Q:dg} {rest:List Oper} {D:List Deferred} {L:List (Nat×Value)} {C C1:List ax}
abbrev NU (C:List ax) (i j:Nat):List Nat:=j::i::(List.range C.length).filter fun k=>k != i&&k != j
theorem QD {Y Y':List ax} (i j:Nat) (hn:decide (NU C i j).Nodup=true) (hC:oo C (NU C i j)=some (X::bQ Y::C1)) (e:Y++[X]=Y') (h:RJ E ops Q rest D L (bQ Y'::C1)):RJ E ops Q rest D L C:=fun a w hf hs=>h a w hf ((St.ko _ hn (nj hC) hs).tie e)
theorem P5 {K:Act→World→Prop} {Y Y':List ax} (i j:Nat) (hn:decide (NU C i j).Nodup=true) (hC:oo C (NU C i j)=some (X::bQ Y::C1)) (e:Y++[X]=Y') (h:KJ E K D L (bQ Y'::C1)):KJ E K D L C:=fun a w hf hs=>h a w hf ((St.ko _ hn (nj hC) hs).tie e)
end
theorem D_ {M A:Type} {f:M→A→List ax} {ms:List M} {asl:List A} {m:M} {a:A} {X:ax} (h:ms.length=asl.length) (hf:f m a=[X]):bj f ms asl++[X]=bj f (ms++[m]) (asl++[a]):=by
 rw [jx h]; simp [bj,hf]
theorem GY {M A β:Type} {f:M→A→β} {ms:List M} {asl:List A} {m:M} {a:A} (h:ms.length=asl.length):List.zipWith f ms asl++List.zipWith f [m] [a]=List.zipWith f (ms++[m]) (asl++[a]):=(List.zipWith_append h).symm
section
variable {f:Int→ag} {L:List Int} {G:List (List Int)} {g:List Int} {x last:Int} {i j:Nat}
end
end
section
open Go.RowKit
/-- the faults that a map of places says -/
def kD (fs:List aM) (m:List (Int×Bool)) (f:aM):Prop:=(List.lookup (kH fs f) m).getD false=true
/-- what comes next: the row of a heat, in memory of its own -/
def Kw (G:List (List Int)) (k:Nat) (x:List Value) (R:ax) (k':Nat):Prop:= ∃ (a:OA) (c:Nat) (row:List Int),G[k]? =some row∧x=[vS a row.length c]∧R=own a c Ol 1 (row.map iC)∧k'=k+1
section
variable {l:bk} {fs:List aM} {m:List (Int×Bool)} {d:av} {h:List av} {j:cN} {F G:aM→Prop} {k n q:Nat} {f f0:aM}
noncomputable def ly (l:bk) (fs:List aM) (m:List (Int×Bool)) (h:List av) (s:Nat):Bool:=(h[s]?).any fun d=> @decide (K3 l (kD fs m) fs d) (Classical.propDecidable _)
theorem L4:(fs.any fun f=>((List.lookup (kH fs f) m).getD false)&& !decide (eC l f d=0))= @decide (K3 l (kD fs m) fs d) (Classical.propDecidable _):=by
 rw [Bool.eq_iff_iff,List.any_eq_true,@decide_eq_true_iff _ (Classical.propDecidable _)]
 constructor
 ·rintro ⟨f,hf,hb⟩
  rw [db,Bool.not_eq_true',decide_eq_false_iff_not] at hb
  exact ⟨f,hf,hb.1,hb.2⟩
 ·rintro ⟨f,hf,A,B⟩
  exact ⟨f,hf,by rw [db,Bool.not_eq_true',decide_eq_false_iff_not]; exact ⟨A,B⟩⟩
theorem E3 (hd:h[q]? =some d):ly l fs m h q=(fs.any fun f=>((List.lookup (kH fs f) m).getD false)&& !decide (eC l f d=0)):=by
 unfold ly; rw [hd,L4]; rfl
theorem Ks {ht:List av} (hh:j.Race.aB[k]? =some ht):(gV j (kD j.ay m))[k]? =some (jn (ly j.Race.ar j.ay m ht) ht.length):=E0 hh
/-- only who is told, of faults of the row -/
theorem v9 (h: ∀ f∈j.ay,(F f↔G f)):gV j F=gV j G:=by
 unfold gV
 apply List.map_congr_left
 intro x _
 exact Hz h
theorem OV (hf:f0∈j.ay): ∀ f∈j.ay,(kD j.ay [(kH j.ay f0,true)] f↔f=f0):=fun f hm=>by
 unfold kD
 constructor
 ·intro q
  by_cases e:kH j.ay f=kH j.ay f0
  ·exact BT hm hf e
  ·have:(kH j.ay f==kH j.ay f0)=false:=by simpa using e
   simp [List.lookup,this] at q
 ·rintro rfl; simp [List.lookup]
end
def wb (fs:List aM) (gs:List aM):List (Int×Bool):=gs.foldl (fun m f=>ed m (kH fs f) true) []
section
variable {fs gs:List aM} {f g:aM} {m:List (Int×Bool)}
theorem HD {x y:Int}:(List.lookup y (ed m x true)).getD false=true↔y=x∨(List.lookup y m).getD false=true:=by
 rw [lS]
 by_cases e:y=x
 ·rw [if_pos e]; simp [e]
 ·rw [if_neg e]; simp [e]
theorem E_: ∀ {gs:List aM} {m:List (Int×Bool)} {y:Int},(List.lookup y (gs.foldl (fun m f=>ed m (kH fs f) true) m)).getD false=true↔(∃ g∈gs,y=kH fs g)∨(List.lookup y m).getD false=true
 |[],m,y=>by simp
 |g::gs,m,y=>by
  rw [List.foldl_cons,E_ (gs:=gs),HD]
  constructor
  ·rintro (⟨u,A,B⟩|h|h)
   ·exact .inl ⟨u,dI _ A,B⟩
   ·exact .inl ⟨g,cy,h⟩
   ·exact .inr h
  ·rintro (⟨u,A,B⟩|h)
   ·rcases bT.1 A with rfl|A
    ·exact .inr (.inl B)
    ·exact .inl ⟨u,A,B⟩
   ·exact .inr (.inr h)
theorem QY (hg: ∀ g∈gs,g∈fs) (hf:f∈fs):kD fs (wb fs gs) f↔f∈gs:=by
 unfold kD wb
 rw [E_]
 constructor
 ·rintro (⟨g,A,B⟩|h)
  ·rw [BT hf (hg g A) B]; exact A
  ·simp at h
 ·intro h; exact .inl ⟨f,h,rfl⟩
theorem GG:wb fs (gs++[g])=ed (wb fs gs) (kH fs g) true:=by unfold wb; rw [List.foldl_append]; rfl
end
noncomputable def G8 (j:cN) (t:Nat):List aM:=((iL j).take t).filterMap fun i=>(j.aD[i.toNat]?).bind fun p=>j.ay[p.jU.toNat]?
section
variable {j:cN} {t:Nat} {i:Int} {p:aX} {f g:aM}
theorem ID (hi:(iL j)[t]? =some i) (hp:j.aD[i.toNat]? =some p) (hf:j.ay[p.jU.toNat]? =some f):G8 j (t+1)=G8 j t++[f]:=by
 unfold G8
 rw [List.take_add_one,hi,List.filterMap_append]
 simp [hp,hf]
theorem Ny: ∀ g∈G8 j t,g∈j.ay:=fun g h=>by
 obtain ⟨i,_,A⟩:=List.mem_filterMap.1 h
 cases e:j.aD[i.toNat]? with
 |none=>rw [e] at A; cases A
 |some p=>rw [e] at A; exact aR A
theorem Ma (ht:(iL j).length≤t):f∈G8 j t↔oM j f:=by
 unfold G8
 rw [List.take_of_length_le ht,List.mem_filterMap]
 constructor
 ·rintro ⟨x,hx,h⟩
  obtain ⟨i,_,rfl,p,hp,hg⟩:=sZ.1 hx
  rw [Int.toNat_natCast,hp] at h
  exact ⟨i,p,hp,hg,h⟩
 ·rintro ⟨i,p,hp,hg,hf⟩
  exact ⟨(i:Int),sZ.2 ⟨i,(aW.1 hp).1,U,p,hp,hg⟩,by rw [Int.toNat_natCast,hp]; exact hf⟩
theorem DW (ht:(iL j).length≤t):gV j (kD j.ay (wb j.ay (G8 j t)))=kI j:=
 v9 fun f hf=>(QY Ny hf).trans (Ma ht)
theorem Hc (hi:(iL j)[t]? =some i): ∃ k:Nat,i=(k:Int)∧k<j.aD.length:=by
 obtain ⟨k,A,B,_⟩:=sZ.1 (aR hi)
 exact ⟨k,B,A⟩
theorem xV:(iL j).length≤j.aD.length:=pX
end
end
section
open Go.RowKit
theorem w5 {α:Type} {l:List α} {k:Nat} {x:α} (h:l[k]? =some x):l.take (k+1)=l.take k++[x]:=by rw [List.take_add_one,h]; rfl
theorem DX {a b:Int} (h1: -60000≤a∧a≤60000) (h2:0≤b∧b≤100000): -9223372036854775808≤a*b∧a*b≤9223372036854775807:=by
 have A:=Int.mul_le_mul_of_nonneg_right h1.1 h2.1
 have B:=Int.mul_le_mul_of_nonneg_right h1.2 h2.1
 omega
def lJ (j:cN) (k h s:Int):Prop:=(0≤k∧k≤(j.ay.length:Int)-1)∧(0≤h∧h≤(j.Race.aB.length:Int)-1)∧0≤s∧s≤(j.Race.aY.length:Int)-1
instance (j:cN) (k h s:Int):Decidable (lJ j k h s):=by unfold lJ; infer_instance
noncomputable def mX (j:cN) (k h s:Int):Int:=if dE j=0 then (if lJ j k h s then 0 else 2) else dE j
noncomputable def ld (j:cN) (k h s:Int):Int:=if dE j=0∧lJ j k h s then (match j.ay[k.toNat]?,(j.Race.aB[h.toNat]?).bind (·[s.toNat]?) with
 |some f,some d=>eC j.Race.ar f d
 |_,_=>0) else 0
noncomputable def tI (j:cN) (i:Int):Int:=if dE j=0 then (if 0≤i∧i≤(j.aD.length:Int)-1 then 0 else 2) else dE j
noncomputable def vQ (j:cN) (i:Int):Int:=if dE j=0∧(0≤i∧i≤(j.aD.length:Int)-1) then (match j.aD[i.toNat]? with
 |some p=>mR j p
 |none=>0) else 0
noncomputable def kp (j:cN):List Int:=if dE j=0 then iL j else []
noncomputable def iY (j:cN):List (List Int):=if dE j=0 then kI j else []
noncomputable def z9 (j:cN):Int:=if dE j=0 then zc j else 0
noncomputable def zY (j:cN):Int:=if dE j=0 then EK j else 0
noncomputable def zQ (j:cN) (s:Int) (p:aX):Bool:=decide (p.iM=s)&& !iv j p
noncomputable def qM (j:cN) (s:Int):Int:=if dE j=0 then (if 0≤s∧s≤(j.Race.aY.length:Int)-1 then 0 else 2) else dE j
noncomputable def te (j:cN) (s:Int):Int:=if dE j=0∧(0≤s∧s≤(j.Race.aY.length:Int)-1) then Dm j s else 0
noncomputable def BK (j:cN) (k:Int):Int:=if dE j=0 then (if 0≤k∧k≤(j.ay.length:Int)-1 then 0 else 2) else dE j
noncomputable def kN (j:cN) (k:Int):List (List Int):=if dE j=0∧(0≤k∧k≤(j.ay.length:Int)-1) then (match j.ay[k.toNat]? with
 |some f0=>gV j fun f=>f=f0
 |none=>[]) else []
section
variable {j:cN} {k h s i:Int} {f:aM} {ht:List av} {d:av} {p:aX}
theorem Hk (e: ¬ dE j=0):ld j k h s=0∧mX j k h s=dE j:=⟨if_neg fun q=>e q.1,if_neg e⟩
theorem u6 (e:dE j=0) (n: ¬ lJ j k h s):ld j k h s=0∧mX j k h s=2:=⟨if_neg fun q=>n q.2,by unfold mX; rw [if_pos e,if_neg n]⟩
theorem qY (e:dE j=0) (n:lJ j k h s) (hf:j.ay[k.toNat]? =some f) (hh:j.Race.aB[h.toNat]? =some ht) (hd:ht[s.toNat]? =some d):ld j k h s=eC j.Race.ar f d∧mX j k h s=0:=
 ⟨by unfold ld; rw [if_pos ⟨e,n⟩,hf,hh,Option.bind_some,hd],by unfold mX; rw [if_pos e,if_pos n]⟩
theorem Le (e: ¬ dE j=0):vQ j i=0∧tI j i=dE j:=⟨if_neg fun q=>e q.1,if_neg e⟩
theorem IU (e:dE j=0) (n: ¬ (0≤i∧i≤(j.aD.length:Int)-1)):vQ j i=0∧tI j i=2:=⟨if_neg fun q=>n q.2,by unfold tI; rw [if_pos e,if_neg n]⟩
theorem Af (e:dE j=0) (n:0≤i∧i≤(j.aD.length:Int)-1) (hp:j.aD[i.toNat]? =some p):vQ j i=mR j p∧tI j i=0:=
 ⟨by unfold vQ; rw [if_pos ⟨e,n⟩,hp],by unfold tI; rw [if_pos e,if_pos n]⟩
theorem yn (e: ¬ dE j=0):kp j=[]:=if_neg e
theorem p7 (e:dE j=0):kp j=iL j:=if_pos e
theorem vO (e: ¬ dE j=0):iY j=[]:=if_neg e
theorem vY (e:dE j=0):iY j=kI j:=if_pos e
theorem Hy (e: ¬ dE j=0):z9 j=0∧zY j=0:=⟨if_neg e,if_neg e⟩
theorem xL (e:dE j=0):z9 j=zc j∧zY j=EK j:=⟨if_pos e,if_pos e⟩
theorem LS (e: ¬ p.iM=s):zQ j s p=false:=by unfold zQ; rw [bE e]; rfl
theorem Iz (e:p.iM=s):zQ j s p= !iv j p:=by unfold zQ; rw [dx e]; rfl
theorem I1 {P:Nat→Bool} {n:Nat}:(jn P n).length=(List.range n).countP P:=by unfold jn; rw [List.length_map,List.countP_eq_length_filter]
theorem GU (e: ¬ dE j=0):te j s=0∧qM j s=dE j:=⟨if_neg fun q=>e q.1,if_neg e⟩
theorem F7 (e:dE j=0) (n: ¬ (0≤s∧s≤(j.Race.aY.length:Int)-1)):te j s=0∧qM j s=2:=⟨if_neg fun q=>n q.2,by unfold qM; rw [if_pos e,if_neg n]⟩
theorem IP (e:dE j=0) (n:0≤s∧s≤(j.Race.aY.length:Int)-1):te j s= -((jn (h_ j.aD fun _ p=>zQ j s p) j.aD.length).length:Int)*j.yA∧qM j s=0:=
 ⟨by unfold te; rw [if_pos ⟨e,n⟩,I1]; rfl,by unfold qM; rw [if_pos e,if_pos n]⟩
theorem F1 (e: ¬ dE j=0):kN j k=[]∧BK j k=dE j:=⟨if_neg fun q=>e q.1,if_neg e⟩
theorem E5 (e:dE j=0) (n: ¬ (0≤k∧k≤(j.ay.length:Int)-1)):kN j k=[]∧BK j k=2:=⟨if_neg fun q=>n q.2,by unfold BK; rw [if_pos e,if_neg n]⟩
theorem IY (e:dE j=0) (n:0≤k∧k≤(j.ay.length:Int)-1) (hf:j.ay[k.toNat]? =some f):kN j k=gV j (kD j.ay [(kH j.ay f,true)])∧BK j k=0:=
 ⟨by unfold kN; rw [if_pos ⟨e,n⟩,hf]; exact (v9 (OV (aR hf))).symm,by unfold BK; rw [if_pos e,if_pos n]⟩
end
end
section
structure Ww (j x:cN):Prop where
 race:x.Race=j.Race
 VS:x.ay=j.ay
 min_:j.fX≤x.fX
 g8: ∀ (i:Nat) p,j.aD[i]? =some p→x.aD[i]? =some p
section
variable {j x:cN} {n s:Int} {h k:Nat} {a b:List Int} {f f':aM} {ht:List av} {d:av}
/-- a fault that lasts longer, in its jury -/
def yF (j:cN) (k:Nat) (f:aM):cN:=⟨j.Race,j.ay.set k f,j.aD,j.fX,j.yA⟩
theorem Ff (e:dE j=0) (hf:j.ay[k]? =some f) (hk:f'.Kind=f.Kind) (hw:f'.eL=f.eL) (h1:0≤f'.gu∧f'.gu≤f.gu) (h2:f.To≤f'.To∧f'.To≤86400000):dE (yF j k f')=0:=by
 obtain ⟨B,A⟩:=eP e
 have hl:(yF j k f').ay.length=j.ay.length:=List.length_set
 refine ub B ⟨by rw [hl]; exact A.nf,fun g hg=>?_,A.min_,A.sK,A.np,fun i p hp=>?_⟩
 ·rcases List.mem_or_eq_of_mem_set hg with h|rfl
  ·exact A.fault g h
  ·have q:=A.fault f (aR hf)
   unfold ew at q ⊢
   rw [hk,hw]
   exact ⟨q.1,I,q.2.2⟩
 ·have q:=A.g8 i p hp
  exact ⟨q.id,q.up,q.lj,q.gf,by rw [hl]; exact q.fault,q.jJ⟩
theorem uQ {s:Nat} (e:dE j=0) (hf:j.ay[k]? =some f) (hh:j.Race.aB[h]? =some ht) (hd:ht[s]? =some d):mX j k h s=0∧ld j k h s=eC j.Race.ar f d:=by
 have hs:=((eU (eP e).1).2.gf ht (aR hh)).1
 have A:=(aW.1 hf).1
 have B:=(aW.1 hh).1
 have C:=(aW.1 hd).1
 have:=qY (k:=(k:Int)) (h:=(h:Int)) (s:=(s:Int)) e (by unfold lJ; omega) (by simpa using hf) (by simpa using hh) (by simpa using hd)
 exact ⟨this.2,this.1⟩
theorem Dn {s:Nat} (e:dE j=0) (hf:j.ay[k]? =some f) (hh:j.Race.aB[h]? =some ht) (hd:ht[s]? =some d) (hk:f'.Kind=f.Kind) (hw:f'.eL=f.eL) (h1:0≤f'.gu∧f'.gu≤f.gu) (h2:f.To≤f'.To∧f'.To≤86400000):mX (yF j k f') k h s=0∧ld j k h s≤ld (yF j k f') k h s:=by
 have e':=Ff e hf hk hw h1 h2
 have hf':(yF j k f').ay[k]? =some f':=List.getElem?_set_self (aW.1 hf).1
 have a:=uQ e hf hh hd
 have b:=uQ e' hf' hh hd
 refine ⟨b.1,?_⟩
 rw [a.2,b.2]
 exact CA hk hw h1.2 h2.1
/-- the row of whom a fault may touch -/
theorem Kr (e:dE j=0) (hf:j.ay[k]? =some f) (hh:j.Race.aB[h]? =some ht):(kN j k)[h]? =some (jn (fun s=>(ht[s]?).any fun d=> !decide (eC j.Race.ar f d=0)) ht.length):=by
 unfold kN
 have B:=(aW.1 hf).1
 rw [if_pos ⟨e,I⟩,Int.toNat_natCast,hf]
 simp only
 rw [E0 hh]
 congr 1
 unfold wx
 congr 1
 funext s
 cases hd:ht[s]? with
 |none=>rfl
 |some d=>
  simp only [Option.any_some]
  rw [← decide_not,gR]
  constructor
  ·rintro ⟨g,_,rfl,A⟩; exact A
  ·intro A; exact ⟨f,aR hf,rfl,A⟩
theorem Jm (e:dE j=0) (hf:j.ay[k]? =some f):(kN j k).length=j.Race.aB.length:=by
 unfold kN
 have A:=(aW.1 hf).1
 rw [if_pos ⟨e,I⟩,Int.toNat_natCast,hf]
 exact Kq
end
end
section
section
variable {P:Nat→Bool} {n q:Nat} {x:Int}
/-- the pointer that goes beside tells whether it is so -/
theorem Ph (hq:q<n) (h: ¬ ((jn P q).length:Int)<((jn P n).length:Int)):false=P q:=by
 cases e:P q with
 |false=>rfl
 |true=>
  have:=(aW.1 (N9 e hq)).1
  omega
theorem TH (hq:q<n) (hx:(jn P n)[(jn P q).length]? =some x):decide (x=(q:Int))=P q:=by
 cases e:P q with
 |false=>exact bE (P3 e hq hx)
 |true=>rw [N9 e hq] at hx; cases hx; exact dx rfl
theorem D4 (h:P n=true):((jn P (n+1)).length:Int)=((jn P n).length:Int)+1:=by rw [qx h,List.length_append]; rfl
theorem Gk (h: ¬ P n=true):((jn P (n+1)).length:Int)=((jn P n).length:Int):=by rw [pt (by simpa using h)]
end
section
variable {j:cN} {n q k:Nat} {x y:Int} {p:aX} {d:av} {f:aM} {ht:List av} {row:List Int} {h:Nat}
end
end
section
structure El (w w':bZ):Prop where
 start:w'.Start=w.Start
 now:w.fR≤w'.fR
 n:w'.n=w.n
 least: ∀ b,cg w' b≤cg w b
 times:w'.vM=w.vM
 O6:w.dL≤w'.dL
 RP:w.fZ≤w'.fZ
 sigs:w'.O8=w.O8
variable {w w':bZ}
theorem El.opt (h:El w w') {b:Nat} {o:Int×ag} (ho:o∈iN w b): ∃ o'∈iN w' b,o'.1=o.1∧o'.2.Lo≤o.2.Lo∧o.2.Hi≤o'.2.Hi:=by
 unfold iN at ho
 rcases bT.1 ho with rfl|ho
 ·exact ⟨(-1,⟨w'.Start,w'.fR⟩),cy ..,U,by simp only [h.start]; omega,h.now⟩
 ·refine ⟨o,dI _ ?_,U,Int.le_refl _,Int.le_refl _⟩
  unfold tU at ho ⊢; rw [h.times]; exact ho
theorem El.may (h:El w w') {t:aI} (ht:kM w t=true):kM w' t=true:=by
 unfold kM at ht ⊢
 have:=of_decide_eq_true ht
 have A:=h.O6
 have B:=h.RP
 have C:=h.sigs
 exact dx I
theorem El.fwd (h:El w w'): ∀ (b:Nat) (p:aI×Int),p∈fwd w b→ ∃ p'∈Go.Proofs.YtijpnoadncadoaaGreatDoor.fwd w' b,p'.1=p.1∧p'.2≤p.2:=by
 intro b
 induction b with
 |zero=>
  intro p hp
  simp only [Go.Proofs.YtijpnoadncadoaaGreatDoor.fwd,cq] at hp ⊢
  subst hp
  exact ⟨_,U,U,by simp only [h.start]; omega⟩
 |succ b ih=>
  intro q hq
  obtain ⟨p,hp,o,ho,e⟩:=gd.1 hq
  obtain ⟨p',hp',A,D⟩:=ih p hp
  obtain ⟨o',ho',B,E,F⟩:=h.opt ho
  have hl:=h.least b
  have hn:=h.now
  unfold kZ at e
  split at e
  ·rename_i C
   simp only [Option.some.injEq] at e
   subst e
   refine ⟨(dF p'.1 (fD o'.1),max (p'.2+cg w' b) o'.2.Lo),gd.2 ⟨p',hp',o',ho',by unfold kZ; rw [if_pos I]⟩,by simp only [A,B],by simp only; omega⟩
  ·cases e
theorem El.bwd (h:El w w'): ∀ (k:Nat) (p:aI×Int),p∈bwd w k→ ∃ p'∈Go.Proofs.YtijpnoadncadoaaGreatDoor.bwd w' k,p'.1=p.1∧p.2≤p'.2:=by
 intro k
 induction k with
 |zero=>
  intro p hp
  simp only [Go.Proofs.YtijpnoadncadoaaGreatDoor.bwd,cq] at hp ⊢
  subst hp
  exact ⟨_,U,U,h.now⟩
 |succ k ih=>
  intro q hq
  simp only [Go.Proofs.YtijpnoadncadoaaGreatDoor.bwd,bT,List.mem_flatMap,List.mem_filterMap] at hq ⊢
  rcases hq with rfl|⟨p,hp,o,ho,e⟩
  ·exact ⟨_,.inl U,U,h.now⟩
  ·obtain ⟨p',hp',A,D⟩:=ih p hp
   obtain ⟨o',ho',B,E,F⟩:=h.opt ho
   have hl:=h.least (w.n-(k+1))
   rw [h.n]
   unfold oi at e
   split at e
   ·rename_i C
    simp only [Option.some.injEq] at e
    subst e
    exact ⟨(dF p'.1 (fD o'.1),min p'.2 o'.2.Hi-cg w' (w.n-(k+1))),.inr ⟨p',hp',o',ho',by unfold oi; rw [if_pos I]⟩,by simp only [A,B],by simp only; omega⟩
   ·cases e
theorem El.back (h:El w w') {b:Nat} {p:aI×Int} (hp:p∈back w b): ∃ p'∈Go.Proofs.YtijpnoadncadoaaGreatDoor.back w' b,p'.1=p.1∧p.2≤p'.2:=by
 unfold Go.Proofs.YtijpnoadncadoaaGreatDoor.back at hp ⊢
 rw [h.n]
 exact h.bwd _ p hp
theorem El.pass (h:El w w') {b:Nat} {q:Int×ag} (hq:q∈j_ w b): ∃ q'∈j_ w' b,q'.1=q.1∧q'.2.Lo≤q.2.Lo∧q.2.Hi≤q'.2.Hi:=by
 obtain ⟨o,ho,p,hp,u,hu,e⟩:=iA.1 hq
 obtain ⟨D,E,rfl⟩:=jz.1 e
 obtain ⟨o',ho',A,F,G⟩:=h.opt ho
 obtain ⟨p',hp',B,H⟩:=h.fwd _ p hp
 obtain ⟨u',hu',C,AA⟩:=h.back hu
 have hl:=h.least b
 simp only [jF] at D
 refine ⟨(o'.1,jF w' b p' u' o'),iA.2 ⟨o',ho',p',hp',u',hu',jz.2 ⟨?_,?_,U⟩⟩,A,?_,?_⟩
 ·simp only [jF]; omega
 ·have:=h.may E
  unfold xh at this ⊢
  rw [A,B,C]; exact this
 ·simp only [jF]; omega
 ·simp only [jF]; omega
theorem nI {k:Int}:k∈gW w↔ ∃ i:Nat,k=(i:Int)∧i≤w.n∧jC w (fwd w i)=true:=by
 unfold gW j2
 simp only [cE,List.mem_filter,List.mem_range]
 constructor
 ·rintro ⟨i,⟨B,A⟩,rfl⟩; exact ⟨i,rfl,I,A⟩
 ·rintro ⟨i,rfl,B,A⟩; exact ⟨i,⟨I,A⟩,rfl⟩
theorem El.Hh (h:El w w') {k:Int} (hk:k∈gW w):k∈gW w':=by
 obtain ⟨i,rfl,C,A⟩:=nI.1 hk
 refine nI.2 ⟨i,U,by rw [h.n]; exact C,?_⟩
 unfold jC at A ⊢
 obtain ⟨p,hp,D⟩:=List.any_eq_true.1 A
 obtain ⟨p',hp',B,_⟩:=h.fwd _ p hp
 exact List.any_eq_true.2 ⟨p',hp',by rw [B]; exact h.may D⟩
/-- two rides, of two lines, of which one allows more -/
structure TX (l:bk) (r:cw) (l':bk) (r':cw):Prop where
 line:dD l=0
 line':dD l'=0
 jJ:dU l r
 ride':dU l' r'
 w:El (bU l r) (bU l' r')
 OB:l'.ab.length=l.ab.length
variable {l l':bk} {r r':cw}
theorem TX.ok (h:TX l r l' r') (he:dK l r 0=0):dK l' r' 0=0:=by
 refine lk h.line' h.ride' U fun e=>?_
 obtain ⟨k,hk⟩:=List.exists_mem_of_ne_nil _ (gM he).2.2.2
 have:=h.w.Hh hk
 rw [e] at this; cases this
theorem TX.DS (h:TX l r l' r') {k:Int} (hk:k∈gn l r):k∈gn l' r':=by
 by_cases he:dK l r 0=0
 ·rw [ju he] at hk
  rw [ju (h.ok he)]
  exact h.w.Hh hk
 ·rw [nx he] at hk; cases hk
theorem G5 {b:Nat} (hb:b<l.ab.length):dK l r (iP l b)=dK l r 0:=by rw [o1 I]
theorem zz {b:Nat}:cg (bU l r) b=if b<l.ab.length then dY l b else 0:=by
 unfold cg bU cm
 split
 ·rename_i h
  simp [h]
 ·rename_i h
  simp [h]
theorem Gs {sg:List aG} {i:Nat} (h:i=0):kJ sg i=⟨-1,0⟩:=by subst h; rfl
theorem rZ {sg:List aG} {i:Nat} {y:aG} (h:0<i) (hy:sg[i-1]? =some y):kJ sg i=y:=by unfold kJ; rw [if_neg I,hy]; rfl
def PH (l:bk):Prop:= ¬ l9 l∧dD l=0
noncomputable instance (l:bk):Decidable (PH l):=Classical.propDecidable _
end
section
/-- where a sled may be after k beams more -/
def gr (w:bZ):Nat→Nat→aI×Int→List (aI×Int)
 |0,_,p=>[p]
 |k+1,b,p=>(iN w b).flatMap fun o=>match kZ w b p o with
  |some q=>gr w k (b+1) q
  |none=>[]
variable {w:bZ}
theorem iz {k b:Nat} {p q:aI×Int}:q∈gr w (k+1) b p↔ ∃ o∈iN w b,∃ p',kZ w b p o=some p'∧q∈gr w k (b+1) p':=by
 simp only [gr,List.mem_flatMap]
 constructor
 ·rintro ⟨o,ho,h⟩
  cases e:kZ w b p o with
  |none=>rw [e] at h; cases h
  |some p'=>rw [e] at h; exact ⟨o,ho,p',e,h⟩
 ·rintro ⟨o,ho,p',e,h⟩
  exact ⟨o,ho,by rw [e]; exact h⟩
theorem rW: ∀ (k b:Nat) (q:aI×Int),q∈fwd w (b+k)↔ ∃ p∈fwd w b,q∈gr w k b p:=by
 intro k
 induction k with
 |zero=>
  intro b q
  simp only [Nat.add_zero,gr,cq]
  exact ⟨fun h=>⟨q,h,rfl⟩,fun ⟨p,hp,e⟩=>e▸hp⟩
 |succ k ih=>
  intro b q
  rw [show b+(k+1)=(b+1)+k by omega,ih]
  constructor
  ·rintro ⟨p',hp',h⟩
   obtain ⟨p,hp,o,ho,e⟩:=gd.1 hp'
   exact ⟨p,hp,iz.2 ⟨o,ho,p',e,h⟩⟩
  ·rintro ⟨p,hp,h⟩
   obtain ⟨o,ho,p',e,h'⟩:=iz.1 h
   exact ⟨p',gd.2 ⟨p,hp,o,ho,e⟩,h'⟩
theorem g0 {b:Nat} {p q:aI×Int} {o:Int×ag}:kZ w b p o=some q↔max (p.2+cg w b) o.2.Lo≤min o.2.Hi w.fR∧q=(dF p.1 (fD o.1),max (p.2+cg w b) o.2.Lo):=by
 unfold kZ
 split
 ·rename_i h
  constructor
  ·intro e; cases e; exact ⟨h,rfl⟩
  ·rintro ⟨_,rfl⟩; rfl
 ·rename_i h
  constructor
  ·intro e; cases e
  ·rintro ⟨h',_⟩; exact absurd h' h
theorem vt {b:Nat} {p q:aI×Int} {o:Int×ag}:oi w b p o=some q↔o.2.Lo≤min p.2 o.2.Hi∧q=(dF p.1 (fD o.1),min p.2 o.2.Hi-cg w b):=by
 unfold oi
 split
 ·rename_i h
  constructor
  ·intro e; cases e; exact ⟨h,rfl⟩
  ·rintro ⟨_,rfl⟩; rfl
 ·rename_i h
  constructor
  ·intro e; cases e
  ·rintro ⟨h',_⟩; exact absurd h' h
theorem Gq {b:Nat} (hb:b≤w.n):((⟨0,0⟩:aI),w.fR)∈back w b:=by
 rcases Nat.lt_or_ge b w.n with h|h
 ·exact (pB h).2 (.inl U)
 ·rw [uT h]; simp
theorem nz (t:aI):dF t ⟨0,0⟩=t:=by cases t; simp [dF]
theorem y_ (a o u:aI):dF (dF a o) u=dF a (dF u o):=by simp only [dF,aI.mk.injEq]; omega
theorem FP (hl: ∀ b,0≤cg w b): ∀ (k:Nat) (u:aI×Int),u∈bwd w k→u.2≤w.fR:=by
 intro k
 induction k with
 |zero=>intro u hu; simp only [bwd,cq] at hu; subst hu; exact Int.le_refl _
 |succ k ih=>
  intro u hu
  simp only [bwd,bT,List.mem_flatMap,List.mem_filterMap] at hu
  rcases hu with rfl|⟨p,hp,o,ho,e⟩
  ·exact Int.le_refl _
  ·obtain ⟨_,rfl⟩:=vt.1 e
   have:=ih p hp
   have:=hl (w.n-(k+1))
   simp only; omega
/-- what follows a passing is told by the way back -/
theorem M5: ∀ (k b:Nat) (p q:aI×Int),b+k≤w.n→p.2≤w.fR→q∈gr w k b p→ ∃ u∈back w b,p.2≤u.2∧q.1=dF p.1 u.1:=by
 intro k
 induction k with
 |zero=>
  intro b p q hb hp hq
  simp only [gr,cq] at hq
  subst hq
  exact ⟨_,Gq I,hp,(nz _).symm⟩
 |succ k ih=>
  intro b p q hb hp hq
  obtain ⟨o,ho,p',e,h⟩:=iz.1 hq
  obtain ⟨C,rfl⟩:=g0.1 e
  obtain ⟨u',hu',B,A⟩:=ih (b+1) _ q I (by simp only; omega) h
  simp only at B A
  refine ⟨(dF u'.1 (fD o.1),min u'.2 o.2.Hi-cg w b),(pB I).2 (.inr ⟨u',hu',o,ho,vt.2 ⟨I,U⟩⟩),by simp only; omega,?_⟩
  rw [A,y_]
theorem JW (hl: ∀ b,0≤cg w b): ∀ (d b:Nat) (p u:aI×Int),w.n=b+d→p.2≤u.2→u∈back w b→ ∃ k,b+k≤w.n∧ ∃ q∈gr w k b p,q.1=dF p.1 u.1:=by
 intro d
 induction d with
 |zero=>
  intro b p u hd hp hu
  rw [uT I] at hu
  simp only [cq] at hu
  subst hu
  exact ⟨0,I,p,by simp [gr],(nz _).symm⟩
 |succ d ih=>
  intro b p u hd hp hu
  rcases (pB I).1 hu with rfl|⟨u',hu',o,ho,e⟩
  ·exact ⟨0,I,p,by simp [gr],(nz _).symm⟩
  ·obtain ⟨B,rfl⟩:=vt.1 e
   have hn:u'.2≤w.fR:=FP hl _ _ hu'
   simp only at hp
   obtain ⟨k,hk,q,hq,A⟩:=ih (b+1) (dF p.1 (fD o.1),max (p.2+cg w b) o.2.Lo) u' I (by simp only; omega) hu'
   refine ⟨k+1,I,q,iz.2 ⟨o,ho,_,g0.2 ⟨I,U⟩,hq⟩,?_⟩
   rw [A]; simp only; rw [y_]
end
section
section
variable {l:bk} {r:cw} {one at_:Int} {d:Nat} {f g m:Int} {rec:Int→Int→Int→Bool} {i:Int}
end
theorem rE {l:bk} {r:cw} {d:Nat} (hd:d<l.ab.length) {o:Int×ag}:o∈iN (bU l r) d↔o=(-1,⟨r.Start,r.fR⟩)∨ ∃ k,k<r.aa.length∧ ∃ s,r.aa[k]? =some s∧(s.fE=(d:Int)∧(cP l s).Lo≤(cP l s).Hi)∧o=((k:Int),cP l s):=by
 unfold iN tU
 show o∈(-1,(⟨r.Start,r.fR⟩:ag))::((cM l r.aa r.aa.length)[d]?).getD []↔_
 rw [o4 hd,Option.getD_some,bT,sU]
theorem pV {l:bk} {r:cw} {d:Nat} (hd:d<l.ab.length):cg (bU l r) d=dY l d:=by rw [zz,if_pos hd]
theorem vk {l:bk} {n d:Nat} {y:Int} (h:(cm l n)[d]? =some y):y=dY l d:=by
 unfold cm at h
 rw [fM] at h
 have hd:d<n:=by
  rcases Nat.lt_or_ge d n with q|q
  ·exact q
  ·rw [List.getElem?_eq_none (by simpa using q)] at h; cases h
 rw [List.getElem?_range hd] at h
 exact (Option.some.inj h).symm
end
section
def De (w:bZ) (b:Nat) (i:Int):Prop:= ∃ b',b'<b∧ ∃ q∈j_ w b',q.1=i
noncomputable instance (w:bZ) (b:Nat) (i:Int):Decidable (De w b i):=Classical.propDecidable _
noncomputable def Ai (w:bZ) (n:Nat):List Int:=((List.range n).map fun (k:Nat)=>(k:Int)).filter fun i=> !decide (De w w.n i)
noncomputable def Lm (l:bk) (r:cw):List Int:=if dK l r 0=0 then Ai (bU l r) r.aa.length else []
theorem GF {l:bk} {r:cw} (h:dK l r 0=0):Lm l r=Ai (bU l r) r.aa.length:=if_pos h
def tL (w:bZ) (b:Nat):Bool:=(j_ w b).any fun q=>decide (0≤q.1)
def wH (w:bZ) (k:Nat):List Int:=((List.range k).filter fun b=> !tL w b).map fun (b:Nat)=>(b:Int)
noncomputable def um (l:bk) (r:cw):List Int:=if dK l r 0=0 then wH (bU l r) (od (gn l r)).toNat else []
theorem th {l:bk} {r:cw} (h:dK l r 0=0):um l r=wH (bU l r) (od (gn l r)).toNat:=if_pos h
theorem yb {l:bk} {r:cw} (h: ¬ dK l r 0=0):um l r=[]:=if_neg h
theorem Ei {w:bZ} {n:Nat} {i:Int}:i∈Ai w n↔(0≤i∧i<(n:Int))∧ ¬ De w w.n i:=by
 unfold Ai
 rw [List.mem_filter,cE]
 simp only [Bool.not_eq_true',decide_eq_false_iff_not]
 constructor
 ·rintro ⟨⟨k,hk,rfl⟩,A⟩
  have:=List.mem_range.1 hk
  exact ⟨I,A⟩
 ·rintro ⟨B,A⟩
  exact ⟨⟨i.toNat,List.mem_range.2 I,I⟩,A⟩
theorem S7 {l:bk} {r:cw} (h:dK l r 0=0):0≤od (gn l r)∧od (gn l r)≤(l.ab.length:Int):=by
 have A:=(F3 (vr h)).1
 rw [ju h] at A ⊢
 obtain ⟨i,e,hi,_⟩:=nI.1 A
 have hn:(bU l r).n=l.ab.length:=cU
 omega
end
section
/-- a truth goes on from here -/
def ti (w:bZ) (b:Nat) (p:aI×Int):Prop:= ∃ k,b+k≤w.n∧ ∃ q∈gr w k b p,kM w q.1=true
/-- a truth may have come here, or earlier -/
def CQ (w:bZ) (b:Nat) (p:aI×Int):Prop:= ∃ v,(p.1,v)∈fwd w b∧v≤p.2
def JO (n:Int) (p:aI×Int):aI×Int:=(p.1,p.2+n)
section
variable {w:bZ}
theorem GL: ∀ (k j b:Nat) (p q z:aI×Int),q∈gr w k b p→z∈gr w j (b+k) q→z∈gr w (k+j) b p:=by
 intro k
 induction k with
 |zero=>
  intro j b p q z A B
  simp only [gr,cq] at A
  subst A
  rw [Nat.zero_add]; exact B
 |succ k ih=>
  intro j b p q z A B
  obtain ⟨o,ho,p',e,h⟩:=iz.1 A
  rw [show k+1+j=(k+j)+1 by omega]
  exact iz.2 ⟨o,ho,p',e,ih j (b+1) p' q z h (by rw [show b+1+k=b+(k+1) by omega]; exact B)⟩
theorem B6: ∀ (k b:Nat) (t:aI) (x y:Int) (q:aI×Int),y≤x→q∈gr w k b (t,x)→ ∃ q'∈gr w k b (t,y),q'.1=q.1∧q'.2≤q.2:=by
 intro k
 induction k with
 |zero=>
  intro b t x y q A hq
  simp only [gr,cq] at hq ⊢
  subst hq
  exact ⟨_,U,U,A⟩
 |succ k ih=>
  intro b t x y q A hq
  obtain ⟨o,ho,p',e,h⟩:=iz.1 hq
  obtain ⟨B,rfl⟩:=g0.1 e
  simp only at B h
  obtain ⟨q',hq',C,D⟩:=ih (b+1) _ _ (max (y+cg w b) o.2.Lo) q I h
  exact ⟨q',iz.2 ⟨o,ho,_,g0.2 ⟨by simp only; omega,U⟩,hq'⟩,C,D⟩
theorem yc {b:Nat} {t:aI} {x y:Int} (h:ti w b (t,x)) (hy:y≤x):ti w b (t,y):=by
 obtain ⟨k,hk,q,hq,hm⟩:=h
 obtain ⟨q',hq',e,_⟩:=B6 k b t x y q hy hq
 exact ⟨k,hk,q',hq',by rw [e]; exact hm⟩
theorem vq {k b:Nat} {p q:aI×Int} (h:q∈gr w k b p) (hv:ti w (b+k) q):ti w b p:=by
 obtain ⟨j,hj,z,hz,hm⟩:=hv
 exact ⟨k+j,I,z,GL k j b p q z h hz,hm⟩
theorem G9 {b:Nat} {p q:aI×Int} {o:Int×ag} (h:CQ w b p) (ho:o∈iN w b) (e:kZ w b p o=some q):CQ w (b+1) q:=by
 obtain ⟨v,hv,A⟩:=h
 obtain ⟨B,rfl⟩:=g0.1 e
 exact ⟨max (v+cg w b) o.2.Lo,gd.2 ⟨_,hv,o,ho,g0.2 ⟨by simp only; omega,U⟩⟩,by simp only; omega⟩
theorem Cm {b:Nat} {p:aI×Int} (h:p∈fwd w b):CQ w b p:=⟨p.2,h,Int.le_refl _⟩
theorem yZ (hl: ∀ b,0≤cg w b): ∀ (b:Nat) (p:aI×Int),p∈fwd w b→w.Start≤p.2:=by
 intro b
 induction b with
 |zero=>intro p hp; simp only [fwd,cq] at hp; subst hp; exact Int.le_refl _
 |succ b ih=>
  intro q hq
  obtain ⟨p,hp,o,ho,e⟩:=gd.1 hq
  obtain ⟨_,rfl⟩:=g0.1 e
  have:=ih p hp
  have:=hl b
  simp only; omega
/-- a beam is passed at a time, by a signal -/
def ye (w:bZ) (b:Nat) (s t:Int):Prop:= ∃ p∈fwd w b,∃ o∈iN w b,o.1=s∧(max (p.2+cg w b) o.2.Lo≤t∧t≤min o.2.Hi w.fR)∧ti w (b+1) (dF p.1 (fD o.1),t)
theorem wI (hl: ∀ b,0≤cg w b) {b:Nat} (hb:b<w.n) {s t:Int}:(∃ q∈j_ w b,q.1=s∧q.2.Lo≤t∧t≤q.2.Hi)↔ye w b s t:=by
 constructor
 ·rintro ⟨q,hq,hs,C,D⟩
  obtain ⟨o,ho,p,hp,u,hu,e⟩:=iA.1 hq
  obtain ⟨B,A,rfl⟩:=jz.1 e
  simp only [jF] at C D B
  have hn:u.2≤w.fR:=FP hl _ _ hu
  obtain ⟨k,hk,q,hq',E⟩:=JW hl (w.n-(b+1)) (b+1) (dF p.1 (fD o.1),t) u I (by simp only; omega) hu
  refine ⟨p,hp,o,ho,hs,⟨I,I⟩,k,hk,q,hq',?_⟩
  rw [E]
  unfold xh at A
  rw [show dF (dF p.1 (fD o.1)) u.1=dF (dF p.1 u.1) (fD o.1) by simp only [dF,aI.mk.injEq]; omega]
  exact A
 ·rintro ⟨p,hp,o,ho,hs,⟨C,D⟩,k,hk,q,hq,hm⟩
  obtain ⟨u,hu,B,A⟩:=M5 k (b+1) _ q hk (by simp only; omega) hq
  simp only at B A
  refine ⟨(o.1,jF w b p u o),iA.2 ⟨o,ho,p,hp,u,hu,jz.2 ⟨by simp only [jF]; omega,?_,U⟩⟩,hs,by simp only [jF]; omega,by simp only [jF]; omega⟩
  unfold xh
  rw [A] at hm
  rw [show dF (dF p.1 u.1) (fD o.1)=dF (dF p.1 (fD o.1)) u.1 by simp only [dF,aI.mk.injEq]; omega]
  exact hm
end
structure yJ (w w':bZ) (n:Int) (f:Int→Int):Prop where
 start:w'.Start=w.Start+n
 now:w'.fR=w.fR+n
 wn:w'.n=w.n
 low: ∀ b,0≤cg w b
 least: ∀ b,cg w' b=cg w b
 may: ∀ t,kM w t=true→kM w' t=true
 Vj: ∀ s,0≤f s↔0≤s
 opt: ∀ (b:Nat) (p:aI×Int) (o:Int×ag),b<w.n→w.Start≤p.2→CQ w b p→o∈iN w b→max (p.2+cg w b) o.2.Lo≤min o.2.Hi w.fR→ti w (b+1) (dF p.1 (fD o.1),max (p.2+cg w b) o.2.Lo)→
  ∃ o'∈iN w' b,o'.1=f o.1∧ ∀ t,w.Start≤t→t≤w.fR→((o.2.Lo≤t∧t≤o.2.Hi)↔(o'.2.Lo≤t+n∧t+n≤o'.2.Hi))
section
variable {w w':bZ} {n:Int} {f g:Int→Int}
theorem yJ.one (h:yJ w w' n f) (s:Int):fD (f s)=fD s:=by
 unfold fD
 have:=h.Vj s
 by_cases q:s<0
 ·rw [if_pos q,if_pos I]
 ·rw [if_neg q,if_neg I]
theorem yJ.step (h:yJ w w' n f) {b:Nat} {p q:aI×Int} {o:Int×ag} (hb:b<w.n) (hs:w.Start≤p.2) (hl:CQ w b p) (ho:o∈iN w b) (e:kZ w b p o=some q) (hv:ti w (b+1) q):
 ∃ o'∈iN w' b,kZ w' b (JO n p) o'=some (JO n q):=by
 obtain ⟨E,rfl⟩:=g0.1 e
 obtain ⟨o',ho',D,A⟩:=h.opt b p o hb hs hl ho E hv
 have F:=h.low b
 have B:=A (max (p.2+cg w b) o.2.Lo) I I
 have C:=A (max (p.2+n+cg w b) o'.2.Lo-n) I
 refine ⟨o',ho',g0.2 ?_⟩
 simp only [JO,h.least,h.now]
 rw [D,h.one]
 have G:=B.1 I
 have H:=(C I).2 I
 refine ⟨I,?_⟩
 simp only [Prod.mk.injEq,true_and]
 omega
theorem yJ.reach (h:yJ w w' n f): ∀ (k b:Nat) (p q:aI×Int),b+k≤w.n→w.Start≤p.2→CQ w b p→q∈gr w k b p→ti w (b+k) q→JO n q∈gr w' k b (JO n p):=by
 intro k
 induction k with
 |zero=>
  intro b p q _ _ _ hq _
  simp only [gr,cq] at hq ⊢
  rw [hq]
 |succ k ih=>
  intro b p q hb hs hl hq hv
  obtain ⟨o,ho,p',e,hq'⟩:=iz.1 hq
  have hv':ti w (b+1) p':=vq hq' (by rw [show b+1+k=b+(k+1) by omega]; exact hv)
  obtain ⟨o',ho',e'⟩:=h.step I hs hl ho e hv'
  have A:=g0.1 e
  have B:=h.low b
  exact iz.2 ⟨o',ho',_,e',ih (b+1) p' q I (by rw [A.2]; simp only; omega) (G9 hl ho e) hq' (by rw [show b+1+k=b+(k+1) by omega]; exact hv)⟩
theorem yJ.Pw (h:yJ w w' n f) {b:Nat} {p:aI×Int} (hs:w.Start≤p.2) (hl:CQ w b p) (hv:ti w b p):ti w' b (JO n p):=by
 obtain ⟨k,hk,q,hq,hm⟩:=hv
 exact ⟨k,by rw [h.wn]; exact hk,_,h.reach k b p q hk hs hl hq ⟨0,I,q,by simp [gr],hm⟩,h.may _ hm⟩
theorem yJ.fwd (h:yJ w w' n f) {b:Nat} {q:aI×Int} (hb:b≤w.n) (hq:q∈fwd w b) (hv:ti w b q):JO n q∈Go.Proofs.YtijpnoadncadoaaGreatDoor.fwd w' b:=by
 obtain ⟨p,hp,hr⟩:=(rW b 0 q).1 (by rw [Nat.zero_add]; exact hq)
 have hr':=h.reach b 0 p q I (yZ h.low 0 p hp) (Cm hp) hr (by rw [Nat.zero_add]; exact hv)
 have:JO n p∈Go.Proofs.YtijpnoadncadoaaGreatDoor.fwd w' 0:=by
  simp only [Go.Proofs.YtijpnoadncadoaaGreatDoor.fwd,cq] at hp ⊢
  subst hp
  rw [h.start]; rfl
 have A:=(rW b 0 (JO n q)).2 ⟨_,this,hr'⟩
 rwa [Nat.zero_add] at A
theorem yJ.any (h:yJ w w' n f) {b:Nat} (hb:b≤w.n) (hm:jC w (Go.Proofs.YtijpnoadncadoaaGreatDoor.fwd w b)=true):jC w' (Go.Proofs.YtijpnoadncadoaaGreatDoor.fwd w' b)=true:=by
 unfold jC at hm ⊢
 obtain ⟨p,hp,A⟩:=List.any_eq_true.1 hm
 exact List.any_eq_true.2 ⟨_,h.fwd hb hp ⟨0,I,p,by simp [gr],A⟩,h.may _ A⟩
theorem yJ.pass (h:yJ w w' n f) {b:Nat} (hb:b<w.n) {s t:Int} (hp:ye w b s t):ye w' b (f s) (t+n):=by
 obtain ⟨p,hp,o,ho,rfl,⟨D,G⟩,hv⟩:=hp
 have hs:=yZ h.low b p hp
 have hl:=h.low b
 have A:ti w (b+1) (dF p.1 (fD o.1),max (p.2+cg w b) o.2.Lo):=yc hv D
 have e:kZ w b p o=some (dF p.1 (fD o.1),max (p.2+cg w b) o.2.Lo):=g0.2 ⟨I,rfl⟩
 have B:ti w b p:=vq (k:=1) (iz.2 ⟨o,ho,_,e,by simp [gr]⟩) A
 obtain ⟨o',ho',C,E⟩:=h.opt b p o hb hs (Cm hp) ho I A
 have c:=(E t I I).1 I
 refine ⟨JO n p,h.fwd I hp B,o',ho',C,?_,?_⟩
 ·simp only [JO,h.least,h.now]; omega
 ·have F:=h.Pw (b:=b+1) (p:=(dF p.1 (fD o.1),t)) (by simp only; omega) ⟨_,gd.2 ⟨p,hp,o,ho,e⟩,D⟩ hv
  rw [C,h.one]; exact F
theorem Ik (h:yJ w w' n f) (h':yJ w' w (-n) g):gW w'=gW w:=by
 unfold gW
 rw [h.wn]
 unfold j2
 congr 1
 refine List.filter_congr fun b hb=>?_
 have hb:=List.mem_range.1 hb
 rw [Bool.eq_iff_iff]
 exact ⟨h'.any (by rw [h.wn]; omega),h.any I⟩
theorem CO (h:yJ w w' n f) (hl': ∀ b,0≤cg w' b) {b:Nat} (hb:b<w.n) {s:Int} (hq: ∃ q∈j_ w b,q.1=s): ∃ q∈j_ w' b,q.1=f s:=by
 obtain ⟨q,hq,e⟩:=hq
 have A:q.2.Lo≤q.2.Hi:=jD hq
 obtain ⟨q',hq',e',_⟩:=(wI hl' (by rw [h.wn]; exact hb)).2 (h.pass hb ((wI h.low hb).1 ⟨q,hq,e,Int.le_refl _,A⟩))
 exact ⟨q',hq',e'⟩
theorem Hp (h:yJ w w' n f) (h':yJ w' w (-n) g) {b:Nat} (hb:b<w.n):tL w' b=tL w b:=by
 rw [Bool.eq_iff_iff]
 unfold tL
 simp only [List.any_eq_true,decide_eq_true_eq]
 constructor
 ·rintro ⟨q,hq,A⟩
  obtain ⟨q',hq',e⟩:=CO h' h.low (by rw [h.wn]; exact hb) ⟨q,hq,rfl⟩
  exact ⟨q',hq',by rw [e]; exact (h'.Vj _).2 A⟩
 ·rintro ⟨q,hq,A⟩
  obtain ⟨q',hq',e⟩:=CO h h'.low hb ⟨q,hq,rfl⟩
  exact ⟨q',hq',by rw [e]; exact (h.Vj _).2 A⟩
end
section
variable {l l':bk} {r r':cw} {n:Int} {f g:Int→Int}
structure wo (l:bk) (r:cw) (l':bk) (r':cw) (n:Int) (f g:Int→Int):Prop where
 line:dD l=0
 line':dD l'=0
 jJ:dU l r
 ride':dU l' r'
 OB:l'.ab.length=l.ab.length
 to:yJ (bU l r) (bU l' r') n f
 V7:yJ (bU l' r') (bU l r) (-n) g
theorem wo.Hh (h:wo l r l' r' n f g):gW (bU l' r')=gW (bU l r):=Ik h.to h.V7
theorem wo.e (h:wo l r l' r' n f g) {me:Int}:dK l' r' me=dK l r me:=by
 by_cases hm:me=0
 ·by_cases q:gW (bU l r)=[]
  ·rw [g4 h.line h.jJ hm q,g4 h.line' h.ride' hm (h.Hh.trans q)]
  ·rw [lk h.line h.jJ hm q,lk h.line' h.ride' hm (by rw [h.Hh]; exact q)]
 ·rw [qz h.line h.jJ hm,qz h.line' h.ride' hm]
theorem wo.DS (h:wo l r l' r' n f g):gn l' r'=gn l r:=by
 by_cases q:dK l r 0=0
 ·rw [ju q,ju (h.e.trans q),h.Hh]
 ·rw [nx q,nx (by rw [h.e]; exact q)]
theorem wo.ua (h:wo l r l' r' n f g) {b:Int}:iP l' b=iP l b:=by unfold iP; rw [h.OB]
theorem wo.bn (h:wo l r l' r' n f g):(bU l r).n=l.ab.length:=cU
theorem wo.eT (h:wo l r l' r' n f g):um l' r'=um l r:=by
 by_cases q:dK l r 0=0
 ·rw [th q,th (h.e.trans q),h.DS]
  have hb:=S7 q
  unfold wH
  congr 1
  refine List.filter_congr fun b A=>?_
  have A:=List.mem_range.1 A
  rw [Hp h.to h.V7 (by rw [h.bn]; omega)]
 ·rw [yb q,yb (by rw [h.e]; exact q)]
end
end
section
theorem Tt (a b:Int) (ha:0≤a) (hb:0<b):0≤a % b∧a % b<b:=⟨Int.emod_nonneg _ (Int.ne_of_gt hb),Int.emod_lt_of_pos _ hb⟩
theorem mx {l:bk} (ht:di l.aV=true) (h:lK l) {i:Nat} (hi:i<l.ab.length):1≤dY l i∧dY l i≤500000000:=by
 have A:=h.Qe i hi
 have B:=BD ht h.ua i
 have hf:=h.head.1
 unfold dY oZ
 refine ⟨(Int.le_ediv_iff_mul_le I).2 I,?_⟩
 have:(1000*lz l i+l.iR-1)/l.iR≤1000*lz l i+l.iR-1:=Int.ediv_le_self _ I
 omega
end
section
def dk (good:List Int):aI:=good.foldl (fun t g=>dF t (fD g)) ⟨0,0⟩
theorem j8 {l:List Int} {g:Int}:dk (l++[g])=dF (dk l) (fD g):=by unfold dk; rw [List.foldl_append]; rfl
def uD (r:cw) (times:List Int) (b:Nat):Int:=if b=0 then r.Start else (times[b-1]?).getD 0
theorem pO {r:cw} {times:List Int} {b:Nat} {t:Int} (h:times[b]? =some t):uD r times (b+1)=t:=by unfold uD; rw [if_neg I,Nat.add_sub_cancel,h]; rfl
structure iS (l:bk) (r:cw) (times good:List Int):Prop where
 jJ:dU l r
 len:good.length=times.length
 le:times.length≤l.ab.length
 step: ∀ (b:Nat) t,times[b]? =some t→uD r times b+dY l b≤t∧t≤r.fR
 sig: ∀ (b:Nat) t g,times[b]? =some t→good[b]? =some g→g= -1∨ ∃ (k:Nat) (s:aG),g=(k:Int)∧r.aa[k]? =some s∧s.fE=(b:Int)∧(cP l s).Lo≤t∧t≤(cP l s).Hi
 Jx:(dk good).eT≤l.dL
 Ru:(r.aa.length:Int)-(dk good).right≤l.fZ
section
variable {l:bk} {r:cw} {times good:List Int}
theorem iS.low (h:iS l r times good) (hl:dD l=0): ∀ b,0≤cg (bU l r) b:=fun b=>by
 obtain ⟨ht,A⟩:=dM hl
 exact ((lD ht A h.jJ).cg b).1
theorem iS.least (h:iS l r times good) {b:Nat} (hb:b<times.length):cg (bU l r) b=dY l b:=by
 have:=h.le
 rw [zz,if_pos I]
theorem iS.from_ (h:iS l r times good) (hl:dD l=0): ∀ b:Nat,b≤times.length→r.Start≤uD r times b∧uD r times b≤r.fR:=by
 intro b
 induction b with
 |zero=>intro _; have:=h.jJ.time; unfold uD; rw [if_pos rfl]; omega
 |succ b ih=>
  intro hb
  have ht:times[b]? =some (times[b]'I):=eD _
  have B:=ih I
  have C:=h.step b _ ht
  have A:=h.low hl b
  rw [h.least I] at A
  rw [pO ht]
  omega
/-- what comes next, in the truth -/
theorem iS.opt (h:iS l r times good) (hl:dD l=0) {b:Nat} {t g:Int} (ht:times[b]? =some t) (hg:good[b]? =some g): ∃ o∈iN (bU l r) b,o.1=g∧o.2.Lo≤t∧t≤o.2.Hi:=by
 have hb:=(aW.1 ht).1
 have E:=h.le
 have F:=h.step b t ht
 have G:=h.from_ hl b I
 have B:=h.low hl b
 rw [h.least hb] at B
 rcases h.sig b t g ht hg with rfl|⟨k,s,rfl,hs,A,C,D⟩
 ·exact ⟨(-1,⟨r.Start,r.fR⟩),(rE I).2 (.inl U),U,by simp only; omega,by simp only; omega⟩
 ·exact ⟨((k:Int),cP l s),(rE I).2 (.inr ⟨k,(aW.1 hs).1,s,hs,⟨A,I⟩,U⟩),U,C,D⟩
theorem ml {α:Type} {l:List α} {b:Nat} {x:α} (h:l[b]? =some x):l.take (b+1)=l.take b++[x]:=by rw [List.take_add_one,h]; rfl
theorem iS.live (h:iS l r times good) (hl:dD l=0): ∀ b:Nat,b≤times.length→CQ (bU l r) b (dk (good.take b),uD r times b):=by
 intro b
 induction b with
 |zero=>intro _; exact ⟨r.Start,by simp [fwd,dk]; rfl,by unfold uD; rw [if_pos rfl]; exact Int.le_refl _⟩
 |succ b ih=>
  intro hb
  have B:=h.len
  have ht:times[b]? =some (times[b]'I):=eD _
  have hg:good[b]? =some (good[b]'I):=eD _
  obtain ⟨v,hv,A⟩:=ih I
  obtain ⟨o,ho,e,C,D⟩:=h.opt hl ht hg
  have E:=h.step b _ ht
  have F:=h.least (b:=b) I
  simp only at A hv
  rw [pO ht,ml hg,j8,← e]
  refine ⟨max (v+cg (bU l r) b) o.2.Lo,gd.2 ⟨_,hv,o,ho,g0.2 ⟨?_,U⟩⟩,?_⟩
  ·have G:(bU l r).fR=r.fR:=rfl
   simp only; omega
  ·simp only; omega
theorem iS.Pw (h:iS l r times good) (hl:dD l=0): ∀ (d b:Nat),b+d=times.length→ti (bU l r) b (dk (good.take b),uD r times b):=by
 intro d
 induction d with
 |zero=>
  intro b hb
  have hn:(bU l r).n=l.ab.length:=cU
  have C:=h.len
  have D:=h.le
  refine ⟨0,I,_,by simp [gr]; rfl,?_⟩
  rw [List.take_of_length_le I]
  unfold kM
  have A:=h.Jx
  have B:=h.Ru
  exact dx ⟨A,B⟩
 |succ d ih=>
  intro b hb
  have C:=h.len
  have ht:times[b]? =some (times[b]'I):=eD _
  have hg:good[b]? =some (good[b]'I):=eD _
  obtain ⟨o,ho,e,D,A⟩:=h.opt hl ht hg
  have B:=h.step b _ ht
  have E:=h.least (b:=b) I
  have F:(bU l r).fR=r.fR:=rfl
  have hv:=ih (b+1) I
  rw [pO ht,ml hg,j8,← e] at hv
  exact vq (k:=1) (iz.2 ⟨o,ho,_,g0.2 ⟨by first|omega|(simp only; omega),U⟩,by simp [gr]; rfl⟩) (yc hv (by first|omega|(simp only; omega)))
theorem iS.pass (h:iS l r times good) (hl:dD l=0) {b:Nat} {t g:Int} (ht:times[b]? =some t) (hg:good[b]? =some g):ye (bU l r) b g t:=by
 have hb:=(aW.1 ht).1
 obtain ⟨v,hv,A⟩:=h.live hl b I
 obtain ⟨o,ho,e,B,C⟩:=h.opt hl ht hg
 have D:=h.step b _ ht
 have E:=h.least (b:=b) hb
 have F:(bU l r).fR=r.fR:=rfl
 have hw:=h.Pw hl (times.length-(b+1)) (b+1) I
 rw [pO ht,ml hg,j8,← e] at hw
 simp only at A
 exact ⟨_,hv,o,ho,e,⟨by simp only; omega,I⟩,hw⟩
theorem iS.num (h:iS l r times good) (hl:dD l=0):(times.length:Int)∈gW (bU l r):=by
 obtain ⟨v,hv,_⟩:=h.live hl times.length (Nat.le_refl _)
 have hn:(bU l r).n=l.ab.length:=cU
 have B:=h.le
 refine nI.2 ⟨times.length,U,I,?_⟩
 unfold jC
 refine List.any_eq_true.2 ⟨_,hv,?_⟩
 have A:=h.len
 rw [List.take_of_length_le I]
 unfold kM
 exact dx ⟨h.Jx,h.Ru⟩
theorem iS.e (h:iS l r times good) (hl:dD l=0):dK l r 0=0:=lk hl h.jJ rfl fun e=>by have:=h.num hl; rw [e] at this; cases this
theorem iS.DS (h:iS l r times good) (hl:dD l=0):(times.length:Int)∈gn l r:=by rw [ju (h.e hl)]; exact h.num hl
theorem iS.not_false (h:iS l r times good) (hl:dD l=0) {b:Nat} {g:Int} (hg:good[b]? =some g) (h0:0≤g): ¬ g∈Lm l r∧ ¬ (b:Int)∈um l r:=by
 have hb:=(aW.1 hg).1
 have A:=h.len
 have B:=h.le
 have ht:times[b]? =some (times[b]'I):=eD _
 have hn:(bU l r).n=l.ab.length:=cU
 obtain ⟨q,hq,e,_⟩:=(wI (h.low hl) I).2 (h.pass hl ht hg)
 constructor
 ·rw [GF (h.e hl)]
  intro hm
  exact (Ei.1 hm).2 ⟨b,I,q,hq,e⟩
 ·rw [th (h.e hl)]
  intro hm
  unfold wH at hm
  obtain ⟨k,hk,ek⟩:=cE.1 hm
  obtain rfl:k=b:=by omega
  have hr:=(List.mem_filter.1 hk).2
  have:tL (bU l r) k=true:=List.any_eq_true.2 ⟨q,hq,dx I⟩
  rw [this] at hr
  cases hr
end
end
section
def e7 (hi:Int→Int) (least:Nat→Int) (now:Int):Nat→List Int→List Int×Int
 |_,[]=>([],now)
 |b,x::xs=>((if 0≤x then min (e7 hi least now (b+1) xs).2 (hi x) else (e7 hi least now (b+1) xs).2)::(e7 hi least now (b+1) xs).1,(if 0≤x then min (e7 hi least now (b+1) xs).2 (hi x) else (e7 hi least now (b+1) xs).2)-least b)
def gF (t:Int):List Int→Int
 |[]=>t
 |x::xs=>gF x xs
def ki (w:bZ):Nat→Int→List Int→List Int→Prop
 |_,_,[],[]=>True
 |b,t,x::rs,y::fs=>(∃ o∈iN w b,o.1=x∧max (t+cg w b) o.2.Lo≤min o.2.Hi w.fR∧y=max (t+cg w b) o.2.Lo)∧ki w (b+1) y rs fs
 |_,_,_,_=>False
section
variable {w:bZ} {hi:Int→Int} {least:Nat→Int} {now:Int}
theorem sj: ∀ (b:Nat) (rs:List Int),(e7 hi least now b rs).1.length=rs.length
 |_,[]=>rfl
 |b,x::xs=>by simp only [e7,List.length_cons]; rw [sj]
theorem nv: ∀ (t:Int) (fs:List Int) (y:Int),gF t (fs++[y])=y
 |_,[],_=>rfl
 |t,x::fs,y=>nv x fs y
theorem BB: ∀ (t:Int) (fs:List Int) (y:Int),fs[fs.length-1]? =some y→gF t fs=y
 |t,[],y,h=>by simp at h
 |t,[x],y,h=>by simpa [gF] using h
 |t,x::x2::fs,y,h=>by
  show gF x (x2::fs)=y
  exact BB x (x2::fs) y (by simpa using h)
theorem uE: ∀ (b:Nat) (rs:List Int) (x:Int) (ss:List Int),(e7 hi least now b (rs++x::ss)).1[rs.length]? =some (if 0≤x then min (e7 hi least now (b+rs.length+1) ss).2 (hi x) else (e7 hi least now (b+rs.length+1) ss).2)
 |b,[],x,ss=>by simp [e7]
 |b,z::rs,x,ss=>by
  have:=uE (b+1) rs x ss
  simp only [List.cons_append,e7,List.length_cons,List.getElem?_cons_succ]
  rw [this,show b+1+rs.length+1=b+(rs.length+1)+1 by omega]
theorem ks: ∀ (b:Nat) (t:Int) (rs fs:List Int),ki w b t rs fs→fs.length=rs.length
 |_,_,[],[],_=>rfl
 |b,t,x::rs,y::fs,h=>by simp [ks _ _ rs fs h.2]
 |_,_,[],_::_,h=>h.elim
 |_,_,_::_,[],h=>h.elim
theorem rJ: ∀ (b:Nat) (t:Int) (rs fs ss gs:List Int),fs.length=rs.length→(ki w b t (rs++ss) (fs++gs)↔ki w b t rs fs∧ki w (b+rs.length) (gF t fs) ss gs)
 |b,t,[],[],ss,gs,_=>by simp [ki,gF]
 |b,t,x::rs,y::fs,ss,gs,h=>by
  have ih:=rJ (b+1) y rs fs ss gs (by simpa using h)
  simp only [List.cons_append,ki,List.length_cons,gF]
  rw [ih,show b+1+rs.length=b+(rs.length+1) by omega,and_assoc]
 |_,_,[],_::_,_,_,h=>by simp at h
 |_,_,_::_,[],_,_,h=>by simp at h
theorem DE (b:List Int): ∀ t:aI,b.foldl (fun t g=>dF t (fD g)) t=dF t (dk b):=by
 induction b with
 |nil=>intro t; exact (nz t).symm
 |cons x b ih=>
  intro t
  show b.foldl (fun t g=>dF t (fD g)) (dF t (fD x))=dF t (b.foldl (fun t g=>dF t (fD g)) (dF ⟨0,0⟩ (fD x)))
  rw [ih,ih]; simp only [dF,aI.mk.injEq]; omega
theorem r_ (a b:List Int):dk (a++b)=dF (dk a) (dk b):=by
 show (a++b).foldl _ _=_
 rw [List.foldl_append,DE]; rfl
theorem rH:dk []=(⟨0,0⟩:aI):=rfl
theorem p8 (l:List Int):dF (⟨0,0⟩:aI) (dk l)=dk l:=by simp [dF]
theorem tg (x:Int) (l:List Int):dk (x::l)=dF (fD x) (dk l):=by
 rw [show x::l=[x]++l from rfl,r_,show dk [x]=fD x from (j8 (l:=[])).trans (by rw [rH]; simp [dF])]
theorem uc: ∀ l:List Int,0≤(dk l).right∧0≤(dk l).eT∧(dk l).right+(dk l).eT=(l.length:Int)
 |[]=>by rw [rH]; simp
 |x::l=>by
  rw [tg]
  have:=vw x
  have:=uc l
  simp only [dF,List.length_cons]
  omega
/-- chains are what the watch goes through -/
theorem j9: ∀ (k b:Nat) (p q:aI×Int),q∈gr w k b p↔ ∃ rs fs,rs.length=k∧ki w b p.2 rs fs∧q=(dF p.1 (dk rs),gF p.2 fs):=by
 intro k
 induction k with
 |zero=>
  intro b p q
  simp only [gr,cq]
  constructor
  ·rintro rfl; exact ⟨[],[],rfl,trivial,by rw [rH,nz]; rfl⟩
  ·rintro ⟨rs,fs,A,B,rfl⟩
   have A:=hZ A
   subst A
   have:=hZ (ks _ _ _ _ B)
   subst this
   rw [rH,nz]; rfl
 |succ k ih=>
  intro b p q
  rw [iz]
  constructor
  ·rintro ⟨o,ho,p',e,h⟩
   obtain ⟨A,rfl⟩:=g0.1 e
   obtain ⟨rs,fs,B,C,rfl⟩:=(ih _ _ _).1 h
   refine ⟨o.1::rs,max (p.2+cg w b) o.2.Lo::fs,by simp [B],⟨⟨o,ho,U,A,U⟩,C⟩,?_⟩
   rw [tg]
   simp only [gF,dF,Prod.mk.injEq,aI.mk.injEq,and_true]; omega
  ·rintro ⟨rs,fs,A,B,rfl⟩
   cases rs with
   |nil=>simp at A
   |cons x rs=>
    cases fs with
    |nil=>exact B.elim
    |cons y fs=>
     obtain ⟨⟨o,ho,rfl,C,rfl⟩,D⟩:=B
     refine ⟨o,ho,_,g0.2 ⟨C,U⟩,(ih _ _ _).2 ⟨rs,fs,by simpa using A,D,?_⟩⟩
     rw [tg]
     simp only [gF,dF,Prod.mk.injEq,aI.mk.injEq,and_true]; omega
/-- what the reference's rows of last times know -/
structure KU (w:bZ) (hi:Int→Int) (least:Nat→Int) (now:Int):Prop where
 low: ∀ b,0≤cg w b
 least: ∀ b,b<w.n→least b=cg w b
 now:now=w.fR
 hi: ∀ b o,b<w.n→o∈iN w b→0≤o.1→o.2.Hi=hi o.1
 none_: ∀ b o,b<w.n→o∈iN w b→ ¬ 0≤o.1→o.2.Hi=w.fR
theorem xO (h:KU w hi least now): ∀ (b:Nat) (rs:List Int),b+rs.length≤w.n→(e7 hi least now b rs).2≤w.fR
 |_,[],_=>by simp only [e7]; exact Int.le_of_eq h.now
 |b,x::xs,hb=>by
  simp only [List.length_cons] at hb
  have B:=xO h (b+1) xs I
  have A:=h.low b
  rw [← h.least b I] at A
  simp only [e7]
  split<;>omega
theorem rI (h:KU w hi least now): ∀ (b:Nat) (t:Int) (rs fs:List Int),b+rs.length≤w.n→t≤w.fR→ki w b t rs fs→t≤(e7 hi least now b rs).2
 |_,t,[],[],_,ht,_=>by simp only [e7]; rw [h.now]; exact ht
 |b,t,x::rs,y::fs,hb,ht,hc=>by
  simp only [List.length_cons] at hb
  obtain ⟨⟨o,ho,rfl,D,rfl⟩,A⟩:=hc
  have B:=rI h (b+1) _ rs fs I I A
  have C:=h.least b I
  simp only [e7]
  split
  ·rename_i q
   have:=h.hi b o I ho q
   omega
  ·omega
 |_,_,[],_::_,_,_,hc=>hc.elim
 |_,_,_::_,[],_,_,hc=>hc.elim
theorem xZ (h:KU w hi least now): ∀ (b:Nat) (t t':Int) (rs fs:List Int),b+rs.length≤w.n→t≤t'→t'≤(e7 hi least now b rs).2→ki w b t rs fs→ ∃ gs,ki w b t' rs gs
 |_,t,_,[],[],_,_,_,_=>⟨[],trivial⟩
 |b,t,t',x::rs,y::fs,hb,ht,he,hc=>by
  simp only [List.length_cons] at hb
  obtain ⟨⟨o,ho,rfl,E,rfl⟩,A⟩:=hc
  have C:=rI h (b+1) _ rs fs I I A
  have D:=h.least b I
  have F:=xO h (b+1) rs I
  simp only [e7] at he
  have B:max (t'+cg w b) o.2.Lo≤min o.2.Hi w.fR∧max (t'+cg w b) o.2.Lo≤(e7 hi least now (b+1) rs).2:=by
   split at he
   ·rename_i q
    have:=h.hi b o I ho q
    omega
   ·rename_i q
    have:=h.none_ b o I ho q
    omega
  obtain ⟨gs,hg⟩:=xZ h (b+1) _ (max (t'+cg w b) o.2.Lo) rs fs I I B.2 A
  exact ⟨_::gs,⟨o,ho,U,B.1,U⟩,hg⟩
 |_,_,_,[],_::_,_,_,_,hc=>hc.elim
 |_,_,_,_::_,[],_,_,_,hc=>hc.elim
theorem CC (b:Nat) (t t':Int) (rs fs:List Int) (ht:t'≤t) (hc:ki w b t rs fs): ∃ gs,ki w b t' rs gs:=by
 have A:(dF ⟨0,0⟩ (dk rs),gF t fs)∈gr w rs.length b (⟨0,0⟩,t):=(j9 _ _ _ _).2 ⟨rs,fs,rfl,hc,rfl⟩
 clear A
 induction rs generalizing b t t' fs with
 |nil=>exact ⟨[],trivial⟩
 |cons x rs ih=>
  cases fs with
  |nil=>exact hc.elim
  |cons y fs=>
   obtain ⟨⟨o,ho,rfl,C,rfl⟩,B⟩:=hc
   obtain ⟨gs,hg⟩:=ih (b+1) _ (max (t'+cg w b) o.2.Lo) fs I B
   exact ⟨_::gs,⟨o,ho,U,I,U⟩,hg⟩
/-- a way, as it is asked for -/
structure Oz (w:bZ) (hi:Int→Int) (least:Nat→Int) (now:Int) (y:du):Prop where
 chain:ki w 0 w.Start y.fY y.iE
 len:y.fY.length≤w.n
 last:y.lI=(e7 hi least now 0 y.fY).1
 may:kM w (dk y.fY)=true
theorem BQ {k:Nat}:jC w (fwd w k)=true↔ ∃ rs fs,rs.length=k∧ki w 0 w.Start rs fs∧kM w (dk rs)=true:=by
 unfold jC
 rw [List.any_eq_true]
 have e:=fun q=>(rW (w:=w) k 0 q)
 rw [Nat.zero_add] at e
 constructor
 ·rintro ⟨q,hq,hm⟩
  obtain ⟨p,hp,h⟩:=(e q).1 hq
  simp only [fwd,cq] at hp
  subst hp
  obtain ⟨rs,fs,A,B,rfl⟩:=(j9 _ _ _ _).1 h
  refine ⟨rs,fs,A,B,?_⟩
  rwa [p8] at hm
 ·rintro ⟨rs,fs,A,B,C⟩
  refine ⟨_,(e _).2 ⟨((⟨0,0⟩:aI),w.Start),cq.2 U,(j9 _ _ _ _).2 ⟨rs,fs,A,B,U⟩⟩,?_⟩
  simp only [p8]; exact C
theorem KY (h:KU w hi least now) (hs:w.Start≤w.fR) {b:Nat} (hb:b<w.n) {s t:Int}:ye w b s t↔ ∃ y,Oz w hi least now y∧ ∃ f e,y.fY[b]? =some s∧y.iE[b]? =some f∧y.lI[b]? =some e∧f≤t∧t≤e:=by
 have ef:=fun q=>(rW (w:=w) b 0 q)
 rw [Nat.zero_add] at ef
 constructor
 ·rintro ⟨p,hp,o,ho,rfl,⟨C,L⟩,k,hk,q,hq,hm⟩
  obtain ⟨Y,AB,hp⟩:=(ef p).1 hp
  simp only [fwd,cq] at AB
  subst AB
  obtain ⟨rs,fs,K,D,rfl⟩:=(j9 _ _ _ _).1 hp
  obtain ⟨ss,gs,AA,E,rfl⟩:=(j9 _ _ _ _).1 hq
  simp only at C L D E hm
  obtain ⟨gs',J⟩:=CC (b+1) t (max (gF w.Start fs+cg w b) o.2.Lo) ss gs C E
  have H:=ks _ _ _ _ D
  have T:=ks _ _ _ _ J
  have hc:ki w 0 w.Start (rs++o.1::ss) (fs++max (gF w.Start fs+cg w b) o.2.Lo::gs'):=(rJ _ _ _ _ _ _ H).2 ⟨D,by rw [Nat.zero_add,K]; exact ⟨⟨o,ho,rfl,I,rfl⟩,J⟩⟩
  have he:=rI h (b+1) t ss gs I I E
  have A:=uE (hi:=hi) (least:=least) (now:=now) 0 rs o.1 ss
  rw [Nat.zero_add,K] at A
  refine ⟨⟨rs++o.1::ss,fs++max (gF w.Start fs+cg w b) o.2.Lo::gs',(e7 hi least now 0 (rs++o.1::ss)).1⟩,⟨hc,by simp; omega,U,?_⟩,max (gF w.Start fs+cg w b) o.2.Lo,_,?_,?_,A,C,?_⟩
  ·show kM w (dk (rs++o.1::ss))=true
   rw [show rs++o.1::ss=(rs++[o.1])++ss by simp,r_,j8]
   rwa [p8] at hm
  ·show (rs++o.1::ss)[b]? =some o.1
   rw [List.getElem?_append_right I,K,Nat.sub_self]; rfl
  ·show (fs++_::gs')[b]? =_
   rw [List.getElem?_append_right I,H,K,Nat.sub_self]; rfl
  ·split
   ·rename_i q
    have:=h.hi b o hb ho q
    omega
   ·exact he
 ·rintro ⟨y,hy,f,e,C,L,P,Q,V⟩
  obtain ⟨R,F,La⟩:=y
  obtain ⟨hc,hn,A,hm⟩:=hy
  simp only at C L P hc hn A hm
  have N:=(aW.1 C).1
  have S:=ks _ _ _ _ hc
  have eR:R=R.take b++s::R.drop (b+1):=by rw [← (aW.1 C).2]; exact (List.take_append_drop b R).symm.trans (by rw [List.drop_eq_getElem_cons N])
  have M:b<F.length:=by omega
  have eF:F=F.take b++f::F.drop (b+1):=by rw [← (aW.1 L).2]; exact (List.take_append_drop b F).symm.trans (by rw [List.drop_eq_getElem_cons M])
  rw [eR,eF,rJ _ _ _ _ _ _ (by simp only [List.length_take]; omega)] at hc
  have O:(R.take b).length=b:=by rw [List.length_take]; omega
  rw [O,Nat.zero_add] at hc
  obtain ⟨D,⟨o,ho,rfl,W,rfl⟩,E⟩:=hc
  have B:=uE (hi:=hi) (least:=least) (now:=now) 0 (R.take b) o.1 (R.drop (b+1))
  rw [← eR,O,Nat.zero_add,← A,P] at B
  have B:=Option.some.inj B
  have G:t≤(e7 hi least now (b+1) (R.drop (b+1))).2∧t≤min o.2.Hi w.fR:=by
   have X:=xO h (b+1) (R.drop (b+1)) (by rw [List.length_drop]; omega)
   split at B
   ·rename_i q
    have:=h.hi b o hb ho q
    omega
   ·rename_i q
    have:=h.none_ b o hb ho q
    omega
  obtain ⟨gs,J⟩:=xZ h (b+1) _ t (R.drop (b+1)) (F.drop (b+1)) (by rw [List.length_drop]; omega) Q G.1 E
  refine ⟨(dF ⟨0,0⟩ (dk (R.take b)),gF w.Start (F.take b)),(ef _).2 ⟨((⟨0,0⟩:aI),w.Start),cq.2 U,(j9 _ _ _ _).2 ⟨_,_,O,D,U⟩⟩,o,ho,U,⟨Q,G.2⟩,(R.drop (b+1)).length,by rw [List.length_drop]; omega,_,(j9 _ _ _ _).2 ⟨_,gs,U,J,U⟩,?_⟩
  show kM w (dF (dF (dF ⟨0,0⟩ (dk (R.take b))) (fD o.1)) (dk (R.drop (b+1))))=true
  rw [p8,← j8,← r_,show R.take b++[o.1]++R.drop (b+1)=R from by rw [List.append_assoc]; exact eR.symm]
  exact hm
end
noncomputable def LH (l:bk) (r:cw) (x:Int):Int:=match r.aa[x.toNat]? with
 |some s=>(cP l s).Hi
 |none=>0
theorem Ek {l:bk} {r:cw} {x:Int} {s:aG} (h:r.aa[x.toNat]? =some s):LH l r x=(cP l s).Hi:=by unfold LH; rw [h]
noncomputable def jE (l:bk) (r:cw) (rs:List Int):List Int:=(e7 (LH l r) (dY l) r.fR 0 rs).1
noncomputable def o5 (l:bk) (r:cw) (n:Nat) (t i:Int):Option Int:=
 if i<0 then (if t≤r.fR then some t else none) else match r.aa[i.toNat]? with
  |some s=>if (s.fE=(n:Int)∧(cP l s).Lo≤(cP l s).Hi)∧max t (cP l s).Lo≤min r.fR (cP l s).Hi then some (max t (cP l s).Lo) else none
  |none=>none
noncomputable def hG (l:bk) (r:cw) (rs fs:List Int):List du:=if (r.aa.length:Int)-(dk rs).right≤l.fZ then [⟨rs,fs,jE l r rs⟩] else []
noncomputable def iy (l:bk) (r:cw):Nat→List Int→List Int→List du
 |0,rs,fs=>if l.dL<(dk rs).eT then [] else hG l r rs fs
 |k+1,rs,fs=>if l.dL<(dk rs).eT then [] else hG l r rs fs++(List.range (r.aa.length+1)).flatMap fun (j:Nat)=>match o5 l r rs.length (gF r.Start fs+dY l rs.length) ((j:Int)-1) with
  |some t=>iy l r k (rs++[(j:Int)-1]) (fs++[t])
  |none=>[]
noncomputable def Dc (l:bk) (r:cw) (k:Nat) (rs fs:List Int) (j:Nat):List du:=hG l r rs fs++(List.range j).flatMap fun (j:Nat)=>match o5 l r rs.length (gF r.Start fs+dY l rs.length) ((j:Int)-1) with
 |some t=>iy l r k (rs++[(j:Int)-1]) (fs++[t])
 |none=>[]
noncomputable def iB (l:bk) (r:cw) (k:Nat) (rs fs:List Int) (j:Nat):List du:=(List.range j).flatMap fun (j:Nat)=>match o5 l r rs.length (gF r.Start fs+dY l rs.length) ((j:Int)-1) with
 |some t=>iy l r k (rs++[(j:Int)-1]) (fs++[t])
 |none=>[]
section
variable {l:bk} {r:cw} {k j:Nat} {rs fs:List Int} {t:Int}
theorem r9:Dc l r k rs fs j=hG l r rs fs++iB l r k rs fs j:=rfl
theorem ny (h:o5 l r rs.length (gF r.Start fs+dY l rs.length) ((j:Int)-1)=some t):iB l r k rs fs (j+1)=iB l r k rs fs j++iy l r k (rs++[(j:Int)-1]) (fs++[t]):=by
 unfold iB; rw [List.range_succ,List.flatMap_append]; simp [h]
theorem rr (h:o5 l r rs.length (gF r.Start fs+dY l rs.length) ((j:Int)-1)=none):iB l r k rs fs (j+1)=iB l r k rs fs j:=by
 unfold iB; rw [List.range_succ,List.flatMap_append]; simp [h]
theorem nX (h:l.dL<(dk rs).eT):iy l r k rs fs=[]:=by cases k<;>exact if_pos h
theorem nN (h: ¬ l.dL<(dk rs).eT):iy l r 0 rs fs=hG l r rs fs:=if_neg h
theorem nV (h: ¬ l.dL<(dk rs).eT):iy l r (k+1) rs fs=Dc l r k rs fs (r.aa.length+1):=if_neg h
theorem Bm {n:Nat} (hn:n<l.ab.length) (hl:0≤dY l n) (ht:r.Start≤t) {i y:Int} (hi: -1≤i):o5 l r n (t+dY l n) i=some y↔ ∃ o∈iN (bU l r) n,o.1=i∧max (t+cg (bU l r) n) o.2.Lo≤min o.2.Hi (bU l r).fR∧y=max (t+cg (bU l r) n) o.2.Lo:=by
 rw [pV hn]
 have hw:(bU l r).fR=r.fR:=rfl
 unfold o5
 constructor
 ·intro h
  split at h
  ·rename_i B
   split at h
   ·cases h
    exact ⟨(-1,⟨r.Start,r.fR⟩),(rE hn).2 (.inl U),by simp only; omega,by simp only; omega,by simp only; omega⟩
   ·cases h
  ·rename_i B
   split at h
   ·rename_i s hs
    split at h
    ·rename_i q
     cases h
     exact ⟨((i.toNat:Nat),cP l s),(rE hn).2 (.inr ⟨i.toNat,(aW.1 hs).1,s,hs,q.1,U⟩),by simp only; omega,by simp only; omega,U⟩
    ·cases h
   ·cases h
 ·rintro ⟨o,ho,rfl,A,rfl⟩
  rcases (rE hn).1 ho with rfl|⟨k,hk,s,hs,q,rfl⟩
  ·simp only at A ⊢
   rw [if_pos I,if_pos I]
   congr 1; omega
  ·simp only at A ⊢
   rw [if_neg I,Int.toNat_natCast,hs]
   simp only
   rw [if_pos ⟨q,I⟩]
theorem I3 (hl: ∀ n,n<l.ab.length→0≤dY l n): ∀ (k:Nat) (rs fs:List Int) (y:du),rs.length+k=l.ab.length→fs.length=rs.length→r.Start≤gF r.Start fs→
 (y∈iy l r k rs fs↔ ∃ ss gs,ki (bU l r) rs.length (gF r.Start fs) ss gs∧ss.length≤k∧y=⟨rs++ss,fs++gs,jE l r (rs++ss)⟩∧kM (bU l r) (dk (rs++ss))=true):=by
 have D: ∀ (rs fs:List Int) (y:du),¬ l.dL<(dk rs).eT→(y∈hG l r rs fs↔y=⟨rs++[],fs++[],jE l r (rs++[])⟩∧kM (bU l r) (dk (rs++[]))=true):=by
  intro rs fs y hm
  unfold hG
  rw [List.append_nil,List.append_nil]
  have e:kM (bU l r) (dk rs)=true↔(r.aa.length:Int)-(dk rs).right≤l.fZ:=by
   unfold kM
   rw [decide_eq_true_eq]
   exact ⟨fun q=>q.2,fun q=>⟨by have:(bU l r).dL=l.dL:=rfl; omega,q⟩⟩
  split
  ·rename_i q
   rw [cq]
   exact ⟨fun h=>⟨h,e.2 q⟩,fun h=>h.1⟩
  ·rename_i q
   exact ⟨fun h=>(by cases h),fun h=>absurd (e.1 h.2) q⟩
 have Jx: ∀ (rs ss:List Int),l.dL<(dk rs).eT→ ¬ kM (bU l r) (dk (rs++ss))=true:=by
  intro rs ss h q
  unfold kM at q
  have:=(of_decide_eq_true q).1
  rw [r_] at this
  have C:=uc ss
  simp only [dF] at this
  have:(bU l r).dL=l.dL:=rfl
  omega
 intro k
 induction k with
 |zero=>
  intro rs fs y hn hf hs
  by_cases hm:l.dL<(dk rs).eT
  ·rw [nX hm]
   exact ⟨fun h=>(by cases h),fun ⟨ss,gs,_,_,_,q⟩=>absurd q (Jx rs ss hm)⟩
  ·rw [nN hm,D _ _ _ hm]
   constructor
   ·rintro ⟨B,C⟩; exact ⟨[],[],trivial,sm,B,C⟩
   ·rintro ⟨ss,gs,B,C,E,F⟩
    have e:=hZ (Nat.le_zero.1 C)
    subst e
    have e:=hZ (ks _ _ _ _ B)
    subst e
    exact ⟨E,F⟩
 |succ k ih=>
  intro rs fs y hn hf hs
  by_cases hm:l.dL<(dk rs).eT
  ·rw [nX hm]
   exact ⟨fun h=>(by cases h),fun ⟨ss,gs,_,_,_,q⟩=>absurd q (Jx rs ss hm)⟩
  ·rw [nV hm]
   unfold Dc
   rw [gJ,D _ _ _ hm,List.mem_flatMap]
   have A: ∀ (x y:Int),(rs++[x]).length+k=l.ab.length∧(fs++[y]).length=(rs++[x]).length:=fun x y=>by simp; omega
   constructor
   ·rintro (⟨B,C⟩|⟨j,hj,h⟩)
    ·exact ⟨[],[],trivial,sm,B,C⟩
    ·cases e:o5 l r rs.length (gF r.Start fs+dY l rs.length) ((j:Int)-1) with
     |none=>rw [e] at h; cases h
     |some t=>
      rw [e] at h
      simp only at h
      obtain ⟨o,ho,B,C,E⟩:=(Bm I (hl _ I) hs I).1 e
      have G:r.Start≤t:=by
       have:=hl rs.length I
       rw [pV I] at E
       omega
      obtain ⟨ss,gs,F,J,H,AA⟩:=(ih _ _ y (A _ t).1 (A _ t).2 (by rw [nv]; exact G)).1 h
      rw [nv,List.length_append] at F
      refine ⟨((j:Int)-1)::ss,t::gs,⟨⟨o,ho,B,C,E⟩,F⟩,by simp; omega,by simpa using H,by simpa using AA⟩
   ·rintro ⟨ss,gs,B,C,E,F⟩
    cases ss with
    |nil=>
     have e:=hZ (ks _ _ _ _ B)
     subst e
     exact .inl ⟨E,F⟩
    |cons x ss=>
     cases gs with
     |nil=>exact B.elim
     |cons t gs=>
      obtain ⟨⟨o,ho,rfl,J,H⟩,AA⟩:=B
      right
      have hx: -1≤o.1∧o.1<(r.aa.length:Int):=by
       rcases (rE I).1 ho with rfl|⟨k,hk,s,hs,q,rfl⟩
       ·simp only; omega
       ·simp only; omega
      have G:r.Start≤t:=by
       have:=hl rs.length I
       rw [pV I] at H
       omega
      have K:((o.1+1).toNat:Int)-1=o.1:=by omega
      refine ⟨(o.1+1).toNat,List.mem_range.2 I,?_⟩
      rw [K,(Bm I (hl _ I) hs I).2 ⟨o,ho,rfl,J,H⟩]
      simp only
      refine (ih _ _ y (A _ t).1 (A _ t).2 (by rw [nv]; exact G)).2 ⟨ss,gs,?_,?_,?_,?_⟩
      ·rw [nv,List.length_append]; exact AA
      ·simp only [List.length_cons] at C; omega
      ·simpa using E
      ·simpa using F
end
theorem yW {l:bk} {r:cw} {rs fs:List Int} (h:(r.aa.length:Int)-(dk rs).right≤l.fZ):hG l r rs fs=[⟨rs,fs,jE l r rs⟩]:=if_pos h
theorem yo {l:bk} {r:cw} {rs fs:List Int} (h: ¬ (r.aa.length:Int)-(dk rs).right≤l.fZ):hG l r rs fs=[]:=if_neg h
noncomputable def eO (l:bk) (r:cw) (i:Nat):List ag:=(r.aa.take i).map (cP l)
noncomputable def fu (l:bk) (r:cw) (i:Nat):List Bool:=(r.aa.take i).map fun s=>decide ((cP l s).Lo≤(cP l s).Hi)
section
variable {l:bk} {r:cw} {i n:Nat} {s:aG} {rs:List Int}
theorem DP (h:r.aa[i]? =some s):eO l r (i+1)=eO l r i++[cP l s]:=by unfold eO; rw [List.take_add_one,h,List.map_append]; rfl
theorem DM (h:r.aa[i]? =some s):fu l r (i+1)=fu l r i++[decide ((cP l s).Lo≤(cP l s).Hi)]:=by unfold fu; rw [List.take_add_one,h,List.map_append]; rfl
theorem rX (h:i≤r.aa.length):(eO l r i).length=i:=by unfold eO; rw [List.length_map,List.length_take]; omega
theorem uS (h:i≤r.aa.length):(fu l r i).length=i:=by unfold fu; rw [List.length_map,List.length_take]; omega
theorem H_ {k:Nat} {z:ag} (hs:r.aa[k]? =some s) (hz:(eO l r r.aa.length)[k]? =some z):z=cP l s:=by
 unfold eO at hz
 rw [List.take_length,fM,hs] at hz
 exact (Option.some.inj hz).symm
theorem KG {k:Nat} {z:ag} (hz:(eO l r r.aa.length)[k]? =some z): ∃ s,r.aa[k]? =some s∧z=cP l s:=by
 unfold eO at hz
 rw [List.take_length,fM] at hz
 cases h:r.aa[k]? with
 |none=>rw [h] at hz; cases hz
 |some s=>rw [h] at hz; exact ⟨s,rfl,(Option.some.inj hz).symm⟩
theorem AZ {k:Nat} {z:Bool} (hs:r.aa[k]? =some s) (hz:(fu l r r.aa.length)[k]? =some z):z=true↔(cP l s).Lo≤(cP l s).Hi:=by
 unfold fu at hz
 rw [List.take_length,fM,hs] at hz
 rw [← Option.some.inj hz]
 exact decide_eq_true_iff
theorem yi (l:bk) (s:aG):(0≤(cP l s).Lo∧(cP l s).Lo≤86400001)∧ -1≤(cP l s).Hi∧(cP l s).Hi≤86400000:=by
 have A:=iG (p:=gI (qg l s) s.Read) (n:=86400001)
 have B:=iG (p:=gK (qg l s) s.Read) (n:=86400001)
 unfold cP rq
 simp only
 omega
/-- the last times from a beam on -/
noncomputable def jT (l:bk) (r:cw) (rs:List Int) (j:Nat):List Int×Int:=e7 (LH l r) (dY l) r.fR j (rs.drop j)
noncomputable def jY (l:bk) (r:cw) (rs:List Int) (j:Nat):List Int:=List.replicate j 0++(jT l r rs j).1
noncomputable def tY (l:bk) (r:cw) (rs:List Int) (j:Nat) (x:Int):Int:=if 0≤x then min (jT l r rs j).2 (LH l r x) else (jT l r rs j).2
theorem uX:jT l r rs rs.length=([],r.fR):=by unfold jT; rw [List.drop_length]; rfl
theorem HH:jY l r rs rs.length=List.replicate rs.length 0:=by unfold jY; rw [uX]; simp
theorem DK:jY l r rs 0=jE l r rs:=by unfold jY jT jE; simp
theorem pJ {j:Nat} {x:Int} (hj:0<j) (hx:rs[j-1]? =some x):jT l r rs (j-1)=(tY l r rs j x::(jT l r rs j).1,tY l r rs j x-dY l (j-1)):=by
 unfold jT tY
 have hb:=(aW.1 hx).1
 rw [List.drop_eq_getElem_cons hb,(aW.1 hx).2,show j-1+1=j by omega]
 simp only [e7]
 rw [show j-1+1=j by omega]
 rfl
theorem Hs {j:Nat} (h:j≤rs.length):(jY l r rs j).length=rs.length:=by unfold jY jT; rw [List.length_append,List.length_replicate,sj,List.length_drop]; omega
theorem yT {j:Nat} {x:Int} (hj:0<j) (hx:rs[j-1]? =some x):(jY l r rs j).set (j-1) (tY l r rs j x)=jY l r rs (j-1):=by
 unfold jY
 rw [pJ hj hx]
 simp only
 obtain ⟨k,rfl⟩: ∃ k,j=k+1:=⟨j-1,I⟩
 rw [Nat.add_sub_cancel,List.replicate_succ',List.append_assoc,List.set_append_right _ _ sm,List.length_replicate,Nat.sub_self]
 rfl
theorem EE (hr:0≤r.fR∧r.fR≤86400000) (hl: ∀ b,b<rs.length→0≤dY l b∧dY l b≤500000000) (hrs: ∀ x∈rs,0≤x→x<(r.aa.length:Int)): ∀ (d j:Nat),j+d=rs.length→(-1-500000000*(d:Int))≤(jT l r rs j).2∧(jT l r rs j).2≤86400000
 |0,j,h=>by
  obtain rfl:j=rs.length:=by omega
  rw [uX]; simp only; omega
 |d+1,j,h=>by
  have ih:=EE hr hl hrs d (j+1) I
  have hx:rs[j+1-1]? =some (rs[j]'I):=by rw [Nat.add_sub_cancel]; exact eD _
  have e:=pJ (l:=l) (r:=r) (j:=j+1) I hx
  rw [Nat.add_sub_cancel] at e
  rw [e]
  simp only
  have A:=hl j I
  unfold tY
  split
  ·rename_i q
   have B:=hrs _ (List.getElem_mem (by omega:j<rs.length)) q
   obtain ⟨s,hs⟩: ∃ s,r.aa[(rs[j]'I).toNat]? =some s:=⟨r.aa[(rs[j]'I).toNat]'I,eD _⟩
   rw [Ek hs]
   have C:=yi l s
   omega
  ·omega
theorem IJ {t i:Int} (hi:i<0):(t≤r.fR→o5 l r n t i=some t)∧(¬ t≤r.fR→o5 l r n t i=none):=by
 unfold o5; rw [if_pos hi]; exact ⟨fun h=>if_pos h,fun h=>if_neg h⟩
theorem Lg {t i:Int} (hi: ¬ i<0) (hs:r.aa[i.toNat]? =some s) (hb:s.fE=(n:Int)) (hw:(cP l s).Lo≤(cP l s).Hi):(max t (cP l s).Lo≤min r.fR (cP l s).Hi→o5 l r n t i=some (max t (cP l s).Lo))∧(¬ max t (cP l s).Lo≤min r.fR (cP l s).Hi→o5 l r n t i=none):=by
 unfold o5; rw [if_neg hi,hs]
 exact ⟨fun h=>if_pos ⟨⟨hb,hw⟩,h⟩,fun h=>if_neg fun q=>h q.2⟩
theorem xr {t i:Int} (hi: ¬ i<0) (hs:r.aa[i.toNat]? =some s) (hb: ¬ (s.fE=(n:Int)∧(cP l s).Lo≤(cP l s).Hi)):o5 l r n t i=none:=by
 unfold o5; rw [if_neg hi,hs]
 exact if_neg fun q=>hb q.1
theorem uy {x:Int} (hx:rs[i]? =some x):(dk (rs.take (i+1))).right=(dk (rs.take i)).right+(if 0≤x then 1 else 0):=by
 rw [ml hx,j8]
 unfold fD
 simp only [dF]
 by_cases h:x<0
 ·rw [if_pos h,if_neg I]
 ·rw [if_neg h,if_pos I]
end
theorem w6 {l:bk} {r:cw} {rs fs:List Int}:(hG l r rs fs).length≤1:=by unfold hG; split<;>simp
theorem xy {l:bk} {r:cw} (hr:r.aa.length≤10): ∀ (k:Nat) (rs fs:List Int),(iy l r k rs fs).length≤12^(k+1)
 |0,rs,fs=>by
  unfold iy
  split
  ·simp
  ·have:=w6 (l:=l) (r:=r) (rs:=rs) (fs:=fs); omega
 |k+1,rs,fs=>by
  unfold iy
  split
  ·simp
  ·rw [List.length_append]
   have B:=w6 (l:=l) (r:=r) (rs:=rs) (fs:=fs)
   have A: ∀ j,(iB l r k rs fs j).length≤j*12^(k+1):=by
    intro j
    induction j with
    |zero=>simp [iB]
    |succ j ih=>
     cases e:o5 l r rs.length (gF r.Start fs+dY l rs.length) ((j:Int)-1) with
     |none=>rw [rr e,Nat.succ_mul]; exact Nat.le_trans ih (Nat.le_add_right _ _)
     |some t=>rw [ny e,List.length_append,Nat.succ_mul]; exact Nat.add_le_add ih (xy hr k (rs++[(j:Int)-1]) (fs++[t]))
   have C:=A (r.aa.length+1)
   have D:(r.aa.length+1)*12^(k+1)≤11*12^(k+1):=Nat.mul_le_mul_right _ I
   have E:0<12^(k+1):=Nat.pow_pos dc
   have F:12^(k+1+1)=12*12^(k+1):=by rw [Nat.pow_succ,Nat.mul_comm]
   show (hG l r rs fs).length+(iB l r k rs fs (r.aa.length+1)).length≤_
   omega
theorem KW {l:bk} {r:cw} (hr:r.aa.length≤10) {k j:Nat} {rs fs:List Int} (hk:k≤5) (hj:j≤11):(iB l r k rs fs j).length≤40000000:=by
 have A: ∀ j,(iB l r k rs fs j).length≤j*12^(k+1):=by
  intro j
  induction j with
  |zero=>simp [iB]
  |succ j ih=>
   cases e:o5 l r rs.length (gF r.Start fs+dY l rs.length) ((j:Int)-1) with
   |none=>rw [rr e,Nat.succ_mul]; exact Nat.le_trans ih (Nat.le_add_right _ _)
   |some t=>rw [ny e,List.length_append,Nat.succ_mul]; exact Nat.add_le_add ih (xy hr k (rs++[(j:Int)-1]) (fs++[t]))
 have C:=A j
 have B:12^(k+1)≤12^6:=Nat.pow_le_pow_right dc I
 have D:j*12^(k+1)≤11*12^6:=Nat.mul_le_mul hj B
 omega
theorem vx {l:bk} {r:cw} (hr:r.aa.length≤10) {k:Nat} {rs fs:List Int} (hk:k≤6):(iy l r k rs fs).length≤40000000:=by
 have A:=xy hr k rs fs (l:=l)
 have B:12^(k+1)≤12^7:=Nat.pow_le_pow_right dc I
 omega
noncomputable def pA (l:bk) (r:cw):List du:=iy l r l.ab.length [] []
section
variable {l:bk} {r:cw}
theorem lQ:(bU l r).n=l.ab.length:=cU
theorem OK (hle:dD l=0) (hr:dU l r):KU (bU l r) (LH l r) (dY l) r.fR:=by
 obtain ⟨ht,B⟩:=dM hle
 refine ⟨fun b=>((lD ht B hr).cg b).1,fun b hb=>(pV (by rw [lQ] at hb; exact hb)).symm,U,fun b o hb ho A=>?_,fun b o hb ho A=>?_⟩
 ·rw [lQ] at hb
  rcases (rE hb).1 ho with rfl|⟨k,hk,s,hs,q,rfl⟩
  ·simp only at A; omega
  ·exact (Ek (by simpa using hs)).symm
 ·rw [lQ] at hb
  rcases (rE hb).1 ho with rfl|⟨k,hk,s,hs,q,rfl⟩
  ·rfl
  ·simp only at A; omega
theorem oD (hle:dD l=0) (hr:dU l r) {y:du}:y∈pA l r↔Oz (bU l r) (LH l r) (dY l) r.fR y:=by
 obtain ⟨ht,D⟩:=dM hle
 have hl: ∀ n,n<l.ab.length→0≤dY l n:=fun n hn=>by have:=mx ht D (i:=n) hn; omega
 unfold pA
 rw [I3 hl _ _ _ _ sm rfl (Int.le_refl _)]
 constructor
 ·rintro ⟨ss,gs,B,A,rfl,C⟩
  exact ⟨B,by rw [lQ]; exact A,U,C⟩
 ·rintro ⟨B,A,E,C⟩
  rw [lQ] at A
  exact ⟨y.fY,y.iE,B,A,by rw [List.nil_append,List.nil_append]; unfold jE; rw [← E],C⟩
theorem Ch (hle:dD l=0) (hr:dU l r) {k:Nat} (hk:k≤l.ab.length):((pA l r).any fun y=>decide (y.fY.length=k))=jC (bU l r) (fwd (bU l r) k):=by
 rw [Bool.eq_iff_iff,BQ,List.any_eq_true]
 constructor
 ·rintro ⟨y,hy,e⟩
  have h:=(oD hle hr).1 hy
  exact ⟨y.fY,y.iE,of_decide_eq_true e,h.chain,h.may⟩
 ·rintro ⟨rs,fs,e,A,B⟩
  exact ⟨⟨rs,fs,(e7 (LH l r) (dY l) r.fR 0 rs).1⟩,(oD hle hr).2 ⟨A,by rw [lQ]; simp only; omega,U,B⟩,dx e⟩
theorem eH (hle:dD l=0) (hr:dU l r):pA l r=[]↔gW (bU l r)=[]:=by
 constructor
 ·intro h
  apply List.eq_nil_iff_forall_not_mem.2
  intro x hx
  obtain ⟨k,rfl,hk,hm⟩:=nI.1 hx
  rw [lQ] at hk
  rw [← Ch hle hr hk,h] at hm
  cases hm
 ·intro h
  apply List.eq_nil_iff_forall_not_mem.2
  intro y hy
  have hw:=(oD hle hr).1 hy
  have:(y.fY.length:Int)∈gW (bU l r):=nI.2 ⟨y.fY.length,rfl,hw.len,BQ.2 ⟨_,_,rfl,hw.chain,hw.may⟩⟩
  rw [h] at this; cases this
/-- the times at a beam, by all ways -/
def iJ (b:Nat) (ws:List du):List (Int×ag):=ws.filterMap fun y=>match y.fY[b]?,y.iE[b]?,y.lI[b]? with
 |some s,some f,some e=>some (s,⟨f,e⟩)
 |_,_,_=>none
theorem jA {b:Nat} {ws:List du} {q:Int×ag}:q∈iJ b ws↔ ∃ y∈ws,y.fY[b]? =some q.1∧y.iE[b]? =some q.2.Lo∧y.lI[b]? =some q.2.Hi:=by
 unfold iJ
 rw [List.mem_filterMap]
 constructor
 ·rintro ⟨y,hy,h⟩
  cases e1:y.fY[b]? with
  |none=>rw [e1] at h; cases h
  |some s=>
   cases e2:y.iE[b]? with
   |none=>rw [e1,e2] at h; cases h
   |some f=>
    cases e3:y.lI[b]? with
    |none=>rw [e1,e2,e3] at h; cases h
    |some e=>
     rw [e1,e2,e3] at h; cases h
     exact ⟨y,hy,e1,e2,e3⟩
 ·rintro ⟨y,hy,A,B,C⟩
  exact ⟨y,hy,by rw [A,B,C]⟩
theorem xg {b:Nat} {ws:List du} {y:du} (h:y.fY.length≤b):iJ b (ws++[y])=iJ b ws:=by
 unfold iJ; rw [List.filterMap_append]; simp [List.getElem?_eq_none h]
theorem qo {b:Nat} {ws:List du} {y:du} {s f e:Int} (h1:y.fY[b]? =some s) (h2:y.iE[b]? =some f) (h3:y.lI[b]? =some e):iJ b (ws++[y])=iJ b ws++[(s,⟨f,e⟩)]:=by
 unfold iJ; rw [List.filterMap_append]; simp [h1,h2,h3]
theorem yr (hle:dD l=0) (hr:dU l r) {y:du} (hy:y∈pA l r):y.iE.length=y.fY.length∧y.lI.length=y.fY.length∧y.fY.length≤l.ab.length:=by
 have h:=(oD hle hr).1 hy
 exact ⟨ks _ _ _ _ h.chain,by rw [h.last,sj],by have:=h.len; rwa [lQ] at this⟩
theorem mK (hle:dD l=0) (hr:dU l r) {b:Nat} (hb:b<l.ab.length) {s t:Int}:(∃ q∈j_ (bU l r) b,q.1=s∧q.2.Lo≤t∧t≤q.2.Hi)↔ ∃ q∈iJ b (pA l r),q.1=s∧q.2.Lo≤t∧t≤q.2.Hi:=by
 have hh:=OK hle hr
 rw [wI hh.low (by rw [lQ]; exact hb),KY hh hr.time.2.1 (by rw [lQ]; exact hb)]
 constructor
 ·rintro ⟨y,hy,f,e,A,B,C,D,E⟩
  exact ⟨(s,⟨f,e⟩),jA.2 ⟨y,(oD hle hr).2 hy,A,B,C⟩,U,D,E⟩
 ·rintro ⟨q,hq,rfl,D,E⟩
  obtain ⟨y,hy,A,B,C⟩:=jA.1 hq
  exact ⟨y,(oD hle hr).1 hy,_,_,A,B,C,D,E⟩
/-- a way's span is none that is empty -/
theorem rz (hle:dD l=0) (hr:dU l r) {b:Nat} {q:Int×ag} (hq:q∈iJ b (pA l r)):q.2.Lo≤q.2.Hi:=by
 have hh:=OK hle hr
 obtain ⟨y,hy,C,D,H⟩:=jA.1 hq
 obtain ⟨hc,hn,B,hm⟩:=(oD hle hr).1 hy
 obtain ⟨R,F,La⟩:=y
 simp only at C D H hc hn B
 have G:=(aW.1 C).1
 have E:=(aW.1 D).1
 have L:=ks _ _ _ _ hc
 have eR:R=R.take b++q.1::R.drop (b+1):=by rw [← (aW.1 C).2]; exact (List.take_append_drop b R).symm.trans (by rw [List.drop_eq_getElem_cons G])
 have eF:F=F.take b++q.2.Lo::F.drop (b+1):=by rw [← (aW.1 D).2]; exact (List.take_append_drop b F).symm.trans (by rw [List.drop_eq_getElem_cons E])
 rw [eR,eF,rJ _ _ _ _ _ _ (by simp only [List.length_take]; omega)] at hc
 have AA:(R.take b).length=b:=by rw [List.length_take]; omega
 rw [AA,Nat.zero_add] at hc
 obtain ⟨M,⟨o,ho,K,N,O⟩,J⟩:=hc
 have A:=uE (hi:=LH l r) (least:=dY l) (now:=r.fR) 0 (R.take b) q.1 (R.drop (b+1))
 rw [← eR,AA,Nat.zero_add,← B,H] at A
 have A:=Option.some.inj A
 have he:=rI hh (b+1) q.2.Lo (R.drop (b+1)) (F.drop (b+1)) (by rw [List.length_drop]; omega) I J
 rw [← K] at A
 split at A
 ·rename_i z
  have:=hh.hi b o I ho z
  omega
 ·omega
theorem B5 {a b:List (Int×ag)} {h k:ag} (ha:kE a h) (hb:kE b k) (hab: ∀ x∈b,(∃ y∈a,y.2.Lo≤x.2.Lo)∧ ∃ y∈a,x.2.Hi≤y.2.Hi) (hba: ∀ x∈a,(∃ y∈b,y.2.Lo≤x.2.Lo)∧ ∃ y∈b,x.2.Hi≤y.2.Hi):h=k:=by
 rcases ha with ⟨rfl,rfl⟩|ha
 ·rcases hb with ⟨rfl,rfl⟩|hb
  ·rfl
  ·obtain ⟨x,hx,_⟩:=hb.lo
   obtain ⟨⟨y,hy,_⟩,_⟩:=hab x hx
   cases hy
 ·rcases hb with ⟨rfl,rfl⟩|hb
  ·obtain ⟨x,hx,_⟩:=ha.lo
   obtain ⟨⟨y,hy,_⟩,_⟩:=hba x hx
   cases hy
  ·obtain ⟨M,E,AA⟩:=ha.lo
   obtain ⟨N,F,V⟩:=ha.hi
   obtain ⟨O,G,W⟩:=hb.lo
   obtain ⟨P,H,X⟩:=hb.hi
   obtain ⟨⟨AB,A,Y⟩,_⟩:=hba M E
   obtain ⟨_,J,B,Z⟩:=hba N F
   obtain ⟨⟨K,C,c⟩,_⟩:=hab O G
   obtain ⟨_,L,D,d⟩:=hab P H
   have Q:=hb.all AB A
   have R:=hb.all J B
   have S:=ha.all K C
   have T:=ha.all L D
   apply ag.ext
   ·omega
   ·omega
theorem Ir (hle:dD l=0) (hr:dU l r) {b:Nat} (hb:b<l.ab.length) {h:ag} (hh:kE (iJ b (pA l r)) h):h=kh l r b:=by
 have hk:=oT (l:=j_ (bU l r) b) (fun q hq=>jD hq)
 refine B5 hh hk (fun x hx=>?_) (fun x hx=>?_)
 ·have hle':=jD hx
  obtain ⟨y,hy,_,A,C⟩:=(mK hle hr hb (s:=x.1) (t:=x.2.Lo)).1 ⟨x,hx,rfl,Int.le_refl _,hle'⟩
  obtain ⟨z,hz,_,D,B⟩:=(mK hle hr hb (s:=x.1) (t:=x.2.Hi)).1 ⟨x,hx,rfl,hle',Int.le_refl _⟩
  exact ⟨⟨y,hy,A⟩,z,hz,B⟩
 ·have hle':=rz hle hr hx
  obtain ⟨y,hy,_,A,C⟩:=(mK hle hr hb (s:=x.1) (t:=x.2.Lo)).2 ⟨x,hx,rfl,Int.le_refl _,hle'⟩
  obtain ⟨z,hz,_,D,B⟩:=(mK hle hr hb (s:=x.1) (t:=x.2.Hi)).2 ⟨x,hx,rfl,hle',Int.le_refl _⟩
  exact ⟨⟨y,hy,A⟩,z,hz,B⟩
end
def pK (ws:List du) (b:Nat):Int:=if sP (iJ b ws)=lH then 6 else 0
def pL (ws:List du) (b:Nat):ag:=if sP (iJ b ws)=lH then ⟨0,0⟩ else sP (iJ b ws)
theorem MU {l:List (Int×ag)} {h:ag} (hh:kE l h) (hl: ∀ q∈l,q.2.Lo≤q.2.Hi):sP l=h:=
 B5 (oT hl) hh (fun x hx=>⟨⟨x,hx,Int.le_refl _⟩,x,hx,Int.le_refl _⟩) (fun x hx=>⟨⟨x,hx,Int.le_refl _⟩,x,hx,Int.le_refl _⟩)
theorem Dq {ws:List du} {b:Nat} (h:iJ b ws=[]):pK ws b=6∧pL ws b=⟨0,0⟩:=by
 unfold pK pL; rw [h]; exact ⟨if_pos rfl,if_pos rfl⟩
theorem DG {ws:List du} {b:Nat} {o:ag} (hl: ∀ q∈iJ b ws,q.2.Lo≤q.2.Hi) (h:oQ (iJ b ws) o):pK ws b=0∧pL ws b=o:=by
 have e:=MU (.inr h) hl
 unfold pK pL; rw [e]; exact ⟨if_neg h.ne,if_neg h.ne⟩
/-- what was found until now -/
def nT (b:Nat) (ws:List du) (fd:Bool) (o:ag):Prop:=(fd=false∧iJ b ws=[])∨(fd=true∧oQ (iJ b ws) o)
theorem GS {b:Nat} {o:ag}:nT b [] false o:= .inl ⟨rfl,rfl⟩
theorem BM {q:Int×ag} (hq:q.2.Lo≤q.2.Hi):oQ [q] q.2:=⟨hq,⟨q,sm,rfl⟩,⟨q,sm,rfl⟩,fun x hx=>by simp at hx; subst hx; exact ⟨Int.le_refl _,Int.le_refl _⟩⟩
theorem Ax {l:List (Int×ag)} {h:ag} {q:Int×ag} (hh:oQ l h) (hq:q.2.Lo≤q.2.Hi):oQ (l++[q]) ⟨min q.2.Lo h.Lo,max q.2.Hi h.Hi⟩:=by
 have:=vl (.inr hh) hq
 unfold mH at this
 rw [if_neg hh.ne] at this
 rcases this with ⟨e,_⟩|this
 ·simp at e
 ·exact this
theorem Eh {b:Nat} {ws:List du} {fd:Bool} {o:ag} {y:du} (h:nT b ws fd o) (hy:y.fY.length≤b):nT b (ws++[y]) fd o:=by
 unfold nT; rw [xg hy]; exact h
theorem Ca {b:Nat} {ws:List du} {fd:Bool} {o:ag} {y:du} {s f e:Int} (h:nT b ws fd o) (hf:fd=false) (h1:y.fY[b]? =some s) (h2:y.iE[b]? =some f) (h3:y.lI[b]? =some e) (hle:f≤e):nT b (ws++[y]) true ⟨f,e⟩:=by
 rcases h with ⟨_,q⟩|⟨q,_⟩
 ·right
  rw [qo h1 h2 h3,q]
  exact ⟨U,BM hle⟩
 ·rw [q] at hf; cases hf
theorem Eg {b:Nat} {ws:List du} {fd:Bool} {o:ag} {y:du} {s f e:Int} (h:nT b ws fd o) (hf:fd=true) (h1:y.fY[b]? =some s) (h2:y.iE[b]? =some f) (h3:y.lI[b]? =some e) (hle:f≤e):nT b (ws++[y]) true ⟨min f o.Lo,max e o.Hi⟩:=by
 rcases h with ⟨q,_⟩|⟨_,q⟩
 ·rw [q] at hf; cases hf
 ·right
  rw [qo h1 h2 h3]
  exact ⟨U,Ax q hle⟩
theorem zd {b:Nat} {ws:List du} {fd:Bool} {o:ag} (h:nT b ws fd o) (hl: ∀ q∈iJ b ws,q.2.Lo≤q.2.Hi):(fd=false→pK ws b=6∧pL ws b=⟨0,0⟩)∧(fd=true→pK ws b=0∧pL ws b=o):=by
 rcases h with ⟨q,h⟩|⟨q,h⟩
 ·exact ⟨fun _=>Dq h,fun e=>(by rw [q] at e; cases e)⟩
 ·exact ⟨fun e=>(by rw [q] at e; cases e),fun _=>DG hl h⟩
section
variable {l:bk} {r:cw}
theorem HZ (he:dK l r 0=0) {b:Nat} (hb:b<l.ab.length):pK (pA l r) b=de l r b∧pL (pA l r) b=cY l r b:=by
 obtain ⟨A,hr,_,_⟩:=gM he
 have h:=Ir A hr hb (oT fun q hq=>rz A hr hq)
 have ho:dK l r (iP l b)=0:=by rw [G5 hb]; exact he
 unfold pK pL
 rw [h]
 by_cases e:kh l r b=lH
 ·rw [if_pos e,if_pos e,(qU ho e).1,(qU ho e).2]; exact ⟨rfl,rfl⟩
 ·rw [if_neg e,if_neg e,(ou ho e).1,(ou ho e).2]; exact ⟨rfl,rfl⟩
theorem QO (hle:dD l=0) (hr:dU l r) {y:du} (hy:y∈pA l r) {b:Nat} {f e:Int} (hb:b<y.fY.length) (h2:y.iE[b]? =some f) (h3:y.lI[b]? =some e):f≤e:=
 rz hle hr (q:=(y.fY[b],⟨f,e⟩)) (jA.2 ⟨y,hy,eD _,h2,h3⟩)
theorem BU:dK l r (iP l l.bS)=dK l r 0:=by
 by_cases h:dD l=0
 ·obtain ⟨_,A⟩:=dM h
  have hh:=A.head
  unfold eW at hh
  rw [o1 I]
 ·rw [gv h,gv h]
theorem vJ (h: ¬ dK l r 0=0):de l r l.bS=dK l r 0:=by
 have:=(l_ (b:=l.bS) (by rw [BU]; exact h)).1
 rw [this,BU]
/-- rows of times that are those of ways -/
structure MB (ws:List du):Prop where
 lens: ∀ y∈ws,y.iE.length=y.fY.length∧y.lI.length=y.fY.length∧y.fY.length≤6
 le: ∀ y∈ws,∀ (b:Nat) f e,b<y.fY.length→y.iE[b]? =some f→y.lI[b]? =some e→f≤e
 num:ws.length≤40000000
theorem MB.FV {ws:List du} (h:MB ws) {b:Nat}: ∀ q∈iJ b ws,q.2.Lo≤q.2.Hi:=fun q hq=>by
 obtain ⟨y,hy,A,B,C⟩:=jA.1 hq
 exact h.le y hy b _ _ (aW.1 A).1 B C
theorem Qf (hle:dD l=0) (hr:dU l r):MB (pA l r):=by
 obtain ⟨ht,B⟩:=dM hle
 have hh:=B.head
 unfold eW at hh
 refine ⟨fun y hy=>?_,fun y hy b f e hb A C=>QO hle hr hy hb A C,vx hr.len I⟩
 obtain ⟨D,A,C⟩:=yr hle hr hy
 exact ⟨D,A,I⟩
end
end
section
section
variable {hi:Int→Int} {least:Nat→Int} {now:Int}
theorem yK {n:Nat} (hl: ∀ b,b<n→0≤least b): ∀ (b:Nat) (rs:List Int) (k:Nat) (e1 e2:Int),b+rs.length≤n→(e7 hi least now b rs).1[k]? =some e1→(e7 hi least now b rs).1[k+1]? =some e2→e1≤e2
 |b,[],k,e1,e2,_,h1,_=>by simp [e7] at h1
 |b,[x],k,e1,e2,_,_,h2=>by simp [e7] at h2
 |b,x::y::rs,0,e1,e2,hb,h1,h2=>by
  simp only [List.length_cons] at hb
  have A:=hl (b+1) I
  simp only [e7,List.getElem?_cons_zero,List.getElem?_cons_succ,Option.some.injEq,Nat.zero_add] at h1 h2
  subst h1 h2
  split<;>split<;>omega
 |b,x::y::rs,k+1,e1,e2,hb,h1,h2=>by
  simp only [List.length_cons] at hb
  refine yK hl (b+1) (y::rs) k e1 e2 (by simp only [List.length_cons]; omega) ?_ ?_
  ·simp only [e7,List.getElem?_cons_succ] at h1 ⊢; exact h1
  ·simp only [e7,List.getElem?_cons_succ] at h2 ⊢; exact h2
theorem yM {n:Nat} (hl: ∀ b,b<n→0≤least b) {rs:List Int} (hn:rs.length≤n): ∀ (d k:Nat) (e1 e2:Int),(e7 hi least now 0 rs).1[k]? =some e1→(e7 hi least now 0 rs).1[k+d]? =some e2→e1≤e2
 |0,k,e1,e2,h1,h2=>by rw [Nat.add_zero,h1] at h2; cases h2; exact Int.le_refl _
 |d+1,k,e1,e2,h1,h2=>by
  obtain ⟨e,he⟩: ∃ e,(e7 hi least now 0 rs).1[k+d]? =some e:=⟨_,eD (by have:=(aW.1 h2).1; omega)⟩
  have A:=yM hl hn d k e1 e h1 he
  have B:=yK hl 0 rs (k+d) e e2 I he (by rw [Nat.add_assoc]; exact h2)
  omega
end
section
variable {l:bk} {r:cw} {b c:Nat}
theorem Gn (hle:dD l=0) (hr:dU l r) (hbc:b≤c) (hc:c<l.ab.length) (hp:kh l r b≠lH) (hall: ∀ n∈gW (bU l r),(c:Int)<n):(kh l r b).Hi≤(kh l r c).Hi:=by
 obtain ⟨ht,B⟩:=dM hle
 have hl: ∀ n,n<l.ab.length→0≤dY l n:=fun n hn=>by have:=mx ht B (i:=n) hn; omega
 rcases oT (l:=j_ (bU l r) b) (fun q hq=>jD hq) with ⟨_,e⟩|hb
 ·exact absurd e hp
 obtain ⟨x,hx,ex⟩:=hb.hi
 have C:=jD hx
 obtain ⟨q,hq,_,AA,J⟩:=(mK hle hr I (s:=x.1) (t:=x.2.Hi)).1 ⟨x,hx,rfl,C,Int.le_refl _⟩
 obtain ⟨y,hy,K,L,F⟩:=jA.1 hq
 obtain ⟨G,H,D⟩:=yr hle hr hy
 have E:(c:Int)<(y.fY.length:Int):=by
  refine hall _ (nI.2 ⟨y.fY.length,U,by rw [lQ]; exact D,?_⟩)
  rw [← Ch hle hr D,List.any_eq_true]
  exact ⟨y,hy,sm⟩
 obtain ⟨s',hs'⟩: ∃ s,y.fY[c]? =some s:=⟨_,eD I⟩
 obtain ⟨f',hf'⟩: ∃ s,y.iE[c]? =some s:=⟨_,eD I⟩
 obtain ⟨e',he'⟩: ∃ s,y.lI[c]? =some s:=⟨_,eD I⟩
 have hm:q.2.Hi≤e':=by
  have hw:=(oD hle hr).1 hy
  rw [hw.last] at F he'
  exact yM hl D (c-b) b _ _ F (by rw [show b+(c-b)=c by omega]; exact he')
 have A:(s',(⟨f',e'⟩:ag))∈iJ c (pA l r):=jA.2 ⟨y,hy,hs',hf',he'⟩
 obtain ⟨z,hz,_,M,N⟩:=(mK hle hr hc (s:=s') (t:=e')).2 ⟨_,A,rfl,rz hle hr A,Int.le_refl _⟩
 rcases oT (l:=j_ (bU l r) c) (fun q hq=>jD hq) with ⟨e,_⟩|hk
 ·rw [e] at hz; cases hz
 ·have:=hk.all z hz
  show (sP (j_ (bU l r) b)).Hi≤(sP (j_ (bU l r) c)).Hi
  omega
end
section
variable {l:bk} {r:cw} {b c:Int} {f:aM} {d:av}
theorem pQ (h:de l r b=0):dK l r (iP l b)=0∧cY l r b=kh l r b.toNat∧kh l r b.toNat≠lH:=by
 have hv:cY l r b=kh l r b.toNat:=by unfold cY; rw [if_pos h]
 unfold de at h
 split at h
 ·split at h
  ·cases h
  ·exact ⟨asm,hv,asm⟩
 ·rename_i q; exact absurd h q
theorem xK (h:dK l r (iP l b)=0) (hb:0≤b):b<(l.ab.length:Int)∧dK l r 0=0:=by
 by_cases c:0≤b∧b≤(l.ab.length:Int)-1
 ·rw [o1 c] at h; exact ⟨I,h⟩
 ·have e:iP l b=2:=by unfold iP; rw [if_neg c]
  rw [e] at h
  have:=gM h
  simp at this
/-- who passes a later beam has passed this one -/
theorem vz (h0:0≤b) (hbc:b≤c) (hc:de l r c=0):de l r b=0:=by
 obtain ⟨H,L,AA⟩:=pQ hc
 obtain ⟨J,ho⟩:=xK H I
 obtain ⟨A,hr,_⟩:=gM ho
 unfold de
 rw [o1 I,if_pos ho,if_neg]
 intro e
 rcases oT (l:=j_ (bU l r) c.toNat) (fun q hq=>jD hq) with ⟨_,F⟩|hk
 ·exact AA F
 obtain ⟨x,hx,_⟩:=hk.hi
 have D:=jD hx
 obtain ⟨q,hq,_⟩:=(mK A hr I (s:=x.1) (t:=x.2.Hi)).1 ⟨x,hx,rfl,D,Int.le_refl _⟩
 obtain ⟨y,hy,K,P,Q⟩:=jA.1 hq
 obtain ⟨M,N,O⟩:=yr A hr hy
 have E:=(aW.1 K).1
 obtain ⟨s',hs'⟩: ∃ s,y.fY[b.toNat]? =some s:=⟨_,eD I⟩
 obtain ⟨f',hf'⟩: ∃ s,y.iE[b.toNat]? =some s:=⟨_,eD I⟩
 obtain ⟨e',he'⟩: ∃ s,y.lI[b.toNat]? =some s:=⟨_,eD I⟩
 have B:(s',(⟨f',e'⟩:ag))∈iJ b.toNat (pA l r):=jA.2 ⟨y,hy,hs',hf',he'⟩
 obtain ⟨z,hz,_⟩:=(mK A hr I (s:=s') (t:=e')).2 ⟨_,B,rfl,rz A hr B,Int.le_refl _⟩
 rcases oT (l:=j_ (bU l r) b.toNat) (fun q hq=>jD hq) with ⟨G,_⟩|C
 ·rw [G] at hz; cases hz
 ·exact C.ne e
/-- and it passed it no later -/
theorem BP (h0:0≤b) (hbc:b≤c) (hc:de l r c=0) (he:mY l r c=true):(cY l r b).Hi≤(cY l r c).Hi∧mY l r b=true:=by
 obtain ⟨B,C,G⟩:=pQ hc
 obtain ⟨D,ho⟩:=xK B I
 obtain ⟨A,hr,_⟩:=gM ho
 obtain ⟨H,E,F⟩:=pQ (vz h0 hbc hc)
 have hw:=ju ho
 unfold mY at he ⊢
 rw [cV] at he ⊢
 refine ⟨?_,fun n hn=>?_⟩
 ·rw [E,C]
  refine Gn A hr I I F fun n hn=>?_
  have:=of_decide_eq_true (he n (by rw [hw]; exact hn))
  omega
 ·have:=of_decide_eq_true (he n hn)
  exact dx I
theorem Jt (h:(cr l r b).never=false):r.Start≤(cr l r b).Lo:=by
 unfold cr at h ⊢
 by_cases c:b<0
 ·rw [if_pos c]; exact Int.le_refl _
 ·rw [if_neg c] at h ⊢
  by_cases e:de l r b=0
  ·rw [if_pos e]; exact FH e
  ·rw [if_neg e] at h; cases h
theorem AN (hn: ¬ eC l f d=0):d.a_.Start≤f.To:=by
 unfold eC at hn
 by_cases hd:kY d
 ·rw [if_pos hd] at hn
  unfold iQ at hn
  by_cases c:(cr l d.a_ (mM f)).never=true∨f.To<(cr l d.a_ (mM f)).Lo∨(cr l d.a_ (zj l f)).Hi<f.gu
  ·rw [if_pos c] at hn; exact absurd rfl hn
  ·have A:=Jt (l:=l) (r:=d.a_) (b:=mM f) (by cases e:(cr l d.a_ (mM f)).never with |true=>exact absurd (.inl e) c|false=>rfl)
   omega
 ·rw [if_neg hd] at hn; exact absurd rfl hn
theorem As (hf:ew l f) (hl:0≤l.bS) (he:de l d.a_ l.bS=0) (hall:mY l d.a_ l.bS=true) (hn: ¬ eC l f d=0):f.gu≤(cY l d.a_ l.bS).Hi:=by
 unfold eC at hn
 by_cases hd:kY d
 ·rw [if_pos hd] at hn
  unfold iQ at hn
  by_cases c:(cr l d.a_ (mM f)).never=true∨f.To<(cr l d.a_ (mM f)).Lo∨(cr l d.a_ (zj l f)).Hi<f.gu
  ·rw [if_pos c] at hn; exact absurd rfl hn
  ·have B: ¬ (cr l d.a_ (zj l f)).Hi<f.gu:=fun q=>c (.inr (.inr q))
   have hb:0≤zj l f∧zj l f≤l.bS:=by
    have hw:=hf.2.2
    unfold zj
    by_cases k:f.Kind=1
    ·rw [if_pos k]; omega
    ·rw [if_neg k] at hw ⊢; exact hw
   have A:=BP hb.1 hb.2 he hall
   have C:(cr l d.a_ (zj l f)).Hi=(cY l d.a_ (zj l f)).Hi:=by
    unfold cr
    rw [if_neg I,if_pos (vz hb.1 hb.2 he)]
    show (if mY l d.a_ (zj l f)=true then _ else _)=_
    rw [if_pos A.2]
   omega
 ·rw [if_neg hd] at hn; exact absurd rfl hn
end
end
section
noncomputable def qV (j:cN) (f:aM) (ht:List av) (s:Nat):Bool:=(ht[s]?).any fun d=> !decide (eC j.Race.ar f d=0)
def m8 (f:aM) (a b:Int):aM:=⟨f.Kind,f.eL,max 0 (f.gu-a),min 86400000 (f.To+b)⟩
section
variable {j:cN} {f f1:aM} {ht:List av} {q k h n:Nat} {d:av} {x v w a b:Int} {row:List Int} {l:bk} {r:cw}
theorem Eu (ho:dK l r 0=0) (hw:(gn l r)[0]? =some w) (h:b<w):mY l r b=true:=by
 unfold mY
 rw [cV]
 intro n hn
 have hs:(gn l r).Pairwise (· < ·):=by
  rw [ju ho]; unfold gW j2
  rw [List.pairwise_map]
  exact List.Pairwise.imp (fun h=>by omega) (List.Pairwise.filter _ List.pairwise_lt_range)
 obtain ⟨i,hi⟩:=List.getElem?_of_mem hn
 refine dx ?_
 rcases Nat.eq_zero_or_pos i with rfl|e
 ·rw [hw] at hi; cases hi; exact h
 ·obtain ⟨B,D⟩:=aW.1 hi
  obtain ⟨A,C⟩:=aW.1 hw
  have:=eK.1 hs 0 i A B e
  omega
theorem wF (hd:ht[q]? =some d):qV j f ht q= !decide (eC j.Race.ar f d=0):=by unfold qV; rw [hd]; rfl
theorem Fj (e:dE j=0) (hf:j.ay[k]? =some f) (hh:j.Race.aB[h]? =some ht) (hr:(kN j k)[h]? =some row):row=jn (qV j f ht) ht.length:=by
 rw [Kr e hf hh] at hr; cases hr; rfl
theorem M0 (e:dE j=0) (hk:k<j.ay.length):BK j k=0:=by unfold BK; rw [if_pos e,if_pos I]
theorem Nh (hv:v=eC j.Race.ar f d) (hd:ht[q]? =some d) (h: ¬ v=0):((jn (qV j f ht) (q+1)).length:Int)=((jn (qV j f ht) q).length:Int)+1:=D4 (by rw [wF hd,← hv,bE h]; rfl)
theorem Pa (hv:v=eC j.Race.ar f d) (hd:ht[q]? =some d) (h:v=0):((jn (qV j f ht) (q+1)).length:Int)=((jn (qV j f ht) q).length:Int):=Gk (by rw [wF hd,← hv,dx h]; decide)
theorem NJ (hf:ew l f) (ha:0≤a) (hb:0≤b):(0≤(m8 f a b).gu∧(m8 f a b).gu≤f.gu)∧f.To≤(m8 f a b).To∧(m8 f a b).To≤86400000:=by
 have h:=hf.2.1
 simp only [m8]; omega
theorem Md (h1:(j.ay.set k ⟨f.Kind,f.eL,max 0 (f.gu-a),f.To⟩)[k]? =some f1) (hk:k<j.ay.length) (hv:v=min 86400000 (f.To+b)):(j.ay.set k ⟨f.Kind,f.eL,max 0 (f.gu-a),f.To⟩).set k ⟨f1.Kind,f1.eL,f1.gu,v⟩=j.ay.set k (m8 f a b):=by
 rw [List.getElem?_set_self hk] at h1; cases h1
 rw [List.set_set,hv]; rfl
/-- a ride of a valid race passed the finish -/
theorem JJ (e:dE j=0) (hh:j.Race.aB[h]? =some ht) (hd:ht[q]? =some d) (hr:kY d):de j.Race.ar d.a_ j.Race.ar.bS=0:=by
 have h:=((eU (eP e).1).2.gf ht (aR hh)).2 d (aR hd)
 rw [qE hr] at h
 exact h.1
end
end
section
open Go.RowKit
theorem Et (l:List aw) (az:List RA): ∀ v∈(List.zipWith aw.cells l az).flatten,v.oneCell'=true:=by
 induction l generalizing az with
 |nil=>intro v hv; simp at hv
 |cons x l ih=>
  cases az with
  |nil=>intro v hv; simp at hv
  |cons a az=>
   intro v hv
   rw [List.zipWith_cons_cons,List.flatten_cons,gJ] at hv
   rcases hv with hv|hv
   ·simp [aw.cells,dq.cells] at hv
    rcases hv with rfl|rfl<;>rfl
   ·exact ih az v hv
theorem km {l:List aw} {az:List RA} (h:az.length=l.length):(List.zipWith aw.cells l az).length=l.length:=by simp [h]
/-- addresses, of which some are new -/
def sw (bz az:List RA) (i:Nat):List RA:=bz++az.drop i
theorem qB {bz az:List RA} {i:Nat} (hb:bz.length=i) (hi:i≤az.length):(sw bz az i).length=az.length:=by simp [sw,hb]; omega
theorem I7 {bz az:List RA} {i:Nat} (h:az.length≤i):sw bz az i=bz:=by unfold sw; rw [List.drop_eq_nil_of_le h,List.append_nil]
theorem FR {bz az:List RA} {i:Nat} {a:RA} (hb:bz.length=i) (h:az[i]? =some a):(sw bz az i)[i]? =some a:=by
 unfold sw
 rw [List.getElem?_append_right I,hb,Nat.sub_self,List.getElem?_drop]
 simpa using h
theorem I_ {bz az:List RA} {i:Nat} {a b:RA} (hb:bz.length=i) (h:az[i]? =some a):(sw bz az i).set i b=sw (bz++[b]) az (i+1):=by
 unfold sw
 have hi:=(aW.1 h).1
 rw [List.set_append_right _ _ I,hb,Nat.sub_self,List.drop_eq_getElem_cons hi,List.set_cons_zero]
 simp
theorem MF {l:List aw} {bz az:List RA} {i:Nat} {x:aw} {xa nw:RA} (hx:l[i]? =some x) (hb:bz.length=i) (ha:az[i]? =some xa):
 (List.zipWith aw.cells l (sw bz az i)).set i (aw.cells x nw)=List.zipWith aw.cells l (sw (bz++[nw]) az (i+1)):=by
 rw [← I_ hb ha]
 apply List.ext_getElem?
 intro k
 rw [List.getElem?_set]
 by_cases e:i=k
 ·subst e
  have A:=FR hb ha
  have B:=(aW.1 A).1
  have C:=(aW.1 hx).1
  rw [if_pos rfl,List.getElem?_zipWith,hx,List.getElem?_set_self B,if_pos (by simp; omega)]
 ·rw [if_neg e,List.getElem?_zipWith,List.getElem?_zipWith,List.getElem?_set_ne e]
theorem Ga {l:List aw} {bz:List RA} {i:Nat} {x:aw} {nw:RA} (hx:l[i]? =some x) (hb:bz.length=i):bj aw.owns (l.take i) bz++aw.owns x nw=bj aw.owns (l.take (i+1)) (bz++[nw]):=by
 have hi:=(aW.1 hx).1
 rw [List.take_add_one,hx,Option.toList_some,jx (by rw [List.length_take,hb]; omega)]
 simp [bj]
theorem m_ {l:List aw} {bz:List RA}:(bQ (bj aw.owns l bz)).wr=true:=by
 show (bj aw.owns l bz).all (·.wr)=true
 rw [cV]
 intro X hX
 obtain ⟨k,m,a,_,_,h⟩:=j5 hX
 simp only [aw.owns,cq] at h
 subst h; rfl
/-- what is known of new rows -/
def tJ (l:List aw) (bz:List RA):Prop:= ∀ (k:Nat) m (a:RA),l[k]? =some m→bz[k]? =some a→m.bI.length≤a.2
theorem Lc {l:List aw} {bz:List RA} {i:Nat} {x:aw} {nw:RA} (h:tJ l bz) (hb:bz.length=i) (hx:l[i]? =some x) (hc:x.bI.length≤nw.2):tJ l (bz++[nw]):=fun k m a hm ha=>by
 by_cases e:k<bz.length
 ·rw [List.getElem?_append_left e] at ha
  exact h k m a hm ha
 ·rw [List.getElem?_append_right I] at ha
  have hk:k-bz.length=0:=by
   rcases Nat.eq_zero_or_pos (k-bz.length) with A|A
   ·exact A
   ·rw [List.getElem?_eq_none (by simp; omega)] at ha; cases ha
  rw [hk] at ha
  simp at ha
  have:k=i:=by omega
  subst this
  rw [hx] at hm; cases hm
  subst ha; exact hc
theorem n8: ∀ (m:aw) (a:RA) (w:World),(∀ X∈aw.owns m a,X.holds w)→ ∀ X∈aw.f_ m a,X.holds w:=fun m a w h X hX=>by
 simp only [aw.f_,cq] at hX
 subst hX
 have:=n9 (h _ (cq.2 rfl))
 simpa using this
theorem eg.PT {l:bk} {az bz:List RA} (h:eg l az) (hb:bz.length=l.aj.length) (hc:tJ l.aj bz):eg l bz:=⟨h.sJ,h.side,h.sL,hb,h.sH,fun k m a hm ha=>⟨hc k m a hm ha,by
 obtain ⟨A,B⟩: ∃ A,az[k]? =some A:=⟨az[k]'(by rw [h.og]; exact (aW.1 hm).1),eD _⟩
 exact (h.TO k m A hm B).2⟩⟩
section
variable {E:fg} {ops:Array Oper} {Q:dg} {rest:List Oper} {D:List Deferred} {L:List (Nat×Value)} {C:List ax}
theorem Sj {a:OA} {c e sz:Nat} {es:List (List Value)} (i:Nat) (hC:C[i]? =some (own a c e sz es)) (k:es.length≤c→RJ E ops Q rest D L C):RJ E ops Q rest D L C:=fun act w hf hs=>
 k (Mj (hs.holds _ (aR hC))) act w hf hs
end
end
section
open Go.RowKit
def DU (m:av) (a:RA):List ax:=[own a.1 a.2 Sq 2 (m.a_.aa.map aG.cells)]
def sG (m:List av) (a:cW):List ax:=own a.1.1 a.1.2 Sc 7 (List.zipWith av.cells m a.2)::bj DU m a.2
theorem Pz: ∀ (m:av) (a:RA) (w:World),(∀ X∈DU m a,X.holds w)→ ∀ X∈av.f_ m a,X.holds w:=fun m a w h X hX=>by
 simp only [av.f_,cq] at hX
 subst hX
 have:=n9 (h _ (cq.2 rfl))
 simpa using this
theorem nZ {m:List av} {asl:List RA} (h:asl.length=m.length):(List.zipWith av.cells m asl).length=m.length:=by simp [h]
theorem hH {m:List (List av)} {asl:List cW} (h:asl.length=m.length):(List.zipWith cL m asl).length=m.length:=by simp [h]
theorem Mi {m:List av} {asl:List RA}:(bj DU m asl).all (·.wr)=true:=by
 rw [cV]
 intro X hX
 obtain ⟨k,d,a,_,_,h⟩:=j5 hX
 simp only [DU,cq] at h
 subst h; rfl
theorem yl {m:List (List av)} {asl:List cW}:(bQ (bj sG m asl)).wr=true:=by
 show (bj sG m asl).all (·.wr)=true
 rw [cV]
 intro X hX
 obtain ⟨k,d,a,_,_,h⟩:=j5 hX
 rcases bT.1 h with rfl|h
 ·rfl
 ·exact cV.1 Mi X h
theorem MI (l:List av) (az:List RA): ∀ v∈(List.zipWith av.cells l az).flatten,v.oneCell'=true:=by
 induction l generalizing az with
 |nil=>intro v hv; simp at hv
 |cons x l ih=>
  cases az with
  |nil=>intro v hv; simp at hv
  |cons a az=>
   intro v hv
   rw [List.zipWith_cons_cons,List.flatten_cons,gJ] at hv
   rcases hv with hv|hv
   ·simp [av.cells,aP.cells,cz.cells,ag.cells] at hv
    rcases hv with rfl|rfl|rfl|rfl|rfl|rfl|rfl<;>rfl
   ·exact ih az v hv
theorem Hd (l:List (List av)) (az:List cW): ∀ v∈(List.zipWith cL l az).flatten,v.oneCell'=true:=by
 induction l generalizing az with
 |nil=>intro v hv; simp at hv
 |cons x l ih=>
  cases az with
  |nil=>intro v hv; simp at hv
  |cons a az=>
   intro v hv
   rw [List.zipWith_cons_cons,List.flatten_cons,gJ] at hv
   rcases hv with hv|hv
   ·simp [cL] at hv; subst hv; rfl
   ·exact ih az v hv
/-- every heat has as many places as descents -/
def zL (H:List (List av)) (hz:List cW):Prop:=hz.length=H.length∧ ∀ (k:Nat) h (a:cW),H[k]? =some h→hz[k]? =some a→a.2.length=h.length
theorem Nu {a:OA} {c e sz n:Nat} {es:List (List Value)} {w:World} (h:(own a c e sz es).holds w) (hn:es.length=n):(rd a n sz es).holds w:=by subst hn; exact n9 h
theorem lY {C:List ax} {H:List (List av)} {hz:List cW} (i:Nat) (hC:C[i]? =some (bQ (bj sG H hz))) (hh:zL H hz):iK C (dR (bj eY H hz)).holds:=fun w hw X hX=>by
 have hb:=hw _ (aR hC)
 obtain ⟨k,m,a,A,B,D⟩:=j5 hX
 rcases bT.1 D with rfl|D
 ·exact Nu (hb.1 _ (bK A B cy)) (nZ (hh.2 k m a A B))
 ·obtain ⟨q,d,b,E,F,G⟩:=j5 D
  exact Pz d b w (fun Y hY=>hb.1 Y (bK A B (dI _ (bK E F hY)))) X G
section
variable {α:Type}
def mm (bz az:List α) (i:Nat):List α:=bz++az.drop i
variable {bz az:List α} {i:Nat} {a b:α}
theorem ja (hb:bz.length=i) (hi:i≤az.length):(mm bz az i).length=az.length:=by simp [mm,hb]; omega
theorem AV (h:az.length≤i):mm bz az i=bz:=by unfold mm; rw [List.drop_eq_nil_of_le h,List.append_nil]
theorem EP (hb:bz.length=i) (h:az[i]? =some a):(mm bz az i)[i]? =some a:=by
 unfold mm
 rw [List.getElem?_append_right I,hb,Nat.sub_self,List.getElem?_drop]
 simpa using h
theorem KF (hb:bz.length=i):(mm (bz++[b]) az (i+1))[i]? =some b:=by
 unfold mm
 rw [List.getElem?_append_left (by simp; omega),List.getElem?_append_right I,hb,Nat.sub_self]; rfl
theorem KN (hb:bz.length=i) (h:az[i]? =some a):(mm bz az i).set i b=mm (bz++[b]) az (i+1):=by
 unfold mm
 have hi:=(aW.1 h).1
 rw [List.set_append_right _ _ I,hb,Nat.sub_self,List.drop_eq_getElem_cons hi,List.set_cons_zero]
 simp
theorem AT {M β:Type} {c:M→α→β} {l:List M} {x:M} (hx:l[i]? =some x) (hb:bz.length=i) (h:az[i]? =some a):(List.zipWith c l (mm bz az i)).set i (c x b)=List.zipWith c l (mm (bz++[b]) az (i+1)):=by
 rw [Kk,KN hb h]
 congr 1
 obtain ⟨hi,rfl⟩:=aW.1 hx
 exact List.set_getElem_self hi
theorem wW {M:Type} {f:M→α→List ax} {l:List M} {x:M} (hx:l[i]? =some x) (hb:bz.length=i):bj f (l.take i) bz++f x b=bj f (l.take (i+1)) (bz++[b]):=by
 have hi:=(aW.1 hx).1
 rw [List.take_add_one,hx,Option.toList_some,jx (by rw [List.length_take,hb]; omega)]
 simp [bj]
end
theorem AY: ∀ {l:List (List av)} {u v:List cW},u.map (·.1)=v.map (·.1)→List.zipWith cL l u=List.zipWith cL l v
 |[],u,v,_=>by simp
 |x::l,[],[],_=>rfl
 |x::l,[],b::v,h=>by simp at h
 |x::l,a::u,[],h=>by simp at h
 |x::l,a::u,b::v,h=>by
  simp only [List.map_cons,List.cons.injEq] at h
  rw [List.zipWith_cons_cons,List.zipWith_cons_cons,AY h.2]
  have e:cL x a=cL x b:=by simp only [cL,h.1]
  rw [e]
theorem JT {l:List (List av)} {hz ha:List cW} {p:RA} {x y:List RA} {i:Nat}:List.zipWith cL l (mm (hz++[(p,x)]) ha i)=List.zipWith cL l (mm (hz++[(p,y)]) ha i):=AY (by simp [mm])
theorem Nt {H:List (List av)} {hz:List cW} {i:Nat} {x:List av} {b:cW} (hx:H[i]? =some x) (h: ∀ (k:Nat) y (a:cW),H[k]? =some y→hz[k]? =some a→a.2.length=y.length) (hb:hz.length=i) (hl:b.2.length=x.length): ∀ (k:Nat) y (a:cW),H[k]? =some y→(hz++[b])[k]? =some a→a.2.length=y.length:=fun k y a hy ha=>by
 by_cases e:k<hz.length
 ·rw [List.getElem?_append_left e] at ha
  exact h k y a hy ha
 ·rw [List.getElem?_append_right I] at ha
  have hk:k-hz.length=0:=by
   rcases Nat.eq_zero_or_pos (k-hz.length) with A|A
   ·exact A
   ·rw [List.getElem?_eq_none (by simp; omega)] at ha; cases ha
  rw [hk] at ha
  simp at ha
  have:k=i:=by omega
  subst this
  rw [hx] at hy; cases hy
  subst ha; exact hl
theorem Nl {S:BS} {w0 w:World} {C:List ax} {A:ax} {Y Z:List ax} (h:St S w0 (A::bQ Y::bQ Z::C) w):St S w0 (bQ (Z++A::Y)::C) w:=by
 have D:St S w0 (bQ Y::A::bQ Z::C) w:=h.perm (List.Perm.swap _ _ _)
 have E:St S w0 (Y++(A::bQ Z::C)) w:=D.iU
 have F:St S w0 (bQ Z::(A::Y)++C) w:=E.perm (by
  have B:(Y++(A::bQ Z::C)).Perm ((A::bQ Z::C)++Y):=List.perm_append_comm
  refine B.trans ?_
  show (A::bQ Z::(C++Y)).Perm (bQ Z::A::(Y++C))
  exact (List.Perm.swap _ _ _).trans (((List.perm_append_comm (l₁:=C) (l₂:=Y)).cons A).cons _))
 have G:St S w0 (Z++((A::Y)++C)) w:=F.iU
 have H:St S w0 ((Z++A::Y)++C) w:=by simpa using G
 exact H.tied
abbrev RB (C:List ax) (i j k:Nat):List Nat:=k::j::i::(List.range C.length).filter fun q=>q != i&&q != j&&q != k
section
variable {E:fg} {ops:Array Oper} {Q:dg} {rest:List Oper} {D:List Deferred} {L:List (Nat×Value)} {C C1:List ax} {K:Act→World→Prop}
variable {H:List (List av)} {hz:List cW} {h h':List av} {a a':cW} {k:Nat} {X:ax} {Y Z Z':List ax}
/-- i: the others, j: what hangs on the row, q: the row -/
theorem Qx (i j q:Nat) (hn:decide (RB C i j q).Nodup=true) (hC:oo C (RB C i j q)=some (X::bQ Y::bQ Z::C1)) (e:Z++X::Y=Z') (hk:KJ E K D L (bQ Z'::C1)):KJ E K D L C:=fun a w hf hs=>by
 subst e; exact hk a w hf (Nl (St.ko _ hn (nj hC) hs))
end
theorem lG.PT {r:eZ} {az bz:List RA} {ha hz:List cW} (h:lG r az ha) (hb:bz.length=r.ar.aj.length) (hc:tJ r.ar.aj bz) (hh:zL r.aB hz):lG r bz hz:=⟨h.line.PT hb hc,h.ic,h.draw,h.ij,hh.1,fun k x a hx ha'=>by
 obtain ⟨A,C⟩: ∃ A,ha[k]? =some A:=⟨ha[k]'(by rw [h.has]; exact (aW.1 hx).1),eD _⟩
 have B:=h.gf k x A hx C
 exact ⟨B.len,hh.2 k x a hx ha',B.sig⟩⟩
end
section
open Go.RowKit
section
variable {K:Type} [DecidableEq K] {kV:K→Value}
variable {E:fg} {ops:Array Oper} {Q:dg} {rest:List Oper} {D:List Deferred} {L:List (Nat×Value)} {C:List ax}
variable {ty:TypeId} {ps:String} {af:Array Edge} {g:Option (Nat×Bool)}
theorem s8 {t kt et:TypeId} {xm xk:Operand} {ts:Array TypeId} {b:Nat} {x:K} {m m':List (K×Value)} {C':List ax} (i:Nat) (hg:j0 ops L g=true) (hm:ev L xm=some (.map (some b))) (hk:ev L xk=some (kV x)) (hts:ts[0]? =some t)
 (ht:E.P.underlying t=some (.map kt et)) (hkt:vg E.P kt kV) (hC:C[i]? =some (j1 kV b m)) (hm':e9 m x=m') (hC':C.set i (j1 kV b m')=C') (k:RJ E ops Q rest D L C'):
 RJ E ops Q (⟨none,.call {callee:= .builtin .delete,args:= #[xm,xk],argTypes:=ts},ty,ps,af,g⟩::rest) D L C:=by
 subst hm' hC'
 intro a w A hs
 unfold sR
 rw [if_pos (ep A hg)]
 obtain ⟨es,c,he,hi⟩:=hs.holds _ (aR hC)
 have B:(getObj b).run E.P w= .ok (.map es c) w:=MapKept.run_getObj_map he
 rcases px (P:=E.P) (w:=w) (x:=x) hkt hi with ⟨F,G⟩|⟨j,AA,F,G,H⟩
 ·refine iZ (v:= .tuple #[]) (w':={w with heap:=w.heap.setIfInBounds b (.map es c)}) sm ?_ ?_
  ·simp [execOp,resolve,invoke,builtin,A.ev hm,A.ev hk,Builtin.delete_,hts,run_underlying ht,B,jf hkt,F,MapKept.run_setObj_map _ he]
  ·refine k _ _ ⟨A.defers,A.size,A.at_⟩ (hs.yU (b:=b) i hC U U (nD _) (fun _ h=>h) ⟨_,_,pE he,?_⟩)
   rw [Ey G]; exact hi
 ·refine iZ (v:= .tuple #[]) (w':={w with heap:=w.heap.setIfInBounds b (.map (es.eraseIdxIfInBounds j) c)}) sm ?_ ?_
  ·simp [execOp,resolve,invoke,builtin,A.ev hm,A.ev hk,Builtin.delete_,hts,run_underlying ht,B,jf hkt,F,MapKept.run_setObj_map _ he]
  ·exact k _ _ ⟨A.defers,A.size,A.at_⟩ (hs.yU (b:=b) i hC U U (nD _) (fun _ h=>h) ⟨_,_,pE he,hi.del G⟩)
end
end
section
set_option maxRecDepth 20000
def Td:ao:=⟨1,⟨10000,10200⟩,⟨0,0⟩,⟨0,0⟩,0,0⟩
def yz:aw:=⟨100,[⟨0,⟨0,2⟩⟩,⟨100000,⟨5,6⟩⟩]⟩
def QV (o:Int):bJ:=⟨⟨0,⟨o,o⟩⟩,0⟩
def oj (f:Int):bk:=⟨[Td],2000,[yz],[QV 1000,QV 4000,QV 9000],1,f,1⟩
def my:cw:=⟨10000,20000,[⟨0,10600⟩,⟨0,11000⟩,⟨1,12600⟩]⟩
theorem I2:di [Td]=true:=by decide
theorem xH:e8 yz:=by
 have hi: ∀ (i:Nat) (x:cQ),yz.bI[i]? =some x→i=0∧x=⟨0,⟨0,2⟩⟩∨i=1∧x=⟨100000,⟨5,6⟩⟩:=fun i x h=>by
  match i with
  |0=>left; simp [yz] at h; exact ⟨rfl,h.symm⟩
  |1=>right; simp [yz] at h; exact ⟨rfl,h.symm⟩
  |n+2=>simp [yz] at h
 refine ⟨dc,dc,fun i x hx=>?_,fun i k x o hx hk ho=>?_⟩
 ·rcases hi i x hx with ⟨rfl,rfl⟩|⟨rfl,rfl⟩<;>(unfold fJ; decide)
 ·rcases hi i x hx with ⟨rfl,rfl⟩|⟨rfl,rfl⟩
  ·omega
  ·rcases hi k o ho with ⟨rfl,rfl⟩|⟨rfl,rfl⟩
   ·unfold nS; decide
   ·omega
theorem Ap {o:Int} (h:0≤o∧o<10000):fH [Td] ⟨0,⟨o,o⟩⟩:=⟨sm,Td,rfl,by show o≤o∧0≤o∧o≤10000-1; omega⟩
theorem Mo {f:Int} (hf:0≤f∧f≤3):lK (oj f):=by
 refine ⟨?_,fun c hc=>?_,fun b hb=>?_,fun i hi=>?_⟩
 ·unfold eW; simp [oj]; omega
 ·simp [oj] at hc; subst hc; exact xH
 ·simp [oj] at hb
  rcases hb with rfl|rfl|rfl
  ·exact ⟨Ap I,by simp [QV,oj]⟩
  ·exact ⟨Ap I,by simp [QV,oj]⟩
  ·exact ⟨Ap I,by simp [QV,oj]⟩
 ·have A:i<3:=hi
  have:i=0∨i=1∨i=2:=by omega
  rcases this with rfl|rfl|rfl
  ·show (1:Int)≤lz (oj 0) 0; decide
  ·show (1:Int)≤lz (oj 0) 1; decide
  ·show (1:Int)≤lz (oj 0) 2; decide
def hP:bk:=oj 1
theorem Oo:dD hP=0:=wY I2 (Mo I)
theorem J0 {r x:Int} (h0:0<x) (h1:x≤86400000) (hy:gI yz r x=true) (hn:gI yz r (x-1)=false):fI (gI yz r) 86400001=x:=
 zl I I hy fun z hz A=>by
  cases e:gI yz r z with
  |false=>rfl
  |true=>
   unfold gI at e hn
   have:=(oO xH hz (show z≤x-1 by omega) I).2
   have B:=of_decide_eq_true e
   have C:=of_decide_eq_false hn
   omega
theorem JC {r x:Int} (h0:0<x) (h1:x≤86400000) (hy:gK yz r x=true) (hn:gK yz r (x-1)=false):fI (gK yz r) 86400001=x:=
 zl I I hy fun z hz A=>by
  cases e:gK yz r z with
  |false=>rfl
  |true=>
   unfold gK at e hn
   have:=(oO xH hz (show z≤x-1 by omega) I).1
   have B:=of_decide_eq_true e
   have C:=of_decide_eq_false hn
   omega
theorem Rb:rq yz 10600=⟨10596,10602⟩:=by unfold rq; rw [J0 (x:=10596) I I dc dc,JC (x:=10603) I I dc dc]; rfl
theorem Rr:rq yz 11000=⟨10996,11002⟩:=by unfold rq; rw [J0 (x:=10996) I I dc dc,JC (x:=11003) I I dc dc]; rfl
theorem RW:rq yz 12600=⟨12596,12602⟩:=by unfold rq; rw [J0 (x:=12596) I I dc dc,JC (x:=12603) I I dc dc]; rfl
def RL (f:Int):bZ:=⟨10000,20000,[500,1500,2500],[[(0,⟨10596,10602⟩),(1,⟨10996,11002⟩)],[(2,⟨12596,12602⟩)],[]],1,f,3⟩
theorem Re (f:Int):cP (oj f) ⟨0,10600⟩=⟨10596,10602⟩:=Rb
theorem Rk (f:Int):cP (oj f) ⟨0,11000⟩=⟨10996,11002⟩:=Rr
theorem SY (f:Int):cP (oj f) ⟨1,12600⟩=⟨12596,12602⟩:=RW
theorem H3 (f:Int):cM (oj f) my.aa 3=[[(0,⟨10596,10602⟩),(1,⟨10996,11002⟩)],[(2,⟨12596,12602⟩)],[]]:=by
 have o: ∀ b:Nat,k6 (oj f) my.aa 3 b=(oa (oj f) my.aa b 0).toList++((oa (oj f) my.aa b 1).toList++(oa (oj f) my.aa b 2).toList):=fun b=>by
  rw [lu,lu,lu]; simp [k6]
 have A: ∀ b:Nat,oa (oj f) my.aa b 0=if (0:Int)=(b:Int) then some (0,⟨10596,10602⟩) else none:=fun b=>by
  show (if (0:Int)=(b:Int)∧(cP (oj f) ⟨0,10600⟩).Lo≤(cP (oj f) ⟨0,10600⟩).Hi then some ((0:Int),cP (oj f) ⟨0,10600⟩) else none)=_
  rw [Re]; by_cases h:(0:Int)=(b:Int)
  ·rw [if_pos h,if_pos ⟨h,dc⟩]<;>rfl
  ·rw [if_neg h,if_neg fun q=>h q.1]
 have B: ∀ b:Nat,oa (oj f) my.aa b 1=if (0:Int)=(b:Int) then some (1,⟨10996,11002⟩) else none:=fun b=>by
  show (if (0:Int)=(b:Int)∧(cP (oj f) ⟨0,11000⟩).Lo≤(cP (oj f) ⟨0,11000⟩).Hi then some ((1:Int),cP (oj f) ⟨0,11000⟩) else none)=_
  rw [Rk]; by_cases h:(0:Int)=(b:Int)
  ·rw [if_pos h,if_pos ⟨h,dc⟩]<;>rfl
  ·rw [if_neg h,if_neg fun q=>h q.1]
 have C: ∀ b:Nat,oa (oj f) my.aa b 2=if (1:Int)=(b:Int) then some (2,⟨12596,12602⟩) else none:=fun b=>by
  show (if (1:Int)=(b:Int)∧(cP (oj f) ⟨1,12600⟩).Lo≤(cP (oj f) ⟨1,12600⟩).Hi then some ((2:Int),cP (oj f) ⟨1,12600⟩) else none)=_
  rw [SY]; by_cases h:(1:Int)=(b:Int)
  ·rw [if_pos h,if_pos ⟨h,dc⟩]<;>rfl
  ·rw [if_neg h,if_neg fun q=>h q.1]
 show [k6 (oj f) my.aa 3 0,k6 (oj f) my.aa 3 1,k6 (oj f) my.aa 3 2]=_
 rw [o,o,o,A,A,A,B,B,B,C,C,C]
 rfl
theorem Bv (f:Int):bU (oj f) my=RL f:=by
 unfold bU RL
 rw [show my.aa.length=3 from rfl,H3]
 rfl
theorem Ms (f:Int):dU (oj f) my:=by
 refine ⟨dc,dc,fun i s hs=>?_⟩
 match i with
 |0=>simp [my] at hs; subst hs; unfold hE iw; simp [oj,kJ]
 |1=>simp [my] at hs; subst hs; unfold hE iw; simp [oj,kJ,my]
 |2=>simp [my] at hs; subst hs; unfold hE iw; simp [oj,kJ,my]
 |n+3=>simp [my] at hs
theorem Bj:gW (bU hP my)=[2,3]:=by rw [show bU hP my=RL 1 from Bv 1]; decide
theorem Bl:dK hP my 0=0:=lk Oo (Ms 1) rfl (by rw [Bj]; decide)
theorem Ko:gn hP my=[2,3]:=by rw [ju Bl,Bj]
theorem IX {b:Nat} (hb:b<3):dK hP my (iP hP b)=0:=by rw [o1 (by show 0≤(b:Int)∧(b:Int)≤3-1; omega)]; exact Bl
theorem EL {b:Nat} {z:ag} (hb:b<3) (hz:sP (j_ (RL 1) b)=z) (hn:z≠lH):de hP my b=0∧cY hP my b=z:=by
 have e:kh hP my b=z:=by unfold kh; rw [show bU hP my=RL 1 from Bv 1]; exact hz
 have h:=ou (IX hb) (by rw [e]; exact hn)
 exact ⟨h.1,h.2.trans e⟩
theorem Cc:de hP my 0=0∧cY hP my 0=⟨10596,11002⟩:=EL (b:=0) I dc dc
theorem q6:de hP my 1=0∧cY hP my 1=⟨12596,12602⟩:=EL (b:=1) I dc dc
theorem Ql:de hP my hP.bS=0∧Aw hP my=⟨2596,2602⟩:=by
 refine ⟨q6.1,?_⟩
 rw [zI (l:=hP) (r:=my) q6.1]
 rw [show cY hP my hP.bS=⟨12596,12602⟩ from q6.2]
 rfl
theorem Ta (f:Int) {a:OA} {c:Nat} (hc:2≤c):eg (oj f) [(a,c)]:=by
 refine ⟨by simp [oj],?_,by simp [oj],U,by simp [oj],fun k m a' hm ha=>?_⟩
 ·intro x hx; simp [oj] at hx; subst hx; simp [Td]
 ·match k with
  |0=>simp [oj] at hm ha; subst hm; subst ha; simp [yz]; exact hc
  |n+1=>simp at ha
end
section
open Go.RowKit
def DQ (t:ag):av:=⟨false,true,t,⟨0,0,[]⟩⟩
def Uh (H:List (List av)) (h i:Int) (t:ag):List (List av):=H.set h.toNat ((H[h.toNat]?.getD []).set i.toNat (DQ t))
def Qy (r:eZ) (h i:Int) (t:ag):eZ:=⟨r.ar,r.aY,r.ck,r.mj,Uh r.aB h i t⟩
@[simp] theorem QS {r:eZ} {h i:Int} {t:ag}:(Qy r h i t).ar=r.ar:=rfl
@[simp] theorem OT {r:eZ} {h i:Int} {t:ag}:(Qy r h i t).aY=r.aY:=rfl
@[simp] theorem QT {r:eZ} {h i:Int} {t:ag}:(Qy r h i t).ck=r.ck:=rfl
section
variable {r:eZ} {h i:Int} {t:ag} {ht:List av} {d:av}
end
section
variable {E:fg} {Q:dg} {D:List Deferred} {L:List (Nat×Value)} {C C1:List ax} {c:Code}
variable {H:List (List av)} {hz:List cW} {h h':List av} {a a':cW} {k:Nat} {bs:List RA} {i:Nat} {d d':av} {b:RA}
end
end
section
set_option maxRecDepth 20000
def ng (x y:Int):av:=DQ ⟨x,y⟩
def o0:av:=⟨false,false,gP,my⟩
def qu:eZ:=⟨hP,[4,7,9],[2,0,1],2,[[o0,ng 2600 2600,ng 2580 2609],[ng 2555 2559,ng 2540 2549,ng 2570 2575]]⟩
def d_:cN:=⟨qu,[⟨1,0,12600,13000⟩,⟨2,1,11003,11100⟩,⟨3,0,10700,10900⟩,⟨1,0,13000,14000⟩],[⟨2,0,0,0,72596⟩,⟨5,0,0,1,72603⟩,⟨6,0,0,3,20000⟩],1,500⟩
theorem Ar {l:bk} {x y:Int} (h:mq ⟨x,y⟩):iW l (ng x y):=by rw [tT ⟨rfl,rfl⟩]; exact ⟨h,rfl,rfl,rfl⟩
theorem H0:fK qu:=by
 refine ⟨dc,dc,dc,fun i x hx=>?_,dc,fun h hh=>?_⟩
 ·match i with
  |0=>simp [qu] at hx; subst hx; exact ⟨dc,fun y h=>absurd h dc⟩
  |1=>simp [qu] at hx; subst hx; exact ⟨dc,fun y _ h=>by simp [qu] at h; omega⟩
  |2=>simp [qu] at hx; subst hx; exact ⟨dc,fun y _ h=>by simp [qu] at h; omega⟩
  |n+3=>simp [qu] at hx
 ·simp only [qu,bT,List.not_mem_nil,or_false] at hh
  rcases hh with rfl|rfl
  ·refine ⟨U,fun d hd=>?_⟩
   simp only [bT,List.not_mem_nil,or_false] at hd
   rcases hd with rfl|rfl|rfl
   ·rw [qE ⟨rfl,rfl⟩]; exact ⟨Ql.1,rfl⟩
   ·exact Ar dc
   ·exact Ar dc
  ·refine ⟨U,fun d hd=>?_⟩
   simp only [bT,List.not_mem_nil,or_false] at hd
   rcases hd with rfl|rfl|rfl<;>exact Ar dc
theorem Ps:jK qu=0:=by unfold jK; rw [if_pos (show dD qu.ar=0 from Oo),if_pos H0]
theorem P0:pP d_:=by
 refine ⟨dc,fun f hf=>?_,dc,dc,dc,fun i p hp=>?_⟩
 ·simp only [d_,bT,List.not_mem_nil,or_false] at hf
  rcases hf with rfl|rfl|rfl|rfl<;>decide
 ·match i with
  |0=>simp [d_] at hp; subst hp; exact ⟨dc,fun q h=>absurd h dc,dc,dc,dc,o0,rfl,dc⟩
  |1=>simp [d_] at hp; subst hp; exact ⟨dc,fun q _ h=>by simp [d_] at h; subst h; decide,dc,dc,dc,o0,rfl,dc⟩
  |2=>simp [d_] at hp; subst hp; exact ⟨dc,fun q _ h=>by simp [d_] at h; subst h; decide,dc,dc,dc,o0,rfl,dc⟩
  |n+3=>simp [d_] at hp
theorem oq:dE d_=0:=ub Ps P0
theorem AX {b:Int} (h:b<2):mY hP my b=true:=by
 unfold mY; rw [Ko]; simp; omega
theorem On (h:(-1:Int)<0):cr hP my (-1)=⟨10000,10000,true,false⟩:=if_pos h
theorem Qs:cr hP my 0=⟨10596,11002,true,false⟩:=by
 unfold cr; rw [if_neg dc,if_pos Cc.1,Cc.2,AX dc]; rfl
theorem zT:cr hP my 1=⟨12596,12602,true,false⟩:=by
 unfold cr; rw [if_neg dc,if_pos q6.1,q6.2,AX dc]; rfl
theorem Ia {f:aM} {a b:vX} (ha:cr hP my (mM f)=a) (hb:cr hP my (zj hP f)=b):eC hP f o0=iQ f a b:=by
 unfold eC
 rw [if_pos (by decide:kY o0)]
 show iQ f (cr hP my (mM f)) (cr hP my (zj hP f))=_
 rw [ha,hb]
theorem Dd:eC hP ⟨1,0,12600,13000⟩ o0=1:=(Ia (f:=⟨1,0,12600,13000⟩) (show cr hP my (-1)=_ from On dc) (show cr hP my (1)=_ from zT)).trans dc
theorem PN:eC hP ⟨2,1,11003,11100⟩ o0=2:=(Ia (f:=⟨2,1,11003,11100⟩) (show cr hP my (0)=_ from Qs) (show cr hP my (1)=_ from zT)).trans dc
theorem Im:eC hP ⟨1,0,13000,14000⟩ o0=0:=(Ia (f:=⟨1,0,13000,14000⟩) (show cr hP my (-1)=_ from On dc) (show cr hP my (1)=_ from zT)).trans dc
theorem Pg {f:aM} {x y:Int}:eC hP f (ng x y)=0:=sh (by simp [ng,DQ,kY])
theorem A_ {p:aX} (hd:qj d_ p=some o0):mR d_ p=if p.At≤72596 then 0 else if p.At≤72602 then 1 else 2:=by
 unfold mR
 rw [hd]
 simp only
 have e:cr d_.Race.ar o0.a_ d_.Race.ar.bS=⟨12596,12602,true,false⟩:=zT
 rw [e]; rfl
theorem H2:mR d_ ⟨2,0,0,0,72596⟩=0:=(A_ rfl).trans dc
theorem Ib:mR d_ ⟨5,0,0,1,72603⟩=2:=(A_ rfl).trans dc
theorem Kz {p:aX} {f:aM} (hd:qj d_ p=some o0) (hf:d_.ay[p.jU.toNat]? =some f):iv d_ p=(decide (mR d_ p≠2)&&decide (eC hP f o0≠0)):=by
 unfold iv; rw [hd,hf]; rfl
theorem Dl:iv d_ ⟨2,0,0,0,72596⟩=true:=by rw [Kz (f:=⟨1,0,12600,13000⟩) rfl rfl,H2,Dd]; rfl
theorem HU:iv d_ ⟨5,0,0,1,72603⟩=false:=by rw [Kz (f:=⟨2,1,11003,11100⟩) rfl rfl,Ib]; rfl
theorem Kv:iv d_ ⟨6,0,0,3,20000⟩=false:=by rw [Kz (f:=⟨1,0,13000,14000⟩) rfl rfl,Im]; simp
theorem xY:iL d_=[0]:=by
 unfold iL uh
 show jn (fun i=>(d_.aD[i]?).any (iv d_)) 3=[0]
 rw [pt (by show iv d_ ⟨6,0,0,3,20000⟩=false; exact Kv),pt (by show iv d_ ⟨5,0,0,1,72603⟩=false; exact HU),qx (by show iv d_ ⟨2,0,0,0,72596⟩=true; exact Dl)]
 rfl
theorem Mb:K3 hP (oM d_) d_.ay o0:=⟨⟨1,0,12600,13000⟩,by simp [d_],⟨0,⟨2,0,0,0,72596⟩,rfl,Dl,rfl⟩,by rw [Dd]; decide⟩
theorem tH {x y:Int}: ¬ K3 hP (oM d_) d_.ay (ng x y):=fun ⟨f,_,_,h⟩=>h Pg
theorem LK:kI d_=[[0],[]]:=by
 have A:wx hP (oM d_) d_.ay [o0,ng 2600 2600,ng 2580 2609] 3=[0]:=by
  unfold wx
  rw [pt (by simp [tH]),pt (by simp [tH]),qx (by simp [Mb])]; rfl
 have B:wx hP (oM d_) d_.ay [ng 2555 2559,ng 2540 2549,ng 2570 2575] 3=[]:=by
  unfold wx
  rw [pt (by simp [tH]),pt (by simp [tH]),pt (by simp [tH])]; rfl
 show [wx hP (oM d_) d_.ay [o0,ng 2600 2600,ng 2580 2609] 3,wx hP (oM d_) d_.ay [ng 2555 2559,ng 2540 2549,ng 2570 2575] 3]=_
 rw [A,B]
theorem Cr:zc d_=500∧EK d_=1000:=by
 have h:zc d_=500:=by unfold zc; rw [xY]; rfl
 exact ⟨h,by unfold EK; rw [h]; rfl⟩
theorem F8:Dm d_ 0= -1000:=by
 have h:JZ d_ 0 3=2:=by
  unfold JZ
  rw [show List.range 3=[0,1,2] from rfl]
  simp only [List.countP_cons,List.countP_nil]
  rw [show (d_.aD[0]?)=some ⟨2,0,0,0,72596⟩ from rfl,show (d_.aD[1]?)=some ⟨5,0,0,1,72603⟩ from rfl,show (d_.aD[2]?)=some ⟨6,0,0,3,20000⟩ from rfl]
  simp only [Option.any_some,Dl,HU,Kv]
  decide
 unfold Dm
 rw [show d_.aD.length=3 from rfl,h]; rfl
end
section
open Go.RowKit
section
variable {E:fg} {ops:Array Oper} {Q:dg} {rest:List Oper} {D:List Deferred} {L:List (Nat×Value)} {C C1:List ax}
end
theorem xQ {C:List ax}: ∀ {a b:List Nat} {X Y:List ax},oo C a=some X→oo C b=some Y→oo C (a++b)=some (X++Y)
 |[],b,X,Y,h,h2=>by cases h; exact h2
 |i::a,b,X,Y,h,h2=>by
  unfold oo at h
  split at h
  ·rename_i A hA
   split at h
   ·rename_i l hl
    cases h
    have ih:=xQ hl h2
    show (match C[i]? with
     |some A=>match oo C (a++b) with
      |some l=>some (A::l)
      |none=>none
     |none=>none)=_
    rw [hA,ih]; rfl
   ·cases h
  ·cases h
theorem Hm {E:fg} {ops:Array Oper} {Q:dg} {rest:List Oper} {D:g9} {L:dw} {C C1:List ax} (X:List ax) (i1 i2:List Nat) (h1:oo C i1=some X) (h2:oo C i2=some C1) (h:RJ E ops Q rest D L (bQ X::C1)) (hn:decide (i1++i2).Nodup=true:=by rfl):RJ E ops Q rest D L C:=fun a w hf hs=>h a w hf (St.tied (St.ko _ hn (nj (xQ h1 h2)) hs))
theorem AH {E:fg} {ops:Array Oper} {Q:dg} {rest:List Oper} {D:g9} {L:dw} {C C1:List ax} (ix:List Nat) (hn:decide ix.Nodup=true) (hC:oo C ix=some C1) (h:RJ E ops Q rest D L C1):RJ E ops Q rest D L C:=fun a w hf hs=>h a w hf (St.ko _ hn (nj hC) hs)
theorem qN {M A B:Type} {f:M→A→List B} {n:Nat} (h: ∀ m a,(f m a).length=n): ∀ {ms:List M} {asl:List A},∀ x∈List.zipWith f ms asl,x.length=n
 |[],asl,x,hx=>by simp at hx
 |m::ms,[],x,hx=>by simp at hx
 |m::ms,a::asl,x,hx=>by
  rw [List.zipWith_cons_cons] at hx
  rcases bT.1 hx with rfl|hx
  ·exact h m a
  ·exact qN h x hx
theorem FD (m:av) (a:RA):(av.cells m a).length=7:=rfl
theorem HR (m:List av) (a:cW):(cL m a).length=1:=rfl
theorem O7 (m:List Int) (a:RA):(uM m a).length=1:=rfl
end
section
open Go.RowKit
theorem Ho {E:fg} {c:Code} {Q:dg} {D:g9} {L:dw} {C C1:List ax} (X:List ax) (i1 i2:List Nat) (h1:oo C i1=some X) (h2:oo C i2=some C1) (h:WJ E c Q D L (bQ X::C1)) (hn:decide (i1++i2).Nodup=true:=by rfl):WJ E c Q D L C:=fun a w hf hs=>h a w hf (St.tied (St.ko _ hn (nj (xQ h1 h2)) hs))
def Ka:List av:=[o0,ng 2600 2600,ng 2580 2609]
def SO:List av:=[ng 2555 2559,ng 2540 2549,ng 2570 2575]
theorem IE {p q s t u v x y:RA}:zL qu.aB [(p,[s,t,u]),(q,[v,x,y])]:=⟨rfl,fun k h a hk ha=>by
 match k with
 |0=>simp [qu] at hk ha; subst hk; subst ha; rfl
 |1=>simp [qu] at hk ha; subst hk; subst ha; rfl
 |n+2=>simp at ha⟩
theorem Mn {bz:List RA} {hz:List cW} (h:eg hP bz) (hh:zL qu.aB hz):lG qu bz hz:=⟨h,dc,dc,dc,hh.1,fun k x a hx ha=>by
 have hm:=aR hx
 have hs:=hh.2 k x a hx ha
 simp only [qu,bT,List.not_mem_nil,or_false] at hm
 rcases hm with rfl|rfl
 ·exact ⟨dc,hs,dc⟩
 ·exact ⟨dc,hs,dc⟩⟩
theorem PD {bz:List RA} {hz:List cW} (h:eg hP bz) (hh:zL qu.aB hz):gG d_ bz hz:=⟨Mn h hh,dc,dc,dc⟩
end
section
open Go.RowKit
theorem Pc:mX d_ 0 0 0=0∧ld d_ 0 0 0=1:=by
 have e:=qY (j:=d_) (k:=0) (h:=0) (s:=0) (f:=⟨1,0,12600,13000⟩) (ht:=Ka) (d:=o0) oq dc rfl rfl rfl
 exact ⟨e.2,e.1.trans Dd⟩
theorem OU:mX d_ 1 0 0=0∧ld d_ 1 0 0=2:=by
 have e:=qY (j:=d_) (k:=1) (h:=0) (s:=0) (f:=⟨2,1,11003,11100⟩) (ht:=Ka) (d:=o0) oq dc rfl rfl rfl
 exact ⟨e.2,e.1.trans PN⟩
theorem Pu:mX d_ 3 0 0=0∧ld d_ 3 0 0=0:=by
 have e:=qY (j:=d_) (k:=3) (h:=0) (s:=0) (f:=⟨1,0,13000,14000⟩) (ht:=Ka) (d:=o0) oq dc rfl rfl rfl
 exact ⟨e.2,e.1.trans Im⟩
theorem O3:tI d_ 0=0∧vQ d_ 0=0:=by
 have e:=Af (j:=d_) (i:=0) (p:=⟨2,0,0,0,72596⟩) oq dc rfl
 exact ⟨e.2,e.1.trans H2⟩
theorem Pk:tI d_ 1=0∧vQ d_ 1=2:=by
 have e:=Af (j:=d_) (i:=1) (p:=⟨5,0,0,1,72603⟩) oq dc rfl
 exact ⟨e.2,e.1.trans Ib⟩
theorem Ob:kp d_=[0]:=(p7 oq).trans xY
theorem Kl:iY d_=[[0],[]]:=(vY oq).trans LK
theorem Ot:z9 d_=500∧zY d_=1000:=⟨(xL oq).1.trans Cr.1,(xL oq).2.trans Cr.2⟩
theorem Oj:qM d_ 0=0∧te d_ 0= -1000:=⟨by unfold qM; rw [if_pos oq,if_pos dc],by unfold te; rw [if_pos ⟨oq,dc⟩]; exact F8⟩
end
section
open Go.RowKit
theorem pj (n lo hi:Int):
 dG Tryz.prog 135 [(vI n),(vI lo),(vI hi)] [] (vB (decide (lo≤n∧n≤hi))):=by
 refine bG kr Tryz.func135 U U fun D Q hQ hN=>?_
 try dsimp only
 refine WS fun _ B=>bD 1 U<|RK B<|WS fun _ A=>rP 4 [] mn ?_
 refine b_ (t:=10) U (aU fun C=>?_) (aT fun C=>?_)
 ·refine rP 5 [] mn ?_
  refine RK A<|aq<|Q1 hQ U U U ?_
  exact cB (gR.2 I)
 refine rP 5 [] mn ?_
 refine RK A<|aq<|Q1 hQ U U U ?_
 exact cB (bE I).symm
theorem qe (s:ag) (lo hi:Int):
 dG Tryz.prog 136 [(vA (ag.cells s)),(vI lo),(vI hi)] [] (vB (decide (s.Lo≤s.Hi∧lo≤s.Lo∧s.Hi≤hi))):=by
 refine bG kr Tryz.func136 U U fun E Q hQ hN=>?_
 try dsimp only
 refine WS fun _ B=>eI U fun D=>bD 1 U<|RK B<|WS fun _ A=>eQ 5 [] (mc 0 U mn) U<|rS (CL (pj s.Lo lo s.Hi) (aO) U)<|rP 1 [] mn ?_
 refine cp (t:=13) U (aT fun C=>?_) (aU fun C=>?_)
 ·refine rP 6 [] mn ?_
  refine RK A<|aq<|Q1 hQ U U U ?_
  exact cB (bE I).symm
 refine rP 6 [] (mc 0 U mn) ?_
 refine RK A<|aq<|Q1 hQ U U U ?_
 exact cB (gR.2 I)
theorem Mf (t:List ao) (tA:OA) (tC:Nat):
 dG Tryz.prog 100 [(vA (bO.cells (bO.mk (bH.mk tA t.length tC))))] [(rd tA t.length 9 (t.map ao.cells))] (vB (decide (20<(t.length:Int)))):=by
 refine bG kr Tryz.func100 U U fun D Q hQ hN=>?_
 try dsimp only
 refine WS fun _ A=>eI U fun C=>bD 1 U<|RK A<|WS fun _ B=>rP 5 [] (mc 0 U mn) ?_
 refine RK B<|aq ?_
 exact Q1 hQ U U U U
theorem Nj (l:List Int) (lA:OA) (lC:Nat) (f:Value) (p:Int→Bool) (X:ax) (hf: ∀ x0,x0∈l→DY Tryz.prog f [.int .i64 x0] [X] (.bool (p x0))) (hlen:l.length≤1000000):
 dG Tryz.prog 82 [(vS lA l.length lC),f] [(rd lA l.length 1 (l.map iC)),X] (vI (sM p l)):=by
 refine bG kr Tryz.func82 U U fun R Q hQ hN=>?_
 try dsimp only
 refine WS fun _ G=>bD 1 U<|RK G<|ak fun _ H=>WS fun _ AA=>rP 3 [] mn ?_
 refine RK AA<|aH ?_
 have B:(0≤l.length)∧((l.take 0).any p=false):=by simp
 refine bY (ι:={z:Nat // (z≤l.length)∧((l.take z).any p=false)}) [0,1,7] [0,1] U U (fun z=>[(8,(vI (z.1:Int)))]) (fun z=>[]) (fun _=>rfl) (fun _=>rfl) (fun z=>l.length-z.1) ⟨0,B⟩ (bB U) (aQ [0,1]) ?_
 clear B
 rintro ⟨i,⟨N,A⟩⟩ J4 F
 try dsimp only
 refine WS fun _ J=>rP 1 [] mn ?_
 refine RK J<|ak fun _ K=>bW U (aT fun P=>?_) (aU fun P=>?_)
 ·refine bP<|ai<|ai<|aJ<|KK H<|WS fun _ E=>rP 1 [] mn ?_
  refine RK E<|aq<|Q1 hQ U U U ?_
  exact cI (qd I A).symm
 refine WK K<|ak fun _ L=>aH<|WS fun _ M=>bD 2 U<|RK M<|WS fun _ C=>rP 3 [] mn ?_
 obtain ⟨x,hx⟩:=aL l i I
 have O:=bM iC hx
 refine rS (IA i U (aA 0 U) dv dc I I)<|rS (g6 i 0 (vI x) U cj (aA 0 U) O U dc U)<|rS (SX (qa U U U (hf x (aR hx)) (bu [1])) U U)<|RK C<|cx U (fun hp=>?_) (fun hp=>?_)
 ·refine WS fun _ D=>rP 2 [] mn ?_
  refine RK D<|aq<|Q1 hQ U U U ?_
  exact cI (tO hx hp A).symm
 refine cf<|aN<|KK L<|au<|rP 2 [] mn ?_
 refine aF ?_
 refine bg (F ⟨(i+1),⟨I,uq hx A hp⟩⟩ _ _ _ U os (bB U) (aQ [0,1]))
theorem p_ (l:List Int) (lA:OA) (lC:Nat) (f:Value) (p:Int→Bool) (X:ax) (hf: ∀ x0,x0∈l→DY Tryz.prog f [.int .i64 x0] [X] (.bool (p x0))) (hlen:l.length≤1000000):
 dG Tryz.prog 53 [(vS lA l.length lC),f] [(rd lA l.length 1 (l.map iC)),X] (vB (l.any p)):=by
 refine bG kr Tryz.func53 U U fun C Q hQ hN=>?_
 try dsimp only
 refine WS fun _ A=>bD 1 U<|RK A<|WS fun _ B=>bD 2 U<|rS (CL (Nj l lA lC f p X (by exact hf) hlen) (bu [0,1]) U)<|rP 2 [] mn ?_
 refine RK B<|aq<|Q1 hQ U U U ?_
 exact cB rN
theorem GD (n lo hi:Int) (g1 g2:Nat):
 dG Tryz.prog 129 [(vI n),(vP g1),(vP g2)] [(cu g1 3 [(vI lo)]),(cu g2 3 [(vI hi)])] (vB (decide (n<lo∨hi<n))):=by
 refine bG kr Tryz.func129 U U fun D Q hQ hN=>?_
 try dsimp only
 refine WS fun _ B=>bD 1 U<|RK B<|WS fun _ A=>rP 4 [] (mr 0 U mn) ?_
 refine b_ (t:=8) U (aU fun C=>?_) (aT fun C=>?_)
 ·refine rP 5 [] mn ?_
  refine RK A<|aq<|Q1 hQ U U U ?_
  exact cB (dx I).symm
 refine rP 5 [] (mr 1 U mn) ?_
 refine RK A<|aq<|Q1 hQ U U U ?_
 exact cB (gR.2 I)
theorem ph (lo hi:Int) (l:List Int) (lA:OA) (lC:Nat) (hlen:l.length≤1000000):
 dG Tryz.prog 104 [(vI lo),(vI hi),(vS lA l.length lC)] [(rd lA l.length 1 (l.map iC))] (vB (qi lo hi l)):=by
 refine bG kr Tryz.func104 U U fun F Q hQ hN=>?_
 try dsimp only
 refine WS fun _ D=>wJ U U fun A=>wJ U U fun B=>bD 1 U<|RK D<|WS fun _ E=>rP 1 [] mn ?_
 refine rS (FU U) ?_
 refine rS (CL (p_ l lA lC (Value.func (.func 129) [].toArray [(vP A),(vP B)].toArray) (fun C=>(decide (C<lo∨hi<C))) (dR [(cu A 3 [(vI lo)]),(cu B 3 [(vI hi)])]) (by intro C _; exact lh (fi:=[]) (ca:=[(vP A),(vP B)]) (jS (GD C lo hi A B) (bu [0,1]))) hlen) (gY 2 U U<|aK (jX (bu [1,0]))<|aO) U) ?_
 refine rP 2 [] mn ?_
 refine RK E<|aq ?_
 exact Q1 hQ U U U U
theorem wG (s:ag) (lo hi:Int):
 dG Tryz.prog 105 [(vA (ag.cells s)),(vI lo),(vI hi)] [] (vB (decide (s.Lo≤s.Hi∧lo≤s.Lo∧s.Hi≤hi))):=by
 refine bG kr Tryz.func105 U U fun F Q hQ hN=>?_
 try dsimp only
 refine WS fun _ B=>eI U fun E=>bD 1 U<|RK B<|WS fun _ A=>rP 6 [] (mc 0 U mn) ?_
 refine ej (xs:=[.tmp 10,.tmp 12]) (cs:=[(vI s.Lo),(vI s.Hi)]) U dv kj U U U U (by simp [Value.cells]) U U fun C=>?_
 refine rS (CL (dG.eq (ph lo hi ([s.Lo,s.Hi]) (some ⟨C,0,none⟩) 2 (by (simp; done))) o3) (aK (bw 0 U U (by simp [bL]) U)<|aO) U) ?_
 refine rP 1 [] mn ?_
 refine cp (t:=15) U (aT fun D=>?_) (aU fun D=>?_)
 ·refine rP 7 [] mn ?_
  refine RK A<|aq<|Q1 hQ U U U ?_
  exact cB (bE I).symm
 refine rP 7 [] (mc 1 U mn) ?_
 refine RK A<|aq<|Q1 hQ U U U ?_
 exact cB (gR.2 I)
theorem wL (ts:List ao) (tsA:OA) (tsC:Nat) (hlen:ts.length≤1000000):
 dG Tryz.prog 120 [(vA (bO.cells (bO.mk (bH.mk tsA ts.length tsC))))] [(rd tsA ts.length 9 (ts.map ao.cells))] (vB (di ts)):=by
 refine bG kr Tryz.func120 U U fun w0 Q hQ hN=>?_
 try dsimp only
 refine WS fun _ C3=>eI U fun b2=>bD 1 U<|RK C3<|ak fun _ DS=>WS fun _ Di=>eQ 3 [] (mc 0 U mn) U<|rS (CL (pj (ts.length:Int) 1 12) (aO) U)<|rP 1 [] mn ?_
 refine RK Di<|cx U (bq fun h5=>?_) (br fun h5=>?_)
 ·refine WS fun _ Do=>rP 1 [] mn ?_
  refine RK Do<|aq<|Q1 hQ U U U ?_
  exact cB (oF I).symm
 refine WK DS<|ak fun _ EQ=>WS fun _ Eq=>rP 1 [] mn ?_
 refine RK Eq<|aH ?_
 have E:(0≤ts.length)∧(eN (-1) ts=eN (gH ts 0) (ts.drop 0))∧(-1≤gH ts 0):=by (refine ⟨I,rfl,by simp [gH]⟩)
 refine bY (ι:={z:Nat // (z≤ts.length)∧(eN (-1) ts=eN (gH ts z) (ts.drop z))∧(-1≤gH ts z)}) [1] [0,1] U U (fun z=>[(3,(vI (z.1:Int)))]) (fun z=>[]) (fun _=>rfl) (fun _=>rfl) (fun z=>ts.length-z.1) ⟨0,E⟩ (bB U) (aQ [0,1]) ?_
 clear E
 rintro ⟨i,⟨FS,A,FV⟩⟩ J9 D
 try dsimp only
 have hz:i=0→gH ts i= -1:=BA
 refine ak fun _ K=>WS fun _ L=>rP 5 [] (mc 0 U mn) ?_
 refine RK L<|bW U (aT fun v=>?_) (aU fun v=>?_)
 ·refine bP<|ai<|ai<|aJ<|KK EQ<|WS fun _ u=>rP 1 [] mn ?_
  refine RK u<|aq<|Q1 hQ U U U ?_
  exact cB (vW A I I).symm
 refine WK K<|ak fun _ C=>aH<|WS fun _ M=>rP 3 [] (mc 0 U mn) ?_
 obtain ⟨x,hx⟩:=aL ts i I
 have Fd:=bM ao.cells hx
 refine rS (IA i U (aA 1 U) yw dc I I)<|rS (lx i 0 (ao.cells x) U cj (aA 1 U) Fd U dc U U)<|AL U FT fun GE=>fG U Jw U<|RK M<|ak fun _ F=>ak fun _ B=>dp ct 38 kr<|lU 2 [] (mc 0 U mn) U<|dS (CL (pj x.Id 0 9999) (aO) U)<|dP 2 [] mn ?_
 refine g_ (t:=26) U (bq fun w=>?_) (br fun w=>?_)
 ·refine kX 11 U<|kX 22 U<|cK<|RK B<|aS U<|WS fun _ N=>rP 1 [] mn ?_
  refine RK N<|aq<|Q1 hQ U U U ?_
  exact cB (dW A hx (by simp only [bV,dZ]; omega)).symm
 refine dP 3 [] mn ?_
 refine jy (t:=29) U (aT fun AC=>?_) (aU fun AC=>?_)
 ·refine kX 8 U<|kX 6 U<|dS (LP (ag.cells x.kP) 0 U cj U U U)<|dS (CL (qe x.kP 1 30000) (aO) U)<|dP 3 [] mn ?_
  refine g_ (t:=48) U (bq fun A9=>?_) (br fun A9=>?_)
  ·refine kX 11 U<|cK<|RK B<|aS U<|WS fun _ e=>rP 1 [] mn ?_
   refine RK e<|aq<|Q1 hQ U U U ?_
   exact cB (dW A hx (by simp only [bV,dZ]; omega)).symm
  refine kX 1 U<|dS (LP (ag.cells x.l6) 0 U cj U U U)<|dS (CL (qe x.l6 0 5000) (aO) U)<|dP 3 [] mn ?_
  refine g_ (t:=54) U (bq fun Bp=>?_) (br fun Bp=>?_)
  ·refine kX 5 U<|cK<|RK B<|aS U<|WS fun _ f=>rP 1 [] mn ?_
   refine RK f<|aq<|Q1 hQ U U U ?_
   exact cB (dW A hx (by simp only [bV,dZ]; omega)).symm
  refine lU 2 [] (mc 0 U mn) U<|dS (CL (pj x.AF 0 5000) (aO) U)<|dP 2 [] mn ?_
  refine cK<|RK B<|cx U (bq fun B3=>?_) (br fun B3=>?_)
  ·refine WS fun _ g=>rP 1 [] mn ?_
   refine RK g<|aq<|Q1 hQ U U U ?_
   exact cB (dW A hx (by simp only [bV,dZ]; omega)).symm
  refine WK F<|WS fun _ h=>eQ 2 [] (mc 0 U mn) U<|RK h<|aH<|WS fun _ j=>rS (BI U lE)<|rP 1 [] mn ?_
  refine RK j<|cx U (aU fun B9=>?_) (aT fun B9=>?_)
  ·refine WS fun _ AB=>rP 5 [] (mc 0 U mn) ?_
   refine b_ (t:=68) U (bq fun Ci=>?_) (br fun Ci=>?_)
   ·refine bD 5 U<|RK AB<|aS U<|WS fun _ k=>rP 1 [] mn ?_
    refine RK k<|aq<|Q1 hQ U U U ?_
    exact cB (dW A hx (by simp only [bV,dZ]; omega)).symm
   refine rP 5 [] (mc 0 U mn) ?_
   refine RK AB<|bW U (br fun Ck=>?_) (bq fun Ck=>?_)
   ·refine cf<|aN<|aN<|KK C<|au<|rP 3 [] mn ?_
    refine aF ?_
    refine bg (D ⟨(i+1),⟨I,hO A hx (by simp only [bV,dZ]; omega),by rw [gE hx]; omega⟩⟩ _ _ _ U os (bB U) (aQ [1,2]))
   refine WS fun _ l=>rP 1 [] mn ?_
   refine RK l<|aq<|Q1 hQ U U U ?_
   exact cB (dW A hx (by simp only [bV,dZ]; omega)).symm
  refine ak fun _ J=>WS fun _ m=>rS (BI U lE)<|rP 1 [] mn ?_
  refine RK m<|cx U (aU fun Cp=>?_) (aT fun Cp=>?_)
  ·refine WK J<|bW U (aT fun Cx=>?_) (aU fun Cx=>?_)
   ·refine WS fun _ p=>rP 1 [] mn ?_
    refine RK p<|aq<|Q1 hQ U U U ?_
    exact cB (oF I).symm
   refine WS fun _ n=>bD 1 U<|rS (LP (ag.cells x.eJ) 0 U cj U U U)<|rS (CL (qe x.eJ 500 20000) (aO) U)<|rP 1 [] mn ?_
   refine RK n<|bW U (br fun C0=>?_) (bq fun C0=>?_)
   ·refine cf<|aN<|aN<|KK C<|au<|rP 3 [] mn ?_
    refine aF ?_
    refine bg (D ⟨(i+1),⟨I,hO A hx (by simp only [bV,dZ]; omega),by rw [gE hx]; omega⟩⟩ _ _ _ U os (bB U) (aQ [1,2]))
   refine WS fun _ o=>rP 1 [] mn ?_
   refine RK o<|aq<|Q1 hQ U U U ?_
   exact cB (dW A hx (by simp only [bV,dZ]; omega)).symm
  refine au<|rS (BI U lE)<|rP 1 [] mn ?_
  refine RK J<|bW U (aT fun C1=>?_) (aU fun C1=>?_)
  ·refine WS fun _ s=>rP 1 [] mn ?_
   refine RK s<|aq<|Q1 hQ U U U ?_
   exact cB (dW A hx (by simp only [bV,dZ]; omega)).symm
  refine WS fun _ q=>bD 1 U<|rS (LP (ag.cells x.eJ) 0 U cj U U U)<|rS (CL (qe x.eJ 500 20000) (aO) U)<|rP 1 [] mn ?_
  refine RK q<|bW U (br fun C2=>?_) (bq fun C2=>?_)
  ·refine cf<|aN<|aN<|KK C<|au<|rP 3 [] mn ?_
   refine aF ?_
   refine bg (D ⟨(i+1),⟨I,hO A hx (by simp only [bV,dZ]; omega),by rw [gE hx]; omega⟩⟩ _ _ _ U os (bB U) (aQ [1,2]))
  refine WS fun _ r=>rP 1 [] mn ?_
  refine RK r<|aq<|Q1 hQ U U U ?_
  exact cB (dW A hx (by simp only [bV,dZ]; omega)).symm
 refine dP 6 [0,1] (mc 0 U (mc 1 U mn)) ?_
 obtain ⟨y,hy⟩:=aL ts (i-1) I
 have Fn:=bM ao.cells hy
 refine dS (IA (i-1) U (aA 2 U) yw dc I I)<|dS (o9 ((i-1)*9) U (aA 2 U) (Nat.mul_pos I dc) fj U) ?_
 have Go:=Ev I hy
 refine dS (g6 (i-1) 0 (vI y.Id) U cj (aA 2 U) Fn U dc U)<|dP 4 [] mn ?_
 refine g_ (t:=42) U (aU fun AD=>?_) (aT fun AD=>?_)
 ·refine kX 17 U<|cK<|RK B<|aS U<|WS fun _ O=>rP 1 [] mn ?_
  refine RK O<|aq<|Q1 hQ U U U ?_
  exact cB (dW A hx (by simp only [bV,dZ]; omega)).symm
 refine kX 1 U<|dS (LP (ag.cells x.kP) 0 U cj U U U)<|dS (CL (qe x.kP 1 30000) (aO) U)<|dP 3 [] mn ?_
 refine g_ (t:=48) U (bq fun AO=>?_) (br fun AO=>?_)
 ·refine kX 11 U<|cK<|RK B<|aS U<|WS fun _ P=>rP 1 [] mn ?_
  refine RK P<|aq<|Q1 hQ U U U ?_
  exact cB (dW A hx (by simp only [bV,dZ]; omega)).symm
 refine kX 1 U<|dS (LP (ag.cells x.l6) 0 U cj U U U)<|dS (CL (qe x.l6 0 5000) (aO) U)<|dP 3 [] mn ?_
 refine g_ (t:=54) U (bq fun Ay=>?_) (br fun Ay=>?_)
 ·refine kX 5 U<|cK<|RK B<|aS U<|WS fun _ R=>rP 1 [] mn ?_
  refine RK R<|aq<|Q1 hQ U U U ?_
  exact cB (dW A hx (by simp only [bV,dZ]; omega)).symm
 refine lU 2 [] (mc 0 U mn) U<|dS (CL (pj x.AF 0 5000) (aO) U)<|dP 2 [] mn ?_
 refine cK<|RK B<|cx U (bq fun A0=>?_) (br fun A0=>?_)
 ·refine WS fun _ S=>rP 1 [] mn ?_
  refine RK S<|aq<|Q1 hQ U U U ?_
  exact cB (dW A hx (by simp only [bV,dZ]; omega)).symm
 refine WK F<|WS fun _ T=>eQ 2 [] (mc 0 U mn) U<|RK T<|aH<|WS fun _ AA=>rS (BI U lE)<|rP 1 [] mn ?_
 refine RK AA<|cx U (aU fun A1=>?_) (aT fun A1=>?_)
 ·refine WS fun _ G=>rP 5 [] (mc 0 U mn) ?_
  refine b_ (t:=68) U (bq fun A2=>?_) (br fun A2=>?_)
  ·refine bD 5 U<|RK G<|aS U<|WS fun _ V=>rP 1 [] mn ?_
   refine RK V<|aq<|Q1 hQ U U U ?_
   exact cB (dW A hx (by simp only [bV,dZ]; omega)).symm
  refine rP 5 [] (mc 0 U mn) ?_
  refine RK G<|bW U (br fun A3=>?_) (bq fun A3=>?_)
  ·refine cf<|aN<|aN<|KK C<|au<|rP 3 [] mn ?_
   refine aF ?_
   refine bg (D ⟨(i+1),⟨I,hO A hx (by simp only [bV,dZ]; omega),by rw [gE hx]; omega⟩⟩ _ _ _ U os (bB U) (aQ [1,2]))
  refine WS fun _ W=>rP 1 [] mn ?_
  refine RK W<|aq<|Q1 hQ U U U ?_
  exact cB (dW A hx (by simp only [bV,dZ]; omega)).symm
 refine ak fun _ H=>WS fun _ X=>rS (BI U lE)<|rP 1 [] mn ?_
 refine RK X<|cx U (aU fun A4=>?_) (aT fun A4=>?_)
 ·refine WK H<|bW U (aT fun A5=>?_) (aU fun A5=>?_)
  ·refine WS fun _ a=>rP 1 [] mn ?_
   refine RK a<|aq<|Q1 hQ U U U ?_
   exact cB (oF I).symm
  refine WS fun _ Y=>bD 1 U<|rS (LP (ag.cells x.eJ) 0 U cj U U U)<|rS (CL (qe x.eJ 500 20000) (aO) U)<|rP 1 [] mn ?_
  refine RK Y<|bW U (br fun A6=>?_) (bq fun A6=>?_)
  ·refine cf<|aN<|aN<|KK C<|au<|rP 3 [] mn ?_
   refine aF ?_
   refine bg (D ⟨(i+1),⟨I,hO A hx (by simp only [bV,dZ]; omega),by rw [gE hx]; omega⟩⟩ _ _ _ U os (bB U) (aQ [1,2]))
  refine WS fun _ Z=>rP 1 [] mn ?_
  refine RK Z<|aq<|Q1 hQ U U U ?_
  exact cB (dW A hx (by simp only [bV,dZ]; omega)).symm
 refine au<|rS (BI U lE)<|rP 1 [] mn ?_
 refine RK H<|bW U (aT fun A7=>?_) (aU fun A7=>?_)
 ·refine WS fun _ d=>rP 1 [] mn ?_
  refine RK d<|aq<|Q1 hQ U U U ?_
  exact cB (dW A hx (by simp only [bV,dZ]; omega)).symm
 refine WS fun _ b=>bD 1 U<|rS (LP (ag.cells x.eJ) 0 U cj U U U)<|rS (CL (qe x.eJ 500 20000) (aO) U)<|rP 1 [] mn ?_
 refine RK b<|bW U (br fun A8=>?_) (bq fun A8=>?_)
 ·refine cf<|aN<|aN<|KK C<|au<|rP 3 [] mn ?_
  refine aF ?_
  refine bg (D ⟨(i+1),⟨I,hO A hx (by simp only [bV,dZ]; omega),by rw [gE hx]; omega⟩⟩ _ _ _ U os (bB U) (aQ [1,2]))
 refine WS fun _ c=>rP 1 [] mn ?_
 refine RK c<|aq<|Q1 hQ U U U ?_
 exact cB (dW A hx (by simp only [bV,dZ]; omega)).symm
theorem BF (ts:List ao) (tsA:OA) (tsC:Nat) (hlen:ts.length≤1000000) (hside: ∀ x∈ts,0≤x.jg∧x.jg≤255):
 dG Tryz.prog 91 [(vA (bO.cells (bO.mk (bH.mk tsA ts.length tsC))))] [(rd tsA ts.length 9 (ts.map ao.cells))] (vI (if di ts=true then 0 else 10)):=by
 refine bG kr Tryz.func91 U U fun w0 Q hQ hN=>?_
 try dsimp only
 refine WS fun _ v=>eI U fun b2=>bD 1 U<|RK v<|Am U<|ak fun _ w=>WS fun _ y=>rP 3 [] (mc 0 U mn) ?_
 refine ej (xs:=[.tmp 11]) (cs:=[(vI (ts.length:Int))]) U dv kj U U U U (by simp [Value.cells]) U U fun b5=>?_
 refine rS (CL (dG.eq (ph 1 12 ([(ts.length:Int)]) (some ⟨b5,0,none⟩) 1 (by (simp; done))) cD) (aK (bw 0 U U (by simp [bL]) U)<|aO) U) ?_
 refine rP 1 [] mn ?_
 refine RK y<|cx U (bq fun h6=>?_) (br fun h6=>?_)
 ·refine WS fun _ AC=>rP 1 [] mn ?_
  refine RK AC<|aq<|Q1 hQ U U U ?_
  exact cI (if_neg (by rw [oF I]; decide)).symm
 refine WK w<|WS fun _ AD=>bD 1 U<|RK AD<|WS fun _ AO=>bD 1 U<|RK AO<|ak fun _ J=>Ak<|KK J<|ak fun _ B=>WS fun _ K=>rP 4 [] (mc 1 U mn) ?_
 refine RK K<|aH ?_
 have D:(0≤ts.length)∧(eN (-1) ts=eN (gH ts 0) (ts.drop 0))∧(-1≤gH ts 0)∧(gH ts 0≤9999):=by (refine ⟨I,rfl,by simp [gH],by simp [gH]⟩)
 refine bY (ι:={z:Nat // (z≤ts.length)∧(eN (-1) ts=eN (gH ts z) (ts.drop z))∧(-1≤gH ts z)∧(gH ts z≤9999)}) [1,4,16,17] [1,2] U U (fun z=>[(3,(vI (gH ts z.1))),(18,(vI (z.1:Int)))]) (fun z=>[]) (fun _=>rfl) (fun _=>rfl) (fun z=>ts.length-z.1) ⟨0,D⟩ (bB U) (aQ [1,2]) ?_
 clear D
 rintro ⟨i,⟨Ay,A,A0,A1⟩⟩ J13 E
 try dsimp only
 refine WS fun _ L=>rP 1 [] mn ?_
 refine RK L<|ak fun _ M=>bW U (aT fun k=>?_) (aU fun k=>?_)
 ·refine bP<|ai<|ai<|aJ<|KK B<|WS fun _ O=>rP 2 [] mn ?_
  refine RK O<|aq<|Q1 hQ U U U ?_
  exact cI (if_pos (vW A I I)).symm
 refine WK M<|ak fun _ F=>aH<|WS fun _ N=>?_
 obtain ⟨x,hx⟩:=aL ts i I
 have A2:=bM ao.cells hx
 refine rS (IA i U (aA 1 U) yw dc I I) ?_
 have A6:=hside x (aR hx)
 refine rS (lx i 0 (ao.cells x) U cj (aA 1 U) A2 U dc U U)<|AL U FT fun A3=>fG U Jw U<|RK N ?_
 refine mD (ι:=Unit) [1,3,4,6,16,17,18] [0,1,2] U U (fun z=>[(7,(vB (decide (x.jg=0∧x.eJ.Lo=0∧x.eJ.Hi=0))))]) (fun z=>[]) (fun _=>rfl) (fun _=>rfl) ?_ fun K20 G=>?_
 ·intro _
  try dsimp only
  refine mD (ι:=Unit) [1,3,4,6,7,16,17,18] [0,1,2] U U (fun z=>[(8,(vB (decide ((1≤x.jg∧x.jg≤2)∧x.eJ.Lo≤x.eJ.Hi∧500≤x.eJ.Lo∧x.eJ.Hi≤20000))))]) (fun z=>[]) (fun _=>rfl) (fun _=>rfl) ?_ fun K21 H=>?_
  ·intro _
   try dsimp only
   refine ak fun _ AB=>WS fun _ C=>rP 4 [] (mc 0 U mn) ?_
   refine ej (xs:=[.tmp 44]) (cs:=[(vI x.Id)]) U dv kj U U U U (by simp [Value.cells]) U U fun h=>?_
   refine rS (CL (dG.eq (ph ((gH ts i)+1) 9999 ([x.Id]) (some ⟨h,0,none⟩) 1 (by (simp; done))) cD) (aK (bw 0 U U (by simp [bL]) U)<|aO) U) ?_
   refine rP 2 [] mn ?_
   refine b_ (t:=48) U (bq fun o=>?_) (br fun o=>?_)
   ·refine bD 26 U<|RK C<|aS U<|WS fun _ P=>bD 1 U<|RK P<|bP<|ai<|fh U<|ai<|ai<|aJ<|KK B<|WS fun _ R=>rP 2 [] mn ?_
    refine RK R<|aq<|Q1 hQ U U U ?_
    exact cI (if_neg (by rw [dW A hx (by simp only [bV,dZ]; omega)]; decide)).symm
   refine bD 1 U<|rS (LP (ag.cells x.kP) 1 U cj U U U)<|rS (CL (wG x.kP 1 30000) (aO) U)<|rP 3 [] mn ?_
   refine b_ (t:=54) U (bq fun p=>?_) (br fun p=>?_)
   ·refine bD 20 U<|RK C<|aS U<|WS fun _ S=>bD 1 U<|RK S<|bP<|ai<|fh U<|ai<|ai<|aJ<|KK B<|WS fun _ T=>rP 2 [] mn ?_
    refine RK T<|aq<|Q1 hQ U U U ?_
    exact cI (if_neg (by rw [dW A hx (by simp only [bV,dZ]; omega)]; decide)).symm
   refine bD 1 U<|rS (LP (ag.cells x.l6) 1 U cj U U U)<|rS (CL (wG x.l6 0 5000) (aO) U)<|rP 3 [] mn ?_
   refine b_ (t:=60) U (bq fun q=>?_) (br fun q=>?_)
   ·refine bD 14 U<|RK C<|aS U<|WS fun _ AA=>bD 1 U<|RK AA<|bP<|ai<|fh U<|ai<|ai<|aJ<|KK B<|WS fun _ V=>rP 2 [] mn ?_
    refine RK V<|aq<|Q1 hQ U U U ?_
    exact cI (if_neg (by rw [dW A hx (by simp only [bV,dZ]; omega)]; decide)).symm
   refine rP 2 [] (mc 1 U mn) ?_
   refine ej (xs:=[.tmp 62]) (cs:=[(vI x.AF)]) U dv kj U U U U (by simp [Value.cells]) U U fun j=>?_
   refine rS (CL (dG.eq (ph 0 5000 ([x.AF]) (some ⟨j,0,none⟩) 1 (by (simp; done))) cD) (aK (bw 0 U U (by simp [bL]) U)<|aO) U) ?_
   refine rP 3 [] mn ?_
   refine b_ (t:=67) U (bq fun r=>?_) (br fun r=>?_)
   ·refine bD 7 U<|RK C<|aS U<|WS fun _ W=>bD 1 U<|RK W<|bP<|ai<|fh U<|ai<|ai<|aJ<|KK B<|WS fun _ X=>rP 2 [] mn ?_
    refine RK X<|aq<|Q1 hQ U U U ?_
    exact cI (if_neg (by rw [dW A hx (by simp only [bV,dZ]; omega)]; decide)).symm
   refine rP 3 [] mn ?_
   refine cp (t:=70) U (br fun s=>?_) (bq fun s=>?_)
   ·refine bD 4 U<|RK C<|bR U<|WK AB<|au<|eQ 3 [] (mc 2 U mn) U<|aF<|aN<|KK F<|au<|rP 2 [] mn ?_
    refine aF ?_
    have f:(vI (gH ts (i+1)))=(vI x.Id):=by rw [gE hx]
    refine bg (E ⟨(i+1),⟨I,hO A hx (by simp only [bV,dZ]; omega),by rw [gE hx]; omega,by rw [gE hx]; omega⟩⟩ _ _ _ U os (cG 4<|bf U f<|bB U) (aQ [3,4]))
   refine rP 4 [] mn ?_
   refine RK C<|bW U (br fun u=>?_) (bq fun u=>?_)
   ·refine WK AB<|au<|eQ 3 [] (mc 2 U mn) U<|aF<|aN<|KK F<|au<|rP 2 [] mn ?_
    refine aF ?_
    have e:(vI (gH ts (i+1)))=(vI x.Id):=by rw [gE hx]
    refine bg (E ⟨(i+1),⟨I,hO A hx (by simp only [bV,dZ]; omega),by rw [gE hx]; omega,by rw [gE hx]; omega⟩⟩ _ _ _ U os (cG 4<|bf U e<|bB U) (aQ [3,4]))
   refine WS fun _ Y=>bD 1 U<|RK Y<|bP<|ai<|fh U<|ai<|ai<|aJ<|KK B<|WS fun _ Z=>rP 2 [] mn ?_
   refine RK Z<|aq<|Q1 hQ U U U ?_
   exact cI (if_neg (by rw [dW A hx (by simp only [bV,dZ]; omega)]; decide)).symm
  refine au<|rP 2 [] (mc 0 U mn) ?_
  refine rS (SX (nm (m:=x.jg) U U L_ si (mN (by first|assumption|omega))) U U)<|ej (xs:=[.tmp 33]) (cs:=[(vI x.jg)]) U dv kj U U U U (by simp [Value.cells]) U U fun g=>?_
  refine rS (CL (dG.eq (ph 1 2 ([x.jg]) (some ⟨g,0,none⟩) 1 (by (simp; done))) cD) (aK (bw 0 U U (by simp [bL]) U)<|aO) U) ?_
  refine rP 1 [] mn ?_
  refine cp (t:=36) U (aT fun n=>?_) (aU fun n=>?_)
  ·refine rP 5 [] mn ?_
   refine aF ?_
   have d:(decide ((1≤x.jg∧x.jg≤2)∧x.eJ.Lo≤x.eJ.Hi∧500≤x.eJ.Lo∧x.eJ.Hi≤20000))=false:=bE I
   refine bg (jl (cG 8<|nJ U d<|dh.nil _) (aQ [1,2,3]) (H ()))
  refine bD 1 U<|rS (LP (ag.cells x.eJ) 1 U cj U U U)<|rS (CL (wG x.eJ 500 20000) (aO) U)<|rP 2 [] mn ?_
  refine aF ?_
  have c:(decide ((1≤x.jg∧x.jg≤2)∧x.eJ.Lo≤x.eJ.Hi∧500≤x.eJ.Lo∧x.eJ.Hi≤20000))=(decide (x.eJ.Lo≤x.eJ.Hi∧500≤x.eJ.Lo∧x.eJ.Hi≤20000)):=gR.2 I
  refine bg (jl (cG 8<|nJ U c<|dh.nil _) (aQ [1,2,3]) (H ()))
 refine au<|eQ 2 [] (mc 0 U mn) U<|rS (BI U lE)<|rP 1 [] mn ?_
 refine cp (t:=25) U (aT fun l=>?_) (aU fun l=>?_)
 ·refine rP 6 [] mn ?_
  refine aF ?_
  have b:(decide (x.jg=0∧x.eJ.Lo=0∧x.eJ.Hi=0))=false:=bE I
  refine bg (jl (cG 7<|nJ U b<|dh.nil _) (aQ [0,1,2]) (G ()))
 refine bD 1 U<|rS (LP (ag.cells x.eJ) 0 U cj U U U)<|rS (SX (bp (xs:=[]) (cs:=(ag.cells (ag.mk 0 0))) U U (bo gX U)) U U)<|rS (BI U (x3 _ _ x.eJ (ag.mk 0 0)))<|rP 2 [] mn ?_
 refine aF ?_
 have a:(decide (x.jg=0∧x.eJ.Lo=0∧x.eJ.Hi=0))=(decide (x.eJ=(ag.mk 0 0))):=gR.2 (by (simp only [ag.ext_iff] at *; omega))
 refine bg (jl (cG 7<|nJ U a<|dh.nil _) (aQ [0,1,2]) (G ()))
theorem QM (ts:List ao) (tsA:OA) (tsC:Nat) (hlen:ts.length≤1000000):
 pG Tryz.prog 89 [(vA (bO.cells (bO.mk (bH.mk tsA ts.length tsC))))] [(rd tsA ts.length 9 (ts.map ao.cells))] (fun (x:(OA)×Nat)=>(vA (bO.cells (bO.mk (bH.mk x.1 ts.length x.2))))) (fun (x:(OA)×Nat)=>True) (fun (x:(OA)×Nat)=>[(own x.1 x.2 118 9 (ts.map ao.cells))]):=by
 refine e_ kr Tryz.func89 U U fun H Q hQ hN=>?_
 try dsimp only
 refine WS fun _ A=>eI U fun F=>AL U VG fun G=>RK A<|WS fun _ B=>ql U yw U fun E=>rP 2 [] (mc 2 U mn) ?_
 refine fy (es:=(List.map ao.cells [])) (C':=[own (some ⟨E,0,none⟩) 0 118 9 (List.map ao.cells []),_,_,_]) 0 U sm U (by simp [maxLen]) U ?_
 refine dJ (es2:=(List.map ao.cells ts)) (m':=ts.length) 0 U U U T3 U U sm (aA 3 U) (sX _) os (by first|(simp only [maxLen]; omega)|(simp [maxLen]; omega)) sm sm U fun C D=>?_
 try dsimp only
 refine rS (SX (bp (xs:=[(0,.tmp 6)]) (cs:=(bO.cells (bO.mk (bH.mk C ts.length D)))) U U (bo SU U)) U U)<|qO U RY U<|RK B<|aq<|LX hQ (C,D) [0] [0] (mc 1 U mn) U U U U ?_
 trivial
theorem DD (la:List Int) (laA:OA) (laC:Nat) (lb:List Int) (lbA:OA) (lbC:Nat) (h1:la.length≤1000000) (h2:lb.length≤1000000):
 dG Tryz.prog 19 [(vS laA la.length laC),(vS lbA lb.length lbC)] [(rd laA la.length 1 (la.map iC)),(rd lbA lb.length 1 (lb.map iC))] (vB (decide (la=lb))):=by
 refine bG kr Tryz.func19 U U fun V Q hQ hN=>?_
 try dsimp only
 refine WS fun _ J=>bD 1 U<|RK J<|ak fun _ K=>WS fun _ L=>rP 5 [] mn ?_
 refine RK L<|cx U (bq fun hl=>?_) (br fun hl=>?_)
 ·refine WS fun _ M=>rP 1 [] mn ?_
  refine RK M<|aq<|Q1 hQ U U U ?_
  first|exact cB (bE (rh hx hy h)).symm|exact cB (dx (qF I A I)).symm|exact cB (bE (fun e=>by subst e; omega)).symm
 refine WK K<|ak fun _ N=>WS fun _ O=>rP 1 [] mn ?_
 refine RK O<|aH ?_
 have B:(0≤la.length)∧(la.take 0=lb.take 0):=by simp
 refine bY (ι:={z:Nat // (z≤la.length)∧(la.take z=lb.take z)}) [0,1] [0,1] U U (fun z=>[(5,(vI (z.1:Int)))]) (fun z=>[]) (fun _=>rfl) (fun _=>rfl) (fun z=>la.length-z.1) ⟨0,B⟩ (bB U) (aQ [0,1]) ?_
 clear B
 rintro ⟨i,⟨S,A⟩⟩ J7 AB
 try dsimp only
 refine ak fun _ P=>WS fun _ R=>rP 4 [] mn ?_
 refine RK R<|bW U (aT fun H=>?_) (aU fun H=>?_)
 ·refine bP<|ai<|ai<|aJ<|KK N<|WS fun _ F=>rP 1 [] mn ?_
  refine RK F<|aq<|Q1 hQ U U U ?_
  first|exact cB (bE (rh hx hy h)).symm|exact cB (dx (qF I A I)).symm|exact cB (bE (fun e=>by subst e; omega)).symm
 refine WK P<|ak fun _ C=>aH<|ak fun _ D=>dp ct 9 kr<|dP 2 [] mn ?_
 obtain ⟨x,hx⟩:=aL la i I
 have T:=bM iC hx
 refine dS (IA i U (aA 0 U) dv dc I I)<|dS (g6 i 0 (vI x) U cj (aA 0 U) T U dc U)<|dP 2 [] mn ?_
 obtain ⟨y,hy⟩:=aL lb i I
 have AA:=bM iC hy
 refine dS (IA i U (aA 1 U) dv dc I I)<|dS (g6 i 0 (vI y) U cj (aA 1 U) AA U dc U)<|dP 1 [] mn ?_
 refine cK<|RK D<|cx U (bq fun h=>?_) (br fun h=>?_)
 ·refine WS fun _ E=>rP 1 [] mn ?_
  refine RK E<|aq<|Q1 hQ U U U ?_
  first|exact cB (bE (rh hx hy h)).symm|exact cB (dx (qF I A I)).symm|exact cB (bE (fun e=>by subst e; omega)).symm
 refine cf<|aN<|KK C<|au<|rP 3 [] mn ?_
 refine aF ?_
 have G:(vI (((i+1):Nat):Int))=(vI ((i:Int)+1)):=by exact cI I
 refine bg (AB ⟨(i+1),⟨I,uU A hx hy h⟩⟩ _ _ _ U os (dh.cons U<|dh.cons U<|bf U G<|dh.nil _) (aQ [0,1]))
end
section
open Go.RowKit
theorem LR (l:bk) (kA:OA) (kC:Nat) (az:List RA) (cA:OA) (cC:Nat) (bA:OA) (bC:Nat) (hin:eg l az) (hng: ¬ l9 l):
 pG Tryz.prog 58 [(vA (cv.cells (jN l kA kC cA cC bA bC)))] [(rd kA l.aV.length 9 (l.aV.map ao.cells)),(rd cA l.aj.length 2 (List.zipWith aw.cells l.aj az)),(dR (bj aw.f_ l.aj az)),(rd bA l.ab.length 4 (l.ab.map bJ.cells))] (fun (x:(OA)×Nat×(OA)×Nat×(List RA)×(OA)×Nat)=>(vA (cv.cells (cv.mk (bO.mk (bH.mk x.1 l.aV.length x.2.1)) l.iR (bH.mk x.2.2.1 l.aj.length x.2.2.2.1) (bH.mk x.2.2.2.2.2.1 l.ab.length x.2.2.2.2.2.2) l.bS l.fZ l.dL)))) (fun (x:(OA)×Nat×(OA)×Nat×(List RA)×(OA)×Nat)=>x.2.2.2.2.1.length=l.aj.length∧tJ l.aj x.2.2.2.2.1) (fun (x:(OA)×Nat×(OA)×Nat×(List RA)×(OA)×Nat)=>[(own x.1 x.2.1 118 9 (l.aV.map ao.cells)),(own x.2.2.1 x.2.2.2.1 73 2 (List.zipWith aw.cells l.aj x.2.2.2.2.1)),(bQ (bj aw.owns l.aj x.2.2.2.2.1)),(own x.2.2.2.2.2.1 x.2.2.2.2.2.2 122 4 (l.ab.map bJ.cells))]):=by
 have v:=hin.sJ
 have u:=hin.sL
 have G:=hin.og
 have t:=hin.sH
 have Z:=BJ hng
 refine e_ Up Tryz.func58 U U fun w0 Q hQ hN=>?_
 try dsimp only
 refine WS fun _ p=>eI U fun b2=>AL U Tb fun b3=>RK p<|WS fun _ q=>rP 1 [] mn ?_
 refine rS (LP (bO.cells (bO.mk (bH.mk kA l.aV.length kC))) 1 U TI U U U) ?_
 refine cX (QM l.aV kA kC sd) (bu [2]) U fun y w=>?_
 obtain ⟨c,d⟩:=y
 try dsimp only
 refine bD 1 U<|Vo (cv.cells (cv.mk (bO.mk (bH.mk c l.aV.length d)) l.iR (bH.mk cA l.aj.length cC) (bH.mk bA l.ab.length bC) l.bS l.fZ l.dL)) U RY U U<|RK q<|WS fun _ r=>ql U Az U fun e=>rP 2 [] (mc 3 U mn) ?_
 refine fy (es:=(List.map dq.cells [])) (C':=[own (some ⟨e,0,none⟩) 0 73 2 (List.map dq.cells []),_,_,_,_,_,_,_]) 0 U sm U (by simp [maxLen]) U ?_
 refine dJ (es2:=(List.zipWith aw.cells l.aj az)) (m':=l.aj.length) 0 U U U Vy U U sm (aA 5 U) (Et _ _) os (by first|(simp only [maxLen]; omega)|(simp [maxLen]; omega)) sm (km G) U fun B D=>?_
 try dsimp only
 refine bD 1 U<|PU (cv.cells (cv.mk (bO.mk (bH.mk c l.aV.length d)) l.iR (bH.mk B l.aj.length D) (bH.mk bA l.ab.length bC) l.bS l.fZ l.dL)) U Vi U U<|RK r<|ak fun _ N=>WS fun _ O=>rP 1 [] mn ?_
 refine RK O<|aH<|oc ?_
 have H:(0≤l.aj.length)∧(([]:List RA).length=0)∧(tJ l.aj ([]:List RA)):=by exact ⟨Nat.zero_le _,rfl,fun k m a _ h=>by simp at h⟩
 refine bY (ι:={z:Nat×(List RA) // (z.1≤l.aj.length)∧(z.2.length=z.1)∧(tJ l.aj z.2)}) [1,2] [2,3,4,5,6,7,8] U U (fun z=>[(3,(vI (z.1.1:Int)))]) (fun z=>[(bQ (bj aw.owns (l.aj.take z.1.1) z.1.2)),(own B D 73 2 (List.zipWith aw.cells l.aj (sw z.1.2 az z.1.1)))]) (fun _=>rfl) (fun _=>rfl) (fun z=>l.aj.length-z.1.1) ⟨(0,([]:List RA)),H⟩ (bB U) (aQ [2,3,4,5,6,7,8,0,1]) ?_
 clear H
 rintro ⟨⟨i,bz⟩,⟨AB,A,F⟩⟩ J15 M
 try dsimp only at AB A F
 try dsimp only
 refine ak fun _ P=>WS fun _ R=>rP 5 [] (mc 2 U mn) ?_
 refine RK R<|bW U (aT fun j=>?_) (aU fun j=>?_)
 ·refine bP<|ai<|ai<|aJ<|KK N<|WS fun _ T=>ql U wq U fun g=>?_
  rw [show sw bz az i=bz from I7 I]
  rw [show l.aj.take i=l.aj from List.take_of_length_le I]
  refine rP 2 [] (mc 3 U mn) ?_
  refine fy (es:=(List.map bJ.cells [])) (C':=[own (some ⟨g,0,none⟩) 0 122 4 (List.map bJ.cells []),_,_,_,_,_,_,_,_,_]) 0 U sm U (by simp [maxLen]) U ?_
  refine dJ (es2:=(List.map bJ.cells l.ab)) (m':=l.ab.length) 0 U U U VK U U sm (aA 7 U) (wk _) os (by first|(simp only [maxLen]; omega)|(simp [maxLen]; omega)) sm sm U fun K L=>?_
  try dsimp only
  refine bD 1 U<|PU (cv.cells (cv.mk (bO.mk (bH.mk c l.aV.length d)) l.iR (bH.mk B l.aj.length D) (bH.mk K l.ab.length L) l.bS l.fZ l.dL)) U UE U U<|RK T<|WS fun _ AA=>rP 1 [] (mc 3 U mn) ?_
  refine Ha U O5 U<|RK AA<|aq ?_
  refine LX hQ (c,d,B,D,bz,K,L) [1,9,8,0] [0] (mc 2 U mn) U (by simp only [eG,List.all_nil,m_,Bool.and_true]; rfl) U U ?_
  exact ⟨dso,F⟩
 refine WK P<|ak fun _ S=>aH<|dA ct [3,10,13] [6,7,8,9,10] [0,1] [0,1,2,3,4,5,6,7] [0,1,2,3,4,5,6,7,8] U U U U U<|eS U (FA 2 U K_ U)<|eS U (L1 (vS B l.aj.length D) 2 U PC U U)<|eS U (MV U)<|eS U (FA 2 U K_ U)<|eS U (L1 (vS B l.aj.length D) 2 U PC U U)<|eS U (MV U) ?_
 obtain ⟨x,hx⟩:=aL l.aj i I
 obtain ⟨xa,J⟩:=aL az i I
 have b:(List.zipWith aw.cells l.aj (sw bz az i))[i]? =some (aw.cells x xa):=dy hx (FR A J)
 refine fS U (IA i U (aC (n:=l.aj.length) 8 U (km (by rw [qB A I]; exact G))) Az dc I I) ?_
 refine fS U (o9 ((i*2)+1) U (aC (n:=l.aj.length) 8 U (km (by rw [qB A I]; exact G))) (Nat.mul_pos I dc) Ij U) ?_
 refine fS U (g6 i 1 (vS xa.1 x.bI.length xa.2) U RE (aC (n:=l.aj.length) 8 U (km (by rw [qB A I]; exact G))) b U dc U) ?_
 refine fS U (IA i U (aC (n:=l.aj.length) 8 U (km (by rw [qB A I]; exact G))) Az dc I I) ?_
 refine fS U (o9 ((i*2)+1) U (aC (n:=l.aj.length) 8 U (km (by rw [qB A I]; exact G))) (Nat.mul_pos I dc) Ij U) ?_
 refine eh U<|jB U fun T20 V=>ql U wX U fun f=>aF (V _ _ (aQ [1,2,3,4,5,6,7,8]) (aQ [1,2,3,4,5,6,7,8,9]) ?_)
 refine jB U fun T22 W=>fy (es:=(List.map cQ.cells [])) (C':=[own (some ⟨f,0,none⟩) 0 75 3 (List.map cQ.cells []),_,_,_,_,_,_,_,_,_]) 0 U sm U (by simp [maxLen]) U ?_
 refine dJ (es2:=(List.map cQ.cells x.bI)) (m':=x.bI.length) 0 U U U U8 U U sm (show iK _ (rd xa.1 x.bI.length 3 (x.bI.map cQ.cells)).holds from (cO 6 U (bK hx J (by simp [aw.f_])))) (wv _) (by have:=Z.2.2.2 x (aR hx); simp; omega) (by have:=Z.2.2.2 x (aR hx); simp only [maxLen]; simp; omega) sm sm U fun C E=>?_
 try dsimp only
 refine Sj 0 U fun s=>aF (W _ _ (aQ [1,2,3,4,5,6,7,8]) (aQ [1,2,3,4,5,6,7,8,9]) ?_)
 refine cd U fun T25 X=>fW (k:=i) (o:=1) (vs:=[(vS C x.bI.length E)]) (es':=(List.zipWith aw.cells l.aj (sw (bz++[(C,E)]) az (i+1)))) (C':=[_,_,_,_,_,_,_,_,_,(own B D 73 2 (List.zipWith aw.cells l.aj (sw (bz++[(C,E)]) az (i+1))))]) 9 U U U U4 U U U U b U dc (by exact MF (nw:=(C,E)) hx A J) U<|aF (X _ _ (aQ [1,2,3,4,5,6,7,8]) ?_)
 refine fp U<|aN<|KK S<|au<|rP 3 [] mn ?_
 refine aF<|xN (X':=bj aw.owns (l.aj.take (i+1)) (bz++[(C,E)])) 8 0 U U (Ga (nw:=(C,E)) hx A) ?_
 have Y:(vI (((i+1):Nat):Int))=(vI ((i:Int)+1)):=by exact cI I
 refine bg (M ⟨((i+1),(bz++[(C,E)])),⟨I,by simp; omega,Lc F A hx (by simpa using s)⟩⟩ _ _ _ U os (dh.cons U<|dh.cons U<|bf U Y<|dh.nil _) (aQ [1,2,3,4,5,6,7,0,8]))
end
section
open Go.RowKit
structure HT (S:BS) (w0:World) (X:ax) (C0:List ax) (w:World) (S':BS):Prop where
 st:St S w0 (X::C0) w
 w_: ∀ b,S'.w b↔ ∃ A∈C0,A.wf b
theorem Em {A B:ax} (h:CP A B):CP A.ro B:=fun b C D=>⟨fun h=>h,(h b C D).2⟩
theorem CF {E:fg} {c:Code} {Q:dg} {D:g9} {L:dw} {C C0:List ax} {X:ax} (i:Nat) (hn:decide (i::(List.range C.length).filter fun k=>k != i).Nodup=true) (hC:ko C (i::(List.range C.length).filter fun k=>k != i)=X::C0)
 (h: ∀ w S',HT E.S E.w0 X C0 w S'→WJ ⟨E.P,E.r,E.n,S',w⟩ c Q D L (X.ro::C0)):WJ E c Q D L C:=fun a w hf hs=>by
 have F:=St.ko _ hn hC hs
 obtain ⟨G,H⟩:=List.pairwise_cons.1 F.sep
 refine h w ⟨fun b=> ∃ A∈C0,A.wf b,fun _=>True⟩ ⟨F,fun b=>Iff.rfl⟩ a w hf ⟨dT.refl _ _,fun A hA=>?_,List.Pairwise.cons (fun B hB=>Em (G B hB)) H,fun A hA b hb=>?_,fun A hA b hb=> .inr trivial⟩
 ·rcases bT.1 hA with rfl|hA
  ·exact F.holds X (cy ..)
  ·exact F.holds A (dI _ hA)
 ·rcases bT.1 hA with rfl|hA
  ·exact hb.elim
  ·exact .inr ⟨A,hA,hb⟩
theorem zZ {E:fg} {S':BS} {w:World} {K:Act→World→Prop} {D:g9} {L:dw} {C0 C1 C2:List ax} {X:ax} (hz:HT E.S E.w0 X C0 w S') (is:List Nat) (hn:decide is.Nodup=true) (hC:ko C2 is=C1) (hwr:C1.all (·.wr)=true)
 (h:KJ E K D L (X::C1)):KJ ⟨E.P,E.r,E.n,S',w⟩ K D L C2:=fun a w' hf hs=>by
 have F:=St.ko is hn hC hs
 have C:=hz.st
 obtain ⟨J,M⟩:=List.pairwise_cons.1 C.sep
 have AA: ∀ b,X.fr b→ ¬ S'.w b:=fun b hb hw=>by
  obtain ⟨A,hA,hw⟩:=(hz.w_ b).1 hw
  exact (J A hA b hb (A.kB b hw)).2 hw
 have G: ∀ b,S'.w b→E.w0.heap.size≤b∨E.S.w b:=fun b hb=>by
  obtain ⟨A,hA,hw⟩:=(hz.w_ b).1 hb
  exact C.own A (dI _ hA) b hw
 have H: ∀ A∈C1,∀ b,A.fr b→w.heap.size≤b∨S'.w b:=fun A hA b hb=>F.own A hA b (A.whole (cV.1 hwr A hA) b hb)
 refine h a w' hf ⟨?_,fun A hA=>?_,List.Pairwise.cons (fun B hB b hb hb'=>?_) F.sep,fun A hA b hb=>?_,fun A hA b hb=>?_⟩
 ·refine ⟨F.keeps.os.trans C.keeps.os,F.keeps.tape.trans C.keeps.tape,F.keeps.output.trans C.keeps.output,Nat.le_trans C.keeps.size F.keeps.size,fun k hk hn'=>?_⟩
  refine (F.keeps.block k (Nat.lt_of_lt_of_le hk C.keeps.size) fun hw=>?_).trans (C.keeps.block k hk hn')
  rcases G k hw with q|q
  ·omega
  ·exact hn' q
 ·rcases bT.1 hA with rfl|hA
  ·have hh:=C.holds A (cy ..)
   exact A.oW w w' (fun b hb=>F.keeps.block b (A.lt w hh b hb) (AA b hb)) hh
  ·exact F.holds A hA
 ·exfalso
  have hl:=X.lt w (C.holds X (cy ..)) b hb
  rcases H B hB b hb' with q|q
  ·omega
  ·exact AA b hb q
 ·rcases bT.1 hA with rfl|hA
  ·exact C.own A (cy ..) b hb
  ·rcases F.own A hA b hb with q|q
   ·exact .inl (Nat.le_trans C.keeps.size q)
   ·exact G b q
 ·rcases bT.1 hA with rfl|hA
  ·exact C.seen A (cy ..) b hb
  ·rcases H A hA b hb with q|q
   ·exact .inl (Nat.le_trans C.keeps.size q)
   ·obtain ⟨B,hB,hw⟩:=(hz.w_ b).1 q
    exact C.seen B (dI _ hB) b (B.kB b hw)
/-- put back, as it was -/
theorem GJ {M A:Type} {f:M→A→List ax} {S:BS} {w0 w:World} {C:List ax} {ms:List M} {asl:List A} {k:Nat} {m:M} {a:A} {X:ax} (hm:ms[k]? =some m) (ha:asl[k]? =some a) (hf:f m a=[X]) (h:St S w0 (X::bQ (je f ms asl k)::C) w):St S w0 (bQ (bj f ms asl)::C) w:=by
 have B:St S w0 (bQ (je f ms asl k)::X::C) w:=h.perm (List.Perm.swap _ _ _)
 have D:St S w0 ((f m a++je f ms asl k)++C) w:=by
  rw [hf]
  exact B.iU.perm (List.perm_middle (a:=X) (l₁:=je f ms asl k) (l₂:=C))
 exact ve (se hm ha).symm D.tied
theorem Jn {E:fg} {K:Act→World→Prop} {D:g9} {L:dw} {C C1:List ax} {M A:Type} {f:M→A→List ax} {ms:List M} {asl:List A} {k:Nat} {m:M} {a:A} {X:ax} (i j:Nat) (hm:ms[k]? =some m) (ha:asl[k]? =some a) (hf:f m a=[X])
 (hn:decide (j::i::(List.range C.length).filter fun k=>k != i&&k != j).Nodup=true) (hC:ko C (j::i::(List.range C.length).filter fun k=>k != i&&k != j)=X::bQ (je f ms asl k)::C1)
 (h:KJ E K D L (bQ (bj f ms asl)::C1)):KJ E K D L C:=fun a w hf' hs=>h a w hf' (GJ hm ha hf (St.ko _ hn hC hs))
theorem za {M A:Type} {f:M→A→List ax} {ms:List M} {asl:List A} {m:M} {a:A} {X:ax} (hl:ms.length=asl.length) (hf:f m a=[X]):bj f ms asl++[X]=bj f (ms++[m]) (asl++[a]):=by
 rw [jx hl,← hf]; simp [bj]
theorem zy {E:fg} {K:Act→World→Prop} {D:g9} {L:dw} {C C1:List ax} {M A:Type} {f:M→A→List ax} {ms:List M} {asl:List A} {m:M} {a:A} {X:ax} (i j:Nat) (hf:f m a=[X])
 (hn:decide (j::i::(List.range C.length).filter fun k=>k != i&&k != j).Nodup=true) (hC:ko C (j::i::(List.range C.length).filter fun k=>k != i&&k != j)=X::bQ (bj f ms asl)::C1)
 (h:KJ E K D L (bQ (bj f (m::ms) (a::asl))::C1)):KJ E K D L C:=fun b w hf' hs=>by
 have B:=St.ko _ hn hC hs
 have F:St E.S E.w0 (bQ (bj f ms asl)::X::C1) w:=B.perm (List.Perm.swap _ _ _)
 have G:St E.S E.w0 (bj f (m::ms) (a::asl)++C1) w:=by
  show St E.S E.w0 ((f m a++bj f ms asl)++C1) w
  rw [hf]
  exact F.iU.perm (List.perm_middle (a:=X) (l₁:=bj f ms asl) (l₂:=C1))
 exact h b w hf' G.tied
end
section
open Go.RowKit
abbrev mz (r:Nat):ax:=jh r (.deferred (some []))
theorem MJ (rs:List Nat):(bQ (rs.map mz)).wr=true:=by
 show (rs.map mz).all (·.wr)=true
 rw [cV]
 intro X hX
 obtain ⟨r,_,rfl⟩:=cE.1 hX
 rfl
theorem wK {E:fg} {c:Code} {Q:dg} {D:g9} {L:dw} {C:List ax} {ι:Type} (Di:ι→g9) (Li:ι→dw) (Ci:ι→List ax) (μ:ι→Nat) (x0:ι)
 (hD:D=Di x0) (h0:dh L (Li x0)) (hC: ∀ w,St E.S E.w0 C w→St E.S E.w0 (Ci x0) w)
 (round: ∀ x (J:Act→World→Prop),(∀ y D' L' C',D'=Di y→μ y<μ x→dh L' (Li y)→(∀ w,St E.S E.w0 C' w→St E.S E.w0 (Ci y) w)→KJ E J D' L' C')→WJ E c (Exit.then J Q) (Di x) (Li x) (Ci x)):WJ E (.loop c) Q D L C:=by
 intro a w hf hs
 subst hD
 have H: ∃ x,Fr E.n (Di x) (Li x) a∧St E.S E.w0 (Ci x) w:=⟨x0,hf.sub h0,hC w hs⟩
 clear hf hs
 have key: ∀ (m:Nat) (a:Act) (w:World),(∃ x,μ x=m∧Fr E.n (Di x) (Li x) a∧St E.S E.w0 (Ci x) w)→(Code.loop c).wpIn (Fw E.r) 0 E.P Q a w:=by
  intro m a w hx
  refine wpIn_loop (fun a w=> ∃ x,Fr E.n (Di x) (Li x) a∧St E.S E.w0 (Ci x) w) (fun a w=>leastOf fun k=> ∃ x,μ x=k∧Fr E.n (Di x) (Li x) a∧St E.S E.w0 (Ci x) w) (by obtain ⟨x,_,h⟩:=hx; exact ⟨x,h⟩) ?_
  intro a w hx
  have F: ∃ k,∃ x,μ x=k∧Fr E.n (Di x) (Li x) a∧St E.S E.w0 (Ci x) w:=by obtain ⟨x,h⟩:=hx; exact ⟨_,x,rfl,h⟩
  obtain ⟨x,K,AA,M⟩:=(leastOf_spec F).1
  refine round x _ ?_ a w AA M
  intro y D' L' C' hD G A B a' w' hf' hs'
  subst hD
  refine ⟨⟨y,hf'.sub A,B _ hs'⟩,?_⟩
  rw [← K]
  exact Nat.lt_of_le_of_lt ((leastOf_spec ⟨_,y,U,hf'.sub A,B _ hs'⟩).2 _ ⟨y,U,hf'.sub A,B _ hs'⟩) G
 obtain ⟨x,h⟩:=H
 exact key _ a w ⟨x,U,h⟩
theorem St.U5 {S:BS} {w0 w:World} {C X:List ax} {A:ax} (h:St S w0 (A::bQ X::C) w):St S w0 (bQ (A::X)::C) w:=by
 have B:St S w0 (bQ X::A::C) w:=h.perm (List.Perm.swap _ _ _)
 have D:St S w0 ((A::X)++C) w:=B.iU.perm (List.perm_middle (a:=A) (l₁:=X) (l₂:=C))
 exact D.tied
theorem Kf {E:fg} {K:Act→World→Prop} {D:g9} {L:dw} {C C1 X:List ax} {A:ax} (i j:Nat) (hn:decide (j::i::(List.range C.length).filter fun k=>k != i&&k != j).Nodup=true) (hC:ko C (j::i::(List.range C.length).filter fun k=>k != i&&k != j)=A::bQ X::C1)
 (h:KJ E K D L (bQ (A::X)::C1)):KJ E K D L C:=fun a w hf hs=>h a w hf ((St.ko _ hn hC hs).U5)
theorem Ep {E:fg} {K:Act→World→Prop} {D:g9} {L:dw} {C:List ax} (h:KJ E K D L (bQ []::C)):KJ E K D L C:=fun a w hf hs=>h a w hf hs.PB
theorem OZ {E:fg} {K:Act→World→Prop} {D:g9} {L:dw} (C1 C2:List ax) (h:KJ E K D L (bQ C1::C2)):KJ E K D L (C1++C2):=fun a w hf hs=>h a w hf (St.tied hs)
theorem Mt {E:fg} {fn:Func} {R:Ending→World→Prop} {D:g9} {L:dw} {C C1:List ax} {rs:List Nat} (i:Nat) (hn:decide (i::(List.range C.length).filter fun k=>k != i).Nodup=true) (hC:ko C (i::(List.range C.length).filter fun k=>k != i)=bQ (rs.map mz)::C1)
 (h:LJ E fn R D L C1):LJ E fn R (rs.map jR++D) L C:=by
 have key: ∀ rs:List Nat,LJ E fn R (rs.map jR++D) L (bQ (rs.map mz)::C1):=by
  intro rs
  induction rs with
  |nil=>exact fun a w hf hs=>h a w hf (hs.take (List.sublist_cons_self _ _))
  |cons r rs ih=>
   have A:LJ E fn R (jR r::(rs.map jR++D)) L (mz r::bQ (rs.map mz)::C1):=rn 0 rfl rfl (fun a w hf hs=>ih a w hf (hs.take (List.sublist_cons_self _ _)))
   intro a w hf hs
   refine A a w hf ?_
   have B:St E.S E.w0 ((mz r::rs.map mz)++C1) w:=St.iU (C1:=mz r::rs.map mz) hs
   have F:St E.S E.w0 (rs.map mz++(mz r::C1)) w:=B.perm (List.perm_middle (a:=mz r) (l₁:=rs.map mz) (l₂:=C1)).symm
   exact F.tied.perm (List.Perm.swap _ _ _)
 exact fun a w hf hs=>key rs a w hf (St.ko _ hn hC hs)
theorem IQ {E:fg} {fn:Func} {R:Ending→World→Prop} {L:dw} {C C1:List ax} {rs:List Nat} (i:Nat) (hn:decide (i::(List.range C.length).filter fun k=>k != i).Nodup=true) (hC:ko C (i::(List.range C.length).filter fun k=>k != i)=bQ (rs.map mz)::C1)
 (h:LJ E fn R [] L C1):LJ E fn R (rs.map jR) L C:=by
 have:=Mt (D:=[]) i hn hC h
 rwa [List.append_nil] at this
end
section
open Go.RowKit
theorem pq (fs:List FM) (fb:List Nat):(bQ (bj m6 fs fb)).wr=true:=by
 show (bj m6 fs fb).all (·.wr)=true
 rw [cV]
 intro X hX
 obtain ⟨k,m,a,_,_,h⟩:=j5 hX
 simp only [m6,cq] at h
 subst h; rfl
theorem qZ (fs:List TM) (fb:List Nat):(bQ (bj qf fs fb)).wr=true:=by
 show (bj qf fs fb).all (·.wr)=true
 rw [cV]
 intro X hX
 obtain ⟨k,m,a,_,_,h⟩:=j5 hX
 simp only [qf,cq] at h
 subst h; rfl
end
section
def dB (bl:List Nat) (n:Nat):List (Option Nat):=bl.map some++List.replicate (n-bl.length) none
def ia (bl:List Nat) (n:Nat):List (Option Nat):=List.replicate (n-bl.length) none++bl.map some
theorem nE {bl:List Nat} {n:Nat} (h:bl.length≤n):(dB bl n).length=n:=by simp [dB]; omega
theorem zg {bl:List Nat} {n:Nat} (h:bl.length≤n):(ia bl n).length=n:=by simp [ia]; omega
theorem uV {n:Nat}:List.replicate n none=dB [] n:=by simp [dB]
theorem F5 {n:Nat}:List.replicate n none=ia [] n:=by simp [ia]
theorem zk {bl:List Nat} {n:Nat} (h:bl.length=n):dB bl n=bl.map some:=by simp [dB,h]
theorem Gr {bl:List Nat} {n:Nat} (h:bl.length=n):ia bl n=bl.map some:=by simp [ia,h]
theorem mP {bl:List Nat} {n k g:Nat} (h:bl[k]? =some g):(dB bl n)[k]? =some (some g):=by
 have hk:=(aW.1 h).1
 unfold dB
 rw [List.getElem?_append_left (by simpa using hk),fM,h]; rfl
theorem uw {bl:List Nat} {n k i g:Nat} (h:bl[i]? =some g) (hk:k=n-bl.length+i):(ia bl n)[k]? =some (some g):=by
 subst hk
 unfold ia
 rw [List.getElem?_append_right sm,fM,List.length_replicate,Nat.add_sub_cancel_left,h]; rfl
theorem rO {bl:List Nat} {n k g:Nat} (hk:k=bl.length) (h:bl.length<n):(dB bl n).set k (some g)=dB (bl++[g]) n:=by
 subst hk
 unfold dB
 rw [List.set_append_right _ _ sm]
 have e:n-bl.length=(n-(bl++[g]).length)+1:=by simp; omega
 rw [e,List.replicate_succ]
 simp
theorem He {bl:List Nat} {n k g:Nat} (hk:k+1+bl.length=n):(ia bl n).set k (some g)=ia (g::bl) n:=by
 unfold ia
 have e:n-bl.length=k+1:=by omega
 have A:n-(g::bl).length=k:=by simp; omega
 rw [e,A,List.set_append_left _ _ sm,List.replicate_succ',List.set_append_right _ _ sm]
 simp
theorem qk {l:List (Option Nat)} {k g:Nat} (h:l[k]? =some (some g)):(l.map oC)[k]? =some (oC (some g)):=by rw [fM,h]; rfl
theorem Ao {α:Type} {l:List α} {x:α} {k:Nat} (h:k=l.length):(l++[x])[k]? =some x:=by subst h; simp
theorem IZ {α:Type} {l:List α} {x y:α} {k:Nat} (h:l[k]? =some y):(l++[x])[k]? =some y:=by rw [List.getElem?_append_left (aW.1 h).1]; exact h
structure qn (w:bZ) (fs:List FM):Prop where
 all: ∀ (b:Nat) m,fs[b]? =some m→tR m (fwd w b)∧(m.map (·.1)).Nodup
structure ik (w:bZ) (k:Nat) (bs:List FM):Prop where
 all: ∀ (i:Nat) m,bs[i]? =some m→v8 m (back w (k+i))∧(m.map (·.1)).Nodup
variable {w:bZ} {b:Nat} {mb m left:List (aI×Int)} {o:Int×ag} {os:List (Int×ag)} {p:aI×Int}
theorem qn.first:qn w [[(⟨0,0⟩,w.Start)]]:=⟨fun b m h=>by
 match b with
 |0=>simp at h; subst h; exact ⟨Gc,sm⟩
 |n+1=>simp at h⟩
theorem qn.add {fs:List FM} (h:qn w fs) (hl:fs.length=b+1) (hmb:fs[b]? =some mb) (hm:xd w b m) (hd:kg w b mb m left) (h0:left=[]):qn w (fs++[m]):=⟨fun i x hx=>by
 rcases Nat.lt_or_ge i fs.length with q|q
 ·rw [List.getElem?_append_left q] at hx; exact h.all i x hx
 ·rw [List.getElem?_append_right q] at hx
  have hi:i-fs.length=0:=by
   rcases Nat.eq_zero_or_pos (i-fs.length) with z|z
   ·exact z
   ·rw [List.getElem?_eq_none (by simp; omega)] at hx; cases hx
  rw [hi] at hx
  simp at hx; subst hx
  obtain rfl:i=b+1:=by omega
  have A:=h.all b mb hmb
  exact ⟨KT A.2 A.1 hm.snd (hd.fin h0),hm.keys⟩⟩
theorem qn.ok {fs:List FM} (h:qn w fs) (hl:fs.length=w.n+1):vV w fs:=⟨hl,fun b m hm=>(h.all b m hm).1,fun b m hm=>(h.all b m hm).2⟩
theorem ik.none_:ik w b []:=⟨fun i m h=>by simp at h⟩
theorem ik.last (hb:w.n≤b):ik w b [[(⟨0,0⟩,w.fR)]]:=⟨fun i m h=>by
 match i with
 |0=>simp at h; subst h; exact ⟨KC I,sm⟩
 |n+1=>simp at h⟩
theorem ik.add {bs:List FM} (h:ik w (b+1) bs) (hb:b<w.n) (hmb:bs[0]? =some mb) (hm:we w b m) (hd:jQ w b mb m left) (h0:left=[]):ik w b (m::bs):=⟨fun i x hx=>by
 match i with
 |0=>
  simp at hx; subst hx
  have A:=h.all 0 mb hmb
  exact ⟨Je hb A.2 A.1 hm.snd hm.zero (hd.fin h0),hm.keys⟩
 |n+1=>
  have:=h.all n x (by simpa using hx)
  rw [show b+1+n=b+(n+1) by omega] at this
  exact this⟩
theorem ik.ok {bs:List FM} (h:ik w 0 bs) (hl:bs.length=w.n+1):s_ w bs:=⟨hl,fun b m hm=>by have:=(h.all b m hm).1; rwa [Nat.zero_add] at this,fun b m hm=>(h.all b m hm).2⟩
/-- on the way through one entry's options -/
structure nM (w:bZ) (b:Nat) (mb left m:List (aI×Int)) (p:aI×Int) (os:List (Int×ag)):Prop where
 on:xd w b m
 tF:kg w b mb m left
 done:jt w b m p os
structure nH (w:bZ) (b:Nat) (mb left m:List (aI×Int)) (p:aI×Int) (os:List (Int×ag)):Prop where
 on:we w b m
 tF:jQ w b mb m left
 done:jo w b m p os
theorem nM.start (h:xd w b m) (h2:kg w b mb m left):nM w b mb left m p []:=⟨h,h2,fun o ho=>by cases ho⟩
theorem nH.start (h:we w b m) (h2:jQ w b mb m left):nH w b mb left m p []:=⟨h,h2,fun o ho=>by cases ho⟩
theorem GM {q:aI×Int} (h:(m.lookup q.1).isSome=false∨q.2<(m.lookup q.1).getD 0):pD m q=ed m q.1 q.2:=by
 unfold pD
 cases e:m.lookup q.1 with
 |none=>rfl
 |some v=>rw [e] at h; simp at h; simp only; rw [if_pos h]
theorem DN {q:aI×Int} (h:(m.lookup q.1).isSome=true) (h2: ¬ q.2<(m.lookup q.1).getD 0):pD m q=m:=by
 unfold pD
 cases e:m.lookup q.1 with
 |none=>rw [e] at h; cases h
 |some v=>rw [e] at h2; simp only [Option.getD_some] at h2; simp only; rw [if_neg h2]
theorem Hg {q:aI×Int} (h:(m.lookup q.1).isSome=false∨(m.lookup q.1).getD 0<q.2):pz m q=ed m q.1 q.2:=by
 unfold pz
 cases e:m.lookup q.1 with
 |none=>rfl
 |some v=>rw [e] at h; simp at h; simp only; rw [if_pos h]
theorem Eb {q:aI×Int} (h:(m.lookup q.1).isSome=true) (h2: ¬ (m.lookup q.1).getD 0<q.2):pz m q=m:=by
 unfold pz
 cases e:m.lookup q.1 with
 |none=>rw [e] at h; cases h
 |some v=>rw [e] at h2; simp only [Option.getD_some] at h2; simp only; rw [if_neg h2]
theorem zV {t:aI} {v y:Int} (hy:w.qm[b]? =some y) (h:max (v+y) o.2.Lo≤min o.2.Hi w.fR):kZ w b (t,v) o=some (dF t (fD o.1),max (v+y) o.2.Lo):=by
 have e:=ob hy
 subst e
 exact H6 h
theorem KV {t:aI} {v y:Int} (hy:w.qm[b]? =some y) (h: ¬ max (v+y) o.2.Lo≤min o.2.Hi w.fR):kZ w b (t,v) o=none:=by
 have e:=ob hy
 subst e
 exact LQ h
theorem zR {t:aI} {v y:Int} (hy:w.qm[b]? =some y) (h:o.2.Lo≤min v o.2.Hi):oi w b (t,v) o=some (dF t (fD o.1),min v o.2.Hi-y):=by
 have e:=ob hy
 subst e
 exact JX h
theorem nM.set {q:aI×Int} (h:nM w b mb left m p os) (hp:p∈fwd w b) (ho:o∈iN w b) (he:kZ w b p o=some q) (hs:(m.lookup q.1).isSome=false∨q.2<(m.lookup q.1).getD 0):nM w b mb left (ed m q.1 q.2) p (os++[o]):=by
 rw [← GM hs]
 exact ⟨h.on.add hp ho he,h.tF.lower v7,h.done.Km he⟩
theorem nM.oW {q:aI×Int} (h:nM w b mb left m p os) (he:kZ w b p o=some q) (hs:(m.lookup q.1).isSome=true) (h2: ¬ q.2<(m.lookup q.1).getD 0):nM w b mb left m p (os++[o]):=by
 have:=h.done.Km he
 rw [DN hs h2] at this
 exact ⟨h.on,h.tF,this⟩
theorem nM.skip (h:nM w b mb left m p os) (he:kZ w b p o=none):nM w b mb left m p (os++[o]):=⟨h.on,h.tF,h.done.none_ he⟩
theorem nH.set {q:aI×Int} (hb:b<w.n) (h:nH w b mb left m p os) (hp:p∈back w (b+1)) (ho:o∈iN w b) (he:oi w b p o=some q) (hs:(m.lookup q.1).isSome=false∨(m.lookup q.1).getD 0<q.2):nH w b mb left (ed m q.1 q.2) p (os++[o]):=by
 rw [← Hg hs]
 exact ⟨h.on.add hb hp ho he,h.tF.upper q_,h.done.Km he⟩
theorem nH.oW {q:aI×Int} (h:nH w b mb left m p os) (he:oi w b p o=some q) (hs:(m.lookup q.1).isSome=true) (h2: ¬ (m.lookup q.1).getD 0<q.2):nH w b mb left m p (os++[o]):=by
 have:=h.done.Km he
 rw [Eb hs h2] at this
 exact ⟨h.on,h.tF,this⟩
theorem nH.skip (h:nH w b mb left m p os) (he:oi w b p o=none):nH w b mb left m p (os++[o]):=⟨h.on,h.tF,h.done.none_ he⟩
theorem nM.next {t:aI} {v:Int} (hn:(left.map (·.1)).Nodup) (hm:(t,v)∈left) (h:nM w b mb left m (t,v) os) (ho: ∀ o∈iN w b,o∈os):kg w b mb m (e9 left t):=h.tF.next hn hm h.done ho
theorem nH.next {t:aI} {v:Int} (hn:(left.map (·.1)).Nodup) (hm:(t,v)∈left) (h:nH w b mb left m (t,v) os) (ho: ∀ o∈iN w b,o∈os):jQ w b mb m (e9 left t):=h.tF.next hn hm h.done ho
theorem qn.mem {fs:List FM} (h:qn w fs) (hm:fs[b]? =some mb) (hp:p∈mb):p∈fwd w b:=(h.all b mb hm).1.1 _ _ ((fO (h.all b mb hm).2).1 hp)
theorem ik.T1 {bs:List FM} {k:Nat} (h:ik w k bs) (hk:k=b+1) (hm:bs[0]? =some mb) (hp:p∈mb):p∈back w (b+1):=by
 subst hk
 exact (h.all 0 mb hm).1.1 _ _ ((fO (h.all 0 mb hm).2).1 hp)
theorem ik.end_ {bs:List FM} {k j:Nat} (h:ik w k bs) (hj:bs.length=0) (hk:j=b) (hb:w.n≤b):ik w j ([(⟨0,0⟩,w.fR)]::bs):=by
 subst hk
 rw [hZ hj]
 exact ik.last hb
theorem ik.more {bs:List FM} {k j:Nat} (h:ik w k bs) (hk:k=b+1) (hj:j=b) (hb:b<w.n) (hmb:bs[0]? =some mb) (hm:we w b m) (hd:jQ w b mb m left) (h0:left=[]):ik w j (m::bs):=by
 subst hk hj
 exact h.add hb hmb hm hd h0
end
section
open Go.RowKit
theorem jq {a:OA} {c e sz n:Nat} {es:List (List Value)} (h:es.length=n):KB (own a c e sz es) (rd a n sz es):=by subst h; exact L9
theorem qI {L:List ax}:KB (bQ L) (dR L):=⟨fun w h=>h.1,fun b h=>h⟩
theorem EW {b:Nat} {fb:List Nat} {g:Nat} (h:fb.length=b):bj qf (List.replicate b ([]:TM)) fb++[j1 iV g (cS jW [])]=bj qf (List.replicate (b+1) ([]:TM)) (fb++[g]):=by
 rw [List.replicate_succ']
 exact za (by rw [List.length_replicate]; exact h.symm) U
theorem S0 {α:Type} {ms:List α} {fb:List Nat} {n:Nat} (h:fb.length=n) (h2:ms.length=n):List.map oC (dB fb n)=List.zipWith gD ms fb:=by
 rw [zk h]; exact (z7 I).symm
theorem kv {l:bk} {r:cw} {i:Nat} {x:aG} (hx:r.aa[i]? =some x) (h: ¬ hE l r.aa i x): ¬ dU l r:=fun q=>h (q.sig i x hx)
end
section
open Go.RowKit
theorem M1 (r:cw) (sgA:OA) (sgC:Nat) (hsl:r.aa.length≤1000000):
 pG Tryz.prog 59 [(vA (cz.cells (jk r sgA sgC)))] [(rd sgA r.aa.length 2 (r.aa.map aG.cells))] (fun (x:(OA)×Nat)=>(vA (cz.cells (cz.mk r.Start r.fR (bH.mk x.1 r.aa.length x.2))))) (fun (x:(OA)×Nat)=>True) (fun (x:(OA)×Nat)=>[(own x.1 x.2 78 2 (r.aa.map aG.cells))]):=by
 refine e_ kr Tryz.func59 U U fun AA Q hQ hN=>?_
 try dsimp only
 refine WS fun _ A=>eI U fun G=>AL U Ry fun H=>RK A<|WS fun _ B=>ql U yB U fun F=>rP 2 [] (mc 2 U mn) ?_
 refine fy (es:=(List.map aG.cells [])) (C':=[own (some ⟨F,0,none⟩) 0 78 2 (List.map aG.cells []),_,_,_]) 0 U sm U (by simp [maxLen]) U ?_
 refine dJ (es2:=(List.map aG.cells r.aa)) (m':=r.aa.length) 0 U U U US U U sm (aA 3 U) (tP _) os (by first|(simp only [maxLen]; omega)|(simp [maxLen]; omega)) sm sm U fun D E=>?_
 try dsimp only
 refine bD 1 U<|Vo (cz.cells (jk r D E)) U U2 U U<|RK B<|WS fun _ C=>rP 1 [] (mc 2 U mn) ?_
 refine qO U P9 U<|RK C<|aq<|LX hQ (D,E) [0] [0] (mc 1 U mn) U U U U ?_
 trivial
end
section
open Go.RowKit
theorem Du (r:eZ) (kA:OA) (kC:Nat) (az:List RA) (cA:OA) (cC:Nat) (bA:OA) (bC:Nat) (slA:OA) (slC:Nat) (drA:OA) (drC:Nat) (ha:List cW) (heA:OA) (heC:Nat) (hin:lG r az ha) (hng: ¬ l8 r):
 pG Tryz.prog 37 [(vA (fB.cells (yx r kA kC cA cC bA bC slA slC drA drC heA heC)))] [(rd kA r.ar.aV.length 9 (r.ar.aV.map ao.cells)),(rd cA r.ar.aj.length 2 (List.zipWith aw.cells r.ar.aj az)),(dR (bj aw.f_ r.ar.aj az)),(rd bA r.ar.ab.length 4 (r.ar.ab.map bJ.cells)),(rd slA r.aY.length 1 (r.aY.map iC)),(rd drA r.ck.length 1 (r.ck.map iC)),(rd heA r.aB.length 1 (List.zipWith cL r.aB ha)),(dR (bj eY r.aB ha))] (fun (x:(OA)×Nat×(OA)×Nat×(List RA)×(OA)×Nat×(OA)×Nat×(OA)×Nat×(OA)×Nat×(List cW))=>(vA (fB.cells (fB.mk (cv.mk (bO.mk (bH.mk x.1 r.ar.aV.length x.2.1)) r.ar.iR (bH.mk x.2.2.1 r.ar.aj.length x.2.2.2.1) (bH.mk x.2.2.2.2.2.1 r.ar.ab.length x.2.2.2.2.2.2.1) r.ar.bS r.ar.fZ r.ar.dL) (bH.mk x.2.2.2.2.2.2.2.1 r.aY.length x.2.2.2.2.2.2.2.2.1) (bH.mk x.2.2.2.2.2.2.2.2.2.1 r.ck.length x.2.2.2.2.2.2.2.2.2.2.1) r.mj (bH.mk x.2.2.2.2.2.2.2.2.2.2.2.1 r.aB.length x.2.2.2.2.2.2.2.2.2.2.2.2.1))))) (fun (x:(OA)×Nat×(OA)×Nat×(List RA)×(OA)×Nat×(OA)×Nat×(OA)×Nat×(OA)×Nat×(List cW))=>(x.2.2.2.2.1.length=r.ar.aj.length∧tJ r.ar.aj x.2.2.2.2.1)∧zL r.aB x.2.2.2.2.2.2.2.2.2.2.2.2.2) (fun (x:(OA)×Nat×(OA)×Nat×(List RA)×(OA)×Nat×(OA)×Nat×(OA)×Nat×(OA)×Nat×(List cW))=>[(own x.1 x.2.1 118 9 (r.ar.aV.map ao.cells)),(own x.2.2.1 x.2.2.2.1 73 2 (List.zipWith aw.cells r.ar.aj x.2.2.2.2.1)),(bQ (bj aw.owns r.ar.aj x.2.2.2.2.1)),(own x.2.2.2.2.2.1 x.2.2.2.2.2.2.1 122 4 (r.ar.ab.map bJ.cells)),(own x.2.2.2.2.2.2.2.1 x.2.2.2.2.2.2.2.2.1 3 1 (r.aY.map iC)),(own x.2.2.2.2.2.2.2.2.2.1 x.2.2.2.2.2.2.2.2.2.2.1 3 1 (r.ck.map iC)),(own x.2.2.2.2.2.2.2.2.2.2.2.1 x.2.2.2.2.2.2.2.2.2.2.2.2.1 51 1 (List.zipWith cL r.aB x.2.2.2.2.2.2.2.2.2.2.2.2.2)),(bQ (bj sG r.aB x.2.2.2.2.2.2.2.2.2.2.2.2.2))]):=by
 have p:=hin.line
 have IL:=hin.ij
 have G:=hin.has
 have H1:=hin.ic
 have Go:=hin.draw
 have IB:=j4 (r:=r)
 have Cp:=EV hng
 refine e_ kr Tryz.func37 U U fun w0 Q hQ hN=>?_
 try dsimp only
 refine WS fun _ EQ=>eI U fun b2=>AL U VP fun b3=>RK EQ<|WS fun _ Eq=>rP 1 [] mn ?_
 refine rS (LP (cv.cells (jN r.ar kA kC cA cC bA bC)) 1 U cj U U U)<|cX (LR r.ar kA kC az cA cC bA bC (by exact p) (by exact Cp.1)) (bu [2,3,4,5]) U fun y5 GE=>?_
 obtain ⟨T,V,AA,L,s,K,N⟩:=y5
 try dsimp only
 obtain ⟨FS,FV⟩:=GE
 refine bD 1 U<|Wn (fB.cells (fB.mk (cv.mk (bO.mk (bH.mk T r.ar.aV.length V)) r.ar.iR (bH.mk AA r.ar.aj.length L) (bH.mk K r.ar.ab.length N) r.ar.bS r.ar.fZ r.ar.dL) (bH.mk slA r.aY.length slC) (bH.mk drA r.ck.length drC) r.mj (bH.mk heA r.aB.length heC))) U O5 U U<|RK Eq<|WS fun _ v=>ql U dv U fun C1=>rP 2 [] (mc 6 U mn) ?_
 refine fy (es:=(List.map iC [])) (C':=[own (some ⟨C1,0,none⟩) 0 3 1 (List.map iC []),_,_,_,_,_,_,_,_,_,_,_,_,_,_]) 0 U sm U (by simp [maxLen]) U ?_
 refine dJ (es2:=(List.map iC r.aY)) (m':=r.aY.length) 0 U U U sx U U sm (aA 11 U) (lg _) (by simp; omega) (by simp only [maxLen]; simp; omega) sm sm U fun X Y=>?_
 try dsimp only
 refine bD 1 U<|Wk (fB.cells (fB.mk (cv.mk (bO.mk (bH.mk T r.ar.aV.length V)) r.ar.iR (bH.mk AA r.ar.aj.length L) (bH.mk K r.ar.ab.length N) r.ar.bS r.ar.fZ r.ar.dL) (bH.mk X r.aY.length Y) (bH.mk drA r.ck.length drC) r.mj (bH.mk heA r.aB.length heC))) U Gi U U<|RK v<|WS fun _ w=>ql U dv U fun C2=>rP 2 [] (mc 7 U mn) ?_
 refine fy (es:=(List.map iC [])) (C':=[own (some ⟨C2,0,none⟩) 0 3 1 (List.map iC []),_,_,_,_,_,_,_,_,_,_,_,_,_,_,_]) 0 U sm U (by simp [maxLen]) U ?_
 refine dJ (es2:=(List.map iC r.ck)) (m':=r.ck.length) 0 U U U sx U U sm (aA 13 U) (lg _) (by simp; omega) (by simp only [maxLen]; simp; omega) sm sm U fun g j=>?_
 try dsimp only
 refine bD 1 U<|Wi (fB.cells (fB.mk (cv.mk (bO.mk (bH.mk T r.ar.aV.length V)) r.ar.iR (bH.mk AA r.ar.aj.length L) (bH.mk K r.ar.ab.length N) r.ar.bS r.ar.fZ r.ar.dL) (bH.mk X r.aY.length Y) (bH.mk g r.ck.length j) r.mj (bH.mk heA r.aB.length heC))) U Gi U U<|RK w<|WS fun _ AC=>ql U oh U fun C3=>rP 2 [] (mc 8 U mn) ?_
 refine fy (es:=(List.map sC [])) (C':=[own (some ⟨C3,0,none⟩) 0 51 1 (List.map sC []),_,_,_,_,_,_,_,_,_,_,_,_,_,_,_,_]) 0 U sm U (by simp [maxLen]) U ?_
 refine dJ (es2:=(List.zipWith cL r.aB ha)) (m':=r.aB.length) 0 U U U Uw U U sm (aA 15 U) (Hd _ _) (by simp; omega) (by simp only [maxLen]; simp; omega) sm (hH G) U fun J M=>?_
 try dsimp only
 refine bD 1 U<|Wr (fB.cells (fB.mk (cv.mk (bO.mk (bH.mk T r.ar.aV.length V)) r.ar.iR (bH.mk AA r.ar.aj.length L) (bH.mk K r.ar.ab.length N) r.ar.bS r.ar.fZ r.ar.dL) (bH.mk X r.aY.length Y) (bH.mk g r.ck.length j) r.mj (bH.mk J r.aB.length M))) U UA U U<|RK AC<|ak fun _ AD=>WS fun _ AF=>rP 1 [] mn ?_
 refine RK AF<|aH<|oc ?_
 have F:(0≤r.aB.length)∧(([]:List cW).length=0)∧(∀ (k:Nat) y (a:cW),r.aB[k]? =some y→([]:List cW)[k]? =some a→a.2.length=y.length):=by exact ⟨Nat.zero_le _,rfl,fun k y a _ q=>by simp at q⟩
 refine bY (ι:={z:Nat×(List cW) // (z.1≤r.aB.length)∧(z.2.length=z.1)∧(∀ (k:Nat) y (a:cW),r.aB[k]? =some y→z.2[k]? =some a→a.2.length=y.length)}) [1,2] [2,3,4,5,6,7,8,9,10,11,12,13,14,15,16,17] U U (fun z=>[(3,(vI (z.1.1:Int)))]) (fun z=>[(bQ (bj sG (r.aB.take z.1.1) z.1.2)),(own J M 51 1 (List.zipWith cL r.aB (mm z.1.2 ha z.1.1)))]) (fun _=>rfl) (fun _=>rfl) (fun z=>r.aB.length-z.1.1) ⟨(0,([]:List cW)),F⟩ (bB U) (aQ [2,3,4,5,6,7,8,9,10,11,12,13,14,15,16,17,0,1]) ?_
 clear F
 rintro ⟨⟨h,hz⟩,⟨m,B,S⟩⟩ J28 t
 try dsimp only at m B S
 try dsimp only
 refine ak fun _ AO=>WS fun _ Ay=>rP 5 [] (mc 7 U mn) ?_
 refine RK Ay<|bW U (aT fun Di=>?_) (aU fun Di=>?_)
 ·refine bP<|ai<|ai<|aJ<|KK AD<|ak fun _ A6=>?_
  have Fd:zL r.aB hz:=⟨I,S⟩
  rw [show (mm hz ha h)=hz from AV I,show r.aB.take h=r.aB from List.take_of_length_le I]
  refine au<|rP 1 [] (mc 7 U mn) ?_
  refine Sb U Th U<|RK A6<|aq ?_
  refine LX hQ (T,V,AA,L,s,K,N,X,Y,g,j,J,M,hz) [2,3,4,5,1,0,17,16] [0] (mc 6 U mn) U (by show List.all _ _=true; simp only [eG,List.all_nil,m_,yl,Bool.and_true]; rfl) U U ?_
  exact ⟨⟨FS,FV⟩,Fd⟩
 refine WK AO<|ak fun _ A0=>aH<|ak fun _ A1=>dA ct [3,9,11] [6,7,8] [0,1] [0,1,2,3,4,5,6,7,8,9,10,11,12,13,14,15,16] [0,1,2,3,4,5,6,7,8,9,10,11,12,13,14,15,16,17] U U U U U<|eS U (FA 10 U fj U)<|eS U (L1 (vS J r.aB.length M) 7 U cj U U)<|eS U (MV U)<|eS U (FA 10 U fj U)<|eS U (L1 (vS J r.aB.length M) 7 U cj U U)<|eS U (MV U) ?_
 obtain ⟨ht,AB⟩:=aL r.aB h I
 obtain ⟨C,O⟩:=aL ha h I
 have e:(List.zipWith cL r.aB (mm hz ha h))[h]? =some (cL ht C):=dy AB (EP B O)
 have Cx:=hin.gf _ _ _ AB O
 have H:=Cx.og
 have C0:=Cp.2.2.2.2 ht (aR AB)
 refine fS U (IA h U (aC (n:=r.aB.length) 17 U (hH (by rw [ja B I]; exact G))) oh dc I I) ?_
 refine fS U (g6 h 0 (vS C.1.1 ht.length C.1.2) U cj (aC (n:=r.aB.length) 17 U (hH (by rw [ja B I]; exact G))) e U dc U) ?_
 refine fS U (IA h U (aC (n:=r.aB.length) 17 U (hH (by rw [ja B I]; exact G))) oh dc I I) ?_
 refine eh U<|jB U fun T34 A7=>ql U qJ U fun DS=>aF (A7 _ _ (aQ [1,2,3,4,5,6,7,8,9,10,11,12,13,14,15,16,17]) (aQ [1,2,3,4,5,6,7,8,9,10,11,12,13,14,15,16,17,18]) ?_)
 refine jB U fun T36 A8=>fy (es:=(List.map aP.cells [])) (C':=[own (some ⟨DS,0,none⟩) 0 58 7 (List.map aP.cells []),_,_,_,_,_,_,_,_,_,_,_,_,_,_,_,_,_,_]) 0 U sm U (by simp [maxLen]) U ?_
 refine dJ (es2:=(List.zipWith av.cells ht C.2)) (m':=ht.length) 0 U U U UB U U sm (show iK _ (rd C.1.1 ht.length 7 (List.zipWith av.cells ht C.2)).holds from (cO 16 U (bK AB O cy))) (MI _ _) (by simp; omega) (by simp only [maxLen]; simp; omega) sm (nZ H) U fun D E=>?_
 try dsimp only
 refine aF (A8 _ _ (aQ [1,2,3,4,5,6,7,8,9,10,11,12,13,14,15,16,17]) (aQ [1,2,3,4,5,6,7,8,9,10,11,12,13,14,15,16,17,18]) ?_)
 refine cd U fun T39 A9=>fW (k:=h) (o:=0) (vs:=[(vS D ht.length E)]) (es':=(List.zipWith cL r.aB (mm (hz++[((D,E),C.2)]) ha (h+1)))) (C':=[_,_,_,_,_,_,_,_,_,_,_,_,_,_,_,_,_,_,(own J M 51 1 (List.zipWith cL r.aB (mm (hz++[((D,E),C.2)]) ha (h+1))))]) 18 U U U VH U U U U e U dc (by exact AT (b:=((D,E),C.2)) AB B O) U<|aF (A9 _ _ (aQ [1,2,3,4,5,6,7,8,9,10,11,12,13,14,15,16,17]) ?_)
 refine fp U<|KK A1<|WS fun _ A2=>rP 1 [] mn ?_
 refine RK A2<|aH<|oc ?_
 have F:(0≤ht.length)∧(([]:List RA).length=0):=by exact ⟨Nat.zero_le _,rfl⟩
 refine bY (ι:={z:Nat×(List RA) // (z.1≤ht.length)∧(z.2.length=z.1)}) [1,2,3] [2,3,4,5,6,7,8,9,10,11,12,13,14,15,16,17,18,19] U U (fun z=>[(4,(vI (z.1.1:Int)))]) (fun z=>[(bQ (bj DU (ht.take z.1.1) z.1.2)),(own D E 58 7 (List.zipWith av.cells ht (mm z.1.2 C.2 z.1.1)))]) (fun _=>rfl) (fun _=>rfl) (fun z=>ht.length-z.1.1) ⟨(0,([]:List RA)),F⟩ (bB U) (aQ [2,3,4,5,6,7,8,9,10,11,12,13,14,15,16,17,18,19,0,1]) ?_
 clear F
 rintro ⟨⟨i,dz⟩,⟨Z,A⟩⟩ J41 u
 try dsimp only at Z A
 try dsimp only
 refine ak fun _ A3=>WS fun _ A4=>rP 4 [] (mc 7 U mn) ?_
 have W:(List.zipWith cL r.aB (mm (hz++[((D,E),C.2)]) ha (h+1)))[h]? =some (cL ht ((D,E),C.2)):=dy AB (KF B)
 refine rS (IA h U (aC (n:=r.aB.length) 17 U (hH (by rw [ja (by simp; omega) I]; exact G))) oh dc I I) ?_
 refine rS (g6 h 0 (vS D ht.length E) U cj (aC (n:=r.aB.length) 17 U (hH (by rw [ja (by simp; omega) I]; exact G))) W U dc U) ?_
 refine rP 2 [] mn ?_
 refine RK A4<|bW U (aT fun Do=>?_) (aU fun Do=>?_)
 ·refine bP<|ai<|ai<|aJ<|aN<|KK A0<|au<|rP 3 [] mn ?_
  refine aF ?_
  have Hh:dz.length=ht.length:=by omega
  rw [show (mm dz C.2 i)=dz from AV I,show ht.take i=ht from List.take_of_length_le I]
  refine Qx (Z':=bj sG (r.aB.take (h+1)) (hz++[((D,E),dz)])) 16 18 19 U U (wW (f:=sG) (b:=((D,E),dz)) AB B) ?_
  rw [JT (y:=dz)]
  have Ci:(vI (((h+1):Nat):Int))=(vI ((h:Int)+1)):=by exact cI I
  refine bg (t ⟨((h+1),(hz++[((D,E),dz)])),⟨I,by simp; omega,Nt AB S B dso⟩⟩ _ _ _ U os (dh.cons U<|dh.cons U<|bf U Ci<|dh.nil _) (aQ [1,2,3,4,5,6,7,8,9,10,11,12,13,14,15,16,0,17]))
 refine WK A3<|ak fun _ A5=>aH<|dA ct [15,18] [12,13,14,15,16] [0] [0,1,2,3,4,5,6,7,8,9,10,11,12,13,14,15,16,17,18] [0,1,2,3,4,5,6,7,8,9,10,11,12,13,14,15,16,17,18,19] U U U U U<|eS U (FA 10 U fj U)<|eS U (L1 (vS J r.aB.length M) 7 U cj U U)<|eS U (MV U) ?_
 refine eS U (IA h U (aC (n:=r.aB.length) 17 U (hH (by rw [ja (by simp; omega) I]; exact G))) oh dc I I) ?_
 refine eS U (g6 h 0 (vS D ht.length E) U cj (aC (n:=r.aB.length) 17 U (hH (by rw [ja (by simp; omega) I]; exact G))) W U dc U) ?_
 refine eS U (MV U)<|eS U (FA 10 U fj U)<|eS U (L1 (vS J r.aB.length M) 7 U cj U U)<|eS U (MV U) ?_
 refine eS U (IA h U (aC (n:=r.aB.length) 17 U (hH (by rw [ja (by simp; omega) I]; exact G))) oh dc I I) ?_
 refine eS U (g6 h 0 (vS D ht.length E) U cj (aC (n:=r.aB.length) 17 U (hH (by rw [ja (by simp; omega) I]; exact G))) W U dc U) ?_
 refine eS U (MV U) ?_
 obtain ⟨d,hd⟩:=aL ht i I
 obtain ⟨da,l⟩:=aL C.2 i I
 have Ck:(List.zipWith av.cells ht (mm dz C.2 i))[i]? =some (av.cells d da):=dy hd (EP A l)
 have Fn:=Cx.sig d (aR hd)
 have Hi:=C0.2 d (aR hd)
 refine fS U (IA i U (aC (n:=ht.length) 19 U (nZ (by rw [ja A I]; exact H))) qJ dc I I) ?_
 refine fS U (o9 ((i*7)+4) U (aC (n:=ht.length) 19 U (nZ (by rw [ja A I]; exact H))) (Nat.mul_pos I dc) fj U) ?_
 refine fS U (lx i 4 (cz.cells (cz.mk d.a_.Start d.a_.fR (bH.mk da.1 d.a_.aa.length da.2))) U cj (aC (n:=ht.length) 19 U (nZ (by rw [ja A I]; exact H))) Ck U dc U U) ?_
 refine fS U (IA i U (aC (n:=ht.length) 19 U (nZ (by rw [ja A I]; exact H))) qJ dc I I) ?_
 refine fS U (o9 ((i*7)+4) U (aC (n:=ht.length) 19 U (nZ (by rw [ja A I]; exact H))) (Nat.mul_pos I dc) fj U) ?_
 refine eh U<|jB U fun T46 Bp=>cX (M1 d.a_ da.1 da.2 (by exact Fn)) (aK (show iK _ (rd da.1 d.a_.aa.length 2 (d.a_.aa.map aG.cells)).holds from (cO 15 U (bK AB O (dI _ (bK hd l (by simp [av.f_]))))))<|aO) U fun GT IC=>?_
 obtain ⟨P,R⟩:=GT
 try dsimp only
 refine aF (Bp _ _ (aQ [1,2,3,4,5,6,7,8,9,10,11,12,13,14,15,16,17,18,19]) (aQ [1,2,3,4,5,6,7,8,9,10,11,12,13,14,15,16,17,18,19,20]) ?_)
 refine cd U fun T51 B3=>fW (k:=i) (o:=4) (vs:=(cz.cells (jk d.a_ P R))) (es':=(List.zipWith av.cells ht (mm (dz++[(P,R)]) C.2 (i+1)))) (C':=[_,_,_,_,_,_,_,_,_,_,_,_,_,_,_,_,_,_,_,_,(own D E 58 7 (List.zipWith av.cells ht (mm (dz++[(P,R)]) C.2 (i+1))))]) 20 U U U P9 U U U U Ck U dc (by exact AT (c:=av.cells) (b:=(P,R)) hd A l) U<|aF (B3 _ _ (aQ [1,2,3,4,5,6,7,8,9,10,11,12,13,14,15,16,17,18,19]) ?_)
 refine fp U<|aN<|KK A5<|au<|rP 3 [] mn ?_
 refine aF<|P5 (Y':=bj DU (ht.take (i+1)) (dz++[(P,R)])) 19 0 U U (wW (f:=DU) (b:=(P,R)) hd A) ?_
 have B9:(vI (((i+1):Nat):Int))=(vI ((i:Int)+1)):=by exact cI I
 refine bg (u ⟨((i+1),(dz++[(P,R)])),⟨I,by simp; omega⟩⟩ _ _ _ U os (cG 3<|bf U B9<|dh.nil _) (aQ [1,2,3,4,5,6,7,8,9,10,11,12,13,14,15,16,17,18,0,19]))
end
section
open Go.RowKit
theorem Nc (j:cN) (kA:OA) (kC:Nat) (az:List RA) (cA:OA) (cC:Nat) (bA:OA) (bC:Nat) (slA:OA) (slC:Nat) (drA:OA) (drC:Nat) (ha:List cW) (heA:OA) (heC:Nat) (faA:OA) (faC:Nat) (prA:OA) (prC:Nat) (hin:gG j az ha) (hng: ¬ oR j):
 pG Tryz.prog 18 [(vA (fz.cells (nY j kA kC cA cC bA bC slA slC drA drC heA heC faA faC prA prC)))] [(rd kA j.Race.ar.aV.length 9 (j.Race.ar.aV.map ao.cells)),(rd cA j.Race.ar.aj.length 2 (List.zipWith aw.cells j.Race.ar.aj az)),(dR (bj aw.f_ j.Race.ar.aj az)),(rd bA j.Race.ar.ab.length 4 (j.Race.ar.ab.map bJ.cells)),(rd slA j.Race.aY.length 1 (j.Race.aY.map iC)),(rd drA j.Race.ck.length 1 (j.Race.ck.map iC)),(rd heA j.Race.aB.length 1 (List.zipWith cL j.Race.aB ha)),(dR (bj eY j.Race.aB ha)),(rd faA j.ay.length 4 (j.ay.map aM.cells)),(rd prA j.aD.length 5 (j.aD.map aX.cells))] (fun (x:(OA)×Nat×(OA)×Nat×(List RA)×(OA)×Nat×(OA)×Nat×(OA)×Nat×(OA)×Nat×(List cW)×(OA)×Nat×(OA)×Nat)=>(vA (fz.cells (fz.mk (fB.mk (cv.mk (bO.mk (bH.mk x.1 j.Race.ar.aV.length x.2.1)) j.Race.ar.iR (bH.mk x.2.2.1 j.Race.ar.aj.length x.2.2.2.1) (bH.mk x.2.2.2.2.2.1 j.Race.ar.ab.length x.2.2.2.2.2.2.1) j.Race.ar.bS j.Race.ar.fZ j.Race.ar.dL) (bH.mk x.2.2.2.2.2.2.2.1 j.Race.aY.length x.2.2.2.2.2.2.2.2.1) (bH.mk x.2.2.2.2.2.2.2.2.2.1 j.Race.ck.length x.2.2.2.2.2.2.2.2.2.2.1) j.Race.mj (bH.mk x.2.2.2.2.2.2.2.2.2.2.2.1 j.Race.aB.length x.2.2.2.2.2.2.2.2.2.2.2.2.1)) (bH.mk x.2.2.2.2.2.2.2.2.2.2.2.2.2.2.1 j.ay.length x.2.2.2.2.2.2.2.2.2.2.2.2.2.2.2.1) (bH.mk x.2.2.2.2.2.2.2.2.2.2.2.2.2.2.2.2.1 j.aD.length x.2.2.2.2.2.2.2.2.2.2.2.2.2.2.2.2.2) j.fX j.yA)))) (fun (x:(OA)×Nat×(OA)×Nat×(List RA)×(OA)×Nat×(OA)×Nat×(OA)×Nat×(OA)×Nat×(List cW)×(OA)×Nat×(OA)×Nat)=>(x.2.2.2.2.1.length=j.Race.ar.aj.length∧tJ j.Race.ar.aj x.2.2.2.2.1)∧zL j.Race.aB x.2.2.2.2.2.2.2.2.2.2.2.2.2.1) (fun (x:(OA)×Nat×(OA)×Nat×(List RA)×(OA)×Nat×(OA)×Nat×(OA)×Nat×(OA)×Nat×(List cW)×(OA)×Nat×(OA)×Nat)=>[(own x.1 x.2.1 118 9 (j.Race.ar.aV.map ao.cells)),(own x.2.2.1 x.2.2.2.1 73 2 (List.zipWith aw.cells j.Race.ar.aj x.2.2.2.2.1)),(bQ (bj aw.owns j.Race.ar.aj x.2.2.2.2.1)),(own x.2.2.2.2.2.1 x.2.2.2.2.2.2.1 122 4 (j.Race.ar.ab.map bJ.cells)),(own x.2.2.2.2.2.2.2.1 x.2.2.2.2.2.2.2.2.1 3 1 (j.Race.aY.map iC)),(own x.2.2.2.2.2.2.2.2.2.1 x.2.2.2.2.2.2.2.2.2.2.1 3 1 (j.Race.ck.map iC)),(own x.2.2.2.2.2.2.2.2.2.2.2.1 x.2.2.2.2.2.2.2.2.2.2.2.2.1 51 1 (List.zipWith cL j.Race.aB x.2.2.2.2.2.2.2.2.2.2.2.2.2.1)),(bQ (bj sG j.Race.aB x.2.2.2.2.2.2.2.2.2.2.2.2.2.1)),(own x.2.2.2.2.2.2.2.2.2.2.2.2.2.2.1 x.2.2.2.2.2.2.2.2.2.2.2.2.2.2.2.1 80 4 (j.ay.map aM.cells)),(own x.2.2.2.2.2.2.2.2.2.2.2.2.2.2.2.2.1 x.2.2.2.2.2.2.2.2.2.2.2.2.2.2.2.2.2 47 5 (j.aD.map aX.cells))]):=by
 have V:=hin.race
 have f:=hin.race.line
 have l:=hin.race.ij
 have m:=hin.race.has
 have k:=hin.race.ic
 have h:=hin.nf
 have i:=hin.np
 have d:=E7 hng
 refine e_ kr Tryz.func18 U U fun q Q hQ hN=>?_
 try dsimp only
 refine WS fun _ Z=>eI U fun o=>AL U QH fun p=>RK Z<|WS fun _ a=>rP 1 [] mn ?_
 refine rS (LP (fB.cells (yx j.Race kA kC cA cC bA bC slA slC drA drC heA heC)) 1 U cj U U U)<|cX (Du j.Race kA kC az cA cC bA bC slA slC drA drC ha heA heC (by exact V) (by exact d.1)) (bu [2,3,4,5,6,7,8,9]) U fun n g=>?_
 obtain ⟨J,L,K,E,P,A,F,B,G,C,H,D,AB,W⟩:=n
 try dsimp only
 obtain ⟨⟨b,c⟩,e⟩:=g
 refine bD 1 U<|Wj (fz.cells (fz.mk (fB.mk (cv.mk (bO.mk (bH.mk J j.Race.ar.aV.length L)) j.Race.ar.iR (bH.mk K j.Race.ar.aj.length E) (bH.mk A j.Race.ar.ab.length F) j.Race.ar.bS j.Race.ar.fZ j.Race.ar.dL) (bH.mk B j.Race.aY.length G) (bH.mk C j.Race.ck.length H) j.Race.mj (bH.mk D j.Race.aB.length AB)) (bH.mk faA j.ay.length faC) (bH.mk prA j.aD.length prC) j.fX j.yA)) U Th U U<|RK a<|WS fun _ S=>ql U wi U fun X=>rP 2 [] (mc 10 U mn) ?_
 refine fy (es:=(List.map aM.cells [])) (C':=[own (some ⟨X,0,none⟩) 0 80 4 (List.map aM.cells []),_,_,_,_,_,_,_,_,_,_,_,_,_,_,_,_,_,_,_,_]) 0 U sm U (by simp [maxLen]) U ?_
 refine dJ (es2:=(List.map aM.cells j.ay)) (m':=j.ay.length) 0 U U U V3 U U sm (aA 19 U) (vv _) (by simp; omega) (by simp only [maxLen]; simp; omega) sm sm U fun M N=>?_
 try dsimp only
 refine bD 1 U<|Sa (fz.cells (fz.mk (fB.mk (cv.mk (bO.mk (bH.mk J j.Race.ar.aV.length L)) j.Race.ar.iR (bH.mk K j.Race.ar.aj.length E) (bH.mk A j.Race.ar.ab.length F) j.Race.ar.bS j.Race.ar.fZ j.Race.ar.dL) (bH.mk B j.Race.aY.length G) (bH.mk C j.Race.ck.length H) j.Race.mj (bH.mk D j.Race.aB.length AB)) (bH.mk M j.ay.length N) (bH.mk prA j.aD.length prC) j.fX j.yA)) U Vq U U<|RK S<|WS fun _ T=>ql U Bq U fun Y=>rP 2 [] (mc 11 U mn) ?_
 refine fy (es:=(List.map aX.cells [])) (C':=[own (some ⟨Y,0,none⟩) 0 47 5 (List.map aX.cells []),_,_,_,_,_,_,_,_,_,_,_,_,_,_,_,_,_,_,_,_,_]) 0 U sm U (by simp [maxLen]) U ?_
 refine dJ (es2:=(List.map aX.cells j.aD)) (m':=j.aD.length) 0 U U U U0 U U sm (aA 21 U) (tp _) (by simp; omega) (by simp only [maxLen]; simp; omega) sm sm U fun O R=>?_
 try dsimp only
 refine bD 1 U<|QX (fz.cells (fz.mk (fB.mk (cv.mk (bO.mk (bH.mk J j.Race.ar.aV.length L)) j.Race.ar.iR (bH.mk K j.Race.ar.aj.length E) (bH.mk A j.Race.ar.ab.length F) j.Race.ar.bS j.Race.ar.fZ j.Race.ar.dL) (bH.mk B j.Race.aY.length G) (bH.mk C j.Race.ck.length H) j.Race.mj (bH.mk D j.Race.aB.length AB)) (bH.mk M j.ay.length N) (bH.mk O j.aD.length R) j.fX j.yA)) U UJ U U<|RK T<|WS fun _ AA=>rP 1 [] (mc 11 U mn) ?_
 refine Uf U Qp U<|RK AA<|aq ?_
 refine LX hQ (J,L,K,E,P,A,F,B,G,C,H,D,AB,W,M,N,O,R) [2,3,4,5,6,7,8,9,1,0] [0] (mc 10 U mn) U (by show List.all _ _=true; simp only [eG,List.all_nil,m_,yl,Bool.and_true]; rfl) U U ?_
 exact ⟨⟨b,c⟩,e⟩
end
section
theorem TN.sub {E:fg} {ops:Array Oper} {Q:dg} {D:g9} {C' C1 C:List ax} {tb rem:List Nat}: ∀ {n:Nat} {L L':dw},dh L L'→TN E ops D C' C1 (fun L C=>KJ E (Q .normal) D L C) tb n rem L' C→TN E ops D C' C1 (fun L C=>KJ E (Q .normal) D L C) tb n rem L C:=by
 intro n
 cases n with
 |zero=>intro L L' hs h; exact jl hs (fun _ h=>h) h
 |succ n=>intro L L' hs h i hi o ho K hK; exact Oa hs (fun _ h=>h) (h i hi o ho K hK)
theorem MS {E:fg} {ops:Array Oper} {Q:dg} {D:g9} {C' C1 C:List ax} {bs:List Bool} {os:List Oper} {L:dw} {tb rem:List Nat} {n:Nat} {t:Nat} {b:Bool} (h:L.lookup t=some (.bool b))
 (h1:b=true→qw E ops D C' C1 (fun L'=>TN E ops D C' C1 (fun L C=>KJ E (Q .normal) D L C) tb n rem L' C) bs os ((t,.bool true)::L)) (h2:b=false→qw E ops D C' C1 (fun L'=>TN E ops D C' C1 (fun L C=>KJ E (Q .normal) D L C) tb n rem L' C) bs os ((t,.bool false)::L)):
 qw E ops D C' C1 (fun L'=>TN E ops D C' C1 (fun L C=>KJ E (Q .normal) D L C) tb n rem L' C) bs os L:=by
 have A: ∀ v:Bool,b=v→dh L ((t,.bool v)::L):=fun v hv=>dh.cons (hv▸h) (fun _ _ h=>h)
 cases b
 ·exact qw.mono (fun _ _=>TN.sub) (A _ U) (h2 U)
 ·exact qw.mono (fun _ _=>TN.sub) (A _ U) (h1 U)
theorem Tg {E:fg} {ops:Array Oper} {Q:dg} {D:List Deferred} {L:List (Nat×Value)} {C1 C2 C:List ax} {t n:Nat} {b:Bool} {bs:List Bool} {os:List Oper} {tb rem:List Nat} (h:L.lookup t=some (.bool b)) (h2:b=false→qw E ops D C2 C1 (fun L2=>TN E ops D C2 C1 (fun L C=>KJ E (Q .normal) D L C) tb n rem L2 C) bs os ((t,.bool false)::L)) (h1:b=true→qw E ops D C2 C1 (fun L2=>TN E ops D C2 C1 (fun L C=>KJ E (Q .normal) D L C) tb n rem L2 C) bs os ((t,.bool true)::L)):qw E ops D C2 C1 (fun L2=>TN E ops D C2 C1 (fun L C=>KJ E (Q .normal) D L C) tb n rem L2 C) bs os L:=MS h h1 h2
end
section
open Go.RowKit
section
variable {P:Program} {t:TypeId} {x y:Operand}
end
section
variable {E:fg} {ops:Array Oper} {Q:dg} {rest:List Oper} {D:List Deferred} {L:List (Nat×Value)} {C:List ax}
variable {dst:Option Tmp} {d:Nat} {ty:TypeId} {ps:String} {af:Array Edge} {g:Option (Nat×Bool)}
theorem Nk {A:ax} (i:Nat) (h:C[i]? =some A.ro):iK C A.holds:=fun w hw=>by
 have B:=hw A.ro (aR h)
 exact B
end
end
section
open Go.RowKit
def qs (b:Bool):List Value:=[.bool b]
@[simp] theorem zC (b:Bool):(qs b).length=1:=rfl
theorem GA (l:List Bool): ∀ v∈(l.map qs).flatten,v.oneCell'=true:=kT (fun s=>rfl) l
end
section
def mg (r:eZ) (i:Nat):Prop:= ∀ (j:Nat) x,j<i→r.aB[j]? =some x→ ¬ pf x
def nB (x:List av) (i:Nat):Prop:= ∀ (j:Nat) d,j<i→x[j]? =some d→ ¬ 15<(d.a_.aa.length:Int)
section
variable {r:eZ} {i:Nat} {x:List av} {d:av}
theorem Bk:mg r 0:=fun j x hj=>absurd hj (Nat.not_lt_zero _)
theorem Cs (h:mg r i) (hx:r.aB[i]? =some x) (ho: ¬ pf x):mg r (i+1):=fun j y hj hy=>by
 rcases Nat.lt_or_ge j i with q|q
 ·exact h j y q hy
 ·obtain rfl:j=i:=by omega
  rw [hx] at hy; cases hy; exact ho
theorem Bz:nB x 0:=fun j x hj=>absurd hj (Nat.not_lt_zero _)
theorem BO (h:nB x i) (hx:x[i]? =some d) (ho: ¬ 15<(d.a_.aa.length:Int)):nB x (i+1):=fun j y hj hy=>by
 rcases Nat.lt_or_ge j i with q|q
 ·exact h j y q hy
 ·obtain rfl:j=i:=by omega
  rw [hx] at hy; cases hy; exact ho
theorem EA (hl: ¬ 8<(x.length:Int)) (h:nB x i) (hi:x.length≤i): ¬ pf x:=by
 rintro (q|⟨d,hd,q⟩)
 ·exact hl q
 ·obtain ⟨j,hj⟩:=List.getElem?_of_mem hd
  exact h j d (by have:=(aW.1 hj).1; omega) hj q
theorem Hu (h1: ¬ l9 r.ar) (h2: ¬ 8<(r.aY.length:Int)∧ ¬ 8<(r.ck.length:Int)∧ ¬ 5<(r.aB.length:Int)) (h:mg r i) (hi:r.aB.length≤i): ¬ l8 r:=by
 rintro ((q|q)|⟨x,hx,q⟩)
 ·exact h1 q
 ·omega
 ·obtain ⟨j,hj⟩:=List.getElem?_of_mem hx
  exact h j x (by have:=(aW.1 hj).1; omega) hj q
theorem pS (h:l9 r.ar∨8<(r.aY.length:Int)∨8<(r.ck.length:Int)∨5<(r.aB.length:Int)):l8 r:= .inl h
theorem B_ (hx:r.aB[i]? =some x) (h:8<(x.length:Int)):l8 r:= .inr ⟨x,aR hx,.inl h⟩
theorem D1 {j:Nat} (hx:r.aB[i]? =some x) (hd:x[j]? =some d) (h:15<(d.a_.aa.length:Int)):l8 r:= .inr ⟨x,aR hx,.inr ⟨d,aR hd,h⟩⟩
end
noncomputable def pd (l:bk) (d:av):ag:=if d.Out=true then gP else gh l d
theorem Lq {l:bk} {d:av} (h:iW l d):pd l d=gh l d:=by
 unfold pd
 split
 ·rename_i q
  rw [Fe q]
  rw [rl q] at h
  exact h.2.1.symm
 ·rfl
theorem AI {l:bk} {d:av} (h:d.Out=true):pd l d=gP:=if_pos h
theorem EZ {l:bk} {d:av} (h:d.Out=false∧d.dj=true):pd l d=d.Time:=by unfold pd; rw [if_neg (by rw [h.1]; decide),FB h]
theorem FI {l:bk} {d:av} (h:d.Out=false∧d.dj=false):pd l d=Aw l d.a_:=by unfold pd; rw [if_neg (by rw [h.1]; decide),EC h]
def Rd (r:eZ) (j:Nat):Prop:= ∀ x,r.aY[j]? =some x→(0≤x∧x≤9999)∧ ∀ y,0<j→r.aY[j-1]? =some y→y<x
def Iq (r:eZ) (j:Nat):Prop:= ∀ x,r.ck[j]? =some x→(0≤x∧x≤(r.aY.length:Int)-1)∧ ∀ (k:Nat) y,k<j→r.ck[k]? =some y→y≠x
def xR (r:eZ) (i:Nat):Prop:= ∀ j,j<i→Rd r j∧Iq r j
section
variable {r:eZ} {i k:Nat} {x:Int}
theorem JH:xR r 0:=fun j hj=>absurd hj (Nat.not_lt_zero _)
theorem Cn (h:xR r i) (h1:Rd r i) (h2:Iq r i):xR r (i+1):=fun j hj=>by
 rcases Nat.lt_or_ge j i with q|q
 ·exact h j q
 ·obtain rfl:j=i:=by omega
  exact ⟨h1,h2⟩
theorem x_ {l:List Int} {u v:Int} (h: ∀ (q:Nat) y,q<k→l[q]? =some y→y≠v) (hx:l[k]? =some u) (hne: ¬ u=v): ∀ (q:Nat) y,q<k+1→l[q]? =some y→y≠v:=fun q y hq hy=>by
 rcases Nat.lt_or_ge q k with c|c
 ·exact h q y c hy
 ·obtain rfl:q=k:=by omega
  rw [hx] at hy; cases hy; exact hne
theorem H4 (hl:r.ck.length=r.aY.length) (h:xR r r.aY.length):r.ck.Perm (GB r.aY.length):=by
 have nd:r.ck.Nodup:=by
  rw [List.nodup_iff_pairwise_ne,eK]
  intro a b ha hb A
  exact ((h b I).2 _ (eD hb)).2 a _ A (eD ha)
 have hm: ∀ x∈r.ck,x∈GB r.aY.length:=fun x hx=>by
  obtain ⟨j,hj⟩:=List.getElem?_of_mem hx
  have:=((h j (by have:=(aW.1 hj).1; omega)).2 x hj).1
  exact cE.2 ⟨x.toNat,List.mem_range.2 I,I⟩
 have ndu:(GB r.aY.length).Nodup:=by
  unfold GB
  rw [List.nodup_iff_pairwise_ne,List.pairwise_map]
  exact List.pairwise_lt_range.imp fun h=>by omega
 have e:nG r.ck=(GB r.aY.length).filter fun x=>decide (x∈r.ck):=by
  refine GH ud ((x9 _).filter _) (mu.nodup_iff.2 nd) (ndu.filter _) fun x=>?_
  rw [mu.mem_iff,List.mem_filter,decide_eq_true_eq]
  exact ⟨fun q=>⟨hm x q,q⟩,fun q=>q.2⟩
 have B:=congrArg List.length e
 rw [uu,hl] at B
 have C:(GB r.aY.length).filter (fun x=>decide (x∈r.ck))=GB r.aY.length:=List.filter_sublist.eq_of_length (by rw [← B]; simp)
 rw [C] at e
 rw [← e]; exact mu.symm
theorem GO {n:Nat} (h1:1≤(r.aY.length:Int)∧(r.aY.length:Int)≤5) (h2:r.ck.length=r.aY.length) (h3:0≤r.mj∧r.mj≤5) (h4:1≤(r.aB.length:Int)∧(r.aB.length:Int)≤3)
 (hn:n=r.aY.length) (h6:xR r n) (h7:ku r i) (hi:r.aB.length≤i):fK r:=by
 subst hn
 refine ⟨h1,h3,h4,fun k x hx=>(h6 k (aW.1 hx).1).1 x hx,H4 h2 h6,fun h hh=>?_⟩
 obtain ⟨j,hj⟩:=List.getElem?_of_mem hh
 exact h7 j h (by have:=(aW.1 hj).1; omega) hj
theorem fK.IC (h:fK r) (hx:r.ck[i]? =some x):0≤x∧x≤(r.aY.length:Int)-1:=by
 obtain ⟨k,hk,rfl⟩:=cE.1 (h.draw.mem_iff.1 (aR hx))
 have:=List.mem_range.1 hk
 omega
theorem fK.O1 (h:fK r):r.ck.Nodup:=by
 refine h.draw.nodup_iff.2 ?_
 rw [List.nodup_iff_pairwise_ne,List.pairwise_map]
 exact List.pairwise_lt_range.imp fun h=>by omega
theorem fK.P6 (h:fK r) {u v:Int} (hki:k<i) (hu:r.ck[k]? =some u) (hv:r.ck[i]? =some v): ¬ u=v:=by
 have A:=h.O1
 rw [List.nodup_iff_pairwise_ne,eK] at A
 obtain ⟨a,ea⟩:=aW.1 hu
 obtain ⟨b,eb⟩:=aW.1 hv
 subst ea eb
 exact A k i a b hki
end
section
variable {r:eZ} {i k n:Nat} {s:ag} {l:bk} {hs:List (List av)}
end
section
variable {r:eZ} {i x:Int} {own s:ag} {k:Nat} {ys zs:List Int}
end
section
variable {B:List Bool} {P Q:Int→Prop} {k x:Nat} {m:sV} {i y a b:Int} {ys:List Int}
end
end
section
open Go.RowKit
theorem o7:vg Tryz.prog 158 eo:=Mz Oy (fun x y w=>PX 9998 x y w) (fun x y h=>by cases x; cases y; simp [aI.cells] at h; simp [h]) (fun x=>by simp [aI.cells,Instr.sameBits]) (fun x w=>⟨_,rfl,fun p hp=>by
 simp only [bT,List.not_mem_nil,or_false] at hp
 rcases hp with rfl|rfl
 ·exact ⟨⟨_,gZ cj U w⟩,_,si⟩
 ·exact ⟨⟨_,gZ cj U w⟩,_,si⟩⟩)
theorem I5 (s:Int):
 dG Tryz.prog 74 [(vI s)] [] (vA (aI.cells (fD s))):=by
 refine bG kr Tryz.func74 U U fun H Q hQ hN=>?_
 try dsimp only
 refine WS fun _ B=>AL U uG fun G=>RK B<|ak fun _ C=>WS fun _ D=>rP 2 [] mn ?_
 refine RK D<|cx U (aU fun A=>?_) (aT fun A=>?_)
 ·refine WS fun _ E=>rS (SX (bp (xs:=[(1,.const (vI 1))]) (cs:=(aI.cells (aI.mk 0 1))) U U (bo BN U)) U U)<|fG U sD U<|RK E<|aq<|CV hQ [0] (mc 0 U mn) U ?_
  unfold fD; first|rw [if_pos A]|rw [if_neg A]
 refine WK C<|WS fun _ F=>rS (SX (bp (xs:=[(0,.const (vI 1))]) (cs:=(aI.cells (aI.mk 1 0))) U U (bo BN U)) U U)<|fG U sD U<|RK F<|aq<|CV hQ [0] (mc 0 U mn) U ?_
 unfold fD; first|rw [if_pos A]|rw [if_neg A]
theorem wM (x:aI) (y:aI) (hx:(0≤x.right∧x.right≤1000)∧0≤x.eT∧x.eT≤1000) (hy:(0≤y.right∧y.right≤1000)∧0≤y.eT∧y.eT≤1000):
 dG Tryz.prog 73 [(vA (aI.cells x)),(vA (aI.cells y))] [] (vA (aI.cells (dF x y))):=by
 refine bG kr Tryz.func73 U U fun F Q hQ hN=>?_
 try dsimp only
 refine WS fun _ A=>eI U fun C=>eI U fun D=>AL U uG fun E=>RK A<|WS fun _ B=>rP 10 [0,1,0,1] (mc 2 U (mc 1 U mn)) ?_
 refine rS (SX (bp (xs:=[(0,.tmp 9),(1,.tmp 14)]) (cs:=(aI.cells (aI.mk (x.right+y.right) (x.eT+y.eT)))) U U (bo BN U)) U U)<|fG U sD U<|RK B<|aq ?_
 exact CV hQ [0] (mc 0 U mn) U U
theorem Ow (ln:cv) (ri:cz) (e:List Int) (tms:List TM) (e_A:OA) (e_C:Nat) (tb:List Nat) (t_A:OA) (t_C:Nat) (fs:List FM) (bs:List FM) (fb:List Nat) (f_A:OA) (f_C:Nat) (bb:List Nat) (b_A:OA) (b_C gw:Nat) (x:aI) (hx:(0≤x.right∧x.right≤1000)∧0≤x.eT∧x.eT≤1000) (hn:ri.aa.n≤1000):
 dG Tryz.prog 72 [(vP gw),(vA (aI.cells x))] [(rd e_A e.length 1 (e.map iC)),(rd t_A tms.length 1 (List.zipWith gD tms tb)),(dR (bj qf tms tb)),(rd f_A fs.length 1 (List.zipWith gD fs fb)),(dR (bj m6 fs fb)),(rd b_A bs.length 1 (List.zipWith gD bs bb)),(dR (bj m6 bs bb)),(cu gw 150 (cb.cells (cb.mk ln ri (bH.mk e_A e.length e_C) (bH.mk t_A tms.length t_C) (bH.mk f_A fs.length f_C) (bH.mk b_A bs.length b_C))))] (vB (kM (cT ln ri e tms) x)):=by
 refine bG kr Tryz.func72 U U fun E Q hQ hN=>?_
 try dsimp only
 refine WS fun _ C=>eI U fun D=>bD 1 U<|RK C<|ak fun _ B=>dp ct 26 kr<|lU 3 [] (mc 0 U mn) U<|dS (SX (cR U U) U U)<|dP 5 [] (mr 8 U mn) ?_
 refine jy (t:=13) U (aT fun A=>?_) (aU fun A=>?_)
 ·refine dP 17 [] mn ?_
  refine cK<|RK B<|aq<|Q1 hQ U U U ?_
  exact cB (bE (fun h=>A h.1)).symm
 refine kX 1 U<|dS (SX (cR U U) U U)<|lU 8 [0,1] (mr 8 U (mc 0 U mn)) U<|dS (SX (cR U U) U U)<|dP 6 [] (mr 8 U mn) ?_
 refine cK<|RK B<|aq<|Q1 hQ U U U ?_
 exact cB (gR.2 ⟨fun h=>⟨A,h⟩,fun h=>h.2⟩)
end
section
open Go.RowKit
theorem uZ (ln:cv) (ri:cz) (e:List Int) (tms:List TM) (e_A:OA) (e_C:Nat) (tb:List Nat) (t_A:OA) (t_C:Nat) (fs:List FM) (bs:List FM) (fb:List Nat) (f_A:OA) (f_C:Nat) (bb:List Nat) (b_A:OA) (b_C gw:Nat) (hw:Hq (cT ln ri e tms)) (hsg:ri.aa.n≤1000) (hn:ln.ab.n=e.length) (hfw:vV (cT ln ri e tms) fs) (hfb:fb.length=fs.length):
 pG Tryz.prog 46 [(vP gw)] [(rd e_A e.length 1 (e.map iC)),(rd t_A tms.length 1 (List.zipWith gD tms tb)),(dR (bj qf tms tb)),(rd f_A fs.length 1 (List.zipWith gD fs fb)),(dR (bj m6 fs fb)),(rd b_A bs.length 1 (List.zipWith gD bs bb)),(dR (bj m6 bs bb)),(cu gw 150 (cb.cells (cb.mk ln ri (bH.mk e_A e.length e_C) (bH.mk t_A tms.length t_C) (bH.mk f_A fs.length f_C) (bH.mk b_A bs.length b_C))))] (fun (x:(OA)×Nat)=>(vS x.1 ((gW (cT ln ri e tms)).length) x.2)) (fun (x:(OA)×Nat)=>True) (fun (x:(OA)×Nat)=>[(own x.1 x.2 3 1 ((gW (cT ln ri e tms)).map iC))]):=by
 have y:e.length≤6:=hw.n
 have u:fs.length=e.length+1:=hfw.len
 refine e_ kr Tryz.func46 U U fun w0 Q hQ hN=>?_
 try dsimp only
 refine WS fun _ X=>bD 1 U<|RK X<|WS fun _ Y=>bD 1 U<|RK Y<|ak fun _ Z=>WS fun _ b=>bD 1 U<|rS (SX (cR U U) U U)<|rP 6 [] (mr 7 U mn) ?_
 refine RK b<|aH<|eM 3 1 ?_
 have A:(0≤e.length+1):=by exact Nat.zero_le _
 refine bY (ι:={z:Nat×(OA)×Nat // (z.1≤e.length+1)}) [0,12] [1,2,3,4,5,6,7,8] U U (fun z=>[(3,(vS z.1.2.1 ((j2 (cT ln ri e tms) z.1.1).length) z.1.2.2)),(13,(vI (z.1.1:Int)))]) (fun z=>[(own z.1.2.1 z.1.2.2 3 1 ((j2 (cT ln ri e tms) z.1.1).map iC))]) (fun _=>rfl) (fun _=>rfl) (fun z=>e.length+1-z.1.1) ⟨(0,none,0),A⟩ (bB U) (aQ [1,2,3,4,5,6,7,8,0]) ?_
 clear A
 rintro ⟨⟨n,a,c⟩,G⟩ J5 AB
 try dsimp only at G
 try dsimp only
 refine WS fun _ d=>rP 1 [] mn ?_
 refine RK d<|ak fun _ g=>bW U (aT fun s=>?_) (aU fun s=>?_)
 ·refine bP<|ai<|ai<|aJ<|KK Z<|WS fun _ P=>?_
  rw [show j2 (cT ln ri e tms) n=gW (cT ln ri e tms) by (obtain rfl:n=e.length+1:=by omega); rfl]
  refine rP 2 [] mn ?_
  refine RK P<|aq<|LX hQ (a,c) [8] [] mn U U U U ?_
  trivial
 refine WK g<|ak fun _ R=>aH<|WS fun _ J=>bD 2 U<|RK J<|WS fun _ K=>bD 1 U<|rS (SX (cR U U) U U)<|rP 3 [] (mr 7 U mn) ?_
 obtain ⟨m,B⟩:=aL fs n I
 obtain ⟨ma,hm0a⟩:=aL fb n I
 have hm0m:(List.zipWith gD fs fb)[n]? =some (gD m ma):=dy B hm0a
 refine rS (IA n U (aA 3 U) ow dc I I)<|rS (g6 n 0 (Value.map (some ma)) U cj (aA 3 U) hm0m U dc U)<|pU (kV:=eo) (m:=cS iV m) 4 U U pw U ⟨⟨(j1 eo ma (cS iV m)),(bK B hm0a (by simp [m6])),U⟩,fun h=>h⟩ (show iK _ (j1 eo ma (cS iV m)).holds from cO 4 U (bK B hm0a (by simp [m6]))) U fun l=>?_
 try dsimp only
 refine RK K<|aH ?_
 have A:(∀ p∈m,p∈m)∧(∀ p∈m,p∈m∨kM (cT ln ri e tms) p.1=false):=by exact ⟨fun p hp=>hp,fun p hp=> .inl hp⟩
 refine bY (ι:={z:FM // (∀ p∈z,p∈m)∧(∀ p∈m,p∈z∨kM (cT ln ri e tms) p.1=false)}) [0,3,4,12,13,23] [1,2,3,4,5,6,7,8,9] U U (fun z=>[]) (fun z=>[(CX eo l ma (cS iV m) (cS iV z.1) none)]) (fun _=>rfl) (fun _=>rfl) (fun z=>z.1.length) ⟨m,A⟩ (dh.nil _) (aQ [1,2,3,4,5,6,7,8,9,0]) ?_
 clear A
 rintro ⟨left,⟨C,D⟩⟩ J13 H
 try dsimp only
 refine WS fun _ F=>ox o7.inj (f:=iV) 9 U U U U (fun W=>?_) (fun t v hm i=>?_)
 ·refine bD 1 U<|RK F<|ak fun _ o=>bR U<|bP<|ai<|ai<|aJ<|aN<|KK R<|au<|rP 2 [] mn ?_
  refine aF ?_
  rw [← Hr (w:=(cT ln ri e tms)) (k:=n) ((AW (hfw.min _ _ B) (hfw.keys _ _ B)).symm.trans (Ii D W))]
  have S:(vI (((n+1):Nat):Int))=(vI ((n:Int)+1)):=by exact cI I
  refine bg (AB ⟨((n+1),a,c),(by first|omega|(simp only []; omega))⟩ _ _ _ U os (cG 3<|bf U S<|dh.nil _) (aQ [0,1,2,3,4,5,6,7,8]))
 try dsimp only
 refine bD 1 U<|RK F<|ak fun _ L=>aS U<|WK L<|aH<|WS fun _ M=>rS (SX (oz 9 U U U) U U)<|bD 1 U<|AL U uG fun q=>fG U sD U<|RK M<|WS fun _ N=>rP 2 [] (mc 0 U mn) ?_
 have j:=JM hw _ _ (hfw.mem B (C _ hm))
 dsimp only at j
 refine rS (CL (Ow ln ri e tms e_A e_C tb t_A t_C fs bs fb f_A f_C bb b_A b_C gw t I hsg) (bu [1,2,3,4,5,6,7,8]) U)<|RK N<|bW U (fun E=>?_) (fun E=>?_)
 ·refine cf<|aN<|qX 10 U py U ?_
  refine bg (H ⟨(e9 left t),⟨mI C,Ln i hm D (by first|exact E|simpa using E)⟩⟩ _ _ _ U (mG hm) (bB U) (aQ [1,2,3,4,5,6,7,8,9,10]))
 refine WS fun _ O=>rP 2 [] mn ?_
 refine ej (xs:=[.tmp 32]) (cs:=[(vI (n:Int))]) U dv kj U U U U (by simp [Value.cells]) U U fun r=>?_
 have hy:jC (cT ln ri e tms) (fwd (cT ln ri e tms) n)=true:=(AW (hfw.min _ _ B) (hfw.keys _ _ B)).symm.trans (M9 (C _ hm) E)
 refine dJ (es2:=(List.map iC (j2 (cT ln ri e tms) (n+1)))) (m':=(j2 (cT ln ri e tms) (n+1)).length) 10 U U U sx U U sm (bw (es:=List.map iC [(n:Int)]) 0 U U (by simp [bL]) U) (lg _) (by have:=tw (w:=(cT ln ri e tms)) (k:=n); first|omega|(simp; omega)) (by have:=tw (w:=(cT ln ri e tms)) (k:=n); simp only [maxLen]; omega) (by rw [Dr hy]; simp) sm U fun AA V=>?_
 try dsimp only
 refine bD 1 U<|RK O<|bP<|fh U<|ai<|aJ<|aN<|KK R<|au<|rP 2 [] mn ?_
 refine aF ?_
 have T:(vI (((n+1):Nat):Int))=(vI ((n:Int)+1)):=by exact cI I
 refine bg (AB ⟨((n+1),AA,V),(by first|omega|(simp only []; omega))⟩ _ _ _ U os (cG 3<|bf U T<|dh.nil _) (aQ [2,3,4,5,6,7,8,9,10]))
end
end Go.Proofs.YtijpnoadncadoaaGreatDoor
