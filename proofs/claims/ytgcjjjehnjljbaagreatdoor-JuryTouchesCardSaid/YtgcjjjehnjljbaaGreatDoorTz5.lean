/-
 The statement juryTouches_said, part 5 of 8: JMem, SeqO, RankP, TabP, NestS, Grp, JSeq, JTop, JMor, JRef, Twin, Fresh, MapD, Rep, B1, B10, Frozen, MarkD, Marks, Follow, OpenM, WLe, Z1, Rx4, Jla, DrawB, Bits, BoolC, RaceR, B4, B2, B3, B5, B6, Rc1, V2, V1, V4, V3.
 Conditions: none.
-/
import Derived.Test.YtgcjjjehnjljbaaGreatDoorTz1
import Derived.Test.YtgcjjjehnjljbaaGreatDoorTz2
import Derived.Test.YtgcjjjehnjljbaaGreatDoorTz3
import Derived.Test.YtgcjjjehnjljbaaGreatDoorTz4
import Derived.KernelRfl
namespace Go.Proofs.YtgcjjjehnjljbaaGreatDoor
set_option maxRecDepth 100000
set_option maxHeartbeats 4000000
set_option linter.unusedVariables false
section
open Go.RowKit
structure fY (j:dk) (az:List RA) (ha:List cU):Prop where
 race:lf j.Race az ha
 nf:j.ay.length≤1000000
 np:j.aM.length≤1000000
 kind: ∀ f∈j.ay,0≤f.Kind∧f.Kind≤255
structure tq (j:dk) (az:List RA) (ha:List cU):Prop where
 race:uj j.Race az ha
 nf:j.ay.length≤9223372036854775807
 np:j.aM.length≤9223372036854775807
 kind: ∀ f∈j.ay,0≤f.Kind∧f.Kind≤255
def nA (j:dk):Prop:=(kX j.Race∨10<(j.ay.length:Int))∨15<(j.aM.length:Int)
noncomputable instance (j:dk):Decidable (nA j):=Classical.propDecidable _
theorem v9 {j:dk} (h: ¬ nA j): ¬ kX j.Race∧(j.ay.length:Int)≤10∧(j.aM.length:Int)≤15:=by
 unfold nA at h
 have A: ¬ kX j.Race:=fun q=>h (.inl (.inl q))
 have B: ¬ 10<(j.ay.length:Int):=fun q=>h (.inl (.inr q))
 have C: ¬ 15<(j.aM.length:Int):=fun q=>h (.inr q)
 exact ⟨A,I,I⟩
theorem tq.small {j:dk} {az:List RA} {ha:List cU} (h:tq j az ha) (hg: ¬ nA j):fY j az ha:=by
 have A:=v9 hg
 exact ⟨h.race.small A.1,I,I,h.kind⟩
def oJ (fin:Int) (f:aX):Prop:=(1≤f.Kind∧f.Kind≤3)∧(0≤f.lX∧f.lX≤f.To∧f.To≤86400000)∧0≤f.gW∧f.gW≤(if f.Kind=1 then 0 else fin)
instance (fin:Int) (f:aX):Decidable (oJ fin f):=by unfold oJ; infer_instance
theorem Kd {P:Nat→Bool} {n i:Nat} (h: ¬ 0<((nW P n).length:Int)) (hi:i<n):P i=false:=by
 cases e:P i with
 |false=>rfl
 |true=>
  have:(i:Int)∈nW P n:=HK.2 ⟨i,hi,rfl,e⟩
  have:=List.length_pos_of_mem this
  omega
theorem Lg {P:Nat→Bool} {n:Nat} (h:0<((nW P n).length:Int)): ∃ i,i<n∧P i=true:=by
 obtain ⟨x,hx⟩:=List.exists_mem_of_length_pos (l:=nW P n) I
 obtain ⟨i,A,_,B⟩:=HK.1 hx
 exact ⟨i,A,B⟩
def mS {α:Type} (l:List α) (p:Int→α→Bool) (i:Nat):Bool:=(l[i]?).any (p (i:Int))
theorem wi {α:Type} {l:List α} {p:Int→α→Bool} {i:Nat} {x:α} (h:l[i]? =some x):mS l p i=p (i:Int) x:=by unfold mS; rw [h]; rfl
section
variable {fin:Int} {f:aX} {j:dk}
theorem s9 (hk:f.Kind=1):oJ fin f↔(0≤f.lX∧f.lX≤f.To∧f.To≤86400000)∧0≤f.gW∧f.gW≤0:=by
 unfold oJ; rw [if_pos hk]; omega
theorem tS (hk: ¬ f.Kind=1):oJ fin f↔(1≤f.Kind∧f.Kind≤3)∧(0≤f.lX∧f.lX≤f.To∧f.To≤86400000)∧0≤f.gW∧f.gW≤fin:=by
 unfold oJ; rw [if_neg hk]
theorem CY (h:0<((nW (mS j.ay fun _ f=>decide (¬ oJ j.Race.ar.b_ f)) j.ay.length).length:Int)): ¬ qq j:=fun q=>by
 obtain ⟨i,hi,hb⟩:=Lg h
 have hx:j.ay[i]? =some (j.ay[i]'hi):=eX hi
 rw [wi hx] at hb
 exact (of_decide_eq_true hb) (q.fault _ (aP hx))
theorem Ab (h: ¬ 0<((nW (mS j.ay fun _ f=>decide (¬ oJ j.Race.ar.b_ f)) j.ay.length).length:Int)): ∀ f∈j.ay,eZ j.Race.ar f:=fun f hf=>by
 obtain ⟨i,hi⟩:=List.mem_iff_getElem?.1 hf
 have hb:=Kd h (aU.1 hi).1
 rw [wi hi] at hb
 exact Decidable.of_not_not (of_decide_eq_false hb)
theorem sS {b:Bool} {p q:Prop} (h1:b=false) (h2: ¬ p) (h3: ¬ q): ¬ (b=true∨p∨q):=by
 rintro (h|h|h)
 ·rw [h1] at h; cases h
 ·exact h2 h
 ·exact h3 h
end
section
variable {l:bo} {r:cx} {b:Int} {f:aX} {d:aw} {a c:xh}
theorem zf (h:b<0):df l r b=⟨r.Start,r.Start,true,false⟩:=if_pos h
theorem xe (h: ¬ b<0) (e: ¬ eh l r b=0):df l r b=⟨86400000,86400000,false,true⟩:=by unfold df; rw [if_neg h,if_neg e]
theorem u6 (h: ¬ b<0) (e:eh l r b=0) (q:ud l r b=true):df l r b=⟨(dy l r b).Lo,(dy l r b).Hi,true,false⟩:=by unfold df; rw [if_neg h,if_pos e,q]; rfl
theorem sH (h: ¬ b<0) (e:eh l r b=0) (q:ud l r b=false):df l r b=⟨(dy l r b).Lo,86400000,false,false⟩:=by unfold df; rw [if_neg h,if_pos e,q]; rfl
theorem rG (h:eh l r b=0) (hb:0≤b):dN l r 0=0:=by
 by_cases e:dN l r (e_ l b)=0
 ·by_cases c:0≤b∧b≤(l.ab.length:Int)-1
  ·rw [mz c] at e; exact e
  ·rw [show e_ l b=2 from if_neg c] at e
   have:=(g5 e).2.2.1
   omega
 ·rw [(dE e).1] at h; exact absurd h e
theorem BH (h:dN l r 0=0):ud l r b=decide (b<nG (fp l r)):=by
 have hm:=EZ (vc h)
 unfold ud
 rw [Bool.eq_iff_iff,cY,decide_eq_true_iff]
 constructor
 ·intro q; exact of_decide_eq_true (q _ hm.1)
 ·intro q x hx
  have:=hm.2 x hx
  exact cJ I
theorem ET (hb:0≤b):(0≤(df l r b).Lo∧(df l r b).Lo≤86400000)∧0≤(df l r b).Hi∧(df l r b).Hi≤86400000:=by
 by_cases e:eh l r b=0
 ·have A:=ub e
  cases q:ud l r b with
  |true=>rw [u6 I e q]; simp only; omega
  |false=>rw [sH I e q]; simp only; omega
 ·rw [xe I e]; simp only; omega
theorem gJ (hk:f.Kind=1) (hr:oG d):gO l f d=mM f (df l d.aZ (-1)) (df l d.aZ l.b_):=by
 unfold gO Ew RI; rw [if_pos hr,if_pos hk,if_pos hk]
theorem gS (hk:f.Kind=2) (hr:oG d):gO l f d=mM f (df l d.aZ (f.gW-1)) (df l d.aZ f.gW):=by
 unfold gO Ew RI; rw [if_pos hr,if_neg I,if_pos hk,if_neg I]
theorem gK (hk:f.Kind=3) (hr:oG d):gO l f d=mM f (df l d.aZ f.gW) (df l d.aZ f.gW):=by
 unfold gO Ew RI; rw [if_pos hr,if_neg I,if_neg I,if_neg I]
theorem eJ (h:a.never=true∨f.To<a.Lo∨c.Hi<f.lX):mM f a c=0:=if_pos h
theorem ly (h: ¬ (a.never=true∨f.To<a.Lo∨c.Hi<f.lX)) (q:a.each=true) (s:qu f a c):mM f a c=2:=by unfold mM; rw [if_neg h,if_pos ⟨q,s⟩]
theorem gd (h: ¬ (a.never=true∨f.To<a.Lo∨c.Hi<f.lX)) (q: ¬ (a.each=true∧qu f a c)):mM f a c=1:=by unfold mM; rw [if_neg h,if_neg q]
theorem j0 (hk: ¬ f.Kind=3):qu f a c↔a.Hi≤f.To∧f.lX≤c.Lo:=by unfold qu; rw [if_neg hk]
theorem zX (hk:f.Kind=3):qu f a c↔ai.mk (max a.Lo f.lX) (min a.Hi f.To)=ai.mk a.Lo a.Hi:=by
 unfold qu; rw [if_pos hk]
 constructor
 ·intro q; congr 1<;>omega
 ·intro q; injection q with A B; omega
end
section
variable {j:dk} {p:bI} {d:aw} {f:aX}
theorem IS (hd:vt j p=some d) (h:p.At≤(df j.Race.ar d.aZ j.Race.ar.b_).Lo+60000*j.fQ):uv j p=0:=by unfold uv; rw [hd]; exact if_pos h
theorem G4 (hd:vt j p=some d) (h: ¬ p.At≤(df j.Race.ar d.aZ j.Race.ar.b_).Lo+60000*j.fQ) (h2:p.At≤(df j.Race.ar d.aZ j.Race.ar.b_).Hi+60000*j.fQ):uv j p=1:=by unfold uv; rw [hd]; simp only; rw [if_neg h,if_pos h2]
theorem H4 (hd:vt j p=some d) (h: ¬ p.At≤(df j.Race.ar d.aZ j.Race.ar.b_).Lo+60000*j.fQ) (h2: ¬ p.At≤(df j.Race.ar d.aZ j.Race.ar.b_).Hi+60000*j.fQ):uv j p=2:=by unfold uv; rw [hd]; simp only; rw [if_neg h,if_neg h2]
end
section
variable {j:dk} {i k:Nat} {p q:bI} {f:aX} {d:aw}
/-- the first faults are right -/
def oS (j:dk) (k:Nat):Prop:= ∀ (i:Nat) f,i<k→j.ay[i]? =some f→eZ j.Race.ar f
theorem BC:oS j 0:=fun i f h=>absurd h (Nat.not_lt_zero _)
theorem qw (h:oS j k) (hf:j.ay[k]? =some f) (ho:eZ j.Race.ar f):oS j (k+1):=fun i g hi hg=>by
 rcases Nat.lt_or_ge i k with c|c
 ·exact h i g c hg
 ·obtain rfl:i=k:=by omega
  rw [hf] at hg; cases hg; exact ho
theorem dQ (h:oS j k) (hk:j.ay.length≤k): ∀ f∈j.ay,eZ j.Race.ar f:=fun f hf=>by
 obtain ⟨i,hi⟩:=List.mem_iff_getElem?.1 hf
 exact h i f (by have:=(aU.1 hi).1; omega) hi
/-- the first protests are right -/
def n_ (j:dk) (k:Nat):Prop:= ∀ (i:Nat) p,i<k→j.aM[i]? =some p→u_ j i p
theorem xO:n_ j 0:=fun i f h=>absurd h (Nat.not_lt_zero _)
theorem si (h:n_ j k) (hp:j.aM[k]? =some p) (ho:u_ j k p):n_ j (k+1):=fun i g hi hg=>by
 rcases Nat.lt_or_ge i k with c|c
 ·exact h i g c hg
 ·obtain rfl:i=k:=by omega
  rw [hp] at hg; cases hg; exact ho
/-- the number of the last protest, so far -/
def po (j:dk) (k:Nat):Int:=match k with
 |0=> -1
 |k+1=>match j.aM[k]? with
  |some p=>p.Id
  |none=> -1
theorem nQ (hp:j.aM[k]? =some p):po j (k+1)=p.Id:=by unfold po; simp only [hp]
theorem Lb (h:n_ j k) (hk:k≤j.aM.length): -1≤po j k∧po j k≤9999:=by
 cases k with
 |zero=>exact ⟨by simp [po],by simp [po]⟩
 |succ k=>
  obtain ⟨p,hp⟩: ∃ p,j.aM[k]? =some p:=⟨j.aM[k]'I,eX _⟩
  have:=(h k p I hp).id
  rw [nQ hp]; omega
theorem o9 {ht:List aw} (hh:j.Race.aB[p.iY.toNat]? =some ht) (hd:ht[p.iR.toNat]? =some d):vt j p=some d:=by
 unfold vt; rw [hh]; exact hd
theorem JX (hp:j.aM[k]? =some p) (hi:po j k+1≤p.Id∧p.Id≤9999) (h0: -1≤po j k) (hs:0≤p.iR∧p.iR≤(j.Race.bg.length:Int)-1) (hh:0≤p.iY∧p.iY≤(j.Race.aB.length:Int)-1) (hf:0≤p.pd∧p.pd≤(j.ay.length:Int)-1) (hd:vt j p=some d) (hr:oG d) (ha:d.aZ.Start≤p.At∧p.At≤86400000):u_ j k p:=by
 refine ⟨I,fun q B A=>?_,hs,hh,hf,d,hd,hr,ha⟩
 cases k with
 |zero=>omega
 |succ k=>
  rw [Nat.add_sub_cancel] at A
  rw [nQ A] at hi
  omega
/-- one that is wrong -/
theorem ry (hp:j.aM[k]? =some p) (h: ¬ u_ j k p): ¬ qq j:=fun q=>h (q.ia k p hp)
theorem wj (h:u_ j k p) (hk:k≤j.aM.length):po j k+1≤p.Id:=by
 cases k with
 |zero=>have:=h.id; show-1+1≤p.Id; omega
 |succ k=>
  obtain ⟨q,hq⟩: ∃ q,j.aM[k]? =some q:=⟨j.aM[k]'I,eX _⟩
  have:=h.up q I (by rw [Nat.add_sub_cancel]; exact hq)
  rw [nQ hq]; omega
end
def l5 (l:List aX) (f:aX):Int:=match l.findIdx? (fun x=>decide (x=f)) with
 |some i=>(i:Int)
 |none=> -1
section
variable {l:List aX} {f g x:aX} {i:Nat}
theorem Kc (hx:l[i]? =some x) (h:x=f) (hb: ∀ (q:Nat) y,q<i→l[q]? =some y→y≠f):l5 l f=(i:Int):=by
 unfold l5
 have:l.findIdx? (fun x=>decide (x=f))=some i:=by
  rw [List.findIdx?_eq_some_iff_getElem]
  obtain ⟨hi,e⟩:=aU.1 hx
  refine ⟨hi,by rw [e]; simp [h],fun q hq=>?_⟩
  have:=hb q (l[q]'I) hq (eX _)
  simpa using this
 rw [this]
theorem KE (hb: ∀ (q:Nat) y,q<i→l[q]? =some y→y≠f) (hi:l.length≤i):l5 l f= -1:=by
 unfold l5
 have:l.findIdx? (fun x=>decide (x=f))=none:=by
  rw [List.findIdx?_eq_none_iff]
  intro y hy
  obtain ⟨q,hq⟩:=List.mem_iff_getElem?.1 hy
  have:=hb q y (by have:=(aU.1 hq).1; omega) hq
  simpa using this
 rw [this]
theorem B_ (hf:f∈l): ∃ i:Nat,l5 l f=(i:Int)∧l[i]? =some f:=by
 unfold l5
 cases h:l.findIdx? (fun x=>decide (x=f)) with
 |none=>
  rw [List.findIdx?_eq_none_iff] at h
  have:=h f hf
  simp at this
 |some i=>
  rw [List.findIdx?_eq_some_iff_getElem] at h
  obtain ⟨hi,e,_⟩:=h
  exact ⟨i,U,by rw [eX hi]; simpa using e⟩
theorem Je (hf:f∈l) (hg:g∈l) (h:l5 l f=l5 l g):f=g:=by
 obtain ⟨i,C,A⟩:=B_ hf
 obtain ⟨k,D,B⟩:=B_ hg
 have:i=k:=by omega
 subst this
 exact Option.some.inj (A.symm.trans B)
end
end
section
open Go.RowKit
abbrev TQ (C:List aA) (i j:Nat):List Nat:=i::j::(List.range C.length).filter fun k=>k != i&&k != j
def Tx {σ:Type} (w0:World) (P:Program) (l:Nat) (step:σ→List Value→aA→σ→Prop) (J:σ→aA→Prop) (Z:aA→Prop):Prop:=
 ∀ k x R k' A w,step k x R k'→J k A→w0.heap.size≤w.heap.size→(bS [A,R]).holds w→YieldAt (Fw none) 0 P l x.toArray w fun e w'=>
  (e= .returned (.bool true)∧ ∃ B,J k' B∧Mv (bS [A,R]) B w w')∨(e= .returned (.bool false)∧ ∃ B,Z B∧Mv (bS [A,R]) B w w')
structure N6 {σ:Type} (P:Program) (f:FuncId) (fi ca:List Value) (Cp:List aA) (s0:σ) (step:σ→List Value→aA→σ→Prop) (fin:σ→Prop):Prop where
 go:rQ P f=true
 run: ∀ (l:Nat) (J:σ→aA→Prop) (Z:aA→Prop) (A0:aA) (w:World),Tx w P l step J Z→J s0 A0→A0.holds w→(∀ A∈Cp,A.holds w)→(∀ A∈Cp,Ce A0 A.ro)→
  Calls P f (fi++Value.func (.yield l) #[] #[]::ca).toArray w (AR J Z fin A0 w)
theorem Ld {σ:Type} {P:Program} {f:FuncId} {fn:Func} {c:Code} {fi ca:List Value} {Cp:List aA} {s0:σ} {step:σ→List Value→aA→σ→Prop} {fin:σ→Prop} (hgo:rQ P f=true) (hf:P.funcs[f]? =some fn) (hb:fn.body=some c) (hn:Nat.ble (fi.length+ca.length+1) fn.ntmps=true)
 (h: ∀ (l:Nat) (J:σ→aA→Prop) (Z:aA→Prop) (A0:aA) (w0:World) (Q:dw),Tx w0 P l step J Z→J s0 A0→Fo A0 w0 A0→
  (∀ D L C,LJ ⟨P,none,fn.ntmps,⟨A0.wf,fun _=>True⟩,w0⟩ fn (AR J Z fin A0 w0) D L C→KJ ⟨P,none,fn.ntmps,⟨A0.wf,fun _=>True⟩,w0⟩ (Q .ret) D L C)→
  (∀ D L C,LJ ⟨P,none,fn.ntmps,⟨A0.wf,fun _=>True⟩,w0⟩ fn (AR J Z fin A0 w0) D L C→KJ ⟨P,none,fn.ntmps,⟨A0.wf,fun _=>True⟩,w0⟩ (Q .normal) D L C)→
  WJ ⟨P,none,fn.ntmps,⟨A0.wf,fun _=>True⟩,w0⟩ c Q [] (MR (fi++Value.func (.yield l) #[] #[]::ca)) (A0::Cp.map aA.ro)):N6 P f fi ca Cp s0 step fin:=by
 refine ⟨hgo,fun l J Z A0 w hY hJ hA F E=>?_⟩
 refine zV hf hb (by simpa [Nat.add_assoc] using hn) (h l J Z A0 w · hY hJ (fun b hb=> .inl hb)) ?_
 have G:=qJ F
 refine ⟨dU.refl _ _,fun A hA'=>?_,List.Pairwise.cons (fun B hB=>?_) G.sep,fun A hA' b hb=>?_,fun _ _ _ _=> .inr trivial⟩
 ·rcases cg.1 hA' with rfl|hA'
  ·exact hA
  ·exact G.holds A hA'
 ·obtain ⟨B',hB',rfl⟩:=cE.1 hB
  exact E B' hB'
 ·rcases cg.1 hA' with rfl|hA'
  ·exact .inr hb
  ·obtain ⟨B',hB',rfl⟩:=cE.1 hA'
   exact hb.elim
section
variable {E:fI} {ops:Array Oper} {Q:dw} {rest:List Oper} {D:List Deferred} {L:List (Nat×Value)} {C:List aA}
variable {d:Nat} {ty:TypeId} {ps:String} {af:Array Edge} {g:Option (Nat×Bool)}
/-- a call of yield -/
theorem JD {σ:Type} {fop:Operand} {xs:Array Operand} {ts:Array TypeId} {l:Nat} {k k':σ} {vs:List Value} {step:σ→List Value→aA→σ→Prop} {J:σ→aA→Prop} {Z:aA→Prop} {A0 A R:aA} {C1:List aA} (i j:Nat) (hS:E.S=⟨A0.wf,fun _=>True⟩) (hY:Tx E.w0 E.P l step J Z) (hJ:J k A) (hF:Fo A0 E.w0 A) (hg:ki ops L g=true) (hf:ev L fop=some (.func (.yield l) #[] #[]))
 (hx:evs L xs.toList=some vs) (hk:step k vs R k') (hR:R.wr=true) (hn:decide (TQ C i j).Nodup=true) (hC:vW C (TQ C i j)=some (A::R::C1)) (hd:Nat.blt d E.n=true)
 (k1: ∀ B,J k' B→Fo A0 E.w0 B→RJ E ops Q rest D ((d,.bool true)::L) (B::C1))
 (k2: ∀ B,Z B→Fo A0 E.w0 B→RJ E ops Q rest D ((d,.bool false)::L) (B::C1)):
 RJ E ops Q (⟨some d,.call {callee:= .value fop,args:=xs,argTypes:=ts},ty,ps,af,g⟩::rest) D L C:=by
 intro a w F N
 have AA:St E.S E.w0 ([A,R]++C1) w:=St.lh _ hn (rr hC) N
 have hs:=AA.tied
 have hd':d<E.n:=by rw [← Nat.blt_eq]; exact hd
 unfold r_
 rw [if_pos (eu F hg)]
 have O:xs.map a.eval=vs.toArray:=by
  have:=F.evs hx
  apply Array.ext'
  simp [this]
 obtain ⟨fn,tmps,assign,body,hy,hr⟩:=hY k vs R k' A w hk hJ hs.keeps.size (hs.holds _ ct)
 have H:(execOp a.eval ⟨some d,.call {callee:= .value fop,args:=xs,argTypes:=ts},ty,ps,af,g⟩).run E.P w= .ok (.round l fn tmps assign body) w:=by
  simp [execOp,resolve,F.ev hf,Deferred.ofValue,invoke,O,hy]
 refine ⟨fun _ _=>trivial,?_⟩
 rw [Oper.semAt_eq _ _ _ sm,H]
 refine ⟨fun h=>by simp at h,?_⟩
 have G: ∀ (B:aA) (w':World),Mv (bS [A,R]) B w w'→Fo A0 E.w0 B:=fun B w' m b hb=>by
  rcases m.fE b hb with ⟨X,hX,K⟩|K
  ·rcases cg.1 hX with rfl|hX
   ·exact hF b K
   ·rw [cv] at hX; subst hX
    rcases AA.own X sm b (X.whole hR b K) with M|M
    ·exact .inr M
    ·rw [hS] at M; exact .inl (A0.kB b M)
  ·exact .inr (Nat.le_trans hs.keeps.size K)
 have hr':RoundIn (Fw E.r) 0 E.P l fn tmps assign body w _:=hr
 refine hr'.mono fun e w' he=>?_
 rcases he with ⟨rfl,B,hB,m⟩|⟨rfl,B,hB,m⟩
 ·exact k1 B hB (G B w' m) _ _ (F.put hd' _) (hs.mv 0 U m)
 ·exact k2 B hB (G B w' m) _ _ (F.put hd' _) (hs.mv 0 U m)
end
theorem IE {σ:Type} {E:fI} {Q:dw} {D:ir} {L L0:dC} {C F:List aA} {g:Operand} {ps:Array Tmp} {assign body:Code} {f:FuncId} {fi ca:List Value} {Cp:List aA} {s0:σ} {step:σ→List Value→aA→σ→Prop} {fin_:σ→Prop} {ι κ:Type}
 (inv:σ→ι→Prop) (Ci:σ→ι→List aA) (invx:Code→κ→Prop) (Cx:Code→κ→List aA) (isJ isF:List Nat) (y0:ι)
 (hr:E.r=none) (hg:ev L g=some (.func (.func f) fi.toArray ca.toArray)) (hs:N6 E.P f fi ca Cp s0 step fin_)
 (hnd:decide (isJ++isF).Nodup=true) (hJ:lh C isJ=Ci s0 y0) (hF:lh C isF=F) (h0:inv s0 y0) (hCp: ∀ A∈Cp,∃ B∈F,I2 B A)
 (hps: ∀ k x R k',step k x R k'→x.length=ps.size) (hpn:ps.toList.all (fun t=>Nat.blt t E.n)=true) (hL:dh L L0)
 (round: ∀ (k:σ) (x:List Value) (R:aA) (k':σ) (y:ι) (l:Nat) (ra rb:Loop) (S:BS) (w0:World) (K:Act→World→Prop) (Qr:dw),E.w0.heap.size≤w0.heap.size→step k x R k'→inv k y→
  (∀ L' C',WJ ⟨E.P,some l,E.n,S,w0⟩ body Qr [] L' (jn l (.loop rb)::C')→KJ ⟨E.P,some l,E.n,S,w0⟩ K [] L' (jn l (.loop ra)::C'))→
  (∀ y' L' C',inv k' y'→(∀ w,St S w0 C' w→St S w0 (jn l (.loop rb)::Ci k' y') w)→KJ ⟨E.P,some l,E.n,S,w0⟩ (Qr .normal) [] L' C')→
  (∀ id z L' C',invx (.exit id) z→(∀ w,St S w0 C' w→St S w0 (jn l (.loop rb)::Cx (.exit id) z) w)→KJ ⟨E.P,some l,E.n,S,w0⟩ (Qr (.exit id)) [] L' C')→
  (∀ z L' C',invx .ret z→(∀ w,St S w0 C' w→St S w0 (jn l (.loop rb)::Cx .ret z) w)→KJ ⟨E.P,some l,E.n,S,w0⟩ (Qr .ret) [] L' C')→
  WJ ⟨E.P,some l,E.n,S,w0⟩ assign (Exit.then K (fun _ _ _=>False)) [] (yf ps.toList x L0) (jn l (.loop ra)::(Ci k y++[R])))
 (fin: ∀ r s y,fin_ s→inv s y→KJ E (Q .normal) (jU r::D) L0 (jn r (.deferred (some []))::(F++Ci s y)))
 (finx: ∀ r id z,invx (.exit id) z→KJ E (Q (.exit id)) (jU r::D) L0 (jn r (.deferred (some []))::(F++Cx (.exit id) z)))
 (finr: ∀ r z,invx .ret z→KJ E (Q .ret) (jU r::D) L0 (jn r (.deferred (some []))::(F++Cx .ret z))):WJ E (.rangeFunc g ps assign body) Q D L C:=by
 intro a w hf u
 refine wpIn_rangeFunc fun fn _=>?_
 show ∃ l jU w₁ d w₁' f args w₂,(Instr.enterLoop fn a.tmps ps assign body E.r).run E.P w= .ok (l,jU) w₁∧_
 rw [hr]
 obtain ⟨rec,G⟩: ∃ rec:LoopState→Option Code→Loop,rec=fun st pe=>{state:=st,pending:=pe,fn,tmps:=a.tmps,params:=ps,assign,body,defers:=w.heap.size}:=⟨_,rfl⟩
 obtain ⟨W1,T⟩: ∃ W1,(w.alloc (.deferred (some []))).alloc (.loop (rec .ready none))=W1:=⟨_,rfl⟩
 have A3:a.eval g= .func (.func f) fi.toArray ca.toArray:=hf.ev hg
 have q:(Instr.enterLoop fn a.tmps ps assign body none).run E.P w= .ok (w.heap.size+1,[jU w.heap.size]) W1:=by
  rw [← T,G]; exact run_enterLoop_outer _ _ _ _ _
 -- the state with the record and the block
 have AC:St E.S E.w0 ((jn (w.heap.size+1) (.loop (rec .ready none))::Ci s0 y0)++(jn w.heap.size (.deferred (some []))::F)) W1:=by
  have Y:St E.S E.w0 (Ci s0 y0++F) w:=St.lh (isJ++isF) hnd (by have Y:=hJ; have o:=hF; unfold Go.Proofs.YtgcjjjehnjljbaaGreatDoor.lh at Y o ⊢; rw [List.filterMap_append,Y,o]) u
  have hn:JO w W1 [jn (w.heap.size+1) (.loop (rec .ready none)),jn w.heap.size (.deferred (some []))]:=by
   refine ⟨fun A hA=>?_,fun A hA b hb=>?_,?_⟩
   ·rcases cg.1 hA with rfl|hA
    ·show W1.heap[w.heap.size+1]? =_
     rw [← T]; have:=World.alloc_heap_new (w.alloc (.deferred (some []))) (.loop (rec .ready none)); rwa [World.size_alloc] at this
    ·simp only [cv] at hA; subst hA
     show W1.heap[w.heap.size]? =_
     rw [← T]; exact (Below.heap_alloc _ _ _ sm).trans (World.alloc_heap_new w _)
   ·rcases cg.1 hA with rfl|hA
    ·have:b=w.heap.size+1:=hb
     omega
    ·simp only [cv] at hA; subst hA
     have:b=w.heap.size:=hb
     omega
   ·refine List.Pairwise.cons (fun B hB b Y o=>?_) (List.pairwise_singleton _ _)
    simp only [cv] at hB; subst hB
    have X:b=w.heap.size+1:=Y
    have O:b=w.heap.size:=o
    omega
  have hk:dU no w W1:=by rw [← T]; exact (dU.alloc no w _).trans (dU.alloc no _ _)
  have o:=Y.grow hk hn
  refine o.perm ?_
  simp only [List.cons_append,List.nil_append]
  exact List.Perm.cons _ (List.perm_middle.symm)
 have i:=AC.tied
 obtain ⟨H,A8⟩:=List.pairwise_cons.1 i.sep
 have A1:=i.holds _ (ct ..)
 let J:σ→aA→Prop:=fun k A=> ∃ y,inv k y∧A=bS (jn (w.heap.size+1) (.loop (rec .ready none))::Ci k y)
 let Z:aA→Prop:=fun A=> ∃ c z,(c= .ret∨ ∃ id,c= .exit id)∧invx c z∧A=bS (jn (w.heap.size+1) (.loop (rec .done (some c)))::Cx c z)
 refine ⟨w.heap.size+1,[jU w.heap.size],W1,{target:= .fn (.func f) ca.toArray,args:=fi.toArray++ #[.func (.yield (w.heap.size+1)) #[] #[]]},W1,f,
  (fi++Value.func (.yield (w.heap.size+1)) #[] #[]::ca).toArray,W1,q,?_,fun _ _=>trivial,?_,fun h=>by simp at h,?_⟩
 ·simp only [resolve,A3]
  simp [Deferred.ofValue,Act.eval]
 ·have:fi.toArray++ #[Value.func (.yield (w.heap.size+1)) #[] #[]]++ca.toArray=(fi++Value.func (.yield (w.heap.size+1)) #[] #[]::ca).toArray:=by simp
  simp [invoke,mZ hs.go]
 ·refine (pb E.r (hs.run (w.heap.size+1) J Z _ W1 ?_ ⟨y0,h0,U⟩ A1 ?_ ?_)).mono ?_
  ·-- a round
   rintro k x R k' A W hx ⟨y,hy,rfl⟩ A2 hA
   have hl:W.heap[w.heap.size+1]? =some (.loop (rec .ready none)):=(hA.1 _ (ct ..)).1 _ (ct ..)
   have AO:=run_yield (P:=E.P) (args:=x.toArray) hl (by rw [G]; simpa using hps k x R k' hx)
   rw [G] at AO
   refine ⟨fn,_,assign,body,AO,roundIn_of_wpIn trivial ?_⟩
   let A:aA:=bS [bS (jn (w.heap.size+1) (.loop (rec .ready none))::Ci k y),R]
   have A4:Fr E.n [] (yf ps.toList x L0) {tmps:=(ps.zip x.toArray).foldl (fun tmps (t,a)=>tmps.setIfInBounds t a) a.tmps,defers:=[]}:=by
    have Y:=De ps.toList x L0 a.tmps (fun t ht=>by have:=cY.1 hpn t ht; rwa [Nat.blt_eq] at this) ⟨rfl,hf.size,fun t v hv=>hf.at_ t v (hL t v hv)⟩
    rw [← Array.foldl_toList]
    simpa using Y
   have p: ∀ (c:Option Code) (b:Bool),({rec .busy none with state:=if b then .ready else .done,pending:=c}:Loop)=rec (if b then .ready else .done) c:=fun c b=>by rw [G]
   have AA: ∀ (c:Option Code) (N:World) (C':List aA) (S:BS),St S W (jn (w.heap.size+1) (.loop (rec .busy none))::C') N→
    ∃ M,(Instr.endRound (w.heap.size+1) c).run E.P N= .ok (.bool c.isNone) M∧St S W (jn (w.heap.size+1) (.loop (rec (if c.isNone then .ready else .done) c))::C') M:=fun c N C' S H=>by
    have AB:N.heap[w.heap.size+1]? =some (.loop (rec .busy none)):=H.holds _ (ct ..)
    refine ⟨_,run_endRound c AB,?_⟩
    have:=H.zl (b:=w.heap.size+1) (A':=jn (w.heap.size+1) (.loop (rec (if c.isNone then .ready else .done) c))) 0 rfl rfl rfl (hP _) (fun _ h=>h) (World.putObj_heap_same (dR AB))
    rw [p]
    exact this
   refine round k x R k' y (w.heap.size+1) (rec .ready none) (rec .busy none) ⟨A.wf,A.fE⟩ W _ (roundPost E.P (w.heap.size+1) (fun e w'=>(e= .returned (.bool true)∧ ∃ B,J k' B∧Mv A B W w')∨(e= .returned (.bool false)∧ ∃ B,Z B∧Mv A B W w'))) (Nat.le_trans (Nat.le_trans u.keeps.size (by rw [← T]; simp; omega)) A2) hx hy ?_ ?_ ?_ ?_ _ _ A4 (by have:=(St.zt hA).iU; simpa using this)
   ·intro L' C' hW a1 N j H
    have AB:N.heap[w.heap.size+1]? =some (.loop (rec .ready none)):=H.holds _ (ct ..)
    refine ⟨_,run_beginRound AB (by rw [G]),hW _ _ j ?_⟩
    have:=H.zl (b:=w.heap.size+1) (A':=jn (w.heap.size+1) (.loop (rec .busy none))) 0 rfl rfl rfl (hP _) (fun _ h=>h) (World.putObj_heap_same (dR AB))
    have e:({rec .ready none with state:= .busy}:Loop)=rec .busy none:=by rw [G]
    rw [e]; exact this
   ·intro y' L' C' hy' hC' a1 N j H
    obtain ⟨M,X,O⟩:=AA none N _ _ (hC' _ H)
    exact ⟨_,M,X,.inl ⟨U,_,⟨y',hy',U⟩,Mv.of O⟩⟩
   ·intro id z L' C' hz hC' a1 N j H
    obtain ⟨M,X,O⟩:=AA (some (.exit id)) N _ _ (hC' _ H)
    exact ⟨_,M,X,.inr ⟨U,_,⟨_,z,.inr ⟨id,U⟩,hz,U⟩,Mv.of O⟩⟩
   ·intro z L' C' hz hC' a1 N j H
    obtain ⟨M,X,O⟩:=AA (some .ret) N _ _ (hC' _ H)
    exact ⟨_,M,X,.inr ⟨U,_,⟨_,z,.inl U,hz,U⟩,Mv.of O⟩⟩
  ·intro A hA
   obtain ⟨B,hB,hc⟩:=hCp A hA
   exact hc.holds _ (i.holds B (dH _ (dH _ hB)))
  ·intro A hA b hb hb'
   obtain ⟨B,hB,hc⟩:=hCp A hA
   exact ⟨(H B (dH _ hB) b hb (hc.fE b hb')).1,fun h=>h⟩
  ·rintro e w' ⟨v,rfl,hh⟩
   have V:Fr E.n (jU w.heap.size::D) L0 {a with defers:=[jU w.heap.size]++a.defers}:=⟨by simp [hf.defers],hf.size,fun t v hv=>hf.at_ t v (hL t v hv)⟩
   have hleave: ∀ (st:LoopState) (c:Option Code) (C':List aA),st≠ .busy→Mv (bS (jn (w.heap.size+1) (.loop (rec .ready none))::Ci s0 y0)) (bS (jn (w.heap.size+1) (.loop (rec st c))::C')) W1 w'→
    ∃ M,(Instr.endLoop (w.heap.size+1)).run E.P w'= .ok c M∧St E.S E.w0 (jn w.heap.size (.deferred (some []))::(F++C')) M:=fun st c C' A6 m=>by
    have Y:=(i.mv 0 rfl m).iU
    have h1':St E.S E.w0 ((jn (w.heap.size+1) (.loop (rec st c))::C')++(jn w.heap.size (.deferred (some []))::F)) w':=Y
    have AB:w'.heap[w.heap.size+1]? =some (.loop (rec st c)):=h1'.holds (jn (w.heap.size+1) (.loop (rec st c))) sm
    refine ⟨_,by have:=run_endLoop (P:=E.P) AB (by rw [G]; exact A6); rw [this,G],?_⟩
    have o:=h1'.zl (b:=w.heap.size+1) (A':=jn (w.heap.size+1) (.loop {rec st c with state:= .exhausted})) 0 rfl rfl rfl (hP _) (fun _ h=>h) (World.putObj_heap_same (dR AB))
    have h3:St E.S E.w0 (C'++(jn w.heap.size (.deferred (some []))::F)) _:=o.take (List.sublist_cons_self _ _)
    rw [G] at h3
    refine h3.perm ?_
    exact (List.perm_append_comm).trans sm
   rcases hh with ⟨s,B,A5,⟨y,hy,rfl⟩,m⟩|⟨B,⟨c,z,hc,hz,rfl⟩,m⟩
   ·obtain ⟨M,X,O⟩:=hleave .ready none _ sm m
    exact ⟨none,M,X,fin w.heap.size s y A5 hy _ _ V O⟩
   ·obtain ⟨M,X,O⟩:=hleave .done (some c) _ sm m
    refine ⟨some c,M,X,?_⟩
    rcases hc with rfl|⟨id,rfl⟩
    ·exact wpIn_ret (finr w.heap.size z hz _ _ V O)
    ·exact wpIn_exit (finx w.heap.size id z hz _ _ V O)
end
section
abbrev Nv:=List (Int×Bool)
section
variable {m:Nv} {P Q:Int→Prop} {k:Int}
end
/-- two rows that go up and have the same numbers, each once -/
theorem Gs {a b:List Int} (ha:a.Pairwise (· ≤ ·)) (hb:b.Pairwise (· ≤ ·)) (na:a.Nodup) (nb:b.Nodup) (h: ∀ x,x∈a↔x∈b):a=b:=
 r8 ((List.perm_ext_iff_of_nodup na nb).2 h) ha hb
section
variable {m left:sD} {i n x:Int} {y:ai}
end
section
variable {m:sD} {i:Int} {own:ai} {ys:List Int} {nev ranks:Nv} {n a b:Int}
end
section
variable {nw left rk:Nv} {N R:Int→Prop} {u:Int} {v:Bool}
end
section
variable {m left:sD} {i x n:Int} {own y:ai} {ys:List Int}
end
section
variable {r:eM} {h i:Int} {ht:List aw} {d:aw}
end
end
section
def Nz (f:Int→ai) (g:List Int):Prop:= ∀ t,(∃ a∈g,(f a).Lo<t)→(∃ b∈g,t≤(f b).Lo)→ ∃ c∈g,(f c).Lo<t∧t≤(f c).Hi
def NJ (f:Int→ai) (g h:List Int):Prop:= ∀ a∈g,∀ b∈h,(f a).Hi<(f b).Lo
structure Rj (f:Int→ai) (keys:List Int) (G:List (List Int)):Prop where
 perm:G.flatten.Perm keys
 some_: ∀ g∈G,g≠[]
 apart:G.Pairwise (NJ f)
 tight: ∀ g∈G,Nz f g
section
variable {f:Int→ai} {keys:List Int} {G G':List (List Int)} {g h:List Int} {x:Int}
end
section
variable {f:Int→ai} {p:List Int} {G:List (List Int)} {g:List Int} {x last:Int}
end
end
section
open Go.RowKit
/-- a map, or nil -/
def oC (o:Option Nat):List Value:=[Value.map o]
theorem zH {α:Type}: ∀ {ms:List α} {asl:List Nat},ms.length=asl.length→List.zipWith gr ms asl=(asl.map some).map oC
 |[],[],_=>rfl
 |[],_::_,h=>by simp at h
 |_::_,[],h=>by simp at h
 |x::ms,y::asl,h=>by simp only [List.zipWith_cons_cons,List.map_cons,zH (ms:=ms) (asl:=asl) (by simpa using h)]; rfl
/-- what stands for all but one -/
def jg {M A:Type} (f:M→A→List aA) (ms:List M) (asl:List A) (k:Nat):List aA:=bk f (ms.take k) (asl.take k)++bk f (ms.drop (k+1)) (asl.drop (k+1))
theorem rz {M A:Type} {f:M→A→List aA}: ∀ {ms:List M} {asl:List A} {k:Nat} {m:M} {a:A},ms[k]? =some m→asl[k]? =some a→(bk f ms asl).Perm (f m a++jg f ms asl k)
 |[],_,k,m,a,h,_=>by simp at h
 |_::_,[],k,m,a,_,h=>by simp at h
 |x::ms,y::asl,0,m,a,h,h2=>by
  simp at h h2; subst h h2
  simp [jg,bk]
 |x::ms,y::asl,k+1,m,a,h,h2=>by
  have ih:=rz (f:=f) (ms:=ms) (asl:=asl) (k:=k) (by simpa using h) (by simpa using h2)
  show (f x y++bk f ms asl).Perm (f m a++jg f (x::ms) (y::asl) (k+1))
  have e:jg f (x::ms) (y::asl) (k+1)=f x y++jg f ms asl k:=by simp [jg,bk,List.append_assoc]
  rw [e]
  refine (ih.append_left (f x y)).trans ?_
  rw [← List.append_assoc,← List.append_assoc]
  exact List.perm_append_comm.append_right _
theorem FN {M A:Type} {f:M→A→List aA} {ms:List M} {asl:List A} {k:Nat} {m':M}:jg f (ms.set k m') asl k=jg f ms asl k:=by
 unfold jg
 rw [List.take_set_of_le (Nat.le_refl k),List.drop_set_of_lt (Nat.lt_succ_self k)]
theorem uV {S:BS} {w0 w:World} {C X Y:List aA} (hp:X.Perm Y) (h:St S w0 (bS X::C) w):St S w0 (bS Y::C) w:=by
 have A:St S w0 (X++C) w:=h.iU
 exact (A.perm (hp.append_right C)).tied
theorem St.out {M A:Type} {f:M→A→List aA} {S:BS} {w0 w:World} {C:List aA} {ms:List M} {asl:List A} {k:Nat} {m:M} {a:A} {X:aA} (hm:ms[k]? =some m) (ha:asl[k]? =some a) (hf:f m a=[X]) (h:St S w0 (bS (bk f ms asl)::C) w):St S w0 (X::bS (jg f ms asl k)::C) w:=by
 have B:=(uV (rz hm ha) h).iU
 rw [hf] at B
 have D:St S w0 (jg f ms asl k++(X::C)) w:=B.perm (List.perm_middle (a:=X) (l₁:=jg f ms asl k) (l₂:=C)).symm
 exact D.tied.perm (List.Perm.swap _ _ _)
theorem St.back {M A:Type} {f:M→A→List aA} {S:BS} {w0 w:World} {C:List aA} {ms:List M} {asl:List A} {k:Nat} {m':M} {a:A} {X:aA} (hk:k<ms.length) (ha:asl[k]? =some a) (hf:f m' a=[X]) (h:St S w0 (X::bS (jg f ms asl k)::C) w):St S w0 (bS (bk f (ms.set k m') asl)::C) w:=by
 have B:St S w0 (bS (jg f ms asl k)::X::C) w:=h.perm (List.Perm.swap _ _ _)
 have D:=B.iU
 have E:St S w0 ((f m' a++jg f (ms.set k m') asl k)++C) w:=by
  rw [hf,FN]
  exact D.perm (List.perm_middle (a:=X) (l₁:=jg f ms asl k) (l₂:=C))
 exact uV (rz (List.getElem?_set_self hk) ha).symm E.tied
section
variable {E:fI} {ops:Array Oper} {Q:dw} {rest:List Oper} {D:List Deferred} {L:List (Nat×Value)} {C C1:List aA}
variable {M A:Type} {f:M→A→List aA} {ms:List M} {asl:List A} {k:Nat} {m:M} {a:A} {X:aA}
theorem yS {c:Code} (i:Nat) (hm:ms[k]? =some m) (ha:asl[k]? =some a) (hf:f m a=[X]) (hn:decide (i::(List.range C.length).filter fun k=>k != i).Nodup=true) (hC:lh C (i::(List.range C.length).filter fun k=>k != i)=bS (bk f ms asl)::C1)
 (h:WJ E c Q D L (X::bS (jg f ms asl k)::C1)):WJ E c Q D L C:=fun a w hf' hs=>h a w hf' (St.out hm ha hf (St.lh _ hn hC hs))
theorem zE {K:Act→World→Prop} (i j:Nat) (hk:k<ms.length) (ha:asl[k]? =some a) (hf:f m a=[X]) (hn:decide (j::i::(List.range C.length).filter fun k=>k != i&&k != j).Nodup=true) (hC:lh C (j::i::(List.range C.length).filter fun k=>k != i&&k != j)=X::bS (jg f ms asl k)::C1)
 (h:KJ E K D L (bS (bk f (ms.set k m) asl)::C1)):KJ E K D L C:=fun a w hf' hs=>h a w hf' (St.back hk ha hf (St.lh _ hn hC hs))
end
end
section
open Go.RowKit
def vv (l:List Int) (a:RA):List Value:=[vS a.1 l.length a.2]
def OY (l:List Int) (a:RA):List aA:=[rd a.1 l.length 1 (l.map iC)]
def Ar (l:List Int) (a:RA):List aA:=[own a.1 a.2 ME 1 (l.map iC)]
theorem ML: ∀ (m:List Int) (a:RA) (w:World),(∀ X∈Ar m a,X.holds w)→ ∀ X∈OY m a,X.holds w:=fun m a w h X hX=>by
 simp only [OY,cv] at hX
 subst hX
 have:=nt (h _ (cv.2 rfl))
 simpa using this
theorem pI {l:List (List Int)} {bz:List RA}:(bS (bk Ar l bz)).wr=true:=by
 show (bk Ar l bz).all (·.wr)=true
 rw [cY]
 intro X hX
 obtain ⟨k,m,a,_,_,h⟩:=j8 hX
 simp only [Ar,cv] at h
 subst h; rfl
theorem q8 {ls:List (List Int)} {az:List RA} (h:az.length=ls.length):(List.zipWith vv ls az).length=ls.length:=by simp [h]
theorem D2 (l:List (List Int)) (az:List RA): ∀ v∈(List.zipWith vv l az).flatten,v.oneCell'=true:=by
 induction l generalizing az with
 |nil=>intro v hv; simp at hv
 |cons x l ih=>
  cases az with
  |nil=>intro v hv; simp at hv
  |cons a az=>
   intro v hv
   rw [List.zipWith_cons_cons,List.flatten_cons,gL] at hv
   rcases hv with hv|hv
   ·simp [vv] at hv; subst hv; rfl
   ·exact ih az v hv
section
variable {M A:Type} {f:M→A→List aA} {ms:List M} {asl:List A} {k:Nat} {m:M} {a:A} {X:aA}
theorem Iw {β:Type} {c:M→A→β}:(List.zipWith c ms asl).set k (c m a)=List.zipWith c (ms.set k m) (asl.set k a):=by
 apply List.ext_getElem?
 intro j
 rw [List.getElem?_set]
 by_cases e:k=j
 ·subst e
  rw [if_pos rfl,List.length_zipWith,List.getElem?_zipWith,List.getElem?_set,List.getElem?_set,if_pos rfl,if_pos rfl]
  by_cases B:k<ms.length
  ·by_cases C:k<asl.length
   ·rw [if_pos I,if_pos B,if_pos C]
   ·rw [if_neg I,if_pos B,if_neg C]
  ·rw [if_neg I,if_neg B]
 ·rw [if_neg e,List.getElem?_zipWith,List.getElem?_zipWith,List.getElem?_set_ne e,List.getElem?_set_ne e]
variable {E:fI} {ops:Array Oper} {Q:dw} {rest:List Oper} {D:List Deferred} {L:List (Nat×Value)} {C C1:List aA}
abbrev KW (C:List aA) (i j:Nat):List Nat:=j::i::(List.range C.length).filter fun k=>k != i&&k != j
theorem Na {Y Y':List aA} (i j:Nat) (hn:decide (KW C i j).Nodup=true) (hC:vW C (KW C i j)=some (X::bS Y::C1)) (e:Y++[X]=Y') (h:RJ E ops Q rest D L (bS Y'::C1)):RJ E ops Q rest D L C:=fun a w hf hs=>h a w hf ((St.lh _ hn (rr hC) hs).tie e)
theorem G2 {K:Act→World→Prop} {Y Y':List aA} (i j:Nat) (hn:decide (KW C i j).Nodup=true) (hC:vW C (KW C i j)=some (X::bS Y::C1)) (e:Y++[X]=Y') (h:KJ E K D L (bS Y'::C1)):KJ E K D L C:=fun a w hf hs=>h a w hf ((St.lh _ hn (rr hC) hs).tie e)
end
theorem wD {M A:Type} {f:M→A→List aA} {ms:List M} {asl:List A} {m:M} {a:A} {X:aA} (h:ms.length=asl.length) (hf:f m a=[X]):bk f ms asl++[X]=bk f (ms++[m]) (asl++[a]):=by
 rw [jB h]; simp [bk,hf]
theorem za {M A β:Type} {f:M→A→β} {ms:List M} {asl:List A} {m:M} {a:A} (h:ms.length=asl.length):List.zipWith f ms asl++List.zipWith f [m] [a]=List.zipWith f (ms++[m]) (asl++[a]):=(List.zipWith_append h).symm
section
variable {f:Int→ai} {L:List Int} {G:List (List Int)} {g:List Int} {x last:Int} {i j:Nat}
end
end
section
open Go.RowKit
/-- the faults that a map of places says -/
def lE (fs:List aX) (m:List (Int×Bool)) (f:aX):Prop:=(List.lookup (l5 fs f) m).getD false=true
/-- what comes next: the row of a heat, in memory of its own -/
def Hg (G:List (List Int)) (k:Nat) (x:List Value) (R:aA) (k':Nat):Prop:= ∃ (a:OA) (c:Nat) (row:List Int),G[k]? =some row∧x=[vS a row.length c]∧R=own a c ME 1 (row.map iC)∧k'=k+1
section
variable {l:bo} {fs:List aX} {m:List (Int×Bool)} {d:aw} {h:List aw} {j:dk} {F G:aX→Prop} {k n q:Nat} {f f0:aX}
noncomputable def lv (l:bo) (fs:List aX) (m:List (Int×Bool)) (h:List aw) (s:Nat):Bool:=(h[s]?).any fun d=> @decide (FD l (lE fs m) fs d) (Classical.propDecidable _)
theorem L4:(fs.any fun f=>((List.lookup (l5 fs f) m).getD false)&& !decide (gO l f d=0))= @decide (FD l (lE fs m) fs d) (Classical.propDecidable _):=by
 rw [Bool.eq_iff_iff,List.any_eq_true,@decide_eq_true_iff _ (Classical.propDecidable _)]
 constructor
 ·rintro ⟨f,hf,hb⟩
  rw [di,Bool.not_eq_true',decide_eq_false_iff_not] at hb
  exact ⟨f,hf,hb.1,hb.2⟩
 ·rintro ⟨f,hf,A,B⟩
  exact ⟨f,hf,by rw [di,Bool.not_eq_true',decide_eq_false_iff_not]; exact ⟨A,B⟩⟩
theorem Ez (hd:h[q]? =some d):lv l fs m h q=(fs.any fun f=>((List.lookup (l5 fs f) m).getD false)&& !decide (gO l f d=0)):=by
 unfold lv; rw [hd,L4]; rfl
theorem JB {ht:List aw} (hh:j.Race.aB[k]? =some ht):(eC j (lE j.ay m))[k]? =some (nW (lv j.Race.ar j.ay m ht) ht.length):=zP hh
/-- only who is told, of faults of the row -/
theorem B1 (h: ∀ f∈j.ay,(F f↔G f)):eC j F=eC j G:=by
 unfold eC
 apply List.map_congr_left
 intro x _
 exact E0 h
theorem Ny (hf:f0∈j.ay): ∀ f∈j.ay,(lE j.ay [(l5 j.ay f0,true)] f↔f=f0):=fun f hm=>by
 unfold lE
 constructor
 ·intro q
  by_cases e:l5 j.ay f=l5 j.ay f0
  ·exact Je hm hf e
  ·have:(l5 j.ay f==l5 j.ay f0)=false:=by simpa using e
   simp [List.lookup,this] at q
 ·rintro rfl; simp [List.lookup]
end
section
variable {fs gs:List aX} {f g:aX} {m:List (Int×Bool)}
end
section
variable {j:dk} {t:Nat} {i:Int} {p:bI} {f g:aX}
end
end
section
open Go.RowKit
theorem p6 {α:Type} {l:List α} {k:Nat} {x:α} (h:l[k]? =some x):l.take (k+1)=l.take k++[x]:=by rw [List.take_add_one,h]; rfl
def jV (j:dk) (k h s:Int):Prop:=(0≤k∧k≤(j.ay.length:Int)-1)∧(0≤h∧h≤(j.Race.aB.length:Int)-1)∧0≤s∧s≤(j.Race.bg.length:Int)-1
instance (j:dk) (k h s:Int):Decidable (jV j k h s):=by unfold jV; infer_instance
noncomputable def su (j:dk) (k h s:Int):Int:=if gF j=0 then (if jV j k h s then 0 else 2) else gF j
noncomputable def uR (j:dk) (k h s:Int):Int:=if gF j=0∧jV j k h s then (match j.ay[k.toNat]?,(j.Race.aB[h.toNat]?).bind (·[s.toNat]?) with
 |some f,some d=>gO j.Race.ar f d
 |_,_=>0) else 0
noncomputable def tf (j:dk) (i:Int):Int:=if gF j=0 then (if 0≤i∧i≤(j.aM.length:Int)-1 then 0 else 2) else gF j
noncomputable def wW (j:dk) (i:Int):Int:=if gF j=0∧(0≤i∧i≤(j.aM.length:Int)-1) then (match j.aM[i.toNat]? with
 |some p=>uv j p
 |none=>0) else 0
noncomputable def zQ (j:dk) (k:Int):Int:=if gF j=0 then (if 0≤k∧k≤(j.ay.length:Int)-1 then 0 else 2) else gF j
noncomputable def jA (j:dk) (k:Int):List (List Int):=if gF j=0∧(0≤k∧k≤(j.ay.length:Int)-1) then (match j.ay[k.toNat]? with
 |some f0=>eC j fun f=>f=f0
 |none=>[]) else []
section
variable {j:dk} {k h s i:Int} {f:aX} {ht:List aw} {d:aw} {p:bI}
theorem yZ (e: ¬ gF j=0):uR j k h s=0∧su j k h s=gF j:=⟨if_neg fun q=>e q.1,if_neg e⟩
theorem nm (e:gF j=0) (n: ¬ jV j k h s):uR j k h s=0∧su j k h s=2:=⟨if_neg fun q=>n q.2,by unfold su; rw [if_pos e,if_neg n]⟩
theorem An (e:gF j=0) (n:jV j k h s) (hf:j.ay[k.toNat]? =some f) (hh:j.Race.aB[h.toNat]? =some ht) (hd:ht[s.toNat]? =some d):uR j k h s=gO j.Race.ar f d∧su j k h s=0:=
 ⟨by unfold uR; rw [if_pos ⟨e,n⟩,hf,hh,Option.bind_some,hd],by unfold su; rw [if_pos e,if_pos n]⟩
theorem Al (e: ¬ gF j=0):wW j i=0∧tf j i=gF j:=⟨if_neg fun q=>e q.1,if_neg e⟩
theorem BZ (e:gF j=0) (n: ¬ (0≤i∧i≤(j.aM.length:Int)-1)):wW j i=0∧tf j i=2:=⟨if_neg fun q=>n q.2,by unfold tf; rw [if_pos e,if_neg n]⟩
theorem EI (e:gF j=0) (n:0≤i∧i≤(j.aM.length:Int)-1) (hp:j.aM[i.toNat]? =some p):wW j i=uv j p∧tf j i=0:=
 ⟨by unfold wW; rw [if_pos ⟨e,n⟩,hp],by unfold tf; rw [if_pos e,if_pos n]⟩
theorem wm (e: ¬ gF j=0):jA j k=[]∧zQ j k=gF j:=⟨if_neg fun q=>e q.1,if_neg e⟩
theorem v7 (e:gF j=0) (n: ¬ (0≤k∧k≤(j.ay.length:Int)-1)):jA j k=[]∧zQ j k=2:=⟨if_neg fun q=>n q.2,by unfold zQ; rw [if_pos e,if_neg n]⟩
theorem HC (e:gF j=0) (n:0≤k∧k≤(j.ay.length:Int)-1) (hf:j.ay[k.toNat]? =some f):jA j k=eC j (lE j.ay [(l5 j.ay f,true)])∧zQ j k=0:=
 ⟨by unfold jA; rw [if_pos ⟨e,n⟩,hf]; exact (B1 (Ny (aP hf))).symm,by unfold zQ; rw [if_pos e,if_pos n]⟩
end
end
section
structure Up (j x:dk):Prop where
 race:x.Race=j.Race
 Tj:x.ay=j.ay
 min_:j.fQ≤x.fQ
 ia: ∀ (i:Nat) p,j.aM[i]? =some p→x.aM[i]? =some p
section
variable {j x:dk} {n s:Int} {h k:Nat} {a b:List Int} {f f':aX} {ht:List aw} {d:aw}
end
end
section
section
variable {l:bo} {r:cx} {b w:Int} {f:aX} {d:aw} {j:dk} {p:bI} {a c:xh} {P:Nat→Prop} {k n i:Nat} {ht:List aw}
/-- the first number tells whether all are behind the beam -/
theorem FC (ho:dN l r 0=0) (hw:(fp l r)[0]? =some w):ud l r b=decide (b<w):=by
 have hs:(fp l r).Pairwise (· < ·):=by
  rw [jR ho]; unfold hG iA
  rw [List.pairwise_map]
  exact List.Pairwise.imp (fun h=>by omega) (List.Pairwise.filter _ List.pairwise_lt_range)
 unfold ud
 rw [Bool.eq_iff_iff,cY,decide_eq_true_iff]
 constructor
 ·intro h; exact of_decide_eq_true (h w (aP hw))
 ·intro h n hn
  obtain ⟨i,hi⟩:=List.getElem?_of_mem hn
  refine cJ ?_
  rcases Nat.eq_zero_or_pos i with rfl|e
  ·rw [hw] at hi; cases hi; exact h
  ·obtain ⟨B,D⟩:=aU.1 hi
   obtain ⟨A,C⟩:=aU.1 hw
   have:=eN.1 hs 0 i A B e
   omega
theorem sE (h: ¬ b<0) (e:eh l r b=0) (ho:dN l r 0=0) (hw:(fp l r)[0]? =some w):(b<w→df l r b=⟨(dy l r b).Lo,(dy l r b).Hi,true,false⟩)∧(¬ b<w→df l r b=⟨(dy l r b).Lo,86400000,false,false⟩):=by
 have hh:=FC (b:=b) ho hw
 exact ⟨fun q=>u6 h e (by rw [hh]; exact cJ q),fun q=>sH h e (by rw [hh]; exact aY q)⟩
/-- the faults that some places say -/
def nD (fs:List aX) (P:Nat→Prop) (f:aX):Prop:= ∃ k:Nat,fs[k]? =some f∧P k
/-- hit, by the first faults -/
def Qu (l:bo) (fs:List aX) (P:Nat→Prop) (d:aw) (n:Nat):Prop:= ∃ (k:Nat) (f:aX),k<n∧fs[k]? =some f∧P k∧ ¬ gO l f d=0
noncomputable def lU (l:bo) (fs:List aX) (P:Nat→Prop) (d:aw) (n:Nat):Bool:= @decide (Qu l fs P d n) (Classical.propDecidable _)
theorem CD {fs:List aX}:lU l fs P d 0=false:= @decide_eq_false _ (Classical.propDecidable _) (fun ⟨k,f,h,_⟩=>absurd h (Nat.not_lt_zero _))
theorem sN {fs:List aX} (hf:fs[n]? =some f):lU l fs P d (n+1)=true↔lU l fs P d n=true∨(P n∧ ¬ gO l f d=0):=by
 unfold lU
 rw [@decide_eq_true_iff _ (Classical.propDecidable _),@decide_eq_true_iff _ (Classical.propDecidable _)]
 constructor
 ·rintro ⟨k,g,D,C,A,B⟩
  by_cases c:k=n
  ·subst c; rw [hf] at C; cases C; exact .inr ⟨A,B⟩
  ·exact .inl ⟨k,g,I,C,A,B⟩
 ·rintro (⟨k,g,D,C,A,B⟩|⟨A,B⟩)
  ·exact ⟨k,g,I,C,A,B⟩
  ·exact ⟨n,f,I,hf,A,B⟩
theorem yn {fs:List aX} (hn:fs.length≤n):lU l fs P d n= @decide (FD l (nD fs P) fs d) (Classical.propDecidable _):=by
 unfold lU
 rw [gR]
 constructor
 ·rintro ⟨k,f,_,A,B,C⟩; exact ⟨f,aP A,⟨k,A,B⟩,C⟩
 ·rintro ⟨f,_,⟨k,A,B⟩,C⟩; exact ⟨k,f,by have:=(aU.1 A).1; omega,A,B,C⟩
theorem RV {fs:List aX} (hf:fs[k]? =some f) (h:lU l fs P d k=true):true=lU l fs P d (k+1):=((sN hf).2 (.inl h)).symm
theorem Ts {fs:List aX} {x:Bool} (hf:fs[k]? =some f) (h: ¬ lU l fs P d k=true) (hx:x=true↔P k) (hn: ¬ x=true):false=lU l fs P d (k+1):=by
 cases e:lU l fs P d (k+1) with
 |false=>rfl
 |true=>exact ((sN hf).1 e).elim (fun q=>absurd q h) (fun q=>absurd (hx.2 q.1) hn)
theorem SQ {fs:List aX} {x:Bool} (hf:fs[k]? =some f) (h: ¬ lU l fs P d k=true) (hx:x=true↔P k) (hn:x=true):decide (0<gO l f d)=lU l fs P d (k+1):=by
 have hb:=Iy (l:=l) (f:=f) (d:=d)
 rw [Bool.eq_iff_iff,decide_eq_true_iff,sN hf]
 constructor
 ·intro q; exact .inr ⟨hx.1 hn,I⟩
 ·rintro (q|⟨_,q⟩)
  ·exact absurd q h
  ·omega
theorem Dy (hk:f.Kind=3):qu f a c↔f.lX≤a.Lo∧a.Hi≤f.To:=by unfold qu; rw [if_pos hk]
noncomputable def nZ (l:bo) (fs:List aX) (P:Nat→Prop) (ht:List aw) (s:Nat):Bool:=(ht[s]?).any fun d=> @decide (FD l (nD fs P) fs d) (Classical.propDecidable _)
theorem Ai {fs:List aX} {q:Nat} (hd:ht[q]? =some d):nZ l fs P ht q= @decide (FD l (nD fs P) fs d) (Classical.propDecidable _):=by unfold nZ; rw [hd]; rfl
theorem Fq {h:Nat} (hh:j.Race.aB[h]? =some ht):(eC j (nD j.ay P))[h]? =some (nW (nZ j.Race.ar j.ay P ht) ht.length):=zP hh
theorem KY {r:eM} {q s:Nat} (ho:fM r) {at_:Int} (h: ∃ d,((r.aB[q]?).bind (·[s]?))=some d∧oG d∧d.aZ.Start≤at_∧at_≤86400000):0≤at_∧at_≤86400000:=by
 obtain ⟨d,A,C,D,E⟩:=h
 cases e:r.aB[q]? with
 |none=>rw [e] at A; cases A
 |some x=>
  rw [e] at A
  have B:=(ho.fX x (aP e)).2 d (aP A)
  rw [uo C] at B
  have:=(qR B.1).time
  omega
theorem GD {q:dk} (h1:j.Race=q.Race) (h2:j.fQ=q.fQ) (h3:j.z8=q.z8) (h4:j.ay=q.ay) (h5:j.aM=q.aM):j=q:=by
 cases j; cases q; simp_all
noncomputable def iM (n:Nat) (P:Nat→Prop):List Bool:=(List.range n).map fun k=> @decide (P k) (Classical.propDecidable _)
@[simp] theorem j5:(iM n P).length=n:=by simp [iM]
theorem o1 (h:k<n):(iM n P)[k]? =some (@decide (P k) (Classical.propDecidable _)):=by unfold iM; rw [fK,List.getElem?_range h]; rfl
theorem CC {x:Bool} (h:(iM n P)[k]? =some x):k<n∧(x=true↔P k):=by
 have hk:=(aU.1 h).1
 rw [j5] at hk
 rw [o1 hk] at h
 cases h
 exact ⟨hk,@decide_eq_true_iff _ (Classical.propDecidable _)⟩
theorem Dv {Q:Nat→Prop} {x:Bool} (hk:k<n) (hx:x=true↔Q k) (hq: ∀ i,i≠k→(P i↔Q i)):(iM n P).set k x=iM n Q:=by
 apply List.ext_getElem?
 intro i
 rw [List.getElem?_set]
 by_cases c:k=i
 ·subst c
  rw [if_pos rfl,if_pos (by rw [j5]; exact hk),o1 hk]
  congr 1
  rw [Bool.eq_iff_iff,hx,@decide_eq_true_iff _ (Classical.propDecidable _)]
 ·rw [if_neg c]
  by_cases hi:i<n
  ·rw [o1 hi,o1 hi]
   congr 1
   rw [gR]; exact hq i (Ne.symm c)
  ·rw [List.getElem?_eq_none (by rw [j5]; omega),List.getElem?_eq_none (by rw [j5]; omega)]
theorem A_:List.replicate n false=iM n (fun _=>False):=by
 apply List.ext_getElem?
 intro i
 by_cases hi:i<n
 ·rw [o1 hi,List.getElem?_replicate,if_pos hi]
  congr 1
  exact (@decide_eq_false _ (Classical.propDecidable _) id).symm
 ·rw [List.getElem?_eq_none (by rw [List.length_replicate]; omega),List.getElem?_eq_none (by rw [j5]; omega)]
/-- one fault alone -/
theorem JH (e:gF j=0) (hf:j.ay[k]? =some f):eC j (nD j.ay fun i=>i=k)=jA j k:=by
 have D:=(aU.1 hf).1
 unfold jA
 rw [if_pos ⟨e,I⟩,Int.toNat_natCast,hf]
 simp only
 unfold eC
 apply List.map_congr_left
 intro x _
 unfold Fa
 congr 1
 funext s
 cases x[s]? with
 |none=>rfl
 |some d=>
  simp only [Option.any_some]
  rw [gR]
  constructor
  ·rintro ⟨g,A,⟨k',C,rfl⟩,B⟩; rw [hf] at C; cases C; exact ⟨f,A,rfl,B⟩
  ·rintro ⟨g,A,rfl,B⟩; exact ⟨g,A,⟨k,hf,rfl⟩,B⟩
theorem wZ {x:Int} {az:List RA} {ha:List cU} (hin:fY j az ha):(jA j x).length≤1000000:=by
 unfold jA
 split
 ·split
  ·rw [BK]; exact hin.race.gQ
  ·simp
 ·simp
theorem ze {x:Int} {az:List RA} {ha:List cU} (hin:fY j az ha): ∀ l∈jA j x,l.length≤1000000:=fun l hl=>by
 unfold jA at hl
 split at hl
 ·split at hl
  ·obtain ⟨h,hh⟩:=List.getElem?_of_mem hl
   have A:=(aU.1 hh).1
   rw [BK] at A
   have B:j.Race.aB[h]? =some (j.Race.aB[h]'(A)):=eX _
   rw [zP B] at hh
   cases hh
   obtain ⟨a,ha⟩: ∃ a,ha[h]? =some a:=⟨ha[h]'(by rw [hin.race.has]; exact A),eX _⟩
   exact Nat.le_trans sM (hin.race.fX h _ a B ha).len
  ·cases hl
 ·cases hl
end
end
section
open Go.RowKit
theorem Cw (l:List av) (az:List RA): ∀ v∈(List.zipWith av.cells l az).flatten,v.oneCell'=true:=by
 induction l generalizing az with
 |nil=>intro v hv; simp at hv
 |cons x l ih=>
  cases az with
  |nil=>intro v hv; simp at hv
  |cons a az=>
   intro v hv
   rw [List.zipWith_cons_cons,List.flatten_cons,gL] at hv
   rcases hv with hv|hv
   ·simp [av.cells,dG.cells] at hv
    rcases hv with rfl|rfl<;>rfl
   ·exact ih az v hv
theorem lJ {l:List av} {az:List RA} (h:az.length=l.length):(List.zipWith av.cells l az).length=l.length:=by simp [h]
/-- addresses, of which some are new -/
def rR (bz az:List RA) (i:Nat):List RA:=bz++az.drop i
theorem qW {bz az:List RA} {i:Nat} (hb:bz.length=i) (hi:i≤az.length):(rR bz az i).length=az.length:=by simp [rR,hb]; omega
theorem Iz {bz az:List RA} {i:Nat} (h:az.length≤i):rR bz az i=bz:=by unfold rR; rw [List.drop_eq_nil_of_le h,List.append_nil]
theorem EL {bz az:List RA} {i:Nat} {a:RA} (hb:bz.length=i) (h:az[i]? =some a):(rR bz az i)[i]? =some a:=by
 unfold rR
 rw [List.getElem?_append_right I,hb,Nat.sub_self,List.getElem?_drop]
 simpa using h
theorem Il {bz az:List RA} {i:Nat} {a b:RA} (hb:bz.length=i) (h:az[i]? =some a):(rR bz az i).set i b=rR (bz++[b]) az (i+1):=by
 unfold rR
 have hi:=(aU.1 h).1
 rw [List.set_append_right _ _ I,hb,Nat.sub_self,List.drop_eq_getElem_cons hi,List.set_cons_zero]
 simp
theorem Lr {l:List av} {bz az:List RA} {i:Nat} {x:av} {xa nw:RA} (hx:l[i]? =some x) (hb:bz.length=i) (ha:az[i]? =some xa):
 (List.zipWith av.cells l (rR bz az i)).set i (av.cells x nw)=List.zipWith av.cells l (rR (bz++[nw]) az (i+1)):=by
 rw [← Il hb ha]
 apply List.ext_getElem?
 intro k
 rw [List.getElem?_set]
 by_cases e:i=k
 ·subst e
  have A:=EL hb ha
  have B:=(aU.1 A).1
  have C:=(aU.1 hx).1
  rw [if_pos rfl,List.getElem?_zipWith,hx,List.getElem?_set_self B,if_pos (by simp; omega)]
 ·rw [if_neg e,List.getElem?_zipWith,List.getElem?_zipWith,List.getElem?_set_ne e]
theorem FF {l:List av} {bz:List RA} {i:Nat} {x:av} {nw:RA} (hx:l[i]? =some x) (hb:bz.length=i):bk av.owns (l.take i) bz++av.owns x nw=bk av.owns (l.take (i+1)) (bz++[nw]):=by
 have hi:=(aU.1 hx).1
 rw [List.take_add_one,hx,Option.toList_some,jB (by rw [List.length_take,hb]; omega)]
 simp [bk]
theorem pJ {l:List av} {bz:List RA}:(bS (bk av.owns l bz)).wr=true:=by
 show (bk av.owns l bz).all (·.wr)=true
 rw [cY]
 intro X hX
 obtain ⟨k,m,a,_,_,h⟩:=j8 hX
 simp only [av.owns,cv] at h
 subst h; rfl
/-- what is known of new rows -/
def tw (l:List av) (bz:List RA):Prop:= ∀ (k:Nat) m (a:RA),l[k]? =some m→bz[k]? =some a→m.bp.length≤a.2
theorem I5 {l:List av} {bz:List RA} {i:Nat} {x:av} {nw:RA} (h:tw l bz) (hb:bz.length=i) (hx:l[i]? =some x) (hc:x.bp.length≤nw.2):tw l (bz++[nw]):=fun k m a hm ha=>by
 by_cases e:k<bz.length
 ·rw [List.getElem?_append_left e] at ha
  exact h k m a hm ha
 ·rw [List.getElem?_append_right I] at ha
  have hk:k-bz.length=0:=by
   rcases Nat.eq_zero_or_pos (k-bz.length) with A|A
   ·exact A
   ·rw [List.getElem?_eq_none (by simp; omega)] at ha; cases ha
  rw [hk] at ha
  simp at ha
  have:k=i:=by omega
  subst this
  rw [hx] at hm; cases hm
  subst ha; exact hc
theorem qp: ∀ (m:av) (a:RA) (w:World),(∀ X∈av.owns m a,X.holds w)→ ∀ X∈av.fu m a,X.holds w:=fun m a w h X hX=>by
 simp only [av.fu,cv] at hX
 subst hX
 have:=nt (h _ (cv.2 rfl))
 simpa using this
theorem d_.OT {l:bo} {az bz:List RA} (h:d_ l az) (hb:bz.length=l.aj.length) (hc:tw l.aj bz):d_ l bz:=⟨h.qm,h.side,h.qj,hb,h.qi,fun k m a hm ha=>⟨hc k m a hm ha,by
 obtain ⟨A,B⟩: ∃ A,az[k]? =some A:=⟨az[k]'(by rw [h.mq]; exact (aU.1 hm).1),eX _⟩
 exact (h.QI k m A hm B).2⟩⟩
theorem wS {x y:av} {k:Nat} (h1:x.du=y.du) (h2:(x.bp.length:Int)=(y.bp.length:Int)) (hk:x.bp.length≤k) (h:x.bp.take k=y.bp.take k):x=y:=by
 cases x; cases y
 simp only [av.mk.injEq] at *
 rw [List.take_of_length_le hk,List.take_of_length_le I] at h
 exact ⟨h1,h⟩
theorem g_ {l m:bo} (h1:l.aO=m.aO) (h2:l.ib=m.ib) (h3:l.b_=m.b_) (h4:l.e9=m.e9) (h5:l.dp=m.dp) (h6:l.aj=m.aj) (h7:l.ab=m.ab):l=m:=by
 cases l; cases m; simp_all
section
variable {E:fI} {ops:Array Oper} {Q:dw} {rest:List Oper} {D:List Deferred} {L:List (Nat×Value)} {C:List aA}
theorem QT {a:OA} {c e sz:Nat} {es:List (List Value)} (i:Nat) (hC:C[i]? =some (own a c e sz es)) (k:es.length≤c→RJ E ops Q rest D L C):RJ E ops Q rest D L C:=fun act w hf hs=>
 k (J1 (hs.holds _ (aP hC))) act w hf hs
end
end
section
open Go.RowKit
def C8 (m:aw) (a:RA):List aA:=[own a.1 a.2 Qo 2 (m.aZ.aa.map aH.cells)]
def vp (m:List aw) (a:cU):List aA:=own a.1.1 a.1.2 PV 7 (List.zipWith aw.cells m a.2)::bk C8 m a.2
theorem M6: ∀ (m:aw) (a:RA) (w:World),(∀ X∈C8 m a,X.holds w)→ ∀ X∈aw.fu m a,X.holds w:=fun m a w h X hX=>by
 simp only [aw.fu,cv] at hX
 subst hX
 have:=nt (h _ (cv.2 rfl))
 simpa using this
theorem nO {m:List aw} {asl:List RA} (h:asl.length=m.length):(List.zipWith aw.cells m asl).length=m.length:=by simp [h]
theorem iO {m:List (List aw)} {asl:List cU} (h:asl.length=m.length):(List.zipWith cz m asl).length=m.length:=by simp [h]
theorem Ly {m:List aw} {asl:List RA}:(bk C8 m asl).all (·.wr)=true:=by
 rw [cY]
 intro X hX
 obtain ⟨k,d,a,_,_,h⟩:=j8 hX
 simp only [C8,cv] at h
 subst h; rfl
theorem AQ {m:List (List aw)} {asl:List cU}:(bS (bk vp m asl)).wr=true:=by
 show (bk vp m asl).all (·.wr)=true
 rw [cY]
 intro X hX
 obtain ⟨k,d,a,_,_,h⟩:=j8 hX
 rcases cg.1 h with rfl|h
 ·rfl
 ·exact cY.1 Ly X h
theorem Ln (l:List aw) (az:List RA): ∀ v∈(List.zipWith aw.cells l az).flatten,v.oneCell'=true:=by
 induction l generalizing az with
 |nil=>intro v hv; simp at hv
 |cons x l ih=>
  cases az with
  |nil=>intro v hv; simp at hv
  |cons a az=>
   intro v hv
   rw [List.zipWith_cons_cons,List.flatten_cons,gL] at hv
   rcases hv with hv|hv
   ·simp [aw.cells,bf.cells,de.cells,ai.cells] at hv
    rcases hv with rfl|rfl|rfl|rfl|rfl|rfl|rfl<;>rfl
   ·exact ih az v hv
theorem E7 (l:List (List aw)) (az:List cU): ∀ v∈(List.zipWith cz l az).flatten,v.oneCell'=true:=by
 induction l generalizing az with
 |nil=>intro v hv; simp at hv
 |cons x l ih=>
  cases az with
  |nil=>intro v hv; simp at hv
  |cons a az=>
   intro v hv
   rw [List.zipWith_cons_cons,List.flatten_cons,gL] at hv
   rcases hv with hv|hv
   ·simp [cz] at hv; subst hv; rfl
   ·exact ih az v hv
/-- every heat has as many places as descents -/
def Hk (H:List (List aw)) (hz:List cU):Prop:=hz.length=H.length∧ ∀ (k:Nat) h (a:cU),H[k]? =some h→hz[k]? =some a→a.2.length=h.length
theorem KC {a:OA} {c e sz n:Nat} {es:List (List Value)} {w:World} (h:(own a c e sz es).holds w) (hn:es.length=n):(rd a n sz es).holds w:=by subst hn; exact nt h
theorem oR {C:List aA} {H:List (List aw)} {hz:List cU} (i:Nat) (hC:C[i]? =some (bS (bk vp H hz))) (hh:Hk H hz):hH C (dL (bk eO H hz)).holds:=fun w hw X hX=>by
 have hb:=hw _ (aP hC)
 obtain ⟨k,m,a,A,B,D⟩:=j8 hX
 rcases cg.1 D with rfl|D
 ·exact KC (hb.1 _ (bD A B ct)) (nO (hh.2 k m a A B))
 ·obtain ⟨q,d,b,E,F,G⟩:=j8 D
  exact M6 d b w (fun Y hY=>hb.1 Y (bD A B (dH _ (bD E F hY)))) X G
section
variable {α:Type}
def l3 (bz az:List α) (i:Nat):List α:=bz++az.drop i
variable {bz az:List α} {i:Nat} {a b:α}
theorem jh (hb:bz.length=i) (hi:i≤az.length):(l3 bz az i).length=az.length:=by simp [l3,hb]; omega
theorem AS (h:az.length≤i):l3 bz az i=bz:=by unfold l3; rw [List.drop_eq_nil_of_le h,List.append_nil]
theorem EN (hb:bz.length=i) (h:az[i]? =some a):(l3 bz az i)[i]? =some a:=by
 unfold l3
 rw [List.getElem?_append_right I,hb,Nat.sub_self,List.getElem?_drop]
 simpa using h
theorem Hb (hb:bz.length=i):(l3 (bz++[b]) az (i+1))[i]? =some b:=by
 unfold l3
 rw [List.getElem?_append_left (by simp; omega),List.getElem?_append_right I,hb,Nat.sub_self]; rfl
theorem Hd (hb:bz.length=i) (h:az[i]? =some a):(l3 bz az i).set i b=l3 (bz++[b]) az (i+1):=by
 unfold l3
 have hi:=(aU.1 h).1
 rw [List.set_append_right _ _ I,hb,Nat.sub_self,List.drop_eq_getElem_cons hi,List.set_cons_zero]
 simp
theorem Bd {M β:Type} {c:M→α→β} {l:List M} {x:M} (hx:l[i]? =some x) (hb:bz.length=i) (h:az[i]? =some a):(List.zipWith c l (l3 bz az i)).set i (c x b)=List.zipWith c l (l3 (bz++[b]) az (i+1)):=by
 rw [Iw,Hd hb h]
 congr 1
 obtain ⟨hi,rfl⟩:=aU.1 hx
 exact List.set_getElem_self hi
theorem xT {M:Type} {f:M→α→List aA} {l:List M} {x:M} (hx:l[i]? =some x) (hb:bz.length=i):bk f (l.take i) bz++f x b=bk f (l.take (i+1)) (bz++[b]):=by
 have hi:=(aU.1 hx).1
 rw [List.take_add_one,hx,Option.toList_some,jB (by rw [List.length_take,hb]; omega)]
 simp [bk]
end
theorem BR: ∀ {l:List (List aw)} {u v:List cU},u.map (·.1)=v.map (·.1)→List.zipWith cz l u=List.zipWith cz l v
 |[],u,v,_=>by simp
 |x::l,[],[],_=>rfl
 |x::l,[],b::v,h=>by simp at h
 |x::l,a::u,[],h=>by simp at h
 |x::l,a::u,b::v,h=>by
  simp only [List.map_cons,List.cons.injEq] at h
  rw [List.zipWith_cons_cons,List.zipWith_cons_cons,BR h.2]
  have e:cz x a=cz x b:=by simp only [cz,h.1]
  rw [e]
theorem G0 {l:List (List aw)} {hz ha:List cU} {p:RA} {x y:List RA} {i:Nat}:List.zipWith cz l (l3 (hz++[(p,x)]) ha i)=List.zipWith cz l (l3 (hz++[(p,y)]) ha i):=BR (by simp [l3])
theorem Kj {H:List (List aw)} {hz:List cU} {i:Nat} {x:List aw} {b:cU} (hx:H[i]? =some x) (h: ∀ (k:Nat) y (a:cU),H[k]? =some y→hz[k]? =some a→a.2.length=y.length) (hb:hz.length=i) (hl:b.2.length=x.length): ∀ (k:Nat) y (a:cU),H[k]? =some y→(hz++[b])[k]? =some a→a.2.length=y.length:=fun k y a hy ha=>by
 by_cases e:k<hz.length
 ·rw [List.getElem?_append_left e] at ha
  exact h k y a hy ha
 ·rw [List.getElem?_append_right I] at ha
  have hk:k-hz.length=0:=by
   rcases Nat.eq_zero_or_pos (k-hz.length) with A|A
   ·exact A
   ·rw [List.getElem?_eq_none (by simp; omega)] at ha; cases ha
  rw [hk] at ha
  simp at ha
  have:k=i:=by omega
  subst this
  rw [hx] at hy; cases hy
  subst ha; exact hl
theorem KG {S:BS} {w0 w:World} {C:List aA} {A:aA} {Y Z:List aA} (h:St S w0 (A::bS Y::bS Z::C) w):St S w0 (bS (Z++A::Y)::C) w:=by
 have D:St S w0 (bS Y::A::bS Z::C) w:=h.perm (List.Perm.swap _ _ _)
 have E:St S w0 (Y++(A::bS Z::C)) w:=D.iU
 have F:St S w0 (bS Z::(A::Y)++C) w:=E.perm (by
  have B:(Y++(A::bS Z::C)).Perm ((A::bS Z::C)++Y):=List.perm_append_comm
  refine B.trans ?_
  show (A::bS Z::(C++Y)).Perm (bS Z::A::(Y++C))
  exact (List.Perm.swap _ _ _).trans (((List.perm_append_comm (l₁:=C) (l₂:=Y)).cons A).cons _))
 have G:St S w0 (Z++((A::Y)++C)) w:=F.iU
 have H:St S w0 ((Z++A::Y)++C) w:=by simpa using G
 exact H.tied
abbrev RC (C:List aA) (i j k:Nat):List Nat:=k::j::i::(List.range C.length).filter fun q=>q != i&&q != j&&q != k
section
variable {E:fI} {ops:Array Oper} {Q:dw} {rest:List Oper} {D:List Deferred} {L:List (Nat×Value)} {C C1:List aA} {K:Act→World→Prop}
variable {H:List (List aw)} {hz:List cU} {h h':List aw} {a a':cU} {k:Nat} {X:aA} {Y Z Z':List aA}
/-- i: the others, j: what hangs on the row, q: the row -/
theorem Og (i j q:Nat) (hn:decide (RC C i j q).Nodup=true) (hC:vW C (RC C i j q)=some (X::bS Y::bS Z::C1)) (e:Z++X::Y=Z') (hk:KJ E K D L (bS Z'::C1)):KJ E K D L C:=fun a w hf hs=>by
 subst e; exact hk a w hf (KG (St.lh _ hn (rr hC) hs))
end
theorem oU {d e:aw}:d=e↔d.Out=e.Out∧d.cO=e.cO∧d.Time=e.Time∧d.aZ.Start=e.aZ.Start∧d.aZ.fP=e.aZ.fP∧d.aZ.aa=e.aZ.aa:=by
 obtain ⟨a,b,c,⟨x,y,z⟩⟩:=d
 obtain ⟨A,B,C,⟨D,E,F⟩⟩:=e
 simp only [aw.mk.injEq,cx.mk.injEq]
theorem lg {r q:eM} (h1:r.ar=q.ar) (h2:r.bg=q.bg) (h3:r.cm=q.cm) (h4:r.kY=q.kY) (h5:r.aB=q.aB):r=q:=by
 cases r; cases q; simp_all
theorem lf.OT {r:eM} {az bz:List RA} {ha hz:List cU} (h:lf r az ha) (hb:bz.length=r.ar.aj.length) (hc:tw r.ar.aj bz) (hh:Hk r.aB hz):lf r bz hz:=⟨h.line.OT hb hc,h.gX,h.draw,h.gQ,hh.1,fun k x a hx ha'=>by
 obtain ⟨A,C⟩: ∃ A,ha[k]? =some A:=⟨ha[k]'(by rw [h.has]; exact (aU.1 hx).1),eX _⟩
 have B:=h.fX k x A hx C
 exact ⟨B.len,hh.2 k x a hx ha',B.sig⟩⟩
end
section
open Go.RowKit
section
variable {K:Type} [DecidableEq K] {kV:K→Value}
variable {E:fI} {ops:Array Oper} {Q:dw} {rest:List Oper} {D:List Deferred} {L:List (Nat×Value)} {C:List aA}
variable {ty:TypeId} {ps:String} {af:Array Edge} {g:Option (Nat×Bool)}
theorem sr {t kt et:TypeId} {xm xk:Operand} {ts:Array TypeId} {b:Nat} {x:K} {m m':List (K×Value)} {C':List aA} (i:Nat) (hg:ki ops L g=true) (hm:ev L xm=some (.map (some b))) (hk:ev L xk=some (kV x)) (hts:ts[0]? =some t)
 (ht:E.P.underlying t=some (.map kt et)) (hkt:vf E.P kt kV) (hC:C[i]? =some (ks kV b m)) (hm':fg m x=m') (hC':C.set i (ks kV b m')=C') (k:RJ E ops Q rest D L C'):
 RJ E ops Q (⟨none,.call {callee:= .builtin .delete,args:= #[xm,xk],argTypes:=ts},ty,ps,af,g⟩::rest) D L C:=by
 subst hm' hC'
 intro a w A hs
 unfold r_
 rw [if_pos (eu A hg)]
 obtain ⟨es,c,he,hi⟩:=hs.holds _ (aP hC)
 have B:(getObj b).run E.P w= .ok (.map es c) w:=MapKept.run_getObj_map he
 rcases oN (P:=E.P) (w:=w) (x:=x) hkt hi with ⟨F,G⟩|⟨j,AA,F,G,H⟩
 ·refine jc (v:= .tuple #[]) (w':={w with heap:=w.heap.setIfInBounds b (.map es c)}) sm ?_ ?_
  ·simp [execOp,resolve,invoke,builtin,A.ev hm,A.ev hk,Builtin.delete_,hts,run_underlying ht,B,jl hkt,F,MapKept.run_setObj_map _ he]
  ·refine k _ _ ⟨A.defers,A.size,A.at_⟩ (hs.zl (b:=b) i hC U U (nc _) (fun _ h=>h) ⟨_,_,pt he,?_⟩)
   rw [CT G]; exact hi
 ·refine jc (v:= .tuple #[]) (w':={w with heap:=w.heap.setIfInBounds b (.map (es.eraseIdxIfInBounds j) c)}) sm ?_ ?_
  ·simp [execOp,resolve,invoke,builtin,A.ev hm,A.ev hk,Builtin.delete_,hts,run_underlying ht,B,jl hkt,F,MapKept.run_setObj_map _ he]
  ·exact k _ _ ⟨A.defers,A.size,A.at_⟩ (hs.zl (b:=b) i hC U U (nc _) (fun _ h=>h) ⟨_,_,pt he,hi.del G⟩)
end
end
section
open Go.RowKit
def NX (t:ai):aw:=⟨false,true,t,⟨0,0,[]⟩⟩
def Sl (H:List (List aw)) (h i:Int) (t:ai):List (List aw):=H.set h.toNat ((H[h.toNat]?.getD []).set i.toNat (NX t))
def M8 (r:eM) (h i:Int) (t:ai):eM:=⟨r.ar,r.bg,r.cm,r.kY,Sl r.aB h i t⟩
@[simp] theorem O3 {r:eM} {h i:Int} {t:ai}:(M8 r h i t).ar=r.ar:=rfl
@[simp] theorem Ou {r:eM} {h i:Int} {t:ai}:(M8 r h i t).bg=r.bg:=rfl
@[simp] theorem O2 {r:eM} {h i:Int} {t:ai}:(M8 r h i t).cm=r.cm:=rfl
section
variable {r:eM} {h i:Int} {t:ai} {ht:List aw} {d:aw}
end
section
variable {E:fI} {Q:dw} {D:List Deferred} {L:List (Nat×Value)} {C C1:List aA} {c:Code}
variable {H:List (List aw)} {hz:List cU} {h h':List aw} {a a':cU} {k:Nat} {bs:List RA} {i:Nat} {d d':aw} {b:RA}
end
end
section
open Go.RowKit
theorem oY (n lo hi:Int):
 dF Tryz.prog 182 [(vI n),(vI lo),(vI hi)] [] (vB (decide (lo≤n∧n≤hi))):=by
 refine bE kr Tryz.func182 U U fun D Q hQ hN=>?_
 try dsimp only
 refine WS fun _ B=>bx 1 U<|RK B<|WS fun _ A=>rP 4 [] mn ?_
 refine bP (t:=10) U (aT fun C=>?_) (aS fun C=>?_)
 ·refine rP 5 [] mn ?_
  refine RK A<|ao<|Q1 hQ U U U ?_
  exact cB (gR.2 I)
 refine rP 5 [] mn ?_
 refine RK A<|ao<|Q1 hQ U U U ?_
 exact cB (aY I).symm
theorem pw (s:ai) (lo hi:Int):
 dF Tryz.prog 183 [(vA (ai.cells s)),(vI lo),(vI hi)] [] (vB (decide (s.Lo≤s.Hi∧lo≤s.Lo∧s.Hi≤hi))):=by
 refine bE kr Tryz.func183 U U fun E Q hQ hN=>?_
 try dsimp only
 refine WS fun _ B=>ed U fun D=>bx 1 U<|RK B<|WS fun _ A=>er 5 [] (mc 0 U mn) U<|rS (CL (oY s.Lo lo s.Hi) (aR) U)<|rP 1 [] mn ?_
 refine db (t:=13) U (aS fun C=>?_) (aT fun C=>?_)
 ·refine rP 6 [] mn ?_
  refine RK A<|ao<|Q1 hQ U U U ?_
  exact cB (aY I).symm
 refine rP 6 [] (mc 0 U mn) ?_
 refine RK A<|ao<|Q1 hQ U U U ?_
 exact cB (gR.2 I)
theorem Kv (t:List aq) (tA:OA) (tC:Nat):
 dF Tryz.prog 117 [(vA (bR.cells (bR.mk (bK.mk tA t.length tC))))] [(rd tA t.length 9 (t.map aq.cells))] (vB (decide (20<(t.length:Int)))):=by
 refine bE kr Tryz.func117 U U fun D Q hQ hN=>?_
 try dsimp only
 refine WS fun _ A=>ed U fun C=>bx 1 U<|RK A<|WS fun _ B=>rP 5 [] (mc 0 U mn) ?_
 refine RK B<|ao ?_
 exact Q1 hQ U U U U
theorem Lc (l:List Int) (lA:OA) (lC:Nat) (f:Value) (p:Int→Bool) (X:aA) (hf: ∀ x0,x0∈l→Ef Tryz.prog f [.int .i64 x0] [X] (.bool (p x0))) (hlen:l.length≤1000000):
 dF Tryz.prog 119 [(vS lA l.length lC),f] [(rd lA l.length 1 (l.map iC)),X] (vI (rW p l)):=by
 refine bE kr Tryz.func119 U U fun R Q hQ hN=>?_
 try dsimp only
 refine WS fun _ G=>bx 1 U<|RK G<|ak fun _ H=>WS fun _ AA=>rP 3 [] mn ?_
 refine RK AA<|aC ?_
 have B:(0≤l.length)∧((l.take 0).any p=false):=by simp
 refine bQ (ι:={z:Nat // (z≤l.length)∧((l.take z).any p=false)}) [0,1,7] [0,1] U U (fun z=>[(8,(vI (z.1:Int)))]) (fun z=>[]) (fun _=>rfl) (fun _=>rfl) (fun z=>l.length-z.1) ⟨0,B⟩ (bu U) (aN [0,1]) ?_
 clear B
 rintro ⟨i,⟨N,A⟩⟩ J4 F
 try dsimp only
 refine WS fun _ J=>rP 1 [] mn ?_
 refine RK J<|ak fun _ K=>bO U (aS fun P=>?_) (aT fun P=>?_)
 ·refine bM<|ag<|ag<|aG<|KK H<|WS fun _ E=>rP 1 [] mn ?_
  refine RK E<|ao<|Q1 hQ U U U ?_
  exact cI (pG I A).symm
 refine WK K<|ak fun _ L=>aC<|WS fun _ M=>bx 2 U<|RK M<|WS fun _ C=>rP 3 [] mn ?_
 obtain ⟨x,hx⟩:=aF l i I
 have O:=bJ iC hx
 refine rS (IA i U (ax 0 U) dJ dc I I)<|rS (h_ i 0 (vI x) U bX (ax 0 U) O U dc U)<|rS (SX (qO U U U (hf x (aP hx)) (br [1])) U U)<|RK C<|cr U (fun hp=>?_) (fun hp=>?_)
 ·refine WS fun _ D=>rP 2 [] mn ?_
  refine RK D<|ao<|Q1 hQ U U U ?_
  exact cI (tJ hx hp A).symm
 refine cp<|aK<|KK L<|au<|rP 2 [] mn ?_
 refine aD ?_
 refine bj (F ⟨(i+1),⟨I,tp hx A hp⟩⟩ _ _ _ U os (bu U) (aN [0,1]))
theorem pY (l:List Int) (lA:OA) (lC:Nat) (f:Value) (p:Int→Bool) (X:aA) (hf: ∀ x0,x0∈l→Ef Tryz.prog f [.int .i64 x0] [X] (.bool (p x0))) (hlen:l.length≤1000000):
 dF Tryz.prog 86 [(vS lA l.length lC),f] [(rd lA l.length 1 (l.map iC)),X] (vB (l.any p)):=by
 refine bE kr Tryz.func86 U U fun C Q hQ hN=>?_
 try dsimp only
 refine WS fun _ A=>bx 1 U<|RK A<|WS fun _ B=>bx 2 U<|rS (CL (Lc l lA lC f p X (by exact hf) hlen) (br [0,1]) U)<|rP 2 [] mn ?_
 refine RK B<|ao<|Q1 hQ U U U ?_
 exact cB q9
theorem Gi (n lo hi:Int) (g1 g2:Nat):
 dF Tryz.prog 190 [(vI n),(vP g1),(vP g2)] [(cy g1 3 [(vI lo)]),(cy g2 3 [(vI hi)])] (vB (decide (n<lo∨hi<n))):=by
 refine bE kr Tryz.func190 U U fun D Q hQ hN=>?_
 try dsimp only
 refine WS fun _ B=>bx 1 U<|RK B<|WS fun _ A=>rP 4 [] (mr 0 U mn) ?_
 refine bP (t:=8) U (aT fun C=>?_) (aS fun C=>?_)
 ·refine rP 5 [] mn ?_
  refine RK A<|ao<|Q1 hQ U U U ?_
  exact cB (cJ I).symm
 refine rP 5 [] (mr 1 U mn) ?_
 refine RK A<|ao<|Q1 hQ U U U ?_
 exact cB (gR.2 I)
theorem oO (lo hi:Int) (l:List Int) (lA:OA) (lC:Nat) (hlen:l.length≤1000000):
 dF Tryz.prog 154 [(vI lo),(vI hi),(vS lA l.length lC)] [(rd lA l.length 1 (l.map iC))] (vB (qb lo hi l)):=by
 refine bE kr Tryz.func154 U U fun F Q hQ hN=>?_
 try dsimp only
 refine WS fun _ D=>xJ U U fun A=>xJ U U fun B=>bx 1 U<|RK D<|WS fun _ E=>rP 1 [] mn ?_
 refine rS (FU U) ?_
 refine rS (CL (pY l lA lC (Value.func (.func 190) [].toArray [(vP A),(vP B)].toArray) (fun C=>(decide (C<lo∨hi<C))) (dL [(cy A 3 [(vI lo)]),(cy B 3 [(vI hi)])]) (by intro C _; exact mN (fi:=[]) (ca:=[(vP A),(vP B)]) (lD (Gi C lo hi A B) (br [0,1]))) hlen) (gu 2 U U<|aQ (lH (br [1,0]))<|aR) U) ?_
 refine rP 2 [] mn ?_
 refine RK E<|ao ?_
 exact Q1 hQ U U U U
theorem we (s:ai) (lo hi:Int):
 dF Tryz.prog 155 [(vA (ai.cells s)),(vI lo),(vI hi)] [] (vB (decide (s.Lo≤s.Hi∧lo≤s.Lo∧s.Hi≤hi))):=by
 refine bE kr Tryz.func155 U U fun F Q hQ hN=>?_
 try dsimp only
 refine WS fun _ B=>ed U fun E=>bx 1 U<|RK B<|WS fun _ A=>rP 6 [] (mc 0 U mn) ?_
 refine eP (xs:=[.tmp 10,.tmp 12]) (cs:=[(vI s.Lo),(vI s.Hi)]) U dJ kJ U U U U (by simp [Value.cells]) U U fun C=>?_
 refine rS (CL (dF.eq (oO lo hi ([s.Lo,s.Hi]) (some ⟨C,0,none⟩) 2 (by (simp; done))) o3) (aQ (bq 0 U U (by simp [bU]) U)<|aR) U) ?_
 refine rP 1 [] mn ?_
 refine db (t:=15) U (aS fun D=>?_) (aT fun D=>?_)
 ·refine rP 7 [] mn ?_
  refine RK A<|ao<|Q1 hQ U U U ?_
  exact cB (aY I).symm
 refine rP 7 [] (mc 1 U mn) ?_
 refine RK A<|ao<|Q1 hQ U U U ?_
 exact cB (gR.2 I)
theorem wc (ts:List aq) (tsA:OA) (tsC:Nat) (hlen:ts.length≤1000000):
 dF Tryz.prog 150 [(vA (bR.cells (bR.mk (bK.mk tsA ts.length tsC))))] [(rd tsA ts.length 9 (ts.map aq.cells))] (vB (dv ts)):=by
 refine bE kr Tryz.func150 U U fun w0 Q hQ hN=>?_
 try dsimp only
 refine WS fun _ DW=>ed U fun b2=>bx 1 U<|RK DW<|ak fun _ Di=>WS fun _ Do=>er 3 [] (mc 0 U mn) U<|rS (CL (oY (ts.length:Int) 1 12) (aR) U)<|rP 1 [] mn ?_
 refine RK Do<|cr U (aW fun h5=>?_) (aV fun h5=>?_)
 ·refine WS fun _ EQ=>rP 1 [] mn ?_
  refine RK EQ<|ao<|Q1 hQ U U U ?_
  exact cB (oi I).symm
 refine WK Di<|ak fun _ Eq=>WS fun _ FP=>rP 1 [] mn ?_
 refine RK FP<|aC ?_
 have E:(0≤ts.length)∧(eQ (-1) ts=eQ (gD ts 0) (ts.drop 0))∧(-1≤gD ts 0):=by (refine ⟨I,rfl,by simp [gD]⟩)
 refine bQ (ι:={z:Nat // (z≤ts.length)∧(eQ (-1) ts=eQ (gD ts z) (ts.drop z))∧(-1≤gD ts z)}) [1] [0,1] U U (fun z=>[(3,(vI (z.1:Int)))]) (fun z=>[]) (fun _=>rfl) (fun _=>rfl) (fun z=>ts.length-z.1) ⟨0,E⟩ (bu U) (aN [0,1]) ?_
 clear E
 rintro ⟨i,⟨FS,A,Fd⟩⟩ J9 D
 try dsimp only
 have hz:i=0→gD ts i= -1:=BY
 refine ak fun _ K=>WS fun _ L=>rP 5 [] (mc 0 U mn) ?_
 refine RK L<|bO U (aS fun v=>?_) (aT fun v=>?_)
 ·refine bM<|ag<|ag<|aG<|KK Eq<|WS fun _ u=>rP 1 [] mn ?_
  refine RK u<|ao<|Q1 hQ U U U ?_
  exact cB (vG A I I).symm
 refine WK K<|ak fun _ C=>aC<|WS fun _ M=>rP 3 [] (mc 0 U mn) ?_
 obtain ⟨x,hx⟩:=aF ts i I
 have Fn:=bJ aq.cells hx
 refine rS (IA i U (ax 1 U) wF dc I I)<|rS (jL i 0 (aq.cells x) U bX (ax 1 U) Fn U dc U U)<|AL U IW fun GT=>fj U Hm U<|RK M<|ak fun _ F=>ak fun _ B=>cW ck 38 kr<|kv 2 [] (mc 0 U mn) U<|dS (CL (oY x.Id 0 9999) (aR) U)<|dP 2 [] mn ?_
 refine g9 (t:=26) U (aW fun w=>?_) (aV fun w=>?_)
 ·refine kx 11 U<|kx 22 U<|cw<|RK B<|aI U<|WS fun _ N=>rP 1 [] mn ?_
  refine RK N<|ao<|Q1 hQ U U U ?_
  exact cB (dZ A hx (by simp only [bV,eg]; omega)).symm
 refine dP 3 [] mn ?_
 refine g0 (t:=29) U (aS fun AC=>?_) (aT fun AC=>?_)
 ·refine kx 8 U<|kx 6 U<|dS (LP (ai.cells x.jP) 0 U bX U U U)<|dS (CL (pw x.jP 1 30000) (aR) U)<|dP 3 [] mn ?_
  refine g9 (t:=48) U (aW fun B3=>?_) (aV fun B3=>?_)
  ·refine kx 11 U<|cw<|RK B<|aI U<|WS fun _ e=>rP 1 [] mn ?_
   refine RK e<|ao<|Q1 hQ U U U ?_
   exact cB (dZ A hx (by simp only [bV,eg]; omega)).symm
  refine kx 1 U<|dS (LP (ai.cells x.kI) 0 U bX U U U)<|dS (CL (pw x.kI 0 5000) (aR) U)<|dP 3 [] mn ?_
  refine g9 (t:=54) U (aW fun B9=>?_) (aV fun B9=>?_)
  ·refine kx 5 U<|cw<|RK B<|aI U<|WS fun _ f=>rP 1 [] mn ?_
   refine RK f<|ao<|Q1 hQ U U U ?_
   exact cB (dZ A hx (by simp only [bV,eg]; omega)).symm
  refine kv 2 [] (mc 0 U mn) U<|dS (CL (oY x.xZ 0 5000) (aR) U)<|dP 2 [] mn ?_
  refine cw<|RK B<|cr U (aW fun Ci=>?_) (aV fun Ci=>?_)
  ·refine WS fun _ g=>rP 1 [] mn ?_
   refine RK g<|ao<|Q1 hQ U U U ?_
   exact cB (dZ A hx (by simp only [bV,eg]; omega)).symm
  refine WK F<|WS fun _ h=>er 2 [] (mc 0 U mn) U<|RK h<|aC<|WS fun _ j=>rS (BI U jW)<|rP 1 [] mn ?_
  refine RK j<|cr U (aT fun Ck=>?_) (aS fun Ck=>?_)
  ·refine WS fun _ AB=>rP 5 [] (mc 0 U mn) ?_
   refine bP (t:=68) U (aW fun Cp=>?_) (aV fun Cp=>?_)
   ·refine bx 5 U<|RK AB<|aI U<|WS fun _ k=>rP 1 [] mn ?_
    refine RK k<|ao<|Q1 hQ U U U ?_
    exact cB (dZ A hx (by simp only [bV,eg]; omega)).symm
   refine rP 5 [] (mc 0 U mn) ?_
   refine RK AB<|bO U (aV fun Cx=>?_) (aW fun Cx=>?_)
   ·refine cp<|aK<|aK<|KK C<|au<|rP 3 [] mn ?_
    refine aD ?_
    refine bj (D ⟨(i+1),⟨I,hU A hx (by simp only [bV,eg]; omega),by rw [gn hx]; omega⟩⟩ _ _ _ U os (bu U) (aN [1,2]))
   refine WS fun _ l=>rP 1 [] mn ?_
   refine RK l<|ao<|Q1 hQ U U U ?_
   exact cB (dZ A hx (by simp only [bV,eg]; omega)).symm
  refine ak fun _ J=>WS fun _ m=>rS (BI U jW)<|rP 1 [] mn ?_
  refine RK m<|cr U (aT fun C0=>?_) (aS fun C0=>?_)
  ·refine WK J<|bO U (aS fun C1=>?_) (aT fun C1=>?_)
   ·refine WS fun _ p=>rP 1 [] mn ?_
    refine RK p<|ao<|Q1 hQ U U U ?_
    exact cB (oi I).symm
   refine WS fun _ n=>bx 1 U<|rS (LP (ai.cells x.dY) 0 U bX U U U)<|rS (CL (pw x.dY 500 20000) (aR) U)<|rP 1 [] mn ?_
   refine RK n<|bO U (aV fun C2=>?_) (aW fun C2=>?_)
   ·refine cp<|aK<|aK<|KK C<|au<|rP 3 [] mn ?_
    refine aD ?_
    refine bj (D ⟨(i+1),⟨I,hU A hx (by simp only [bV,eg]; omega),by rw [gn hx]; omega⟩⟩ _ _ _ U os (bu U) (aN [1,2]))
   refine WS fun _ o=>rP 1 [] mn ?_
   refine RK o<|ao<|Q1 hQ U U U ?_
   exact cB (dZ A hx (by simp only [bV,eg]; omega)).symm
  refine au<|rS (BI U jW)<|rP 1 [] mn ?_
  refine RK J<|bO U (aS fun C3=>?_) (aT fun C3=>?_)
  ·refine WS fun _ s=>rP 1 [] mn ?_
   refine RK s<|ao<|Q1 hQ U U U ?_
   exact cB (dZ A hx (by simp only [bV,eg]; omega)).symm
  refine WS fun _ q=>bx 1 U<|rS (LP (ai.cells x.dY) 0 U bX U U U)<|rS (CL (pw x.dY 500 20000) (aR) U)<|rP 1 [] mn ?_
  refine RK q<|bO U (aV fun DE=>?_) (aW fun DE=>?_)
  ·refine cp<|aK<|aK<|KK C<|au<|rP 3 [] mn ?_
   refine aD ?_
   refine bj (D ⟨(i+1),⟨I,hU A hx (by simp only [bV,eg]; omega),by rw [gn hx]; omega⟩⟩ _ _ _ U os (bu U) (aN [1,2]))
  refine WS fun _ r=>rP 1 [] mn ?_
  refine RK r<|ao<|Q1 hQ U U U ?_
  exact cB (dZ A hx (by simp only [bV,eg]; omega)).symm
 refine dP 6 [0,1] (mc 0 U (mc 1 U mn)) ?_
 obtain ⟨y,hy⟩:=aF ts (i-1) I
 have GE:=bJ aq.cells hy
 refine dS (IA (i-1) U (ax 2 U) wF dc I I)<|dS (oL ((i-1)*9) U (ax 2 U) (Nat.mul_pos I dc) eV U) ?_
 have Go:=Dl I hy
 refine dS (h_ (i-1) 0 (vI y.Id) U bX (ax 2 U) GE U dc U)<|dP 4 [] mn ?_
 refine g9 (t:=42) U (aT fun AO=>?_) (aS fun AO=>?_)
 ·refine kx 17 U<|cw<|RK B<|aI U<|WS fun _ O=>rP 1 [] mn ?_
  refine RK O<|ao<|Q1 hQ U U U ?_
  exact cB (dZ A hx (by simp only [bV,eg]; omega)).symm
 refine kx 1 U<|dS (LP (ai.cells x.jP) 0 U bX U U U)<|dS (CL (pw x.jP 1 30000) (aR) U)<|dP 3 [] mn ?_
 refine g9 (t:=48) U (aW fun A0=>?_) (aV fun A0=>?_)
 ·refine kx 11 U<|cw<|RK B<|aI U<|WS fun _ P=>rP 1 [] mn ?_
  refine RK P<|ao<|Q1 hQ U U U ?_
  exact cB (dZ A hx (by simp only [bV,eg]; omega)).symm
 refine kx 1 U<|dS (LP (ai.cells x.kI) 0 U bX U U U)<|dS (CL (pw x.kI 0 5000) (aR) U)<|dP 3 [] mn ?_
 refine g9 (t:=54) U (aW fun A1=>?_) (aV fun A1=>?_)
 ·refine kx 5 U<|cw<|RK B<|aI U<|WS fun _ R=>rP 1 [] mn ?_
  refine RK R<|ao<|Q1 hQ U U U ?_
  exact cB (dZ A hx (by simp only [bV,eg]; omega)).symm
 refine kv 2 [] (mc 0 U mn) U<|dS (CL (oY x.xZ 0 5000) (aR) U)<|dP 2 [] mn ?_
 refine cw<|RK B<|cr U (aW fun A2=>?_) (aV fun A2=>?_)
 ·refine WS fun _ S=>rP 1 [] mn ?_
  refine RK S<|ao<|Q1 hQ U U U ?_
  exact cB (dZ A hx (by simp only [bV,eg]; omega)).symm
 refine WK F<|WS fun _ T=>er 2 [] (mc 0 U mn) U<|RK T<|aC<|WS fun _ AA=>rS (BI U jW)<|rP 1 [] mn ?_
 refine RK AA<|cr U (aT fun A3=>?_) (aS fun A3=>?_)
 ·refine WS fun _ G=>rP 5 [] (mc 0 U mn) ?_
  refine bP (t:=68) U (aW fun A4=>?_) (aV fun A4=>?_)
  ·refine bx 5 U<|RK G<|aI U<|WS fun _ V=>rP 1 [] mn ?_
   refine RK V<|ao<|Q1 hQ U U U ?_
   exact cB (dZ A hx (by simp only [bV,eg]; omega)).symm
  refine rP 5 [] (mc 0 U mn) ?_
  refine RK G<|bO U (aV fun A5=>?_) (aW fun A5=>?_)
  ·refine cp<|aK<|aK<|KK C<|au<|rP 3 [] mn ?_
   refine aD ?_
   refine bj (D ⟨(i+1),⟨I,hU A hx (by simp only [bV,eg]; omega),by rw [gn hx]; omega⟩⟩ _ _ _ U os (bu U) (aN [1,2]))
  refine WS fun _ W=>rP 1 [] mn ?_
  refine RK W<|ao<|Q1 hQ U U U ?_
  exact cB (dZ A hx (by simp only [bV,eg]; omega)).symm
 refine ak fun _ H=>WS fun _ X=>rS (BI U jW)<|rP 1 [] mn ?_
 refine RK X<|cr U (aT fun A6=>?_) (aS fun A6=>?_)
 ·refine WK H<|bO U (aS fun A7=>?_) (aT fun A7=>?_)
  ·refine WS fun _ a=>rP 1 [] mn ?_
   refine RK a<|ao<|Q1 hQ U U U ?_
   exact cB (oi I).symm
  refine WS fun _ Y=>bx 1 U<|rS (LP (ai.cells x.dY) 0 U bX U U U)<|rS (CL (pw x.dY 500 20000) (aR) U)<|rP 1 [] mn ?_
  refine RK Y<|bO U (aV fun A8=>?_) (aW fun A8=>?_)
  ·refine cp<|aK<|aK<|KK C<|au<|rP 3 [] mn ?_
   refine aD ?_
   refine bj (D ⟨(i+1),⟨I,hU A hx (by simp only [bV,eg]; omega),by rw [gn hx]; omega⟩⟩ _ _ _ U os (bu U) (aN [1,2]))
  refine WS fun _ Z=>rP 1 [] mn ?_
  refine RK Z<|ao<|Q1 hQ U U U ?_
  exact cB (dZ A hx (by simp only [bV,eg]; omega)).symm
 refine au<|rS (BI U jW)<|rP 1 [] mn ?_
 refine RK H<|bO U (aS fun A9=>?_) (aT fun A9=>?_)
 ·refine WS fun _ d=>rP 1 [] mn ?_
  refine RK d<|ao<|Q1 hQ U U U ?_
  exact cB (dZ A hx (by simp only [bV,eg]; omega)).symm
 refine WS fun _ b=>bx 1 U<|rS (LP (ai.cells x.dY) 0 U bX U U U)<|rS (CL (pw x.dY 500 20000) (aR) U)<|rP 1 [] mn ?_
 refine RK b<|bO U (aV fun Bv=>?_) (aW fun Bv=>?_)
 ·refine cp<|aK<|aK<|KK C<|au<|rP 3 [] mn ?_
  refine aD ?_
  refine bj (D ⟨(i+1),⟨I,hU A hx (by simp only [bV,eg]; omega),by rw [gn hx]; omega⟩⟩ _ _ _ U os (bu U) (aN [1,2]))
 refine WS fun _ c=>rP 1 [] mn ?_
 refine RK c<|ao<|Q1 hQ U U U ?_
 exact cB (dZ A hx (by simp only [bV,eg]; omega)).symm
theorem AX (ts:List aq) (tsA:OA) (tsC:Nat) (hlen:ts.length≤1000000) (hside: ∀ x∈ts,0≤x.iW∧x.iW≤255):
 dF Tryz.prog 133 [(vA (bR.cells (bR.mk (bK.mk tsA ts.length tsC))))] [(rd tsA ts.length 9 (ts.map aq.cells))] (vI (if dv ts=true then 0 else 10)):=by
 refine bE kr Tryz.func133 U U fun w0 Q hQ hN=>?_
 try dsimp only
 refine WS fun _ v=>ed U fun b2=>bx 1 U<|RK v<|zj U<|ak fun _ w=>WS fun _ y=>rP 3 [] (mc 0 U mn) ?_
 refine eP (xs:=[.tmp 11]) (cs:=[(vI (ts.length:Int))]) U dJ kJ U U U U (by simp [Value.cells]) U U fun b5=>?_
 refine rS (CL (dF.eq (oO 1 12 ([(ts.length:Int)]) (some ⟨b5,0,none⟩) 1 (by (simp; done))) cD) (aQ (bq 0 U U (by simp [bU]) U)<|aR) U) ?_
 refine rP 1 [] mn ?_
 refine RK y<|cr U (aW fun h6=>?_) (aV fun h6=>?_)
 ·refine WS fun _ AC=>rP 1 [] mn ?_
  refine RK AC<|ao<|Q1 hQ U U U ?_
  exact cI (if_neg (by rw [oi I]; decide)).symm
 refine WK w<|WS fun _ AO=>bx 1 U<|RK AO<|WS fun _ A0=>bx 1 U<|RK A0<|ak fun _ J=>zW<|KK J<|ak fun _ B=>WS fun _ K=>rP 4 [] (mc 1 U mn) ?_
 refine RK K<|aC ?_
 have D:(0≤ts.length)∧(eQ (-1) ts=eQ (gD ts 0) (ts.drop 0))∧(-1≤gD ts 0)∧(gD ts 0≤9999):=by (refine ⟨I,rfl,by simp [gD],by simp [gD]⟩)
 refine bQ (ι:={z:Nat // (z≤ts.length)∧(eQ (-1) ts=eQ (gD ts z) (ts.drop z))∧(-1≤gD ts z)∧(gD ts z≤9999)}) [1,4,16,17] [1,2] U U (fun z=>[(3,(vI (gD ts z.1))),(18,(vI (z.1:Int)))]) (fun z=>[]) (fun _=>rfl) (fun _=>rfl) (fun z=>ts.length-z.1) ⟨0,D⟩ (bu U) (aN [1,2]) ?_
 clear D
 rintro ⟨i,⟨A1,A,A2,A3⟩⟩ J13 E
 try dsimp only
 refine WS fun _ L=>rP 1 [] mn ?_
 refine RK L<|ak fun _ M=>bO U (aS fun k=>?_) (aT fun k=>?_)
 ·refine bM<|ag<|ag<|aG<|KK B<|WS fun _ O=>rP 2 [] mn ?_
  refine RK O<|ao<|Q1 hQ U U U ?_
  exact cI (if_pos (vG A I I)).symm
 refine WK M<|ak fun _ F=>aC<|WS fun _ N=>?_
 obtain ⟨x,hx⟩:=aF ts i I
 have A4:=bJ aq.cells hx
 refine rS (IA i U (ax 1 U) wF dc I I) ?_
 have A8:=hside x (aP hx)
 refine rS (jL i 0 (aq.cells x) U bX (ax 1 U) A4 U dc U U)<|AL U IW fun A5=>fj U Hm U<|RK N ?_
 refine oa (ι:=Unit) [1,3,4,6,16,17,18] [0,1,2] U U (fun z=>[(7,(vB (decide (x.iW=0∧x.dY.Lo=0∧x.dY.Hi=0))))]) (fun z=>[]) (fun _=>rfl) (fun _=>rfl) ?_ fun K20 G=>?_
 ·intro _
  try dsimp only
  refine oa (ι:=Unit) [1,3,4,6,7,16,17,18] [0,1,2] U U (fun z=>[(8,(vB (decide ((1≤x.iW∧x.iW≤2)∧x.dY.Lo≤x.dY.Hi∧500≤x.dY.Lo∧x.dY.Hi≤20000))))]) (fun z=>[]) (fun _=>rfl) (fun _=>rfl) ?_ fun K21 H=>?_
  ·intro _
   try dsimp only
   refine ak fun _ AB=>WS fun _ C=>rP 4 [] (mc 0 U mn) ?_
   refine eP (xs:=[.tmp 44]) (cs:=[(vI x.Id)]) U dJ kJ U U U U (by simp [Value.cells]) U U fun h=>?_
   refine rS (CL (dF.eq (oO ((gD ts i)+1) 9999 ([x.Id]) (some ⟨h,0,none⟩) 1 (by (simp; done))) cD) (aQ (bq 0 U U (by simp [bU]) U)<|aR) U) ?_
   refine rP 2 [] mn ?_
   refine bP (t:=48) U (aW fun o=>?_) (aV fun o=>?_)
   ·refine bx 26 U<|RK C<|aI U<|WS fun _ P=>bx 1 U<|RK P<|bM<|ag<|fB U<|ag<|ag<|aG<|KK B<|WS fun _ R=>rP 2 [] mn ?_
    refine RK R<|ao<|Q1 hQ U U U ?_
    exact cI (if_neg (by rw [dZ A hx (by simp only [bV,eg]; omega)]; decide)).symm
   refine bx 1 U<|rS (LP (ai.cells x.jP) 1 U bX U U U)<|rS (CL (we x.jP 1 30000) (aR) U)<|rP 3 [] mn ?_
   refine bP (t:=54) U (aW fun p=>?_) (aV fun p=>?_)
   ·refine bx 20 U<|RK C<|aI U<|WS fun _ S=>bx 1 U<|RK S<|bM<|ag<|fB U<|ag<|ag<|aG<|KK B<|WS fun _ T=>rP 2 [] mn ?_
    refine RK T<|ao<|Q1 hQ U U U ?_
    exact cI (if_neg (by rw [dZ A hx (by simp only [bV,eg]; omega)]; decide)).symm
   refine bx 1 U<|rS (LP (ai.cells x.kI) 1 U bX U U U)<|rS (CL (we x.kI 0 5000) (aR) U)<|rP 3 [] mn ?_
   refine bP (t:=60) U (aW fun q=>?_) (aV fun q=>?_)
   ·refine bx 14 U<|RK C<|aI U<|WS fun _ AA=>bx 1 U<|RK AA<|bM<|ag<|fB U<|ag<|ag<|aG<|KK B<|WS fun _ V=>rP 2 [] mn ?_
    refine RK V<|ao<|Q1 hQ U U U ?_
    exact cI (if_neg (by rw [dZ A hx (by simp only [bV,eg]; omega)]; decide)).symm
   refine rP 2 [] (mc 1 U mn) ?_
   refine eP (xs:=[.tmp 62]) (cs:=[(vI x.xZ)]) U dJ kJ U U U U (by simp [Value.cells]) U U fun j=>?_
   refine rS (CL (dF.eq (oO 0 5000 ([x.xZ]) (some ⟨j,0,none⟩) 1 (by (simp; done))) cD) (aQ (bq 0 U U (by simp [bU]) U)<|aR) U) ?_
   refine rP 3 [] mn ?_
   refine bP (t:=67) U (aW fun r=>?_) (aV fun r=>?_)
   ·refine bx 7 U<|RK C<|aI U<|WS fun _ W=>bx 1 U<|RK W<|bM<|ag<|fB U<|ag<|ag<|aG<|KK B<|WS fun _ X=>rP 2 [] mn ?_
    refine RK X<|ao<|Q1 hQ U U U ?_
    exact cI (if_neg (by rw [dZ A hx (by simp only [bV,eg]; omega)]; decide)).symm
   refine rP 3 [] mn ?_
   refine db (t:=70) U (aV fun s=>?_) (aW fun s=>?_)
   ·refine bx 4 U<|RK C<|bT U<|WK AB<|au<|er 3 [] (mc 2 U mn) U<|aD<|aK<|KK F<|au<|rP 2 [] mn ?_
    refine aD ?_
    have f:(vI (gD ts (i+1)))=(vI x.Id):=by rw [gn hx]
    refine bj (E ⟨(i+1),⟨I,hU A hx (by simp only [bV,eg]; omega),by rw [gn hx]; omega,by rw [gn hx]; omega⟩⟩ _ _ _ U os (cN 4<|a_ U f<|bu U) (aN [3,4]))
   refine rP 4 [] mn ?_
   refine RK C<|bO U (aV fun u=>?_) (aW fun u=>?_)
   ·refine WK AB<|au<|er 3 [] (mc 2 U mn) U<|aD<|aK<|KK F<|au<|rP 2 [] mn ?_
    refine aD ?_
    have e:(vI (gD ts (i+1)))=(vI x.Id):=by rw [gn hx]
    refine bj (E ⟨(i+1),⟨I,hU A hx (by simp only [bV,eg]; omega),by rw [gn hx]; omega,by rw [gn hx]; omega⟩⟩ _ _ _ U os (cN 4<|a_ U e<|bu U) (aN [3,4]))
   refine WS fun _ Y=>bx 1 U<|RK Y<|bM<|ag<|fB U<|ag<|ag<|aG<|KK B<|WS fun _ Z=>rP 2 [] mn ?_
   refine RK Z<|ao<|Q1 hQ U U U ?_
   exact cI (if_neg (by rw [dZ A hx (by simp only [bV,eg]; omega)]; decide)).symm
  refine au<|rP 2 [] (mc 0 U mn) ?_
  refine rS (SX (rH (m:=x.iW) U U MB nX (oh (by first|assumption|omega))) U U)<|eP (xs:=[.tmp 33]) (cs:=[(vI x.iW)]) U dJ kJ U U U U (by simp [Value.cells]) U U fun g=>?_
  refine rS (CL (dF.eq (oO 1 2 ([x.iW]) (some ⟨g,0,none⟩) 1 (by (simp; done))) cD) (aQ (bq 0 U U (by simp [bU]) U)<|aR) U) ?_
  refine rP 1 [] mn ?_
  refine db (t:=36) U (aS fun n=>?_) (aT fun n=>?_)
  ·refine rP 5 [] mn ?_
   refine aD ?_
   have d:(decide ((1≤x.iW∧x.iW≤2)∧x.dY.Lo≤x.dY.Hi∧500≤x.dY.Lo∧x.dY.Hi≤20000))=false:=aY I
   refine bj (jY (cN 8<|nu U d<|dh.nil _) (aN [1,2,3]) (H ()))
  refine bx 1 U<|rS (LP (ai.cells x.dY) 1 U bX U U U)<|rS (CL (we x.dY 500 20000) (aR) U)<|rP 2 [] mn ?_
  refine aD ?_
  have c:(decide ((1≤x.iW∧x.iW≤2)∧x.dY.Lo≤x.dY.Hi∧500≤x.dY.Lo∧x.dY.Hi≤20000))=(decide (x.dY.Lo≤x.dY.Hi∧500≤x.dY.Lo∧x.dY.Hi≤20000)):=gR.2 I
  refine bj (jY (cN 8<|nu U c<|dh.nil _) (aN [1,2,3]) (H ()))
 refine au<|er 2 [] (mc 0 U mn) U<|rS (BI U jW)<|rP 1 [] mn ?_
 refine db (t:=25) U (aS fun l=>?_) (aT fun l=>?_)
 ·refine rP 6 [] mn ?_
  refine aD ?_
  have b:(decide (x.iW=0∧x.dY.Lo=0∧x.dY.Hi=0))=false:=aY I
  refine bj (jY (cN 7<|nu U b<|dh.nil _) (aN [0,1,2]) (G ()))
 refine bx 1 U<|rS (LP (ai.cells x.dY) 0 U bX U U U)<|rS (SX (bG (xs:=[]) (cs:=(ai.cells (ai.mk 0 0))) U U (bH gU U)) U U)<|rS (BI U (vl _ _ x.dY (ai.mk 0 0)))<|rP 2 [] mn ?_
 refine aD ?_
 have a:(decide (x.iW=0∧x.dY.Lo=0∧x.dY.Hi=0))=(decide (x.dY=(ai.mk 0 0))):=gR.2 (by (simp only [ai.ext_iff] at *; omega))
 refine bj (jY (cN 7<|nu U a<|dh.nil _) (aN [0,1,2]) (G ()))
theorem M9 (ts:List aq) (tsA:OA) (tsC:Nat) (hlen:ts.length≤1000000):
 qf Tryz.prog 118 [(vA (bR.cells (bR.mk (bK.mk tsA ts.length tsC))))] [(rd tsA ts.length 9 (ts.map aq.cells))] (fun (x:(OA)×Nat)=>(vA (bR.cells (bR.mk (bK.mk x.1 ts.length x.2))))) (fun (x:(OA)×Nat)=>True) (fun (x:(OA)×Nat)=>[(own x.1 x.2 160 9 (ts.map aq.cells))]):=by
 refine fJ kr Tryz.func118 U U fun H Q hQ hN=>?_
 try dsimp only
 refine WS fun _ A=>ed U fun F=>AL U Tb fun G=>RK A<|WS fun _ B=>qe U wF U fun E=>rP 2 [] (mc 2 U mn) ?_
 refine iH (es:=(List.map aq.cells [])) (C':=[own (some ⟨E,0,none⟩) 0 160 9 (List.map aq.cells []),_,_,_]) 0 U sm U (by simp [maxLen]) U ?_
 refine dA (es2:=(List.map aq.cells ts)) (m':=ts.length) 0 U U U Tm U U sm (ax 3 U) (sO _) os (by first|(simp only [maxLen]; omega)|(simp [maxLen]; omega)) sm sm U fun C D=>?_
 try dsimp only
 refine rS (SX (bG (xs:=[(0,.tmp 6)]) (cs:=(bR.cells (bR.mk (bK.mk C ts.length D)))) U U (bH S8 U)) U U)<|pZ U Rv U<|RK B<|ao<|LX hQ (C,D) [0] [0] (mc 1 U mn) U U U U ?_
 trivial
theorem Nx (la:List aq) (laA:OA) (laC:Nat) (lb:List aq) (lbA:OA) (lbC:Nat) (h1:la.length≤1000000) (h2:lb.length≤1000000):
 dF Tryz.prog 111 [(vA (bR.cells (bR.mk (bK.mk laA la.length laC)))),(vA (bR.cells (bR.mk (bK.mk lbA lb.length lbC))))] [(rd laA la.length 9 (la.map aq.cells)),(rd lbA lb.length 9 (lb.map aq.cells))] (vB (decide (la=lb))):=by
 refine bE kr Tryz.func111 U U fun X Q hQ hN=>?_
 try dsimp only
 refine WS fun _ L=>ed U fun V=>ed U fun W=>bx 1 U<|RK L<|ak fun _ M=>WS fun _ N=>rP 7 [0,1] (mc 1 U (mc 0 U mn)) ?_
 refine RK N<|cr U (aW fun hl=>?_) (aV fun hl=>?_)
 ·refine WS fun _ O=>rP 1 [] mn ?_
  refine RK O<|ao<|Q1 hQ U U U ?_
  first|exact cB (aY (mB hx hy h)).symm|exact cB (cJ (cH I A I)).symm|exact cB (aY (fun e=>by subst e; omega)).symm
 refine WK M<|ak fun _ P=>WS fun _ R=>rP 1 [] mn ?_
 refine RK R<|aC ?_
 have B:(0≤la.length)∧(la.take 0=lb.take 0):=by simp
 refine bQ (ι:={z:Nat // (z≤la.length)∧(la.take z=lb.take z)}) [2,3] [0,1,2,3] U U (fun z=>[(5,(vI (z.1:Int)))]) (fun z=>[]) (fun _=>rfl) (fun _=>rfl) (fun z=>la.length-z.1) ⟨0,B⟩ (bu U) (aN [0,1,2,3]) ?_
 clear B
 rintro ⟨i,⟨S,A⟩⟩ J9 K
 try dsimp only
 refine ak fun _ C=>WS fun _ D=>rP 5 [] (mc 1 U mn) ?_
 refine RK D<|bO U (aS fun J=>?_) (aT fun J=>?_)
 ·refine bM<|ag<|ag<|aG<|KK P<|WS fun _ H=>rP 1 [] mn ?_
  refine RK H<|ao<|Q1 hQ U U U ?_
  first|exact cB (aY (mB hx hy h)).symm|exact cB (cJ (cH I A I)).symm|exact cB (aY (fun e=>by subst e; omega)).symm
 refine WK C<|ak fun _ E=>aC<|ak fun _ F=>cW ck 11 kr<|dP 3 [] (mc 1 U mn) ?_
 obtain ⟨x,hx⟩:=aF la i I
 have T:=bJ aq.cells hx
 refine dS (IA i U (ax 2 U) wF dc I I)<|dS (jL i 0 (aq.cells x) U bX (ax 2 U) T U dc U U)<|dP 3 [] (mc 0 U mn) ?_
 obtain ⟨y,hy⟩:=aF lb i I
 have AA:=bJ aq.cells hy
 refine dS (IA i U (ax 3 U) wF dc I I)<|dS (jL i 0 (aq.cells y) U bX (ax 3 U) AA U dc U U)<|dS (BI U (Oi _ _ x y))<|cw<|RK F<|cr U (aW fun h=>?_) (aV fun h=>?_)
 ·refine WS fun _ G=>rP 1 [] mn ?_
  refine RK G<|ao<|Q1 hQ U U U ?_
  first|exact cB (aY (mB hx hy h)).symm|exact cB (cJ (cH I A I)).symm|exact cB (aY (fun e=>by subst e; omega)).symm
 refine cp<|aK<|KK E<|au<|rP 3 [] mn ?_
 refine aD ?_
 have AB:(vI (((i+1):Nat):Int))=(vI ((i:Int)+1)):=by exact cI I
 refine bj (K ⟨(i+1),⟨I,iG A hx hy h⟩⟩ _ _ _ U os (dh.cons U<|dh.cons U<|a_ U AB<|dh.nil _) (aN [0,1,2,3]))
end
section
open Go.RowKit
theorem K2 (l:bo) (kA:OA) (kC:Nat) (az:List RA) (cA:OA) (cC:Nat) (bA:OA) (bC:Nat) (hin:d_ l az) (hng: ¬ ld l):
 qf Tryz.prog 85 [(vA (cu.cells (jr l kA kC cA cC bA bC)))] [(rd kA l.aO.length 9 (l.aO.map aq.cells)),(rd cA l.aj.length 2 (List.zipWith av.cells l.aj az)),(dL (bk av.fu l.aj az)),(rd bA l.ab.length 4 (l.ab.map bL.cells))] (fun (x:(OA)×Nat×(OA)×Nat×(List RA)×(OA)×Nat)=>(vA (cu.cells (cu.mk (bR.mk (bK.mk x.1 l.aO.length x.2.1)) l.ib (bK.mk x.2.2.1 l.aj.length x.2.2.2.1) (bK.mk x.2.2.2.2.2.1 l.ab.length x.2.2.2.2.2.2) l.b_ l.e9 l.dp)))) (fun (x:(OA)×Nat×(OA)×Nat×(List RA)×(OA)×Nat)=>x.2.2.2.2.1.length=l.aj.length∧tw l.aj x.2.2.2.2.1) (fun (x:(OA)×Nat×(OA)×Nat×(List RA)×(OA)×Nat)=>[(own x.1 x.2.1 160 9 (l.aO.map aq.cells)),(own x.2.2.1 x.2.2.2.1 165 2 (List.zipWith av.cells l.aj x.2.2.2.2.1)),(bS (bk av.owns l.aj x.2.2.2.2.1)),(own x.2.2.2.2.2.1 x.2.2.2.2.2.2 137 4 (l.ab.map bL.cells))]):=by
 have v:=hin.qm
 have u:=hin.qj
 have G:=hin.mq
 have t:=hin.qi
 have Z:=tD hng
 refine fJ SO Tryz.func85 U U fun w0 Q hQ hN=>?_
 try dsimp only
 refine WS fun _ p=>ed U fun b2=>AL U KD fun b3=>RK p<|WS fun _ q=>rP 1 [] mn ?_
 refine rS (LP (bR.cells (bR.mk (bK.mk kA l.aO.length kC))) 1 U QW U U U) ?_
 refine cX (M9 l.aO kA kC sd) (br [2]) U fun y w=>?_
 obtain ⟨c,d⟩:=y
 try dsimp only
 refine bx 1 U<|Tp (cu.cells (cu.mk (bR.mk (bK.mk c l.aO.length d)) l.ib (bK.mk cA l.aj.length cC) (bK.mk bA l.ab.length bC) l.b_ l.e9 l.dp)) U Rv U U<|RK q<|WS fun _ r=>qe U yk U fun e=>rP 2 [] (mc 3 U mn) ?_
 refine iH (es:=(List.map dG.cells [])) (C':=[own (some ⟨e,0,none⟩) 0 165 2 (List.map dG.cells []),_,_,_,_,_,_,_]) 0 U sm U (by simp [maxLen]) U ?_
 refine dA (es2:=(List.zipWith av.cells l.aj az)) (m':=l.aj.length) 0 U U U TD U U sm (ax 5 U) (Cw _ _) os (by first|(simp only [maxLen]; omega)|(simp [maxLen]; omega)) sm (lJ G) U fun B D=>?_
 try dsimp only
 refine bx 1 U<|M_ (cu.cells (cu.mk (bR.mk (bK.mk c l.aO.length d)) l.ib (bK.mk B l.aj.length D) (bK.mk bA l.ab.length bC) l.b_ l.e9 l.dp)) U SW U U<|RK r<|ak fun _ N=>WS fun _ O=>rP 1 [] mn ?_
 refine RK O<|aC<|mP ?_
 have H:(0≤l.aj.length)∧(([]:List RA).length=0)∧(tw l.aj ([]:List RA)):=by exact ⟨Nat.zero_le _,rfl,fun k m a _ h=>by simp at h⟩
 refine bQ (ι:={z:Nat×(List RA) // (z.1≤l.aj.length)∧(z.2.length=z.1)∧(tw l.aj z.2)}) [1,2] [2,3,4,5,6,7,8] U U (fun z=>[(3,(vI (z.1.1:Int)))]) (fun z=>[(bS (bk av.owns (l.aj.take z.1.1) z.1.2)),(own B D 165 2 (List.zipWith av.cells l.aj (rR z.1.2 az z.1.1)))]) (fun _=>rfl) (fun _=>rfl) (fun z=>l.aj.length-z.1.1) ⟨(0,([]:List RA)),H⟩ (bu U) (aN [2,3,4,5,6,7,8,0,1]) ?_
 clear H
 rintro ⟨⟨i,bz⟩,⟨AB,A,F⟩⟩ J15 M
 try dsimp only at AB A F
 try dsimp only
 refine ak fun _ P=>WS fun _ R=>rP 5 [] (mc 2 U mn) ?_
 refine RK R<|bO U (aS fun j=>?_) (aT fun j=>?_)
 ·refine bM<|ag<|ag<|aG<|KK N<|WS fun _ T=>qe U uG U fun g=>?_
  rw [show rR bz az i=bz from Iz I]
  rw [show l.aj.take i=l.aj from List.take_of_length_le I]
  refine rP 2 [] (mc 3 U mn) ?_
  refine iH (es:=(List.map bL.cells [])) (C':=[own (some ⟨g,0,none⟩) 0 137 4 (List.map bL.cells []),_,_,_,_,_,_,_,_,_]) 0 U sm U (by simp [maxLen]) U ?_
  refine dA (es2:=(List.map bL.cells l.ab)) (m':=l.ab.length) 0 U U U Ty U U sm (ax 7 U) (vR _) os (by first|(simp only [maxLen]; omega)|(simp [maxLen]; omega)) sm sm U fun K L=>?_
  try dsimp only
  refine bx 1 U<|M_ (cu.cells (cu.mk (bR.mk (bK.mk c l.aO.length d)) l.ib (bK.mk B l.aj.length D) (bK.mk K l.ab.length L) l.b_ l.e9 l.dp)) U Tu U U<|RK T<|WS fun _ AA=>rP 1 [] (mc 3 U mn) ?_
  refine DG U GN U<|RK AA<|ao ?_
  refine LX hQ (c,d,B,D,bz,K,L) [1,9,8,0] [0] (mc 2 U mn) U (by simp only [eH,List.all_nil,pJ,Bool.and_true]; rfl) U U ?_
  exact ⟨dso,F⟩
 refine WK P<|ak fun _ S=>aC<|dx ck [3,10,13] [6,7,8,9,10] [0,1] [0,1,2,3,4,5,6,7] [0,1,2,3,4,5,6,7,8] U U U U U<|eS U (FA 2 U Hc U)<|eS U (L1 (vS B l.aj.length D) 2 U Ni U U)<|eS U (MV U)<|eS U (FA 2 U Hc U)<|eS U (L1 (vS B l.aj.length D) 2 U Ni U U)<|eS U (MV U) ?_
 obtain ⟨x,hx⟩:=aF l.aj i I
 obtain ⟨xa,J⟩:=aF az i I
 have b:(List.zipWith av.cells l.aj (rR bz az i))[i]? =some (av.cells x xa):=cZ hx (EL A J)
 refine fS U (IA i U (aL (n:=l.aj.length) 8 U (lJ (by rw [qW A I]; exact G))) yk dc I I) ?_
 refine fS U (oL ((i*2)+1) U (aL (n:=l.aj.length) 8 U (lJ (by rw [qW A I]; exact G))) (Nat.mul_pos I dc) D0 U) ?_
 refine fS U (h_ i 1 (vS xa.1 x.bp.length xa.2) U Mc (aL (n:=l.aj.length) 8 U (lJ (by rw [qW A I]; exact G))) b U dc U) ?_
 refine fS U (IA i U (aL (n:=l.aj.length) 8 U (lJ (by rw [qW A I]; exact G))) yk dc I I) ?_
 refine fS U (oL ((i*2)+1) U (aL (n:=l.aj.length) 8 U (lJ (by rw [qW A I]; exact G))) (Nat.mul_pos I dc) D0 U) ?_
 refine eo U<|jJ U fun T20 V=>qe U od U fun f=>aD (V _ _ (aN [1,2,3,4,5,6,7,8]) (aN [1,2,3,4,5,6,7,8,9]) ?_)
 refine jJ U fun T22 W=>iH (es:=(List.map cK.cells [])) (C':=[own (some ⟨f,0,none⟩) 0 162 3 (List.map cK.cells []),_,_,_,_,_,_,_,_,_]) 0 U sm U (by simp [maxLen]) U ?_
 refine dA (es2:=(List.map cK.cells x.bp)) (m':=x.bp.length) 0 U U U P9 U U sm (show hH _ (rd xa.1 x.bp.length 3 (x.bp.map cK.cells)).holds from (cj 6 U (bD hx J (by simp [av.fu])))) (vL _) (by have:=Z.2.2.2 x (aP hx); simp; omega) (by have:=Z.2.2.2 x (aP hx); simp only [maxLen]; simp; omega) sm sm U fun C E=>?_
 try dsimp only
 refine QT 0 U fun s=>aD (W _ _ (aN [1,2,3,4,5,6,7,8]) (aN [1,2,3,4,5,6,7,8,9]) ?_)
 refine cd U fun T25 X=>gp (k:=i) (o:=1) (vs:=[(vS C x.bp.length E)]) (es':=(List.zipWith av.cells l.aj (rR (bz++[(C,E)]) az (i+1)))) (C':=[_,_,_,_,_,_,_,_,_,(own B D 165 2 (List.zipWith av.cells l.aj (rR (bz++[(C,E)]) az (i+1))))]) 9 U U U Qe U U U U b U dc (by exact Lr (nw:=(C,E)) hx A J) U<|aD (X _ _ (aN [1,2,3,4,5,6,7,8]) ?_)
 refine fh U<|aK<|KK S<|au<|rP 3 [] mn ?_
 refine aD<|wV (X':=bk av.owns (l.aj.take (i+1)) (bz++[(C,E)])) 8 0 U U (FF (nw:=(C,E)) hx A) ?_
 have Y:(vI (((i+1):Nat):Int))=(vI ((i:Int)+1)):=by exact cI I
 refine bj (M ⟨((i+1),(bz++[(C,E)])),⟨I,by simp; omega,I5 F A hx (by simpa using s)⟩⟩ _ _ _ U os (dh.cons U<|dh.cons U<|a_ U Y<|dh.nil _) (aN [1,2,3,4,5,6,7,0,8]))
end
section
open Go.RowKit
structure Iv (S:BS) (w0:World) (X:aA) (C0:List aA) (w:World) (S':BS):Prop where
 st:St S w0 (X::C0) w
 w_: ∀ b,S'.w b↔ ∃ A∈C0,A.wf b
theorem C5 {A B:aA} (h:Ce A B):Ce A.ro B:=fun b C D=>⟨fun h=>h,(h b C D).2⟩
theorem BD {E:fI} {c:Code} {Q:dw} {D:ir} {L:dC} {C C0:List aA} {X:aA} (i:Nat) (hn:decide (i::(List.range C.length).filter fun k=>k != i).Nodup=true) (hC:lh C (i::(List.range C.length).filter fun k=>k != i)=X::C0)
 (h: ∀ w S',Iv E.S E.w0 X C0 w S'→WJ ⟨E.P,E.r,E.n,S',w⟩ c Q D L (X.ro::C0)):WJ E c Q D L C:=fun a w hf hs=>by
 have F:=St.lh _ hn hC hs
 obtain ⟨G,H⟩:=List.pairwise_cons.1 F.sep
 refine h w ⟨fun b=> ∃ A∈C0,A.wf b,fun _=>True⟩ ⟨F,fun b=>Iff.rfl⟩ a w hf ⟨dU.refl _ _,fun A hA=>?_,List.Pairwise.cons (fun B hB=>C5 (G B hB)) H,fun A hA b hb=>?_,fun A hA b hb=> .inr trivial⟩
 ·rcases cg.1 hA with rfl|hA
  ·exact F.holds X (ct ..)
  ·exact F.holds A (dH _ hA)
 ·rcases cg.1 hA with rfl|hA
  ·exact hb.elim
  ·exact .inr ⟨A,hA,hb⟩
theorem zN {E:fI} {S':BS} {w:World} {K:Act→World→Prop} {D:ir} {L:dC} {C0 C1 C2:List aA} {X:aA} (hz:Iv E.S E.w0 X C0 w S') (is:List Nat) (hn:decide is.Nodup=true) (hC:lh C2 is=C1) (hwr:C1.all (·.wr)=true)
 (h:KJ E K D L (X::C1)):KJ ⟨E.P,E.r,E.n,S',w⟩ K D L C2:=fun a w' hf hs=>by
 have F:=St.lh is hn hC hs
 have C:=hz.st
 obtain ⟨J,M⟩:=List.pairwise_cons.1 C.sep
 have AA: ∀ b,X.fE b→ ¬ S'.w b:=fun b hb hw=>by
  obtain ⟨A,hA,hw⟩:=(hz.w_ b).1 hw
  exact (J A hA b hb (A.kB b hw)).2 hw
 have G: ∀ b,S'.w b→E.w0.heap.size≤b∨E.S.w b:=fun b hb=>by
  obtain ⟨A,hA,hw⟩:=(hz.w_ b).1 hb
  exact C.own A (dH _ hA) b hw
 have H: ∀ A∈C1,∀ b,A.fE b→w.heap.size≤b∨S'.w b:=fun A hA b hb=>F.own A hA b (A.whole (cY.1 hwr A hA) b hb)
 refine h a w' hf ⟨?_,fun A hA=>?_,List.Pairwise.cons (fun B hB b hb hb'=>?_) F.sep,fun A hA b hb=>?_,fun A hA b hb=>?_⟩
 ·refine ⟨F.keeps.os.trans C.keeps.os,F.keeps.tape.trans C.keeps.tape,F.keeps.output.trans C.keeps.output,Nat.le_trans C.keeps.size F.keeps.size,fun k hk hn'=>?_⟩
  refine (F.keeps.block k (Nat.lt_of_lt_of_le hk C.keeps.size) fun hw=>?_).trans (C.keeps.block k hk hn')
  rcases G k hw with q|q
  ·omega
  ·exact hn' q
 ·rcases cg.1 hA with rfl|hA
  ·have hh:=C.holds A (ct ..)
   exact A.oH w w' (fun b hb=>F.keeps.block b (A.lt w hh b hb) (AA b hb)) hh
  ·exact F.holds A hA
 ·exfalso
  have hl:=X.lt w (C.holds X (ct ..)) b hb
  rcases H B hB b hb' with q|q
  ·omega
  ·exact AA b hb q
 ·rcases cg.1 hA with rfl|hA
  ·exact C.own A (ct ..) b hb
  ·rcases F.own A hA b hb with q|q
   ·exact .inl (Nat.le_trans C.keeps.size q)
   ·exact G b q
 ·rcases cg.1 hA with rfl|hA
  ·exact C.seen A (ct ..) b hb
  ·rcases H A hA b hb with q|q
   ·exact .inl (Nat.le_trans C.keeps.size q)
   ·obtain ⟨B,hB,hw⟩:=(hz.w_ b).1 q
    exact C.seen B (dH _ hB) b (B.kB b hw)
/-- put back, as it was -/
theorem Fb {M A:Type} {f:M→A→List aA} {S:BS} {w0 w:World} {C:List aA} {ms:List M} {asl:List A} {k:Nat} {m:M} {a:A} {X:aA} (hm:ms[k]? =some m) (ha:asl[k]? =some a) (hf:f m a=[X]) (h:St S w0 (X::bS (jg f ms asl k)::C) w):St S w0 (bS (bk f ms asl)::C) w:=by
 have B:St S w0 (bS (jg f ms asl k)::X::C) w:=h.perm (List.Perm.swap _ _ _)
 have D:St S w0 ((f m a++jg f ms asl k)++C) w:=by
  rw [hf]
  exact B.iU.perm (List.perm_middle (a:=X) (l₁:=jg f ms asl k) (l₂:=C))
 exact uV (rz hm ha).symm D.tied
theorem JG {E:fI} {K:Act→World→Prop} {D:ir} {L:dC} {C C1:List aA} {M A:Type} {f:M→A→List aA} {ms:List M} {asl:List A} {k:Nat} {m:M} {a:A} {X:aA} (i j:Nat) (hm:ms[k]? =some m) (ha:asl[k]? =some a) (hf:f m a=[X])
 (hn:decide (j::i::(List.range C.length).filter fun k=>k != i&&k != j).Nodup=true) (hC:lh C (j::i::(List.range C.length).filter fun k=>k != i&&k != j)=X::bS (jg f ms asl k)::C1)
 (h:KJ E K D L (bS (bk f ms asl)::C1)):KJ E K D L C:=fun a w hf' hs=>h a w hf' (Fb hm ha hf (St.lh _ hn hC hs))
theorem zh {M A:Type} {f:M→A→List aA} {ms:List M} {asl:List A} {m:M} {a:A} {X:aA} (hl:ms.length=asl.length) (hf:f m a=[X]):bk f ms asl++[X]=bk f (ms++[m]) (asl++[a]):=by
 rw [jB hl,← hf]; simp [bk]
theorem yw {E:fI} {K:Act→World→Prop} {D:ir} {L:dC} {C C1:List aA} {M A:Type} {f:M→A→List aA} {ms:List M} {asl:List A} {m:M} {a:A} {X:aA} (i j:Nat) (hf:f m a=[X])
 (hn:decide (j::i::(List.range C.length).filter fun k=>k != i&&k != j).Nodup=true) (hC:lh C (j::i::(List.range C.length).filter fun k=>k != i&&k != j)=X::bS (bk f ms asl)::C1)
 (h:KJ E K D L (bS (bk f (m::ms) (a::asl))::C1)):KJ E K D L C:=fun b w hf' hs=>by
 have B:=St.lh _ hn hC hs
 have F:St E.S E.w0 (bS (bk f ms asl)::X::C1) w:=B.perm (List.Perm.swap _ _ _)
 have G:St E.S E.w0 (bk f (m::ms) (a::asl)++C1) w:=by
  show St E.S E.w0 ((f m a++bk f ms asl)++C1) w
  rw [hf]
  exact F.iU.perm (List.perm_middle (a:=X) (l₁:=bk f ms asl) (l₂:=C1))
 exact h b w hf' G.tied
end
section
open Go.RowKit
abbrev lY (r:Nat):aA:=jn r (.deferred (some []))
theorem KU (rs:List Nat):(bS (rs.map lY)).wr=true:=by
 show (rs.map lY).all (·.wr)=true
 rw [cY]
 intro X hX
 obtain ⟨r,_,rfl⟩:=cE.1 hX
 rfl
theorem wh {E:fI} {c:Code} {Q:dw} {D:ir} {L:dC} {C:List aA} {ι:Type} (Di:ι→ir) (Li:ι→dC) (Ci:ι→List aA) (μ:ι→Nat) (x0:ι)
 (hD:D=Di x0) (h0:dh L (Li x0)) (hC: ∀ w,St E.S E.w0 C w→St E.S E.w0 (Ci x0) w)
 (round: ∀ x (J:Act→World→Prop),(∀ y D' L' C',D'=Di y→μ y<μ x→dh L' (Li y)→(∀ w,St E.S E.w0 C' w→St E.S E.w0 (Ci y) w)→KJ E J D' L' C')→WJ E c (Exit.then J Q) (Di x) (Li x) (Ci x)):WJ E (.loop c) Q D L C:=by
 intro a w hf hs
 subst hD
 have H: ∃ x,Fr E.n (Di x) (Li x) a∧St E.S E.w0 (Ci x) w:=⟨x0,hf.sub h0,hC w hs⟩
 clear hf hs
 have key: ∀ (m:Nat) (a:Act) (w:World),(∃ x,μ x=m∧Fr E.n (Di x) (Li x) a∧St E.S E.w0 (Ci x) w)→(Code.loop c).wpIn (Fw E.r) 0 E.P Q a w:=by
  intro m a w hx
  refine wpIn_loop (fun a w=> ∃ x,Fr E.n (Di x) (Li x) a∧St E.S E.w0 (Ci x) w) (fun a w=>leastOf fun k=> ∃ x,μ x=k∧Fr E.n (Di x) (Li x) a∧St E.S E.w0 (Ci x) w) (by obtain ⟨x,_,h⟩:=hx; exact ⟨x,h⟩) ?_
  intro a w hx
  have F: ∃ k,∃ x,μ x=k∧Fr E.n (Di x) (Li x) a∧St E.S E.w0 (Ci x) w:=by obtain ⟨x,h⟩:=hx; exact ⟨_,x,rfl,h⟩
  obtain ⟨x,K,AA,M⟩:=(leastOf_spec F).1
  refine round x _ ?_ a w AA M
  intro y D' L' C' hD G A B a' w' hf' hs'
  subst hD
  refine ⟨⟨y,hf'.sub A,B _ hs'⟩,?_⟩
  rw [← K]
  exact Nat.lt_of_le_of_lt ((leastOf_spec ⟨_,y,U,hf'.sub A,B _ hs'⟩).2 _ ⟨y,U,hf'.sub A,B _ hs'⟩) G
 obtain ⟨x,h⟩:=H
 exact key _ a w ⟨x,U,h⟩
theorem St.SK {S:BS} {w0 w:World} {C X:List aA} {A:aA} (h:St S w0 (A::bS X::C) w):St S w0 (bS (A::X)::C) w:=by
 have B:St S w0 (bS X::A::C) w:=h.perm (List.Perm.swap _ _ _)
 have D:St S w0 ((A::X)++C) w:=B.iU.perm (List.perm_middle (a:=A) (l₁:=X) (l₂:=C))
 exact D.tied
theorem Jp {E:fI} {K:Act→World→Prop} {D:ir} {L:dC} {C C1 X:List aA} {A:aA} (i j:Nat) (hn:decide (j::i::(List.range C.length).filter fun k=>k != i&&k != j).Nodup=true) (hC:lh C (j::i::(List.range C.length).filter fun k=>k != i&&k != j)=A::bS X::C1)
 (h:KJ E K D L (bS (A::X)::C1)):KJ E K D L C:=fun a w hf hs=>h a w hf ((St.lh _ hn hC hs).SK)
theorem Da {E:fI} {K:Act→World→Prop} {D:ir} {L:dC} {C:List aA} (h:KJ E K D L (bS []::C)):KJ E K D L C:=fun a w hf hs=>h a w hf hs.OQ
theorem OC {E:fI} {K:Act→World→Prop} {D:ir} {L:dC} (C1 C2:List aA) (h:KJ E K D L (bS C1::C2)):KJ E K D L (C1++C2):=fun a w hf hs=>h a w hf (St.tied hs)
theorem Ky {E:fI} {fn:Func} {R:Ending→World→Prop} {D:ir} {L:dC} {C C1:List aA} {rs:List Nat} (i:Nat) (hn:decide (i::(List.range C.length).filter fun k=>k != i).Nodup=true) (hC:lh C (i::(List.range C.length).filter fun k=>k != i)=bS (rs.map lY)::C1)
 (h:LJ E fn R D L C1):LJ E fn R (rs.map jU++D) L C:=by
 have key: ∀ rs:List Nat,LJ E fn R (rs.map jU++D) L (bS (rs.map lY)::C1):=by
  intro rs
  induction rs with
  |nil=>exact fun a w hf hs=>h a w hf (hs.take (List.sublist_cons_self _ _))
  |cons r rs ih=>
   have A:LJ E fn R (jU r::(rs.map jU++D)) L (lY r::bS (rs.map lY)::C1):=qH 0 rfl rfl (fun a w hf hs=>ih a w hf (hs.take (List.sublist_cons_self _ _)))
   intro a w hf hs
   refine A a w hf ?_
   have B:St E.S E.w0 ((lY r::rs.map lY)++C1) w:=St.iU (C1:=lY r::rs.map lY) hs
   have F:St E.S E.w0 (rs.map lY++(lY r::C1)) w:=B.perm (List.perm_middle (a:=lY r) (l₁:=rs.map lY) (l₂:=C1)).symm
   exact F.tied.perm (List.Perm.swap _ _ _)
 exact fun a w hf hs=>key rs a w hf (St.lh _ hn hC hs)
theorem HQ {E:fI} {fn:Func} {R:Ending→World→Prop} {L:dC} {C C1:List aA} {rs:List Nat} (i:Nat) (hn:decide (i::(List.range C.length).filter fun k=>k != i).Nodup=true) (hC:lh C (i::(List.range C.length).filter fun k=>k != i)=bS (rs.map lY)::C1)
 (h:LJ E fn R [] L C1):LJ E fn R (rs.map jU) L C:=by
 have:=Ky (D:=[]) i hn hC h
 rwa [List.append_nil] at this
end
section
open Go.RowKit
theorem ph (fs:List FM) (fb:List Nat):(bS (bk mU fs fb)).wr=true:=by
 show (bk mU fs fb).all (·.wr)=true
 rw [cY]
 intro X hX
 obtain ⟨k,m,a,_,_,h⟩:=j8 hX
 simp only [mU,cv] at h
 subst h; rfl
theorem q6 (fs:List TM) (fb:List Nat):(bS (bk pU fs fb)).wr=true:=by
 show (bk pU fs fb).all (·.wr)=true
 rw [cY]
 intro X hX
 obtain ⟨k,m,a,_,_,h⟩:=j8 hX
 simp only [pU,cv] at h
 subst h; rfl
end
section
def dB (bl:List Nat) (n:Nat):List (Option Nat):=bl.map some++List.replicate (n-bl.length) none
def iv (bl:List Nat) (n:Nat):List (Option Nat):=List.replicate (n-bl.length) none++bl.map some
theorem ng {bl:List Nat} {n:Nat} (h:bl.length≤n):(dB bl n).length=n:=by simp [dB]; omega
theorem yH {bl:List Nat} {n:Nat} (h:bl.length≤n):(iv bl n).length=n:=by simp [iv]; omega
theorem uB {n:Nat}:List.replicate n none=dB [] n:=by simp [dB]
theorem Gk {n:Nat}:List.replicate n none=iv [] n:=by simp [iv]
theorem zb {bl:List Nat} {n:Nat} (h:bl.length=n):dB bl n=bl.map some:=by simp [dB,h]
theorem Gg {bl:List Nat} {n:Nat} (h:bl.length=n):iv bl n=bl.map some:=by simp [iv,h]
theorem mJ {bl:List Nat} {n k g:Nat} (h:bl[k]? =some g):(dB bl n)[k]? =some (some g):=by
 have hk:=(aU.1 h).1
 unfold dB
 rw [List.getElem?_append_left (by simpa using hk),fK,h]; rfl
theorem sY {bl:List Nat} {n k i g:Nat} (h:bl[i]? =some g) (hk:k=n-bl.length+i):(iv bl n)[k]? =some (some g):=by
 subst hk
 unfold iv
 rw [List.getElem?_append_right sm,fK,List.length_replicate,Nat.add_sub_cancel_left,h]; rfl
theorem rp {bl:List Nat} {n k g:Nat} (hk:k=bl.length) (h:bl.length<n):(dB bl n).set k (some g)=dB (bl++[g]) n:=by
 subst hk
 unfold dB
 rw [List.set_append_right _ _ sm]
 have e:n-bl.length=(n-(bl++[g]).length)+1:=by simp; omega
 rw [e,List.replicate_succ]
 simp
theorem E6 {bl:List Nat} {n k g:Nat} (hk:k+1+bl.length=n):(iv bl n).set k (some g)=iv (g::bl) n:=by
 unfold iv
 have e:n-bl.length=k+1:=by omega
 have A:n-(g::bl).length=k:=by simp; omega
 rw [e,A,List.set_append_left _ _ sm,List.replicate_succ',List.set_append_right _ _ sm]
 simp
theorem p_ {l:List (Option Nat)} {k g:Nat} (h:l[k]? =some (some g)):(l.map oC)[k]? =some (oC (some g)):=by rw [fK,h]; rfl
theorem zA {α:Type} {l:List α} {x:α} {k:Nat} (h:k=l.length):(l++[x])[k]? =some x:=by subst h; simp
theorem Hw {α:Type} {l:List α} {x y:α} {k:Nat} (h:l[k]? =some y):(l++[x])[k]? =some y:=by rw [List.getElem?_append_left (aU.1 h).1]; exact h
structure p8 (w:bZ) (fs:List FM):Prop where
 all: ∀ (b:Nat) m,fs[b]? =some m→tN m (fwd w b)∧(m.map (·.1)).Nodup
structure iw (w:bZ) (k:Nat) (bs:List FM):Prop where
 all: ∀ (i:Nat) m,bs[i]? =some m→vy m (back w (k+i))∧(m.map (·.1)).Nodup
variable {w:bZ} {b:Nat} {mb m left:List (aJ×Int)} {o:Int×ai} {os:List (Int×ai)} {p:aJ×Int}
theorem p8.first:p8 w [[(⟨0,0⟩,w.Start)]]:=⟨fun b m h=>by
 match b with
 |0=>simp at h; subst h; exact ⟨Gb,sm⟩
 |n+1=>simp at h⟩
theorem p8.add {fs:List FM} (h:p8 w fs) (hl:fs.length=b+1) (hmb:fs[b]? =some mb) (hm:wq w b m) (hd:j3 w b mb m left) (h0:left=[]):p8 w (fs++[m]):=⟨fun i x hx=>by
 rcases Nat.lt_or_ge i fs.length with q|q
 ·rw [List.getElem?_append_left q] at hx; exact h.all i x hx
 ·rw [List.getElem?_append_right q] at hx
  have hi:i-fs.length=0:=by
   rcases Nat.eq_zero_or_pos (i-fs.length) with z|z
   ·exact z
   ·rw [List.getElem?_eq_none (by simp; omega)] at hx; cases hx
  rw [hi] at hx
  simp at hx; subst hx
  obtain rfl:i=b+1:=by omega
  have A:=h.all b mb hmb
  exact ⟨H7 A.2 A.1 hm.snd (hd.fin h0),hm.keys⟩⟩
theorem p8.ok {fs:List FM} (h:p8 w fs) (hl:fs.length=w.n+1):vm w fs:=⟨hl,fun b m hm=>(h.all b m hm).1,fun b m hm=>(h.all b m hm).2⟩
theorem iw.none_:iw w b []:=⟨fun i m h=>by simp at h⟩
theorem iw.last (hb:w.n≤b):iw w b [[(⟨0,0⟩,w.fP)]]:=⟨fun i m h=>by
 match i with
 |0=>simp at h; subst h; exact ⟨IZ I,sm⟩
 |n+1=>simp at h⟩
theorem iw.add {bs:List FM} (h:iw w (b+1) bs) (hb:b<w.n) (hmb:bs[0]? =some mb) (hm:vQ w b m) (hd:jT w b mb m left) (h0:left=[]):iw w b (m::bs):=⟨fun i x hx=>by
 match i with
 |0=>
  simp at hx; subst hx
  have A:=h.all 0 mb hmb
  exact ⟨Jl hb A.2 A.1 hm.snd hm.zero (hd.fin h0),hm.keys⟩
 |n+1=>
  have:=h.all n x (by simpa using hx)
  rw [show b+1+n=b+(n+1) by omega] at this
  exact this⟩
theorem iw.ok {bs:List FM} (h:iw w 0 bs) (hl:bs.length=w.n+1):sB w bs:=⟨hl,fun b m hm=>by have:=(h.all b m hm).1; rwa [Nat.zero_add] at this,fun b m hm=>(h.all b m hm).2⟩
/-- on the way through one entry's options -/
structure nH (w:bZ) (b:Nat) (mb left m:List (aJ×Int)) (p:aJ×Int) (os:List (Int×ai)):Prop where
 on:wq w b m
 ue:j3 w b mb m left
 done:jz w b m p os
structure nN (w:bZ) (b:Nat) (mb left m:List (aJ×Int)) (p:aJ×Int) (os:List (Int×ai)):Prop where
 on:vQ w b m
 ue:jT w b mb m left
 done:jv w b m p os
theorem nH.start (h:wq w b m) (h2:j3 w b mb m left):nH w b mb left m p []:=⟨h,h2,fun o ho=>by cases ho⟩
theorem nN.start (h:vQ w b m) (h2:jT w b mb m left):nN w b mb left m p []:=⟨h,h2,fun o ho=>by cases ho⟩
theorem Fe {q:aJ×Int} (h:(m.lookup q.1).isSome=false∨q.2<(m.lookup q.1).getD 0):pk m q=eD m q.1 q.2:=by
 unfold pk
 cases e:m.lookup q.1 with
 |none=>rfl
 |some v=>rw [e] at h; simp at h; simp only; rw [if_pos h]
theorem Cm {q:aJ×Int} (h:(m.lookup q.1).isSome=true) (h2: ¬ q.2<(m.lookup q.1).getD 0):pk m q=m:=by
 unfold pk
 cases e:m.lookup q.1 with
 |none=>rw [e] at h; cases h
 |some v=>rw [e] at h2; simp only [Option.getD_some] at h2; simp only; rw [if_neg h2]
theorem Fl {q:aJ×Int} (h:(m.lookup q.1).isSome=false∨(m.lookup q.1).getD 0<q.2):o_ m q=eD m q.1 q.2:=by
 unfold o_
 cases e:m.lookup q.1 with
 |none=>rfl
 |some v=>rw [e] at h; simp at h; simp only; rw [if_pos h]
theorem DM {q:aJ×Int} (h:(m.lookup q.1).isSome=true) (h2: ¬ (m.lookup q.1).getD 0<q.2):o_ m q=m:=by
 unfold o_
 cases e:m.lookup q.1 with
 |none=>rw [e] at h; cases h
 |some v=>rw [e] at h2; simp only [Option.getD_some] at h2; simp only; rw [if_neg h2]
theorem zU {t:aJ} {v y:Int} (hy:w.qh[b]? =some y) (h:max (v+y) o.2.Lo≤min o.2.Hi w.fP):k9 w b (t,v) o=some (dD t (fG o.1),max (v+y) o.2.Lo):=by
 have e:=nE hy
 subst e
 exact G3 h
theorem Hx {t:aJ} {v y:Int} (hy:w.qh[b]? =some y) (h: ¬ max (v+y) o.2.Lo≤min o.2.Hi w.fP):k9 w b (t,v) o=none:=by
 have e:=nE hy
 subst e
 exact K7 h
theorem zo {t:aJ} {v y:Int} (hy:w.qh[b]? =some y) (h:o.2.Lo≤min v o.2.Hi):nY w b (t,v) o=some (dD t (fG o.1),min v o.2.Hi-y):=by
 have e:=nE hy
 subst e
 exact IJ h
theorem nH.set {q:aJ×Int} (h:nH w b mb left m p os) (hp:p∈fwd w b) (ho:o∈iS w b) (he:k9 w b p o=some q) (hs:(m.lookup q.1).isSome=false∨q.2<(m.lookup q.1).getD 0):nH w b mb left (eD m q.1 q.2) p (os++[o]):=by
 rw [← Fe hs]
 exact ⟨h.on.add hp ho he,h.ue.lower vE,h.done.GY he⟩
theorem nH.oH {q:aJ×Int} (h:nH w b mb left m p os) (he:k9 w b p o=some q) (hs:(m.lookup q.1).isSome=true) (h2: ¬ q.2<(m.lookup q.1).getD 0):nH w b mb left m p (os++[o]):=by
 have:=h.done.GY he
 rw [Cm hs h2] at this
 exact ⟨h.on,h.ue,this⟩
theorem nH.skip (h:nH w b mb left m p os) (he:k9 w b p o=none):nH w b mb left m p (os++[o]):=⟨h.on,h.ue,h.done.none_ he⟩
theorem nN.set {q:aJ×Int} (hb:b<w.n) (h:nN w b mb left m p os) (hp:p∈back w (b+1)) (ho:o∈iS w b) (he:nY w b p o=some q) (hs:(m.lookup q.1).isSome=false∨(m.lookup q.1).getD 0<q.2):nN w b mb left (eD m q.1 q.2) p (os++[o]):=by
 rw [← Fl hs]
 exact ⟨h.on.add hb hp ho he,h.ue.upper qP,h.done.GY he⟩
theorem nN.oH {q:aJ×Int} (h:nN w b mb left m p os) (he:nY w b p o=some q) (hs:(m.lookup q.1).isSome=true) (h2: ¬ (m.lookup q.1).getD 0<q.2):nN w b mb left m p (os++[o]):=by
 have:=h.done.GY he
 rw [DM hs h2] at this
 exact ⟨h.on,h.ue,this⟩
theorem nN.skip (h:nN w b mb left m p os) (he:nY w b p o=none):nN w b mb left m p (os++[o]):=⟨h.on,h.ue,h.done.none_ he⟩
theorem nH.next {t:aJ} {v:Int} (hn:(left.map (·.1)).Nodup) (hm:(t,v)∈left) (h:nH w b mb left m (t,v) os) (ho: ∀ o∈iS w b,o∈os):j3 w b mb m (fg left t):=h.ue.next hn hm h.done ho
theorem nN.next {t:aJ} {v:Int} (hn:(left.map (·.1)).Nodup) (hm:(t,v)∈left) (h:nN w b mb left m (t,v) os) (ho: ∀ o∈iS w b,o∈os):jT w b mb m (fg left t):=h.ue.next hn hm h.done ho
theorem p8.mem {fs:List FM} (h:p8 w fs) (hm:fs[b]? =some mb) (hp:p∈mb):p∈fwd w b:=(h.all b mb hm).1.1 _ _ ((fO (h.all b mb hm).2).1 hp)
theorem iw.RT {bs:List FM} {k:Nat} (h:iw w k bs) (hk:k=b+1) (hm:bs[0]? =some mb) (hp:p∈mb):p∈back w (b+1):=by
 subst hk
 exact (h.all 0 mb hm).1.1 _ _ ((fO (h.all 0 mb hm).2).1 hp)
theorem iw.end_ {bs:List FM} {k j:Nat} (h:iw w k bs) (hj:bs.length=0) (hk:j=b) (hb:w.n≤b):iw w j ([(⟨0,0⟩,w.fP)]::bs):=by
 subst hk
 rw [ig hj]
 exact iw.last hb
theorem iw.more {bs:List FM} {k j:Nat} (h:iw w k bs) (hk:k=b+1) (hj:j=b) (hb:b<w.n) (hmb:bs[0]? =some mb) (hm:vQ w b m) (hd:jT w b mb m left) (h0:left=[]):iw w j (m::bs):=by
 subst hk hj
 exact h.add hb hmb hm hd h0
end
section
open Go.RowKit
theorem jx {a:OA} {c e sz n:Nat} {es:List (List Value)} (h:es.length=n):I2 (own a c e sz es) (rd a n sz es):=by subst h; exact KT
theorem qL {L:List aA}:I2 (bS L) (dL L):=⟨fun w h=>h.1,fun b h=>h⟩
theorem EW {b:Nat} {fb:List Nat} {g:Nat} (h:fb.length=b):bk pU (List.replicate b ([]:TM)) fb++[ks iV g (cR jZ [])]=bk pU (List.replicate (b+1) ([]:TM)) (fb++[g]):=by
 rw [List.replicate_succ']
 exact zh (by rw [List.length_replicate]; exact h.symm) U
theorem PX {α:Type} {ms:List α} {fb:List Nat} {n:Nat} (h:fb.length=n) (h2:ms.length=n):List.map oC (dB fb n)=List.zipWith gr ms fb:=by
 rw [zb h]; exact (zH I).symm
theorem kl {l:bo} {r:cx} {i:Nat} {x:aH} (hx:r.aa[i]? =some x) (h: ¬ iB l r.aa i x): ¬ ei l r:=fun q=>h (q.sig i x hx)
end
section
structure Dk (w w':bZ):Prop where
 start:w'.Start=w.Start
 now:w.fP≤w'.fP
 n:w'.n=w.n
 least: ∀ b,cf w' b≤cf w b
 times:w'.vo=w.vo
 OG:w.dp≤w'.dp
 Pw:w.e9≤w'.e9
 sigs:w'.OB=w.OB
variable {w w':bZ}
theorem Dk.opt (h:Dk w w') {b:Nat} {o:Int×ai} (ho:o∈iS w b): ∃ o'∈iS w' b,o'.1=o.1∧o'.2.Lo≤o.2.Lo∧o.2.Hi≤o'.2.Hi:=by
 unfold iS at ho
 rcases cg.1 ho with rfl|ho
 ·exact ⟨(-1,⟨w'.Start,w'.fP⟩),ct ..,U,by simp only [h.start]; omega,h.now⟩
 ·refine ⟨o,dH _ ?_,U,Int.le_refl _,Int.le_refl _⟩
  unfold uh at ho ⊢; rw [h.times]; exact ho
theorem Dk.may (h:Dk w w') {t:aJ} (ht:kS w t=true):kS w' t=true:=by
 unfold kS at ht ⊢
 have:=of_decide_eq_true ht
 have A:=h.OG
 have B:=h.Pw
 have C:=h.sigs
 exact cJ I
theorem Dk.fwd (h:Dk w w'): ∀ (b:Nat) (p:aJ×Int),p∈fwd w b→ ∃ p'∈Go.Proofs.YtgcjjjehnjljbaaGreatDoor.fwd w' b,p'.1=p.1∧p'.2≤p.2:=by
 intro b
 induction b with
 |zero=>
  intro p hp
  simp only [Go.Proofs.YtgcjjjehnjljbaaGreatDoor.fwd,cv] at hp ⊢
  subst hp
  exact ⟨_,U,U,by simp only [h.start]; omega⟩
 |succ b ih=>
  intro q hq
  obtain ⟨p,hp,o,ho,e⟩:=gh.1 hq
  obtain ⟨p',hp',A,D⟩:=ih p hp
  obtain ⟨o',ho',B,E,F⟩:=h.opt ho
  have hl:=h.least b
  have hn:=h.now
  unfold k9 at e
  split at e
  ·rename_i C
   simp only [Option.some.injEq] at e
   subst e
   refine ⟨(dD p'.1 (fG o'.1),max (p'.2+cf w' b) o'.2.Lo),gh.2 ⟨p',hp',o',ho',by unfold k9; rw [if_pos I]⟩,by simp only [A,B],by simp only; omega⟩
  ·cases e
theorem Dk.bwd (h:Dk w w'): ∀ (k:Nat) (p:aJ×Int),p∈bwd w k→ ∃ p'∈Go.Proofs.YtgcjjjehnjljbaaGreatDoor.bwd w' k,p'.1=p.1∧p.2≤p'.2:=by
 intro k
 induction k with
 |zero=>
  intro p hp
  simp only [Go.Proofs.YtgcjjjehnjljbaaGreatDoor.bwd,cv] at hp ⊢
  subst hp
  exact ⟨_,U,U,h.now⟩
 |succ k ih=>
  intro q hq
  simp only [Go.Proofs.YtgcjjjehnjljbaaGreatDoor.bwd,cg,List.mem_flatMap,List.mem_filterMap] at hq ⊢
  rcases hq with rfl|⟨p,hp,o,ho,e⟩
  ·exact ⟨_,.inl U,U,h.now⟩
  ·obtain ⟨p',hp',A,D⟩:=ih p hp
   obtain ⟨o',ho',B,E,F⟩:=h.opt ho
   have hl:=h.least (w.n-(k+1))
   rw [h.n]
   unfold nY at e
   split at e
   ·rename_i C
    simp only [Option.some.injEq] at e
    subst e
    exact ⟨(dD p'.1 (fG o'.1),min p'.2 o'.2.Hi-cf w' (w.n-(k+1))),.inr ⟨p',hp',o',ho',by unfold nY; rw [if_pos I]⟩,by simp only [A,B],by simp only; omega⟩
   ·cases e
theorem Dk.back (h:Dk w w') {b:Nat} {p:aJ×Int} (hp:p∈back w b): ∃ p'∈Go.Proofs.YtgcjjjehnjljbaaGreatDoor.back w' b,p'.1=p.1∧p.2≤p'.2:=by
 unfold Go.Proofs.YtgcjjjehnjljbaaGreatDoor.back at hp ⊢
 rw [h.n]
 exact h.bwd _ p hp
theorem Dk.pass (h:Dk w w') {b:Nat} {q:Int×ai} (hq:q∈mR w b): ∃ q'∈mR w' b,q'.1=q.1∧q'.2.Lo≤q.2.Lo∧q.2.Hi≤q'.2.Hi:=by
 obtain ⟨o,ho,p,hp,u,hu,e⟩:=iE.1 hq
 obtain ⟨D,E,rfl⟩:=jK.1 e
 obtain ⟨o',ho',A,F,G⟩:=h.opt ho
 obtain ⟨p',hp',B,H⟩:=h.fwd _ p hp
 obtain ⟨u',hu',C,AA⟩:=h.back hu
 have hl:=h.least b
 simp only [jM] at D
 refine ⟨(o'.1,jM w' b p' u' o'),iE.2 ⟨o',ho',p',hp',u',hu',jK.2 ⟨?_,?_,U⟩⟩,A,?_,?_⟩
 ·simp only [jM]; omega
 ·have:=h.may E
  unfold wQ at this ⊢
  rw [A,B,C]; exact this
 ·simp only [jM]; omega
 ·simp only [jM]; omega
theorem o4 {k:Int}:k∈hG w↔ ∃ i:Nat,k=(i:Int)∧i≤w.n∧js w (fwd w i)=true:=by
 unfold hG iA
 simp only [cE,List.mem_filter,List.mem_range]
 constructor
 ·rintro ⟨i,⟨B,A⟩,rfl⟩; exact ⟨i,rfl,I,A⟩
 ·rintro ⟨i,rfl,B,A⟩; exact ⟨i,⟨I,A⟩,rfl⟩
theorem Dk.FP (h:Dk w w') {k:Int} (hk:k∈hG w):k∈hG w':=by
 obtain ⟨i,rfl,C,A⟩:=o4.1 hk
 refine o4.2 ⟨i,U,by rw [h.n]; exact C,?_⟩
 unfold js at A ⊢
 obtain ⟨p,hp,D⟩:=List.any_eq_true.1 A
 obtain ⟨p',hp',B,_⟩:=h.fwd _ p hp
 exact List.any_eq_true.2 ⟨p',hp',by rw [B]; exact h.may D⟩
/-- two rides, of two lines, of which one allows more -/
structure RO (l:bo) (r:cx) (l':bo) (r':cx):Prop where
 line:dM l=0
 line':dM l'=0
 jH:ei l r
 ride':ei l' r'
 w:Dk (bW l r) (bW l' r')
 Ms:l'.ab.length=l.ab.length
variable {l l':bo} {r r':cx}
theorem RO.ok (h:RO l r l' r') (he:dN l r 0=0):dN l' r' 0=0:=by
 refine mh h.line' h.ride' U fun e=>?_
 obtain ⟨k,hk⟩:=List.exists_mem_of_ne_nil _ (g5 he).2.2.2
 have:=h.w.FP hk
 rw [e] at this; cases this
theorem RO.DE (h:RO l r l' r') {k:Int} (hk:k∈fp l r):k∈fp l' r':=by
 by_cases he:dN l r 0=0
 ·rw [jR he] at hk
  rw [jR (h.ok he)]
  exact h.w.FP hk
 ·rw [kj he] at hk; cases hk
theorem E_ {b:Nat} (hb:b<l.ab.length):dN l r (e_ l b)=dN l r 0:=by rw [mz I]
theorem yz {b:Nat}:cf (bW l r) b=if b<l.ab.length then ej l b else 0:=by
 unfold cf bW cq
 split
 ·rename_i h
  simp [h]
 ·rename_i h
  simp [h]
theorem F2 {sg:List aH} {i:Nat} (h:i=0):lR sg i=⟨-1,0⟩:=by subst h; rfl
theorem re {sg:List aH} {i:Nat} {y:aH} (h:0<i) (hy:sg[i-1]? =some y):lR sg i=y:=by unfold lR; rw [if_neg I,hy]; rfl
def OD (l:bo):Prop:= ¬ ld l∧dM l=0
noncomputable instance (l:bo):Decidable (OD l):=Classical.propDecidable _
end
section
open Go.RowKit
theorem Lm (r:cx) (sgA:OA) (sgC:Nat) (hsl:r.aa.length≤1000000):
 qf Tryz.prog 78 [(vA (de.cells (im r sgA sgC)))] [(rd sgA r.aa.length 2 (r.aa.map aH.cells))] (fun (x:(OA)×Nat)=>(vA (de.cells (de.mk r.Start r.fP (bK.mk x.1 r.aa.length x.2))))) (fun (x:(OA)×Nat)=>True) (fun (x:(OA)×Nat)=>[(own x.1 x.2 139 2 (r.aa.map aH.cells))]):=by
 refine fJ kr Tryz.func78 U U fun AA Q hQ hN=>?_
 try dsimp only
 refine WS fun _ A=>ed U fun G=>AL U SG fun H=>RK A<|WS fun _ B=>qe U xp U fun F=>rP 2 [] (mc 2 U mn) ?_
 refine iH (es:=(List.map aH.cells [])) (C':=[own (some ⟨F,0,none⟩) 0 139 2 (List.map aH.cells []),_,_,_]) 0 U sm U (by simp [maxLen]) U ?_
 refine dA (es2:=(List.map aH.cells r.aa)) (m':=r.aa.length) 0 U U U RZ U U sm (ax 3 U) (tH _) os (by first|(simp only [maxLen]; omega)|(simp [maxLen]; omega)) sm sm U fun D E=>?_
 try dsimp only
 refine bx 1 U<|Tp (de.cells (im r D E)) U Tc U U<|RK B<|WS fun _ C=>rP 1 [] (mc 2 U mn) ?_
 refine pZ U QU U<|RK C<|ao<|LX hQ (D,E) [0] [0] (mc 1 U mn) U U U U ?_
 trivial
end
section
open Go.RowKit
theorem CG (r:eM) (kA:OA) (kC:Nat) (az:List RA) (cA:OA) (cC:Nat) (bA:OA) (bC:Nat) (slA:OA) (slC:Nat) (drA:OA) (drC:Nat) (ha:List cU) (heA:OA) (heC:Nat) (hin:lf r az ha) (hng: ¬ kX r):
 qf Tryz.prog 46 [(vA (fF.cells (xH r kA kC cA cC bA bC slA slC drA drC heA heC)))] [(rd kA r.ar.aO.length 9 (r.ar.aO.map aq.cells)),(rd cA r.ar.aj.length 2 (List.zipWith av.cells r.ar.aj az)),(dL (bk av.fu r.ar.aj az)),(rd bA r.ar.ab.length 4 (r.ar.ab.map bL.cells)),(rd slA r.bg.length 1 (r.bg.map iC)),(rd drA r.cm.length 1 (r.cm.map iC)),(rd heA r.aB.length 1 (List.zipWith cz r.aB ha)),(dL (bk eO r.aB ha))] (fun (x:(OA)×Nat×(OA)×Nat×(List RA)×(OA)×Nat×(OA)×Nat×(OA)×Nat×(OA)×Nat×(List cU))=>(vA (fF.cells (fF.mk (cu.mk (bR.mk (bK.mk x.1 r.ar.aO.length x.2.1)) r.ar.ib (bK.mk x.2.2.1 r.ar.aj.length x.2.2.2.1) (bK.mk x.2.2.2.2.2.1 r.ar.ab.length x.2.2.2.2.2.2.1) r.ar.b_ r.ar.e9 r.ar.dp) (bK.mk x.2.2.2.2.2.2.2.1 r.bg.length x.2.2.2.2.2.2.2.2.1) (bK.mk x.2.2.2.2.2.2.2.2.2.1 r.cm.length x.2.2.2.2.2.2.2.2.2.2.1) r.kY (bK.mk x.2.2.2.2.2.2.2.2.2.2.2.1 r.aB.length x.2.2.2.2.2.2.2.2.2.2.2.2.1))))) (fun (x:(OA)×Nat×(OA)×Nat×(List RA)×(OA)×Nat×(OA)×Nat×(OA)×Nat×(OA)×Nat×(List cU))=>(x.2.2.2.2.1.length=r.ar.aj.length∧tw r.ar.aj x.2.2.2.2.1)∧Hk r.aB x.2.2.2.2.2.2.2.2.2.2.2.2.2) (fun (x:(OA)×Nat×(OA)×Nat×(List RA)×(OA)×Nat×(OA)×Nat×(OA)×Nat×(OA)×Nat×(List cU))=>[(own x.1 x.2.1 160 9 (r.ar.aO.map aq.cells)),(own x.2.2.1 x.2.2.2.1 165 2 (List.zipWith av.cells r.ar.aj x.2.2.2.2.1)),(bS (bk av.owns r.ar.aj x.2.2.2.2.1)),(own x.2.2.2.2.2.1 x.2.2.2.2.2.2.1 137 4 (r.ar.ab.map bL.cells)),(own x.2.2.2.2.2.2.2.1 x.2.2.2.2.2.2.2.2.1 3 1 (r.bg.map iC)),(own x.2.2.2.2.2.2.2.2.2.1 x.2.2.2.2.2.2.2.2.2.2.1 3 1 (r.cm.map iC)),(own x.2.2.2.2.2.2.2.2.2.2.2.1 x.2.2.2.2.2.2.2.2.2.2.2.2.1 68 1 (List.zipWith cz r.aB x.2.2.2.2.2.2.2.2.2.2.2.2.2)),(bS (bk vp r.aB x.2.2.2.2.2.2.2.2.2.2.2.2.2))]):=by
 have p:=hin.line
 have Id:=hin.gQ
 have G:=hin.has
 have H1:=hin.gX
 have HY:=hin.draw
 have IO:=jE (r:=r)
 have C1:=vZ hng
 refine fJ kr Tryz.func46 U U fun w0 Q hQ hN=>?_
 try dsimp only
 refine WS fun _ FP=>ed U fun b2=>AL U Sb fun b3=>RK FP<|WS fun _ FS=>rP 1 [] mn ?_
 refine rS (LP (cu.cells (jr r.ar kA kC cA cC bA bC)) 1 U bX U U U)<|cX (K2 r.ar kA kC az cA cC bA bC (by exact p) (by exact C1.1)) (br [2,3,4,5]) U fun y5 GY=>?_
 obtain ⟨T,V,AA,L,s,K,N⟩:=y5
 try dsimp only
 obtain ⟨Fd,Fn⟩:=GY
 refine bx 1 U<|Ud (fF.cells (fF.mk (cu.mk (bR.mk (bK.mk T r.ar.aO.length V)) r.ar.ib (bK.mk AA r.ar.aj.length L) (bK.mk K r.ar.ab.length N) r.ar.b_ r.ar.e9 r.ar.dp) (bK.mk slA r.bg.length slC) (bK.mk drA r.cm.length drC) r.kY (bK.mk heA r.aB.length heC))) U GN U U<|RK FS<|WS fun _ v=>qe U dJ U fun DE=>rP 2 [] (mc 6 U mn) ?_
 refine iH (es:=(List.map iC [])) (C':=[own (some ⟨DE,0,none⟩) 0 3 1 (List.map iC []),_,_,_,_,_,_,_,_,_,_,_,_,_,_]) 0 U sm U (by simp [maxLen]) U ?_
 refine dA (es2:=(List.map iC r.bg)) (m':=r.bg.length) 0 U U U qz U U sm (ax 11 U) (kG _) (by simp; omega) (by simp only [maxLen]; simp; omega) sm sm U fun X Y=>?_
 try dsimp only
 refine bx 1 U<|Uc (fF.cells (fF.mk (cu.mk (bR.mk (bK.mk T r.ar.aO.length V)) r.ar.ib (bK.mk AA r.ar.aj.length L) (bK.mk K r.ar.ab.length N) r.ar.b_ r.ar.e9 r.ar.dp) (bK.mk X r.bg.length Y) (bK.mk drA r.cm.length drC) r.kY (bK.mk heA r.aB.length heC))) U F3 U U<|RK v<|WS fun _ w=>qe U dJ U fun DW=>rP 2 [] (mc 7 U mn) ?_
 refine iH (es:=(List.map iC [])) (C':=[own (some ⟨DW,0,none⟩) 0 3 1 (List.map iC []),_,_,_,_,_,_,_,_,_,_,_,_,_,_,_]) 0 U sm U (by simp [maxLen]) U ?_
 refine dA (es2:=(List.map iC r.cm)) (m':=r.cm.length) 0 U U U qz U U sm (ax 13 U) (kG _) (by simp; omega) (by simp only [maxLen]; simp; omega) sm sm U fun g j=>?_
 try dsimp only
 refine bx 1 U<|T1 (fF.cells (fF.mk (cu.mk (bR.mk (bK.mk T r.ar.aO.length V)) r.ar.ib (bK.mk AA r.ar.aj.length L) (bK.mk K r.ar.ab.length N) r.ar.b_ r.ar.e9 r.ar.dp) (bK.mk X r.bg.length Y) (bK.mk g r.cm.length j) r.kY (bK.mk heA r.aB.length heC))) U F3 U U<|RK w<|WS fun _ AC=>qe U lZ U fun Di=>rP 2 [] (mc 8 U mn) ?_
 refine iH (es:=(List.map sC [])) (C':=[own (some ⟨Di,0,none⟩) 0 68 1 (List.map sC []),_,_,_,_,_,_,_,_,_,_,_,_,_,_,_,_]) 0 U sm U (by simp [maxLen]) U ?_
 refine dA (es2:=(List.zipWith cz r.aB ha)) (m':=r.aB.length) 0 U U U TE U U sm (ax 15 U) (E7 _ _) (by simp; omega) (by simp only [maxLen]; simp; omega) sm (iO G) U fun J M=>?_
 try dsimp only
 refine bx 1 U<|T2 (fF.cells (fF.mk (cu.mk (bR.mk (bK.mk T r.ar.aO.length V)) r.ar.ib (bK.mk AA r.ar.aj.length L) (bK.mk K r.ar.ab.length N) r.ar.b_ r.ar.e9 r.ar.dp) (bK.mk X r.bg.length Y) (bK.mk g r.cm.length j) r.kY (bK.mk J r.aB.length M))) U TA U U<|RK AC<|ak fun _ AO=>WS fun _ A0=>rP 1 [] mn ?_
 refine RK A0<|aC<|mP ?_
 have F:(0≤r.aB.length)∧(([]:List cU).length=0)∧(∀ (k:Nat) y (a:cU),r.aB[k]? =some y→([]:List cU)[k]? =some a→a.2.length=y.length):=by exact ⟨Nat.zero_le _,rfl,fun k y a _ q=>by simp at q⟩
 refine bQ (ι:={z:Nat×(List cU) // (z.1≤r.aB.length)∧(z.2.length=z.1)∧(∀ (k:Nat) y (a:cU),r.aB[k]? =some y→z.2[k]? =some a→a.2.length=y.length)}) [1,2] [2,3,4,5,6,7,8,9,10,11,12,13,14,15,16,17] U U (fun z=>[(3,(vI (z.1.1:Int)))]) (fun z=>[(bS (bk vp (r.aB.take z.1.1) z.1.2)),(own J M 68 1 (List.zipWith cz r.aB (l3 z.1.2 ha z.1.1)))]) (fun _=>rfl) (fun _=>rfl) (fun z=>r.aB.length-z.1.1) ⟨(0,([]:List cU)),F⟩ (bu U) (aN [2,3,4,5,6,7,8,9,10,11,12,13,14,15,16,17,0,1]) ?_
 clear F
 rintro ⟨⟨h,hz⟩,⟨m,B,S⟩⟩ J28 t
 try dsimp only at m B S
 try dsimp only
 refine ak fun _ A1=>WS fun _ A2=>rP 5 [] (mc 7 U mn) ?_
 refine RK A2<|bO U (aS fun EQ=>?_) (aT fun EQ=>?_)
 ·refine bM<|ag<|ag<|aG<|KK AO<|ak fun _ A9=>?_
  have GE:Hk r.aB hz:=⟨I,S⟩
  rw [show (l3 hz ha h)=hz from AS I,show r.aB.take h=r.aB from List.take_of_length_le I]
  refine au<|rP 1 [] (mc 7 U mn) ?_
  refine QJ U PR U<|RK A9<|ao ?_
  refine LX hQ (T,V,AA,L,s,K,N,X,Y,g,j,J,M,hz) [2,3,4,5,1,0,17,16] [0] (mc 6 U mn) U (by show List.all _ _=true; simp only [eH,List.all_nil,pJ,AQ,Bool.and_true]; rfl) U U ?_
  exact ⟨⟨Fd,Fn⟩,GE⟩
 refine WK A1<|ak fun _ A3=>aC<|ak fun _ A4=>dx ck [3,9,11] [6,7,8] [0,1] [0,1,2,3,4,5,6,7,8,9,10,11,12,13,14,15,16] [0,1,2,3,4,5,6,7,8,9,10,11,12,13,14,15,16,17] U U U U U<|eS U (FA 10 U eV U)<|eS U (L1 (vS J r.aB.length M) 7 U bX U U)<|eS U (MV U)<|eS U (FA 10 U eV U)<|eS U (L1 (vS J r.aB.length M) 7 U bX U U)<|eS U (MV U) ?_
 obtain ⟨ht,AB⟩:=aF r.aB h I
 obtain ⟨C,O⟩:=aF ha h I
 have e:(List.zipWith cz r.aB (l3 hz ha h))[h]? =some (cz ht C):=cZ AB (EN B O)
 have C2:=hin.fX _ _ _ AB O
 have H:=C2.mq
 have C3:=C1.2.2.2.2 ht (aP AB)
 refine fS U (IA h U (aL (n:=r.aB.length) 17 U (iO (by rw [jh B I]; exact G))) lZ dc I I) ?_
 refine fS U (h_ h 0 (vS C.1.1 ht.length C.1.2) U bX (aL (n:=r.aB.length) 17 U (iO (by rw [jh B I]; exact G))) e U dc U) ?_
 refine fS U (IA h U (aL (n:=r.aB.length) 17 U (iO (by rw [jh B I]; exact G))) lZ dc I I) ?_
 refine eo U<|jJ U fun T34 Bv=>qe U qk U fun Do=>aD (Bv _ _ (aN [1,2,3,4,5,6,7,8,9,10,11,12,13,14,15,16,17]) (aN [1,2,3,4,5,6,7,8,9,10,11,12,13,14,15,16,17,18]) ?_)
 refine jJ U fun T36 B3=>iH (es:=(List.map bf.cells [])) (C':=[own (some ⟨Do,0,none⟩) 0 67 7 (List.map bf.cells []),_,_,_,_,_,_,_,_,_,_,_,_,_,_,_,_,_,_]) 0 U sm U (by simp [maxLen]) U ?_
 refine dA (es2:=(List.zipWith aw.cells ht C.2)) (m':=ht.length) 0 U U U SM U U sm (show hH _ (rd C.1.1 ht.length 7 (List.zipWith aw.cells ht C.2)).holds from (cj 16 U (bD AB O ct))) (Ln _ _) (by simp; omega) (by simp only [maxLen]; simp; omega) sm (nO H) U fun D E=>?_
 try dsimp only
 refine aD (B3 _ _ (aN [1,2,3,4,5,6,7,8,9,10,11,12,13,14,15,16,17]) (aN [1,2,3,4,5,6,7,8,9,10,11,12,13,14,15,16,17,18]) ?_)
 refine cd U fun T39 B9=>gp (k:=h) (o:=0) (vs:=[(vS D ht.length E)]) (es':=(List.zipWith cz r.aB (l3 (hz++[((D,E),C.2)]) ha (h+1)))) (C':=[_,_,_,_,_,_,_,_,_,_,_,_,_,_,_,_,_,_,(own J M 68 1 (List.zipWith cz r.aB (l3 (hz++[((D,E),C.2)]) ha (h+1))))]) 18 U U U Sm U U U U e U dc (by exact Bd (b:=((D,E),C.2)) AB B O) U<|aD (B9 _ _ (aN [1,2,3,4,5,6,7,8,9,10,11,12,13,14,15,16,17]) ?_)
 refine fh U<|KK A4<|WS fun _ A5=>rP 1 [] mn ?_
 refine RK A5<|aC<|mP ?_
 have F:(0≤ht.length)∧(([]:List RA).length=0):=by exact ⟨Nat.zero_le _,rfl⟩
 refine bQ (ι:={z:Nat×(List RA) // (z.1≤ht.length)∧(z.2.length=z.1)}) [1,2,3] [2,3,4,5,6,7,8,9,10,11,12,13,14,15,16,17,18,19] U U (fun z=>[(4,(vI (z.1.1:Int)))]) (fun z=>[(bS (bk C8 (ht.take z.1.1) z.1.2)),(own D E 67 7 (List.zipWith aw.cells ht (l3 z.1.2 C.2 z.1.1)))]) (fun _=>rfl) (fun _=>rfl) (fun z=>ht.length-z.1.1) ⟨(0,([]:List RA)),F⟩ (bu U) (aN [2,3,4,5,6,7,8,9,10,11,12,13,14,15,16,17,18,19,0,1]) ?_
 clear F
 rintro ⟨⟨i,dz⟩,⟨Z,A⟩⟩ J41 u
 try dsimp only at Z A
 try dsimp only
 refine ak fun _ A6=>WS fun _ A7=>rP 4 [] (mc 7 U mn) ?_
 have W:(List.zipWith cz r.aB (l3 (hz++[((D,E),C.2)]) ha (h+1)))[h]? =some (cz ht ((D,E),C.2)):=cZ AB (Hb B)
 refine rS (IA h U (aL (n:=r.aB.length) 17 U (iO (by rw [jh (by simp; omega) I]; exact G))) lZ dc I I) ?_
 refine rS (h_ h 0 (vS D ht.length E) U bX (aL (n:=r.aB.length) 17 U (iO (by rw [jh (by simp; omega) I]; exact G))) W U dc U) ?_
 refine rP 2 [] mn ?_
 refine RK A7<|bO U (aS fun Eq=>?_) (aT fun Eq=>?_)
 ·refine bM<|ag<|ag<|aG<|aK<|KK A3<|au<|rP 3 [] mn ?_
  refine aD ?_
  have Hi:dz.length=ht.length:=by omega
  rw [show (l3 dz C.2 i)=dz from AS I,show ht.take i=ht from List.take_of_length_le I]
  refine Og (Z':=bk vp (r.aB.take (h+1)) (hz++[((D,E),dz)])) 16 18 19 U U (xT (f:=vp) (b:=((D,E),dz)) AB B) ?_
  rw [G0 (y:=dz)]
  have Cx:(vI (((h+1):Nat):Int))=(vI ((h:Int)+1)):=by exact cI I
  refine bj (t ⟨((h+1),(hz++[((D,E),dz)])),⟨I,by simp; omega,Kj AB S B dso⟩⟩ _ _ _ U os (dh.cons U<|dh.cons U<|a_ U Cx<|dh.nil _) (aN [1,2,3,4,5,6,7,8,9,10,11,12,13,14,15,16,0,17]))
 refine WK A6<|ak fun _ A8=>aC<|dx ck [15,18] [12,13,14,15,16] [0] [0,1,2,3,4,5,6,7,8,9,10,11,12,13,14,15,16,17,18] [0,1,2,3,4,5,6,7,8,9,10,11,12,13,14,15,16,17,18,19] U U U U U<|eS U (FA 10 U eV U)<|eS U (L1 (vS J r.aB.length M) 7 U bX U U)<|eS U (MV U) ?_
 refine eS U (IA h U (aL (n:=r.aB.length) 17 U (iO (by rw [jh (by simp; omega) I]; exact G))) lZ dc I I) ?_
 refine eS U (h_ h 0 (vS D ht.length E) U bX (aL (n:=r.aB.length) 17 U (iO (by rw [jh (by simp; omega) I]; exact G))) W U dc U) ?_
 refine eS U (MV U)<|eS U (FA 10 U eV U)<|eS U (L1 (vS J r.aB.length M) 7 U bX U U)<|eS U (MV U) ?_
 refine eS U (IA h U (aL (n:=r.aB.length) 17 U (iO (by rw [jh (by simp; omega) I]; exact G))) lZ dc I I) ?_
 refine eS U (h_ h 0 (vS D ht.length E) U bX (aL (n:=r.aB.length) 17 U (iO (by rw [jh (by simp; omega) I]; exact G))) W U dc U) ?_
 refine eS U (MV U) ?_
 obtain ⟨d,hd⟩:=aF ht i I
 obtain ⟨da,l⟩:=aF C.2 i I
 have C0:(List.zipWith aw.cells ht (l3 dz C.2 i))[i]? =some (aw.cells d da):=cZ hd (EN A l)
 have GT:=C2.sig d (aP hd)
 have Ho:=C3.2 d (aP hd)
 refine fS U (IA i U (aL (n:=ht.length) 19 U (nO (by rw [jh A I]; exact H))) qk dc I I) ?_
 refine fS U (oL ((i*7)+4) U (aL (n:=ht.length) 19 U (nO (by rw [jh A I]; exact H))) (Nat.mul_pos I dc) eV U) ?_
 refine fS U (jL i 4 (de.cells (de.mk d.aZ.Start d.aZ.fP (bK.mk da.1 d.aZ.aa.length da.2))) U bX (aL (n:=ht.length) 19 U (nO (by rw [jh A I]; exact H))) C0 U dc U U) ?_
 refine fS U (IA i U (aL (n:=ht.length) 19 U (nO (by rw [jh A I]; exact H))) qk dc I I) ?_
 refine fS U (oL ((i*7)+4) U (aL (n:=ht.length) 19 U (nO (by rw [jh A I]; exact H))) (Nat.mul_pos I dc) eV U) ?_
 refine eo U<|jJ U fun T46 Ci=>cX (Lm d.aZ da.1 da.2 (by exact GT)) (aQ (show hH _ (rd da.1 d.aZ.aa.length 2 (d.aZ.aa.map aH.cells)).holds from (cj 15 U (bD AB O (dH _ (bD hd l (by simp [aw.fu]))))))<|aR) U fun Go IR=>?_
 obtain ⟨P,R⟩:=Go
 try dsimp only
 refine aD (Ci _ _ (aN [1,2,3,4,5,6,7,8,9,10,11,12,13,14,15,16,17,18,19]) (aN [1,2,3,4,5,6,7,8,9,10,11,12,13,14,15,16,17,18,19,20]) ?_)
 refine cd U fun T51 Ck=>gp (k:=i) (o:=4) (vs:=(de.cells (im d.aZ P R))) (es':=(List.zipWith aw.cells ht (l3 (dz++[(P,R)]) C.2 (i+1)))) (C':=[_,_,_,_,_,_,_,_,_,_,_,_,_,_,_,_,_,_,_,_,(own D E 67 7 (List.zipWith aw.cells ht (l3 (dz++[(P,R)]) C.2 (i+1))))]) 20 U U U QU U U U U C0 U dc (by exact Bd (c:=aw.cells) (b:=(P,R)) hd A l) U<|aD (Ck _ _ (aN [1,2,3,4,5,6,7,8,9,10,11,12,13,14,15,16,17,18,19]) ?_)
 refine fh U<|aK<|KK A8<|au<|rP 3 [] mn ?_
 refine aD<|G2 (Y':=bk C8 (ht.take (i+1)) (dz++[(P,R)])) 19 0 U U (xT (f:=C8) (b:=(P,R)) hd A) ?_
 have Cp:(vI (((i+1):Nat):Int))=(vI ((i:Int)+1)):=by exact cI I
 refine bj (u ⟨((i+1),(dz++[(P,R)])),⟨I,by simp; omega⟩⟩ _ _ _ U os (cN 3<|a_ U Cp<|dh.nil _) (aN [1,2,3,4,5,6,7,8,9,10,11,12,13,14,15,16,17,18,0,19]))
end
section
open Go.RowKit
theorem Lj (j:dk) (kA:OA) (kC:Nat) (az:List RA) (cA:OA) (cC:Nat) (bA:OA) (bC:Nat) (slA:OA) (slC:Nat) (drA:OA) (drC:Nat) (ha:List cU) (heA:OA) (heC:Nat) (faA:OA) (faC:Nat) (prA:OA) (prC:Nat) (hin:fY j az ha) (hng: ¬ nA j):
 qf Tryz.prog 9 [(vA (fW.cells (n7 j kA kC cA cC bA bC slA slC drA drC heA heC faA faC prA prC)))] [(rd kA j.Race.ar.aO.length 9 (j.Race.ar.aO.map aq.cells)),(rd cA j.Race.ar.aj.length 2 (List.zipWith av.cells j.Race.ar.aj az)),(dL (bk av.fu j.Race.ar.aj az)),(rd bA j.Race.ar.ab.length 4 (j.Race.ar.ab.map bL.cells)),(rd slA j.Race.bg.length 1 (j.Race.bg.map iC)),(rd drA j.Race.cm.length 1 (j.Race.cm.map iC)),(rd heA j.Race.aB.length 1 (List.zipWith cz j.Race.aB ha)),(dL (bk eO j.Race.aB ha)),(rd faA j.ay.length 4 (j.ay.map aX.cells)),(rd prA j.aM.length 5 (j.aM.map bI.cells))] (fun (x:(OA)×Nat×(OA)×Nat×(List RA)×(OA)×Nat×(OA)×Nat×(OA)×Nat×(OA)×Nat×(List cU)×(OA)×Nat×(OA)×Nat)=>(vA (fW.cells (fW.mk (fF.mk (cu.mk (bR.mk (bK.mk x.1 j.Race.ar.aO.length x.2.1)) j.Race.ar.ib (bK.mk x.2.2.1 j.Race.ar.aj.length x.2.2.2.1) (bK.mk x.2.2.2.2.2.1 j.Race.ar.ab.length x.2.2.2.2.2.2.1) j.Race.ar.b_ j.Race.ar.e9 j.Race.ar.dp) (bK.mk x.2.2.2.2.2.2.2.1 j.Race.bg.length x.2.2.2.2.2.2.2.2.1) (bK.mk x.2.2.2.2.2.2.2.2.2.1 j.Race.cm.length x.2.2.2.2.2.2.2.2.2.2.1) j.Race.kY (bK.mk x.2.2.2.2.2.2.2.2.2.2.2.1 j.Race.aB.length x.2.2.2.2.2.2.2.2.2.2.2.2.1)) (bK.mk x.2.2.2.2.2.2.2.2.2.2.2.2.2.2.1 j.ay.length x.2.2.2.2.2.2.2.2.2.2.2.2.2.2.2.1) (bK.mk x.2.2.2.2.2.2.2.2.2.2.2.2.2.2.2.2.1 j.aM.length x.2.2.2.2.2.2.2.2.2.2.2.2.2.2.2.2.2) j.fQ j.z8)))) (fun (x:(OA)×Nat×(OA)×Nat×(List RA)×(OA)×Nat×(OA)×Nat×(OA)×Nat×(OA)×Nat×(List cU)×(OA)×Nat×(OA)×Nat)=>(x.2.2.2.2.1.length=j.Race.ar.aj.length∧tw j.Race.ar.aj x.2.2.2.2.1)∧Hk j.Race.aB x.2.2.2.2.2.2.2.2.2.2.2.2.2.1) (fun (x:(OA)×Nat×(OA)×Nat×(List RA)×(OA)×Nat×(OA)×Nat×(OA)×Nat×(OA)×Nat×(List cU)×(OA)×Nat×(OA)×Nat)=>[(own x.1 x.2.1 160 9 (j.Race.ar.aO.map aq.cells)),(own x.2.2.1 x.2.2.2.1 165 2 (List.zipWith av.cells j.Race.ar.aj x.2.2.2.2.1)),(bS (bk av.owns j.Race.ar.aj x.2.2.2.2.1)),(own x.2.2.2.2.2.1 x.2.2.2.2.2.2.1 137 4 (j.Race.ar.ab.map bL.cells)),(own x.2.2.2.2.2.2.2.1 x.2.2.2.2.2.2.2.2.1 3 1 (j.Race.bg.map iC)),(own x.2.2.2.2.2.2.2.2.2.1 x.2.2.2.2.2.2.2.2.2.2.1 3 1 (j.Race.cm.map iC)),(own x.2.2.2.2.2.2.2.2.2.2.2.1 x.2.2.2.2.2.2.2.2.2.2.2.2.1 68 1 (List.zipWith cz j.Race.aB x.2.2.2.2.2.2.2.2.2.2.2.2.2.1)),(bS (bk vp j.Race.aB x.2.2.2.2.2.2.2.2.2.2.2.2.2.1)),(own x.2.2.2.2.2.2.2.2.2.2.2.2.2.2.1 x.2.2.2.2.2.2.2.2.2.2.2.2.2.2.2.1 71 4 (j.ay.map aX.cells)),(own x.2.2.2.2.2.2.2.2.2.2.2.2.2.2.2.2.1 x.2.2.2.2.2.2.2.2.2.2.2.2.2.2.2.2.2 73 5 (j.aM.map bI.cells))]):=by
 have V:=hin.race
 have f:=hin.race.line
 have l:=hin.race.gQ
 have m:=hin.race.has
 have k:=hin.race.gX
 have h:=hin.nf
 have i:=hin.np
 have d:=v9 hng
 refine fJ kr Tryz.func9 U U fun q Q hQ hN=>?_
 try dsimp only
 refine WS fun _ Z=>ed U fun o=>AL U Qw fun p=>RK Z<|WS fun _ a=>rP 1 [] mn ?_
 refine rS (LP (fF.cells (xH j.Race kA kC cA cC bA bC slA slC drA drC heA heC)) 1 U bX U U U)<|cX (CG j.Race kA kC az cA cC bA bC slA slC drA drC ha heA heC (by exact V) (by exact d.1)) (br [2,3,4,5,6,7,8,9]) U fun n g=>?_
 obtain ⟨J,L,K,E,P,A,F,B,G,C,H,D,AB,W⟩:=n
 try dsimp only
 obtain ⟨⟨b,c⟩,e⟩:=g
 refine bx 1 U<|Ua (fW.cells (fW.mk (fF.mk (cu.mk (bR.mk (bK.mk J j.Race.ar.aO.length L)) j.Race.ar.ib (bK.mk K j.Race.ar.aj.length E) (bK.mk A j.Race.ar.ab.length F) j.Race.ar.b_ j.Race.ar.e9 j.Race.ar.dp) (bK.mk B j.Race.bg.length G) (bK.mk C j.Race.cm.length H) j.Race.kY (bK.mk D j.Race.aB.length AB)) (bK.mk faA j.ay.length faC) (bK.mk prA j.aM.length prC) j.fQ j.z8)) U PR U U<|RK a<|WS fun _ S=>qe U xB U fun X=>rP 2 [] (mc 10 U mn) ?_
 refine iH (es:=(List.map aX.cells [])) (C':=[own (some ⟨X,0,none⟩) 0 71 4 (List.map aX.cells []),_,_,_,_,_,_,_,_,_,_,_,_,_,_,_,_,_,_,_,_]) 0 U sm U (by simp [maxLen]) U ?_
 refine dA (es2:=(List.map aX.cells j.ay)) (m':=j.ay.length) 0 U U U Sa U U sm (ax 19 U) (uA _) (by simp; omega) (by simp only [maxLen]; simp; omega) sm sm U fun M N=>?_
 try dsimp only
 refine bx 1 U<|Ph (fW.cells (fW.mk (fF.mk (cu.mk (bR.mk (bK.mk J j.Race.ar.aO.length L)) j.Race.ar.ib (bK.mk K j.Race.ar.aj.length E) (bK.mk A j.Race.ar.ab.length F) j.Race.ar.b_ j.Race.ar.e9 j.Race.ar.dp) (bK.mk B j.Race.bg.length G) (bK.mk C j.Race.cm.length H) j.Race.kY (bK.mk D j.Race.aB.length AB)) (bK.mk M j.ay.length N) (bK.mk prA j.aM.length prC) j.fQ j.z8)) U Sg U U<|RK S<|WS fun _ T=>qe U BJ U fun Y=>rP 2 [] (mc 11 U mn) ?_
 refine iH (es:=(List.map bI.cells [])) (C':=[own (some ⟨Y,0,none⟩) 0 73 5 (List.map bI.cells []),_,_,_,_,_,_,_,_,_,_,_,_,_,_,_,_,_,_,_,_,_]) 0 U sm U (by simp [maxLen]) U ?_
 refine dA (es2:=(List.map bI.cells j.aM)) (m':=j.aM.length) 0 U U U So U U sm (ax 21 U) (sQ _) (by simp; omega) (by simp only [maxLen]; simp; omega) sm sm U fun O R=>?_
 try dsimp only
 refine bx 1 U<|Qi (fW.cells (fW.mk (fF.mk (cu.mk (bR.mk (bK.mk J j.Race.ar.aO.length L)) j.Race.ar.ib (bK.mk K j.Race.ar.aj.length E) (bK.mk A j.Race.ar.ab.length F) j.Race.ar.b_ j.Race.ar.e9 j.Race.ar.dp) (bK.mk B j.Race.bg.length G) (bK.mk C j.Race.cm.length H) j.Race.kY (bK.mk D j.Race.aB.length AB)) (bK.mk M j.ay.length N) (bK.mk O j.aM.length R) j.fQ j.z8)) U SU U U<|RK T<|WS fun _ AA=>rP 1 [] (mc 11 U mn) ?_
 refine S0 U QD U<|RK AA<|ao ?_
 refine LX hQ (J,L,K,E,P,A,F,B,G,C,H,D,AB,W,M,N,O,R) [2,3,4,5,6,7,8,9,1,0] [0] (mc 10 U mn) U (by show List.all _ _=true; simp only [eH,List.all_nil,pJ,AQ,Bool.and_true]; rfl) U U ?_
 exact ⟨⟨b,c⟩,e⟩
end
section
theorem TN.sub {E:fI} {ops:Array Oper} {Q:dw} {D:ir} {C' C1 C:List aA} {tb rem:List Nat}: ∀ {n:Nat} {L L':dC},dh L L'→TN E ops D C' C1 (fun L C=>KJ E (Q .normal) D L C) tb n rem L' C→TN E ops D C' C1 (fun L C=>KJ E (Q .normal) D L C) tb n rem L C:=by
 intro n
 cases n with
 |zero=>intro L L' hs h; exact jY hs (fun _ h=>h) h
 |succ n=>intro L L' hs h i hi o ho K hK; exact MT hs (fun _ h=>h) (h i hi o ho K hK)
theorem LZ {E:fI} {ops:Array Oper} {Q:dw} {D:ir} {C' C1 C:List aA} {bs:List Bool} {os:List Oper} {L:dC} {tb rem:List Nat} {n:Nat} {t:Nat} {b:Bool} (h:L.lookup t=some (.bool b))
 (h1:b=true→qn E ops D C' C1 (fun L'=>TN E ops D C' C1 (fun L C=>KJ E (Q .normal) D L C) tb n rem L' C) bs os ((t,.bool true)::L)) (h2:b=false→qn E ops D C' C1 (fun L'=>TN E ops D C' C1 (fun L C=>KJ E (Q .normal) D L C) tb n rem L' C) bs os ((t,.bool false)::L)):
 qn E ops D C' C1 (fun L'=>TN E ops D C' C1 (fun L C=>KJ E (Q .normal) D L C) tb n rem L' C) bs os L:=by
 have A: ∀ v:Bool,b=v→dh L ((t,.bool v)::L):=fun v hv=>dh.cons (hv▸h) (fun _ _ h=>h)
 cases b
 ·exact qn.mono (fun _ _=>TN.sub) (A _ U) (h2 U)
 ·exact qn.mono (fun _ _=>TN.sub) (A _ U) (h1 U)
theorem PF {E:fI} {ops:Array Oper} {Q:dw} {D:List Deferred} {L:List (Nat×Value)} {C1 C2 C:List aA} {t n:Nat} {b:Bool} {bs:List Bool} {os:List Oper} {tb rem:List Nat} (h:L.lookup t=some (.bool b)) (h2:b=false→qn E ops D C2 C1 (fun L2=>TN E ops D C2 C1 (fun L C=>KJ E (Q .normal) D L C) tb n rem L2 C) bs os ((t,.bool false)::L)) (h1:b=true→qn E ops D C2 C1 (fun L2=>TN E ops D C2 C1 (fun L C=>KJ E (Q .normal) D L C) tb n rem L2 C) bs os ((t,.bool true)::L)):qn E ops D C2 C1 (fun L2=>TN E ops D C2 C1 (fun L C=>KJ E (Q .normal) D L C) tb n rem L2 C) bs os L:=LZ h h1 h2
end
section
open Go.RowKit
section
variable {P:Program} {t:TypeId} {x y:Operand}
end
section
variable {E:fI} {ops:Array Oper} {Q:dw} {rest:List Oper} {D:List Deferred} {L:List (Nat×Value)} {C:List aA}
variable {dst:Option Tmp} {d:Nat} {ty:TypeId} {ps:String} {af:Array Edge} {g:Option (Nat×Bool)}
theorem L8 {A:aA} (i:Nat) (h:C[i]? =some A.ro):hH C A.holds:=fun w hw=>by
 have B:=hw A.ro (aP h)
 exact B
end
end
section
open Go.RowKit
def kQ (b:Bool):List Value:=[.bool b]
@[simp] theorem zY (b:Bool):(kQ b).length=1:=rfl
theorem F_ (l:List Bool): ∀ v∈(l.map kQ).flatten,v.oneCell'=true:=kN (fun s=>rfl) l
end
section
def lV (r:eM) (i:Nat):Prop:= ∀ (j:Nat) x,j<i→r.aB[j]? =some x→ ¬ oV x
def nq (x:List aw) (i:Nat):Prop:= ∀ (j:Nat) d,j<i→x[j]? =some d→ ¬ 15<(d.aZ.aa.length:Int)
section
variable {r:eM} {i:Nat} {x:List aw} {d:aw}
theorem AF:lV r 0:=fun j x hj=>absurd hj (Nat.not_lt_zero _)
theorem Bw (h:lV r i) (hx:r.aB[i]? =some x) (ho: ¬ oV x):lV r (i+1):=fun j y hj hy=>by
 rcases Nat.lt_or_ge j i with q|q
 ·exact h j y q hy
 ·obtain rfl:j=i:=by omega
  rw [hx] at hy; cases hy; exact ho
theorem AU:nq x 0:=fun j x hj=>absurd hj (Nat.not_lt_zero _)
theorem Be (h:nq x i) (hx:x[i]? =some d) (ho: ¬ 15<(d.aZ.aa.length:Int)):nq x (i+1):=fun j y hj hy=>by
 rcases Nat.lt_or_ge j i with q|q
 ·exact h j y q hy
 ·obtain rfl:j=i:=by omega
  rw [hx] at hy; cases hy; exact ho
theorem Dg (hl: ¬ 8<(x.length:Int)) (h:nq x i) (hi:x.length≤i): ¬ oV x:=by
 rintro (q|⟨d,hd,q⟩)
 ·exact hl q
 ·obtain ⟨j,hj⟩:=List.getElem?_of_mem hd
  exact h j d (by have:=(aU.1 hj).1; omega) hj q
theorem Gq (h1: ¬ ld r.ar) (h2: ¬ 8<(r.bg.length:Int)∧ ¬ 8<(r.cm.length:Int)∧ ¬ 5<(r.aB.length:Int)) (h:lV r i) (hi:r.aB.length≤i): ¬ kX r:=by
 rintro ((q|q)|⟨x,hx,q⟩)
 ·exact h1 q
 ·omega
 ·obtain ⟨j,hj⟩:=List.getElem?_of_mem hx
  exact h j x (by have:=(aU.1 hj).1; omega) hj q
theorem pD (h:ld r.ar∨8<(r.bg.length:Int)∨8<(r.cm.length:Int)∨5<(r.aB.length:Int)):kX r:= .inl h
theorem Bg (hx:r.aB[i]? =some x) (h:8<(x.length:Int)):kX r:= .inr ⟨x,aP hx,.inl h⟩
theorem CE {j:Nat} (hx:r.aB[i]? =some x) (hd:x[j]? =some d) (h:15<(d.aZ.aa.length:Int)):kX r:= .inr ⟨x,aP hx,.inr ⟨d,aP hd,h⟩⟩
end
noncomputable def o8 (l:bo) (d:aw):ai:=if d.Out=true then g4 else gi l d
theorem Jg {l:bo} {d:aw} (h:jk l d):o8 l d=gi l d:=by
 unfold o8
 split
 ·rename_i q
  rw [Eh q]
  rw [qE q] at h
  exact h.2.1.symm
 ·rfl
theorem z6 {l:bo} {d:aw} (h:d.Out=true):o8 l d=g4:=if_pos h
theorem D5 {l:bo} {d:aw} (h:d.Out=false∧d.cO=true):o8 l d=d.Time:=by unfold o8; rw [if_neg (by rw [h.1]; decide),Ep h]
theorem D6 {l:bo} {d:aw} (h:d.Out=false∧d.cO=false):o8 l d=Bt l d.aZ:=by unfold o8; rw [if_neg (by rw [h.1]; decide),Eu h]
def Q0 (r:eM) (j:Nat):Prop:= ∀ x,r.bg[j]? =some x→(0≤x∧x≤9999)∧ ∀ y,0<j→r.bg[j-1]? =some y→y<x
def G_ (r:eM) (j:Nat):Prop:= ∀ x,r.cm[j]? =some x→(0≤x∧x≤(r.bg.length:Int)-1)∧ ∀ (k:Nat) y,k<j→r.cm[k]? =some y→y≠x
def xU (r:eM) (i:Nat):Prop:= ∀ j,j<i→Q0 r j∧G_ r j
section
variable {r:eM} {i k:Nat} {x:Int}
theorem HG:xU r 0:=fun j hj=>absurd hj (Nat.not_lt_zero _)
theorem B4 (h:xU r i) (h1:Q0 r i) (h2:G_ r i):xU r (i+1):=fun j hj=>by
 rcases Nat.lt_or_ge j i with q|q
 ·exact h j q
 ·obtain rfl:j=i:=by omega
  exact ⟨h1,h2⟩
theorem x7 {l:List Int} {u v:Int} (h: ∀ (q:Nat) y,q<k→l[q]? =some y→y≠v) (hx:l[k]? =some u) (hne: ¬ u=v): ∀ (q:Nat) y,q<k+1→l[q]? =some y→y≠v:=fun q y hq hy=>by
 rcases Nat.lt_or_ge q k with c|c
 ·exact h q y c hy
 ·obtain rfl:q=k:=by omega
  rw [hx] at hy; cases hy; exact hne
theorem Jt (hl:r.cm.length=r.bg.length) (h:xU r r.bg.length):r.cm.Perm (F8 r.bg.length):=by
 have nd:r.cm.Nodup:=by
  rw [List.nodup_iff_pairwise_ne,eN]
  intro a b ha hb A
  exact ((h b I).2 _ (eX hb)).2 a _ A (eX ha)
 have hm: ∀ x∈r.cm,x∈F8 r.bg.length:=fun x hx=>by
  obtain ⟨j,hj⟩:=List.getElem?_of_mem hx
  have:=((h j (by have:=(aU.1 hj).1; omega)).2 x hj).1
  exact cE.2 ⟨x.toNat,List.mem_range.2 I,I⟩
 have ndu:(F8 r.bg.length).Nodup:=by
  unfold F8
  rw [List.nodup_iff_pairwise_ne,List.pairwise_map]
  exact List.pairwise_lt_range.imp fun h=>by omega
 have e:nM r.cm=(F8 r.bg.length).filter fun x=>decide (x∈r.cm):=by
  refine Gs sU ((xo _).filter _) (l4.nodup_iff.2 nd) (ndu.filter _) fun x=>?_
  rw [l4.mem_iff,List.mem_filter,decide_eq_true_eq]
  exact ⟨fun q=>⟨hm x q,q⟩,fun q=>q.2⟩
 have B:=congrArg List.length e
 rw [sT,hl] at B
 have C:(F8 r.bg.length).filter (fun x=>decide (x∈r.cm))=F8 r.bg.length:=List.filter_sublist.eq_of_length (by rw [← B]; simp)
 rw [C] at e
 rw [← e]; exact l4.symm
theorem F1 {n:Nat} (h1:1≤(r.bg.length:Int)∧(r.bg.length:Int)≤5) (h2:r.cm.length=r.bg.length) (h3:0≤r.kY∧r.kY≤5) (h4:1≤(r.aB.length:Int)∧(r.aB.length:Int)≤3)
 (hn:n=r.bg.length) (h6:xU r n) (h7:ko r i) (hi:r.aB.length≤i):fM r:=by
 subst hn
 refine ⟨h1,h3,h4,fun k x hx=>(h6 k (aU.1 hx).1).1 x hx,Jt h2 h6,fun h hh=>?_⟩
 obtain ⟨j,hj⟩:=List.getElem?_of_mem hh
 exact h7 j h (by have:=(aU.1 hj).1; omega) hj
theorem fM.HY (h:fM r) (hx:r.cm[i]? =some x):0≤x∧x≤(r.bg.length:Int)-1:=by
 obtain ⟨k,hk,rfl⟩:=cE.1 (h.draw.mem_iff.1 (aP hx))
 have:=List.mem_range.1 hk
 omega
theorem fM.M0 (h:fM r):r.cm.Nodup:=by
 refine h.draw.nodup_iff.2 ?_
 rw [List.nodup_iff_pairwise_ne,List.pairwise_map]
 exact List.pairwise_lt_range.imp fun h=>by omega
theorem fM.OF (h:fM r) {u v:Int} (hki:k<i) (hu:r.cm[k]? =some u) (hv:r.cm[i]? =some v): ¬ u=v:=by
 have A:=h.M0
 rw [List.nodup_iff_pairwise_ne,eN] at A
 obtain ⟨a,ea⟩:=aU.1 hu
 obtain ⟨b,eb⟩:=aU.1 hv
 subst ea eb
 exact A k i a b hki
end
section
variable {r:eM} {i k n:Nat} {s:ai} {l:bo} {hs:List (List aw)}
end
section
variable {r:eM} {i x:Int} {own s:ai} {k:Nat} {ys zs:List Int}
end
section
variable {B:List Bool} {P Q:Int→Prop} {k x:Nat} {m:sD} {i y a b:Int} {ys:List Int}
end
end
section
open Go.RowKit
theorem I9 (n lo hi:Int) (g1 g2:Nat):
 dF Tryz.prog 135 [(vI n),(vP g1),(vP g2)] [(cy g1 3 [(vI lo)]),(cy g2 3 [(vI hi)])] (vB (decide (n<lo∨hi<n))):=by
 refine bE kr Tryz.func135 U U fun D Q hQ hN=>?_
 try dsimp only
 refine WS fun _ B=>bx 1 U<|RK B<|WS fun _ A=>rP 4 [] (mr 0 U mn) ?_
 refine bP (t:=8) U (aT fun C=>?_) (aS fun C=>?_)
 ·refine rP 5 [] mn ?_
  refine RK A<|ao<|Q1 hQ U U U ?_
  exact cB (cJ I).symm
 refine rP 5 [] (mr 1 U mn) ?_
 refine RK A<|ao<|Q1 hQ U U U ?_
 exact cB (gR.2 I)
theorem ic (lo hi:Int) (l:List Int) (lA:OA) (lC:Nat) (hlen:l.length≤1000000):
 dF Tryz.prog 98 [(vI lo),(vI hi),(vS lA l.length lC)] [(rd lA l.length 1 (l.map iC))] (vB (qb lo hi l)):=by
 refine bE kr Tryz.func98 U U fun F Q hQ hN=>?_
 try dsimp only
 refine WS fun _ D=>xJ U U fun A=>xJ U U fun B=>bx 1 U<|RK D<|WS fun _ E=>rP 1 [] mn ?_
 refine rS (FU U) ?_
 refine rS (CL (pY l lA lC (Value.func (.func 135) [].toArray [(vP A),(vP B)].toArray) (fun C=>(decide (C<lo∨hi<C))) (dL [(cy A 3 [(vI lo)]),(cy B 3 [(vI hi)])]) (by intro C _; exact mN (fi:=[]) (ca:=[(vP A),(vP B)]) (lD (I9 C lo hi A B) (br [0,1]))) hlen) (gu 2 U U<|aQ (lH (br [1,0]))<|aR) U) ?_
 refine rP 2 [] mn ?_
 refine RK E<|ao ?_
 exact Q1 hQ U U U U
theorem Td (n d:Int) (hd:2≤d):
 dF Tryz.prog 99 [(vI n),(vI d)] [] (vI (Ql n d)):=by
 refine bE kr Tryz.func99 U U fun C Q hQ hN=>?_
 try dsimp only
 refine WS fun _ A=>bx 1 U<|RK A<|WS fun _ B=>bx 2 U<|rS (BI U OM)<|rS (BI U Hq)<|bx 1 U<|rS (BI U (Oc I (Nk (Q_ _) hd)))<|rP 1 [] mn ?_
 refine RK B<|ao ?_
 exact Q1 hQ U U U U
theorem G1 (n d:Int) (hd:1≤d∧d≤1000000) (hn:0≤n∧n≤1000000000000000):
 dF Tryz.prog 99 [(vI n),(vI d)] [] (vI (oM n d)):=by
 refine bE kr Tryz.func99 U U fun C Q hQ hN=>?_
 try dsimp only
 refine WS fun _ A=>bx 1 U<|RK A<|WS fun _ B=>bx 5 U<|rS (BI U (tU I I I))<|rP 1 [] mn ?_
 refine RK B<|ao ?_
 exact Q1 hQ U U U U
theorem DR (c:av) (sA:OA) (sC:Nat) (at_:Int) (hc:fy c) (ha:0≤at_∧at_≤90000000):
 dF Tryz.prog 101 [(vA (dG.cells (dG.mk c.du (bK.mk sA c.bp.length sC)))),(vI at_)] [(rd sA c.bp.length 3 (c.bp.map cK.cells))] (vA (ai.cells (iK c at_))):=by
 have X:=hc.len
 have J:=hc.r9
 refine bE kr Tryz.func101 U U fun e Q hQ hN=>?_
 try dsimp only
 refine WS fun _ M=>ed U fun b=>AL U dV fun d=>RK M<|WS fun _ N=>rS (SX (bG (xs:=[(0,.const (vI (-1099511627776))),(1,.const (vI 1099511627776))]) (cs:=(ai.cells (ai.mk (-1099511627776) 1099511627776))) U U (bH gU U)) U U)<|AL U dV fun W=>fj U cT U<|RK N<|ak fun _ O=>ak fun _ P=>?_
 have R:(ai.cells (ai.mk (-1099511627776) 1099511627776))=(ai.cells (gI c at_ 0)):=by rfl
 rw [R]
 refine au<|rP 4 [] (mc 2 U mn) ?_
 refine RK P<|aC ?_
 have A:(0≤c.bp.length):=by exact Nat.zero_le _
 refine bQ (ι:={z:Nat // (z≤c.bp.length)}) [1,2,4,5,11,12] [1,2,3] U U (fun z=>[(13,(vI (z.1:Int)))]) (fun z=>[(cy W 65 (ai.cells (gI c at_ z.1)))]) (fun _=>rfl) (fun _=>rfl) (fun z=>c.bp.length-z.1) ⟨0,A⟩ (bu U) (aN [1,2,3,0]) ?_
 clear A
 rintro ⟨i,S⟩ J9 L
 try dsimp only
 refine WS fun _ B=>rP 1 [] mn ?_
 refine RK B<|ak fun _ C=>bO U (aS fun K=>?_) (aT fun K=>?_)
 ·refine bM<|ag<|ag<|aG<|KK O<|WS fun _ G=>rP 1 [] (mc 3 U mn) ?_
  refine fj U cT U<|RK G<|ao<|z9 hQ [0] (mc 0 U mn) U ?_
  rw [nz (show c.bp.length≤i by omega)]
 refine WK C<|ak fun _ D=>aC<|WS fun _ E=>?_
 obtain ⟨x,hx⟩:=aF c.bp i I
 have AA:=bJ cK.cells hx
 refine rS (IA i U (ax 2 U) od dc I I)<|rS (jL i 0 (cK.cells x) U bX (ax 2 U) AA U dc U U)<|AL U t_ fun V=>fj U ug U<|RK E<|WS fun _ F=>rP 5 [0,1] (mc 2 U (mc 0 U mn)) ?_
 have T:=hc.uO hx
 have Z:=Bk hc ha i
 have Y:=Ec J ha (show 0≤x.At∧x.At≤90000000 by omega)
 refine er 5 [] (mc 0 U mn) U<|rS (MX U)<|rS (BI U (wo ⟨I,I⟩))<|rS (CL (G1 (c.du*(max (at_-x.At) (x.At-at_))) 1000000 I I) (aR) U)<|bx 1 U<|RK F<|au<|rP 6 [0,1] (mc 4 U (mc 0 U mn)) ?_
 have a:0≤oM (c.du*max (at_-x.At) (x.At-at_)) 1000000∧oM (c.du*max (at_-x.At) (x.At-at_)) 1000000≤90001:=uQ J ha T.1
 refine bx 1 U<|rS (MX U)<|rP 7 [0,1] (mc 4 U (mc 0 U mn)) ?_
 refine rS (MN U)<|rS (SX (bG (xs:=[(0,.tmp 37),(1,.tmp 45)]) (cs:=(ai.cells (ai.mk (max ((gI c at_ i).Lo) (x.dW.Lo-(oM (c.du*(max (at_-x.At) (x.At-at_))) 1000000))) (min ((gI c at_ i).Hi) (x.dW.Hi+(oM (c.du*(max (at_-x.At) (x.At-at_))) 1000000)))))) U U (bH gU U)) U U)<|Pp U cT U<|aD<|aK<|KK D ?_
 have H:(ai.cells (ai.mk (max ((gI c at_ i).Lo) (x.dW.Lo-(oM (c.du*(max (at_-x.At) (x.At-at_))) 1000000))) (min ((gI c at_ i).Hi) (x.dW.Hi+(oM (c.du*(max (at_-x.At) (x.At-at_))) 1000000)))))=(ai.cells (gI c at_ (i+1))):=by rw [j_ hx]; rfl
 rw [H]
 refine au<|rP 2 [] mn ?_
 refine aD ?_
 have AB:(vI (((i+1):Nat):Int))=(vI ((i:Int)+1)):=by exact cI I
 refine bj (L ⟨(i+1),(by first|omega|(simp only []; omega))⟩ _ _ _ U os (cN 6<|a_ U AB<|dh.nil _) (aN [1,2,3,4]))
theorem N4 (c:av) (sA:OA) (sC:Nat) (hlen:c.bp.length≤1000000) (hcap:c.bp.length≤sC):
 dF Tryz.prog 160 [(vA (dG.cells (dG.mk c.du (bK.mk sA c.bp.length sC))))] [(rd sA c.bp.length 3 (c.bp.map cK.cells))] (vB (decide (fy c))):=by
 refine bE kr Tryz.func160 U U fun w0 Q hQ hN=>?_
 try dsimp only
 refine WS fun _ B3=>ed U fun b2=>bx 1 U<|RK B3<|zj U<|ak fun _ B9=>WS fun _ q=>rP 2 [] (mc 0 U mn) ?_
 refine eP (xs:=[.tmp 11]) (cs:=[(vI c.du)]) U dJ kJ U U U U (by simp [Value.cells]) U U fun b5=>?_
 refine rS (CL (dF.eq (ic 0 1000 ([c.du]) (some ⟨b5,0,none⟩) 1 (by (simp; done))) cD) (aQ (bq 0 U U (by simp [bU]) U)<|aR) U) ?_
 refine rP 2 [] mn ?_
 refine bP (t:=15) U (aW fun AB=>?_) (aV fun AB=>?_)
 ·refine bx 7 U<|RK q<|aI U<|WS fun _ Ci=>rP 1 [] mn ?_
  refine RK Ci<|ao<|Q1 hQ U U U ?_
  exact cB (aY fun h=>AB h.r9).symm
 refine rP 3 [] (mc 1 U mn) ?_
 refine eP (xs:=[.tmp 18]) (cs:=[(vI (c.bp.length:Int))]) U dJ kJ U U U U (by simp [Value.cells]) U U fun b7=>?_
 refine rS (CL (dF.eq (ic 1 5 ([(c.bp.length:Int)]) (some ⟨b7,0,none⟩) 1 (by (simp; done))) cD) (aQ (bq 0 U U (by simp [bU]) U)<|aR) U) ?_
 refine rP 2 [] mn ?_
 refine RK q<|cr U (aW fun O=>?_) (aV fun O=>?_)
 ·refine WS fun _ Ck=>rP 1 [] mn ?_
  refine RK Ck<|ao<|Q1 hQ U U U ?_
  exact cB (aY fun h=>O (by have:=h.len; omega)).symm
 refine WK B9<|WS fun _ Cp=>bx 1 U<|RK Cp<|WS fun _ R=>bx 1 U<|RK R<|ak fun _ S=>zW<|KK S<|ak fun _ K=>WS fun _ T=>rP 4 [] (mc 2 U mn) ?_
 refine RK T<|aC ?_
 have B:(0≤c.bp.length)∧(sw c 0):=by exact ⟨Nat.zero_le _,FL⟩
 have r:(vI (kF c 0))=(vI (-1)):=by rw [gV rfl]
 refine bQ (ι:={z:Nat // (z≤c.bp.length)∧(sw c z)}) [1,2,4,24,25] [2,3] U U (fun z=>[(3,(vI (kF c z.1))),(26,(vI (z.1:Int)))]) (fun z=>[]) (fun _=>rfl) (fun _=>rfl) (fun z=>c.bp.length-z.1) ⟨0,B⟩ (a_ U r<|bu U) (aN [2,3]) ?_
 clear B
 rintro ⟨i,⟨L,C⟩⟩ J15 P
 try dsimp only
 have Di: -1≤kF c i∧kF c i≤86400000:=NI L C
 refine WS fun _ AA=>rP 1 [] mn ?_
 refine RK AA<|ak fun _ V=>bO U (aS fun A6=>?_) (aT fun A6=>?_)
 ·refine bM<|ag<|ag<|aG<|KK K<|WS fun _ f=>rP 2 [] mn ?_
  refine RK f<|ao<|Q1 hQ U U U ?_
  exact cB (cJ (FK AB I (by have e:i=c.bp.length:=I; rw [← e]; exact C))).symm
 refine WK V<|ak fun _ W=>aC<|WS fun _ X=>rP 1 [] mn ?_
 obtain ⟨x,hx⟩:=aF c.bp i I
 have C1:=bJ cK.cells hx
 refine rS (IA i U (ax 1 U) od dc I I)<|rS (jL i 0 (cK.cells x) U bX (ax 1 U) C1 U dc U U)<|AL U t_ fun C2=>rP 1 [] mn ?_
 refine fj U ug U<|RK X ?_
 refine oa (ι:=Unit) [1,2,3,5,6,24,25,26] [0,1,2] U U (fun z=>[(4,(vB (decide (fV c i x))))]) (fun z=>[]) (fun _=>rfl) (fun _=>rfl) ?_ fun K22 G=>?_
 ·intro _
  try dsimp only
  refine ak fun _ Y=>WS fun _ Z=>er 3 [] (mc 1 U mn) U<|rS (Uf i U od I I)<|rP 2 [] mn ?_
  refine RK Z<|aC ?_
  have B:(0≤i)∧((decide (fV c i x))=(decide (mw c i x 0))):=by exact ⟨Nat.zero_le _,gR.2 CQ.symm⟩
  refine bQ (ι:={z:Nat×Bool // (z.1≤i)∧(z.2=(decide (mw c i x z.1)))}) [1,2,3,5,6,24,25,26,59,60] [0,1,2] U U (fun z=>[(4,(vB z.1.2)),(61,(vI (z.1.1:Int)))]) (fun z=>[]) (fun _=>rfl) (fun _=>rfl) (fun z=>i-z.1.1) ⟨(0,(decide (fV c i x))),B⟩ (bu U) (aN [0,1,2]) ?_
  clear B
  rintro ⟨⟨k,b⟩,⟨M,A⟩⟩ J25 F
  try dsimp only at M A
  try dsimp only
  refine WS fun _ a=>rP 1 [] mn ?_
  refine RK a<|ak fun _ d=>bO U (aS fun A8=>?_) (aT fun A8=>?_)
  ·refine bM<|ag<|ag<|aG<|KK Y<|ak fun _ m=>WS fun _ n=>rP 2 [] mn ?_
   refine RK n<|cr U (fun D=>?_) (fun D=>?_)
   ·rw [Bool.not_eq_true'] at D
    refine bM<|ag<|fB U<|ag<|ag<|aG<|KK K<|WS fun _ p=>rP 2 [] mn ?_
    refine RK p<|ao<|Q1 hQ U U U ?_
    exact cB (by have e:k=i:=I; rw [e] at A; rw [D] at A ⊢; exact (aY (I1 hx (of_decide_eq_false A.symm))).symm)
   rw [Bool.not_eq_false'] at D
   refine WK m<|au<|er 3 [] (mc 0 U mn) U<|aD<|aK<|KK W<|au<|rP 2 [] mn ?_
   refine aD ?_
   have A0:(vB true)=(vB b):=by exact cB D.symm
   have A1:(vI (kF c (i+1)))=(vI x.At):=by rw [oq hx]
   have A2:(vI (((i+1):Nat):Int))=(vI ((i:Int)+1)):=by exact cI I
   refine bj (P ⟨(i+1),⟨I,FJ C hx (by have e:k=i:=I; rw [e] at A; exact of_decide_eq_true (A.symm.trans D))⟩⟩ _ _ _ U os (dh.cons U<|dh.cons U<|a_ U A0<|dh.cons U<|dh.cons U<|a_ U A1<|a_ U A2<|dh.nil _) (aN [1,2]))
  refine WK d<|ak fun _ H=>aC<|WS fun _ g=>?_
  obtain ⟨o,ho⟩:=aF c.bp k I
  have Cx:=bJ cK.cells ho
  refine rS (Uo k U (ax 2 U) od dc I I I)<|rS (jL k 0 (cK.cells o) U bX (ax 2 U) Cx U dc U U)<|AL U t_ fun C3=>fj U ug U<|RK g<|WS fun _ l=>er 6 [0,1,2] (mc 2 U (mc 1 U (mc 0 U mn))) U<|rS (BI U Hq)<|rS (BI U N9)<|rS (CL (Td (z_ (c.du*(z_ (x.At-o.At)))) 1000000 I) (aR) U)<|bx 1 U<|RK l<|au<|rP 2 [] mn ?_
  refine db (t:=75) U (fun J=>?_) (fun J=>?_)
  ·refine bx 6 U<|bx 16 U<|aD<|aK<|KK H<|au<|rP 2 [] mn ?_
   refine aD ?_
   have AO:(vI (((k+1):Nat):Int))=(vI ((k:Int)+1)):=by exact cI I
   refine bj (F ⟨((k+1),false),⟨I,by exact (aY fun h=>by have h2:=((sJ ho).1 h).1; rw [A] at J; exact absurd (cJ h2) (by rw [J]; decide)).symm⟩⟩ _ _ _ U os (cN 11<|a_ U AO<|dh.nil _) (aN [1,2,3]))
  refine rP 6 [0,1] (mc 1 U (mc 0 U mn)) ?_
  have A3:mw c i x k:=of_decide_eq_true (A.symm.trans J)
  obtain ⟨C0,Do,EQ⟩:=uI (fun j y hj hy=>(C j y hj hy).1) hx A3.1 I ho
  have N:=KO AB C0
  refine rP 5 [] mn ?_
  refine db (t:=86) U (aS fun E=>?_) (aT fun E=>?_)
  ·refine bx 11 U<|aD<|aK<|KK H<|au<|rP 2 [] mn ?_
   refine aD ?_
   have AC:(vI (((k+1):Nat):Int))=(vI ((k:Int)+1)):=by exact cI I
   refine bj (F ⟨((k+1),false),⟨I,by exact (aY fun h=>by have h2:=((sJ ho).1 h).2; rw [N] at E; exact E h2.1).symm⟩⟩ _ _ _ U os (cN 11<|a_ U AC<|dh.nil _) (aN [1,2,3]))
  refine er 11 [0,1] (mc 0 U (mc 1 U mn)) U<|aD<|aK<|KK H<|au<|rP 2 [] mn ?_
  refine aD ?_
  have w:(vI (((k+1):Nat):Int))=(vI ((k:Int)+1)):=by exact cI I
  refine bj (F ⟨((k+1),(decide ((o.dW.Lo-x.dW.Hi)≤(Ql (z_ (c.du*(z_ (x.At-o.At)))) 1000000)))),⟨I,by exact gR.2 (by rw [sJ ho,N]; rw [N] at E; exact ⟨fun h=>⟨A3,E,h⟩,fun h=>h.2.2⟩)⟩⟩ _ _ _ U os (cN 11<|a_ U w<|dh.nil _) (aN [1,2,3]))
 refine au<|rP 4 [] (mc 0 U mn) ?_
 refine eP (xs:=[.tmp 34]) (cs:=[(vI x.At)]) U dJ kJ U U U U (by simp [Value.cells]) U U fun A4=>?_
 refine rS (CL (dF.eq (ic ((kF c i)+1) 86400000 ([x.At]) (some ⟨A4,0,none⟩) 1 (by (simp; done))) cD) (aQ (bq 0 U U (by simp [bU]) U)<|aR) U) ?_
 refine rP 1 [] mn ?_
 refine db (t:=37) U (aS fun A9=>?_) (aT fun A9=>?_)
 ·refine rP 19 [] mn ?_
  refine aD ?_
  have v:(decide (fV c i x))=false:=aY (by unfold fV; omega)
  refine bj (jY (cN 8<|nu U v<|dh.nil _) (aN [1,2,3]) (G ()))
 refine rP 6 [] (mc 1 U mn) ?_
 refine eP (xs:=[.tmp 40,.tmp 43]) (cs:=[(vI x.dW.Lo),(vI x.dW.Hi)]) U dJ kJ U U U U (by simp [Value.cells]) U U fun A5=>?_
 refine rS (CL (dF.eq (ic (-10000) 10000 ([x.dW.Lo,x.dW.Hi]) (some ⟨A5,0,none⟩) 2 (by (simp; done))) o3) (aQ (bq 0 U U (by simp [bU]) U)<|aR) U) ?_
 refine rP 2 [] mn ?_
 refine db (t:=47) U (aS fun Bv=>?_) (aT fun Bv=>?_)
 ·refine rP 9 [] mn ?_
  refine aD ?_
  have u:(decide (fV c i x))=false:=aY (by unfold fV; omega)
  refine bj (jY (cN 8<|nu U u<|dh.nil _) (aN [2,3,4]) (G ()))
 refine rP 9 [] (mc 2 U mn) ?_
 refine aD ?_
 have s:(decide (fV c i x))=(decide (x.dW.Lo≤x.dW.Hi)):=gR.2 (by unfold fV; omega)
 refine bj (jY (cN 8<|nu U s<|dh.nil _) (aN [2,3,4]) (G ()))
theorem PZ (ms:List av) (az:List RA) (k:Nat) (m:av) (a:RA) (hm:ms[k]? =some m) (ha:az[k]? =some a) (hc:m.bp.length≤a.2∧m.bp.length≤1000000):
 dF Tryz.prog 159 [(vA (dG.cells (dG.mk m.du (bK.mk a.1 m.bp.length a.2))))] [(dL (bk av.fu ms az))] (vB (!(decide (fy m)))):=by
 obtain ⟨C,D⟩:=hc
 refine bE kr Tryz.func159 U U fun F Q hQ hN=>?_
 try dsimp only
 refine WS fun _ A=>ed U fun E=>bx 1 U<|RK A<|WS fun _ B=>er 1 [] (mc 0 U mn) U<|rS (CL (N4 m a.1 a.2 asm asm) (aQ (show hH _ (rd a.1 m.bp.length 3 (m.bp.map cK.cells)).holds from (cj 1 U (bD hm ha (by simp [av.fu]))))<|aR) U)<|rP 2 [] mn ?_
 refine RK B<|ao ?_
 exact Q1 hQ U U U U
theorem Gp (l:List av) (az:List RA) (lA:OA) (lC:Nat) (f:Value) (p:av→Bool) (X:aA) (hf: ∀ (k:Nat) m a,l[k]? =some m→az[k]? =some a→Ef Tryz.prog f [.agg (av.cells m a).toArray] [X] (.bool (p m))) (hlen:l.length≤1000000) (has:az.length=l.length):
 dF Tryz.prog 191 [(vS lA l.length lC),f] [(rd lA l.length 2 (List.zipWith av.cells l az)),(dL (bk av.fu l az)),X] (vI (rW p l)):=by
 refine bE kr Tryz.func191 U U fun T Q hQ hN=>?_
 try dsimp only
 refine WS fun _ AA=>bx 1 U<|RK AA<|ak fun _ J=>WS fun _ K=>rP 3 [] mn ?_
 refine RK K<|aC ?_
 have B:(0≤l.length)∧((l.take 0).any p=false):=by simp
 refine bQ (ι:={z:Nat // (z≤l.length)∧((l.take z).any p=false)}) [0,1,7] [0,1,2] U U (fun z=>[(8,(vI (z.1:Int)))]) (fun z=>[]) (fun _=>rfl) (fun _=>rfl) (fun z=>l.length-z.1) ⟨0,B⟩ (bu U) (aN [0,1,2]) ?_
 clear B
 rintro ⟨i,⟨P,A⟩⟩ J4 H
 try dsimp only
 refine WS fun _ L=>rP 1 [] mn ?_
 refine RK L<|ak fun _ M=>bO U (aS fun S=>?_) (aT fun S=>?_)
 ·refine bM<|ag<|ag<|aG<|KK J<|WS fun _ E=>rP 1 [] mn ?_
  refine RK E<|ao<|Q1 hQ U U U ?_
  exact cI (pG I A).symm
 refine WK M<|ak fun _ N=>aC<|WS fun _ O=>bx 2 U<|RK O<|WS fun _ C=>rP 3 [] mn ?_
 obtain ⟨x,hx⟩:=aF l i I
 obtain ⟨xa,G⟩:=aF az i I
 have R:(List.zipWith av.cells l az)[i]? =some (av.cells x xa):=cZ hx G
 refine rS (IA i U (ax 0 U) yk dc I I)<|rS (jL i 0 (dG.cells (dG.mk x.du (bK.mk xa.1 x.bp.length xa.2))) U bX (ax 0 U) R U dc U U)<|rS (SX (qO U U U (hf i x xa hx G) (br [2])) U U)<|RK C<|cr U (fun hp=>?_) (fun hp=>?_)
 ·refine WS fun _ D=>rP 2 [] mn ?_
  refine RK D<|ao<|Q1 hQ U U U ?_
  exact cI (tJ hx hp A).symm
 refine cp<|aK<|KK N<|au<|rP 2 [] mn ?_
 refine aD ?_
 have F:(vI (((i+1):Nat):Int))=(vI ((i:Int)+1)):=by exact cI I
 refine bj (H ⟨(i+1),⟨I,tp hx A hp⟩⟩ _ _ _ U os (cN 3<|a_ U F<|dh.nil _) (aN [0,1,2]))
theorem zG (l:List av) (az:List RA) (lA:OA) (lC:Nat) (f:Value) (p:av→Bool) (X:aA) (hf: ∀ (k:Nat) m a,l[k]? =some m→az[k]? =some a→Ef Tryz.prog f [.agg (av.cells m a).toArray] [X] (.bool (p m))) (hlen:l.length≤1000000) (has:az.length=l.length):
 dF Tryz.prog 158 [(vS lA l.length lC),f] [(rd lA l.length 2 (List.zipWith av.cells l az)),(dL (bk av.fu l az)),X] (vB (l.any p)):=by
 refine bE kr Tryz.func158 U U fun C Q hQ hN=>?_
 try dsimp only
 refine WS fun _ A=>bx 1 U<|RK A<|WS fun _ B=>bx 2 U<|rS (CL (Gp l az lA lC f p X (by exact hf) hlen has) (OL 0 1 2 U U U U U U) U)<|rP 2 [] mn ?_
 refine RK B<|ao<|Q1 hQ U U U ?_
 exact cB q9
theorem Gl (l:List bL) (lA:OA) (lC:Nat) (f:Value) (p:bL→Bool) (X:aA) (hf: ∀ x0,x0∈l→Ef Tryz.prog f [.agg (bL.cells x0).toArray] [X] (.bool (p x0))) (hlen:l.length≤1000000):
 dF Tryz.prog 192 [(vS lA l.length lC),f] [(rd lA l.length 4 (l.map bL.cells)),X] (vI (rW p l)):=by
 refine bE kr Tryz.func192 U U fun S Q hQ hN=>?_
 try dsimp only
 refine WS fun _ H=>bx 1 U<|RK H<|ak fun _ AA=>WS fun _ J=>rP 3 [] mn ?_
 refine RK J<|aC ?_
 have B:(0≤l.length)∧((l.take 0).any p=false):=by simp
 refine bQ (ι:={z:Nat // (z≤l.length)∧((l.take z).any p=false)}) [0,1,7] [0,1] U U (fun z=>[(8,(vI (z.1:Int)))]) (fun z=>[]) (fun _=>rfl) (fun _=>rfl) (fun z=>l.length-z.1) ⟨0,B⟩ (bu U) (aN [0,1]) ?_
 clear B
 rintro ⟨i,⟨O,A⟩⟩ J4 G
 try dsimp only
 refine WS fun _ K=>rP 1 [] mn ?_
 refine RK K<|ak fun _ L=>bO U (aS fun R=>?_) (aT fun R=>?_)
 ·refine bM<|ag<|ag<|aG<|KK AA<|WS fun _ E=>rP 1 [] mn ?_
  refine RK E<|ao<|Q1 hQ U U U ?_
  exact cI (pG I A).symm
 refine WK L<|ak fun _ M=>aC<|WS fun _ N=>bx 2 U<|RK N<|WS fun _ C=>rP 3 [] mn ?_
 obtain ⟨x,hx⟩:=aF l i I
 have P:=bJ bL.cells hx
 refine rS (IA i U (ax 0 U) uG dc I I)<|rS (jL i 0 (bL.cells x) U bX (ax 0 U) P U dc U U)<|rS (SX (qO U U U (hf x (aP hx)) (br [1])) U U)<|RK C<|cr U (fun hp=>?_) (fun hp=>?_)
 ·refine WS fun _ D=>rP 2 [] mn ?_
  refine RK D<|ao<|Q1 hQ U U U ?_
  exact cI (tJ hx hp A).symm
 refine cp<|aK<|KK M<|au<|rP 2 [] mn ?_
 refine aD ?_
 have F:(vI (((i+1):Nat):Int))=(vI ((i:Int)+1)):=by exact cI I
 refine bj (G ⟨(i+1),⟨I,tp hx A hp⟩⟩ _ _ _ U os (cN 3<|a_ U F<|dh.nil _) (aN [0,1]))
theorem zT (l:List bL) (lA:OA) (lC:Nat) (f:Value) (p:bL→Bool) (X:aA) (hf: ∀ x0,x0∈l→Ef Tryz.prog f [.agg (bL.cells x0).toArray] [X] (.bool (p x0))) (hlen:l.length≤1000000):
 dF Tryz.prog 162 [(vS lA l.length lC),f] [(rd lA l.length 4 (l.map bL.cells)),X] (vB (l.any p)):=by
 refine bE kr Tryz.func162 U U fun C Q hQ hN=>?_
 try dsimp only
 refine WS fun _ A=>bx 1 U<|RK A<|WS fun _ B=>bx 2 U<|rS (CL (Gl l lA lC f p X (by exact hf) hlen) (br [0,1]) U)<|rP 2 [] mn ?_
 refine RK B<|ao<|Q1 hQ U U U ?_
 exact cB q9
end
section
open Go.RowKit
theorem pV (a:ai) (l:List ai) (lA:OA) (lC:Nat) (ha:lQ a) (hl: ∀ z∈l,lQ z) (hlen:l.length≤4):
 dF Tryz.prog 168 [(vA (ai.cells a)),(vS lA l.length lC)] [(rd lA l.length 2 (l.map ai.cells))] (vA (ai.cells (kR a l))):=by
 refine bE kr Tryz.func168 U U fun AA Q hQ hN=>?_
 try dsimp only
 refine WS fun _ AB=>ed U fun R=>AL U dV fun T=>RK AB<|ak fun _ J=>WS fun _ K=>rP 3 [] mn ?_
 refine RK K<|aC ?_
 have A:(0≤l.length):=by exact Nat.zero_le _
 refine bQ (ι:={z:Nat // (z≤l.length)}) [2,4,7,8] [0,2] U U (fun z=>[(9,(vI (z.1:Int)))]) (fun z=>[(cy R 65 (ai.cells (kR a (l.take z.1))))]) (fun _=>rfl) (fun _=>rfl) (fun z=>l.length-z.1) ⟨0,A⟩ (bu U) (aN [0,2,1]) ?_
 clear A
 rintro ⟨i,N⟩ J6 H
 try dsimp only
 refine WS fun _ L=>rP 1 [] mn ?_
 refine RK L<|ak fun _ M=>bO U (aS fun S=>?_) (aT fun S=>?_)
 ·refine bM<|ag<|ag<|aG<|KK J<|ak fun _ D=>?_
  have G:(ai.cells (kR a (l.take i)))=(ai.cells (kR a l)):=by rw [G9 I]
  rw [G]
  refine au<|rP 1 [] (mc 2 U mn) ?_
  refine fj U cT U<|RK D<|ao ?_
  exact z9 hQ [0] (mc 0 U mn) U U
 refine WK M<|ak fun _ B=>aC<|WS fun _ C=>?_
 obtain ⟨x,hx⟩:=aF l i I
 have O:=bJ ai.cells hx
 refine rS (IA i U (ax 1 U) lq dc I I)<|rS (jL i 0 (ai.cells x) U bX (ax 1 U) O U dc U U)<|AL U dV fun P=>fj U cT U<|RK C<|au ?_
 have hb:=Oe ha hl i
 have hz:=hl x (aP hx)
 unfold lQ at hz
 refine rP 10 [0,1,0,1] (mc 3 U (mc 0 U mn)) ?_
 refine rS (SX (bG (xs:=[(0,.tmp 17),(1,.tmp 22)]) (cs:=(ai.cells (ai.mk (((kR a (l.take i)).Lo)+x.Lo) (((kR a (l.take i)).Hi)+x.Hi)))) U U (bH gU U)) U U)<|O1 U cT U<|aD<|aK<|KK B ?_
 have E:(ai.cells (ai.mk (((kR a (l.take i)).Lo)+x.Lo) (((kR a (l.take i)).Hi)+x.Hi)))=(ai.cells (kR a (l.take (i+1)))):=by rw [yE hx]; rfl
 rw [E]
 refine au<|rP 2 [] mn ?_
 refine aD ?_
 have F:(vI ((i+1):Int))=(vI ((i:Int)+1)):=by exact cI I
 refine bj (H ⟨(i+1),(by first|omega|(simp only []; omega))⟩ _ _ _ U os (cN 4<|a_ U F<|dh.nil _) (aN [1,2,3]))
theorem Eg (ts:List aq) (tsA:OA) (tsC:Nat) (hlen:ts.length≤1000000) (hside: ∀ x∈ts,0≤x.iW∧x.iW≤255):
 dF Tryz.prog 165 [(vA (bR.cells (bR.mk (bK.mk tsA ts.length tsC))))] [(rd tsA ts.length 9 (ts.map aq.cells))] (vT [(vA (eB.cells (eB.mk (bR.mk (bK.mk tsA ts.length tsC))))),(vI (if dv ts=true then 0 else 10))]):=by
 refine bE kr Tryz.func165 U U fun E Q hQ hN=>?_
 try dsimp only
 refine WS fun _ A=>ed U fun C=>AL U I7 fun D=>bx 1 U<|RK A<|ak fun _ B=>cW ck 4 kr<|kv 1 [] (mc 1 U mn) U<|dS (SX (bG (xs:=[(0,.tmp 4)]) (cs:=(eB.cells (eB.mk (bR.mk (bK.mk tsA ts.length tsC))))) U U (bH QY U)) U U)<|kv 1 [] (mc 1 U mn) U<|dS (CL (AX ts tsA tsC hlen hside) (br [2]) U)<|cw<|fj U HL U<|rP 1 [] mn ?_
 refine RK B<|ao ?_
 exact lS hQ [0] (mc 0 U mn) U U
theorem Ll (f:Int) (tsA:OA) (tsN tsC:Nat):
 qf Tryz.prog 195 [(vA (eB.cells (eB.mk (bR.mk (bK.mk tsA tsN tsC))))),(vI f)] [] (fun (x:Nat×Nat)=>(Value.func (.func 217) [].toArray [(Value.pointer (some ⟨x.1,0,none⟩)),(Value.pointer (some ⟨x.2,0,none⟩))].toArray)) (fun (x:Nat×Nat)=>True) (fun (x:Nat×Nat)=>[(cy x.1 3 [(vI f)]),(cy x.2 257 (eB.cells (eB.mk (bR.mk (bK.mk tsA tsN tsC)))))]):=by
 refine fJ kr Tryz.func195 U U fun E Q hQ hN=>?_
 try dsimp only
 refine WS fun _ A=>ed U fun C=>xJ U U fun D=>bx 1 U<|RK A<|WS fun _ B=>rS (FU U)<|rP 1 [] mn ?_
 refine RK B<|ao<|LX hQ (D,C) [0,1] [] mn U U U U ?_
 trivial
theorem FT (ts:List aq) (tsA:OA) (tsC:Nat) (f:Int) (g1 g2:Nat) (hst: ∀ x∈ts,bV x) (hlen:ts.length≤12) (hf:0≤f∧f≤ts.length):
 LH Tryz.prog 217 [] [(vP g1),(vP g2)] [(rd tsA ts.length 9 (ts.map aq.cells)),(cy g1 3 [(vI f)]),(cy g2 257 (eB.cells (eB.mk (bR.mk (bK.mk tsA ts.length tsC)))))] (tM ts f.toNat):=by
 refine DU kr Tryz.func217 U U fun l J Z A0 p Q hY g d hQ hN=>?_
 try dsimp only
 refine WS fun _ h=>AL U dV fun n=>AL U dV fun o=>RK h<|WS fun _ i=>rP 2 [] (mr 4 U mn) ?_
 refine RK i<|aC ?_
 have P:(0≤ts.length-f.toNat)∧(J 0 A0)∧(Fo A0 p A0):=by exact ⟨Nat.zero_le _,g,d⟩
 have m:(vI (f+(0:Int)))=(vI f):=by exact cI I
 refine bQ (ι:={z:Nat×aA // (z.1≤ts.length-f.toNat)∧(J z.1 z.2)∧(Fo A0 p z.2)}) [0,1,2,4,5] [3,4,5] U U (fun z=>[(6,(vI (f+(z.1.1:Int))))]) (fun z=>[(cy o 65 (ai.cells (gE ts f.toNat z.1.1))),(cy n 65 (ai.cells (eG ts f.toNat z.1.1))),z.1.2]) (fun _=>rfl) (fun _=>rfl) (fun z=>ts.length-f.toNat-z.1.1) ⟨(0,A0),P⟩ (a_ U m<|dh.nil _) (aN [3,4,5,0,1,2]) ?_
 clear P
 rintro ⟨⟨k,A⟩,⟨W,R,S⟩⟩ J6 V
 try dsimp only at W R S
 try dsimp only
 refine ak fun _ j=>WS fun _ X=>rP 3 [0,1] (mc 4 U (mc 3 U mn)) ?_
 refine EK 5 hY R S U U U (yL I) U U (fun B9 C B=>?_) (fun B9 C B=>?_)
 rotate_left 1
 ·refine rP 8 [] mn ?_
  refine RK X<|bT U<|bM<|ag<|ag<|aG ?_
  refine hN _ _ _ (ke (vs:=[]) trivial fun w hs=>Mf 5 U C B hs)
 refine rP 8 [] (mr 2 U mn) ?_
 refine RK X<|bO U (aS fun c=>?_) (aT fun c=>?_)
 ·refine bM<|ag<|ag<|aG ?_
  refine hN _ _ _ (ke (vs:=[]) trivial fun w hs=>Rh 5 U (by rw [tT]; have e:ts.length-f.toNat+1=k+1:=I; rw [e]; exact C) B hs)
 refine WK j<|ak fun _ M=>aC<|mx ck [0,1,2,3,4,5,6,7,10,11,12,13,14,15,16,17] [8,9,18,19,20,21] [true,false,false,false,false,false,false,false,true,false,false,false,false,false,false,false] [8,9,18] [(rd tsA ts.length 9 (ts.map aq.cells)).ro,(cy g1 3 [(vI f)]).ro,(cy g2 257 (eB.cells (eB.mk (bR.mk (bK.mk tsA ts.length tsC))))).ro,B9] [(rd tsA ts.length 9 (ts.map aq.cells)).ro,(cy g1 3 [(vI f)]).ro,(cy g2 257 (eB.cells (eB.mk (bR.mk (bK.mk tsA ts.length tsC))))).ro,(cy o 65 (ai.cells (gE ts f.toNat k))),(cy n 65 (ai.cells (eG ts f.toNat k))),B9] kr (aN [0,1,2,5]) (aN [0,1,2,3,4,5])<|fS U (LW 4 U bX U U)<|eS U (FA 0 U eV U)<|eS U (FA 0 U eV U)<|eS U (GS (vS tsA ts.length tsC) 2 U bX U U)<|eS U (MV U) ?_
 obtain ⟨x,hx⟩:=aF ts (f.toNat+k) I
 have a:=bJ aq.cells hx
 refine eS U (IA (f.toNat+k) U (ax 0 U) wF dc I I) ?_
 have L:=hst x (aP hx)
 refine eS U (oL (((f.toNat+k)*9)+1) U (ax 0 U) (Nat.mul_pos I dc) eV U)<|eS U (jL (f.toNat+k) 1 (ai.cells x.jP) U bX (ax 0 U) a U dc U U)<|fS U (LW 3 U bX U U)<|eS U (FA 0 U eV U)<|eS U (FA 0 U eV U)<|eS U (GS (vS tsA ts.length tsC) 2 U bX U U)<|eS U (MV U)<|eS U (IA (f.toNat+k) U (ax 0 U) wF dc I I)<|eS U (oL (((f.toNat+k)*9)+3) U (ax 0 U) (Nat.mul_pos I dc) eV U)<|eS U (jL (f.toNat+k) 3 (ai.cells x.kI) U bX (ax 0 U) a U dc U U)<|eo U<|mj [8,18] kr (ik ?_<|ik ?_<|pg)
 rotate_left 1
 ·refine vK (rem':=[8,9,19,20,21]) U kr fun T14 N=>eP (xs:=[.tmp 39]) (cs:=(ai.cells x.kI)) U lq dV U U U U (by simp [Value.cells,ai.bB]) U U fun T=>aD (N _ _ (aN [1,2,3,6]) (aN [1,2,3,4,5,6]) ?_)
  refine N1 8<|vK (rem':=[9,19,20,21]) U kr fun T16 D=>eP (xs:=[.tmp 29]) (cs:=(ai.cells x.jP)) U lq dV U U U U (by simp [Value.cells,ai.bB]) U U fun AA=>aD (D _ _ (aN [2,3,4,7]) (aN [2,3,4,5,6,7]) ?_)
  refine N1 9<|vK (rem':=[19,20,21]) U kr fun T18 O=>?_
  refine rS (CL (dF.eq (pV (eG ts f.toNat k) ([x.jP]) (some ⟨AA,0,none⟩) 1 (by exact qA hst I) (by intro z hz; simp only [cv] at hz; subst hz; exact uL L) sm) nB) (aQ (bq 0 rfl rfl (by simp [ai.bB]) rfl)<|aR) rfl) ?_
  refine aD (O _ _ (aN [2,3,4,7]) (aN [2,3,4,5,6,7]) ?_)
  refine N1 19<|NO U U [20,21] fun T19 E=>?_
  refine rS (CL (dF.eq (pV (gE ts f.toNat k) ([x.kI]) (some ⟨T,0,none⟩) 1 (by exact wy hst I) (by intro z hz; simp only [cv] at hz; subst hz; exact vg L) sm) nB) (aQ (bq 1 rfl rfl (by simp [ai.bB]) rfl)<|aR) rfl) ?_
  refine aD (E _ _ (aN [2,3,4,7]) ?_)
  refine N1 20<|NO U U [21] fun T20 F=>QJ U cT U<|aD (F _ _ (aN [2,3,4,7]) ?_)
  refine N1 21<|NO U U [] fun T21 G=>I4 U cT U<|aD (G _ _ (aN [2,3,4,7]) ?_)
  refine lp<|aK<|KK M ?_
  have H:(ai.cells (mG (eG ts f.toNat k) x.jP))=(ai.cells (eG ts f.toNat (k+1))):=by rw [pL hx]
  rw [H]
  have AB:(ai.cells (mG (gE ts f.toNat k) x.kI))=(ai.cells (gE ts f.toNat (k+1))):=by rw [pT hx]
  rw [AB]
  refine au<|rP 3 [] mn ?_
  refine aD ?_
  have K:(vI (f+(((k+1):Nat):Int)))=(vI ((f+(k:Int))+1)):=by exact cI I
  refine bj (V ⟨((k+1),B9),⟨I,C,B⟩⟩ _ _ _ U os (cN 5<|a_ U K<|dh.nil _) (aN [2,3,4,5,6,7]))
 refine vK (rem':=[9,18,19,20,21]) U kr fun T14 N=>eP (xs:=[.tmp 29]) (cs:=(ai.cells x.jP)) U lq dV U U U U (by simp [Value.cells,ai.bB]) U U fun T=>aD (N _ _ (aN [1,2,3,6]) (aN [1,2,3,4,5,6]) ?_)
 refine mj [9,18] kr (ik ?_<|ik ?_<|pg)
 rotate_left 1
 ·refine vK (rem':=[9,19,20,21]) U kr fun T16 D=>eP (xs:=[.tmp 39]) (cs:=(ai.cells x.kI)) U lq dV U U U U (by simp [Value.cells,ai.bB]) U U fun AA=>aD (D _ _ (aN [2,3,4,7]) (aN [2,3,4,5,6,7]) ?_)
  refine N1 9<|vK (rem':=[19,20,21]) U kr fun T18 O=>?_
  refine rS (CL (dF.eq (pV (eG ts f.toNat k) ([x.jP]) (some ⟨T,0,none⟩) 1 (by exact qA hst I) (by intro z hz; simp only [cv] at hz; subst hz; exact uL L) sm) nB) (aQ (bq 1 rfl rfl (by simp [ai.bB]) rfl)<|aR) rfl) ?_
  refine aD (O _ _ (aN [2,3,4,7]) (aN [2,3,4,5,6,7]) ?_)
  refine N1 19<|NO U U [20,21] fun T19 E=>?_
  refine rS (CL (dF.eq (pV (gE ts f.toNat k) ([x.kI]) (some ⟨AA,0,none⟩) 1 (by exact wy hst I) (by intro z hz; simp only [cv] at hz; subst hz; exact vg L) sm) nB) (aQ (bq 0 rfl rfl (by simp [ai.bB]) rfl)<|aR) rfl) ?_
  refine aD (E _ _ (aN [2,3,4,7]) ?_)
  refine N1 20<|NO U U [21] fun T20 F=>QJ U cT U<|aD (F _ _ (aN [2,3,4,7]) ?_)
  refine N1 21<|NO U U [] fun T21 G=>I4 U cT U<|aD (G _ _ (aN [2,3,4,7]) ?_)
  refine lp<|aK<|KK M ?_
  have H:(ai.cells (mG (eG ts f.toNat k) x.jP))=(ai.cells (eG ts f.toNat (k+1))):=by rw [pL hx]
  rw [H]
  have AB:(ai.cells (mG (gE ts f.toNat k) x.kI))=(ai.cells (gE ts f.toNat (k+1))):=by rw [pT hx]
  rw [AB]
  refine au<|rP 3 [] mn ?_
  refine aD ?_
  have K:(vI (f+(((k+1):Nat):Int)))=(vI ((f+(k:Int))+1)):=by exact cI I
  refine bj (V ⟨((k+1),B9),⟨I,C,B⟩⟩ _ _ _ U os (cN 5<|a_ U K<|dh.nil _) (aN [2,3,4,5,6,7]))
 refine vK (rem':=[18,19,20,21]) U kr fun T16 D=>?_
 refine rS (CL (dF.eq (pV (eG ts f.toNat k) ([x.jP]) (some ⟨T,0,none⟩) 1 (by exact qA hst I) (by intro z hz; simp only [cv] at hz; subst hz; exact uL L) sm) nB) (aQ (bq 0 rfl rfl (by simp [ai.bB]) rfl)<|aR) rfl) ?_
 refine aD (D _ _ (aN [1,2,3,6]) (aN [1,2,3,4,5,6]) ?_)
 refine N1 18<|vK (rem':=[19,20,21]) U kr fun T17 Y=>eP (xs:=[.tmp 39]) (cs:=(ai.cells x.kI)) U lq dV U U U U (by simp [Value.cells,ai.bB]) U U fun b=>aD (Y _ _ (aN [2,3,4,7]) (aN [2,3,4,5,6,7]) ?_)
 refine N1 19<|NO U U [20,21] fun T19 E=>?_
 refine rS (CL (dF.eq (pV (gE ts f.toNat k) ([x.kI]) (some ⟨b,0,none⟩) 1 (by exact wy hst I) (by intro z hz; simp only [cv] at hz; subst hz; exact vg L) sm) nB) (aQ (bq 0 rfl rfl (by simp [ai.bB]) rfl)<|aR) rfl) ?_
 refine aD (E _ _ (aN [2,3,4,7]) ?_)
 refine N1 20<|NO U U [21] fun T20 F=>QJ U cT U<|aD (F _ _ (aN [2,3,4,7]) ?_)
 refine N1 21<|NO U U [] fun T21 G=>I4 U cT U<|aD (G _ _ (aN [2,3,4,7]) ?_)
 refine lp<|aK<|KK M ?_
 have H:(ai.cells (mG (eG ts f.toNat k) x.jP))=(ai.cells (eG ts f.toNat (k+1))):=by rw [pL hx]
 rw [H]
 have AB:(ai.cells (mG (gE ts f.toNat k) x.kI))=(ai.cells (gE ts f.toNat (k+1))):=by rw [pT hx]
 rw [AB]
 refine au<|rP 3 [] mn ?_
 refine aD ?_
 have K:(vI (f+(((k+1):Nat):Int)))=(vI ((f+(k:Int))+1)):=by exact cI I
 refine bj (V ⟨((k+1),B9),⟨I,C,B⟩⟩ _ _ _ U os (cN 5<|a_ U K<|dh.nil _) (aN [2,3,4,5,6,7]))
theorem GJ (ts:List aq) (tsA:OA) (tsC:Nat) (f t:Int) (hst: ∀ x∈ts,bV x) (hlen:ts.length≤12) (hf:0≤f∧f≤t∧t≤ts.length):
 dF Tryz.prog 167 [(vA (eB.cells (eB.mk (bR.mk (bK.mk tsA ts.length tsC))))),(vI f),(vI t)] [(rd tsA ts.length 9 (ts.map aq.cells))] (vT [(vA (ai.cells (eG ts f.toNat (t-f).toNat))),(vA (ai.cells (gE ts f.toNat (t-f).toNat)))]):=by
 refine bE kr Tryz.func167 U U fun w0 Q hQ hN=>?_
 try dsimp only
 refine WS fun _ M=>ed U fun a=>xJ U U fun b=>xJ U U fun d=>AL U dV fun e=>AL U dV fun g=>RK M<|ak fun _ AA=>WS fun _ V=>rP 2 [0,1] (mc 4 U (mc 3 U mn)) ?_
 refine cX (Ll f tsA ts.length tsC) (aR) U fun u n=>?_
 obtain ⟨B,C⟩:=u
 try dsimp only
 refine RK V<|aC<|jq 7 U (by exact fun _ h=>h) ?_
 refine EO (L0:=[(3,(vP a)),(4,(vP b)),(5,(vP d)),(6,(vP e)),(7,(vP g))]) (F:=[(rd tsA ts.length 9 (ts.map aq.cells)).ro,(cy B 3 [(vI f)]),(cy C 257 (eB.cells (eB.mk (bR.mk (bK.mk tsA ts.length tsC)))))]) (xs:=(tM ts f.toNat)) (fun k (y:ai×ai×Int)=>(k≤(t-f).toNat)∧(y.2.2=f+(k:Int))) (fun k y=>[(cy g 65 (ai.cells y.2.1)),(cy e 65 (ai.cells y.1)),(cy d 3 [(vI t)]),(cy b 3 [(vI y.2.2)]),(cy a 257 (eB.cells (eB.mk (bR.mk (bK.mk tsA ts.length tsC))))),(rd tsA ts.length 9 (ts.map aq.cells)).ro]) (fun c (z:Unit)=>(c= .exit 0)) (fun _ z=>[(cy g 65 (ai.cells (gE ts f.toNat (t-f).toNat))),(cy e 65 (ai.cells (eG ts f.toNat (t-f).toNat))),(cy d 3 [(vI t)]),(cy b 3 [(vI t)]),(cy a 257 (eB.cells (eB.mk (bR.mk (bK.mk tsA ts.length tsC))))),(rd tsA ts.length 9 (ts.map aq.cells)).ro]) [3,4,5,6,7,8] [0,1,2] (g4,g4,f) U U (FT ts tsA tsC f B C (by first|assumption|omega|(simp; done)) (by first|assumption|omega|(simp; done)) I) U U U (by exact ⟨Nat.zero_le _,sm⟩) (by simp only [List.forall_mem_cons,List.not_mem_nil,false_imp_iff,implies_true,and_true]; exact ⟨⟨_,sm,(dI (bY _))⟩,⟨_,sm,(bY _)⟩,⟨_,sm,(bY _)⟩⟩) (by exact CV) U (bu U) ?_ ?_ ?_ ?_
 rotate_left 1
 ·rintro q ⟨v,z2,m⟩ J
  obtain ⟨A,K⟩:=J
  try dsimp only at A K
  try dsimp only
  exfalso; rw [tT] at A; omega
 ·rintro r id _ Y
  have hc:=Y
  cases hc
  try dsimp only
  refine aG<|KK AA<|ak fun _ D=>dx ck [2,3] [] [] [0,1,2,3,4,5,6,7,8,9] [] U U U U U<|eS U (LW 5 U bX U U)<|eS U (LW 4 U bX U U)<|eo U<|cd U fun T30 E=>I4 U cT U<|aD (E _ _ (aN [0,1,2,3,4,5,6,7,8,9]) ?_)
  refine cd U fun T31 G=>Pp U cT U<|aD (G _ _ (aN [0,1,2,3,4,5,6,7,8,9]) ?_)
  refine fh U<|KK D<|ao<|hQ _ _ _ (qH 0 U U<|ke (vs:=[(vA (ai.cells (eG ts f.toNat (t-f).toNat))),(vA (ai.cells (gE ts f.toNat (t-f).toNat)))]) ⟨⟨_,U,.inl ⟨_,_,bX,pz (vs:=(ai.cells (eG ts f.toNat (t-f).toNat))) 5 U U,U,U⟩⟩,⟨_,U,.inl ⟨_,_,bX,pz (vs:=(ai.cells (gE ts f.toNat (t-f).toNat))) 4 U U,U,U⟩⟩,trivial⟩ fun w hs=>CK ?_ hs)
  show (vT [(vA (ai.cells (eG ts f.toNat (t-f).toNat))),(vA (ai.cells (gE ts f.toNat (t-f).toNat)))])=(vT [(vA (ai.cells (eG ts f.toNat (t-f).toNat))),(vA (ai.cells (gE ts f.toNat (t-f).toNat)))])
  clear hs w hQ hN G T31 E T30 D V AA M
  rfl
 ·rintro s _ Z
  cases Z
 rintro k x ⟨v,z2,m⟩ l ra rb S w1 K13 Qr14 hx AB N H L j
 obtain ⟨hk,rfl⟩:=Fm hx
 obtain ⟨A,K⟩:=AB
 try dsimp only at A K
 try dsimp only
 refine WS fun _ O=>AL U dV fun o=>fj U cT U<|RK O<|au<|AL U dV fun p=>fj U cT U<|aD<|jY (fun _ _ h=>h) (aN [2,0,1,3,4,5,6,7,8])<|bj (N _ _ ?_)
 refine aC<|ak fun _ P=>ak fun _ R=>dx ck [2,3] [] [] [0,1,2,5,6,7,8] [] U U U U U<|eS U (LW 2 U bX U U)<|eS U (LW 1 U bX U U)<|eo U<|cd U fun T21 W=>Pp U cT U<|aD (W _ _ (aN [0,1,2,5,6,7,8]) ?_)
 refine cd U fun T22 X=>O1 U cT U<|aD (X _ _ (aN [0,1,2,5,6,7,8]) ?_)
 refine fh U<|KK R<|WS fun _ T=>rP 3 [0,1] (mc 6 U (mc 5 U mn)) ?_
 refine RK T<|cr U (aT fun i=>?_) (aS fun i=>?_)
 ·refine bM<|ag<|fB U ?_
  rw [show m=t from by omega]
  obtain rfl:k=(t-f).toNat:=by omega
  exact L _ () _ _ (by exact U) (aN [0,3,4,5,6,7,8])
 refine WK P<|au<|rP 2 [] (mc 6 U mn) ?_
 refine Uh U Cl U U<|aD<|aK ?_
 exact H ((eG ts f.toNat k),(gE ts f.toNat k),(m+1)) _ _ (by refine ⟨I,?_⟩; dsimp only; omega) (aN [0,3,4,5,6,7,8])
end
section
open Go.RowKit
theorem FH (i:Int) (s:c_) (ts:List aq) (tsA:OA) (tsC g1:Nat) (hst: ∀ x∈ts,bV x) (hlen:ts.length≤12):
 dF Tryz.prog 194 [(vI i),(vA (c_.cells s)),(vP g1)] [(rd tsA ts.length 9 (ts.map aq.cells)),(cy g1 257 (eB.cells (eB.mk (bR.mk (bK.mk tsA ts.length tsC)))))] (vB (!(decide (fU ts s)))):=by
 refine bE kr Tryz.func194 U U fun AA Q hQ hN=>?_
 try dsimp only
 refine WS fun _ C=>ed U fun G=>rP 1 [] mn ?_
 refine RK C<|ak fun _ A=>mx ck [0,1,2,3,4,5,6] [7,8,9,10,11,12,13,14,15,16,17,18,19,20,21,22,23,24,25,26] [false,false,false,false,false,false,false] [] [(cy G 135 (c_.cells s)),(rd tsA ts.length 9 (ts.map aq.cells)).ro,(cy g1 257 (eB.cells (eB.mk (bR.mk (bK.mk tsA ts.length tsC))))).ro] [] kr (aN [0,1,2]) (aN [])<|eS U (FA 0 U eV U)<|eS U (FA 0 U eV U)<|eS U (GS (vS tsA ts.length tsC) 2 U bX U U)<|eS U (LN U PL)<|eS U (BI U (xx ⟨I,I⟩))<|eS U (FA 0 U eV U)<|eS U (L1 (vI s.bw) 0 U bX U U)<|eo U<|N1 7<|NO U U [8,9,10,11,12,13,14,15,16,17,18,19,20,21,22,23,24,25,26] fun T4 D=>eP (xs:=[.tmp 12]) (cs:=[(vI s.bw)]) U dJ kJ U U U U (by simp [Value.cells]) U U fun H=>RD D 1 U<|Nq [14,15,16,17,18,19,20,21,22,23,24,25,26,27,28,29,30,31,5] kr kr U _ U U (aN [1,2,3]) ?_
 refine dS (CL (dF.eq (oO 0 ((ts.length:Int)-1) ([s.bw]) (some ⟨H,0,none⟩) 1 (by (simp; done))) cD) (aQ (bq 0 U U (by simp [bU]) U)<|aR) U) ?_
 refine dP 2 [] mn ?_
 refine g9 (t:=16) U (aW fun B=>?_) (aV fun B=>?_)
 ·refine kx 9 U<|dP 7 [] mn ?_
  refine cw<|RK A<|ao<|Q1 hQ U U U ?_
  (refine cB ?_; rw [aY (AZ I)]; rfl)
 refine kx 1 U<|dS (LP (ai.cells s.lP) 1 U bX U U U)<|dP 5 [0,1] (mr 3 U (mc 1 U mn)) ?_
 obtain ⟨x,hx⟩:=aF ts ((s.bw).toNat) I
 have E:=bJ aq.cells hx
 refine dS (IA ((s.bw).toNat) U (ax 2 U) wF dc I I)<|dS (oL ((((s.bw).toNat)*9)+1) U (ax 2 U) (Nat.mul_pos I dc) eV U) ?_
 have F:=(hst x (aP hx)).2.1
 simp only [eg] at F
 refine dS (oL ((((s.bw).toNat)*9)+1) U (ax 2 U) (Nat.mul_pos I dc) eV U)<|dS (h_ ((s.bw).toNat) 1 (vI x.jP.Lo) U bX (ax 2 U) E U dc U)<|kx 1 U<|dS (CL (we s.lP 0 (x.jP.Lo-1)) (aR) U)<|dP 3 [] mn ?_
 refine cw<|RK A<|ao<|Q1 hQ U U U ?_
 exact congrArg (fun b=>vB (!b)) (gR.2 (Bz I hx).symm)
theorem CA (l:List c_) (lA:OA) (lC:Nat) (f:Value) (p:Int→c_→Bool) (X:aA) (hf: ∀ x0 x1,(∃ k:Nat,x0=(k:Int)∧l[k]? =some x1)→Ef Tryz.prog f [.int .i64 x0,.agg (c_.cells x1).toArray] [X] (.bool (p x0 x1))) (hlen:l.length≤1000000):
 qf Tryz.prog 193 [(vS lA l.length lC),f] [(rd lA l.length 3 (l.map c_.cells)),X] (fun (x:(OA)×Nat)=>(vS x.1 ((Hj (fun jj yy=>p (jj:Int) yy) l).length) x.2)) (fun (x:(OA)×Nat)=>True) (fun (x:(OA)×Nat)=>[(own x.1 x.2 3 1 ((Hj (fun jj yy=>p (jj:Int) yy) l).map iC))]):=by
 refine fJ kr Tryz.func193 U U fun W Q hQ hN=>?_
 try dsimp only
 refine WS fun _ L=>bx 1 U<|RK L<|WS fun _ M=>bx 1 U<|RK M<|ak fun _ N=>WS fun _ O=>rP 3 [] mn ?_
 refine RK O<|aC<|fR 3 1 ?_
 have A:(0≤l.length):=by exact Nat.zero_le _
 refine bQ (ι:={z:Nat×(OA)×Nat // (z.1≤l.length)}) [0,1,8,9] [1,2] U U (fun z=>[(5,(vS z.1.2.1 ((sj (fun jj yy=>p (jj:Int) yy) l z.1.1).length) z.1.2.2)),(10,(vI (z.1.1:Int)))]) (fun z=>[(own z.1.2.1 z.1.2.2 3 1 ((sj (fun jj yy=>p (jj:Int) yy) l z.1.1).map iC))]) (fun _=>rfl) (fun _=>rfl) (fun z=>l.length-z.1.1) ⟨(0,none,0),A⟩ (bu U) (aN [1,2,0]) ?_
 clear A
 rintro ⟨⟨i,a,c⟩,B⟩ J5 C
 try dsimp only at B
 try dsimp only
 refine WS fun _ P=>rP 1 [] mn ?_
 refine RK P<|ak fun _ R=>bO U (aS fun V=>?_) (aT fun V=>?_)
 ·refine bM<|ag<|ag<|aG<|KK N<|WS fun _ F=>?_
  rw [J0 (p:=fun (i:Nat) x=>p (i:Int) x) (show i=l.length by omega)]
  refine rP 2 [] mn ?_
  refine RK F<|ao<|LX hQ (a,c) [2] [] mn U U U U ?_
  trivial
 refine WK R<|ak fun _ G=>aC<|WS fun _ D=>rP 1 [] mn ?_
 obtain ⟨x,hx⟩:=aF l i I
 have S:=bJ c_.cells hx
 refine rS (IA i U (ax 0 U) Jz dc I I)<|rS (jL i 0 (c_.cells x) U bX (ax 0 U) S U dc U U)<|AL U Ex fun T=>bx 1 U<|fj U MG U<|RK D<|WS fun _ E=>rP 3 [] (mc 0 U mn) ?_
 refine rS (SX (qO U U U (hf (i:Int) x ⟨i,U,hx⟩) (br [2])) U U)<|RK E<|bO U (fun hp=>?_) (fun hp=>?_)
 ·refine cp<|aK<|KK G<|au ?_
  rw [← KN (p:=fun (i:Nat) x=>p (i:Int) x) hx hp]
  refine rP 2 [] mn ?_
  refine aD ?_
  have AB:(vI (((i+1):Nat):Int))=(vI ((i:Int)+1)):=by exact cI I
  refine bj (C ⟨((i+1),a,c),(by first|omega|(simp only []; omega))⟩ _ _ _ U os (cN 5<|a_ U AB<|dh.nil _) (aN [1,2,3]))
 refine au<|rP 2 [] mn ?_
 refine eP (xs:=[.tmp 20]) (cs:=[(vI (i:Int))]) U dJ kJ U U U U (by simp [Value.cells]) U U fun AA=>?_
 refine dA (es2:=(List.map iC (sj (fun jj yy=>p (jj:Int) yy) l (i+1)))) (m':=(sj (fun jj yy=>p (jj:Int) yy) l (i+1)).length) 4 U U U qz U U sm (bq (es:=List.map iC [(i:Int)]) 0 U U (by simp [bU]) U) (kG _) (by have:=Bx (p:=fun (i:Nat) x=>p (i:Int) x) (l:=l) (n:=i); simp; omega) (by have:=Bx (p:=fun (i:Nat) x=>p (i:Int) x) (l:=l) (n:=i); simp only [maxLen]; omega) (by rw [H0 hx hp]; simp) sm U fun J K=>?_
 try dsimp only
 refine bx 1 U<|aD<|aK<|KK G<|au<|rP 2 [] mn ?_
 refine aD ?_
 have H:(vI (((i+1):Nat):Int))=(vI ((i:Int)+1)):=by exact cI I
 refine bj (C ⟨((i+1),J,K),(by first|omega|(simp only []; omega))⟩ _ _ _ U os (cN 5<|a_ U H<|dh.nil _) (aN [2,3,4]))
theorem AV (ts:List aq) (tsA:OA) (tsC:Nat) (l:List c_) (lA:OA) (lC:Nat) (hst: ∀ x∈ts,bV x) (hlen:ts.length≤12) (hl:l.length≤4):
 dF Tryz.prog 166 [(vA (eB.cells (eB.mk (bR.mk (bK.mk tsA ts.length tsC))))),(vS lA l.length lC)] [(rd tsA ts.length 9 (ts.map aq.cells)),(rd lA l.length 3 (l.map c_.cells))] (vB (decide (∀ s∈l,fU ts s))):=by
 refine bE kr Tryz.func166 U U fun J Q hQ hN=>?_
 try dsimp only
 refine WS fun _ B=>ed U fun A=>bx 1 U<|RK B<|WS fun _ C=>rP 1 [] mn ?_
 refine rS (FU U) ?_
 refine cX (CA l lA lC (Value.func (.func 194) [].toArray [(vP A)].toArray) (fun E D=>(!(decide (fU ts D)))) (dL [(rd tsA ts.length 9 (ts.map aq.cells)),(cy A 257 (eB.cells (eB.mk (bR.mk (bK.mk tsA ts.length tsC)))))]) (by intro E D _; exact mN (fi:=[]) (ca:=[(vP A)]) (lD (FH E D ts tsA tsC A (by first|assumption|omega) (by first|assumption|omega)) (br [0,1]))) I) (gu 2 U U<|aQ (lH (br [1,0]))<|aR) U fun G F=>?_
 obtain ⟨H,AA⟩:=G
 try dsimp only
 refine rP 3 [] mn ?_
 refine RK C<|ao<|Q1 hQ U U U ?_
 exact congrArg Value.bool (decide_eq_decide.2 (by rw [show ∀ n:Nat,((n:Int)=0)↔n=0 from fun n=>by omega,Fs]; simp only [Bool.not_eq_false',decide_eq_true_eq]; exact ⟨fun h s hs=>by obtain ⟨k,hk⟩:=List.getElem?_of_mem hs; exact h k s hk,fun h k s hk=>h s (List.mem_of_getElem? hk)⟩))
theorem Cr (z:ai) (hz:lQ z):
 dF Tryz.prog 169 [(vA (ai.cells z))] [] (vA (ai.cells (oc z))):=by
 unfold lQ at hz
 refine bE kr Tryz.func169 U U fun E Q hQ hN=>?_
 try dsimp only
 refine WS fun _ A=>ed U fun C=>AL U dV fun D=>RK A<|WS fun _ B=>er 2 [] (mc 1 U mn) U<|rS (NG U ⟨I,I⟩)<|rP 2 [] (mc 1 U mn) ?_
 refine rS (NG U ⟨I,I⟩)<|rS (SX (bG (xs:=[(0,.tmp 5),(1,.tmp 8)]) (cs:=(ai.cells (ai.mk (-z.Hi) (-z.Lo)))) U U (bH gU U)) U U)<|fj U cT U<|RK B<|ao ?_
 exact z9 hQ [0] (mc 0 U mn) U U
theorem QG (ts:List aq) (tsA:OA) (tsC:Nat) (s:c_) (hlen:ts.length≤1000000) (hside: ∀ x∈ts,0≤x.iW∧x.iW≤255):
 dF Tryz.prog 136 [(vA (bR.cells (bR.mk (bK.mk tsA ts.length tsC)))),(vA (c_.cells s))] [(rd tsA ts.length 9 (ts.map aq.cells))] (vT [(vA (ai.cells (OO ts s))),(vI (EE ts s))]):=by
 refine bE kr Tryz.func136 U U fun Z Q hQ hN=>?_
 try dsimp only
 refine WS fun _ K=>ed U fun V=>ed U fun W=>AL U dV fun X=>bx 1 U<|RK K<|WS fun _ L=>er 1 [] (mc 2 U mn) U<|rS (CL (Eg ts tsA tsC hlen hside) (br [3]) U)<|bx 3 U<|AL U I7 fun Y=>fj U HL U<|bx 1 U<|RK L<|ak fun _ M=>WS fun _ N=>rP 2 [] mn ?_
 refine RK N<|cr U (aW fun he=>?_) (aV fun he=>?_)
 ·refine WS fun _ O=>rS (SX (bG (xs:=[]) (cs:=(ai.cells (ai.mk 0 0))) U U (bH gU U)) U U)<|bx 1 U<|pZ U cT U<|rP 1 [] mn ?_
  refine RK O<|ao<|lS hQ [0] (mc 1 U mn) U ?_
  (have e:=Iu (s:=s) (yq he).1; rw [e.1,e.2,(yq he).2]<;>rfl)
 refine WK M<|ak fun _ C=>WS fun _ D=>?_
 have B:=DN he
 have H:=j7 B
 have R:=kZ B
 refine rP 2 [0,1] (mc 0 U (mc 2 U mn)) ?_
 refine eP (xs:=[.tmp 20]) (cs:=(c_.cells s)) U Jz Ex U U U U (by simp [Value.cells,c_.bB]) U U fun AB=>?_
 refine rS (CL (dF.eq (AV ts tsA tsC ([s]) (some ⟨AB,0,none⟩) 1 asm asm (by (simp; done))) C4) (gu 5 U U<|aQ (bq 0 U U (by simp [c_.bB]) U)<|aR) U) ?_
 refine rP 1 [] mn ?_
 refine RK D<|cr U (aW fun A=>?_) (aV fun A=>?_)
 ·refine WS fun _ E=>rS (SX (bG (xs:=[]) (cs:=(ai.cells (ai.mk 0 0))) U U (bH gU U)) U U)<|DG U cT U<|rP 1 [] mn ?_
  refine RK E<|ao<|lS hQ [0] (mc 2 U mn) U ?_
  (have e:=Hp B A; rw [e.1,e.2]<;>rfl)
 refine WK C<|WS fun _ F=>?_
 have AA:=A.1
 have P:=qM H A
 refine er 3 [0,1] (mc 1 U (mc 3 U mn)) U<|rS (CL (GJ ts tsA tsC 0 s.bw asm asm I) (br [5]) U)<|bx 3 U<|AL U dV fun S=>AL U dV fun T=>pZ U cT U<|fj U cT U<|RK F<|WS fun _ G=>rP 2 [] (mc 1 U mn) ?_
 refine rS (LP (ai.cells s.lP) 5 U bX U U U)<|eP (xs:=[.tmp 34]) (cs:=(ai.cells s.lP)) U lq dV U U U U (by simp [Value.cells,ai.bB]) U U fun J=>?_
 refine rS (CL (dF.eq (pV (eG ts (0:Int).toNat (s.bw-0).toNat) ([s.lP]) (some ⟨J,0,none⟩) 1 (by exact qA H I) (by intro z hz; simp only [cv] at hz; subst hz; exact P) sm) nB) (aQ (bq 0 rfl rfl (by simp [ai.bB]) rfl)<|aR) rfl) ?_
 refine I4 U cT U<|rP 1 [] mn ?_
 refine RK G<|ao<|lS hQ [0] (mc 5 U mn) U ?_
 (have e:=xy B A; rw [e.1,e.2]; unfold JR; rw [show (s.bw-0).toNat=s.bw.toNat by rw [Int.sub_zero]]<;>rfl)
theorem Kr (ts:List aq) (tsA:OA) (tsC:Nat) (p:c_) (q:c_) (hlen:ts.length≤1000000) (hside: ∀ x∈ts,0≤x.iW∧x.iW≤255):
 dF Tryz.prog 137 [(vA (bR.cells (bR.mk (bK.mk tsA ts.length tsC)))),(vA (c_.cells p)),(vA (c_.cells q))] [(rd tsA ts.length 9 (ts.map aq.cells))] (vT [(vA (ai.cells (k7 ts p q))),(vI (l0 ts p q))]):=by
 refine bE kr Tryz.func137 U U fun w Q hQ hN=>?_
 try dsimp only
 refine WS fun _ c=>ed U fun r=>ed U fun s=>ed U fun t=>AL U dV fun u=>bx 1 U<|RK c<|WS fun _ d=>er 1 [] (mc 3 U mn) U<|rS (CL (Eg ts tsA tsC hlen hside) (br [4]) U)<|bx 3 U<|AL U I7 fun v=>fj U HL U<|bx 1 U<|RK d<|ak fun _ g=>WS fun _ h=>rP 2 [] mn ?_
 refine RK h<|cr U (aW fun he=>?_) (aV fun he=>?_)
 ·refine WS fun _ G=>rS (SX (bG (xs:=[]) (cs:=(ai.cells (ai.mk 0 0))) U U (bH gU U)) U U)<|bx 1 U<|pZ U cT U<|rP 1 [] mn ?_
  refine RK G<|ao<|lS hQ [0] (mc 1 U mn) U ?_
  (have e:=uJ (a:=p) (b:=q) (yq he).1; rw [e.1,e.2,(yq he).2]<;>rfl)
 refine WK g<|ak fun _ H=>WS fun _ AB=>?_
 have A:=DN he
 have F:=j7 A
 have j:=kZ A
 refine rP 3 [0,1,2] (mc 0 U (mc 3 U (mc 2 U mn))) ?_
 refine eP (xs:=[.tmp 22,.tmp 23]) (cs:=((c_.cells p)++(c_.cells q))) U Jz Ex U U U U (by simp [Value.cells,c_.bB]) U U fun X=>?_
 refine rS (CL (dF.eq (AV ts tsA tsC ([p,q]) (some ⟨X,0,none⟩) 2 asm asm (by (simp; done))) CZ) (gu 6 U U<|aQ (bq 0 U U (by simp [c_.bB]) U)<|aR) U) ?_
 refine rP 1 [] mn ?_
 refine RK AB<|cr U (aW fun D=>?_) (aV fun D=>?_)
 ·refine WS fun _ J=>rS (SX (bG (xs:=[]) (cs:=(ai.cells (ai.mk 0 0))) U U (bH gU U)) U U)<|DG U cT U<|rP 1 [] mn ?_
  refine RK J<|ao<|lS hQ [0] (mc 2 U mn) U ?_
  (have e:=oP A D; rw [e.1,e.2]<;>rfl)
 refine WK H<|WS fun _ K=>?_
 obtain ⟨hp,hq⟩:=D
 have n:=hp.1
 have o:=hq.1
 have i:=qM F hp
 have W:=qM F hq
 have V:=zk i
 have B:=qA F (f:=(min p.bw q.bw).toNat) (k:=(max p.bw q.bw-min p.bw q.bw).toNat) I
 refine er 5 [0,1,2] (mc 1 U (mc 4 U (mc 3 U mn))) U<|rS (MN U)<|er 4 [0,1] (mc 4 U (mc 3 U mn)) U<|rS (MX U)<|rS (CL (GJ ts tsA tsC (min p.bw q.bw) (max p.bw q.bw) asm asm I) (br [6]) U)<|bx 3 U<|AL U dV fun l=>AL U dV fun m=>pZ U cT U<|fj U cT U<|RK K<|ak fun _ C=>WS fun _ L=>rP 5 [0,1] (mc 5 U (mc 6 U mn)) ?_
 refine RK L<|bO U (aS fun E=>?_) (aT fun E=>?_)
 ·refine WK C<|ak fun _ N=>dx ck [6,7,8] [] [] [0,1,2,3,5,6,7,8] [] U U U U U<|eS U (LW 1 U bX U U)<|eS U (FA 1 U eV U)<|eS U (LP (ai.cells q.lP) 4 U bX U U U)<|eS U (FA 1 U eV U)<|eS U (LP (ai.cells p.lP) 5 U bX U U U)<|eS U (CL (Cr p.lP asm) (aR) U)<|eS U (AG U)<|eo U<|cd U fun T26 S=>eP (xs:=[.tmp 52,.tmp 55]) (cs:=((ai.cells q.lP)++(ai.cells (oc p.lP)))) U lq dV U U U U (by simp [Value.cells,ai.bB]) U U fun Z=>aD (S _ _ (aN [1,2,3,4,6,7,8,9]) ?_)
  refine cd U fun T28 T=>?_
  refine rS (CL (dF.eq (pV (eG ts (min p.bw q.bw).toNat ((max p.bw q.bw)-(min p.bw q.bw)).toNat) ([q.lP,(oc p.lP)]) (some ⟨Z,0,none⟩) 2 (by first|exact B|exact zk B) (by intro z hz; simp only [cg,List.not_mem_nil,or_false] at hz; rcases hz with rfl|rfl; exact W; exact V) sm) Bl) (aQ (bq 0 rfl rfl (by simp [ai.bB]) rfl)<|aR) rfl) ?_
  refine aD (T _ _ (aN [1,2,3,4,6,7,8,9]) ?_)
  refine cd U fun T29 AA=>I4 U cT U<|aD (AA _ _ (aN [1,2,3,4,6,7,8,9]) ?_)
  refine fh U<|KK N<|ao<|lS hQ [0] (mc 5 U mn) U ?_
  (have e:=lM A ⟨hp,hq⟩; rw [e.1,e.2]; unfold kf xw; rw [if_neg E]<;>rfl)
 refine au<|rP 1 [] (mc 1 U mn) ?_
 refine rS (CL (Cr (eG ts (min p.bw q.bw).toNat ((max p.bw q.bw)-(min p.bw q.bw)).toNat) asm) (aR) U)<|pZ U cT U<|RK C<|ak fun _ M=>dx ck [6,7,8] [] [] [0,1,2,3,5,6,7,8] [] U U U U U<|eS U (LW 1 U bX U U)<|eS U (FA 1 U eV U)<|eS U (LP (ai.cells q.lP) 4 U bX U U U)<|eS U (FA 1 U eV U)<|eS U (LP (ai.cells p.lP) 5 U bX U U U)<|eS U (CL (Cr p.lP asm) (aR) U)<|eS U (AG U)<|eo U<|cd U fun T21 O=>eP (xs:=[.tmp 52,.tmp 55]) (cs:=((ai.cells q.lP)++(ai.cells (oc p.lP)))) U lq dV U U U U (by simp [Value.cells,ai.bB]) U U fun Y=>aD (O _ _ (aN [1,2,3,4,6,7,8,9]) ?_)
 refine cd U fun T23 P=>?_
 refine rS (CL (dF.eq (pV (oc (eG ts (min p.bw q.bw).toNat ((max p.bw q.bw)-(min p.bw q.bw)).toNat)) ([q.lP,(oc p.lP)]) (some ⟨Y,0,none⟩) 2 (by first|exact B|exact zk B) (by intro z hz; simp only [cg,List.not_mem_nil,or_false] at hz; rcases hz with rfl|rfl; exact W; exact V) sm) Bl) (aQ (bq 0 rfl rfl (by simp [ai.bB]) rfl)<|aR) rfl) ?_
 refine aD (P _ _ (aN [1,2,3,4,6,7,8,9]) ?_)
 refine cd U fun T24 R=>I4 U cT U<|aD (R _ _ (aN [1,2,3,4,6,7,8,9]) ?_)
 refine fh U<|KK M<|ao<|lS hQ [0] (mc 5 U mn) U ?_
 (have e:=lM A ⟨hp,hq⟩; rw [e.1,e.2]; unfold kf xw; rw [if_pos E]<;>rfl)
theorem rD (ts:List aq) (tsA:OA) (tsC:Nat) (s:c_) (hst: ∀ x∈ts,bV x) (hlen:ts.length≤12):
 dF Tryz.prog 185 [(vA (bR.cells (bR.mk (bK.mk tsA ts.length tsC)))),(vA (c_.cells s))] [(rd tsA ts.length 9 (ts.map aq.cells))] (vB (decide (fU ts s))):=by
 refine bE kr Tryz.func185 U U fun H Q hQ hN=>?_
 try dsimp only
 refine WS fun _ C=>ed U fun F=>ed U fun G=>bx 1 U<|RK C<|ak fun _ A=>cW ck 22 kr<|kv 6 [0,1] (mc 0 U (mc 1 U mn)) U<|dS (CL (oY s.bw 0 ((ts.length:Int)-1)) (aR) U)<|dP 1 [] mn ?_
 refine g0 (t:=12) U (aS fun B=>?_) (aT fun B=>?_)
 ·refine kx 8 U<|dP 6 [] mn ?_
  refine cw<|RK A<|ao<|Q1 hQ U U U ?_
  (refine cB ?_; rw [aY (AZ I)])
 refine kx 1 U<|dS (LP (ai.cells s.lP) 0 U bX U U U)<|dP 4 [0,1] (mc 1 U (mc 0 U mn)) ?_
 obtain ⟨x,hx⟩:=aF ts ((s.bw).toNat) I
 have D:=bJ aq.cells hx
 refine dS (IA ((s.bw).toNat) U (ax 2 U) wF dc I I)<|dS (oL ((((s.bw).toNat)*9)+1) U (ax 2 U) (Nat.mul_pos I dc) eV U) ?_
 have E:=(hst x (aP hx)).2.1
 simp only [eg] at E
 refine dS (oL ((((s.bw).toNat)*9)+1) U (ax 2 U) (Nat.mul_pos I dc) eV U)<|dS (h_ ((s.bw).toNat) 1 (vI x.jP.Lo) U bX (ax 2 U) D U dc U)<|kx 1 U<|dS (CL (pw s.lP 0 (x.jP.Lo-1)) (aR) U)<|dP 2 [] mn ?_
 refine cw<|RK A<|ao<|Q1 hQ U U U ?_
 exact cB (gR.2 (Bz I hx).symm)
theorem zm (ts:List aq) (tsA:OA) (tsC:Nat) (f t:Int) (hst: ∀ x∈ts,bV x) (hlen:ts.length≤12) (hf:0≤f∧f≤t∧t≤ts.length):
 dF Tryz.prog 226 [(vA (bR.cells (bR.mk (bK.mk tsA ts.length tsC)))),(vI f),(vI t)] [(rd tsA ts.length 9 (ts.map aq.cells))] (vT [(vA (ai.cells (eG ts f.toNat (t-f).toNat))),(vA (ai.cells (gE ts f.toNat (t-f).toNat)))]):=by
 refine bE kr Tryz.func226 U U fun i Q hQ hN=>?_
 try dsimp only
 refine WS fun _ R=>ed U fun e=>AL U dV fun g=>AL U dV fun h=>RK R<|WS fun _ S=>AL U dV fun a=>AL U dV fun b=>RK S<|ak fun _ T=>WS fun _ AA=>rP 2 [] mn ?_
 refine RK AA<|aC ?_
 have A:(0≤(t-f).toNat):=by exact Nat.zero_le _
 have K:(vI (f+(0:Int)))=(vI f):=by exact cI I
 refine bQ (ι:={z:Nat // (z≤(t-f).toNat)}) [1,2,3,6,7,8,9] [2,3,4,5] U U (fun z=>[(10,(vI (f+(z.1:Int))))]) (fun z=>[(cy b 65 (ai.cells (gE ts f.toNat z.1))),(cy a 65 (ai.cells (eG ts f.toNat z.1)))]) (fun _=>rfl) (fun _=>rfl) (fun z=>(t-f).toNat-z.1) ⟨0,A⟩ (a_ U K<|dh.nil _) (aN [2,3,4,5,0,1]) ?_
 clear A
 rintro ⟨k,V⟩ J11 B
 try dsimp only
 refine ak fun _ C=>WS fun _ D=>rP 3 [] mn ?_
 refine RK D<|bO U (aS fun P=>?_) (aT fun P=>?_)
 ·refine bM<|ag<|ag<|aG<|KK T<|ak fun _ H=>dx ck [2,3] [] [] [2,3,4,5] [] U U U U U<|eS U (LW 3 U bX U U)<|eS U (LW 2 U bX U U)<|eo U<|cd U fun T23 AB=>pZ U cT U<|aD (AB _ _ (aN [2,3,4,5]) ?_)
  refine cd U fun T24 J=>fj U cT U<|aD (J _ _ (aN [2,3,4,5]) ?_)
  refine fh U<|KK H<|ao<|lS hQ [0,1] (mc 1 U (mc 0 U mn)) U ?_
  obtain rfl:k=(t-f).toNat:=I; rfl
 refine WK C<|ak fun _ E=>aC<|WS fun _ F=>rP 3 [] (mc 2 U mn) ?_
 obtain ⟨x,hx⟩:=aF ts (f.toNat+k) I
 have Y:=bJ aq.cells hx
 refine rS (IA (f.toNat+k) U (ax 3 U) wF dc I I)<|rS (jL (f.toNat+k) 0 (aq.cells x) U bX (ax 3 U) Y U dc U U)<|AL U IW fun Z=>fj U Hm U<|RK F<|WS fun _ G=>?_
 have O:=hst x (aP hx)
 have d:=mu hst f.toNat k
 have c:=EU hst f.toNat k
 have W:=O.2.1
 have X:=O.2.2.1
 simp only [eg] at W X
 refine er 12 [0,1,0,1] (mc 6 U (mc 0 U mn)) U<|rS (SX (bG (xs:=[(0,.tmp 28),(1,.tmp 34)]) (cs:=(ai.cells (ai.mk (((eG ts f.toNat k).Lo)+x.jP.Lo) (((eG ts f.toNat k).Hi)+x.jP.Hi)))) U U (bH gU U)) U U)<|QJ U cT U<|RK G<|au<|rP 12 [0,1,0,1] (mc 5 U (mc 0 U mn)) ?_
 refine rS (SX (bG (xs:=[(0,.tmp 41),(1,.tmp 47)]) (cs:=(ai.cells (ai.mk (((gE ts f.toNat k).Lo)+x.kI.Lo) (((gE ts f.toNat k).Hi)+x.kI.Hi)))) U U (bH gU U)) U U)<|I4 U cT U<|aD<|aK<|KK E ?_
 have L:(ai.cells (ai.mk (((eG ts f.toNat k).Lo)+x.jP.Lo) (((eG ts f.toNat k).Hi)+x.jP.Hi)))=(ai.cells (eG ts f.toNat (k+1))):=by rw [pL hx]; rfl
 rw [L]
 have M:(ai.cells (ai.mk (((gE ts f.toNat k).Lo)+x.kI.Lo) (((gE ts f.toNat k).Hi)+x.kI.Hi)))=(ai.cells (gE ts f.toNat (k+1))):=by rw [pT hx]; rfl
 rw [M]
 refine au<|rP 3 [] mn ?_
 refine aD ?_
 have N:(vI (f+(((k+1):Nat):Int)))=(vI ((f+(k:Int))+1)):=by exact cI I
 refine bj (B ⟨(k+1),(by first|omega|(simp only []; omega))⟩ _ _ _ U os (cN 7<|a_ U N<|dh.nil _) (aN [1,2,3,4,5,6]))
end
section
open Go.RowKit
theorem NK (l:bo) (kA:OA) (kC:Nat) (az:List RA) (cA:OA) (cC:Nat) (bA:OA) (bC:Nat) (hin:d_ l az):
 dF Tryz.prog 156 [(vA (cu.cells (jr l kA kC cA cC bA bC)))] [(rd kA l.aO.length 9 (l.aO.map aq.cells)),(rd cA l.aj.length 2 (List.zipWith av.cells l.aj az)),(dL (bk av.fu l.aj az)),(rd bA l.ab.length 4 (l.ab.map bL.cells))] (vB (decide (eT l))):=by
 have R:=hin.qm
 have P:=hin.qj
 have N:=hin.mq
 have O:=hin.qi
 refine bE kr Tryz.func156 U U fun T Q hQ hN=>?_
 try dsimp only
 refine WS fun _ G=>ed U fun S=>bx 1 U<|RK G<|WS fun _ A=>rP 2 [] (mc 0 U mn) ?_
 refine eP (xs:=[.tmp 4]) (cs:=[(vI l.ib)]) U dJ kJ U U U U (by simp [Value.cells]) U U fun H=>?_
 refine rS (CL (dF.eq (ic 1 5000 ([l.ib]) (some ⟨H,0,none⟩) 1 (by (simp; done))) cD) (aQ (bq 0 U U (by simp [bU]) U)<|aR) U) ?_
 refine rP 1 [] mn ?_
 refine db (t:=7) U (aS fun K=>?_) (aT fun K=>?_)
 ·refine rP 36 [] mn ?_
  refine RK A<|ao<|Q1 hQ U U U ?_
  exact cB (aY (by unfold eT; omega)).symm
 refine rP 3 [] (mc 1 U mn) ?_
 refine eP (xs:=[.tmp 10]) (cs:=[(vI (l.aj.length:Int))]) U dJ kJ U U U U (by simp [Value.cells]) U U fun AA=>?_
 refine rS (CL (dF.eq (ic 1 4 ([(l.aj.length:Int)]) (some ⟨AA,0,none⟩) 1 (by (simp; done))) cD) (aQ (bq 0 U U (by simp [bU]) U)<|aR) U) ?_
 refine rP 2 [] mn ?_
 refine db (t:=14) U (aS fun L=>?_) (aT fun L=>?_)
 ·refine rP 29 [] mn ?_
  refine RK A<|ao<|Q1 hQ U U U ?_
  exact cB (aY (by unfold eT; omega)).symm
 refine rP 3 [] (mc 2 U mn) ?_
 refine eP (xs:=[.tmp 17]) (cs:=[(vI (l.ab.length:Int))]) U dJ kJ U U U U (by simp [Value.cells]) U U fun J=>?_
 refine rS (CL (dF.eq (ic 1 6 ([(l.ab.length:Int)]) (some ⟨J,0,none⟩) 1 (by (simp; done))) cD) (aQ (bq 0 U U (by simp [bU]) U)<|aR) U) ?_
 refine rP 2 [] mn ?_
 refine db (t:=21) U (aS fun M=>?_) (aT fun M=>?_)
 ·refine rP 22 [] mn ?_
  refine RK A<|ao<|Q1 hQ U U U ?_
  exact cB (aY (by unfold eT; omega)).symm
 refine rP 6 [] (mc 3 U mn) ?_
 refine eP (xs:=[.tmp 27]) (cs:=[(vI l.b_)]) U dJ kJ U U U U (by simp [Value.cells]) U U fun B=>?_
 refine rS (CL (dF.eq (ic 0 ((l.ab.length:Int)-1) ([l.b_]) (some ⟨B,0,none⟩) 1 (by (simp; done))) cD) (aQ (bq 0 U U (by simp [bU]) U)<|aR) U) ?_
 refine rP 2 [] mn ?_
 refine db (t:=31) U (aS fun E=>?_) (aT fun E=>?_)
 ·refine rP 12 [] mn ?_
  refine RK A<|ao<|Q1 hQ U U U ?_
  exact cB (aY (by unfold eT; omega)).symm
 refine rP 2 [] (mc 4 U mn) ?_
 refine eP (xs:=[.tmp 33]) (cs:=[(vI l.e9)]) U dJ kJ U U U U (by simp [Value.cells]) U U fun C=>?_
 refine rS (CL (dF.eq (ic 0 3 ([l.e9]) (some ⟨C,0,none⟩) 1 (by (simp; done))) cD) (aQ (bq 0 U U (by simp [bU]) U)<|aR) U) ?_
 refine rP 2 [] mn ?_
 refine db (t:=37) U (aS fun F=>?_) (aT fun F=>?_)
 ·refine rP 6 [] mn ?_
  refine RK A<|ao<|Q1 hQ U U U ?_
  exact cB (aY (by unfold eT; omega)).symm
 refine rP 2 [] (mc 5 U mn) ?_
 refine eP (xs:=[.tmp 39]) (cs:=[(vI l.dp)]) U dJ kJ U U U U (by simp [Value.cells]) U U fun D=>?_
 refine rS (CL (dF.eq (ic 0 3 ([l.dp]) (some ⟨D,0,none⟩) 1 (by (simp; done))) cD) (aQ (bq 0 U U (by simp [bU]) U)<|aR) U) ?_
 refine rP 2 [] mn ?_
 refine RK A<|ao<|Q1 hQ U U U ?_
 exact cB (gR.2 (by unfold eT; omega))
theorem Oy (l:bo) (kA:OA) (kC:Nat) (az:List RA) (cA:OA) (cC:Nat) (bA:OA) (bC:Nat) (hin:d_ l az):
 dF Tryz.prog 157 [(vA (cu.cells (jr l kA kC cA cC bA bC)))] [(rd kA l.aO.length 9 (l.aO.map aq.cells)),(rd cA l.aj.length 2 (List.zipWith av.cells l.aj az)),(dL (bk av.fu l.aj az)),(rd bA l.ab.length 4 (l.ab.map bL.cells))] (vB (decide (∀ c∈l.aj,fy c))):=by
 have H:=hin.qm
 have G:=hin.qj
 have E:=hin.mq
 have F:=hin.qi
 refine bE kr Tryz.func157 U U fun K Q hQ hN=>?_
 try dsimp only
 refine WS fun _ C=>ed U fun J=>bx 1 U<|RK C<|WS fun _ D=>rP 2 [] (mc 0 U mn) ?_
 refine rS (CL (zG l.aj az cA cC (Value.func (.func 159) [].toArray [].toArray) (fun m=>(!(decide (fy m)))) (dL (bk av.fu l.aj az)) (by intro AA m a B A; exact mN (fi:=[]) (ca:=[]) (PZ l.aj az AA m a (by exact B) (by exact A) (by exact hin.QI _ _ _ B A))) asm asm) (OL 2 3 3 U U U U U U) U) ?_
 refine rP 2 [] mn ?_
 refine RK D<|ao<|Q1 hQ U U U ?_
 exact cB (by rw [Bool.eq_iff_iff,decide_eq_true_eq]; exact DB)
theorem N5 (b:bL) (l:bo) (kA:OA) (kC:Nat) (az:List RA) (cA:OA) (cC:Nat) (bA:OA) (bC g1:Nat) (hin:d_ l az) (htr:dv l.aO=true):
 dF Tryz.prog 163 [(vA (bL.cells b)),(vP g1)] [(rd kA l.aO.length 9 (l.aO.map aq.cells)),(rd cA l.aj.length 2 (List.zipWith av.cells l.aj az)),(dL (bk av.fu l.aj az)),(rd bA l.ab.length 4 (l.ab.map bL.cells)),(cy g1 28 (cu.cells (jr l kA kC cA cC bA bC)))] (vB (!(decide (j4 l b)))):=by
 have J:=hin.qm
 have H:=hin.qj
 have F:=hin.mq
 have G:=hin.qi
 have AA:=hin.side
 refine bE kr Tryz.func163 U U fun M Q hQ hN=>?_
 try dsimp only
 refine WS fun _ C=>ed U fun K=>bx 1 U<|RK C<|WS fun _ D=>bx 1 U<|rS (Uk (bR.cells (bR.mk (bK.mk kA l.aO.length kC))) 5 U bX U U U)<|bx 1 U<|rS (LP (c_.cells b.k8) 0 U bX U U U)<|rS (CL (QG l.aO kA kC b.k8 asm asm) (br [1]) U)<|bx 3 U<|AL U dV fun L=>fj U cT U<|bx 1 U<|RK D<|WS fun _ B=>rP 3 [] mn ?_
 refine bP (t:=16) U (aW fun A=>?_) (aV fun A=>?_)
 ·refine rP 11 [] mn ?_
  refine RK B<|ao<|Q1 hQ U U U ?_
  (refine cB ?_; rw [aY (fun h:j4 l b=>A ((El htr).2 h.1))]; rfl)
 refine rP 6 [0,1] (mr 6 U (mc 1 U mn)) ?_
 refine eP (xs:=[.tmp 22]) (cs:=[(vI b.jO)]) U dJ kJ U U U U (by simp [Value.cells]) U U fun E=>?_
 refine rS (CL (dF.eq (ic 0 ((l.aj.length:Int)-1) ([b.jO]) (some ⟨E,0,none⟩) 1 (by (simp; done))) cD) (aQ (bq 0 U U (by simp [bU]) U)<|aR) U) ?_
 refine rP 3 [] mn ?_
 refine RK B<|ao<|Q1 hQ U U U ?_
 (refine cB ?_; refine congrArg Bool.not (gR.2 ⟨fun h=>⟨(El htr).1 A,I,I⟩,fun h=>by have:=h.2; omega⟩))
theorem Of (l:bo) (kA:OA) (kC:Nat) (az:List RA) (cA:OA) (cC:Nat) (bA:OA) (bC:Nat) (hin:d_ l az) (htr:dv l.aO=true):
 dF Tryz.prog 161 [(vA (cu.cells (jr l kA kC cA cC bA bC)))] [(rd kA l.aO.length 9 (l.aO.map aq.cells)),(rd cA l.aj.length 2 (List.zipWith av.cells l.aj az)),(dL (bk av.fu l.aj az)),(rd bA l.ab.length 4 (l.ab.map bL.cells))] (vB (decide (∀ b∈l.ab,j4 l b))):=by
 have H:=hin.qm
 have G:=hin.qj
 have E:=hin.mq
 have F:=hin.qi
 refine bE kr Tryz.func161 U U fun AA Q hQ hN=>?_
 try dsimp only
 refine WS fun _ B=>ed U fun A=>bx 1 U<|RK B<|WS fun _ C=>rP 2 [] (mc 0 U mn) ?_
 refine rS (FU U) ?_
 refine rS (CL (zT l.ab bA bC (Value.func (.func 163) [].toArray [(vP A)].toArray) (fun D=>(!(decide (j4 l D)))) (dL [(rd kA l.aO.length 9 (l.aO.map aq.cells)),(rd cA l.aj.length 2 (List.zipWith av.cells l.aj az)),(dL (bk av.fu l.aj az)),(rd bA l.ab.length 4 (l.ab.map bL.cells)),(cy A 28 (cu.cells (jr l kA kC cA cC bA bC)))]) (by intro D _; exact mN (fi:=[]) (ca:=[(vP A)]) (lD (N5 D l kA kC az cA cC bA bC A (by first|assumption|omega) (by first|assumption|omega)) (br [0,1,2,3,4]))) asm) (gu 4 U U<|aQ (lH (br [1,2,3,4,0]))<|aR) U) ?_
 refine rP 2 [] mn ?_
 refine RK C<|ao<|Q1 hQ U U U ?_
 exact cB (by rw [Bool.eq_iff_iff,decide_eq_true_eq]; exact F6)
theorem G5 (l:bo) (kA:OA) (kC:Nat) (az:List RA) (cA:OA) (cC:Nat) (bA:OA) (bC:Nat) (n:Int) (hin:d_ l az) (htr:dv l.aO=true) (hbk: ∀ b∈l.ab,j4 l b) (hn:0≤n∧n<(l.ab.length:Int)):
 dF Tryz.prog 100 [(vA (cu.cells (jr l kA kC cA cC bA bC))),(vI n)] [(rd kA l.aO.length 9 (l.aO.map aq.cells)),(rd cA l.aj.length 2 (List.zipWith av.cells l.aj az)),(dL (bk av.fu l.aj az)),(rd bA l.ab.length 4 (l.ab.map bL.cells))] (vI (mo l n.toNat)):=by
 have P:=hin.qm
 have N:=hin.qj
 have L:=hin.mq
 have M:=hin.qi
 have O:=hin.side
 refine bE kr Tryz.func100 U U fun AB Q hQ hN=>?_
 try dsimp only
 refine WS fun _ E=>ed U fun R=>bx 1 U<|RK E<|WS fun _ F=>rP 3 [] (mc 0 U mn) ?_
 obtain ⟨x,hx⟩:=aF l.ab ((n).toNat) I
 have J:=bJ bL.cells hx
 refine rS (IA ((n).toNat) U (ax 4 U) uG dc I I)<|rS (oL (((n).toNat)*4) U (ax 4 U) (Nat.mul_pos I dc) eV U)<|rS (jL ((n).toNat) 0 (c_.cells x.k8) U bX (ax 4 U) J U dc U U)<|AL U Ex fun S=>fj U MG U<|RK F<|WS fun _ G=>bx 1 U<|rS (LP (bR.cells (bR.mk (bK.mk kA l.aO.length kC))) 1 U bX U U U)<|er 1 [] (mc 0 U mn) U<|rS (CL (QG l.aO kA kC x.k8 asm asm) (br [2]) U)<|bx 3 U<|AL U dV fun T=>fj U cT U<|bx 1 U<|RK G<|ak fun _ C=>WS fun _ H=>rP 2 [] mn ?_
 refine RK H<|bO U (aS fun D=>?_) (aT fun D=>?_)
 ·refine WK C<|WS fun _ B=>rP 3 [] (mc 0 U mn) ?_
  refine RK B<|ao<|Q1 hQ U U U ?_
  (refine congrArg (Value.int .i64) ?_; rw [show n.toNat=0 by omega] at hx ⊢; rw [yF hx,(xy htr (hbk _ (List.mem_of_getElem? hx)).1).2])
 refine dx ck [14] [] [] [1,2,3,4,5,6] [] U U U U U<|eS U (FA 0 U eV U)<|eS U (LP (bR.cells (bR.mk (bK.mk kA l.aO.length kC))) 1 U bX U U U)<|eS U (FA 3 U eV U)<|eS U (L1 (vS bA l.ab.length bC) 1 U bX U U)<|eS U (MV U)<|eS U (BI U (xx ⟨I,I⟩)) ?_
 obtain ⟨y,hy⟩:=aF l.ab (((n-1)).toNat) I
 have K:=bJ bL.cells hy
 refine eS U (IA (((n-1)).toNat) U (ax 5 U) uG dc I I)<|eS U (oL ((((n-1)).toNat)*4) U (ax 5 U) (Nat.mul_pos I dc) eV U)<|eS U (jL (((n-1)).toNat) 0 (c_.cells y.k8) U bX (ax 5 U) K U dc U U)<|eS U (LW 0 U bX U U)<|eS U (CL (Kr l.aO kA kC y.k8 x.k8 asm asm) (br [2]) U)<|eS U (MV U)<|eS U (EX U)<|eS U (EX U)<|eo U<|cd U fun T9 AC=>fj U cT U<|aD (AC _ _ (aN [1,2,3,4,5,6]) ?_)
 refine fh U<|KK C<|WS fun _ A=>rP 3 [] (mc 0 U mn) ?_
 refine RK A<|ao<|Q1 hQ U U U ?_
 (refine congrArg (Value.int .i64) ?_; rw [AA I hx (by rw [show n.toNat-1=(n-1).toNat by omega]; exact hy),(lM htr ⟨(hbk _ (List.mem_of_getElem? hy)).1,(hbk _ (List.mem_of_getElem? hx)).1⟩).2])
theorem Ow (l:bo) (kA:OA) (kC:Nat) (az:List RA) (cA:OA) (cC:Nat) (bA:OA) (bC:Nat) (hin:d_ l az) (htr:dv l.aO=true) (hbk: ∀ b∈l.ab,j4 l b):
 dF Tryz.prog 164 [(vA (cu.cells (jr l kA kC cA cC bA bC)))] [(rd kA l.aO.length 9 (l.aO.map aq.cells)),(rd cA l.aj.length 2 (List.zipWith av.cells l.aj az)),(dL (bk av.fu l.aj az)),(rd bA l.ab.length 4 (l.ab.map bL.cells))] (vB (decide (∀ i,i<l.ab.length→1≤mo l i))):=by
 have V:=hin.qm
 have AA:=hin.qj
 have S:=hin.mq
 have T:=hin.qi
 refine bE kr Tryz.func164 U U fun X Q hQ hN=>?_
 try dsimp only
 refine WS fun _ J=>ed U fun W=>bx 1 U<|RK J<|ak fun _ K=>WS fun _ L=>rP 4 [] (mc 0 U mn) ?_
 refine RK L<|aC ?_
 have A:(0≤l.ab.length)∧(∀ j,j<0→1≤mo l j):=by exact ⟨Nat.zero_le _,fun j hj=>absurd hj (Nat.not_lt_zero _)⟩
 refine bQ (ι:={z:Nat // (z≤l.ab.length)∧(∀ j,j<z→1≤mo l j)}) [1,6] [0,1,2,3,4] U U (fun z=>[(7,(vI (z.1:Int)))]) (fun z=>[]) (fun _=>rfl) (fun _=>rfl) (fun z=>l.ab.length-z.1) ⟨0,A⟩ (bu U) (aN [0,1,2,3,4]) ?_
 clear A
 rintro ⟨i,⟨P,B⟩⟩ J5 AB
 try dsimp only
 refine WS fun _ M=>rP 1 [] mn ?_
 refine RK M<|ak fun _ N=>bO U (aS fun R=>?_) (aT fun R=>?_)
 ·refine bM<|ag<|ag<|aG<|KK K<|WS fun _ G=>rP 1 [] mn ?_
  refine RK G<|ao<|Q1 hQ U U U ?_
  exact cB (cJ (fun j hj=>B j I)).symm
 refine WK N<|ak fun _ O=>aC<|WS fun _ D=>bx 2 U<|RK D<|WS fun _ E=>er 2 [] (mc 0 U mn) U<|rS (CL (G5 l kA kC az cA cC bA bC (i:Int) hin htr hbk I) (br [1,2,3,4]) U)<|rP 1 [] mn ?_
 refine RK E<|cr U (aT fun C=>?_) (aS fun C=>?_)
 ·refine WS fun _ F=>rP 1 [] mn ?_
  refine RK F<|ao<|Q1 hQ U U U ?_
  exact cB (aY (fun h=>by have:=h i I; simp only [Int.toNat_natCast] at C; omega)).symm
 refine cp<|aK<|KK O<|au<|rP 2 [] mn ?_
 refine aD ?_
 have H:(vI (((i+1):Nat):Int))=(vI ((i:Int)+1)):=by exact cI I
 refine bj (AB ⟨(i+1),⟨I,fun j hj=>by rcases Nat.lt_or_ge j i with q|q; exact B j q; (obtain rfl:j=i:=by omega); simp only [Int.toNat_natCast] at C; omega⟩⟩ _ _ _ rfl os (dh.cons rfl<|dh.cons rfl<|a_ rfl H<|dh.nil _) (aN [0,1,2,3,4]))
end
section
open Go.RowKit
theorem Oz:
 dF Tryz.prog 134 [] [] (vA ((hE.cells (hE.mk (Value.func (.func 156) [].toArray [].toArray)))++(hE.cells (hE.mk (Value.func (.func 157) [].toArray [].toArray)))++(hE.cells (hE.mk (Value.func (.func 161) [].toArray [].toArray)))++(hE.cells (hE.mk (Value.func (.func 164) [].toArray [].toArray))))):=by
 refine bE kr Tryz.func134 U U fun D Q hQ hN=>?_
 try dsimp only
 refine WS fun _ A=>AL U Qb fun C=>RK A<|WS fun _ B=>rS (SX (bG (xs:=[(0,.func 156)]) (cs:=(hE.cells (hE.mk (Value.func (.func 156) [].toArray [].toArray)))) U U (bH Ej U)) U U)<|rS (SX (bG (xs:=[(0,.func 157)]) (cs:=(hE.cells (hE.mk (Value.func (.func 157) [].toArray [].toArray)))) U U (bH Ej U)) U U)<|rS (SX (bG (xs:=[(0,.func 161)]) (cs:=(hE.cells (hE.mk (Value.func (.func 161) [].toArray [].toArray)))) U U (bH Ej U)) U U)<|rS (SX (bG (xs:=[(0,.func 164)]) (cs:=(hE.cells (hE.mk (Value.func (.func 164) [].toArray [].toArray)))) U U (bH Ej U)) U U)<|rS (SX (bG (xs:=[(0,.tmp 1),(1,.tmp 2),(2,.tmp 3),(3,.tmp 4)]) (cs:=((hE.cells (hE.mk (Value.func (.func 156) [].toArray [].toArray)))++(hE.cells (hE.mk (Value.func (.func 157) [].toArray [].toArray)))++(hE.cells (hE.mk (Value.func (.func 161) [].toArray [].toArray)))++(hE.cells (hE.mk (Value.func (.func 164) [].toArray [].toArray))))) U U (bH Pm U)) U U)<|fj U PT U<|RK B<|ao ?_
 exact z9 hQ [0] (mc 0 U mn) U U
theorem xr (l:bo) (kA:OA) (kC:Nat) (az:List RA) (cA:OA) (cC:Nat) (bA:OA) (bC:Nat) (hin:d_ l az):
 dF Tryz.prog 97 [(vA (cu.cells (jr l kA kC cA cC bA bC)))] [(rd kA l.aO.length 9 (l.aO.map aq.cells)),(rd cA l.aj.length 2 (List.zipWith av.cells l.aj az)),(dL (bk av.fu l.aj az)),(rd bA l.ab.length 4 (l.ab.map bL.cells))] (vI (dM l)):=by
 have A3:=hin.qm
 have A1:=hin.qj
 have AO:=hin.mq
 have A0:=hin.qi
 have A2:=hin.side
 refine bE kr Tryz.func97 U U fun w0 Q hQ hN=>?_
 try dsimp only
 refine WS fun _ m=>ed U fun b2=>bx 1 U<|RK m<|ak fun _ n=>WS fun _ o=>bx 1 U<|rS (LP (bR.cells (bR.mk (bK.mk kA l.aO.length kC))) 0 U bX U U U)<|rS (CL (AX l.aO kA kC asm asm) (br [1]) U)<|bx 1 U<|RK o<|WS fun _ p=>rP 2 [] mn ?_
 refine RK p<|cr U (aW fun B=>?_) (aV fun B=>?_)
 ·refine WS fun _ q=>rP 2 [] mn ?_
  refine RK q<|ao<|Q1 hQ U U U ?_
  (refine cI ?_; rw [(yq B).2,yP (yq B).1])
 refine WK n<|ak fun _ s=>WS fun _ t=>?_
 have A:=DN B
 refine rS (CL Oz (aR) U)<|bx 1 U<|RK t<|aC<|qB 5<|kT fun R9 u=>WS fun _ C=>rS (SX (eK (r:= .bool true) U U U p9) U U)<|RK C<|ak fun _ D=>aI U<|WK D<|ak fun _ E=>aC<|WS fun _ F=>rS (SX (tI (vs:=(hE.cells (hE.mk (Value.func (.func 156) [].toArray [].toArray)))) 0 U U U D8 bX U dc U) U U)<|AL U Er fun x=>fj U DX U<|RK F<|WS fun _ G=>er 3 [0,1] (mc 0 U (mc 1 U mn)) U<|rS (CL (NK l kA kC az cA cC bA bC hin) (br [2,3,4,5]) U)<|rP 1 [] mn ?_
 refine RK G<|cr U (aW fun g=>?_) (aV fun g=>?_)
 ·refine WS fun _ H=>rP 1 [] mn ?_
  refine RK H<|ao<|Q1 hQ U U U ?_
  exact cI (qT A fun h=>absurd h.head asm).symm
 refine cp<|aK<|KK E<|au<|rS (SX (eK (r:= .int .i64 1) U U U (n9 ⟨dc,dc⟩)) U U)<|bx 1 U<|RK u<|kT fun R18 d=>WS fun _ AB=>rS (SX (eK (r:= .bool true) U U U p9) U U)<|RK AB<|ak fun _ J=>aI U<|WK J<|ak fun _ K=>aC<|WS fun _ L=>rS (SX (tI (vs:=(hE.cells (hE.mk (Value.func (.func 157) [].toArray [].toArray)))) 1 U U U D8 bX U dc U) U U)<|AL U Er fun y=>fj U DX U<|RK L<|WS fun _ M=>er 3 [0,1] (mc 0 U (mc 2 U mn)) U<|rS (CL (Oy l kA kC az cA cC bA bC hin) (br [3,4,5,6]) U)<|rP 1 [] mn ?_
 refine RK M<|cr U (aW fun i=>?_) (aV fun i=>?_)
 ·refine WS fun _ N=>rP 1 [] mn ?_
  refine RK N<|ao<|Q1 hQ U U U ?_
  exact cI (qT A fun h=>absurd h.clock asm).symm
 refine cp<|aK<|KK K<|au<|rS (SX (eK (r:= .int .i64 2) U U U (n9 ⟨dc,dc⟩)) U U)<|bx 1 U<|RK d<|kT fun R27 e=>WS fun _ O=>rS (SX (eK (r:= .bool true) U U U p9) U U)<|RK O<|ak fun _ P=>aI U<|WK P<|ak fun _ R=>aC<|WS fun _ S=>rS (SX (tI (vs:=(hE.cells (hE.mk (Value.func (.func 161) [].toArray [].toArray)))) 2 U U U D8 bX U dc U) U U)<|AL U Er fun z=>fj U DX U<|RK S<|WS fun _ T=>er 3 [0,1] (mc 0 U (mc 3 U mn)) U<|rS (CL (Of l kA kC az cA cC bA bC hin asm) (br [4,5,6,7]) U)<|rP 1 [] mn ?_
 refine RK T<|cr U (aW fun j=>?_) (aV fun j=>?_)
 ·refine WS fun _ AA=>rP 1 [] mn ?_
  refine RK AA<|ao<|Q1 hQ U U U ?_
  exact cI (qT A fun h=>absurd h.ti asm).symm
 refine cp<|aK<|KK R<|au<|rS (SX (eK (r:= .int .i64 3) U U U (n9 ⟨dc,dc⟩)) U U)<|bx 1 U<|RK e<|kT fun R36 f=>WS fun _ V=>rS (SX (eK (r:= .bool true) U U U p9) U U)<|RK V<|ak fun _ W=>aI U<|WK W<|ak fun _ X=>aC<|WS fun _ Y=>rS (SX (tI (vs:=(hE.cells (hE.mk (Value.func (.func 164) [].toArray [].toArray)))) 3 U U U D8 bX U dc U) U U)<|AL U Er fun AC=>fj U DX U<|RK Y<|WS fun _ Z=>er 3 [0,1] (mc 0 U (mc 4 U mn)) U<|rS (CL (Ow l kA kC az cA cC bA bC hin asm asm) (br [5,6,7,8]) U)<|rP 1 [] mn ?_
 refine RK Z<|cr U (aW fun k=>?_) (aV fun k=>?_)
 ·refine WS fun _ a=>rP 1 [] mn ?_
  refine RK a<|ao<|Q1 hQ U U U ?_
  exact cI (qT A fun h=>absurd h.Oa asm).symm
 refine cp<|aK<|KK X<|au<|rS (SX (eK (r:= .int .i64 4) U U U (n9 ⟨dc,dc⟩)) U U)<|bx 1 U<|RK f<|kT fun R45 w=>WS fun _ b=>rS (SX (eK (r:= .bool false) U U U p9) U U)<|RK b<|ak fun _ v=>bT U<|bM<|ag<|ag<|aG<|KK s<|WS fun _ c=>rP 1 [] mn ?_
 refine RK c<|ao<|Q1 hQ U U U ?_
 exact cI (Bi A (y_ asm asm asm asm)).symm
theorem BA (lo hi:Int) (f:Value) (p:Int→Bool) (X:aA) (r:Int) (hf: ∀ x0,0≤x0∧x0<hi→Ef Tryz.prog f [.int .i64 x0] [X] (.bool (p x0))) (hb:0≤lo∧lo≤r∧r≤hi∧hi≤100000000) (hno: ∀ x,lo≤x→x<r→p x=false) (hyes: ∀ x,r≤x→x<hi→p x=true):
 dF Tryz.prog 207 [(vI lo),(vI hi),f] [X] (vI r):=by
 refine bE kr Tryz.func207 U U fun N Q hQ hN=>?_
 try dsimp only
 refine WS fun _ F=>rP 1 [] mn ?_
 refine RK F<|ak fun _ G=>aC ?_
 have A:(lo≤lo∧lo≤r)∧(r≤hi∧hi≤hi):=by omega
 refine bQ (ι:={z:Int×Int // (lo≤z.1∧z.1≤r)∧(r≤z.2∧z.2≤hi)}) [2] [0] U U (fun z=>[(0,(vI z.1.1)),(1,(vI z.1.2))]) (fun z=>[]) (fun _=>rfl) (fun _=>rfl) (fun z=>(z.1.2-z.1.1).toNat) ⟨(lo,hi),A⟩ (bu U) (aN [0]) ?_
 clear A
 rintro ⟨⟨a,b⟩,⟨B,C⟩⟩ J3 D
 try dsimp only at B C
 try dsimp only
 refine ak fun _ H=>WS fun _ AA=>rP 3 [] mn ?_
 refine RK AA<|bO U (aS fun M=>?_) (aT fun M=>?_)
 ·refine bM<|ag<|ag<|aG<|KK G<|WS fun _ L=>rP 2 [] mn ?_
  refine RK L<|ao<|Q1 hQ U U U ?_
  exact cI I
 refine WK H<|aC<|WS fun _ J=>bx 4 U<|rS (BI U (tU I I I))<|bx 2 U<|RK J<|WS fun _ K=>rP 2 [] mn ?_
 refine rS (SX (qO U U U (hf (a+((b-a)/2)) I) (br [0])) U U)<|RK K<|cr U (fun hp=>?_) (fun hp=>?_)
 ·refine au<|rP 2 [] mn ?_
  refine aD<|aK ?_
  refine bj (D ⟨(a,(a+((b-a)/2))),(by dsimp only; rcases Int.lt_or_le (a+(b-a)/2) r with q|q; (have E:=hno _ I q; (rw [E] at hp; cases hp)); (have E:=hyes _ q I; (refine ⟨⟨I,I⟩,I,I⟩)))⟩ _ _ _ rfl (by simp only []; omega) (bu rfl) (aN [0]))
 refine au<|rP 3 [] mn ?_
 refine aD<|aK ?_
 refine bj (D ⟨(((a+((b-a)/2))+1),b),(by dsimp only; rcases Int.lt_or_le (a+(b-a)/2) r with q|q; (have E:=hno _ I q; (refine ⟨⟨I,I⟩,I,I⟩)); (have E:=hyes _ q I; (rw [E] at hp; cases hp)))⟩ _ _ _ rfl (by simp only []; omega) (bu rfl) (aN [0]))
theorem HR (u:Int) (c:av) (sA:OA) (sC g1:Nat) (s:aH) (g2:Nat) (hc:fy c) (hu:0≤u∧u≤90000000):
 dF Tryz.prog 208 [(vI u),(vP g1),(vP g2)] [(rd sA c.bp.length 3 (c.bp.map cK.cells)),(cy g1 165 (dG.cells (dG.mk c.du (bK.mk sA c.bp.length sC)))),(cy g2 139 (aH.cells s))] (vB (decide (s.Read≤u+(iK c u).Hi))):=by
 have C:=qV hc hu
 refine bE kr Tryz.func208 U U fun D Q hQ hN=>?_
 try dsimp only
 refine WS fun _ A=>bx 1 U<|RK A<|ak fun _ B=>cW ck 10 kr<|kv 3 [] (mr 1 U mn) U<|dS (CL (DR c sA sC u hc hu) (br [0]) U)<|dS (SX (rL (v:=(vI ((iK c u).Hi))) U U eV H9 U) U U)<|dP 5 [] (mr 2 U mn) ?_
 refine cw<|RK B<|ao ?_
 exact Q1 hQ U U U U
theorem HJ (u:Int) (c:av) (sA:OA) (sC g1:Nat) (s:aH) (g2:Nat) (hc:fy c) (hu:0≤u∧u≤90000000):
 dF Tryz.prog 209 [(vI u),(vP g1),(vP g2)] [(rd sA c.bp.length 3 (c.bp.map cK.cells)),(cy g1 165 (dG.cells (dG.mk c.du (bK.mk sA c.bp.length sC)))),(cy g2 139 (aH.cells s))] (vB (decide (s.Read<u+(iK c u).Lo))):=by
 have C:=qV hc hu
 refine bE kr Tryz.func209 U U fun D Q hQ hN=>?_
 try dsimp only
 refine WS fun _ A=>bx 1 U<|RK A<|ak fun _ B=>cW ck 10 kr<|kv 3 [] (mr 1 U mn) U<|dS (CL (DR c sA sC u hc hu) (br [0]) U)<|dS (SX (rL (v:=(vI ((iK c u).Lo))) U U eV I8 U) U U)<|dP 5 [] (mr 2 U mn) ?_
 refine cw<|RK B<|ao ?_
 exact Q1 hQ U U U U
theorem zK (l:bo) (kA:OA) (kC:Nat) (az:List RA) (cA:OA) (cC:Nat) (bA:OA) (bC:Nat) (s:aH) (hin:d_ l az) (hok:l9 l) (hs:(0≤s.fz∧s.fz≤(l.ab.length:Int)-1)∧0≤s.Read∧s.Read≤86400000):
 dF Tryz.prog 173 [(vA (cu.cells (jr l kA kC cA cC bA bC))),(vA (aH.cells s))] [(rd kA l.aO.length 9 (l.aO.map aq.cells)),(rd cA l.aj.length 2 (List.zipWith av.cells l.aj az)),(dL (bk av.fu l.aj az)),(rd bA l.ab.length 4 (l.ab.map bL.cells))] (vA (ai.cells (dg l s))):=by
 have V:=hin.qm
 have S:=hin.qj
 have P:=hin.mq
 have R:=hin.qi
 refine bE kr Tryz.func173 U U fun Z Q hQ hN=>?_
 try dsimp only
 refine WS fun _ AB=>ed U fun X=>ed U fun D=>AL U dV fun Y=>RK AB<|ak fun _ J=>dx ck [11,12] [] [] [0,1,2,3,4,5,6] [] U U U U U<|eS U (FA 2 U eV U)<|eS U (L1 (vS cA l.aj.length cC) 2 U bX U U)<|eS U (FA 3 U eV U)<|eS U (L1 (vS bA l.ab.length bC) 2 U bX U U)<|eS U (FA 0 U eV U)<|eS U (L1 (vI s.fz) 1 U bX U U) ?_
 obtain ⟨y,hy⟩:=aF l.ab ((s.fz).toNat) I
 have O:=bJ bL.cells hy
 refine eS U (IA ((s.fz).toNat) U (ax 6 U) uG dc I I)<|eS U (oL ((((s.fz).toNat)*4)+3) U (ax 6 U) (Nat.mul_pos I dc) eV U)<|eS U (h_ ((s.fz).toNat) 3 (vI y.jO) U bX (ax 6 U) O U dc U) ?_
 have W:=(hok.ti _ (aP hy)).2
 obtain ⟨x,hx⟩:=aF l.aj ((y.jO).toNat) I
 obtain ⟨xa,F⟩:=aF az ((y.jO).toNat) I
 have N:(List.zipWith av.cells l.aj az)[(y.jO).toNat]? =some (av.cells x xa):=cZ hx F
 refine eS U (IA ((y.jO).toNat) U (ax 4 U) yk dc I I)<|eS U (jL ((y.jO).toNat) 0 (dG.cells (dG.mk x.du (bK.mk xa.1 x.bp.length xa.2))) U bX (ax 4 U) N U dc U U)<|eo U<|cd U fun T6 L=>AL U zd fun E=>aD (L _ _ (aN [1,2,3,4,5,6,7]) ?_)
 refine cd U fun T8 M=>fj U yx U<|aD (M _ _ (aN [1,2,3,4,5,6,7]) ?_)
 refine fh U<|KK J<|WS fun _ K=>?_
 have A:=hok.clock _ (aP hx)
 have AA:=ji (p:=ij x s.Read) (n:=86400001)
 have T:=ji (p:=il x s.Read) (n:=86400001)
 refine rS (FU U) ?_
 refine rS (CL (BA 0 86400001 (Value.func (.func 208) [].toArray [(vP E),(vP D)].toArray) (fun B=>(decide (s.Read≤B+(iK x B).Hi))) (dL [(rd xa.1 x.bp.length 3 (x.bp.map cK.cells)),(cy E 165 (dG.cells (dG.mk x.du (bK.mk xa.1 x.bp.length xa.2)))),(cy D 139 (aH.cells s))]) (gj (ij x s.Read) 86400001) (by intro B _; exact mN (fi:=[]) (ca:=[(vP E),(vP D)]) (lD (HR B x xa.1 xa.2 E s D (by first|assumption|omega) (by first|assumption|omega)) (OL 0 1 2 U U U U U U))) I (by intro z G hz; exact (lk A G I).1 hz) (by intro z hz H; exact (lk A I H).2.1 hz)) (aQ (lH (aQ (show hH _ (rd xa.1 x.bp.length 3 (x.bp.map cK.cells)).holds from (cj 6 U (bD hx F (by simp [av.fu]))))<|gu 0 U U<|gu 2 U U<|aR))<|aR) U) ?_
 refine rS (FU U) ?_
 refine rS (CL (BA 0 86400001 (Value.func (.func 209) [].toArray [(vP E),(vP D)].toArray) (fun C=>(decide (s.Read<C+(iK x C).Lo))) (dL [(rd xa.1 x.bp.length 3 (x.bp.map cK.cells)),(cy E 165 (dG.cells (dG.mk x.du (bK.mk xa.1 x.bp.length xa.2)))),(cy D 139 (aH.cells s))]) (gj (il x s.Read) 86400001) (by intro C _; exact mN (fi:=[]) (ca:=[(vP E),(vP D)]) (lD (HJ C x xa.1 xa.2 E s D (by first|assumption|omega) (by first|assumption|omega)) (OL 0 1 2 U U U U U U))) I (by intro z G hz; exact (lk A G I).2.2.1 hz) (by intro z hz H; exact (lk A I H).2.2.2 hz)) (aQ (lH (aQ (show hH _ (rd xa.1 x.bp.length 3 (x.bp.map cK.cells)).holds from (cj 6 U (bD hx F (by simp [av.fu]))))<|gu 0 U U<|gu 2 U U<|aR))<|aR) U) ?_
 refine rP 1 [] mn ?_
 refine rS (SX (bG (xs:=[(0,.tmp 18),(1,.tmp 21)]) (cs:=(ai.cells (ai.mk (gj (ij x s.Read) 86400001) ((gj (il x s.Read) 86400001)-1)))) U U (bH gU U)) U U)<|pZ U cT U<|RK K<|ao<|z9 hQ [0] (mc 1 U mn) U ?_
 unfold dg Bq; rw [xn hy hx]
end
section
open Go.RowKit
theorem HD (n lo hi:Int) (g1 g2:Nat):
 dF Tryz.prog 116 [(vI n),(vP g1),(vP g2)] [(cy g1 3 [(vI lo)]),(cy g2 3 [(vI hi)])] (vB (decide (n<lo∨hi<n))):=by
 refine bE kr Tryz.func116 U U fun D Q hQ hN=>?_
 try dsimp only
 refine WS fun _ B=>bx 1 U<|RK B<|WS fun _ A=>rP 4 [] (mr 0 U mn) ?_
 refine bP (t:=8) U (aT fun C=>?_) (aS fun C=>?_)
 ·refine rP 5 [] mn ?_
  refine RK A<|ao<|Q1 hQ U U U ?_
  exact cB (cJ I).symm
 refine rP 5 [] (mr 1 U mn) ?_
 refine RK A<|ao<|Q1 hQ U U U ?_
 exact cB (gR.2 I)
theorem tQ (lo hi:Int) (l:List Int) (lA:OA) (lC:Nat) (hlen:l.length≤1000000):
 dF Tryz.prog 81 [(vI lo),(vI hi),(vS lA l.length lC)] [(rd lA l.length 1 (l.map iC))] (vB (qb lo hi l)):=by
 refine bE kr Tryz.func81 U U fun F Q hQ hN=>?_
 try dsimp only
 refine WS fun _ D=>xJ U U fun A=>xJ U U fun B=>bx 1 U<|RK D<|WS fun _ E=>rP 1 [] mn ?_
 refine rS (FU U) ?_
 refine rS (CL (pY l lA lC (Value.func (.func 116) [].toArray [(vP A),(vP B)].toArray) (fun C=>(decide (C<lo∨hi<C))) (dL [(cy A 3 [(vI lo)]),(cy B 3 [(vI hi)])]) (by intro C _; exact mN (fi:=[]) (ca:=[(vP A),(vP B)]) (lD (HD C lo hi A B) (br [0,1]))) hlen) (gu 2 U U<|aQ (lH (br [1,0]))<|aR) U) ?_
 refine rP 2 [] mn ?_
 refine RK E<|ao ?_
 exact Q1 hQ U U U U
theorem K6 (s:ai):
 dF Tryz.prog 251 [(vA (ai.cells s))] [] (vB (decide (mO s))):=by
 refine bE kr Tryz.func251 U U fun F Q hQ hN=>?_
 try dsimp only
 refine WS fun _ B=>ed U fun E=>bx 1 U<|RK B<|WS fun _ A=>rP 4 [] (mc 0 U mn) ?_
 refine eP (xs:=[.tmp 4,.tmp 6]) (cs:=[(vI s.Lo),(vI s.Hi)]) U dJ kJ U U U U (by simp [Value.cells]) U U fun C=>?_
 refine rS (CL (dF.eq (tQ 1 600000 ([s.Lo,s.Hi]) (some ⟨C,0,none⟩) 2 (by (simp; done))) o3) (aQ (bq 0 U U (by simp [bU]) U)<|aR) U) ?_
 refine rP 1 [] mn ?_
 refine db (t:=9) U (aS fun D=>?_) (aT fun D=>?_)
 ·refine rP 7 [] mn ?_
  refine RK A<|ao<|Q1 hQ U U U ?_
  simp only [mO]
  exact cB (aY I).symm
 refine rP 7 [] (mc 1 U mn) ?_
 refine RK A<|ao<|Q1 hQ U U U ?_
 simp only [mO]
 exact cB (gR.2 I)
theorem Ja (d:aw) (sgA:OA) (sgC:Nat):
 dF Tryz.prog 248 [(vA (bf.cells (bf.mk d.Out d.cO d.Time (im d.aZ sgA sgC))))] [(rd sgA d.aZ.aa.length 2 (d.aZ.aa.map aH.cells))] (vB (decide (mV d.aZ))):=by
 refine bE kr Tryz.func248 U U fun F Q hQ hN=>?_
 try dsimp only
 refine WS fun _ B=>ed U fun E=>bx 1 U<|RK B<|WS fun _ A=>rP 5 [] (mc 0 U mn) ?_
 refine db (t:=7) U (aS fun C=>?_) (aT fun C=>?_)
 ·refine rP 13 [] mn ?_
  refine RK A<|ao<|Q1 hQ U U U ?_
  simp only [mV]
  exact cB (aY I).symm
 refine rP 6 [] (mc 0 U mn) ?_
 refine db (t:=13) U (aS fun D=>?_) (aT fun D=>?_)
 ·refine rP 7 [] mn ?_
  refine RK A<|ao<|Q1 hQ U U U ?_
  simp only [mV]
  exact cB (aY I).symm
 refine rP 7 [] (mc 0 U mn) ?_
 refine RK A<|ao<|Q1 hQ U U U ?_
 simp only [mV]
 exact cB (gR.2 I)
theorem Q4 (d:aw) (sgA:OA) (sgC:Nat):
 dF Tryz.prog 246 [(vA (bf.cells (bf.mk d.Out d.cO d.Time (im d.aZ sgA sgC))))] [(rd sgA d.aZ.aa.length 2 (d.aZ.aa.map aH.cells))] (vB d.Out):=by
 refine bE kr Tryz.func246 U U fun D Q hQ hN=>?_
 try dsimp only
 refine WS fun _ A=>ed U fun C=>bx 1 U<|RK A<|WS fun _ B=>rP 3 [] (mc 0 U mn) ?_
 refine RK B<|ao<|Q1 hQ U U U ?_
 rfl
theorem QL (d:aw) (sgA:OA) (sgC:Nat):
 dF Tryz.prog 249 [(vA (bf.cells (bf.mk d.Out d.cO d.Time (im d.aZ sgA sgC))))] [(rd sgA d.aZ.aa.length 2 (d.aZ.aa.map aH.cells))] (vB d.cO):=by
 refine bE kr Tryz.func249 U U fun D Q hQ hN=>?_
 try dsimp only
 refine WS fun _ A=>ed U fun C=>bx 1 U<|RK A<|WS fun _ B=>rP 3 [] (mc 0 U mn) ?_
 refine RK B<|ao<|Q1 hQ U U U ?_
 rfl
theorem Qk (d:aw) (sgA:OA) (sgC:Nat):
 dF Tryz.prog 252 [(vA (bf.cells (bf.mk d.Out d.cO d.Time (im d.aZ sgA sgC))))] [(rd sgA d.aZ.aa.length 2 (d.aZ.aa.map aH.cells))] (vB true):=by
 refine bE kr Tryz.func252 U U fun D Q hQ hN=>?_
 try dsimp only
 refine WS fun _ A=>ed U fun C=>bx 1 U<|RK A<|WS fun _ B=>rP 1 [] mn ?_
 refine RK B<|ao<|Q1 hQ U U U ?_
 rfl
end
section
open Go.RowKit
theorem sf (ln:cu) (ri:de) (e:List Int) (tms:List TM) (e_A:OA) (e_C:Nat) (tb:List Nat) (t_A:OA) (t_C:Nat) (fA:OA) (fN fC:Nat) (bA:OA) (bN bC:Nat) (gw b:Nat) (g1 g2:Nat) (hb:b<tms.length) (htb:tb.length=tms.length):
 K3 Tryz.prog 210 [] [(vP g1),(vP g2)] [(rd e_A e.length 1 (e.map iC)),(rd t_A tms.length 1 (List.zipWith gr tms tb)),(dL (bk pU tms tb)),(cy gw 273 (cb.cells (cb.mk ln ri (bK.mk e_A e.length e_C) (bK.mk t_A tms.length t_C) (bK.mk fA fN fC) (bK.mk bA bN bC)))),(cy g1 237 [(vP gw)]),(cy g2 3 [(vI (b:Int))])] ([]:List (Int×ai)) (fun ys x ys'=> ∃ o,o∈iS (cQ ln ri e tms) b∧x=Mb o∧ys'=ys++[o]) (fun ys=> ∀ o∈iS (cQ ln ri e tms) b,o∈ys):=by
 refine EJ kr Tryz.func210 U U fun l J Z A0 d Q hY V AA hQ hN=>?_
 try dsimp only
 refine ak fun _ X=>ak fun _ R=>cW ck 12 kr<|kv 2 [] (mr 5 U mn) U<|dS (SX (cP U U) U U)<|kv 4 [0,1] (mr 4 U (mr 5 U mn)) U<|dS (SX (cP U U) U U)<|dP 3 [] (mr 4 U mn) ?_
 refine dS (SX (bG (xs:=[(0,.tmp 11),(1,.tmp 16)]) (cs:=(ai.cells (ai.mk ri.Start ri.fP))) U U (bH gU U)) U U)<|cw<|xK (k:=([]:List (Int×ai))) (k':=(([]:List (Int×ai))++[((-1),(ai.mk ri.Start ri.fP))])) 0 (by first|exact hsz|exact Nat.le_refl _) hY V AA U U U (by exact ⟨(-1,⟨ri.Start,ri.fP⟩),ct ..,U,U⟩) U U (fun B3 N M=>?_) (fun B3 N M=>?_)
 rotate_left 1
 ·refine rP 1 [] mn ?_
  refine RK R<|aI U<|ao ?_
  refine hQ _ _ _ (ke (vs:=[]) trivial fun w hs=>En 0 U N M hs)
 refine bx 1 U<|RK R<|bT U<|WK X<|ak fun _ Y=>cW ck 7 kr<|kv 1 [] (mr 5 U mn) U<|dS (SX (cP U U) U U)<|dP 3 [0,1] (mr 4 U (mr 6 U mn)) ?_
 obtain ⟨x,hx⟩:=aF tms b I
 obtain ⟨xa,L⟩:=aF tb b I
 have a:(List.zipWith gr tms tb)[b]? =some (gr x xa):=cZ hx L
 refine dS (IA b U (ax 2 U) xX dc I I)<|dS (h_ b 0 (Value.map (some xa)) U bX (ax 2 U) a U dc U)<|cw<|pE (kV:=iV) (m:=cR jZ x) 3 U U rX U ⟨⟨(ks iV xa (cR jZ x)),(bD hx L (by simp [pU])),U⟩,fun h=>h⟩ (show hH _ (ks iV xa (cR jZ x)).holds from cj 3 U (bD hx L (by simp [pU]))) U fun j=>?_
 try dsimp only
 refine RK Y<|aC ?_
 have G:(∀ o∈x,o∈x∨o∈(([]:List (Int×ai))++[((-1),(ai.mk ri.Start ri.fP))]))∧(∀ o∈x,o∈x)∧(J (([]:List (Int×ai))++[((-1),(ai.mk ri.Start ri.fP))]) B3)∧(Fo A0 d B3)∧((-1,(⟨ri.Start,ri.fP⟩:ai))∈(([]:List (Int×ai))++[((-1),(ai.mk ri.Start ri.fP))])):=by exact ⟨fun o ho=> .inl ho,fun o ho=>ho,asm,asm,sm⟩
 refine bQ (ι:={z:TM×(List (Int×ai))×aA // (∀ o∈x,o∈z.1∨o∈z.2.1)∧(∀ o∈z.1,o∈x)∧(J z.2.1 z.2.2)∧(Fo A0 d z.2.2)∧((-1,(⟨ri.Start,ri.fP⟩:ai))∈z.2.1)}) [0,1,2,27] [2,3,4,6,7] U U (fun z=>[]) (fun z=>[(Cf iV j xa (cR jZ x) (cR jZ z.1.1) none),z.1.2.2]) (fun _=>rfl) (fun _=>rfl) (fun z=>z.1.1.length) ⟨(x,(([]:List (Int×ai))++[((-1),(ai.mk ri.Start ri.fP))]),B3),G⟩ (dh.nil _) (aN [2,3,4,6,7,0,1]) ?_
 clear G
 rintro ⟨⟨left,ys,A⟩,⟨B,C,D,E,F⟩⟩ J8 W
 try dsimp only at B C D E F
 try dsimp only
 refine WS fun _ S=>oj (iL nX).inj (f:=jZ) 5 U U U U (fun T=>?_) (fun i z hm hn=>?_)
 ·refine rP 1 [] mn ?_
  refine RK S<|ak fun _ c=>bT U<|bM<|ag<|ag<|aG ?_
  refine hN _ _ _ (ke (vs:=[]) trivial fun w hs=>NM 6 U (by exact Gm hx B T F) D E hs)
 try dsimp only
 refine bx 1 U<|RK S<|ak fun _ O=>aI U<|WK O<|aC<|WS fun _ P=>rS (SX (ow 5 U U U) U U)<|bx 2 U<|AL U dV fun g=>bx 1 U<|fj U cT U<|RK P<|WS fun _ K=>rP 3 [] (mc 0 U mn) ?_
 refine xK (k:=ys) (k':=(ys++[(i,z)])) 7 (by first|exact hsz|exact Nat.le_refl _) hY D E U U U (by exact ⟨(i,z),(xY hx).2 (.inr (C _ hm)),U,U⟩) U U (fun B15 AB H=>?_) (fun B15 AB H=>?_)
 rotate_left 1
 ·refine rP 1 [] mn ?_
  refine RK K<|aI U<|ao ?_
  refine hQ _ _ _ (ke (vs:=[]) trivial fun w hs=>En 7 U AB H hs)
 refine rP 1 [] mn ?_
 refine RK K<|bT U<|cp<|aK<|qy 6 U pj U ?_
 refine bj (W ⟨((fg left i),(ys++[(i,z)]),B15),⟨F0 hn hm B,mK C,asm,asm,by simp [F]⟩⟩ _ _ _ U (mL hm) (bu U) (aN [1,2,3,4,5,6,7]))
theorem u7 (gw b:Nat):
 qf Tryz.prog 176 [(vP gw),(vI (b:Int))] [] (fun (x:Nat×Nat)=>(Value.func (.func 210) [].toArray [(Value.pointer (some ⟨x.1,0,none⟩)),(Value.pointer (some ⟨x.2,0,none⟩))].toArray)) (fun (x:Nat×Nat)=>True) (fun (x:Nat×Nat)=>[(cy x.1 237 [(vP gw)]),(cy x.2 3 [(vI (b:Int))])]):=by
 refine fJ kr Tryz.func176 U U fun E Q hQ hN=>?_
 try dsimp only
 refine WS fun _ A=>xJ U U fun C=>xJ U U fun D=>bx 1 U<|RK A<|WS fun _ B=>rS (FU U)<|rP 1 [] mn ?_
 refine RK B<|ao<|LX hQ (C,D) [1,0] [] mn U U U U ?_
 trivial
theorem IC (gw b:Nat):
 qf Tryz.prog 146 [(vP gw),(vI (b:Int))] [] (fun (x:Nat×Nat)=>(Value.func (.func 175) [].toArray [(Value.pointer (some ⟨x.1,0,none⟩)),(Value.pointer (some ⟨x.2,0,none⟩))].toArray)) (fun (x:Nat×Nat)=>True) (fun (x:Nat×Nat)=>[(cy x.1 237 [(vP gw)]),(cy x.2 3 [(vI (b:Int))])]):=by
 refine fJ kr Tryz.func146 U U fun E Q hQ hN=>?_
 try dsimp only
 refine WS fun _ A=>xJ U U fun C=>xJ U U fun D=>bx 1 U<|RK A<|WS fun _ B=>rS (FU U)<|rP 1 [] mn ?_
 refine RK B<|ao<|LX hQ (C,D) [1,0] [] mn U U U U ?_
 trivial
end
section
open Go.RowKit
theorem o2:vf Tryz.prog 278 ew:=Lh Mj (fun x y w=>N_ 9998 x y w) (fun x y h=>by cases x; cases y; simp [aJ.cells] at h; simp [h]) (fun x=>by simp [aJ.cells,Instr.sameBits]) (fun x w=>⟨_,rfl,fun p hp=>by
 simp only [cg,List.not_mem_nil,or_false] at hp
 rcases hp with rfl|rfl
 ·exact ⟨⟨_,cV bX U w⟩,_,nX⟩
 ·exact ⟨⟨_,cV bX U w⟩,_,nX⟩⟩)
theorem GM (s:Int):
 dF Tryz.prog 179 [(vI s)] [] (vA (aJ.cells (fG s))):=by
 refine bE kr Tryz.func179 U U fun H Q hQ hN=>?_
 try dsimp only
 refine WS fun _ B=>AL U tv fun G=>RK B<|ak fun _ C=>WS fun _ D=>rP 2 [] mn ?_
 refine RK D<|cr U (aT fun A=>?_) (aS fun A=>?_)
 ·refine WS fun _ E=>rS (SX (bG (xs:=[(1,.const (vI 1))]) (cs:=(aJ.cells (aJ.mk 0 1))) U U (bH BW U)) U U)<|fj U rZ U<|RK E<|ao<|z9 hQ [0] (mc 0 U mn) U ?_
  unfold fG; first|rw [if_pos A]|rw [if_neg A]
 refine WK C<|WS fun _ F=>rS (SX (bG (xs:=[(0,.const (vI 1))]) (cs:=(aJ.cells (aJ.mk 1 0))) U U (bH BW U)) U U)<|fj U rZ U<|RK F<|ao<|z9 hQ [0] (mc 0 U mn) U ?_
 unfold fG; first|rw [if_pos A]|rw [if_neg A]
theorem v8 (x:aJ) (y:aJ) (hx:(0≤x.right∧x.right≤1000)∧0≤x.eW∧x.eW≤1000) (hy:(0≤y.right∧y.right≤1000)∧0≤y.eW∧y.eW≤1000):
 dF Tryz.prog 178 [(vA (aJ.cells x)),(vA (aJ.cells y))] [] (vA (aJ.cells (dD x y))):=by
 refine bE kr Tryz.func178 U U fun F Q hQ hN=>?_
 try dsimp only
 refine WS fun _ A=>ed U fun C=>ed U fun D=>AL U tv fun E=>RK A<|WS fun _ B=>rP 10 [0,1,0,1] (mc 2 U (mc 1 U mn)) ?_
 refine rS (SX (bG (xs:=[(0,.tmp 9),(1,.tmp 14)]) (cs:=(aJ.cells (aJ.mk (x.right+y.right) (x.eW+y.eW)))) U U (bH BW U)) U U)<|fj U rZ U<|RK B<|ao ?_
 exact z9 hQ [0] (mc 0 U mn) U U
theorem Mi (ln:cu) (ri:de) (e:List Int) (tms:List TM) (e_A:OA) (e_C:Nat) (tb:List Nat) (t_A:OA) (t_C:Nat) (fs:List FM) (bs:List FM) (fb:List Nat) (f_A:OA) (f_C:Nat) (bb:List Nat) (b_A:OA) (b_C gw:Nat) (x:aJ) (hx:(0≤x.right∧x.right≤1000)∧0≤x.eW∧x.eW≤1000) (hn:ri.aa.n≤1000):
 dF Tryz.prog 177 [(vP gw),(vA (aJ.cells x))] [(rd e_A e.length 1 (e.map iC)),(rd t_A tms.length 1 (List.zipWith gr tms tb)),(dL (bk pU tms tb)),(rd f_A fs.length 1 (List.zipWith gr fs fb)),(dL (bk mU fs fb)),(rd b_A bs.length 1 (List.zipWith gr bs bb)),(dL (bk mU bs bb)),(cy gw 273 (cb.cells (cb.mk ln ri (bK.mk e_A e.length e_C) (bK.mk t_A tms.length t_C) (bK.mk f_A fs.length f_C) (bK.mk b_A bs.length b_C))))] (vB (kS (cQ ln ri e tms) x)):=by
 refine bE kr Tryz.func177 U U fun E Q hQ hN=>?_
 try dsimp only
 refine WS fun _ C=>ed U fun D=>bx 1 U<|RK C<|ak fun _ B=>cW ck 26 kr<|kv 3 [] (mc 0 U mn) U<|dS (SX (cP U U) U U)<|dP 5 [] (mr 8 U mn) ?_
 refine g0 (t:=13) U (aS fun A=>?_) (aT fun A=>?_)
 ·refine dP 17 [] mn ?_
  refine cw<|RK B<|ao<|Q1 hQ U U U ?_
  exact cB (aY (fun h=>A h.1)).symm
 refine kx 1 U<|dS (SX (cP U U) U U)<|kv 8 [0,1] (mr 8 U (mc 0 U mn)) U<|dS (SX (cP U U) U U)<|dP 6 [] (mr 8 U mn) ?_
 refine cw<|RK B<|ao<|Q1 hQ U U U ?_
 exact cB (gR.2 ⟨fun h=>⟨A,h⟩,fun h=>h.2⟩)
end
section
open Go.RowKit
theorem E2 (ln:cu) (ri:de) (e:List Int) (tms:List TM) (e_A:OA) (e_C:Nat) (tb:List Nat) (t_A:OA) (t_C:Nat) (fs:List FM) (bs:List FM) (fb:List Nat) (f_A:OA) (f_C:Nat) (bb:List Nat) (b_A:OA) (b_C gw:Nat) (b g1 g2:Nat) (mf:FM) (mb:FM) (hb:b<e.length) (hw:Ff (cQ ln ri e tms)) (htb:tb.length=tms.length) (hfw:vm (cQ ln ri e tms) fs) (hfb:fb.length=fs.length) (hbw:sB (cQ ln ri e tms) bs) (hbb:bb.length=bs.length) (hsg:ri.aa.n≤1000) (hm1:fs[b]? =some mf) (hm2:bs[b+1]? =some mb):
 K3 Tryz.prog 175 [] [(vP g1),(vP g2)] [(rd e_A e.length 1 (e.map iC)),(rd t_A tms.length 1 (List.zipWith gr tms tb)),(dL (bk pU tms tb)),(rd f_A fs.length 1 (List.zipWith gr fs fb)),(dL (bk mU fs fb)),(rd b_A bs.length 1 (List.zipWith gr bs bb)),(dL (bk mU bs bb)),(cy gw 273 (cb.cells (cb.mk ln ri (bK.mk e_A e.length e_C) (bK.mk t_A tms.length t_C) (bK.mk f_A fs.length f_C) (bK.mk b_A bs.length b_C)))),(cy g1 237 [(vP gw)]),(cy g2 3 [(vI (b:Int))])] ([]:List (Int×ai)) (fun ys x ys'=> ∃ q,q∈qd (cQ ln ri e tms) b mf mb∧x=Mb q∧ys'=ys++[q]) (fun ys=> ∀ q∈qd (cQ ln ri e tms) b mf mb,q∈ys):=by
 have K4:e.length≤6:=hw.n
 have K5:tms.length=e.length:=hw.times
 have J6:fs.length=e.length+1:=hfw.len
 have J5:bs.length=e.length+1:=hbw.len
 refine EJ kr Tryz.func175 U U fun l J Z A0 w0 Q hY Fd FS hQ hN=>?_
 try dsimp only
 refine WS fun _ Fn=>xJ U U fun b2=>RK Fn<|WS fun _ GE=>rP 2 [0,1] (mr 10 U (mr 11 U mn)) ?_
 refine cX (u7 gw b) (aR) U fun y4 LA=>?_
 obtain ⟨DW,Di⟩:=y4
 try dsimp only
 refine RK GE<|aC<|jq 4 U (by exact fun _ h=>h)<|jq 6 U (by exact fun _ h=>h)<|jq 8 U (by exact fun _ h=>h)<|jq 14 U (by exact fun _ h=>h) ?_
 refine uq (L0:=[(0,(Value.func (.yield l) #[] #[])),(1,(vP g1)),(2,(vP g2)),(3,(vP b2))]) (F:=[(rd e_A e.length 1 (e.map iC)).ro,(rd t_A tms.length 1 (List.zipWith gr tms tb)).ro,(dL (bk pU tms tb)).ro,(cy gw 273 (cb.cells (cb.mk ln ri (bK.mk e_A e.length e_C) (bK.mk t_A tms.length t_C) (bK.mk f_A fs.length f_C) (bK.mk b_A bs.length b_C)))).ro,(cy DW 237 [(vP gw)]),(cy Di 3 [(vI (b:Int))])]) (fun k (y:(List (Int×ai))×aA)=>(lT (cQ ln ri e tms) b mf mb k y.1)∧(J y.1 y.2)∧(Fo A0 w0 y.2)) (fun k y=>[(cy b2 275 [(Value.func (.yield l) #[] #[])]),y.2,(rd e_A e.length 1 (e.map iC)).ro,(rd t_A tms.length 1 (List.zipWith gr tms tb)).ro,(dL (bk pU tms tb)).ro,(rd f_A fs.length 1 (List.zipWith gr fs fb)).ro,(dL (bk mU fs fb)).ro,(rd b_A bs.length 1 (List.zipWith gr bs bb)).ro,(dL (bk mU bs bb)).ro,(cy gw 273 (cb.cells (cb.mk ln ri (bK.mk e_A e.length e_C) (bK.mk t_A tms.length t_C) (bK.mk f_A fs.length f_C) (bK.mk b_A bs.length b_C)))).ro,(cy g1 237 [(vP gw)]).ro,(cy g2 3 [(vI (b:Int))]).ro]) (fun c (z:aA)=>(c= .ret∧(Z z)∧(Fo A0 w0 z))) (fun _ z=>[(cy b2 275 [(Value.func (.yield l) #[] #[])]),z,(rd e_A e.length 1 (e.map iC)).ro,(rd t_A tms.length 1 (List.zipWith gr tms tb)).ro,(dL (bk pU tms tb)).ro,(rd f_A fs.length 1 (List.zipWith gr fs fb)).ro,(dL (bk mU fs fb)).ro,(rd b_A bs.length 1 (List.zipWith gr bs bb)).ro,(dL (bk mU bs bb)).ro,(cy gw 273 (cb.cells (cb.mk ln ri (bK.mk e_A e.length e_C) (bK.mk t_A tms.length t_C) (bK.mk f_A fs.length f_C) (bK.mk b_A bs.length b_C)))).ro,(cy g1 237 [(vP gw)]).ro,(cy g2 3 [(vI (b:Int))]).ro]) [6,7,8,9,10,11,12,13,14,15,16,17] [3,2,1,0,4,5] (([]:List (Int×ai)),A0) rfl rfl (sf ln ri e tms e_A e_C tb t_A t_C f_A fs.length f_C b_A bs.length b_C gw b DW Di I I) rfl rfl rfl (by exact ⟨lT.nil,Fd,FS⟩) (by simp only [List.forall_mem_cons,List.not_mem_nil,false_imp_iff,implies_true,and_true]; exact ⟨⟨_,aP (i:=0) rfl,(dI (bY _))⟩,⟨_,aP (i:=1) rfl,(dI (bY _))⟩,⟨_,aP (i:=2) rfl,(dI (bY _))⟩,⟨_,aP (i:=3) rfl,(dI (bY _))⟩,⟨_,aP (i:=4) rfl,(bY _)⟩,⟨_,aP (i:=5) rfl,(bY _)⟩⟩) (by rintro k x k2 ⟨o,_,rfl,_⟩; rfl) rfl (bu rfl) ?_ ?_ ?_ ?_
 rotate_left 1
 ·rintro LT k ⟨ys,A⟩ C0 A1
  obtain ⟨X,Y,a⟩:=A1
  try dsimp only at X Y a
  try dsimp only
  refine aK ?_
  refine hN _ _ _ (qH 0 U U<|ke (vs:=[]) trivial fun w hs=>NM 8 U (by exact lT.fin X C0) Y a hs)
 ·rintro La id A C3
  simp at C3
 ·rintro Li A DE
  obtain ⟨hc,HY,Ho⟩:=DE
  try dsimp only
  refine hQ _ _ _ (qH 0 U U<|ke (vs:=[]) trivial fun w hs=>En 8 U HY Ho hs)
 rintro k x k2 ⟨ys,A⟩ lr ra rb S w1 K8 Qr9 H1 hx AO GT Ck Ji Do
 obtain ⟨o,ho,rfl,rfl⟩:=hx
 obtain ⟨X,Y,a⟩:=AO
 try dsimp only at X Y a
 try dsimp only
 refine WS fun _ A6=>rP 1 [] mn ?_
 refine RK A6<|au<|AL U dV fun Jr=>fj U cT U<|aD<|jY (fun _ _ h=>h) (aN [1,0,2,3,4,5,6,7,8,9,10,11,12,13])<|bj (GT _ _ ?_)
 refine aC<|ak fun _ A7=>cW ck 7 kr<|kv 1 [] (mr 12 U mn) U<|dS (SX (cP U U) U U)<|dP 3 [0,1] (mr 11 U (mr 13 U mn)) ?_
 obtain ⟨ga,s⟩:=aF fb b I
 have C1:(List.zipWith gr fs fb)[b]? =some (gr mf ga):=cZ hm1 s
 refine dS (IA b U (ax 7 U) ou dc I I)<|dS (h_ b 0 (Value.map (some ga)) U bX (ax 7 U) C1 U dc U)<|cw<|pE (kV:=ew) (m:=cR iV mf) 8 U U o7 U ⟨⟨(ks ew ga (cR iV mf)),(bD hm1 s (by simp [mU])),U⟩,fun h=>h⟩ (show hH _ (ks ew ga (cR iV mf)).holds from cj 8 U (bD hm1 s (by simp [mU]))) U fun Id=>?_
 try dsimp only
 refine RK A7<|aC ?_
 have C:(∀ p∈mf,p∈mf)∧(nS (cQ ln ri e tms) b mf mb o mf ys)∧(lT (cQ ln ri e tms) b mf mb k ys)∧(J ys A)∧(Fo A0 w0 A):=by exact ⟨fun p hp=>hp,nS.start,X,Y,a⟩
 refine bQ (ι:={z:FM×(List (Int×ai))×aA // (∀ p∈z.1,p∈mf)∧(nS (cQ ln ri e tms) b mf mb o z.1 z.2.1)∧(lT (cQ ln ri e tms) b mf mb k z.2.1)∧(J z.2.1 z.2.2)∧(Fo A0 w0 z.2.2)}) [0,1,2,3,4,5,23] [1,2,3,5,6,7,8,9,10,11,12,13,14] U U (fun z=>[]) (fun z=>[(Cf ew Id ga (cR iV mf) (cR iV z.1.1) none),z.1.2.2]) (fun _=>rfl) (fun _=>rfl) (fun z=>z.1.1.length) ⟨(mf,ys,A),C⟩ (dh.nil _) (aN [1,2,3,5,6,7,8,9,10,11,12,13,14,0,4]) ?_
 clear C
 rintro ⟨⟨left,ys,A⟩,⟨K,M,N,O,P⟩⟩ J15 A5
 try dsimp only at K M N O P
 try dsimp only
 refine WS fun _ j=>oj o2.inj (f:=iV) 13 U U U U (fun Eq=>?_) (fun t v hm hn=>?_)
 ·refine rP 1 [] mn ?_
  refine RK j<|ak fun _ In=>bT U<|bM<|ag<|ag<|aG<|aK ?_
  exact Ck (ys,A) _ _ (by exact ⟨lT.next N M Eq,O,P⟩) (aN [0,2,14,3,4,5,6,7,8,9,10,11,12])
 try dsimp only
 refine bx 1 U<|RK j<|ak fun _ A8=>aI U<|WK A8<|aC<|WS fun _ A9=>rS (SX (ow 13 U U U) U U)<|bx 2 U<|AL U tv fun J2=>fj U rZ U<|bx 1 U<|RK A9<|ak fun _ Bv=>cW ck 8 kr<|kv 1 [] (mr 12 U mn) U<|dS (SX (cP U U) U U)<|dP 4 [0,1] (mr 11 U (mr 13 U mn)) ?_
 obtain ⟨gb,AC⟩:=aF bb (b+1) I
 have C2:(List.zipWith gr bs bb)[(b+1)]? =some (gr mb gb):=cZ hm2 AC
 refine dS (IA (b+1) U (ax 9 U) ou dc I I)<|dS (h_ (b+1) 0 (Value.map (some gb)) U bX (ax 9 U) C2 U dc U)<|cw<|pE (kV:=ew) (m:=cR iV mb) 10 U U o7 U ⟨⟨(ks ew gb (cR iV mb)),(bD hm2 AC (by simp [mU])),U⟩,fun h=>h⟩ (show hH _ (ks ew gb (cR iV mb)).holds from cj 10 U (bD hm2 AC (by simp [mU]))) U fun If=>?_
 try dsimp only
 refine RK Bv<|aC ?_
 have C:(∀ p∈mb,p∈mb)∧(nT (cQ ln ri e tms) b mb o (t,v) mb ys)∧(nS (cQ ln ri e tms) b mf mb o left ys)∧(lT (cQ ln ri e tms) b mf mb k ys)∧(J ys A)∧(Fo A0 w0 A):=by exact ⟨fun p hp=>hp,nT.start,M,N,O,P⟩
 refine bQ (ι:={z:FM×(List (Int×ai))×aA // (∀ p∈z.1,p∈mb)∧(nT (cQ ln ri e tms) b mb o (t,v) z.1 z.2.1)∧(nS (cQ ln ri e tms) b mf mb o left z.2.1)∧(lT (cQ ln ri e tms) b mf mb k z.2.1)∧(J z.2.1 z.2.2)∧(Fo A0 w0 z.2.2)}) [0,1,2,3,4,5,6,7,23,37] [1,2,3,4,5,6,7,8,9,10,11,12,13,14,15] U U (fun z=>[]) (fun z=>[(Cf ew If gb (cR iV mb) (cR iV z.1.1) none),z.1.2.2]) (fun _=>rfl) (fun _=>rfl) (fun z=>z.1.1.length) ⟨(mb,ys,A),C⟩ (dh.nil _) (aN [1,2,3,4,5,6,7,8,9,10,11,12,13,14,15,0,16]) ?_
 clear C
 rintro ⟨⟨l2,T,A2⟩,⟨B,D,E,G,H,AB⟩⟩ J23 V
 try dsimp only at B D E G H AB
 try dsimp only
 refine WS fun _ r=>oj o2.inj (f:=iV) 15 U U U U (fun FP=>?_) (fun u z L A3=>?_)
 ·refine rP 1 [] mn ?_
  refine RK r<|ak fun _ Jb=>bT U<|bM<|ag<|ag<|aG<|aK<|qy 14 U pj U ?_
  refine bj (A5 ⟨((fg left t),T,A2),⟨mK K,nS.next hn hm E D FP,G,H,AB⟩⟩ _ _ _ U (mL hm) (bu U) (aN [1,2,3,4,5,6,7,8,9,10,11,12,13,14,16]))
 try dsimp only
 refine bx 1 U<|RK r<|ak fun _ B3=>aI U<|WK B3<|aC<|WS fun _ B9=>rS (SX (ow 15 U U U) U U)<|bx 2 U<|AL U tv fun J3=>fj U rZ U<|rP 1 [] mn ?_
 refine RK B9<|ak fun _ Ci=>dx ck [17,18] [] [] [0,1,2,3,4,5,6,7,8,9,10,11,12,13,14,15,16,17] [] U U U U U<|eS U (MV U)<|eS U (TP 13 U bX U)<|eS U (SX (cP U U) U U)<|eS U (FA 10 U eV U)<|eS U (GS (vS e_A e.length e_C) 12 U bX U U)<|eS U (TP 14 U bX U) ?_
 obtain ⟨y,hy⟩:=aF e b I
 have IO:=bJ iC hy
 refine eS U (IA b U (ax 5 U) dJ dc I I)<|eS U (h_ b 0 (vI y) U bX (ax 5 U) IO U dc U) ?_
 have J7:=hw.least y (aP hy)
 have Go:=Im hw _ _ (hfw.mem hm1 (K _ hm))
 have GY:=H2 hw (hbw.mem hm2 (B _ L))
 have J8:=ve o.1
 have J9:=hw.opt ho
 dsimp only at Go GY
 refine eS U (BI U (n9 ⟨I,I⟩))<|eS U (FA 0 U eV U)<|eS U (L1 (vI o.2.Lo) 3 U bX U U)<|eS U (MX U)<|eS U (MV U)<|eS U (FA 1 U eV U)<|eS U (L1 (vI o.2.Hi) 3 U bX U U)<|eS U (MN U)<|eS U (SX (bG (xs:=[(0,.tmp 54),(1,.tmp 58)]) (cs:=(ai.cells (ai.mk (max (v+y) o.2.Lo) (min z o.2.Hi)))) U U (bH gU U)) U U)<|eo U<|cd U fun T30 Cp=>AL U dV fun J4=>aD (Cp _ _ (aN [1,2,3,4,5,6,7,8,9,10,11,12,13,14,15,16,17,18]) ?_)
 refine cd U fun T32 Cx=>fj U cT U<|aD (Cx _ _ (aN [1,2,3,4,5,6,7,8,9,10,11,12,13,14,15,16,17,18]) ?_)
 refine fh U<|KK Ci<|ak fun _ R=>cW ck 19 kr<|dP 6 [] (mc 0 U mn) ?_
 refine g0 (t:=65) U (aS fun d=>?_) (aT fun d=>?_)
 ·refine kx 3 U<|kx 10 U<|cw<|rP 3 [] mn ?_
  refine RK R<|bT U<|cp<|aK<|qy 17 U pj U ?_
  refine bj (V ⟨((fg l2 u),T,A2),⟨mK B,nT.skip A3 L D (by exact GC hy d),E,G,H,AB⟩⟩ _ _ _ U (mL L) (bu U) (aN [2,3,4,5,6,7,8,9,10,11,12,13,14,15,16,17,18]))
 refine dP 3 [0,1,2] (mr 14 U (mc 2 U (mc 1 U mn))) ?_
 have K0:(0≤(dD t u).right∧(dD t u).right≤1000)∧0≤(dD t u).eW∧(dD t u).eW≤1000:=by simp only [dD]; omega
 have KV:(0≤(dD (dD t u) (fG o.1)).right∧(dD (dD t u) (fG o.1)).right≤1000)∧0≤(dD (dD t u) (fG o.1)).eW∧(dD (dD t u) (fG o.1)).eW≤1000:=by simp only [dD]; omega
 refine dS (CL (v8 t u I I) (aR) U)<|kx 1 U<|dS (CL (GM o.1) (aR) U)<|dS (CL (v8 (dD t u) (fG o.1) asm I) (aR) U)<|dS (CL (Mi ln ri e tms e_A e_C tb t_A t_C fs bs fb f_A f_C bb b_A b_C gw (dD (dD t u) (fG o.1)) asm hsg) (br [6,7,8,9,10,11,12,13]) U)<|dP 2 [] mn ?_
 refine g0 (t:=75) U (fun g=>?_) (fun g=>?_)
 ·refine kx 3 U<|cw<|rP 3 [] mn ?_
  refine RK R<|bT U<|cp<|aK<|qy 17 U pj U ?_
  refine bj (V ⟨((fg l2 u),T,A2),⟨mK B,nT.skip A3 L D (by exact Fg g),E,G,H,AB⟩⟩ _ _ _ U (mL L) (bu U) (aN [2,3,4,5,6,7,8,9,10,11,12,13,14,15,16,17,18]))
 refine dP 3 [0,1] (mc 5 U (mc 0 U mn)) ?_
 refine cw<|xK (k:=T) (k':=(T++[(o.1,(ai.mk (max (v+y) o.2.Lo) (min z o.2.Hi)))])) 18 (by first|exact H1|exact Nat.le_refl _) hY H AB U U U (by exact ⟨(o.1,_),iE.2 ⟨o,ho,(t,v),K _ hm,(u,z),B _ L,(Bs hy d g)⟩,U,U⟩) U U (fun B34 W AA=>?_) (fun B34 W AA=>?_)
 rotate_left 1
 ·refine rP 2 [] mn ?_
  refine RK R<|aI U<|ao ?_
  exact Do B34 _ _ (by exact ⟨U,W,AA⟩) (aN [3,5,18,6,7,8,9,10,11,12,13,14,15])
 refine rP 2 [] mn ?_
 refine RK R<|bT U<|cp<|aK<|qy 17 U pj U ?_
 refine bj (V ⟨((fg l2 u),(T++[(o.1,(ai.mk (max (v+y) o.2.Lo) (min z o.2.Hi)))]),B34),⟨mK B,nT.SZ A3 L D (Bs hy d g),E.app,G.app,W,AA⟩⟩ _ _ _ U (mL L) (bu U) (aN [2,3,4,5,6,7,8,9,10,11,12,13,14,15,16,17,18]))
end
section
open Go.RowKit
theorem uP (ln:cu) (ri:de) (e:List Int) (tms:List TM) (e_A:OA) (e_C:Nat) (tb:List Nat) (t_A:OA) (t_C:Nat) (fs:List FM) (bs:List FM) (fb:List Nat) (f_A:OA) (f_C:Nat) (bb:List Nat) (b_A:OA) (b_C gw:Nat) (hw:Ff (cQ ln ri e tms)) (hsg:ri.aa.n≤1000) (hn:ln.ab.n=e.length) (hfw:vm (cQ ln ri e tms) fs) (hfb:fb.length=fs.length):
 qf Tryz.prog 147 [(vP gw)] [(rd e_A e.length 1 (e.map iC)),(rd t_A tms.length 1 (List.zipWith gr tms tb)),(dL (bk pU tms tb)),(rd f_A fs.length 1 (List.zipWith gr fs fb)),(dL (bk mU fs fb)),(rd b_A bs.length 1 (List.zipWith gr bs bb)),(dL (bk mU bs bb)),(cy gw 273 (cb.cells (cb.mk ln ri (bK.mk e_A e.length e_C) (bK.mk t_A tms.length t_C) (bK.mk f_A fs.length f_C) (bK.mk b_A bs.length b_C))))] (fun (x:(OA)×Nat)=>(vS x.1 ((hG (cQ ln ri e tms)).length) x.2)) (fun (x:(OA)×Nat)=>True) (fun (x:(OA)×Nat)=>[(own x.1 x.2 3 1 ((hG (cQ ln ri e tms)).map iC))]):=by
 have y:e.length≤6:=hw.n
 have u:fs.length=e.length+1:=hfw.len
 refine fJ kr Tryz.func147 U U fun w0 Q hQ hN=>?_
 try dsimp only
 refine WS fun _ X=>bx 1 U<|RK X<|WS fun _ Y=>bx 1 U<|RK Y<|ak fun _ Z=>WS fun _ b=>bx 1 U<|rS (SX (cP U U) U U)<|rP 6 [] (mr 7 U mn) ?_
 refine RK b<|aC<|fR 3 1 ?_
 have A:(0≤e.length+1):=by exact Nat.zero_le _
 refine bQ (ι:={z:Nat×(OA)×Nat // (z.1≤e.length+1)}) [0,12] [1,2,3,4,5,6,7,8] U U (fun z=>[(3,(vS z.1.2.1 ((iA (cQ ln ri e tms) z.1.1).length) z.1.2.2)),(13,(vI (z.1.1:Int)))]) (fun z=>[(own z.1.2.1 z.1.2.2 3 1 ((iA (cQ ln ri e tms) z.1.1).map iC))]) (fun _=>rfl) (fun _=>rfl) (fun z=>e.length+1-z.1.1) ⟨(0,none,0),A⟩ (bu U) (aN [1,2,3,4,5,6,7,8,0]) ?_
 clear A
 rintro ⟨⟨n,a,c⟩,G⟩ J5 AB
 try dsimp only at G
 try dsimp only
 refine WS fun _ d=>rP 1 [] mn ?_
 refine RK d<|ak fun _ g=>bO U (aS fun s=>?_) (aT fun s=>?_)
 ·refine bM<|ag<|ag<|aG<|KK Z<|WS fun _ P=>?_
  rw [show iA (cQ ln ri e tms) n=hG (cQ ln ri e tms) by (obtain rfl:n=e.length+1:=by omega); rfl]
  refine rP 2 [] mn ?_
  refine RK P<|ao<|LX hQ (a,c) [8] [] mn U U U U ?_
  trivial
 refine WK g<|ak fun _ R=>aC<|WS fun _ J=>bx 2 U<|RK J<|WS fun _ K=>bx 1 U<|rS (SX (cP U U) U U)<|rP 3 [] (mr 7 U mn) ?_
 obtain ⟨m,B⟩:=aF fs n I
 obtain ⟨ma,hm0a⟩:=aF fb n I
 have hm0m:(List.zipWith gr fs fb)[n]? =some (gr m ma):=cZ B hm0a
 refine rS (IA n U (ax 3 U) ou dc I I)<|rS (h_ n 0 (Value.map (some ma)) U bX (ax 3 U) hm0m U dc U)<|pE (kV:=ew) (m:=cR iV m) 4 U U o7 U ⟨⟨(ks ew ma (cR iV m)),(bD B hm0a (by simp [mU])),U⟩,fun h=>h⟩ (show hH _ (ks ew ma (cR iV m)).holds from cj 4 U (bD B hm0a (by simp [mU]))) U fun l=>?_
 try dsimp only
 refine RK K<|aC ?_
 have A:(∀ p∈m,p∈m)∧(∀ p∈m,p∈m∨kS (cQ ln ri e tms) p.1=false):=by exact ⟨fun p hp=>hp,fun p hp=> .inl hp⟩
 refine bQ (ι:={z:FM // (∀ p∈z,p∈m)∧(∀ p∈m,p∈z∨kS (cQ ln ri e tms) p.1=false)}) [0,3,4,12,13,23] [1,2,3,4,5,6,7,8,9] U U (fun z=>[]) (fun z=>[(Cf ew l ma (cR iV m) (cR iV z.1) none)]) (fun _=>rfl) (fun _=>rfl) (fun z=>z.1.length) ⟨m,A⟩ (dh.nil _) (aN [1,2,3,4,5,6,7,8,9,0]) ?_
 clear A
 rintro ⟨left,⟨C,D⟩⟩ J13 H
 try dsimp only
 refine WS fun _ F=>oj o2.inj (f:=iV) 9 U U U U (fun W=>?_) (fun t v hm i=>?_)
 ·refine bx 1 U<|RK F<|ak fun _ o=>bT U<|bM<|ag<|ag<|aG<|aK<|KK R<|au<|rP 2 [] mn ?_
  refine aD ?_
  rw [← yG (w:=(cQ ln ri e tms)) (k:=n) ((AH (hfw.min _ _ B) (hfw.keys _ _ B)).symm.trans (He D W))]
  have S:(vI (((n+1):Nat):Int))=(vI ((n:Int)+1)):=by exact cI I
  refine bj (AB ⟨((n+1),a,c),(by first|omega|(simp only []; omega))⟩ _ _ _ U os (cN 3<|a_ U S<|dh.nil _) (aN [0,1,2,3,4,5,6,7,8]))
 try dsimp only
 refine bx 1 U<|RK F<|ak fun _ L=>aI U<|WK L<|aC<|WS fun _ M=>rS (SX (ow 9 U U U) U U)<|bx 1 U<|AL U tv fun q=>fj U rZ U<|RK M<|WS fun _ N=>rP 2 [] (mc 0 U mn) ?_
 have j:=Im hw _ _ (hfw.mem B (C _ hm))
 dsimp only at j
 refine rS (CL (Mi ln ri e tms e_A e_C tb t_A t_C fs bs fb f_A f_C bb b_A b_C gw t I hsg) (br [1,2,3,4,5,6,7,8]) U)<|RK N<|bO U (fun E=>?_) (fun E=>?_)
 ·refine cp<|aK<|qy 10 U pj U ?_
  refine bj (H ⟨(fg left t),⟨mK C,IB i hm D (by first|exact E|simpa using E)⟩⟩ _ _ _ U (mL hm) (bu U) (aN [1,2,3,4,5,6,7,8,9,10]))
 refine WS fun _ O=>rP 2 [] mn ?_
 refine eP (xs:=[.tmp 32]) (cs:=[(vI (n:Int))]) U dJ kJ U U U U (by simp [Value.cells]) U U fun r=>?_
 have hy:js (cQ ln ri e tms) (fwd (cQ ln ri e tms) n)=true:=(AH (hfw.min _ _ B) (hfw.keys _ _ B)).symm.trans (K1 (C _ hm) E)
 refine dA (es2:=(List.map iC (iA (cQ ln ri e tms) (n+1)))) (m':=(iA (cQ ln ri e tms) (n+1)).length) 10 U U U qz U U sm (bq (es:=List.map iC [(n:Int)]) 0 U U (by simp [bU]) U) (kG _) (by have:=nR (w:=(cQ ln ri e tms)) (k:=n); first|omega|(simp; omega)) (by have:=nR (w:=(cQ ln ri e tms)) (k:=n); simp only [maxLen]; omega) (by rw [xN hy]; simp) sm U fun AA V=>?_
 try dsimp only
 refine bx 1 U<|RK O<|bM<|fB U<|ag<|aG<|aK<|KK R<|au<|rP 2 [] mn ?_
 refine aD ?_
 have T:(vI (((n+1):Nat):Int))=(vI ((n:Int)+1)):=by exact cI I
 refine bj (AB ⟨((n+1),AA,V),(by first|omega|(simp only []; omega))⟩ _ _ _ U os (cN 3<|a_ U T<|dh.nil _) (aN [2,3,4,5,6,7,8,9,10]))
end
end Go.Proofs.YtgcjjjehnjljbaaGreatDoor
