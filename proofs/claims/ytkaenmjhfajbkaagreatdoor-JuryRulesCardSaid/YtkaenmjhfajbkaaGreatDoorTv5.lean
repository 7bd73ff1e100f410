/-
 The statement juryRules_said, part 5 of 9: JMem, SeqO, RankP, NestS, Grp, JSeq, JTop, JMor, JFeeL, JRef, JRep, Twin, Fresh, JPut, JPutL, JRul, Win6, DrawB, MapD, Bits, BoolC, RaceR, B1, B11, WLe, Ends5, Can, Sim, Told, Clear, Ways, Frozen, MarkD, Async, WayM, Marks, Follow, OpenM, B2, B3.
 Conditions: none.
-/
import Derived.Test.YtkaenmjhfajbkaaGreatDoorTv1
import Derived.Test.YtkaenmjhfajbkaaGreatDoorTv2
import Derived.Test.YtkaenmjhfajbkaaGreatDoorTv3
import Derived.Test.YtkaenmjhfajbkaaGreatDoorTv4
import Derived.KernelRfl
namespace Go.Proofs.YtkaenmjhfajbkaaGreatDoor
set_option maxRecDepth 100000
set_option maxHeartbeats 4000000
set_option linter.unusedVariables false
section
open Go.RowKit
structure er (j:cw) (az:List RA) (ha:List bZ):Prop where
 race:iP j.Race az ha
 nf:j.aM.length≤1000000
 np:j.aB.length≤1000000
 kind: ∀ f∈j.aM,0≤f.Kind∧f.Kind≤255
structure vb (j:cw) (az:List RA) (ha:List bZ):Prop where
 race:uN j.Race az ha
 nf:j.aM.length≤9223372036854775807
 np:j.aB.length≤9223372036854775807
 kind: ∀ f∈j.aM,0≤f.Kind∧f.Kind≤255
def l7 (j:cw):Prop:=(jX j.Race∨10<(j.aM.length:Int))∨15<(j.aB.length:Int)
noncomputable instance (j:cw):Decidable (l7 j):=Classical.propDecidable _
theorem sH {j:cw} (h: ¬ l7 j): ¬ jX j.Race∧(j.aM.length:Int)≤10∧(j.aB.length:Int)≤15:=by
 unfold l7 at h
 have A: ¬ jX j.Race:=fun q=>h (.inl (.inl q))
 have B: ¬ 10<(j.aM.length:Int):=fun q=>h (.inl (.inr q))
 have C: ¬ 15<(j.aB.length:Int):=fun q=>h (.inr q)
 exact ⟨A,om,om⟩
theorem vb.small {j:cw} {az:List RA} {ha:List bZ} (h:vb j az ha) (hg: ¬ l7 j):er j az ha:=by
 have A:=sH hg
 exact ⟨h.race.small A.1,om,om,h.kind⟩
def o0 (fin:Int) (f:bg):Prop:=(1≤f.Kind∧f.Kind≤3)∧(0≤f.mu∧f.mu≤f.To∧f.To≤86400000)∧0≤f.g_∧f.g_≤(if f.Kind=1 then 0 else fin)
instance (fin:Int) (f:bg):Decidable (o0 fin f):=by unfold o0; infer_instance
theorem Nz {P:Nat→Bool} {n i:Nat} (h: ¬ 0<((kU P n).length:Int)) (hi:i<n):P i=false:=by
 cases e:P i with
 |false=>rfl
 |true=>
  have:(i:Int)∈kU P n:=Er.2 ⟨i,hi,rfl,e⟩
  have:=List.length_pos_of_mem this
  omega
theorem MZ {P:Nat→Bool} {n:Nat} (h:0<((kU P n).length:Int)): ∃ i,i<n∧P i=true:=by
 obtain ⟨x,hx⟩:=List.exists_mem_of_length_pos (l:=kU P n) om
 obtain ⟨i,A,_,B⟩:=Er.1 hx
 exact ⟨i,A,B⟩
def iJ {α:Type} (l:List α) (p:Int→α→Bool) (i:Nat):Bool:=(l[i]?).any (p (i:Int))
theorem sr {α:Type} {l:List α} {p:Int→α→Bool} {i:Nat} {x:α} (h:l[i]? =some x):iJ l p i=p (i:Int) x:=by unfold iJ; rw [h]; rfl
section
variable {fin:Int} {f:bg} {j:cw}
theorem uh (hk:f.Kind=1):o0 fin f↔(0≤f.mu∧f.mu≤f.To∧f.To≤86400000)∧0≤f.g_∧f.g_≤0:=by
 unfold o0; rw [if_pos hk]; omega
theorem um (hk: ¬ f.Kind=1):o0 fin f↔(1≤f.Kind∧f.Kind≤3)∧(0≤f.mu∧f.mu≤f.To∧f.To≤86400000)∧0≤f.g_∧f.g_≤fin:=by
 unfold o0; rw [if_neg hk]
theorem EJ (h:0<((kU (iJ j.aM fun _ f=>decide (¬ o0 j.Race.au.bV f)) j.aM.length).length:Int)): ¬ qW j:=fun q=>by
 obtain ⟨i,hi,hb⟩:=MZ h
 have hx:j.aM[i]? =some (j.aM[i]'hi):=f_ hi
 rw [sr hx] at hb
 exact (of_decide_eq_true hb) (q.fault _ (aP hx))
theorem CI (h: ¬ 0<((kU (iJ j.aM fun _ f=>decide (¬ o0 j.Race.au.bV f)) j.aM.length).length:Int)): ∀ f∈j.aM,fj j.Race.au f:=fun f hf=>by
 obtain ⟨i,hi⟩:=List.mem_iff_getElem?.1 hf
 have hb:=Nz h (aZ.1 hi).1
 rw [sr hi] at hb
 exact Decidable.of_not_not (of_decide_eq_false hb)
theorem tT {b:Bool} {p q:Prop} (h1:b=false) (h2: ¬ p) (h3: ¬ q): ¬ (b=true∨p∨q):=by
 rintro (h|h|h)
 ·rw [h1] at h; cases h
 ·exact h2 h
 ·exact h3 h
end
section
variable {l:bq} {r:cO} {b:Int} {f:bg} {d:aq} {a c:xI}
theorem zp (h:b<0):dh l r b=⟨r.Start,r.Start,true,false⟩:=if_pos h
theorem xJ (h: ¬ b<0) (e: ¬ eA l r b=0):dh l r b=⟨86400000,86400000,false,true⟩:=by unfold dh; rw [if_neg h,if_neg e]
theorem vu (h: ¬ b<0) (e:eA l r b=0) (q:uk l r b=true):dh l r b=⟨(dD l r b).Lo,(dD l r b).Hi,true,false⟩:=by unfold dh; rw [if_neg h,if_pos e,q]; rfl
theorem tJ (h: ¬ b<0) (e:eA l r b=0) (q:uk l r b=false):dh l r b=⟨(dD l r b).Lo,86400000,false,false⟩:=by unfold dh; rw [if_neg h,if_pos e,q]; rfl
theorem sh (h:eA l r b=0) (hb:0≤b):fp l r 0=0:=by
 by_cases e:fp l r (fP l b)=0
 ·by_cases c:0≤b∧b≤(l.aj.length:Int)-1
  ·rw [ng c] at e; exact e
  ·rw [show fP l b=2 from if_neg c] at e
   have:=(iG e).2.2.1
   omega
 ·rw [(dL e).1] at h; exact absurd h e
theorem CS (h:fp l r 0=0):uk l r b=decide (b<pX (hH l r)):=by
 have hm:=NX (zQ h)
 unfold uk
 rw [Bool.eq_iff_iff,c_,decide_eq_true_iff]
 constructor
 ·intro q; exact of_decide_eq_true (q _ hm.1)
 ·intro q x hx
  have:=hm.2 x hx
  exact dC om
theorem Gd (hb:0≤b):(0≤(dh l r b).Lo∧(dh l r b).Lo≤86400000)∧0≤(dh l r b).Hi∧(dh l r b).Hi≤86400000:=by
 by_cases e:eA l r b=0
 ·have A:=vf e
  cases q:uk l r b with
  |true=>rw [vu om e q]; simp only; omega
  |false=>rw [tJ om e q]; simp only; omega
 ·rw [xJ om e]; simp only; omega
theorem g0 (hk:f.Kind=1) (hr:o2 d):gd l f d=nu f (dh l d.aV (-1)) (dh l d.aV l.bV):=by
 unfold gd FZ TK; rw [if_pos hr,if_pos hk,if_pos hk]
theorem g7 (hk:f.Kind=2) (hr:o2 d):gd l f d=nu f (dh l d.aV (f.g_-1)) (dh l d.aV f.g_):=by
 unfold gd FZ TK; rw [if_pos hr,if_neg om,if_pos hk,if_neg om]
theorem gY (hk:f.Kind=3) (hr:o2 d):gd l f d=nu f (dh l d.aV f.g_) (dh l d.aV f.g_):=by
 unfold gd FZ TK; rw [if_pos hr,if_neg om,if_neg om,if_neg om]
theorem eY (h:a.never=true∨f.To<a.Lo∨c.Hi<f.mu):nu f a c=0:=if_pos h
theorem lY (h: ¬ (a.never=true∨f.To<a.Lo∨c.Hi<f.mu)) (q:a.each=true) (s:rT f a c):nu f a c=2:=by unfold nu; rw [if_neg h,if_pos ⟨q,s⟩]
theorem gr (h: ¬ (a.never=true∨f.To<a.Lo∨c.Hi<f.mu)) (q: ¬ (a.each=true∧rT f a c)):nu f a c=1:=by unfold nu; rw [if_neg h,if_neg q]
theorem j2 (hk: ¬ f.Kind=3):rT f a c↔a.Hi≤f.To∧f.mu≤c.Lo:=by unfold rT; rw [if_neg hk]
theorem Ab (hk:f.Kind=3):rT f a c↔ai.mk (max a.Lo f.mu) (min a.Hi f.To)=ai.mk a.Lo a.Hi:=by
 unfold rT; rw [if_pos hk]
 constructor
 ·intro q; congr 1<;>omega
 ·intro q; injection q with A B; omega
end
section
variable {j:cw} {p:bR} {d:aq} {f:bg}
theorem Iz (hd:qA j p=some d) (h:p.At≤(dh j.Race.au d.aV j.Race.au.bV).Lo+60000*j.gu):pS j p=0:=by unfold pS; rw [hd]; exact if_pos h
theorem IY (hd:qA j p=some d) (h: ¬ p.At≤(dh j.Race.au d.aV j.Race.au.bV).Lo+60000*j.gu) (h2:p.At≤(dh j.Race.au d.aV j.Race.au.bV).Hi+60000*j.gu):pS j p=1:=by unfold pS; rw [hd]; simp only; rw [if_neg h,if_pos h2]
theorem Lf (hd:qA j p=some d) (h: ¬ p.At≤(dh j.Race.au d.aV j.Race.au.bV).Lo+60000*j.gu) (h2: ¬ p.At≤(dh j.Race.au d.aV j.Race.au.bV).Hi+60000*j.gu):pS j p=2:=by unfold pS; rw [hd]; simp only; rw [if_neg h,if_neg h2]
theorem KN (h:pS j p=2):gJ j p=false:=by unfold gJ; split<;>simp [h]
theorem JK (hd:qA j p=some d) (hf:j.aM[p.gj.toNat]? =some f) (h: ¬ pS j p=2):gJ j p= !decide (gd j.Race.au f d=0):=by unfold gJ; rw [hd,hf]; simp [h]
end
section
variable {j:cw} {i k:Nat} {p q:bR} {f:bg} {d:aq}
/-- the first faults are right -/
def pK (j:cw) (k:Nat):Prop:= ∀ (i:Nat) f,i<k→j.aM[i]? =some f→fj j.Race.au f
theorem Ca:pK j 0:=fun i f h=>absurd h (Nat.not_lt_zero _)
theorem rh (h:pK j k) (hf:j.aM[k]? =some f) (ho:fj j.Race.au f):pK j (k+1):=fun i g hi hg=>by
 rcases Nat.lt_or_ge i k with c|c
 ·exact h i g c hg
 ·obtain rfl:i=k:=by omega
  rw [hf] at hg; cases hg; exact ho
theorem dW (h:pK j k) (hk:j.aM.length≤k): ∀ f∈j.aM,fj j.Race.au f:=fun f hf=>by
 obtain ⟨i,hi⟩:=List.mem_iff_getElem?.1 hf
 exact h i f (by have:=(aZ.1 hi).1; omega) hi
/-- the first protests are right -/
def oD (j:cw) (k:Nat):Prop:= ∀ (i:Nat) p,i<k→j.aB[i]? =some p→v_ j i p
theorem yH:oD j 0:=fun i f h=>absurd h (Nat.not_lt_zero _)
theorem tj (h:oD j k) (hp:j.aB[k]? =some p) (ho:v_ j k p):oD j (k+1):=fun i g hi hg=>by
 rcases Nat.lt_or_ge i k with c|c
 ·exact h i g c hg
 ·obtain rfl:i=k:=by omega
  rw [hp] at hg; cases hg; exact ho
/-- the number of the last protest, so far -/
def pR (j:cw) (k:Nat):Int:=match k with
 |0=> -1
 |k+1=>match j.aB[k]? with
  |some p=>p.Id
  |none=> -1
theorem nU (hp:j.aB[k]? =some p):pR j (k+1)=p.Id:=by unfold pR; simp only [hp]
theorem Nm (h:oD j k) (hk:k≤j.aB.length): -1≤pR j k∧pR j k≤9999:=by
 cases k with
 |zero=>exact ⟨by simp [pR],by simp [pR]⟩
 |succ k=>
  obtain ⟨p,hp⟩: ∃ p,j.aB[k]? =some p:=⟨j.aB[k]'om,f_ _⟩
  have:=(h k p om hp).id
  rw [nU hp]; omega
theorem mH {ht:List aq} (hh:j.Race.aI[p.ib.toNat]? =some ht) (hd:ht[p.gH.toNat]? =some d):qA j p=some d:=by
 unfold qA; rw [hh]; exact hd
theorem Mh (hp:j.aB[k]? =some p) (hi:pR j k+1≤p.Id∧p.Id≤9999) (h0: -1≤pR j k) (hs:0≤p.gH∧p.gH≤(j.Race.bu.length:Int)-1) (hh:0≤p.ib∧p.ib≤(j.Race.aI.length:Int)-1) (hf:0≤p.gj∧p.gj≤(j.aM.length:Int)-1) (hd:qA j p=some d) (hr:o2 d) (ha:d.aV.Start≤p.At∧p.At≤86400000):v_ j k p:=by
 refine ⟨om,fun q B A=>?_,hs,hh,hf,d,hd,hr,ha⟩
 cases k with
 |zero=>omega
 |succ k=>
  rw [Nat.add_sub_cancel] at A
  rw [nU A] at hi
  omega
/-- one that is wrong -/
theorem sk (hp:j.aB[k]? =some p) (h: ¬ v_ j k p): ¬ qW j:=fun q=>h (q.hZ k p hp)
theorem wS (h:v_ j k p) (hk:k≤j.aB.length):pR j k+1≤p.Id:=by
 cases k with
 |zero=>have:=h.id; show-1+1≤p.Id; omega
 |succ k=>
  obtain ⟨q,hq⟩: ∃ q,j.aB[k]? =some q:=⟨j.aB[k]'om,f_ _⟩
  have:=h.up q om (by rw [Nat.add_sub_cancel]; exact hq)
  rw [nU hq]; omega
end
def oY (l:List bg) (f:bg):Int:=match l.findIdx? (fun x=>decide (x=f)) with
 |some i=>(i:Int)
 |none=> -1
section
variable {l:List bg} {f g x:bg} {i:Nat}
theorem Mi (hx:l[i]? =some x) (h:x=f) (hb: ∀ (q:Nat) y,q<i→l[q]? =some y→y≠f):oY l f=(i:Int):=by
 unfold oY
 have:l.findIdx? (fun x=>decide (x=f))=some i:=by
  rw [List.findIdx?_eq_some_iff_getElem]
  obtain ⟨hi,e⟩:=aZ.1 hx
  refine ⟨hi,by rw [e]; simp [h],fun q hq=>?_⟩
  have:=hb q (l[q]'om) hq (f_ _)
  simpa using this
 rw [this]
theorem NJ (hb: ∀ (q:Nat) y,q<i→l[q]? =some y→y≠f) (hi:l.length≤i):oY l f= -1:=by
 unfold oY
 have:l.findIdx? (fun x=>decide (x=f))=none:=by
  rw [List.findIdx?_eq_none_iff]
  intro y hy
  obtain ⟨q,hq⟩:=List.mem_iff_getElem?.1 hy
  have:=hb q y (by have:=(aZ.1 hq).1; omega) hq
  simpa using this
 rw [this]
theorem C7 (hf:f∈l): ∃ i:Nat,oY l f=(i:Int)∧l[i]? =some f:=by
 unfold oY
 cases h:l.findIdx? (fun x=>decide (x=f)) with
 |none=>
  rw [List.findIdx?_eq_none_iff] at h
  have:=h f hf
  simp at this
 |some i=>
  rw [List.findIdx?_eq_some_iff_getElem] at h
  obtain ⟨hi,e,_⟩:=h
  exact ⟨i,U,by rw [f_ hi]; simpa using e⟩
theorem JW (hf:f∈l) (hg:g∈l) (h:oY l f=oY l g):f=g:=by
 obtain ⟨i,C,A⟩:=C7 hf
 obtain ⟨k,D,B⟩:=C7 hg
 have:i=k:=by omega
 subst this
 exact Option.some.inj (A.symm.trans B)
end
abbrev o_ (j:cw) (kA:Option Addr) (az:List RA) (cA bA:Option Addr) (slA drA:Option Addr) (ha:List bZ) (heA:Option Addr) (faA prA:Option Addr):List ay:=[(rd kA j.Race.au.bL.length 9 (j.Race.au.bL.map aD.cells)),(rd cA j.Race.au.aH.length 2 (List.zipWith aT.cells j.Race.au.aH az)),(iK (bK aT.jW j.Race.au.aH az)),(rd bA j.Race.au.aj.length 4 (j.Race.au.aj.map cQ.cells)),(rd slA j.Race.bu.length 1 (j.Race.bu.map iC)),(rd drA j.Race.cP.length 1 (j.Race.cP.map iC)),(rd heA j.Race.aI.length 1 (List.zipWith cM j.Race.aI ha)),(iK (bK lZ j.Race.aI ha)),(rd faA j.aM.length 4 (j.aM.map bg.cells)),(rd prA j.aB.length 5 (j.aB.map bR.cells))]
end
section
open Go.RowKit
abbrev Vo (C:List ay) (i j:Nat):List Nat:=i::j::(List.range C.length).filter fun k=>k != i&&k != j
def Un {σ:Type} (w0:World) (P:Program) (l:Nat) (step:σ→List Value→ay→σ→Prop) (J:σ→ay→Prop) (Z:ay→Prop):Prop:=
 ∀ k x R k' A w,step k x R k'→J k A→w0.heap.size≤w.heap.size→(bQ [A,R]).holds w→YieldAt (Fw none) 0 P l x.toArray w fun e w'=>
  (e= .returned (.bool true)∧ ∃ B,J k' B∧Mv (bQ [A,R]) B w w')∨(e= .returned (.bool false)∧ ∃ B,Z B∧Mv (bQ [A,R]) B w w')
structure Qi {σ:Type} (P:Program) (f:FuncId) (fi ca:List Value) (Cp:List ay) (s0:σ) (step:σ→List Value→ay→σ→Prop) (fin:σ→Prop):Prop where
 go:sP P f=true
 run: ∀ (l:Nat) (J:σ→ay→Prop) (Z:ay→Prop) (A0:ay) (w:World),Un w P l step J Z→J s0 A0→A0.holds w→(∀ A∈Cp,A.holds w)→(∀ A∈Cp,Dn A0 A.ro)→
  Calls P f (fi++Value.func (.yield l) #[] #[]::ca).toArray w (CZ J Z fin A0 w)
theorem Md {σ:Type} {P:Program} {f:FuncId} {fn:Func} {c:Code} {fi ca:List Value} {Cp:List ay} {s0:σ} {step:σ→List Value→ay→σ→Prop} {fin:σ→Prop} (hgo:sP P f=true) (hf:P.funcs[f]? =some fn) (hb:fn.body=some c) (hn:Nat.ble (fi.length+ca.length+1) fn.ntmps=true)
 (h: ∀ (l:Nat) (J:σ→ay→Prop) (Z:ay→Prop) (A0:ay) (w0:World) (Q:dv),Un w0 P l step J Z→J s0 A0→Fo A0 w0 A0→
  (∀ D L C,LJ ⟨P,none,fn.ntmps,⟨A0.wf,fun _=>True⟩,w0⟩ fn (CZ J Z fin A0 w0) D L C→KJ ⟨P,none,fn.ntmps,⟨A0.wf,fun _=>True⟩,w0⟩ (Q .ret) D L C)→
  (∀ D L C,LJ ⟨P,none,fn.ntmps,⟨A0.wf,fun _=>True⟩,w0⟩ fn (CZ J Z fin A0 w0) D L C→KJ ⟨P,none,fn.ntmps,⟨A0.wf,fun _=>True⟩,w0⟩ (Q .normal) D L C)→
  WJ ⟨P,none,fn.ntmps,⟨A0.wf,fun _=>True⟩,w0⟩ c Q [] (Ox (fi++Value.func (.yield l) #[] #[]::ca)) (A0::Cp.map ay.ro)):Qi P f fi ca Cp s0 step fin:=by
 refine ⟨hgo,fun l J Z A0 w hY hJ hA F E=>?_⟩
 refine A_ hf hb (by simpa [Nat.add_assoc] using hn) (h l J Z A0 w · hY hJ (fun b hb=> .inl hb)) ?_
 have G:=rL F
 refine ⟨dY.refl _ _,fun A hA'=>?_,List.Pairwise.cons (fun B hB=>?_) G.sep,fun A hA' b hb=>?_,fun _ _ _ _=> .inr trivial⟩
 ·rcases cm.1 hA' with rfl|hA'
  ·exact hA
  ·exact G.holds A hA'
 ·obtain ⟨B',hB',rfl⟩:=db.1 hB
  exact E B' hB'
 ·rcases cm.1 hA' with rfl|hA'
  ·exact .inr hb
  ·obtain ⟨B',hB',rfl⟩:=db.1 hA'
   exact hb.elim
section
variable {E:fH} {ops:Array Oper} {Q:dv} {rest:List Oper} {D:List Deferred} {L:List (Nat×Value)} {C:List ay}
variable {d:Nat} {ty:TypeId} {ps:String} {af:Array Edge} {g:Option (Nat×Bool)}
/-- a call of yield -/
theorem Ko {σ:Type} {fop:Operand} {xs:Array Operand} {ts:Array TypeId} {l:Nat} {k k':σ} {vs:List Value} {step:σ→List Value→ay→σ→Prop} {J:σ→ay→Prop} {Z:ay→Prop} {A0 A R:ay} {C1:List ay} (i j:Nat) (hS:E.S=⟨A0.wf,fun _=>True⟩) (hY:Un E.w0 E.P l step J Z) (hJ:J k A) (hF:Fo A0 E.w0 A) (hg:ke ops L g=true) (hf:ev L fop=some (.func (.yield l) #[] #[]))
 (hx:evs L xs.toList=some vs) (hk:step k vs R k') (hR:R.wr=true) (hn:decide (Vo C i j).Nodup=true) (hC:sR C (Vo C i j)=some (A::R::C1)) (hd:Nat.blt d E.n=true)
 (k1: ∀ B,J k' B→Fo A0 E.w0 B→RJ E ops Q rest D ((d,.bool true)::L) (B::C1))
 (k2: ∀ B,Z B→Fo A0 E.w0 B→RJ E ops Q rest D ((d,.bool false)::L) (B::C1)):
 RJ E ops Q (⟨some d,.call {callee:= .value fop,args:=xs,argTypes:=ts},ty,ps,af,g⟩::rest) D L C:=by
 intro a w F N
 have AA:St E.S E.w0 ([A,R]++C1) w:=St.kR _ hn (mO hC) N
 have hs:=AA.tied
 have hd':d<E.n:=by rw [← Nat.blt_eq]; exact hd
 unfold tg
 rw [if_pos (eK F hg)]
 have O:xs.map a.eval=vs.toArray:=by
  have:=F.evs hx
  apply Array.ext'
  simp [this]
 obtain ⟨fn,tmps,assign,body,hy,hr⟩:=hY k vs R k' A w hk hJ hs.keeps.size (hs.holds _ cr)
 have H:(execOp a.eval ⟨some d,.call {callee:= .value fop,args:=xs,argTypes:=ts},ty,ps,af,g⟩).run E.P w= .ok (.round l fn tmps assign body) w:=by
  simp [execOp,resolve,F.ev hf,Deferred.ofValue,invoke,O,hy]
 refine ⟨fun _ _=>trivial,?_⟩
 rw [Oper.semAt_eq _ _ _ sm,H]
 refine ⟨fun h=>by simp at h,?_⟩
 have G: ∀ (B:ay) (w':World),Mv (bQ [A,R]) B w w'→Fo A0 E.w0 B:=fun B w' m b hb=>by
  rcases m.fO b hb with ⟨X,hX,K⟩|K
  ·rcases cm.1 hX with rfl|hX
   ·exact hF b K
   ·rw [cH] at hX; subst hX
    rcases AA.own X sm b (X.whole hR b K) with M|M
    ·exact .inr M
    ·rw [hS] at M; exact .inl (A0.k9 b M)
  ·exact .inr (Nat.le_trans hs.keeps.size K)
 have hr':RoundIn (Fw E.r) 0 E.P l fn tmps assign body w _:=hr
 refine hr'.mono fun e w' he=>?_
 rcases he with ⟨rfl,B,hB,m⟩|⟨rfl,B,hB,m⟩
 ·exact k1 B hB (G B w' m) _ _ (F.put hd' _) (hs.mv 0 U m)
 ·exact k2 B hB (G B w' m) _ _ (F.put hd' _) (hs.mv 0 U m)
end
theorem IP {σ:Type} {E:fH} {Q:dv} {D:iw} {L L0:dG} {C F:List ay} {g:Operand} {ps:Array Tmp} {assign body:Code} {f:FuncId} {fi ca:List Value} {Cp:List ay} {s0:σ} {step:σ→List Value→ay→σ→Prop} {fin_:σ→Prop} {ι κ:Type}
 (inv:σ→ι→Prop) (Ci:σ→ι→List ay) (invx:Code→κ→Prop) (Cx:Code→κ→List ay) (isJ isF:List Nat) (y0:ι)
 (hr:E.r=none) (hg:ev L g=some (.func (.func f) fi.toArray ca.toArray)) (hs:Qi E.P f fi ca Cp s0 step fin_)
 (hnd:decide (isJ++isF).Nodup=true) (hJ:kR C isJ=Ci s0 y0) (hF:kR C isF=F) (h0:inv s0 y0) (hCp: ∀ A∈Cp,∃ B∈F,Kf B A)
 (hps: ∀ k x R k',step k x R k'→x.length=ps.size) (hpn:ps.toList.all (fun t=>Nat.blt t E.n)=true) (hL:cR L L0)
 (round: ∀ (k:σ) (x:List Value) (R:ay) (k':σ) (y:ι) (l:Nat) (ra rb:Loop) (S:BS) (w0:World) (K:Act→World→Prop) (Qr:dv),E.w0.heap.size≤w0.heap.size→step k x R k'→inv k y→
  (∀ L' C',WJ ⟨E.P,some l,E.n,S,w0⟩ body Qr [] L' (ju l (.loop rb)::C')→KJ ⟨E.P,some l,E.n,S,w0⟩ K [] L' (ju l (.loop ra)::C'))→
  (∀ y' L' C',inv k' y'→(∀ w,St S w0 C' w→St S w0 (ju l (.loop rb)::Ci k' y') w)→KJ ⟨E.P,some l,E.n,S,w0⟩ (Qr .normal) [] L' C')→
  (∀ id z L' C',invx (.exit id) z→(∀ w,St S w0 C' w→St S w0 (ju l (.loop rb)::Cx (.exit id) z) w)→KJ ⟨E.P,some l,E.n,S,w0⟩ (Qr (.exit id)) [] L' C')→
  (∀ z L' C',invx .ret z→(∀ w,St S w0 C' w→St S w0 (ju l (.loop rb)::Cx .ret z) w)→KJ ⟨E.P,some l,E.n,S,w0⟩ (Qr .ret) [] L' C')→
  WJ ⟨E.P,some l,E.n,S,w0⟩ assign (Exit.then K (fun _ _ _=>False)) [] (yY ps.toList x L0) (ju l (.loop ra)::(Ci k y++[R])))
 (fin: ∀ r s y,fin_ s→inv s y→KJ E (Q .normal) (j0 r::D) L0 (ju r (.deferred (some []))::(F++Ci s y)))
 (finx: ∀ r id z,invx (.exit id) z→KJ E (Q (.exit id)) (j0 r::D) L0 (ju r (.deferred (some []))::(F++Cx (.exit id) z)))
 (finr: ∀ r z,invx .ret z→KJ E (Q .ret) (j0 r::D) L0 (ju r (.deferred (some []))::(F++Cx .ret z))):WJ E (.rangeFunc g ps assign body) Q D L C:=by
 intro a w hf u
 refine wpIn_rangeFunc fun fn _=>?_
 show ∃ l j0 w₁ d w₁' f args w₂,(Instr.enterLoop fn a.tmps ps assign body E.r).run E.P w= .ok (l,j0) w₁∧_
 rw [hr]
 obtain ⟨rec,G⟩: ∃ rec:LoopState→Option Code→Loop,rec=fun st pe=>{state:=st,pending:=pe,fn,tmps:=a.tmps,params:=ps,assign,body,defers:=w.heap.size}:=⟨_,rfl⟩
 obtain ⟨W1,T⟩: ∃ W1,(w.alloc (.deferred (some []))).alloc (.loop (rec .ready none))=W1:=⟨_,rfl⟩
 have A2:a.eval g= .func (.func f) fi.toArray ca.toArray:=hf.ev hg
 have q:(Instr.enterLoop fn a.tmps ps assign body none).run E.P w= .ok (w.heap.size+1,[j0 w.heap.size]) W1:=by
  rw [← T,G]; exact run_enterLoop_outer _ _ _ _ _
 -- the state with the record and the block
 have AC:St E.S E.w0 ((ju (w.heap.size+1) (.loop (rec .ready none))::Ci s0 y0)++(ju w.heap.size (.deferred (some []))::F)) W1:=by
  have Y:St E.S E.w0 (Ci s0 y0++F) w:=St.kR (isJ++isF) hnd (by have Y:=hJ; have o:=hF; unfold Go.Proofs.YtkaenmjhfajbkaaGreatDoor.kR at Y o ⊢; rw [List.filterMap_append,Y,o]) u
  have hn:LG w W1 [ju (w.heap.size+1) (.loop (rec .ready none)),ju w.heap.size (.deferred (some []))]:=by
   refine ⟨fun A hA=>?_,fun A hA b hb=>?_,?_⟩
   ·rcases cm.1 hA with rfl|hA
    ·show W1.heap[w.heap.size+1]? =_
     rw [← T]; have:=World.alloc_heap_new (w.alloc (.deferred (some []))) (.loop (rec .ready none)); rwa [World.size_alloc] at this
    ·simp only [cH] at hA; subst hA
     show W1.heap[w.heap.size]? =_
     rw [← T]; exact (Below.heap_alloc _ _ _ sm).trans (World.alloc_heap_new w _)
   ·rcases cm.1 hA with rfl|hA
    ·have:b=w.heap.size+1:=hb
     omega
    ·simp only [cH] at hA; subst hA
     have:b=w.heap.size:=hb
     omega
   ·refine List.Pairwise.cons (fun B hB b Y o=>?_) (List.pairwise_singleton _ _)
    simp only [cH] at hB; subst hB
    have X:b=w.heap.size+1:=Y
    have O:b=w.heap.size:=o
    omega
  have hk:dY no w W1:=by rw [← T]; exact (dY.alloc no w _).trans (dY.alloc no _ _)
  have o:=Y.grow hk hn
  refine o.perm ?_
  simp only [List.cons_append,List.nil_append]
  exact List.Perm.cons _ (List.perm_middle.symm)
 have i:=AC.tied
 obtain ⟨H,A7⟩:=List.pairwise_cons.1 i.sep
 have A0:=i.holds _ (cr ..)
 let J:σ→ay→Prop:=fun k A=> ∃ y,inv k y∧A=bQ (ju (w.heap.size+1) (.loop (rec .ready none))::Ci k y)
 let Z:ay→Prop:=fun A=> ∃ c z,(c= .ret∨ ∃ id,c= .exit id)∧invx c z∧A=bQ (ju (w.heap.size+1) (.loop (rec .done (some c)))::Cx c z)
 refine ⟨w.heap.size+1,[j0 w.heap.size],W1,{target:= .fn (.func f) ca.toArray,args:=fi.toArray++ #[.func (.yield (w.heap.size+1)) #[] #[]]},W1,f,
  (fi++Value.func (.yield (w.heap.size+1)) #[] #[]::ca).toArray,W1,q,?_,fun _ _=>trivial,?_,fun h=>by simp at h,?_⟩
 ·simp only [resolve,A2]
  simp [Deferred.ofValue,Act.eval]
 ·have:fi.toArray++ #[Value.func (.yield (w.heap.size+1)) #[] #[]]++ca.toArray=(fi++Value.func (.yield (w.heap.size+1)) #[] #[]::ca).toArray:=by simp
  simp [invoke,nE hs.go]
 ·refine (pw E.r (hs.run (w.heap.size+1) J Z _ W1 ?_ ⟨y0,h0,U⟩ A0 ?_ ?_)).mono ?_
  ·-- a round
   rintro k x R k' A W hx ⟨y,hy,rfl⟩ A1 hA
   have hl:W.heap[w.heap.size+1]? =some (.loop (rec .ready none)):=(hA.1 _ (cr ..)).1 _ (cr ..)
   have AM:=run_yield (P:=E.P) (args:=x.toArray) hl (by rw [G]; simpa using hps k x R k' hx)
   rw [G] at AM
   refine ⟨fn,_,assign,body,AM,roundIn_of_wpIn trivial ?_⟩
   let A:ay:=bQ [bQ (ju (w.heap.size+1) (.loop (rec .ready none))::Ci k y),R]
   have A3:Fr E.n [] (yY ps.toList x L0) {tmps:=(ps.zip x.toArray).foldl (fun tmps (t,a)=>tmps.setIfInBounds t a) a.tmps,defers:=[]}:=by
    have Y:=D_ ps.toList x L0 a.tmps (fun t ht=>by have:=c_.1 hpn t ht; rwa [Nat.blt_eq] at this) ⟨rfl,hf.size,fun t v hv=>hf.at_ t v (hL t v hv)⟩
    rw [← Array.foldl_toList]
    simpa using Y
   have p: ∀ (c:Option Code) (b:Bool),({rec .busy none with state:=if b then .ready else .done,pending:=c}:Loop)=rec (if b then .ready else .done) c:=fun c b=>by rw [G]
   have AA: ∀ (c:Option Code) (N:World) (C':List ay) (S:BS),St S W (ju (w.heap.size+1) (.loop (rec .busy none))::C') N→
    ∃ M,(Instr.endRound (w.heap.size+1) c).run E.P N= .ok (.bool c.isNone) M∧St S W (ju (w.heap.size+1) (.loop (rec (if c.isNone then .ready else .done) c))::C') M:=fun c N C' S H=>by
    have AB:N.heap[w.heap.size+1]? =some (.loop (rec .busy none)):=H.holds _ (cr ..)
    refine ⟨_,run_endRound c AB,?_⟩
    have:=H.As (b:=w.heap.size+1) (A':=ju (w.heap.size+1) (.loop (rec (if c.isNone then .ready else .done) c))) 0 rfl rfl rfl (ij _) (fun _ h=>h) (World.putObj_heap_same (eB AB))
    rw [p]
    exact this
   refine round k x R k' y (w.heap.size+1) (rec .ready none) (rec .busy none) ⟨A.wf,A.fO⟩ W _ (roundPost E.P (w.heap.size+1) (fun e w'=>(e= .returned (.bool true)∧ ∃ B,J k' B∧Mv A B W w')∨(e= .returned (.bool false)∧ ∃ B,Z B∧Mv A B W w'))) (Nat.le_trans (Nat.le_trans u.keeps.size (by rw [← T]; simp; omega)) A1) hx hy ?_ ?_ ?_ ?_ _ _ A3 (by have:=(St.Ac hA).iM; simpa using this)
   ·intro L' C' hW a1 N j H
    have AB:N.heap[w.heap.size+1]? =some (.loop (rec .ready none)):=H.holds _ (cr ..)
    refine ⟨_,run_beginRound AB (by rw [G]),hW _ _ j ?_⟩
    have:=H.As (b:=w.heap.size+1) (A':=ju (w.heap.size+1) (.loop (rec .busy none))) 0 rfl rfl rfl (ij _) (fun _ h=>h) (World.putObj_heap_same (eB AB))
    have e:({rec .ready none with state:= .busy}:Loop)=rec .busy none:=by rw [G]
    rw [e]; exact this
   ·intro y' L' C' hy' hC' a1 N j H
    obtain ⟨M,X,O⟩:=AA none N _ _ (hC' _ H)
    exact ⟨_,M,X,.inl ⟨U,_,⟨y',hy',U⟩,Mv.of O⟩⟩
   ·intro id z L' C' hz hC' a1 N j H
    obtain ⟨M,X,O⟩:=AA (some (.exit id)) N _ _ (hC' _ H)
    exact ⟨_,M,X,.inr ⟨U,_,⟨_,z,.inr ⟨id,U⟩,hz,U⟩,Mv.of O⟩⟩
   ·intro z L' C' hz hC' a1 N j H
    obtain ⟨M,X,O⟩:=AA (some .ret) N _ _ (hC' _ H)
    exact ⟨_,M,X,.inr ⟨U,_,⟨_,z,.inl U,hz,U⟩,Mv.of O⟩⟩
  ·intro A hA
   obtain ⟨B,hB,hc⟩:=hCp A hA
   exact hc.holds _ (i.holds B (dH _ (dH _ hB)))
  ·intro A hA b hb hb'
   obtain ⟨B,hB,hc⟩:=hCp A hA
   exact ⟨(H B (dH _ hB) b hb (hc.fO b hb')).1,fun h=>h⟩
  ·rintro e w' ⟨v,rfl,hh⟩
   have V:Fr E.n (j0 w.heap.size::D) L0 {a with defers:=[j0 w.heap.size]++a.defers}:=⟨by simp [hf.defers],hf.size,fun t v hv=>hf.at_ t v (hL t v hv)⟩
   have hleave: ∀ (st:LoopState) (c:Option Code) (C':List ay),st≠ .busy→Mv (bQ (ju (w.heap.size+1) (.loop (rec .ready none))::Ci s0 y0)) (bQ (ju (w.heap.size+1) (.loop (rec st c))::C')) W1 w'→
    ∃ M,(Instr.endLoop (w.heap.size+1)).run E.P w'= .ok c M∧St E.S E.w0 (ju w.heap.size (.deferred (some []))::(F++C')) M:=fun st c C' A5 m=>by
    have Y:=(i.mv 0 rfl m).iM
    have h1':St E.S E.w0 ((ju (w.heap.size+1) (.loop (rec st c))::C')++(ju w.heap.size (.deferred (some []))::F)) w':=Y
    have AB:w'.heap[w.heap.size+1]? =some (.loop (rec st c)):=h1'.holds (ju (w.heap.size+1) (.loop (rec st c))) sm
    refine ⟨_,by have:=run_endLoop (P:=E.P) AB (by rw [G]; exact A5); rw [this,G],?_⟩
    have o:=h1'.As (b:=w.heap.size+1) (A':=ju (w.heap.size+1) (.loop {rec st c with state:= .exhausted})) 0 rfl rfl rfl (ij _) (fun _ h=>h) (World.putObj_heap_same (eB AB))
    have h3:St E.S E.w0 (C'++(ju w.heap.size (.deferred (some []))::F)) _:=o.take (List.sublist_cons_self _ _)
    rw [G] at h3
    refine h3.perm ?_
    exact (List.perm_append_comm).trans sm
   rcases hh with ⟨s,B,A4,⟨y,hy,rfl⟩,m⟩|⟨B,⟨c,z,hc,hz,rfl⟩,m⟩
   ·obtain ⟨M,X,O⟩:=hleave .ready none _ sm m
    exact ⟨none,M,X,fin w.heap.size s y A4 hy _ _ V O⟩
   ·obtain ⟨M,X,O⟩:=hleave .done (some c) _ sm m
    refine ⟨some c,M,X,?_⟩
    rcases hc with rfl|⟨id,rfl⟩
    ·exact wpIn_ret (finr w.heap.size z hz _ _ V O)
    ·exact wpIn_exit (finx w.heap.size id z hz _ _ V O)
end
section
abbrev QB:=List (Int×Bool)
section
variable {m:QB} {P Q:Int→Prop} {k:Int}
end
/-- two rows that go up and have the same numbers, each once -/
theorem GL {a b:List Int} (ha:a.Pairwise (· ≤ ·)) (hb:b.Pairwise (· ≤ ·)) (na:a.Nodup) (nb:b.Nodup) (h: ∀ x,x∈a↔x∈b):a=b:=
 sS ((List.perm_ext_iff_of_nodup na nb).2 h) ha hb
section
variable {m left:CC} {i n x:Int} {y:ai}
end
section
variable {m:CC} {i:Int} {own:ai} {ys:List Int} {nev ranks:QB} {n a b:Int}
end
section
variable {nw left rk:QB} {N R:Int→Prop} {u:Int} {v:Bool}
end
section
variable {m left:CC} {i x n:Int} {own y:ai} {ys:List Int}
end
section
variable {r:eU} {h i:Int} {ht:List aq} {d:aq}
end
end
section
open Go.RowKit
/-- a map, or nil -/
def oC (o:Option Nat):List Value:=[Value.map o]
theorem AZ {α:Type}: ∀ {ms:List α} {asl:List Nat},ms.length=asl.length→List.zipWith gK ms asl=(asl.map some).map oC
 |[],[],_=>rfl
 |[],_::_,h=>by simp at h
 |_::_,[],h=>by simp at h
 |x::ms,y::asl,h=>by simp only [List.zipWith_cons_cons,List.map_cons,AZ (ms:=ms) (asl:=asl) (by simpa using h)]; rfl
/-- what stands for all but one -/
def gW {M A:Type} (f:M→A→List ay) (ms:List M) (asl:List A) (k:Nat):List ay:=bK f (ms.take k) (asl.take k)++bK f (ms.drop (k+1)) (asl.drop (k+1))
theorem mo {M A:Type} {f:M→A→List ay}: ∀ {ms:List M} {asl:List A} {k:Nat} {m:M} {a:A},ms[k]? =some m→asl[k]? =some a→(bK f ms asl).Perm (f m a++gW f ms asl k)
 |[],_,k,m,a,h,_=>by simp at h
 |_::_,[],k,m,a,_,h=>by simp at h
 |x::ms,y::asl,0,m,a,h,h2=>by
  simp at h h2; subst h h2
  simp [gW,bK]
 |x::ms,y::asl,k+1,m,a,h,h2=>by
  have ih:=mo (f:=f) (ms:=ms) (asl:=asl) (k:=k) (by simpa using h) (by simpa using h2)
  show (f x y++bK f ms asl).Perm (f m a++gW f (x::ms) (y::asl) (k+1))
  have e:gW f (x::ms) (y::asl) (k+1)=f x y++gW f ms asl k:=by simp [gW,bK,List.append_assoc]
  rw [e]
  refine (ih.append_left (f x y)).trans ?_
  rw [← List.append_assoc,← List.append_assoc]
  exact List.perm_append_comm.append_right _
theorem Hf {M A:Type} {f:M→A→List ay} {ms:List M} {asl:List A} {k:Nat} {m':M}:gW f (ms.set k m') asl k=gW f ms asl k:=by
 unfold gW
 rw [List.take_set_of_le (Nat.le_refl k),List.drop_set_of_lt (Nat.lt_succ_self k)]
theorem mK {S:BS} {w0 w:World} {C X Y:List ay} (hp:X.Perm Y) (h:St S w0 (bQ X::C) w):St S w0 (bQ Y::C) w:=by
 have A:St S w0 (X++C) w:=h.iM
 exact (A.perm (hp.append_right C)).tied
theorem St.out {M A:Type} {f:M→A→List ay} {S:BS} {w0 w:World} {C:List ay} {ms:List M} {asl:List A} {k:Nat} {m:M} {a:A} {X:ay} (hm:ms[k]? =some m) (ha:asl[k]? =some a) (hf:f m a=[X]) (h:St S w0 (bQ (bK f ms asl)::C) w):St S w0 (X::bQ (gW f ms asl k)::C) w:=by
 have B:=(mK (mo hm ha) h).iM
 rw [hf] at B
 have D:St S w0 (gW f ms asl k++(X::C)) w:=B.perm (List.perm_middle (a:=X) (l₁:=gW f ms asl k) (l₂:=C)).symm
 exact D.tied.perm (List.Perm.swap _ _ _)
theorem St.back {M A:Type} {f:M→A→List ay} {S:BS} {w0 w:World} {C:List ay} {ms:List M} {asl:List A} {k:Nat} {m':M} {a:A} {X:ay} (hk:k<ms.length) (ha:asl[k]? =some a) (hf:f m' a=[X]) (h:St S w0 (X::bQ (gW f ms asl k)::C) w):St S w0 (bQ (bK f (ms.set k m') asl)::C) w:=by
 have B:St S w0 (bQ (gW f ms asl k)::X::C) w:=h.perm (List.Perm.swap _ _ _)
 have D:=B.iM
 have E:St S w0 ((f m' a++gW f (ms.set k m') asl k)++C) w:=by
  rw [hf,Hf]
  exact D.perm (List.perm_middle (a:=X) (l₁:=gW f ms asl k) (l₂:=C))
 exact mK (mo (List.getElem?_set_self hk) ha).symm E.tied
section
variable {E:fH} {ops:Array Oper} {Q:dv} {rest:List Oper} {D:List Deferred} {L:List (Nat×Value)} {C C1:List ay}
variable {M A:Type} {f:M→A→List ay} {ms:List M} {asl:List A} {k:Nat} {m:M} {a:A} {X:ay}
theorem zV {c:Code} (i:Nat) (hm:ms[k]? =some m) (ha:asl[k]? =some a) (hf:f m a=[X]) (hn:decide (i::(List.range C.length).filter fun k=>k != i).Nodup=true) (hC:kR C (i::(List.range C.length).filter fun k=>k != i)=bQ (bK f ms asl)::C1)
 (h:WJ E c Q D L (X::bQ (gW f ms asl k)::C1)):WJ E c Q D L C:=fun a w hf' hs=>h a w hf' (St.out hm ha hf (St.kR _ hn hC hs))
theorem Ar {K:Act→World→Prop} (i j:Nat) (hk:k<ms.length) (ha:asl[k]? =some a) (hf:f m a=[X]) (hn:decide (j::i::(List.range C.length).filter fun k=>k != i&&k != j).Nodup=true) (hC:kR C (j::i::(List.range C.length).filter fun k=>k != i&&k != j)=X::bQ (gW f ms asl k)::C1)
 (h:KJ E K D L (bQ (bK f (ms.set k m) asl)::C1)):KJ E K D L C:=fun a w hf' hs=>h a w hf' (St.back hk ha hf (St.kR _ hn hC hs))
end
end
section
open Go.RowKit
def tU (l:List Int) (a:RA):List Value:=[vS a.1 l.length a.2]
def On (l:List Int) (a:RA):List ay:=[rd a.1 l.length 1 (l.map iC)]
def Bn (l:List Int) (a:RA):List ay:=[own a.1 a.2 N8 1 (l.map iC)]
theorem Fk: ∀ (m:List Int) (a:RA) (w:World),(∀ X∈Bn m a,X.holds w)→ ∀ X∈On m a,X.holds w:=fun m a w h X hX=>by
 simp only [On,cH] at hX
 subst hX
 have:=n7 (h _ (cH.2 rfl))
 simpa using this
theorem qd {l:List (List Int)} {bz:List RA}:(bQ (bK Bn l bz)).wr=true:=by
 show (bK Bn l bz).all (·.wr)=true
 rw [c_]
 intro X hX
 obtain ⟨k,m,a,_,_,h⟩:=ku hX
 simp only [Bn,cH] at h
 subst h; rfl
theorem mP {ls:List (List Int)} {az:List RA} (h:az.length=ls.length):(List.zipWith tU ls az).length=ls.length:=by simp [h]
theorem FB (l:List (List Int)) (az:List RA): ∀ v∈(List.zipWith tU l az).flatten,v.oneCell'=true:=by
 induction l generalizing az with
 |nil=>intro v hv; simp at hv
 |cons x l ih=>
  cases az with
  |nil=>intro v hv; simp at hv
  |cons a az=>
   intro v hv
   rw [List.zipWith_cons_cons,List.flatten_cons,gR] at hv
   rcases hv with hv|hv
   ·simp [tU] at hv; subst hv; rfl
   ·exact ih az v hv
section
variable {M A:Type} {f:M→A→List ay} {ms:List M} {asl:List A} {k:Nat} {m:M} {a:A} {X:ay}
theorem yx:gW f (ms.set k m) (asl.set k a) k=gW f ms asl k:=by
 unfold gW
 rw [List.take_set_of_le (Nat.le_refl k),List.drop_set_of_lt (Nat.lt_succ_self k),List.take_set_of_le (Nat.le_refl k),List.drop_set_of_lt (Nat.lt_succ_self k)]
theorem ue {β:Type} {c:M→A→β}:(List.zipWith c ms asl).set k (c m a)=List.zipWith c (ms.set k m) (asl.set k a):=by
 apply List.ext_getElem?
 intro j
 rw [List.getElem?_set]
 by_cases e:k=j
 ·subst e
  rw [if_pos rfl,List.length_zipWith,List.getElem?_zipWith,List.getElem?_set,List.getElem?_set,if_pos rfl,if_pos rfl]
  by_cases B:k<ms.length
  ·by_cases C:k<asl.length
   ·rw [if_pos om,if_pos B,if_pos C]
   ·rw [if_neg om,if_pos B,if_neg C]
  ·rw [if_neg om,if_neg B]
 ·rw [if_neg e,List.getElem?_zipWith,List.getElem?_zipWith,List.getElem?_set_ne e,List.getElem?_set_ne e]
variable {E:fH} {ops:Array Oper} {Q:dv} {rest:List Oper} {D:List Deferred} {L:List (Nat×Value)} {C C1:List ay}
abbrev HS (C:List ay) (i j:Nat):List Nat:=j::i::(List.range C.length).filter fun k=>k != i&&k != j
abbrev Ra (C:List ay) (i:Nat):List Nat:=i::(List.range C.length).filter fun k=>k != i
theorem Pb {Y Y':List ay} (i j:Nat) (hn:decide (HS C i j).Nodup=true) (hC:sR C (HS C i j)=some (X::bQ Y::C1)) (e:Y++[X]=Y') (h:RJ E ops Q rest D L (bQ Y'::C1)):RJ E ops Q rest D L C:=fun a w hf hs=>h a w hf ((St.kR _ hn (mO hC) hs).tie e)
theorem AJ {K:Act→World→Prop} {Y Y':List ay} (i j:Nat) (hn:decide (HS C i j).Nodup=true) (hC:sR C (HS C i j)=some (X::bQ Y::C1)) (e:Y++[X]=Y') (h:KJ E K D L (bQ Y'::C1)):KJ E K D L C:=fun a w hf hs=>h a w hf ((St.kR _ hn (mO hC) hs).tie e)
end
theorem w7 {M A:Type} {f:M→A→List ay} {ms:List M} {asl:List A} {m:M} {a:A} {X:ay} (h:ms.length=asl.length) (hf:f m a=[X]):bK f ms asl++[X]=bK f (ms++[m]) (asl++[a]):=by
 rw [jJ h]; simp [bK,hf]
theorem zC {M A β:Type} {f:M→A→β} {ms:List M} {asl:List A} {m:M} {a:A} (h:ms.length=asl.length):List.zipWith f ms asl++List.zipWith f [m] [a]=List.zipWith f (ms++[m]) (asl++[a]):=(List.zipWith_append h).symm
section
variable {f:Int→ai} {L:List Int} {G:List (List Int)} {g:List Int} {x last:Int} {i j:Nat}
end
end
section
open Go.RowKit
/-- the faults that a map of places says -/
def l5 (fs:List bg) (m:List (Int×Bool)) (f:bg):Prop:=(List.lookup (oY fs f) m).getD false=true
/-- what comes next: the row of a heat, in memory of its own -/
def JL (G:List (List Int)) (k:Nat) (x:List Value) (R:ay) (k':Nat):Prop:= ∃ (a:OA) (c:Nat) (row:List Int),G[k]? =some row∧x=[vS a row.length c]∧R=own a c N8 1 (row.map iC)∧k'=k+1
section
variable {l:bq} {fs:List bg} {m:List (Int×Bool)} {d:aq} {h:List aq} {j:cw} {F G:bg→Prop} {k n q:Nat} {f f0:bg}
noncomputable def lP (l:bq) (fs:List bg) (m:List (Int×Bool)) (h:List aq) (s:Nat):Bool:=(h[s]?).any fun d=> @decide (Gu l (l5 fs m) fs d) (Classical.propDecidable _)
theorem NM:(fs.any fun f=>((List.lookup (oY fs f) m).getD false)&& !decide (gd l f d=0))= @decide (Gu l (l5 fs m) fs d) (Classical.propDecidable _):=by
 rw [Bool.eq_iff_iff,List.any_eq_true,@decide_eq_true_iff _ (Classical.propDecidable _)]
 constructor
 ·rintro ⟨f,hf,hb⟩
  rw [dk,Bool.not_eq_true',decide_eq_false_iff_not] at hb
  exact ⟨f,hf,hb.1,hb.2⟩
 ·rintro ⟨f,hf,A,B⟩
  exact ⟨f,hf,by rw [dk,Bool.not_eq_true',decide_eq_false_iff_not]; exact ⟨A,B⟩⟩
theorem F4 (hd:h[q]? =some d):lP l fs m h q=(fs.any fun f=>((List.lookup (oY fs f) m).getD false)&& !decide (gd l f d=0)):=by
 unfold lP; rw [hd,NM]; rfl
theorem IX {ht:List aq} (hh:j.Race.aI[k]? =some ht):(eT j (l5 j.aM m))[k]? =some (kU (lP j.Race.au j.aM m ht) ht.length):=AH hh
/-- only who is told, of faults of the row -/
theorem wx (h: ∀ f∈j.aM,(F f↔G f)):eT j F=eT j G:=by
 unfold eT
 apply List.map_congr_left
 intro x _
 exact Ha h
end
def wI (fs:List bg) (gs:List bg):List (Int×Bool):=gs.foldl (fun m f=>eD m (oY fs f) true) []
section
variable {fs gs:List bg} {f g:bg} {m:List (Int×Bool)}
theorem Hj {x y:Int}:(List.lookup y (eD m x true)).getD false=true↔y=x∨(List.lookup y m).getD false=true:=by
 rw [l0]
 by_cases e:y=x
 ·rw [if_pos e]; simp [e]
 ·rw [if_neg e]; simp [e]
theorem EU: ∀ {gs:List bg} {m:List (Int×Bool)} {y:Int},(List.lookup y (gs.foldl (fun m f=>eD m (oY fs f) true) m)).getD false=true↔(∃ g∈gs,y=oY fs g)∨(List.lookup y m).getD false=true
 |[],m,y=>by simp
 |g::gs,m,y=>by
  rw [List.foldl_cons,EU (gs:=gs),Hj]
  constructor
  ·rintro (⟨u,A,B⟩|h|h)
   ·exact .inl ⟨u,dH _ A,B⟩
   ·exact .inl ⟨g,cr,h⟩
   ·exact .inr h
  ·rintro (⟨u,A,B⟩|h)
   ·rcases cm.1 A with rfl|A
    ·exact .inr (.inl B)
    ·exact .inl ⟨u,A,B⟩
   ·exact .inr (.inr h)
theorem SY (hg: ∀ g∈gs,g∈fs) (hf:f∈fs):l5 fs (wI fs gs) f↔f∈gs:=by
 unfold l5 wI
 rw [EU]
 constructor
 ·rintro (⟨g,A,B⟩|h)
  ·rw [JW hf (hg g A) B]; exact A
  ·simp at h
 ·intro h; exact .inl ⟨f,h,rfl⟩
theorem GV:wI fs (gs++[g])=eD (wI fs gs) (oY fs g) true:=by unfold wI; rw [List.foldl_append]; rfl
end
noncomputable def Hr (j:cw) (t:Nat):List bg:=((jx j).take t).filterMap fun i=>(j.aB[i.toNat]?).bind fun p=>j.aM[p.gj.toNat]?
section
variable {j:cw} {t:Nat} {i:Int} {p:bR} {f g:bg}
theorem Je (hi:(jx j)[t]? =some i) (hp:j.aB[i.toNat]? =some p) (hf:j.aM[p.gj.toNat]? =some f):Hr j (t+1)=Hr j t++[f]:=by
 unfold Hr
 rw [List.take_add_one,hi,List.filterMap_append]
 simp [hp,hf]
theorem L_: ∀ g∈Hr j t,g∈j.aM:=fun g h=>by
 obtain ⟨i,_,A⟩:=List.mem_filterMap.1 h
 cases e:j.aB[i.toNat]? with
 |none=>rw [e] at A; cases A
 |some p=>rw [e] at A; exact aP A
theorem Ms (ht:(jx j).length≤t):f∈Hr j t↔F9 j f:=by
 unfold Hr
 rw [List.take_of_length_le ht,List.mem_filterMap]
 constructor
 ·rintro ⟨x,hx,h⟩
  obtain ⟨i,_,rfl,p,hp,hg⟩:=tv.1 hx
  rw [Int.toNat_natCast,hp] at h
  exact ⟨i,p,hp,hg,h⟩
 ·rintro ⟨i,p,hp,hg,hf⟩
  exact ⟨(i:Int),tv.2 ⟨i,(aZ.1 hp).1,U,p,hp,hg⟩,by rw [Int.toNat_natCast,hp]; exact hf⟩
theorem Ew (ht:(jx j).length≤t):eT j (l5 j.aM (wI j.aM (Hr j t)))=dU j:=
 wx fun f hf=>(SY L_ hf).trans (Ms ht)
theorem GX (hi:(jx j)[t]? =some i): ∃ k:Nat,i=(k:Int)∧k<j.aB.length:=by
 obtain ⟨k,A,B,_⟩:=tv.1 (aP hi)
 exact ⟨k,B,A⟩
theorem tQ:(jx j).length≤j.aB.length:=nk
end
end
section
open Go.RowKit
theorem ql {α:Type} {l:List α} {k:Nat} {x:α} (h:l[k]? =some x):l.take (k+1)=l.take k++[x]:=by rw [List.take_add_one,h]; rfl
theorem w9 {a b:Int} (h1: -60000≤a∧a≤60000) (h2:0≤b∧b≤100000): -9223372036854775808≤a*b∧a*b≤9223372036854775807:=by
 have A:=Int.mul_le_mul_of_nonneg_right h1.1 h2.1
 have B:=Int.mul_le_mul_of_nonneg_right h1.2 h2.1
 omega
noncomputable def N_ (j:cw) (i:Int):Int:=if dT j=0 then (if 0≤i∧i≤(j.aB.length:Int)-1 then 0 else 2) else dT j
noncomputable def tf (j:cw) (i:Int):Int:=if dT j=0∧(0≤i∧i≤(j.aB.length:Int)-1) then (match j.aB[i.toNat]? with
 |some p=>pS j p
 |none=>0) else 0
noncomputable def iy (j:cw):List Int:=if dT j=0 then jx j else []
noncomputable def ek (j:cw):List (List Int):=if dT j=0 then dU j else []
noncomputable def yg (j:cw):Int:=if dT j=0 then KZ j else 0
noncomputable def xZ (j:cw):Int:=if dT j=0 then Oi j else 0
noncomputable def Az (j:cw) (s:Int) (p:bR):Bool:=decide (p.gH=s)&& !gJ j p
noncomputable def p6 (j:cw) (s:Int):Int:=if dT j=0 then (if 0≤s∧s≤(j.Race.bu.length:Int)-1 then 0 else 2) else dT j
noncomputable def rM (j:cw) (s:Int):Int:=if dT j=0∧(0≤s∧s≤(j.Race.bu.length:Int)-1) then PX j s else 0
section
variable {j:cw} {k h s i:Int} {f:bg} {ht:List aq} {d:aq} {p:bR}
theorem F2 (e:dT j=0) (n:0≤i∧i≤(j.aB.length:Int)-1) (hp:j.aB[i.toNat]? =some p):tf j i=pS j p∧N_ j i=0:=
 ⟨by unfold tf; rw [if_pos ⟨e,n⟩,hp],by unfold N_; rw [if_pos e,if_pos n]⟩
theorem qt (e: ¬ dT j=0):iy j=[]:=if_neg e
theorem qe (e:dT j=0):iy j=jx j:=if_pos e
theorem oB (e: ¬ dT j=0):ek j=[]:=if_neg e
theorem ks (e:dT j=0):ek j=dU j:=if_pos e
theorem zR (e: ¬ dT j=0):yg j=0∧xZ j=0:=⟨if_neg e,if_neg e⟩
theorem xx (e:dT j=0):yg j=KZ j∧xZ j=Oi j:=⟨if_pos e,if_pos e⟩
theorem MW (e: ¬ p.gH=s):Az j s p=false:=by unfold Az; rw [br e]; rfl
theorem Lg (e:p.gH=s):Az j s p= !gJ j p:=by unfold Az; rw [dC e]; rfl
theorem Jq {P:Nat→Bool} {n:Nat}:(kU P n).length=(List.range n).countP P:=by unfold kU; rw [List.length_map,List.countP_eq_length_filter]
theorem zu (e: ¬ dT j=0):rM j s=0∧p6 j s=dT j:=⟨if_neg fun q=>e q.1,if_neg e⟩
theorem zo (e:dT j=0) (n: ¬ (0≤s∧s≤(j.Race.bu.length:Int)-1)):rM j s=0∧p6 j s=2:=⟨if_neg fun q=>n q.2,by unfold p6; rw [if_pos e,if_neg n]⟩
theorem Jo (e:dT j=0) (n:0≤s∧s≤(j.Race.bu.length:Int)-1):rM j s= -((kU (iJ j.aB fun _ p=>Az j s p) j.aB.length).length:Int)*j.kT∧p6 j s=0:=
 ⟨by unfold rM; rw [if_pos ⟨e,n⟩,Jq]; rfl,by unfold p6; rw [if_pos e,if_pos n]⟩
end
end
section
section
variable {j x:cw} {n s:Int} {h k:Nat} {a b:List Int} {f f':bg} {ht:List aq} {d:aq}
theorem L7 (e:dT j=0) (ha:(ek j)[h]? =some a): ∃ ht,j.Race.aI[h]? =some ht∧a.length≤ht.length:=by
 rw [ks e] at ha
 unfold dU at ha
 have hl:=(aZ.1 ha).1
 rw [uw] at hl
 have hh:j.Race.aI[h]? =some (j.Race.aI[h]'hl):=f_ _
 rw [AH hh] at ha
 cases ha
 exact ⟨_,hh,nk⟩
end
end
section
section
variable {j:cw} {m n i:Nat} {p:bR} {s:Int}
theorem Ic:ia j s m≤m:=by unfold ia; exact Nat.le_trans List.countP_le_length (by rw [List.length_range]; exact Nat.le_refl _)
theorem x7 (e:dT j=0): ∀ l∈ek j,l.length≤1000000:=fun l hl=>by
 obtain ⟨h,hh⟩:=List.getElem?_of_mem hl
 obtain ⟨ht,A,B⟩:=L7 e hh
 have C:=((dy (dj e).1).2.fJ ht (aP A)).1
 have D:=(dy (dj e).1).2.num
 omega
end
end
section
section
variable {l:bq} {r:cO} {b w:Int} {f:bg} {d:aq} {j:cw} {p:bR} {a c:xI} {P:Nat→Prop} {k n i:Nat} {ht:List aq}
/-- the first number tells whether all are behind the beam -/
theorem Hy (ho:fp l r 0=0) (hw:(hH l r)[0]? =some w):uk l r b=decide (b<w):=by
 have hs:(hH l r).Pairwise (· < ·):=by
  rw [rY ho]; unfold l6 iY
  rw [List.pairwise_map]
  exact List.Pairwise.imp (fun h=>by omega) (List.Pairwise.filter _ List.pairwise_lt_range)
 unfold uk
 rw [Bool.eq_iff_iff,c_,decide_eq_true_iff]
 constructor
 ·intro h; exact of_decide_eq_true (h w (aP hw))
 ·intro h n hn
  obtain ⟨i,hi⟩:=List.getElem?_of_mem hn
  refine dC ?_
  rcases Nat.eq_zero_or_pos i with rfl|e
  ·rw [hw] at hi; cases hi; exact h
  ·obtain ⟨B,D⟩:=aZ.1 hi
   obtain ⟨A,C⟩:=aZ.1 hw
   have:=eZ.1 hs 0 i A B e
   omega
theorem tq (h: ¬ b<0) (e:eA l r b=0) (ho:fp l r 0=0) (hw:(hH l r)[0]? =some w):(b<w→dh l r b=⟨(dD l r b).Lo,(dD l r b).Hi,true,false⟩)∧(¬ b<w→dh l r b=⟨(dD l r b).Lo,86400000,false,false⟩):=by
 have hh:=Hy (b:=b) ho hw
 exact ⟨fun q=>vu h e (by rw [hh]; exact dC q),fun q=>tJ h e (by rw [hh]; exact br q)⟩
/-- the faults that some places say -/
def nD (fs:List bg) (P:Nat→Prop) (f:bg):Prop:= ∃ k:Nat,fs[k]? =some f∧P k
/-- hit, by the first faults -/
def RO (l:bq) (fs:List bg) (P:Nat→Prop) (d:aq) (n:Nat):Prop:= ∃ (k:Nat) (f:bg),k<n∧fs[k]? =some f∧P k∧ ¬ gd l f d=0
noncomputable def mj (l:bq) (fs:List bg) (P:Nat→Prop) (d:aq) (n:Nat):Bool:= @decide (RO l fs P d n) (Classical.propDecidable _)
theorem DM {fs:List bg}:mj l fs P d 0=false:= @decide_eq_false _ (Classical.propDecidable _) (fun ⟨k,f,h,_⟩=>absurd h (Nat.not_lt_zero _))
theorem tH {fs:List bg} (hf:fs[n]? =some f):mj l fs P d (n+1)=true↔mj l fs P d n=true∨(P n∧ ¬ gd l f d=0):=by
 unfold mj
 rw [@decide_eq_true_iff _ (Classical.propDecidable _),@decide_eq_true_iff _ (Classical.propDecidable _)]
 constructor
 ·rintro ⟨k,g,D,C,A,B⟩
  by_cases c:k=n
  ·subst c; rw [hf] at C; cases C; exact .inr ⟨A,B⟩
  ·exact .inl ⟨k,g,om,C,A,B⟩
 ·rintro (⟨k,g,D,C,A,B⟩|⟨A,B⟩)
  ·exact ⟨k,g,om,C,A,B⟩
  ·exact ⟨n,f,om,hf,A,B⟩
theorem zT {fs:List bg} (hn:fs.length≤n):mj l fs P d n= @decide (Gu l (nD fs P) fs d) (Classical.propDecidable _):=by
 unfold mj
 rw [gS]
 constructor
 ·rintro ⟨k,f,_,A,B,C⟩; exact ⟨f,aP A,⟨k,A,B⟩,C⟩
 ·rintro ⟨f,_,⟨k,A,B⟩,C⟩; exact ⟨k,f,by have:=(aZ.1 A).1; omega,A,B,C⟩
theorem UN {fs:List bg} (hf:fs[k]? =some f) (h:mj l fs P d k=true):true=mj l fs P d (k+1):=((tH hf).2 (.inl h)).symm
theorem Ui {fs:List bg} {x:Bool} (hf:fs[k]? =some f) (h: ¬ mj l fs P d k=true) (hx:x=true↔P k) (hn: ¬ x=true):false=mj l fs P d (k+1):=by
 cases e:mj l fs P d (k+1) with
 |false=>rfl
 |true=>exact ((tH hf).1 e).elim (fun q=>absurd q h) (fun q=>absurd (hx.2 q.1) hn)
theorem UU {fs:List bg} {x:Bool} (hf:fs[k]? =some f) (h: ¬ mj l fs P d k=true) (hx:x=true↔P k) (hn:x=true):decide (0<gd l f d)=mj l fs P d (k+1):=by
 have hb:=CM (l:=l) (f:=f) (d:=d)
 rw [Bool.eq_iff_iff,decide_eq_true_iff,tH hf]
 constructor
 ·intro q; exact .inr ⟨hx.1 hn,om⟩
 ·rintro (q|⟨_,q⟩)
  ·exact absurd q h
  ·omega
theorem Eg (hk:f.Kind=3):rT f a c↔f.mu≤a.Lo∧a.Hi≤f.To:=by unfold rT; rw [if_pos hk]
noncomputable def ow (l:bq) (fs:List bg) (P:Nat→Prop) (ht:List aq) (s:Nat):Bool:=(ht[s]?).any fun d=> @decide (Gu l (nD fs P) fs d) (Classical.propDecidable _)
theorem Dh {fs:List bg} {q:Nat} (hd:ht[q]? =some d):ow l fs P ht q= @decide (Gu l (nD fs P) fs d) (Classical.propDecidable _):=by unfold ow; rw [hd]; rfl
theorem Hk {h:Nat} (hh:j.Race.aI[h]? =some ht):(eT j (nD j.aM P))[h]? =some (kU (ow j.Race.au j.aM P ht) ht.length):=AH hh
theorem My {r:eU} {q s:Nat} (ho:fQ r) {at_:Int} (h: ∃ d,((r.aI[q]?).bind (·[s]?))=some d∧o2 d∧d.aV.Start≤at_∧at_≤86400000):0≤at_∧at_≤86400000:=by
 obtain ⟨d,A,C,D,E⟩:=h
 cases e:r.aI[q]? with
 |none=>rw [e] at A; cases A
 |some x=>
  rw [e] at A
  have B:=(ho.fJ x (aP e)).2 d (aP A)
  rw [ud C] at B
  have:=(qX B.1).time
  omega
theorem G7 {q:cw} (h1:j.Race=q.Race) (h2:j.gu=q.gu) (h3:j.kT=q.kT) (h4:j.aM=q.aM) (h5:j.aB=q.aB):j=q:=by
 cases j; cases q; simp_all
noncomputable def iu (n:Nat) (P:Nat→Prop):List Bool:=(List.range n).map fun k=> @decide (P k) (Classical.propDecidable _)
@[simp] theorem lk:(iu n P).length=n:=by simp [iu]
theorem py (h:k<n):(iu n P)[k]? =some (@decide (P k) (Classical.propDecidable _)):=by unfold iu; rw [fZ,List.getElem?_range h]; rfl
theorem En {x:Bool} (h:(iu n P)[k]? =some x):k<n∧(x=true↔P k):=by
 have hk:=(aZ.1 h).1
 rw [lk] at hk
 rw [py hk] at h
 cases h
 exact ⟨hk,@decide_eq_true_iff _ (Classical.propDecidable _)⟩
theorem Ei {Q:Nat→Prop} {x:Bool} (hk:k<n) (hx:x=true↔Q k) (hq: ∀ i,i≠k→(P i↔Q i)):(iu n P).set k x=iu n Q:=by
 apply List.ext_getElem?
 intro i
 rw [List.getElem?_set]
 by_cases c:k=i
 ·subst c
  rw [if_pos rfl,if_pos (by rw [lk]; exact hk),py hk]
  congr 1
  rw [Bool.eq_iff_iff,hx,@decide_eq_true_iff _ (Classical.propDecidable _)]
 ·rw [if_neg c]
  by_cases hi:i<n
  ·rw [py hi,py hi]
   congr 1
   rw [gS]; exact hq i (Ne.symm c)
  ·rw [List.getElem?_eq_none (by rw [lk]; omega),List.getElem?_eq_none (by rw [lk]; omega)]
theorem CG:List.replicate n false=iu n (fun _=>False):=by
 apply List.ext_getElem?
 intro i
 by_cases hi:i<n
 ·rw [py hi,List.getElem?_replicate,if_pos hi]
  congr 1
  exact (@decide_eq_false _ (Classical.propDecidable _) id).symm
 ·rw [List.getElem?_eq_none (by rw [List.length_replicate]; omega),List.getElem?_eq_none (by rw [lk]; omega)]
theorem uv {Q:Nat→Prop} (h: ∀ i,i<n→(P i↔Q i)):iu n P=iu n Q:=by
 unfold iu
 apply List.map_congr_left
 intro i hi
 rw [gS]
 exact h i (List.mem_range.1 hi)
/-- the faults about which protests are granted -/
theorem Au (e:dT j=0) (hP: ∀ k:Nat,P k↔ ∃ (i:Nat) (p:bR),j.aB[i]? =some p∧gJ j p=true∧p.gj=(k:Int)):eT j (nD j.aM P)=ek j:=by
 rw [ks e]
 refine wx fun f hf=>?_
 constructor
 ·rintro ⟨k,D,E⟩
  obtain ⟨i,p,A,B,C⟩:=(hP k).1 E
  exact ⟨i,p,A,B,by rw [C,Int.toNat_natCast]; exact D⟩
 ·rintro ⟨i,p,A,B,C⟩
  have hp:=((dj e).2.hZ i p A).fault
  exact ⟨p.gj.toNat,C,(hP _).2 ⟨i,p,A,B,om⟩⟩
end
end
section
def jY (H:List (List aq)) (h i:Int) (d:aq):List (List aq):=match H[h.toNat]? with
 |some ht=>H.set h.toNat (ht.set i.toNat d)
 |none=>H
def rO (r:eU) (h i:Int) (d:aq):eU:=⟨r.au,r.bu,r.cP,r.jc,jY r.aI h i d⟩
section
variable {H:List (List aq)} {h i x y:Int} {d e:aq} {ht:List aq} {r:eU}
theorem su (hh:H[h.toNat]? =some ht):jY H h i d=H.set h.toNat (ht.set i.toNat d):=by unfold jY; rw [hh]
theorem qV:(jY H h i d).length=H.length:=by unfold jY; split; rw [List.length_set]; rfl
end
end
section
open Go.RowKit
theorem yv (l:List aT) (az:List RA): ∀ v∈(List.zipWith aT.cells l az).flatten,v.oneCell'=true:=by
 induction l generalizing az with
 |nil=>intro v hv; simp at hv
 |cons x l ih=>
  cases az with
  |nil=>intro v hv; simp at hv
  |cons a az=>
   intro v hv
   rw [List.zipWith_cons_cons,List.flatten_cons,gR] at hv
   rcases hv with hv|hv
   ·simp [aT.cells,dE.cells] at hv
    rcases hv with rfl|rfl<;>rfl
   ·exact ih az v hv
theorem gO {l:List aT} {az:List RA} (h:az.length=l.length):(List.zipWith aT.cells l az).length=l.length:=by simp [h]
/-- addresses, of which some are new -/
def sO (bz az:List RA) (i:Nat):List RA:=bz++az.drop i
theorem rp {bz az:List RA} {i:Nat} (hb:bz.length=i) (hi:i≤az.length):(sO bz az i).length=az.length:=by simp [sO,hb]; omega
theorem II {bz az:List RA} {i:Nat} (h:az.length≤i):sO bz az i=bz:=by unfold sO; rw [List.drop_eq_nil_of_le h,List.append_nil]
theorem Fm {bz az:List RA} {i:Nat} {a:RA} (hb:bz.length=i) (h:az[i]? =some a):(sO bz az i)[i]? =some a:=by
 unfold sO
 rw [List.getElem?_append_right om,hb,Nat.sub_self,List.getElem?_drop]
 simpa using h
theorem Kp {bz az:List RA} {i:Nat} {a b:RA} (hb:bz.length=i) (h:az[i]? =some a):(sO bz az i).set i b=sO (bz++[b]) az (i+1):=by
 unfold sO
 have hi:=(aZ.1 h).1
 rw [List.set_append_right _ _ om,hb,Nat.sub_self,List.drop_eq_getElem_cons hi,List.set_cons_zero]
 simp
theorem Mp {l:List aT} {bz az:List RA} {i:Nat} {x:aT} {xa nw:RA} (hx:l[i]? =some x) (hb:bz.length=i) (ha:az[i]? =some xa):
 (List.zipWith aT.cells l (sO bz az i)).set i (aT.cells x nw)=List.zipWith aT.cells l (sO (bz++[nw]) az (i+1)):=by
 rw [← Kp hb ha]
 apply List.ext_getElem?
 intro k
 rw [List.getElem?_set]
 by_cases e:i=k
 ·subst e
  have A:=Fm hb ha
  have B:=(aZ.1 A).1
  have C:=(aZ.1 hx).1
  rw [if_pos rfl,List.getElem?_zipWith,hx,List.getElem?_set_self B,if_pos (by simp; omega)]
 ·rw [if_neg e,List.getElem?_zipWith,List.getElem?_zipWith,List.getElem?_set_ne e]
theorem G_ {l:List aT} {bz:List RA} {i:Nat} {x:aT} {nw:RA} (hx:l[i]? =some x) (hb:bz.length=i):bK aT.owns (l.take i) bz++aT.owns x nw=bK aT.owns (l.take (i+1)) (bz++[nw]):=by
 have hi:=(aZ.1 hx).1
 rw [List.take_add_one,hx,Option.toList_some,jJ (by rw [List.length_take,hb]; omega)]
 simp [bK]
theorem kz {l:List aT} {bz:List RA}:(bQ (bK aT.owns l bz)).wr=true:=by
 show (bK aT.owns l bz).all (·.wr)=true
 rw [c_]
 intro X hX
 obtain ⟨k,m,a,_,_,h⟩:=ku hX
 simp only [aT.owns,cH] at h
 subst h; rfl
/-- what is known of new rows -/
def m7 (l:List aT) (bz:List RA):Prop:= ∀ (k:Nat) m (a:RA),l[k]? =some m→bz[k]? =some a→m.bk.length≤a.2
theorem Cl {l:List aT} {bz:List RA} {i:Nat} {x:aT} {nw:RA} (h:m7 l bz) (hb:bz.length=i) (hx:l[i]? =some x) (hc:x.bk.length≤nw.2):m7 l (bz++[nw]):=fun k m a hm ha=>by
 by_cases e:k<bz.length
 ·rw [List.getElem?_append_left e] at ha
  exact h k m a hm ha
 ·rw [List.getElem?_append_right om] at ha
  have hk:k-bz.length=0:=by
   rcases Nat.eq_zero_or_pos (k-bz.length) with A|A
   ·exact A
   ·rw [List.getElem?_eq_none (by simp; omega)] at ha; cases ha
  rw [hk] at ha
  simp at ha
  have:k=i:=by omega
  subst this
  rw [hx] at hm; cases hm
  subst ha; exact hc
theorem jS: ∀ (m:aT) (a:RA) (w:World),(∀ X∈aT.owns m a,X.holds w)→ ∀ X∈aT.jW m a,X.holds w:=fun m a w h X hX=>by
 simp only [aT.jW,cH] at hX
 subst hX
 have:=n7 (h _ (cH.2 rfl))
 simpa using this
theorem ej.LY {l:bq} {az bz:List RA} (h:ej l az) (hb:bz.length=l.aH.length) (hc:m7 l.aH bz):ej l bz:=⟨h.qF,h.side,h.qL,hb,h.qE,fun k m a hm ha=>⟨hc k m a hm ha,by
 obtain ⟨A,B⟩: ∃ A,az[k]? =some A:=⟨az[k]'(by rw [h.lQ]; exact (aZ.1 hm).1),f_ _⟩
 exact (h.QI k m A hm B).2⟩⟩
theorem yF {x y:aT} {k:Nat} (h1:x.dA=y.dA) (h2:(x.bk.length:Int)=(y.bk.length:Int)) (hk:x.bk.length≤k) (h:x.bk.take k=y.bk.take k):x=y:=by
 cases x; cases y
 simp only [aT.mk.injEq] at *
 rw [List.take_of_length_le hk,List.take_of_length_le om] at h
 exact ⟨h1,h⟩
theorem Hz {l m:bq} (h1:l.bL=m.bL) (h2:l.gl=m.gl) (h3:l.bV=m.bV) (h4:l.ew=m.ew) (h5:l.cU=m.cU) (h6:l.aH=m.aH) (h7:l.aj=m.aj):l=m:=by
 cases l; cases m; simp_all
section
variable {E:fH} {ops:Array Oper} {Q:dv} {rest:List Oper} {D:List Deferred} {L:List (Nat×Value)} {C:List ay}
theorem TE {a:OA} {c e sz:Nat} {es:List (List Value)} (i:Nat) (hC:C[i]? =some (own a c e sz es)) (k:es.length≤c→RJ E ops Q rest D L C):RJ E ops Q rest D L C:=fun act w hf hs=>
 k (FC (hs.holds _ (aP hC))) act w hf hs
end
end
section
open Go.RowKit
def oq (m:aq) (a:RA):List ay:=[own a.1 a.2 Bu 2 (m.aV.aa.map aG.cells)]
def j4 (m:List aq) (a:bZ):List ay:=own a.1.1 a.1.2 CQ 7 (List.zipWith aq.cells m a.2)::bK oq m a.2
theorem PH: ∀ (m:aq) (a:RA) (w:World),(∀ X∈oq m a,X.holds w)→ ∀ X∈aq.jW m a,X.holds w:=fun m a w h X hX=>by
 simp only [aq.jW,cH] at hX
 subst hX
 have:=n7 (h _ (cH.2 rfl))
 simpa using this
theorem jQ {m:List aq} {asl:List RA} (h:asl.length=m.length):(List.zipWith aq.cells m asl).length=m.length:=by simp [h]
theorem dQ {m:List (List aq)} {asl:List bZ} (h:asl.length=m.length):(List.zipWith cM m asl).length=m.length:=by simp [h]
theorem Mn {m:List aq} {asl:List RA}:(bK oq m asl).all (·.wr)=true:=by
 rw [c_]
 intro X hX
 obtain ⟨k,d,a,_,_,h⟩:=ku hX
 simp only [oq,cH] at h
 subst h; rfl
theorem rm {m:List (List aq)} {asl:List bZ}:(bQ (bK j4 m asl)).wr=true:=by
 show (bK j4 m asl).all (·.wr)=true
 rw [c_]
 intro X hX
 obtain ⟨k,d,a,_,_,h⟩:=ku hX
 rcases cm.1 h with rfl|h
 ·rfl
 ·exact c_.1 Mn X h
theorem Fz (l:List aq) (az:List RA): ∀ v∈(List.zipWith aq.cells l az).flatten,v.oneCell'=true:=by
 induction l generalizing az with
 |nil=>intro v hv; simp at hv
 |cons x l ih=>
  cases az with
  |nil=>intro v hv; simp at hv
  |cons a az=>
   intro v hv
   rw [List.zipWith_cons_cons,List.flatten_cons,gR] at hv
   rcases hv with hv|hv
   ·simp [aq.cells,aR.cells,de.cells,ai.cells] at hv
    rcases hv with rfl|rfl|rfl|rfl|rfl|rfl|rfl<;>rfl
   ·exact ih az v hv
theorem zI (l:List (List aq)) (az:List bZ): ∀ v∈(List.zipWith cM l az).flatten,v.oneCell'=true:=by
 induction l generalizing az with
 |nil=>intro v hv; simp at hv
 |cons x l ih=>
  cases az with
  |nil=>intro v hv; simp at hv
  |cons a az=>
   intro v hv
   rw [List.zipWith_cons_cons,List.flatten_cons,gR] at hv
   rcases hv with hv|hv
   ·simp [cM] at hv; subst hv; rfl
   ·exact ih az v hv
/-- every heat has as many places as descents -/
def uD (H:List (List aq)) (hz:List bZ):Prop:=hz.length=H.length∧ ∀ (k:Nat) h (a:bZ),H[k]? =some h→hz[k]? =some a→a.2.length=h.length
theorem Nf {a:OA} {c e sz n:Nat} {es:List (List Value)} {w:World} (h:(own a c e sz es).holds w) (hn:es.length=n):(rd a n sz es).holds w:=by subst hn; exact n7 h
theorem je {C:List ay} {H:List (List aq)} {hz:List bZ} (i:Nat) (hC:C[i]? =some (bQ (bK j4 H hz))) (hh:uD H hz):g9 C (iK (bK lZ H hz)).holds:=fun w hw X hX=>by
 have hb:=hw _ (aP hC)
 obtain ⟨k,m,a,A,B,D⟩:=ku hX
 rcases cm.1 D with rfl|D
 ·exact Nf (hb.1 _ (bB A B cr)) (jQ (hh.2 k m a A B))
 ·obtain ⟨q,d,b,E,F,G⟩:=ku D
  exact PH d b w (fun Y hY=>hb.1 Y (bB A B (dH _ (bB E F hY)))) X G
section
variable {α:Type}
def jq (bz az:List α) (i:Nat):List α:=bz++az.drop i
variable {bz az:List α} {i:Nat} {a b:α}
theorem eO (hb:bz.length=i) (hi:i≤az.length):(jq bz az i).length=az.length:=by simp [jq,hb]; omega
theorem rK (h:az.length≤i):jq bz az i=bz:=by unfold jq; rw [List.drop_eq_nil_of_le h,List.append_nil]
theorem uB (hb:bz.length=i) (h:az[i]? =some a):(jq bz az i)[i]? =some a:=by
 unfold jq
 rw [List.getElem?_append_right om,hb,Nat.sub_self,List.getElem?_drop]
 simpa using h
theorem Da (hb:bz.length=i):(jq (bz++[b]) az (i+1))[i]? =some b:=by
 unfold jq
 rw [List.getElem?_append_left (by simp; omega),List.getElem?_append_right om,hb,Nat.sub_self]; rfl
theorem Kv (hb:bz.length=i) (h:az[i]? =some a):(jq bz az i).set i b=jq (bz++[b]) az (i+1):=by
 unfold jq
 have hi:=(aZ.1 h).1
 rw [List.set_append_right _ _ om,hb,Nat.sub_self,List.drop_eq_getElem_cons hi,List.set_cons_zero]
 simp
theorem rr {M β:Type} {c:M→α→β} {l:List M} {x:M} (hx:l[i]? =some x) (hb:bz.length=i) (h:az[i]? =some a):(List.zipWith c l (jq bz az i)).set i (c x b)=List.zipWith c l (jq (bz++[b]) az (i+1)):=by
 rw [ue,Kv hb h]
 congr 1
 obtain ⟨hi,rfl⟩:=aZ.1 hx
 exact List.set_getElem_self hi
theorem oh {M:Type} {f:M→α→List ay} {l:List M} {x:M} (hx:l[i]? =some x) (hb:bz.length=i):bK f (l.take i) bz++f x b=bK f (l.take (i+1)) (bz++[b]):=by
 have hi:=(aZ.1 hx).1
 rw [List.take_add_one,hx,Option.toList_some,jJ (by rw [List.length_take,hb]; omega)]
 simp [bK]
end
theorem BW: ∀ {l:List (List aq)} {u v:List bZ},u.map (·.1)=v.map (·.1)→List.zipWith cM l u=List.zipWith cM l v
 |[],u,v,_=>by simp
 |x::l,[],[],_=>rfl
 |x::l,[],b::v,h=>by simp at h
 |x::l,a::u,[],h=>by simp at h
 |x::l,a::u,b::v,h=>by
  simp only [List.map_cons,List.cons.injEq] at h
  rw [List.zipWith_cons_cons,List.zipWith_cons_cons,BW h.2]
  have e:cM x a=cM x b:=by simp only [cM,h.1]
  rw [e]
theorem BP {l:List (List aq)} {hz ha:List bZ} {p:RA} {x y:List RA} {i:Nat}:List.zipWith cM l (jq (hz++[(p,x)]) ha i)=List.zipWith cM l (jq (hz++[(p,y)]) ha i):=BW (by simp [jq])
theorem Fp {H:List (List aq)} {hz:List bZ} {i:Nat} {x:List aq} {b:bZ} (hx:H[i]? =some x) (h: ∀ (k:Nat) y (a:bZ),H[k]? =some y→hz[k]? =some a→a.2.length=y.length) (hb:hz.length=i) (hl:b.2.length=x.length): ∀ (k:Nat) y (a:bZ),H[k]? =some y→(hz++[b])[k]? =some a→a.2.length=y.length:=fun k y a hy ha=>by
 by_cases e:k<hz.length
 ·rw [List.getElem?_append_left e] at ha
  exact h k y a hy ha
 ·rw [List.getElem?_append_right om] at ha
  have hk:k-hz.length=0:=by
   rcases Nat.eq_zero_or_pos (k-hz.length) with A|A
   ·exact A
   ·rw [List.getElem?_eq_none (by simp; omega)] at ha; cases ha
  rw [hk] at ha
  simp at ha
  have:k=i:=by omega
  subst this
  rw [hx] at hy; cases hy
  subst ha; exact hl
theorem FL {S:BS} {w0 w:World} {C:List ay} {A:ay} {Y Z:List ay} (h:St S w0 (A::bQ Y::bQ Z::C) w):St S w0 (bQ (Z++A::Y)::C) w:=by
 have D:St S w0 (bQ Y::A::bQ Z::C) w:=h.perm (List.Perm.swap _ _ _)
 have E:St S w0 (Y++(A::bQ Z::C)) w:=D.iM
 have F:St S w0 (bQ Z::(A::Y)++C) w:=E.perm (by
  have B:(Y++(A::bQ Z::C)).Perm ((A::bQ Z::C)++Y):=List.perm_append_comm
  refine B.trans ?_
  show (A::bQ Z::(C++Y)).Perm (bQ Z::A::(Y++C))
  exact (List.Perm.swap _ _ _).trans (((List.perm_append_comm (l₁:=C) (l₂:=Y)).cons A).cons _))
 have G:St S w0 (Z++((A::Y)++C)) w:=F.iM
 have H:St S w0 ((Z++A::Y)++C) w:=by simpa using G
 exact H.tied
theorem HE {S:BS} {w0 w:World} {C:List ay} {A:ay} {Y Z:List ay} (h:St S w0 (bQ (A::Y++Z)::C) w):St S w0 (A::bQ Y::bQ Z::C) w:=by
 have D:St S w0 ((A::Y++Z)++C) w:=h.iM
 have E:St S w0 (Z++(A::(Y++C))) w:=D.perm (by
  show (A::(Y++Z)++C).Perm (Z++(A::(Y++C)))
  have B:(A::(Y++Z)++C).Perm (A::(Z++(Y++C))):=by
   show (A::((Y++Z)++C)).Perm _
   refine List.Perm.cons A ?_
   rw [← List.append_assoc]
   exact List.perm_append_comm.append_right C
  exact B.trans (List.perm_middle (a:=A) (l₁:=Z) (l₂:=Y++C)).symm)
 have F:=E.tied
 have G:St S w0 (Y++(A::bQ Z::C)) w:=F.perm (by
  show (bQ Z::A::(Y++C)).Perm (Y++(A::bQ Z::C))
  have B:(Y++(A::bQ Z::C)).Perm (A::bQ Z::(Y++C)):=by
   have:=List.perm_append_comm (l₁:=Y) (l₂:=A::bQ Z::C)
   refine this.trans ?_
   show (A::bQ Z::(C++Y)).Perm _
   exact (List.perm_append_comm.cons _).cons _
  exact (B.trans (List.Perm.swap _ _ _)).symm)
 have H:=G.tied
 exact H.perm (List.Perm.swap _ _ _)
theorem xW {H:List (List aq)} {hz:List bZ} {k:Nat} {h:List aq} {a:bZ} (hh:H[k]? =some h) (ha:hz[k]? =some a):(bK j4 H hz).Perm (own a.1.1 a.1.2 CQ 7 (List.zipWith aq.cells h a.2)::bK oq h a.2++gW j4 H hz k):=mo hh ha
theorem OY {E:fH} {K:Act→World→Prop} {D:iw} {L:dG} {C:List ay} {a:OA} {c e sz:Nat} {es:List (List Value)} (i:Nat) (hC:C[i]? =some (own a c e sz es)) (k:es.length≤c→KJ E K D L C):KJ E K D L C:=fun act w hf hs=>k (FC (hs.holds _ (aP hC))) act w hf hs
abbrev NB (C:List ay) (i j k:Nat):List Nat:=k::j::i::(List.range C.length).filter fun q=>q != i&&q != j&&q != k
section
variable {E:fH} {ops:Array Oper} {Q:dv} {rest:List Oper} {D:List Deferred} {L:List (Nat×Value)} {C C1:List ay} {K:Act→World→Prop}
variable {H:List (List aq)} {hz:List bZ} {h h':List aq} {a a':bZ} {k:Nat} {X:ay} {Y Z Z':List ay}
/-- i: the others, j: what hangs on the row, q: the row -/
theorem H9 (i j q:Nat) (hn:decide (NB C i j q).Nodup=true) (hC:sR C (NB C i j q)=some (X::bQ Y::bQ Z::C1)) (e:Z++X::Y=Z') (hk:KJ E K D L (bQ Z'::C1)):KJ E K D L C:=fun a w hf hs=>by
 subst e; exact hk a w hf (FL (St.kR _ hn (mO hC) hs))
theorem KE {c:Code} (i:Nat) (hh:H[k]? =some h) (ha:hz[k]? =some a) (hn:decide (Ra C i).Nodup=true) (hC:sR C (Ra C i)=some (bQ (bK j4 H hz)::C1))
 (hk:WJ E c Q D L (own a.1.1 a.1.2 CQ 7 (List.zipWith aq.cells h a.2)::bQ (bK oq h a.2)::bQ (gW j4 H hz k)::C1)):WJ E c Q D L C:=fun act w hf hs=>
 hk act w hf (HE (mK (xW hh ha) (St.kR _ hn (mO hC) hs)))
theorem Jv {S:BS} {w0 w:World} (hk:k<H.length) (hk2:k<hz.length) (hs:St S w0 (own a'.1.1 a'.1.2 CQ 7 (List.zipWith aq.cells h' a'.2)::bQ (bK oq h' a'.2)::bQ (gW j4 H hz k)::C) w):St S w0 (bQ (bK j4 (H.set k h') (hz.set k a'))::C) w:=by
 have B:=FL hs
 refine mK ?_ B
 have A:=xW (H:=H.set k h') (hz:=hz.set k a') (List.getElem?_set_self hk) (List.getElem?_set_self hk2)
 rw [yx] at A
 exact (List.perm_append_comm).trans A.symm
end
theorem zb {H:List (List aq)} {hz:List bZ} {k:Nat} {h h':List aq} {a:bZ} {bs:List RA} (hh:H[k]? =some h) (ha:hz[k]? =some a) (hl:h'.length=h.length):List.zipWith cM (H.set k h') (hz.set k (a.1,bs))=List.zipWith cM H hz:=by
 rw [← ue]
 have e:cM h' (a.1,bs)=cM h a:=by simp only [cM,hl]
 rw [e]
 have hz':=cG (f:=cM) hh ha
 obtain ⟨hi,A⟩:=aZ.1 hz'
 rw [← A]
 exact List.set_getElem_self hi
theorem pA {d e:aq}:d=e↔d.Out=e.Out∧d.cD=e.cD∧d.Time=e.Time∧d.aV.Start=e.aV.Start∧d.aV.gL=e.aV.gL∧d.aV.aa=e.aV.aa:=by
 obtain ⟨a,b,c,⟨x,y,z⟩⟩:=d
 obtain ⟨A,B,C,⟨D,E,F⟩⟩:=e
 simp only [aq.mk.injEq,cO.mk.injEq]
theorem GZ {r q:eU} (h1:r.au=q.au) (h2:r.bu=q.bu) (h3:r.cP=q.cP) (h4:r.jc=q.jc) (h5:r.aI=q.aI):r=q:=by
 cases r; cases q; simp_all
theorem iP.LY {r:eU} {az bz:List RA} {ha hz:List bZ} (h:iP r az ha) (hb:bz.length=r.au.aH.length) (hc:m7 r.au.aH bz) (hh:uD r.aI hz):iP r bz hz:=⟨h.line.LY hb hc,h.fM,h.draw,h.fE,hh.1,fun k x a hx ha'=>by
 obtain ⟨A,C⟩: ∃ A,ha[k]? =some A:=⟨ha[k]'(by rw [h.has]; exact (aZ.1 hx).1),f_ _⟩
 have B:=h.fJ k x A hx C
 exact ⟨B.len,hh.2 k x a hx ha',B.sig⟩⟩
end
section
open Go.RowKit
noncomputable def ki (j:cw) (h i:Int) (d:aq):Int:=
 if dT j=0 then (if (0≤h∧h≤(j.Race.aI.length:Int)-1)∧qN j.Race i then (if i∈(dU j)[h.toNat]?.getD [] then (if jF (rO j.Race h i d)=0 then 0 else 60) else 8) else 2) else dT j
section
variable {j:cw} {h i:Int} {d e:aq} {row:List Int} {r:eU} {H:List (List aq)} {k:Nat} {y:List aq} {hz:List bZ} {hza:bZ} {ht:List aq} {x:RA}
theorem BM (q: ¬ dT j=0):ki j h i d=dT j:=if_neg q
theorem tY (q:dT j=0) (n: ¬ ((0≤h∧h≤(j.Race.aI.length:Int)-1)∧0≤i∧i≤(j.Race.bu.length:Int)-1)):ki j h i d=2:=by unfold ki; rw [if_pos q,if_neg (by exact n)]
theorem xr (q:dT j=0) (n:(0≤h∧h≤(j.Race.aI.length:Int)-1)∧0≤i∧i≤(j.Race.bu.length:Int)-1) (hr:(dU j)[h.toNat]? =some row):ki j h i d=if i∈row then (if jF (rO j.Race h i d)=0 then 0 else 60) else 8:=by
 unfold ki; rw [if_pos q,if_pos (by exact n),hr]; rfl
theorem EM (q:dT j=0) (n:(0≤h∧h≤(j.Race.aI.length:Int)-1)∧0≤i∧i≤(j.Race.bu.length:Int)-1) (hr:(dU j)[h.toNat]? =some row) (hn: ¬ i∈row):ki j h i d=8:=by rw [xr q n hr,if_neg hn]
theorem zn (q:dT j=0) (n:(0≤h∧h≤(j.Race.aI.length:Int)-1)∧0≤i∧i≤(j.Race.bu.length:Int)-1) (hr:(dU j)[h.toNat]? =some row) (hm:i∈row) (he: ¬ jF (rO j.Race h i d)=0):ki j h i d=60:=by rw [xr q n hr,if_pos hm,if_neg he]
theorem Gc (q:dT j=0) (n:(0≤h∧h≤(j.Race.aI.length:Int)-1)∧0≤i∧i≤(j.Race.bu.length:Int)-1) (hr:(dU j)[h.toNat]? =some row) (hm:i∈row) (he:jF (rO j.Race h i d)=0):ki j h i d=0:=by rw [xr q n hr,if_pos hm,if_pos he]
theorem Bq (hy:(jY H h i d)[k]? =some y): ∃ x,H[k]? =some x∧y.length=x.length∧ ∀ e∈y,e∈x∨e=d:=by
 cases hh:H[h.toNat]? with
 |none=>unfold jY at hy; rw [hh] at hy; exact ⟨y,hy,rfl,fun e he=> .inl he⟩
 |some ht=>
  rw [su hh,List.getElem?_set] at hy
  split at hy
  ·rename_i e
   rw [if_pos (aZ.1 hh).1] at hy
   cases hy
   exact ⟨ht,by rw [← e]; exact hh,by rw [List.length_set],fun e he=>List.mem_or_eq_of_mem_set he⟩
  ·exact ⟨y,hy,U,fun e he=> .inl he⟩
theorem Kq (hh:uD H hz) (h1:H[h.toNat]? =some ht) (h2:hz[h.toNat]? =some hza):uD (jY H h i d) (hz.set h.toNat (hza.1,hza.2.set i.toNat x)):=by
 refine ⟨by rw [List.length_set,qV]; exact hh.1,fun k y a hy ha=>?_⟩
 rw [su h1] at hy
 rw [List.getElem?_set] at hy ha
 by_cases e:h.toNat=k
 ·rw [if_pos e,if_pos (aZ.1 h1).1] at hy
  rw [if_pos e,if_pos (aZ.1 h2).1] at ha
  cases hy; cases ha
  simp only [List.length_set]
  exact hh.2 _ _ _ h1 h2
 ·rw [if_neg e] at hy ha
  exact hh.2 k y a hy ha
theorem iP.put {az bz:List RA} {ha:List bZ} (hin:iP r az ha) (hb:bz.length=r.au.aH.length) (hc:m7 r.au.aH bz) (hh:uD (jY r.aI h i d) hz) (hd:d.aV.aa.length≤1000000):iP (rO r h i d) bz hz:=⟨hin.line.LY hb hc,hin.fM,hin.draw,by
 show (jY r.aI h i d).length≤1000000
 rw [qV]; exact hin.fE,hh.1,fun k y a hy ha'=>by
 obtain ⟨x,hx,hl,hm⟩:=Bq hy
 obtain ⟨b,hb⟩: ∃ b,ha[k]? =some b:=⟨ha[k]'(by rw [hin.has]; exact (aZ.1 hx).1),f_ _⟩
 have A:=hin.fJ k x b hx hb
 refine ⟨by rw [hl]; exact A.len,hh.2 k y a hy ha',fun e he=>?_⟩
 rcases hm e he with q|rfl
 ·exact A.sig e q
 ·exact hd⟩
theorem Gz (hs: ¬ jX r) (hd:(d.aV.aa.length:Int)≤15): ¬ jX (rO r h i d):=fun q=>by
 obtain ⟨A,E,F,G,B⟩:=uf hs
 rcases q with (q|q|q|q)|⟨y,hy,q⟩
 ·exact A q
 ·have:(rO r h i d).bu=r.bu:=rfl; rw [this] at q; omega
 ·have:(rO r h i d).cP=r.cP:=rfl; rw [this] at q; omega
 ·have:(rO r h i d).aI.length=r.aI.length:=qV; omega
 ·obtain ⟨k,hk⟩:=List.mem_iff_getElem?.1 hy
  obtain ⟨x,hx,hl,hm⟩:=Bq hk
  have C:=B x (aP hx)
  rcases q with q|⟨e,he,q⟩
  ·rw [hl] at q; omega
  ·rcases hm e he with D|rfl
   ·have:=C.2 e D; omega
   ·omega
end
section
variable {E:fH} {Q:dv} {D:List Deferred} {L:List (Nat×Value)} {C C1:List ay} {c:Code}
variable {h:List aq} {bs:List RA} {i:Nat} {d d':aq} {b b':RA}
theorem NR {S:BS} {w0 w:World} {C:List ay} (hd:h[i]? =some d) (hb:bs[i]? =some b) (hs:St S w0 (own b'.1 b'.2 Bu 2 (d'.aV.aa.map aG.cells)::bQ (bK oq h bs)::C) w):St S w0 (bQ (bK oq (h.set i d') (bs.set i b'))::C) w:=by
 have hs:=hs.perm (List.Perm.swap _ _ _)
 have A:=(mK (mo hd hb) hs).iM
 have B:St S w0 (gW oq h bs i++(own b'.1 b'.2 Bu 2 (d'.aV.aa.map aG.cells)::C)) w:=St.take (by simpa using A) (List.sublist_append_right (oq d b) _)
 have D:St S w0 ((own b'.1 b'.2 Bu 2 (d'.aV.aa.map aG.cells)::gW oq h bs i)++C) w:=B.perm List.perm_middle
 have E:St S w0 ((oq d' b'++gW oq (h.set i d') (bs.set i b') i)++C) w:=by
  rw [yx]; exact D
 exact mK (mo (List.getElem?_set_self (aZ.1 hd).1) (List.getElem?_set_self (aZ.1 hb).1)).symm E.tied
/-- i: what hangs on the row, j: the new one -/
theorem JR (p j:Nat) (hd:h[i]? =some d) (hb:bs[i]? =some b) (hn:decide (HS C p j).Nodup=true) (hC:sR C (HS C p j)=some (own b'.1 b'.2 Bu 2 (d'.aV.aa.map aG.cells)::bQ (bK oq h bs)::C1))
 (hk:WJ E c Q D L (bQ (bK oq (h.set i d') (bs.set i b'))::C1)):WJ E c Q D L C:=fun a w hf hs=>hk a w hf (NR hd hb (St.kR _ hn (mO hC) hs))
theorem E1 {H:List (List aq)} {hz:List bZ} {h':List aq} {a':bZ} {k:Nat} (i j q:Nat) (hk:k<H.length) (hk2:k<hz.length) (hn:decide (NB C i j q).Nodup=true) (hC:sR C (NB C i j q)=some (own a'.1.1 a'.1.2 CQ 7 (List.zipWith aq.cells h' a'.2)::bQ (bK oq h' a'.2)::bQ (gW j4 H hz k)::C1))
 (hr:WJ E c Q D L (bQ (bK j4 (H.set k h') (hz.set k a'))::C1)):WJ E c Q D L C:=fun act w hf hs=>hr act w hf (Jv hk hk2 (St.kR _ hn (mO hC) hs))
end
end
section
open Go.RowKit
section
variable {j:cw} {h i:Int} {d e d0:aq} {row:List Int} {r:eU} {H:List (List aq)} {x y:Nat} {ht hu:List aq} {hz:List bZ}
end
theorem FR {P:Program} {f:FuncId} {args:List Value} {Cp:List ay} {β:Type} {V:β→Value} {V':Bool×Int×β→Value} {p:β→Prop} {q:Bool×Int×β→Prop} {N:β→List ay} (h:lO P f args Cp (fun x:Bool×Int×β=>bif x.1 then V x.2.2 else V' x) (fun x=>(x.1=true→p x.2.2)∧(x.1=false→q x)) (fun x=>bif x.1 then N x.2.2 else [])) (hn: ∀ x,¬ q x):lO P f args Cp V p N:=
 ⟨h.go,fun w hw=>(h.run w hw).mono fun e w' ⟨⟨b,ec,y⟩,B,A,C,D⟩=>by
  cases b with
  |false=>exact absurd (A.2 rfl) (hn _)
  |true=>exact ⟨y,B,A.1 rfl,C,D⟩⟩
end
section
open Go.RowKit
noncomputable def lj (j:cw):List Bool:=j.aB.map (gJ j)
noncomputable def AT (j:cw) (i:Nat):List Bool:=(j.aB.take i).map (gJ j)++List.replicate (j.aB.length-i) false
/-- the faults about which one of the first protests is granted -/
def qI (j:cw) (n k:Nat):Prop:= ∃ (i:Nat) (p:bR),i<n∧j.aB[i]? =some p∧gJ j p=true∧p.gj=(k:Int)
section
variable {j:cw} {p:bR} {i k n m:Nat} {s:Int} {x:Bool} {f:bg} {d:aq} {a b:Int}
theorem ry:(lj j).length=j.aB.length:=List.length_map _
theorem Gh:List.replicate j.aB.length false=AT j 0:=by simp [AT]
theorem Js (h:j.aB.length≤i):AT j i=lj j:=by
 unfold AT lj
 rw [List.take_of_length_le h,Nat.sub_eq_zero_of_le h]; simp
theorem B5 (hp:j.aB[i]? =some p) (hx:x=gJ j p):(AT j i).set i x=AT j (i+1):=by
 have hi:=(aZ.1 hp).1
 have hl:((j.aB.take i).map (gJ j)).length=i:=by rw [List.length_map,List.length_take]; omega
 unfold AT
 rw [List.set_append_right _ _ om,hl,Nat.sub_self,show j.aB.length-i=(j.aB.length-(i+1))+1 by omega,List.replicate_succ,List.set_cons_zero,List.take_add_one,hp,hx]
 simp
theorem PD (hc:qA j p=some d) (hf:j.aM[p.gj.toNat]? =some f) (hl:tf j (i:Int)=pS j p) (h:0<gd j.Race.au f d):(!decide (tf j (i:Int)=2))=gJ j p:=by
 unfold gJ; rw [hc,hf,hl]
 have: ¬ gd j.Race.au f d=0:=by omega
 simp [this]
theorem QQ (hc:qA j p=some d) (hf:j.aM[p.gj.toNat]? =some f) (h: ¬ 0<gd j.Race.au f d):false=gJ j p:=by
 have hb:=CM (l:=j.Race.au) (f:=f) (d:=d)
 unfold gJ; rw [hc,hf]
 have:gd j.Race.au f d=0:=by omega
 simp [this]
theorem rW (hx:(lj j)[i]? =some x):(j.aB[i]?).any (gJ j)=x:=by
 unfold lj at hx
 rw [fZ] at hx
 cases h:j.aB[i]? with
 |none=>rw [h] at hx; cases hx
 |some p=>rw [h] at hx; simpa using hx
theorem An (hx:(lj j)[i]? =some x) (hp:j.aB[i]? =some p):x=gJ j p:=by
 have:=rW hx; rw [hp] at this; exact this.symm
theorem KH:iu m (fun _=>False)=iu m (qI j 0):=uv fun i _=>⟨False.elim,fun ⟨_,_,h,_⟩=>absurd h (Nat.not_lt_zero _)⟩
theorem Nw (hp:j.aB[i]? =some p) (hg:gJ j p=true) (h0:0≤p.gj) (hk:p.gj.toNat<m):(iu m (qI j i)).set p.gj.toNat true=iu m (qI j (i+1)):=
 Ei hk ⟨fun _=>⟨i,p,om,hp,hg,om⟩,fun _=>rfl⟩ fun q hq=>⟨fun ⟨a,b,B,A⟩=>⟨a,b,om,A⟩,fun ⟨a,b,B,A,C,D⟩=>by
  rcases Nat.lt_or_ge a i with c|c
  ·exact ⟨a,b,c,A,C,D⟩
  ·obtain rfl:a=i:=by omega
   rw [hp] at A; cases A; exact absurd om hq⟩
theorem PU (hp:j.aB[i]? =some p) (hg:gJ j p=false):iu m (qI j i)=iu m (qI j (i+1)):=uv fun q _=>⟨fun ⟨a,b,C,A⟩=>⟨a,b,om,A⟩,fun ⟨a,b,C,A,B,D⟩=>by
 rcases Nat.lt_or_ge a i with c|c
 ·exact ⟨a,b,c,A,B,D⟩
 ·obtain rfl:a=i:=by omega
  rw [hp] at A; cases A; rw [hg] at B; cases B⟩
theorem MS (e:dT j=0):eT j (nD j.aM (qI j j.aB.length))=dU j:=by
 rw [← ks e]
 exact Au e fun k=>⟨fun ⟨a,b,_,A,B,C⟩=>⟨a,b,A,B,C⟩,fun ⟨a,b,A,B,C⟩=>⟨a,b,(aZ.1 A).1,A,B,C⟩⟩
noncomputable def jr (j:cw) (i:Nat):Nat:=(ir j i).length
theorem wR:jr j i≤i:=nk
theorem Cv (hx:(lj j)[i]? =some true):jr j (i+1)=jr j i+1:=by
 unfold jr ir; rw [vN (rW hx)]; simp
theorem FV (hx:(lj j)[i]? =some false):jr j (i+1)=jr j i:=by
 unfold jr ir; rw [zz (rW hx)]
theorem O7 (hx:(lj j)[i]? =some true):(jr j i:Int)*j.kT+j.kT=((jr j (i+1):Nat):Int)*j.kT:=by
 rw [Cv hx,Int.natCast_add,Int.add_mul]; omega
theorem PG (hx:(lj j)[i]? =some true):((i:Int)-(jr j i:Int))*j.kT=(((i+1:Nat):Int)-((jr j (i+1):Nat):Int))*j.kT:=by
 rw [Cv hx,show (((i+1:Nat):Int)-((jr j i+1:Nat):Int))=(i:Int)-(jr j i:Int) by omega]
theorem PI (hx:(lj j)[i]? =some false):(jr j i:Int)*j.kT=((jr j (i+1):Nat):Int)*j.kT:=by rw [FV hx]
theorem O5 (hx:(lj j)[i]? =some false):((i:Int)-(jr j i:Int))*j.kT+j.kT=(((i+1:Nat):Int)-((jr j (i+1):Nat):Int))*j.kT:=by
 rw [FV hx,show (((i+1:Nat):Int)-(jr j i:Int))=((i:Int)-(jr j i:Int))+1 by omega,Int.add_mul]; omega
theorem Ni (e:dT j=0):(jr j j.aB.length:Int)*j.kT=yg j∧((j.aB.length:Int)-(jr j j.aB.length:Int))*j.kT=xZ j:=by
 have A:=(xx e).1
 have B:=(xx e).2
 rw [A,B]
 refine ⟨U,?_⟩
 rw [Int.sub_mul]; rfl
theorem K2 (hp:j.aB[m]? =some p) (hg:gJ j p=true):ia j s (m+1)=ia j s m:=by
 unfold ia; rw [List.range_succ,List.countP_append]; simp [hp,hg]
theorem KB (hp:j.aB[m]? =some p) (h: ¬ p.gH=s):ia j s (m+1)=ia j s m:=by
 unfold ia; rw [List.range_succ,List.countP_append]; simp [hp,h]
theorem Hv (hp:j.aB[m]? =some p) (h:p.gH=s) (hg:gJ j p=false):ia j s (m+1)=ia j s m+1:=by
 unfold ia; rw [List.range_succ,List.countP_append]; simp [hp,h,hg]
theorem Jc (h:ia j s (m+1)=ia j s m): -(ia j s m:Int)*j.kT= -((ia j s (m+1):Nat):Int)*j.kT:=by rw [h]
theorem PO (h:ia j s (m+1)=ia j s m+1): -(ia j s m:Int)*j.kT-j.kT= -((ia j s (m+1):Nat):Int)*j.kT:=by
 rw [h,show-((ia j s m+1:Nat):Int)= -(ia j s m:Int)+(-1) by omega,Int.add_mul]; omega
theorem Su:(0:Int)= -(ia j s 0:Int)*j.kT:=by simp [ia]
theorem MI (e:dT j=0) (n:0≤s∧s≤(j.Race.bu.length:Int)-1):rM j s= -(ia j s j.aB.length:Int)*j.kT∧p6 j s=0:=⟨by unfold rM; rw [if_pos ⟨e,n⟩]; rfl,by unfold p6; rw [if_pos e,if_pos n]⟩
theorem yb {az:List RA} {ha:List bZ} (hin:er j az ha):(ek j).length≤1000000:=by
 unfold ek
 split
 ·unfold dU; rw [uw]; exact hin.race.fE
 ·simp
theorem zE: ∀ l∈ek j,l.length≤1000000:=by
 by_cases e:dT j=0
 ·exact x7 e
 ·rw [show ek j=[] from if_neg e]; intro l hl; cases hl
theorem sX {az:List RA} {ha:List bZ} (hin:er j az ha):(iy j).length≤1000000:=by
 unfold iy
 split
 ·exact Nat.le_trans (tQ (j:=j)) hin.np
 ·simp
end
def wu:eU:=⟨⟨[],0,[],[],0,0,0⟩,[],[],0,[]⟩
theorem Gb:iP wu [] []:=⟨⟨dc,fun x h=>(List.not_mem_nil h).elim,dc,rfl,dc,fun k x a h=>by simp [wu] at h⟩,dc,dc,dc,rfl,fun k x a h=>by simp [wu] at h⟩
theorem yM: ¬ jX wu:=fun q=>by
 rcases q with (q|q|q|q)|⟨y,hy,_⟩
 ·simp [ly,wu] at q
 ·exact absurd q dc
 ·exact absurd q dc
 ·exact absurd q dc
 ·simp [wu] at hy
theorem wZ {C:List ay} {M A:Type} {f:M→A→List ay} {asl:List A}:g9 C (iK (bK f [] asl)).holds:=fun w hw X hX=>by cases hX
/-- a call that is known not to answer -/
theorem Ku {P:Program} {f:FuncId} {args:List Value} {Cp:List ay} {β:Type} {v:Value} {V V':Bool×β→Value} {p q:Bool×β→Prop} {N:Bool×β→List ay} (h:lO P f args Cp (fun x:Bool×β=>bif x.1 then V x else V' x) (fun x=>(x.1=true→p x)∧(x.1=false→q x)) N) (hn: ∀ x,¬ p x) (hv: ∀ x,q x→V' x=v):dF P f args Cp v:=
 ⟨h.go,fun w hw=>(h.run w hw).mono fun e w' ⟨⟨b,y⟩,B,A,C,D⟩=>by
  cases b with
  |true=>exact absurd (A.1 rfl) (hn _)
  |false=>exact ⟨by rw [B]; exact congrArg _ (hv _ (A.2 rfl)),C⟩⟩
end
section
open Go.RowKit
section
variable {E:fH} {ops:Array Oper} {Q:dv} {rest:List Oper} {D:List Deferred} {L:List (Nat×Value)} {C C1:List ay}
end
theorem PZ {E:fH} {c:Code} {Q:dv} {D:iw} {L:dG} {C C1:List ay} (ix:List Nat) (hC:sR C ix=some C1) (h:WJ E c Q D L C1) (hn:decide ix.Nodup=true:=by rfl):WJ E c Q D L C:=fun a w hf hs=>h a w hf (St.kR _ hn (mO hC) hs)
end
section
theorem TN.sub {E:fH} {ops:Array Oper} {Q:dv} {D:iw} {C' C1 C:List ay} {tb rem:List Nat}: ∀ {n:Nat} {L L':dG},cR L L'→TN E ops D C' C1 (fun L C=>KJ E (Q .normal) D L C) tb n rem L' C→TN E ops D C' C1 (fun L C=>KJ E (Q .normal) D L C) tb n rem L C:=by
 intro n
 cases n with
 |zero=>intro L L' hs h; exact j7 hs (fun _ h=>h) h
 |succ n=>intro L L' hs h i hi o ho K hK; exact OG hs (fun _ h=>h) (h i hi o ho K hK)
theorem M1 {E:fH} {ops:Array Oper} {Q:dv} {D:iw} {C' C1 C:List ay} {bs:List Bool} {os:List Oper} {L:dG} {tb rem:List Nat} {n:Nat} {t:Nat} {b:Bool} (h:L.lookup t=some (.bool b))
 (h1:b=true→qT E ops D C' C1 (fun L'=>TN E ops D C' C1 (fun L C=>KJ E (Q .normal) D L C) tb n rem L' C) bs os ((t,.bool true)::L)) (h2:b=false→qT E ops D C' C1 (fun L'=>TN E ops D C' C1 (fun L C=>KJ E (Q .normal) D L C) tb n rem L' C) bs os ((t,.bool false)::L)):
 qT E ops D C' C1 (fun L'=>TN E ops D C' C1 (fun L C=>KJ E (Q .normal) D L C) tb n rem L' C) bs os L:=by
 have A: ∀ v:Bool,b=v→cR L ((t,.bool v)::L):=fun v hv=>cR.cons (hv▸h) (fun _ _ h=>h)
 cases b
 ·exact qT.mono (fun _ _=>TN.sub) (A _ U) (h2 U)
 ·exact qT.mono (fun _ _=>TN.sub) (A _ U) (h1 U)
theorem RF {E:fH} {ops:Array Oper} {Q:dv} {D:List Deferred} {L:List (Nat×Value)} {C1 C2 C:List ay} {t n:Nat} {b:Bool} {bs:List Bool} {os:List Oper} {tb rem:List Nat} (h:L.lookup t=some (.bool b)) (h2:b=false→qT E ops D C2 C1 (fun L2=>TN E ops D C2 C1 (fun L C=>KJ E (Q .normal) D L C) tb n rem L2 C) bs os ((t,.bool false)::L)) (h1:b=true→qT E ops D C2 C1 (fun L2=>TN E ops D C2 C1 (fun L C=>KJ E (Q .normal) D L C) tb n rem L2 C) bs os ((t,.bool true)::L)):qT E ops D C2 C1 (fun L2=>TN E ops D C2 C1 (fun L C=>KJ E (Q .normal) D L C) tb n rem L2 C) bs os L:=M1 h h1 h2
end
section
open Go.RowKit
section
variable {K:Type} [DecidableEq K] {kV:K→Value}
variable {E:fH} {ops:Array Oper} {Q:dv} {rest:List Oper} {D:List Deferred} {L:List (Nat×Value)} {C:List ay}
variable {ty:TypeId} {ps:String} {af:Array Edge} {g:Option (Nat×Bool)}
theorem tG {t kt et:TypeId} {xm xk:Operand} {ts:Array TypeId} {b:Nat} {x:K} {m m':List (K×Value)} {C':List ay} (i:Nat) (hg:ke ops L g=true) (hm:ev L xm=some (.map (some b))) (hk:ev L xk=some (kV x)) (hts:ts[0]? =some t)
 (ht:E.P.underlying t=some (.map kt et)) (hkt:vL E.P kt kV) (hC:C[i]? =some (kx kV b m)) (hm':fz m x=m') (hC':C.set i (kx kV b m')=C') (k:RJ E ops Q rest D L C'):
 RJ E ops Q (⟨none,.call {callee:= .builtin .delete,args:= #[xm,xk],argTypes:=ts},ty,ps,af,g⟩::rest) D L C:=by
 subst hm' hC'
 intro a w A hs
 unfold tg
 rw [if_pos (eK A hg)]
 obtain ⟨es,c,he,hi⟩:=hs.holds _ (aP hC)
 have B:(getObj b).run E.P w= .ok (.map es c) w:=MapKept.run_getObj_map he
 rcases pC (P:=E.P) (w:=w) (x:=x) hkt hi with ⟨F,G⟩|⟨j,AA,F,G,H⟩
 ·refine jg (v:= .tuple #[]) (w':={w with heap:=w.heap.setIfInBounds b (.map es c)}) sm ?_ ?_
  ·simp [execOp,resolve,invoke,builtin,A.ev hm,A.ev hk,Builtin.delete_,hts,run_underlying ht,B,jn hkt,F,MapKept.run_setObj_map _ he]
  ·refine k _ _ ⟨A.defers,A.size,A.at_⟩ (hs.As (b:=b) i hC U U (nN _) (fun _ h=>h) ⟨_,_,pU he,?_⟩)
   rw [EE G]; exact hi
 ·refine jg (v:= .tuple #[]) (w':={w with heap:=w.heap.setIfInBounds b (.map (es.eraseIdxIfInBounds j) c)}) sm ?_ ?_
  ·simp [execOp,resolve,invoke,builtin,A.ev hm,A.ev hk,Builtin.delete_,hts,run_underlying ht,B,jn hkt,F,MapKept.run_setObj_map _ he]
  ·exact k _ _ ⟨A.defers,A.size,A.at_⟩ (hs.As (b:=b) i hC U U (nN _) (fun _ h=>h) ⟨_,_,pU he,hi.del G⟩)
end
end
section
open Go.RowKit
section
variable {P:Program} {t:TypeId} {x y:Operand}
theorem rF {e:TypeId} {a:OA} {n c:Nat} (ht:P.underlying t=some (.slice e)):gQ P .eql t x y (.slice a n c) (.slice none 0 0) (.bool (decide (a=none))):=fun w=>by
 have A:(Op.equal t (.slice a n c) (.slice none 0 0)).run P w= .ok (decide (a=none)) w:=by
  unfold Op.equal
  show (Op.equalIn (9999+1) t (.slice a n c) (.slice none 0 0)).run P w=_
  unfold Op.equalIn
  cases a<;>simp [run_underlying ht]
 have B:eqGuard .eql t x y (.slice a n c) (.slice none 0 0)=pure ():=rfl
 rw [B]
 show (Sem.run P (do let b ← Op.equal t (.slice a n c) (.slice none 0 0); pure (vB b)) w)=_
 simp [A]
end
section
variable {E:fH} {ops:Array Oper} {Q:dv} {rest:List Oper} {D:List Deferred} {L:List (Nat×Value)} {C:List ay}
variable {dst:Option Tmp} {d:Nat} {ty:TypeId} {ps:String} {af:Array Edge} {g:Option (Nat×Bool)}
/-- a row that lies nowhere is empty -/
theorem mU {a:OA} {n sz:Nat} {es:List (List Value)} (hR:g9 C (rd a n sz es).holds) (ha:a=none) (hz:0<sz) (k:es=[]→RJ E ops Q rest D L C):RJ E ops Q rest D L C:=fun act w hf hs=>by
 refine k ?_ act w hf hs
 obtain ⟨F,G,B⟩:=hs.has hR
 rcases Nat.eq_zero_or_pos (n*sz) with h|h
 ·have:n=0:=by
   rcases Nat.mul_eq_zero.1 h with h|h
   ·exact h
   ·omega
  exact kH om
 ·obtain ⟨ad,A,_⟩:=B h
  rw [ha] at A; cases A
theorem MH {A:ay} (i:Nat) (h:C[i]? =some A.ro):g9 C A.holds:=fun w hw=>by
 have B:=hw A.ro (aP h)
 exact B
end
end
section
open Go.RowKit
def im (b:Bool):List Value:=[.bool b]
@[simp] theorem AR (b:Bool):(im b).length=1:=rfl
theorem HR (l:List Bool): ∀ v∈(l.map im).flatten,v.oneCell'=true:=kY (fun s=>rfl) l
end
section
def mF (r:eU) (i:Nat):Prop:= ∀ (j:Nat) x,j<i→r.aI[j]? =some x→ ¬ po x
def nH (x:List aq) (i:Nat):Prop:= ∀ (j:Nat) d,j<i→x[j]? =some d→ ¬ 15<(d.aV.aa.length:Int)
section
variable {r:eU} {i:Nat} {x:List aq} {d:aq}
theorem B7:mF r 0:=fun j x hj=>absurd hj (Nat.not_lt_zero _)
theorem Ce (h:mF r i) (hx:r.aI[i]? =some x) (ho: ¬ po x):mF r (i+1):=fun j y hj hy=>by
 rcases Nat.lt_or_ge j i with q|q
 ·exact h j y q hy
 ·obtain rfl:j=i:=by omega
  rw [hx] at hy; cases hy; exact ho
theorem BD:nH x 0:=fun j x hj=>absurd hj (Nat.not_lt_zero _)
theorem Bk (h:nH x i) (hx:x[i]? =some d) (ho: ¬ 15<(d.aV.aa.length:Int)):nH x (i+1):=fun j y hj hy=>by
 rcases Nat.lt_or_ge j i with q|q
 ·exact h j y q hy
 ·obtain rfl:j=i:=by omega
  rw [hx] at hy; cases hy; exact ho
theorem Ey (hl: ¬ 8<(x.length:Int)) (h:nH x i) (hi:x.length≤i): ¬ po x:=by
 rintro (q|⟨d,hd,q⟩)
 ·exact hl q
 ·obtain ⟨j,hj⟩:=List.getElem?_of_mem hd
  exact h j d (by have:=(aZ.1 hj).1; omega) hj q
theorem Gw (h1: ¬ ly r.au) (h2: ¬ 8<(r.bu.length:Int)∧ ¬ 8<(r.cP.length:Int)∧ ¬ 5<(r.aI.length:Int)) (h:mF r i) (hi:r.aI.length≤i): ¬ jX r:=by
 rintro ((q|q)|⟨x,hx,q⟩)
 ·exact h1 q
 ·omega
 ·obtain ⟨j,hj⟩:=List.getElem?_of_mem hx
  exact h j x (by have:=(aZ.1 hj).1; omega) hj q
theorem qp (h:ly r.au∨8<(r.bu.length:Int)∨8<(r.cP.length:Int)∨5<(r.aI.length:Int)):jX r:= .inl h
theorem Db (hx:r.aI[i]? =some x) (h:8<(x.length:Int)):jX r:= .inr ⟨x,aP hx,.inl h⟩
theorem DL {j:Nat} (hx:r.aI[i]? =some x) (hd:x[j]? =some d) (h:15<(d.aV.aa.length:Int)):jX r:= .inr ⟨x,aP hx,.inr ⟨d,aP hd,h⟩⟩
end
noncomputable def ph (l:bq) (d:aq):ai:=if d.Out=true then h_ else gv l d
theorem Ii {l:bq} {d:aq} (h:js l d):ph l d=gv l d:=by
 unfold ph
 split
 ·rename_i q
  rw [E4 q]
  rw [qU q] at h
  exact h.2.1.symm
 ·rfl
theorem Ad {l:bq} {d:aq} (h:d.Out=true):ph l d=h_:=if_pos h
theorem EY {l:bq} {d:aq} (h:d.Out=false∧d.cD=true):ph l d=d.Time:=by unfold ph; rw [if_neg (by rw [h.1]; decide),FD h]
theorem EW {l:bq} {d:aq} (h:d.Out=false∧d.cD=false):ph l d=B1 l d.aV:=by unfold ph; rw [if_neg (by rw [h.1]; decide),F0 h]
def SZ (r:eU) (j:Nat):Prop:= ∀ x,r.bu[j]? =some x→(0≤x∧x≤9999)∧ ∀ y,0<j→r.bu[j-1]? =some y→y<x
def KS (r:eU) (j:Nat):Prop:= ∀ x,r.cP[j]? =some x→(0≤x∧x≤(r.bu.length:Int)-1)∧ ∀ (k:Nat) y,k<j→r.cP[k]? =some y→y≠x
def yP (r:eU) (i:Nat):Prop:= ∀ j,j<i→SZ r j∧KS r j
section
variable {r:eU} {i k:Nat} {x:Int}
theorem JV:yP r 0:=fun j hj=>absurd hj (Nat.not_lt_zero _)
theorem Cm (h:yP r i) (h1:SZ r i) (h2:KS r i):yP r (i+1):=fun j hj=>by
 rcases Nat.lt_or_ge j i with q|q
 ·exact h j q
 ·obtain rfl:j=i:=by omega
  exact ⟨h1,h2⟩
theorem w8 {l:List Int} {u v:Int} (h: ∀ (q:Nat) y,q<k→l[q]? =some y→y≠v) (hx:l[k]? =some u) (hne: ¬ u=v): ∀ (q:Nat) y,q<k+1→l[q]? =some y→y≠v:=fun q y hq hy=>by
 rcases Nat.lt_or_ge q k with c|c
 ·exact h q y c hy
 ·obtain rfl:q=k:=by omega
  rw [hx] at hy; cases hy; exact hne
theorem I1 (hl:r.cP.length=r.bu.length) (h:yP r r.bu.length):r.cP.Perm (Gn r.bu.length):=by
 have nd:r.cP.Nodup:=by
  rw [List.nodup_iff_pairwise_ne,eZ]
  intro a b ha hb A
  exact ((h b om).2 _ (f_ hb)).2 a _ A (f_ ha)
 have hm: ∀ x∈r.cP,x∈Gn r.bu.length:=fun x hx=>by
  obtain ⟨j,hj⟩:=List.getElem?_of_mem hx
  have:=((h j (by have:=(aZ.1 hj).1; omega)).2 x hj).1
  exact db.2 ⟨x.toNat,List.mem_range.2 om,om⟩
 have ndu:(Gn r.bu.length).Nodup:=by
  unfold Gn
  rw [List.nodup_iff_pairwise_ne,List.pairwise_map]
  exact List.pairwise_lt_range.imp fun h=>by omega
 have e:oc r.cP=(Gn r.bu.length).filter fun x=>decide (x∈r.cP):=by
  refine GL uK ((yA _).filter _) (mG.nodup_iff.2 nd) (ndu.filter _) fun x=>?_
  rw [mG.mem_iff,List.mem_filter,decide_eq_true_eq]
  exact ⟨fun q=>⟨hm x q,q⟩,fun q=>q.2⟩
 have B:=congrArg List.length e
 rw [uj,hl] at B
 have C:(Gn r.bu.length).filter (fun x=>decide (x∈r.cP))=Gn r.bu.length:=List.filter_sublist.eq_of_length (by rw [← B]; simp)
 rw [C] at e
 rw [← e]; exact mG.symm
theorem GB {n:Nat} (h1:1≤(r.bu.length:Int)∧(r.bu.length:Int)≤5) (h2:r.cP.length=r.bu.length) (h3:0≤r.jc∧r.jc≤5) (h4:1≤(r.aI.length:Int)∧(r.aI.length:Int)≤3)
 (hn:n=r.bu.length) (h6:yP r n) (h7:kE r i) (hi:r.aI.length≤i):fQ r:=by
 subst hn
 refine ⟨h1,h3,h4,fun k x hx=>(h6 k (aZ.1 hx).1).1 x hx,I1 h2 h6,fun h hh=>?_⟩
 obtain ⟨j,hj⟩:=List.getElem?_of_mem hh
 exact h7 j h (by have:=(aZ.1 hj).1; omega) hj
theorem fQ.KV (h:fQ r) (hx:r.cP[i]? =some x):0≤x∧x≤(r.bu.length:Int)-1:=by
 obtain ⟨k,hk,rfl⟩:=db.1 (h.draw.mem_iff.1 (aP hx))
 have:=List.mem_range.1 hk
 omega
theorem fQ.Pr (h:fQ r):r.cP.Nodup:=by
 refine h.draw.nodup_iff.2 ?_
 rw [List.nodup_iff_pairwise_ne,List.pairwise_map]
 exact List.pairwise_lt_range.imp fun h=>by omega
theorem fQ.Qp (h:fQ r) {u v:Int} (hki:k<i) (hu:r.cP[k]? =some u) (hv:r.cP[i]? =some v): ¬ u=v:=by
 have A:=h.Pr
 rw [List.nodup_iff_pairwise_ne,eZ] at A
 obtain ⟨a,ea⟩:=aZ.1 hu
 obtain ⟨b,eb⟩:=aZ.1 hv
 subst ea eb
 exact A k i a b hki
end
section
variable {r:eU} {i k n:Nat} {s:ai} {l:bq} {hs:List (List aq)}
end
section
variable {r:eU} {i x:Int} {own s:ai} {k:Nat} {ys zs:List Int}
end
section
variable {B:List Bool} {P Q:Int→Prop} {k x:Nat} {m:CC} {i y a b:Int} {ys:List Int}
end
end
section
open Go.RowKit
theorem pj (n lo hi:Int):
 dF Tryz.prog 155 [(vI n),(vI lo),(vI hi)] [] (vB (decide (lo≤n∧n≤hi))):=by
 refine bG kr Tryz.func155 U U fun D Q hQ hN=>?_
 try dsimp only
 refine WS fun _ B=>bp 1 U<|RK B<|WS fun _ A=>rP 4 [] I ?_
 refine bS (t:=10) U (aN fun C=>?_) (aO fun C=>?_)
 ·refine rP 5 [] I ?_
  refine RK A<|ak<|Q1 hQ U U U ?_
  exact cB (gS.2 om)
 refine rP 5 [] I ?_
 refine RK A<|ak<|Q1 hQ U U U ?_
 exact cB (br om).symm
theorem p7 (s:ai) (lo hi:Int):
 dF Tryz.prog 156 [(vA (ai.cells s)),(vI lo),(vI hi)] [] (vB (decide (s.Lo≤s.Hi∧lo≤s.Lo∧s.Hi≤hi))):=by
 refine bG kr Tryz.func156 U U fun E Q hQ hN=>?_
 try dsimp only
 refine WS fun _ B=>dV U fun D=>bp 1 U<|RK B<|WS fun _ A=>dZ 5 [] (mc 0 U I) U<|rS (CL (pj s.Lo lo s.Hi) (aS) U)<|rP 1 [] I ?_
 refine cx (t:=13) U (aO fun C=>?_) (aN fun C=>?_)
 ·refine rP 6 [] I ?_
  refine RK A<|ak<|Q1 hQ U U U ?_
  exact cB (br om).symm
 refine rP 6 [] (mc 0 U I) ?_
 refine RK A<|ak<|Q1 hQ U U U ?_
 exact cB (gS.2 om)
theorem Nb (t:List aD) (tA:OA) (tC:Nat):
 dF Tryz.prog 100 [(vA (bJ.cells (bJ.mk (bj.mk tA t.length tC))))] [(rd tA t.length 9 (t.map aD.cells))] (vB (decide (20<(t.length:Int)))):=by
 refine bG kr Tryz.func100 U U fun D Q hQ hN=>?_
 try dsimp only
 refine WS fun _ A=>dV U fun C=>bp 1 U<|RK A<|WS fun _ B=>rP 5 [] (mc 0 U I) ?_
 refine RK B<|ak ?_
 exact Q1 hQ U U U U
theorem MR (l:List Int) (lA:OA) (lC:Nat) (f:Value) (p:Int→Bool) (X:ay) (hf: ∀ x0,x0∈l→DE Tryz.prog f [.int .i64 x0] [X] (.bool (p x0))) (hlen:l.length≤1000000):
 dF Tryz.prog 104 [(vS lA l.length lC),f] [(rd lA l.length 1 (l.map iC)),X] (vI (s8 p l)):=by
 refine bG kr Tryz.func104 U U fun R Q hQ hN=>?_
 try dsimp only
 refine WS fun _ G=>bp 1 U<|RK G<|ag fun _ H=>WS fun _ AA=>rP 3 [] I ?_
 refine RK AA<|ax ?_
 have B:(0≤l.length)∧((l.take 0).any p=false):=by simp
 refine bP (ι:={z:Nat // (z≤l.length)∧((l.take z).any p=false)}) [0,1,7] [0,1] U U (fun z=>[(8,(vI (z.1:Int)))]) (fun z=>[]) (fun _=>rfl) (fun _=>rfl) (fun z=>l.length-z.1) ⟨0,B⟩ (bf U) (aK [0,1]) ?_
 clear B
 rintro ⟨i,⟨N,A⟩⟩ J4 F
 try dsimp only
 refine WS fun _ J=>rP 1 [] I ?_
 refine RK J<|ag fun _ K=>bO U (aO fun P=>?_) (aN fun P=>?_)
 ·refine bM<|ab<|ab<|aF<|KK H<|WS fun _ E=>rP 1 [] I ?_
  refine RK E<|ak<|Q1 hQ U U U ?_
  exact cI (pZ om A).symm
 refine WK K<|ag fun _ L=>ax<|WS fun _ M=>bp 2 U<|RK M<|WS fun _ C=>rP 3 [] I ?_
 obtain ⟨x,hx⟩:=aA l i om
 have O:=bH iC hx
 refine rS (IA i U (av 0 U) dI dc om om)<|rS (gD i 0 (vI x) U bU (av 0 U) O U dc U)<|rS (SX (qo U U U (hf x (aP hx)) (aY [1])) U U)<|RK C<|cb U (fun hp=>?_) (fun hp=>?_)
 ·refine WS fun _ D=>rP 2 [] I ?_
  refine RK D<|ak<|Q1 hQ U U U ?_
  exact cI (u6 hx hp A).symm
 refine cg<|aJ<|KK L<|ao<|rP 2 [] I ?_
 refine aC ?_
 refine a_ (F ⟨(i+1),⟨om,u_ hx A hp⟩⟩ _ _ _ U os (bf U) (aK [0,1]))
theorem qj (l:List Int) (lA:OA) (lC:Nat) (f:Value) (p:Int→Bool) (X:ay) (hf: ∀ x0,x0∈l→DE Tryz.prog f [.int .i64 x0] [X] (.bool (p x0))) (hlen:l.length≤1000000):
 dF Tryz.prog 76 [(vS lA l.length lC),f] [(rd lA l.length 1 (l.map iC)),X] (vB (l.any p)):=by
 refine bG kr Tryz.func76 U U fun C Q hQ hN=>?_
 try dsimp only
 refine WS fun _ A=>bp 1 U<|RK A<|WS fun _ B=>bp 2 U<|rS (CL (MR l lA lC f p X (by exact hf) hlen) (aY [0,1]) U)<|rP 2 [] I ?_
 refine RK B<|ak<|Q1 hQ U U U ?_
 exact cB si
theorem Hh (n lo hi:Int) (g1 g2:Nat):
 dF Tryz.prog 163 [(vI n),(vP g1),(vP g2)] [(cy g1 3 [(vI lo)]),(cy g2 3 [(vI hi)])] (vB (decide (n<lo∨hi<n))):=by
 refine bG kr Tryz.func163 U U fun D Q hQ hN=>?_
 try dsimp only
 refine WS fun _ B=>bp 1 U<|RK B<|WS fun _ A=>rP 4 [] (mr 0 U I) ?_
 refine bS (t:=8) U (aN fun C=>?_) (aO fun C=>?_)
 ·refine rP 5 [] I ?_
  refine RK A<|ak<|Q1 hQ U U U ?_
  exact cB (dC om).symm
 refine rP 5 [] (mr 1 U I) ?_
 refine RK A<|ak<|Q1 hQ U U U ?_
 exact cB (gS.2 om)
theorem pf (lo hi:Int) (l:List Int) (lA:OA) (lC:Nat) (hlen:l.length≤1000000):
 dF Tryz.prog 130 [(vI lo),(vI hi),(vS lA l.length lC)] [(rd lA l.length 1 (l.map iC))] (vB (qD lo hi l)):=by
 refine bG kr Tryz.func130 U U fun F Q hQ hN=>?_
 try dsimp only
 refine WS fun _ D=>wP U U fun A=>wP U U fun B=>bp 1 U<|RK D<|WS fun _ E=>rP 1 [] I ?_
 refine rS (FU U) ?_
 refine rS (CL (qj l lA lC (Value.func (.func 163) [].toArray [(vP A),(vP B)].toArray) (fun C=>(decide (C<lo∨hi<C))) (iK [(cy A 3 [(vI lo)]),(cy B 3 [(vI hi)])]) (by intro C _; exact lu (fi:=[]) (ca:=[(vP A),(vP B)]) (j6 (Hh C lo hi A B) (aY [0,1]))) hlen) (eE 2 U U<|aw (j1 (aY [1,0]))<|aS) U) ?_
 refine rP 2 [] I ?_
 refine RK E<|ak ?_
 exact Q1 hQ U U U U
theorem wU (s:ai) (lo hi:Int):
 dF Tryz.prog 131 [(vA (ai.cells s)),(vI lo),(vI hi)] [] (vB (decide (s.Lo≤s.Hi∧lo≤s.Lo∧s.Hi≤hi))):=by
 refine bG kr Tryz.func131 U U fun F Q hQ hN=>?_
 try dsimp only
 refine WS fun _ B=>dV U fun E=>bp 1 U<|RK B<|WS fun _ A=>rP 6 [] (mc 0 U I) ?_
 refine e_ (xs:=[.tmp 10,.tmp 12]) (cs:=[(vI s.Lo),(vI s.Hi)]) U dI kS U U U U (by simp [Value.cells]) U U fun C=>?_
 refine rS (CL (dF.eq (pf lo hi ([s.Lo,s.Hi]) (some ⟨C,0,none⟩) 2 (by (simp; done))) pL) (aw (bo 0 U U (by simp [bX]) U)<|aS) U) ?_
 refine rP 1 [] I ?_
 refine cx (t:=15) U (aO fun D=>?_) (aN fun D=>?_)
 ·refine rP 7 [] I ?_
  refine RK A<|ak<|Q1 hQ U U U ?_
  exact cB (br om).symm
 refine rP 7 [] (mc 1 U I) ?_
 refine RK A<|ak<|Q1 hQ U U U ?_
 exact cB (gS.2 om)
theorem wW (ts:List aD) (tsA:OA) (tsC:Nat) (hlen:ts.length≤1000000):
 dF Tryz.prog 126 [(vA (bJ.cells (bJ.mk (bj.mk tsA ts.length tsC))))] [(rd tsA ts.length 9 (ts.map aD.cells))] (vB (dB ts)):=by
 refine bG kr Tryz.func126 U U fun w0 Q hQ hN=>?_
 try dsimp only
 refine WS fun _ C1=>dV U fun b2=>bp 1 U<|RK C1<|ag fun _ C2=>WS fun _ C3=>dZ 3 [] (mc 0 U I) U<|rS (CL (pj (ts.length:Int) 1 12) (aS) U)<|rP 1 [] I ?_
 refine RK C3<|cb U (aX fun h5=>?_) (aW fun h5=>?_)
 ·refine WS fun _ Di=>rP 1 [] I ?_
  refine RK Di<|ak<|Q1 hQ U U U ?_
  exact cB (oV om).symm
 refine WK C2<|ag fun _ Do=>WS fun _ EQ=>rP 1 [] I ?_
 refine RK EQ<|ax ?_
 have E:(0≤ts.length)∧(fg (-1) ts=fg (gP ts 0) (ts.drop 0))∧(-1≤gP ts 0):=by (refine ⟨om,rfl,by simp [gP]⟩)
 refine bP (ι:={z:Nat // (z≤ts.length)∧(fg (-1) ts=fg (gP ts z) (ts.drop z))∧(-1≤gP ts z)}) [1] [0,1] U U (fun z=>[(3,(vI (z.1:Int)))]) (fun z=>[]) (fun _=>rfl) (fun _=>rfl) (fun z=>ts.length-z.1) ⟨0,E⟩ (bf U) (aK [0,1]) ?_
 clear E
 rintro ⟨i,⟨EZ,A,Eq⟩⟩ J9 D
 try dsimp only
 have hz:i=0→gP ts i= -1:=Dj
 refine ag fun _ K=>WS fun _ L=>rP 5 [] (mc 0 U I) ?_
 refine RK L<|bO U (aO fun v=>?_) (aN fun v=>?_)
 ·refine bM<|ab<|ab<|aF<|KK Do<|WS fun _ u=>rP 1 [] I ?_
  refine RK u<|ak<|Q1 hQ U U U ?_
  exact cB (wk A om om).symm
 refine WK K<|ag fun _ C=>ax<|WS fun _ M=>rP 3 [] (mc 0 U I) ?_
 obtain ⟨x,hx⟩:=aA ts i om
 have FS:=bH aD.cells hx
 refine rS (IA i U (av 1 U) wL dc om om)<|rS (jK i 0 (aD.cells x) U bU (av 1 U) FS U dc U U)<|AL U KT fun Fn=>e7 U H2 U<|RK M<|ag fun _ F=>ag fun _ B=>cS cj 38 kr<|kp 2 [] (mc 0 U I) U<|dS (CL (pj x.Id 0 9999) (aS) U)<|dP 2 [] I ?_
 refine ic (t:=26) U (aX fun w=>?_) (aW fun w=>?_)
 ·refine kK 11 U<|kK 22 U<|cu<|RK B<|aL U<|WS fun _ N=>rP 1 [] I ?_
  refine RK N<|ak<|Q1 hQ U U U ?_
  exact cB (eh A hx (by simp only [bY,eu]; omega)).symm
 refine dP 3 [] I ?_
 refine jl (t:=29) U (aO fun AC=>?_) (aN fun AC=>?_)
 ·refine kK 8 U<|kK 6 U<|dS (LP (ai.cells x.jT) 0 U bU U U U)<|dS (CL (p7 x.jT 1 30000) (aS) U)<|dP 3 [] I ?_
  refine ic (t:=48) U (aX fun A8=>?_) (aW fun A8=>?_)
  ·refine kK 11 U<|cu<|RK B<|aL U<|WS fun _ e=>rP 1 [] I ?_
   refine RK e<|ak<|Q1 hQ U U U ?_
   exact cB (eh A hx (by simp only [bY,eu]; omega)).symm
  refine kK 1 U<|dS (LP (ai.cells x.kN) 0 U bU U U U)<|dS (CL (p7 x.kN 0 5000) (aS) U)<|dP 3 [] I ?_
  refine ic (t:=54) U (aX fun A9=>?_) (aW fun A9=>?_)
  ·refine kK 5 U<|cu<|RK B<|aL U<|WS fun _ f=>rP 1 [] I ?_
   refine RK f<|ak<|Q1 hQ U U U ?_
   exact cB (eh A hx (by simp only [bY,eu]; omega)).symm
  refine kp 2 [] (mc 0 U I) U<|dS (CL (pj x.xH 0 5000) (aS) U)<|dP 2 [] I ?_
  refine cu<|RK B<|cb U (aX fun Be=>?_) (aW fun Be=>?_)
  ·refine WS fun _ g=>rP 1 [] I ?_
   refine RK g<|ak<|Q1 hQ U U U ?_
   exact cB (eh A hx (by simp only [bY,eu]; omega)).symm
  refine WK F<|WS fun _ h=>dZ 2 [] (mc 0 U I) U<|RK h<|ax<|WS fun _ j=>rS (BI U kf)<|rP 1 [] I ?_
  refine RK j<|cb U (aN fun Bt=>?_) (aO fun Bt=>?_)
  ·refine WS fun _ AB=>rP 5 [] (mc 0 U I) ?_
   refine bS (t:=68) U (aX fun B3=>?_) (aW fun B3=>?_)
   ·refine bp 5 U<|RK AB<|aL U<|WS fun _ k=>rP 1 [] I ?_
    refine RK k<|ak<|Q1 hQ U U U ?_
    exact cB (eh A hx (by simp only [bY,eu]; omega)).symm
   refine rP 5 [] (mc 0 U I) ?_
   refine RK AB<|bO U (aW fun B9=>?_) (aX fun B9=>?_)
   ·refine cg<|aJ<|aJ<|KK C<|ao<|rP 3 [] I ?_
    refine aC ?_
    refine a_ (D ⟨(i+1),⟨om,iq A hx (by simp only [bY,eu]; omega),by rw [gM hx]; omega⟩⟩ _ _ _ U os (bf U) (aK [1,2]))
   refine WS fun _ l=>rP 1 [] I ?_
   refine RK l<|ak<|Q1 hQ U U U ?_
   exact cB (eh A hx (by simp only [bY,eu]; omega)).symm
  refine ag fun _ J=>WS fun _ m=>rS (BI U kf)<|rP 1 [] I ?_
  refine RK m<|cb U (aN fun Ci=>?_) (aO fun Ci=>?_)
  ·refine WK J<|bO U (aO fun Ck=>?_) (aN fun Ck=>?_)
   ·refine WS fun _ p=>rP 1 [] I ?_
    refine RK p<|ak<|Q1 hQ U U U ?_
    exact cB (oV om).symm
   refine WS fun _ n=>bp 1 U<|rS (LP (ai.cells x.ei) 0 U bU U U U)<|rS (CL (p7 x.ei 500 20000) (aS) U)<|rP 1 [] I ?_
   refine RK n<|bO U (aW fun Cp=>?_) (aX fun Cp=>?_)
   ·refine cg<|aJ<|aJ<|KK C<|ao<|rP 3 [] I ?_
    refine aC ?_
    refine a_ (D ⟨(i+1),⟨om,iq A hx (by simp only [bY,eu]; omega),by rw [gM hx]; omega⟩⟩ _ _ _ U os (bf U) (aK [1,2]))
   refine WS fun _ o=>rP 1 [] I ?_
   refine RK o<|ak<|Q1 hQ U U U ?_
   exact cB (eh A hx (by simp only [bY,eu]; omega)).symm
  refine ao<|rS (BI U kf)<|rP 1 [] I ?_
  refine RK J<|bO U (aO fun Cx=>?_) (aN fun Cx=>?_)
  ·refine WS fun _ s=>rP 1 [] I ?_
   refine RK s<|ak<|Q1 hQ U U U ?_
   exact cB (eh A hx (by simp only [bY,eu]; omega)).symm
  refine WS fun _ q=>bp 1 U<|rS (LP (ai.cells x.ei) 0 U bU U U U)<|rS (CL (p7 x.ei 500 20000) (aS) U)<|rP 1 [] I ?_
  refine RK q<|bO U (aW fun C0=>?_) (aX fun C0=>?_)
  ·refine cg<|aJ<|aJ<|KK C<|ao<|rP 3 [] I ?_
   refine aC ?_
   refine a_ (D ⟨(i+1),⟨om,iq A hx (by simp only [bY,eu]; omega),by rw [gM hx]; omega⟩⟩ _ _ _ U os (bf U) (aK [1,2]))
  refine WS fun _ r=>rP 1 [] I ?_
  refine RK r<|ak<|Q1 hQ U U U ?_
  exact cB (eh A hx (by simp only [bY,eu]; omega)).symm
 refine dP 6 [0,1] (mc 0 U (mc 1 U I)) ?_
 obtain ⟨y,hy⟩:=aA ts (i-1) om
 have Fd:=bH aD.cells hy
 refine dS (IA (i-1) U (av 2 U) wL dc om om)<|dS (nX ((i-1)*9) U (av 2 U) (Nat.mul_pos om dc) eC U) ?_
 have GT:=DS om hy
 refine dS (gD (i-1) 0 (vI y.Id) U bU (av 2 U) Fd U dc U)<|dP 4 [] I ?_
 refine ic (t:=42) U (aN fun AM=>?_) (aO fun AM=>?_)
 ·refine kK 17 U<|cu<|RK B<|aL U<|WS fun _ O=>rP 1 [] I ?_
  refine RK O<|ak<|Q1 hQ U U U ?_
  exact cB (eh A hx (by simp only [bY,eu]; omega)).symm
 refine kK 1 U<|dS (LP (ai.cells x.jT) 0 U bU U U U)<|dS (CL (p7 x.jT 1 30000) (aS) U)<|dP 3 [] I ?_
 refine ic (t:=48) U (aX fun AO=>?_) (aW fun AO=>?_)
 ·refine kK 11 U<|cu<|RK B<|aL U<|WS fun _ P=>rP 1 [] I ?_
  refine RK P<|ak<|Q1 hQ U U U ?_
  exact cB (eh A hx (by simp only [bY,eu]; omega)).symm
 refine kK 1 U<|dS (LP (ai.cells x.kN) 0 U bU U U U)<|dS (CL (p7 x.kN 0 5000) (aS) U)<|dP 3 [] I ?_
 refine ic (t:=54) U (aX fun Ac=>?_) (aW fun Ac=>?_)
 ·refine kK 5 U<|cu<|RK B<|aL U<|WS fun _ R=>rP 1 [] I ?_
  refine RK R<|ak<|Q1 hQ U U U ?_
  exact cB (eh A hx (by simp only [bY,eu]; omega)).symm
 refine kp 2 [] (mc 0 U I) U<|dS (CL (pj x.xH 0 5000) (aS) U)<|dP 2 [] I ?_
 refine cu<|RK B<|cb U (aX fun As=>?_) (aW fun As=>?_)
 ·refine WS fun _ S=>rP 1 [] I ?_
  refine RK S<|ak<|Q1 hQ U U U ?_
  exact cB (eh A hx (by simp only [bY,eu]; omega)).symm
 refine WK F<|WS fun _ T=>dZ 2 [] (mc 0 U I) U<|RK T<|ax<|WS fun _ AA=>rS (BI U kf)<|rP 1 [] I ?_
 refine RK AA<|cb U (aN fun A0=>?_) (aO fun A0=>?_)
 ·refine WS fun _ G=>rP 5 [] (mc 0 U I) ?_
  refine bS (t:=68) U (aX fun A1=>?_) (aW fun A1=>?_)
  ·refine bp 5 U<|RK G<|aL U<|WS fun _ V=>rP 1 [] I ?_
   refine RK V<|ak<|Q1 hQ U U U ?_
   exact cB (eh A hx (by simp only [bY,eu]; omega)).symm
  refine rP 5 [] (mc 0 U I) ?_
  refine RK G<|bO U (aW fun A2=>?_) (aX fun A2=>?_)
  ·refine cg<|aJ<|aJ<|KK C<|ao<|rP 3 [] I ?_
   refine aC ?_
   refine a_ (D ⟨(i+1),⟨om,iq A hx (by simp only [bY,eu]; omega),by rw [gM hx]; omega⟩⟩ _ _ _ U os (bf U) (aK [1,2]))
  refine WS fun _ W=>rP 1 [] I ?_
  refine RK W<|ak<|Q1 hQ U U U ?_
  exact cB (eh A hx (by simp only [bY,eu]; omega)).symm
 refine ag fun _ H=>WS fun _ X=>rS (BI U kf)<|rP 1 [] I ?_
 refine RK X<|cb U (aN fun A3=>?_) (aO fun A3=>?_)
 ·refine WK H<|bO U (aO fun A4=>?_) (aN fun A4=>?_)
  ·refine WS fun _ a=>rP 1 [] I ?_
   refine RK a<|ak<|Q1 hQ U U U ?_
   exact cB (oV om).symm
  refine WS fun _ Y=>bp 1 U<|rS (LP (ai.cells x.ei) 0 U bU U U U)<|rS (CL (p7 x.ei 500 20000) (aS) U)<|rP 1 [] I ?_
  refine RK Y<|bO U (aW fun A5=>?_) (aX fun A5=>?_)
  ·refine cg<|aJ<|aJ<|KK C<|ao<|rP 3 [] I ?_
   refine aC ?_
   refine a_ (D ⟨(i+1),⟨om,iq A hx (by simp only [bY,eu]; omega),by rw [gM hx]; omega⟩⟩ _ _ _ U os (bf U) (aK [1,2]))
  refine WS fun _ Z=>rP 1 [] I ?_
  refine RK Z<|ak<|Q1 hQ U U U ?_
  exact cB (eh A hx (by simp only [bY,eu]; omega)).symm
 refine ao<|rS (BI U kf)<|rP 1 [] I ?_
 refine RK H<|bO U (aO fun A6=>?_) (aN fun A6=>?_)
 ·refine WS fun _ d=>rP 1 [] I ?_
  refine RK d<|ak<|Q1 hQ U U U ?_
  exact cB (eh A hx (by simp only [bY,eu]; omega)).symm
 refine WS fun _ b=>bp 1 U<|rS (LP (ai.cells x.ei) 0 U bU U U U)<|rS (CL (p7 x.ei 500 20000) (aS) U)<|rP 1 [] I ?_
 refine RK b<|bO U (aW fun A7=>?_) (aX fun A7=>?_)
 ·refine cg<|aJ<|aJ<|KK C<|ao<|rP 3 [] I ?_
  refine aC ?_
  refine a_ (D ⟨(i+1),⟨om,iq A hx (by simp only [bY,eu]; omega),by rw [gM hx]; omega⟩⟩ _ _ _ U os (bf U) (aK [1,2]))
 refine WS fun _ c=>rP 1 [] I ?_
 refine RK c<|ak<|Q1 hQ U U U ?_
 exact cB (eh A hx (by simp only [bY,eu]; omega)).symm
theorem C_ (ts:List aD) (tsA:OA) (tsC:Nat) (hlen:ts.length≤1000000) (hside: ∀ x∈ts,0≤x.ja∧x.ja≤255):
 dF Tryz.prog 107 [(vA (bJ.cells (bJ.mk (bj.mk tsA ts.length tsC))))] [(rd tsA ts.length 9 (ts.map aD.cells))] (vI (if dB ts=true then 0 else 10)):=by
 refine bG kr Tryz.func107 U U fun w0 Q hQ hN=>?_
 try dsimp only
 refine WS fun _ v=>dV U fun b2=>bp 1 U<|RK v<|Al U<|ag fun _ w=>WS fun _ y=>rP 3 [] (mc 0 U I) ?_
 refine e_ (xs:=[.tmp 11]) (cs:=[(vI (ts.length:Int))]) U dI kS U U U U (by simp [Value.cells]) U U fun b5=>?_
 refine rS (CL (dF.eq (pf 1 12 ([(ts.length:Int)]) (some ⟨b5,0,none⟩) 1 (by (simp; done))) cK) (aw (bo 0 U U (by simp [bX]) U)<|aS) U) ?_
 refine rP 1 [] I ?_
 refine RK y<|cb U (aX fun h6=>?_) (aW fun h6=>?_)
 ·refine WS fun _ AC=>rP 1 [] I ?_
  refine RK AC<|ak<|Q1 hQ U U U ?_
  exact cI (if_neg (by rw [oV om]; decide)).symm
 refine WK w<|WS fun _ AM=>bp 1 U<|RK AM<|WS fun _ AO=>bp 1 U<|RK AO<|ag fun _ J=>Ae<|KK J<|ag fun _ B=>WS fun _ K=>rP 4 [] (mc 1 U I) ?_
 refine RK K<|ax ?_
 have D:(0≤ts.length)∧(fg (-1) ts=fg (gP ts 0) (ts.drop 0))∧(-1≤gP ts 0)∧(gP ts 0≤9999):=by (refine ⟨om,rfl,by simp [gP],by simp [gP]⟩)
 refine bP (ι:={z:Nat // (z≤ts.length)∧(fg (-1) ts=fg (gP ts z) (ts.drop z))∧(-1≤gP ts z)∧(gP ts z≤9999)}) [1,4,16,17] [1,2] U U (fun z=>[(3,(vI (gP ts z.1))),(18,(vI (z.1:Int)))]) (fun z=>[]) (fun _=>rfl) (fun _=>rfl) (fun z=>ts.length-z.1) ⟨0,D⟩ (bf U) (aK [1,2]) ?_
 clear D
 rintro ⟨i,⟨Ac,A,As,A0⟩⟩ J13 E
 try dsimp only
 refine WS fun _ L=>rP 1 [] I ?_
 refine RK L<|ag fun _ M=>bO U (aO fun k=>?_) (aN fun k=>?_)
 ·refine bM<|ab<|ab<|aF<|KK B<|WS fun _ O=>rP 2 [] I ?_
  refine RK O<|ak<|Q1 hQ U U U ?_
  exact cI (if_pos (wk A om om)).symm
 refine WK M<|ag fun _ F=>ax<|WS fun _ N=>?_
 obtain ⟨x,hx⟩:=aA ts i om
 have A1:=bH aD.cells hx
 refine rS (IA i U (av 1 U) wL dc om om) ?_
 have A5:=hside x (aP hx)
 refine rS (jK i 0 (aD.cells x) U bU (av 1 U) A1 U dc U U)<|AL U KT fun A2=>e7 U H2 U<|RK N ?_
 refine oF (ι:=Unit) [1,3,4,6,16,17,18] [0,1,2] U U (fun z=>[(7,(vB (decide (x.ja=0∧x.ei.Lo=0∧x.ei.Hi=0))))]) (fun z=>[]) (fun _=>rfl) (fun _=>rfl) ?_ fun K20 G=>?_
 ·intro _
  try dsimp only
  refine oF (ι:=Unit) [1,3,4,6,7,16,17,18] [0,1,2] U U (fun z=>[(8,(vB (decide ((1≤x.ja∧x.ja≤2)∧x.ei.Lo≤x.ei.Hi∧500≤x.ei.Lo∧x.ei.Hi≤20000))))]) (fun z=>[]) (fun _=>rfl) (fun _=>rfl) ?_ fun K21 H=>?_
  ·intro _
   try dsimp only
   refine ag fun _ AB=>WS fun _ C=>rP 4 [] (mc 0 U I) ?_
   refine e_ (xs:=[.tmp 44]) (cs:=[(vI x.Id)]) U dI kS U U U U (by simp [Value.cells]) U U fun h=>?_
   refine rS (CL (dF.eq (pf ((gP ts i)+1) 9999 ([x.Id]) (some ⟨h,0,none⟩) 1 (by (simp; done))) cK) (aw (bo 0 U U (by simp [bX]) U)<|aS) U) ?_
   refine rP 2 [] I ?_
   refine bS (t:=48) U (aX fun o=>?_) (aW fun o=>?_)
   ·refine bp 26 U<|RK C<|aL U<|WS fun _ P=>bp 1 U<|RK P<|bM<|ab<|fF U<|ab<|ab<|aF<|KK B<|WS fun _ R=>rP 2 [] I ?_
    refine RK R<|ak<|Q1 hQ U U U ?_
    exact cI (if_neg (by rw [eh A hx (by simp only [bY,eu]; omega)]; decide)).symm
   refine bp 1 U<|rS (LP (ai.cells x.jT) 1 U bU U U U)<|rS (CL (wU x.jT 1 30000) (aS) U)<|rP 3 [] I ?_
   refine bS (t:=54) U (aX fun p=>?_) (aW fun p=>?_)
   ·refine bp 20 U<|RK C<|aL U<|WS fun _ S=>bp 1 U<|RK S<|bM<|ab<|fF U<|ab<|ab<|aF<|KK B<|WS fun _ T=>rP 2 [] I ?_
    refine RK T<|ak<|Q1 hQ U U U ?_
    exact cI (if_neg (by rw [eh A hx (by simp only [bY,eu]; omega)]; decide)).symm
   refine bp 1 U<|rS (LP (ai.cells x.kN) 1 U bU U U U)<|rS (CL (wU x.kN 0 5000) (aS) U)<|rP 3 [] I ?_
   refine bS (t:=60) U (aX fun q=>?_) (aW fun q=>?_)
   ·refine bp 14 U<|RK C<|aL U<|WS fun _ AA=>bp 1 U<|RK AA<|bM<|ab<|fF U<|ab<|ab<|aF<|KK B<|WS fun _ V=>rP 2 [] I ?_
    refine RK V<|ak<|Q1 hQ U U U ?_
    exact cI (if_neg (by rw [eh A hx (by simp only [bY,eu]; omega)]; decide)).symm
   refine rP 2 [] (mc 1 U I) ?_
   refine e_ (xs:=[.tmp 62]) (cs:=[(vI x.xH)]) U dI kS U U U U (by simp [Value.cells]) U U fun j=>?_
   refine rS (CL (dF.eq (pf 0 5000 ([x.xH]) (some ⟨j,0,none⟩) 1 (by (simp; done))) cK) (aw (bo 0 U U (by simp [bX]) U)<|aS) U) ?_
   refine rP 3 [] I ?_
   refine bS (t:=67) U (aX fun r=>?_) (aW fun r=>?_)
   ·refine bp 7 U<|RK C<|aL U<|WS fun _ W=>bp 1 U<|RK W<|bM<|ab<|fF U<|ab<|ab<|aF<|KK B<|WS fun _ X=>rP 2 [] I ?_
    refine RK X<|ak<|Q1 hQ U U U ?_
    exact cI (if_neg (by rw [eh A hx (by simp only [bY,eu]; omega)]; decide)).symm
   refine rP 3 [] I ?_
   refine cx (t:=70) U (aW fun s=>?_) (aX fun s=>?_)
   ·refine bp 4 U<|RK C<|bT U<|WK AB<|ao<|dZ 3 [] (mc 2 U I) U<|aC<|aJ<|KK F<|ao<|rP 2 [] I ?_
    refine aC ?_
    have f:(vI (gP ts (i+1)))=(vI x.Id):=by rw [gM hx]
    refine a_ (E ⟨(i+1),⟨om,iq A hx (by simp only [bY,eu]; omega),by rw [gM hx]; omega,by rw [gM hx]; omega⟩⟩ _ _ _ U os (cz 4<|aU U f<|bf U) (aK [3,4]))
   refine rP 4 [] I ?_
   refine RK C<|bO U (aW fun u=>?_) (aX fun u=>?_)
   ·refine WK AB<|ao<|dZ 3 [] (mc 2 U I) U<|aC<|aJ<|KK F<|ao<|rP 2 [] I ?_
    refine aC ?_
    have e:(vI (gP ts (i+1)))=(vI x.Id):=by rw [gM hx]
    refine a_ (E ⟨(i+1),⟨om,iq A hx (by simp only [bY,eu]; omega),by rw [gM hx]; omega,by rw [gM hx]; omega⟩⟩ _ _ _ U os (cz 4<|aU U e<|bf U) (aK [3,4]))
   refine WS fun _ Y=>bp 1 U<|RK Y<|bM<|ab<|fF U<|ab<|ab<|aF<|KK B<|WS fun _ Z=>rP 2 [] I ?_
   refine RK Z<|ak<|Q1 hQ U U U ?_
   exact cI (if_neg (by rw [eh A hx (by simp only [bY,eu]; omega)]; decide)).symm
  refine ao<|rP 2 [] (mc 0 U I) ?_
  refine rS (SX (sw (m:=x.ja) U U Oa ox (oH (by first|assumption|omega))) U U)<|e_ (xs:=[.tmp 33]) (cs:=[(vI x.ja)]) U dI kS U U U U (by simp [Value.cells]) U U fun g=>?_
  refine rS (CL (dF.eq (pf 1 2 ([x.ja]) (some ⟨g,0,none⟩) 1 (by (simp; done))) cK) (aw (bo 0 U U (by simp [bX]) U)<|aS) U) ?_
  refine rP 1 [] I ?_
  refine cx (t:=36) U (aO fun n=>?_) (aN fun n=>?_)
  ·refine rP 5 [] I ?_
   refine aC ?_
   have d:(decide ((1≤x.ja∧x.ja≤2)∧x.ei.Lo≤x.ei.Hi∧500≤x.ei.Lo∧x.ei.Hi≤20000))=false:=br om
   refine a_ (j7 (cz 8<|od U d<|cR.nil _) (aK [1,2,3]) (H ()))
  refine bp 1 U<|rS (LP (ai.cells x.ei) 1 U bU U U U)<|rS (CL (wU x.ei 500 20000) (aS) U)<|rP 2 [] I ?_
  refine aC ?_
  have c:(decide ((1≤x.ja∧x.ja≤2)∧x.ei.Lo≤x.ei.Hi∧500≤x.ei.Lo∧x.ei.Hi≤20000))=(decide (x.ei.Lo≤x.ei.Hi∧500≤x.ei.Lo∧x.ei.Hi≤20000)):=gS.2 om
  refine a_ (j7 (cz 8<|od U c<|cR.nil _) (aK [1,2,3]) (H ()))
 refine ao<|dZ 2 [] (mc 0 U I) U<|rS (BI U kf)<|rP 1 [] I ?_
 refine cx (t:=25) U (aO fun l=>?_) (aN fun l=>?_)
 ·refine rP 6 [] I ?_
  refine aC ?_
  have b:(decide (x.ja=0∧x.ei.Lo=0∧x.ei.Hi=0))=false:=br om
  refine a_ (j7 (cz 7<|od U b<|cR.nil _) (aK [0,1,2]) (G ()))
 refine bp 1 U<|rS (LP (ai.cells x.ei) 0 U bU U U U)<|rS (SX (bD (xs:=[]) (cs:=(ai.cells (ai.mk 0 0))) U U (bE g6 U)) U U)<|rS (BI U (wF _ _ x.ei (ai.mk 0 0)))<|rP 2 [] I ?_
 refine aC ?_
 have a:(decide (x.ja=0∧x.ei.Lo=0∧x.ei.Hi=0))=(decide (x.ei=(ai.mk 0 0))):=gS.2 (by (simp only [ai.ext_iff] at *; omega))
 refine a_ (j7 (cz 7<|od U a<|cR.nil _) (aK [0,1,2]) (G ()))
theorem PS (ts:List aD) (tsA:OA) (tsC:Nat) (hlen:ts.length≤1000000):
 lO Tryz.prog 101 [(vA (bJ.cells (bJ.mk (bj.mk tsA ts.length tsC))))] [(rd tsA ts.length 9 (ts.map aD.cells))] (fun (x:(OA)×Nat)=>(vA (bJ.cells (bJ.mk (bj.mk x.1 ts.length x.2))))) (fun (x:(OA)×Nat)=>True) (fun (x:(OA)×Nat)=>[(own x.1 x.2 128 9 (ts.map aD.cells))]):=by
 refine dK kr Tryz.func101 U U fun H Q hQ hN=>?_
 try dsimp only
 refine WS fun _ A=>dV U fun F=>AL U Us fun G=>RK A<|WS fun _ B=>lE U wL U fun E=>rP 2 [] (mc 2 U I) ?_
 refine fy (es:=(List.map aD.cells [])) (C':=[own (some ⟨E,0,none⟩) 0 128 9 (List.map aD.cells []),_,_,_]) 0 U sm U (by simp [maxLen]) U ?_
 refine cN (es2:=(List.map aD.cells ts)) (m':=ts.length) 0 U U U QR U U sm (av 3 U) (nR _) os (by (simp only [maxLen]; omega)) sm sm U fun C D=>?_
 try dsimp only
 refine rS (SX (bD (xs:=[(0,.tmp 6)]) (cs:=(bJ.cells (bJ.mk (bj.mk C ts.length D)))) U U (bE Vj U)) U U)<|pV U SV U<|RK B<|ak<|LX hQ (C,D) [0] [0] (mc 1 U I) U U U U ?_
 trivial
theorem Ql (la:List aD) (laA:OA) (laC:Nat) (lb:List aD) (lbA:OA) (lbC:Nat) (h1:la.length≤1000000) (h2:lb.length≤1000000):
 dF Tryz.prog 87 [(vA (bJ.cells (bJ.mk (bj.mk laA la.length laC)))),(vA (bJ.cells (bJ.mk (bj.mk lbA lb.length lbC))))] [(rd laA la.length 9 (la.map aD.cells)),(rd lbA lb.length 9 (lb.map aD.cells))] (vB (decide (la=lb))):=by
 refine bG kr Tryz.func87 U U fun X Q hQ hN=>?_
 try dsimp only
 refine WS fun _ L=>dV U fun V=>dV U fun W=>bp 1 U<|RK L<|ag fun _ M=>WS fun _ N=>rP 7 [0,1] (mc 1 U (mc 0 U I)) ?_
 refine RK N<|cb U (aX fun hl=>?_) (aW fun hl=>?_)
 ·refine WS fun _ O=>rP 1 [] I ?_
  refine RK O<|ak<|Q1 hQ U U U ?_
  exact cB (br (fun e=>by subst e; omega)).symm
 refine WK M<|ag fun _ P=>WS fun _ R=>rP 1 [] I ?_
 refine RK R<|ax ?_
 have A:(0≤la.length)∧(la.take 0=lb.take 0):=by simp
 refine bP (ι:={z:Nat // (z≤la.length)∧(la.take z=lb.take z)}) [2,3] [0,1,2,3] U U (fun z=>[(5,(vI (z.1:Int)))]) (fun z=>[]) (fun _=>rfl) (fun _=>rfl) (fun z=>la.length-z.1) ⟨0,A⟩ (bf U) (aK [0,1,2,3]) ?_
 clear A
 rintro ⟨i,⟨S,B⟩⟩ J9 K
 try dsimp only
 refine ag fun _ C=>WS fun _ D=>rP 5 [] (mc 1 U I) ?_
 refine RK D<|bO U (aO fun J=>?_) (aN fun J=>?_)
 ·refine bM<|ab<|ab<|aF<|KK P<|WS fun _ H=>rP 1 [] I ?_
  refine RK H<|ak<|Q1 hQ U U U ?_
  exact cB (dC (jA om B om)).symm
 refine WK C<|ag fun _ E=>ax<|ag fun _ F=>cS cj 11 kr<|dP 3 [] (mc 1 U I) ?_
 obtain ⟨x,hx⟩:=aA la i om
 have T:=bH aD.cells hx
 refine dS (IA i U (av 2 U) wL dc om om)<|dS (jK i 0 (aD.cells x) U bU (av 2 U) T U dc U U)<|dP 3 [] (mc 0 U I) ?_
 obtain ⟨y,hy⟩:=aA lb i om
 have AA:=bH aD.cells hy
 refine dS (IA i U (av 3 U) wL dc om om)<|dS (jK i 0 (aD.cells y) U bU (av 3 U) AA U dc U U)<|dS (BI U (Qw _ _ x y))<|cu<|RK F<|cb U (aX fun h=>?_) (aW fun h=>?_)
 ·refine WS fun _ G=>rP 1 [] I ?_
  refine RK G<|ak<|Q1 hQ U U U ?_
  exact cB (br (n8 hx hy h)).symm
 refine cg<|aJ<|KK E<|ao<|rP 3 [] I ?_
 refine aC ?_
 have AB:(vI (((i+1):Nat):Int))=(vI ((i:Int)+1)):=by exact cI om
 refine a_ (K ⟨(i+1),⟨om,iA B hx hy h⟩⟩ _ _ _ U os (cR.cons U<|cR.cons U<|aU U AB<|cR.nil _) (aK [0,1,2,3]))
theorem Es (la:List Int) (laA:OA) (laC:Nat) (lb:List Int) (lbA:OA) (lbC:Nat) (h1:la.length≤1000000) (h2:lb.length≤1000000):
 dF Tryz.prog 12 [(vS laA la.length laC),(vS lbA lb.length lbC)] [(rd laA la.length 1 (la.map iC)),(rd lbA lb.length 1 (lb.map iC))] (vB (decide (la=lb))):=by
 refine bG kr Tryz.func12 U U fun V Q hQ hN=>?_
 try dsimp only
 refine WS fun _ J=>bp 1 U<|RK J<|ag fun _ K=>WS fun _ L=>rP 5 [] I ?_
 refine RK L<|cb U (aX fun hl=>?_) (aW fun hl=>?_)
 ·refine WS fun _ M=>rP 1 [] I ?_
  refine RK M<|ak<|Q1 hQ U U U ?_
  exact cB (br (fun e=>by subst e; omega)).symm
 refine WK K<|ag fun _ N=>WS fun _ O=>rP 1 [] I ?_
 refine RK O<|ax ?_
 have A:(0≤la.length)∧(la.take 0=lb.take 0):=by simp
 refine bP (ι:={z:Nat // (z≤la.length)∧(la.take z=lb.take z)}) [0,1] [0,1] U U (fun z=>[(5,(vI (z.1:Int)))]) (fun z=>[]) (fun _=>rfl) (fun _=>rfl) (fun z=>la.length-z.1) ⟨0,A⟩ (bf U) (aK [0,1]) ?_
 clear A
 rintro ⟨i,⟨S,B⟩⟩ J7 AB
 try dsimp only
 refine ag fun _ P=>WS fun _ R=>rP 4 [] I ?_
 refine RK R<|bO U (aO fun H=>?_) (aN fun H=>?_)
 ·refine bM<|ab<|ab<|aF<|KK N<|WS fun _ F=>rP 1 [] I ?_
  refine RK F<|ak<|Q1 hQ U U U ?_
  exact cB (dC (jA om B om)).symm
 refine WK P<|ag fun _ C=>ax<|ag fun _ D=>cS cj 9 kr<|dP 2 [] I ?_
 obtain ⟨x,hx⟩:=aA la i om
 have T:=bH iC hx
 refine dS (IA i U (av 0 U) dI dc om om)<|dS (gD i 0 (vI x) U bU (av 0 U) T U dc U)<|dP 2 [] I ?_
 obtain ⟨y,hy⟩:=aA lb i om
 have AA:=bH iC hy
 refine dS (IA i U (av 1 U) dI dc om om)<|dS (gD i 0 (vI y) U bU (av 1 U) AA U dc U)<|dP 1 [] I ?_
 refine cu<|RK D<|cb U (aX fun h=>?_) (aW fun h=>?_)
 ·refine WS fun _ E=>rP 1 [] I ?_
  refine RK E<|ak<|Q1 hQ U U U ?_
  exact cB (br (n8 hx hy h)).symm
 refine cg<|aJ<|KK C<|ao<|rP 3 [] I ?_
 refine aC ?_
 have G:(vI (((i+1):Nat):Int))=(vI ((i:Int)+1)):=by exact cI om
 refine a_ (AB ⟨(i+1),⟨om,iA B hx hy h⟩⟩ _ _ _ U os (cR.cons U<|cR.cons U<|aU U G<|cR.nil _) (aK [0,1]))
end
section
open Go.RowKit
theorem M7 (l:bq) (kA:OA) (kC:Nat) (az:List RA) (cA:OA) (cC:Nat) (bA:OA) (bC:Nat) (m:bq) (k2A:OA) (k2C:Nat) (az2:List RA) (c2A:OA) (c2C:Nat) (b2A:OA) (b2C:Nat) (hin:ej l az) (hin2:ej m az2) (hsm: ¬ ly l) (hsm2: ¬ ly m):
 dF Tryz.prog 57 [(vA (bW.cells (jy l kA kC cA cC bA bC))),(vA (bW.cells (bW.mk (bJ.mk (bj.mk k2A m.bL.length k2C)) m.gl (bj.mk c2A m.aH.length c2C) (bj.mk b2A m.aj.length b2C) m.bV m.ew m.cU)))] ((o7 l kA az cA bA)++[(rd k2A m.bL.length 9 (m.bL.map aD.cells)),(rd c2A m.aH.length 2 (List.zipWith aT.cells m.aH az2)),(iK (bK aT.jW m.aH az2)),(rd b2A m.aj.length 4 (m.aj.map cQ.cells))]) (vB (decide (l=m))):=by
 have J4:=hin.qF
 have J3:=hin.qL
 have I2:=hin.lQ
 have J2:=hin.qE
 have If:=hin2.qF
 have Id:=hin2.qL
 have IO:=hin2.lQ
 have IR:=hin2.qE
 have Bt:=uW hsm
 have h:=uW hsm2
 refine bG kr Tryz.func57 U U fun w0 Q hQ hN=>?_
 try dsimp only
 refine WS fun _ Do=>dV U fun b2=>dV U fun b3=>bp 1 U<|RK Do<|ag fun _ EQ=>WS fun _ F=>bp 1 U<|rS (LP (bJ.cells (bJ.mk (bj.mk kA l.bL.length kC))) 1 U bU U U U)<|bp 1 U<|rS (LP (bJ.cells (bJ.mk (bj.mk k2A m.bL.length k2C))) 0 U bU U U U)<|rS (CL (Ql l.bL kA kC m.bL k2A k2C asm asm) (aY [2,6]) U)<|rP 2 [] I ?_
 refine bS (t:=16) U (aX fun D=>?_) (aW fun D=>?_)
 ·refine bp 45 U<|RK F<|aL U<|WS fun _ EZ=>rP 1 [] I ?_
  refine RK EZ<|ak<|Q1 hQ U U U ?_
  exact cB (br (fun e=>by subst e; first|exact D rfl|omega)).symm
 refine rP 7 [0,1] (mc 1 U (mc 0 U I)) ?_
 refine bS (t:=23) U (aX fun Cp=>?_) (aW fun Cp=>?_)
 ·refine bp 38 U<|RK F<|aL U<|WS fun _ Eq=>rP 1 [] I ?_
  refine RK Eq<|ak<|Q1 hQ U U U ?_
  exact cB (br (fun e=>by subst e; first|exact D rfl|omega)).symm
 refine rP 7 [0,1] (mc 1 U (mc 0 U I)) ?_
 refine bS (t:=30) U (aX fun Cx=>?_) (aW fun Cx=>?_)
 ·refine bp 31 U<|RK F<|aL U<|WS fun _ FS=>rP 1 [] I ?_
  refine RK FS<|ak<|Q1 hQ U U U ?_
  exact cB (br (fun e=>by subst e; first|exact D rfl|omega)).symm
 refine rP 7 [0,1] (mc 1 U (mc 0 U I)) ?_
 refine bS (t:=37) U (aX fun C0=>?_) (aW fun C0=>?_)
 ·refine bp 24 U<|RK F<|aL U<|WS fun _ Fd=>rP 1 [] I ?_
  refine RK Fd<|ak<|Q1 hQ U U U ?_
  exact cB (br (fun e=>by subst e; first|exact D rfl|omega)).symm
 refine rP 7 [0,1] (mc 1 U (mc 0 U I)) ?_
 refine bS (t:=44) U (aX fun C1=>?_) (aW fun C1=>?_)
 ·refine bp 17 U<|RK F<|aL U<|WS fun _ AC=>rP 1 [] I ?_
  refine RK AC<|ak<|Q1 hQ U U U ?_
  exact cB (br (fun e=>by subst e; first|exact D rfl|omega)).symm
 refine rP 9 [0,1] (mc 1 U (mc 0 U I)) ?_
 refine bS (t:=53) U (aX fun C3=>?_) (aW fun C3=>?_)
 ·refine bp 8 U<|RK F<|aL U<|WS fun _ AM=>rP 1 [] I ?_
  refine RK AM<|ak<|Q1 hQ U U U ?_
  exact cB (br (fun e=>by subst e; first|exact D rfl|omega)).symm
 refine rP 8 [0,1] (mc 1 U (mc 0 U I)) ?_
 refine RK F<|cb U (aX fun Di=>?_) (aW fun Di=>?_)
 ·refine WS fun _ AO=>rP 1 [] I ?_
  refine RK AO<|ak<|Q1 hQ U U U ?_
  exact cB (br (fun e=>by subst e; first|exact D rfl|omega)).symm
 refine WK EQ<|ag fun _ Ac=>WS fun _ As=>rP 1 [] I ?_
 refine RK As<|ax ?_
 have A:(0≤l.aH.length)∧(l.aH.take 0=m.aH.take 0):=by simp
 refine bP (ι:={z:Nat // (z≤l.aH.length)∧(l.aH.take z=m.aH.take z)}) [2,3] [0,1,2,3,4,5,6,7,8,9] U U (fun z=>[(5,(vI (z.1:Int)))]) (fun z=>[]) (fun _=>rfl) (fun _=>rfl) (fun z=>l.aH.length-z.1) ⟨0,A⟩ (bf U) (aK [0,1,2,3,4,5,6,7,8,9]) ?_
 clear A
 rintro ⟨i,⟨Fn,G⟩⟩ J15 d
 try dsimp only
 refine ag fun _ A0=>WS fun _ A1=>rP 5 [] (mc 1 U I) ?_
 refine RK A1<|bO U (aO fun Ck=>?_) (aN fun Ck=>?_)
 ·refine bM<|ab<|ab<|aF<|KK Ac<|ag fun _ A2=>WS fun _ A3=>rP 1 [] I ?_
  refine RK A3<|ax ?_
  have A:(0≤l.aj.length)∧(l.aj.take 0=m.aj.take 0):=by simp
  refine bP (ι:={z:Nat // (z≤l.aj.length)∧(l.aj.take z=m.aj.take z)}) [2,3] [0,1,2,3,4,5,6,7,8,9] U U (fun z=>[(9,(vI (z.1:Int)))]) (fun z=>[]) (fun _=>rfl) (fun _=>rfl) (fun z=>l.aj.length-z.1) ⟨0,A⟩ (bf U) (aK [0,1,2,3,4,5,6,7,8,9]) ?_
  clear A
  rintro ⟨n,⟨B3,H⟩⟩ J43 w
  try dsimp only
  refine ag fun _ A4=>WS fun _ A5=>rP 5 [] (mc 1 U I) ?_
  refine RK A5<|bO U (aO fun C2=>?_) (aN fun C2=>?_)
  ·refine bM<|ab<|ab<|aF<|KK A2<|WS fun _ A9=>rP 1 [] I ?_
   refine RK A9<|ak<|Q1 hQ U U U ?_
   exact cB (dC (Hz D om om om om (jA om G om) (jA om H om))).symm
  refine WK A4<|ag fun _ A6=>ax<|ag fun _ A7=>cS cj 11 kr<|dP 3 [] (mc 1 U I) ?_
  obtain ⟨p,hp⟩:=aA l.aj n om
  have GE:=bH cQ.cells hp
  refine dS (IA n U (av 5 U) ux dc om om)<|dS (jK n 0 (cQ.cells p) U bU (av 5 U) GE U dc U U)<|dP 3 [] (mc 0 U I) ?_
  obtain ⟨q,hq⟩:=aA m.aj n om
  have GT:=bH cQ.cells hq
  refine dS (IA n U (av 9 U) ux dc om om)<|dS (jK n 0 (cQ.cells q) U bU (av 9 U) GT U dc U U)<|dS (BI U (Qe _ _ p q))<|cu<|RK A7<|bO U (aW fun AB=>?_) (aX fun AB=>?_)
  ·refine cg<|aJ<|KK A6<|ao<|rP 3 [] I ?_
   refine aC ?_
   have Be:(vI (((n+1):Nat):Int))=(vI ((n:Int)+1)):=by exact cI om
   refine a_ (w ⟨(n+1),⟨om,iA H hp hq AB⟩⟩ _ _ _ U os (cR.cons U<|cR.cons U<|aU U Be<|cR.nil _) (aK [0,1,2,3,4,5,6,7,8,9]))
  refine WS fun _ A8=>rP 1 [] I ?_
  refine RK A8<|ak<|Q1 hQ U U U ?_
  exact cB (br (fun e=>by subst e; rw [hp] at hq; cases hq; exact AB rfl)).symm
 refine WK A0<|ag fun _ f=>ax<|ag fun _ g=>mQ cj [0,1,2,3,4,5,6,7,8,9] [10,11,12,13] [false,false,false,false,false,false,false,false,false,false] [] [(cy b3 28 (bW.cells (bW.mk (bJ.mk (bj.mk k2A m.bL.length k2C)) m.gl (bj.mk c2A m.aH.length c2C) (bj.mk b2A m.aj.length b2C) m.bV m.ew m.cU))),(cy b2 28 (bW.cells (jy l kA kC cA cC bA bC))),(rd kA l.bL.length 9 (l.bL.map aD.cells)).ro,(rd cA l.aH.length 2 (List.zipWith aT.cells l.aH az)).ro,(iK (bK aT.jW l.aH az)).ro,(rd bA l.aj.length 4 (l.aj.map cQ.cells)).ro,(rd k2A m.bL.length 9 (m.bL.map aD.cells)).ro,(rd c2A m.aH.length 2 (List.zipWith aT.cells m.aH az2)).ro,(iK (bK aT.jW m.aH az2)).ro,(rd b2A m.aj.length 4 (m.aj.map cQ.cells)).ro] [] kr (aK [0,1,2,3,4,5,6,7,8,9]) (aK [])<|eS U (FA 2 U eC U)<|eS U (L1 (vS cA l.aH.length cC) 1 U bU U U)<|eS U (MV U) ?_
 obtain ⟨x,hx⟩:=aA l.aH i om
 obtain ⟨xa,a⟩:=aA az i om
 have Hi:(List.zipWith aT.cells l.aH az)[i]? =some (aT.cells x xa):=cG hx a
 refine eS U (IA i U (av 3 U) vp dc om om)<|eS U (jK i 0 (dE.cells (dE.mk x.dA (bj.mk xa.1 x.bk.length xa.2))) U bU (av 3 U) Hi U dc U U)<|eS U (FA 2 U eC U)<|eS U (L1 (vS c2A m.aH.length c2C) 0 U bU U U)<|eS U (MV U) ?_
 obtain ⟨y,hy⟩:=aA m.aH i om
 obtain ⟨ya,b⟩:=aA az2 i om
 have H5:(List.zipWith aT.cells m.aH az2)[i]? =some (aT.cells y ya):=cG hy b
 refine eS U (IA i U (av 7 U) vp dc om om)<|eS U (jK i 0 (dE.cells (dE.mk y.dA (bj.mk ya.1 y.bk.length ya.2))) U bU (av 7 U) H5 U dc U U)<|ed U<|mM [10,11] kr (iD ?_<|iD ?_<|pM)
 rotate_left 1
 ·refine NO U U [10,12,13] fun T21 AA=>AL U zX fun B9=>RD AA 1 U<|N1 10<|NO U U [12,13] fun T23 V=>AL U zX fun Ci=>RD V 2 U<|N1 12<|NO U U [13] fun T25 W=>e7 U zd U<|RD W 2 U<|N1 13<|NO U U [] fun T26 X=>pV U zd U<|RD X 2 U<|lF<|KK g<|ag fun _ K=>WS fun _ E=>rP 6 [0,1] (mc 0 U (mc 1 U I)) ?_
  refine bS (t:=84) U (aX fun o=>?_) (aW fun o=>?_)
  ·refine bp 8 U<|RK E<|aL U<|WS fun _ L=>rP 1 [] I ?_
   refine RK L<|ak<|Q1 hQ U U U ?_
   exact cB (br (fun e=>by subst e; rw [hx] at hy; cases hy; omega)).symm
  refine rP 8 [0,1] (mc 0 U (mc 1 U I)) ?_
  refine RK E<|cb U (aX fun r=>?_) (aW fun r=>?_)
  ·refine WS fun _ M=>rP 1 [] I ?_
   refine RK M<|ak<|Q1 hQ U U U ?_
   exact cB (br (fun e=>by subst e; rw [hx] at hy; cases hy; omega)).symm
  refine WK K<|WS fun _ N=>rP 1 [] I ?_
  refine RK N<|ax ?_
  have A:(0≤x.bk.length)∧(x.bk.take 0=y.bk.take 0):=by simp
  refine bP (ι:={z:Nat // (z≤x.bk.length)∧(x.bk.take z=y.bk.take z)}) [2,3,5,6,7] [0,1,2,3,4,5,6,7,8,9,10,11] U U (fun z=>[(8,(vI (z.1:Int)))]) (fun z=>[]) (fun _=>rfl) (fun _=>rfl) (fun z=>x.bk.length-z.1) ⟨0,A⟩ (bf U) (aK [0,1,2,3,4,5,6,7,8,9,10,11]) ?_
  clear A
  rintro ⟨k,⟨c,B⟩⟩ J32 J
  try dsimp only
  have Go:=Bt.2.2.2 x (aP hx)
  have H1:=h.2.2.2 y (aP hy)
  refine ag fun _ O=>WS fun _ P=>rP 5 [] (mc 0 U I) ?_
  refine RK P<|bO U (aO fun j=>?_) (aN fun j=>?_)
  ·refine bM<|ab<|ab<|aF<|aJ<|KK f<|ao<|rP 3 [] I ?_
   refine aC ?_
   have Z:(vI (((i+1):Nat):Int))=(vI ((i:Int)+1)):=by exact cI om
   refine a_ (d ⟨(i+1),⟨om,iA G hx hy (yF om om om B)⟩⟩ _ _ _ U os (cR.cons U<|cR.cons U<|aU U Z<|cR.nil _) (aK [2,3,4,5,6,7,8,9,10,11]))
  refine WK O<|ag fun _ R=>ax<|ag fun _ S=>cS cj 11 kr<|dP 3 [] (mc 0 U I) ?_
  obtain ⟨z,hz⟩:=aA x.bk k om
  have v:=bH cE.cells hz
  refine dS (IA k U (show g9 _ (rd xa.1 x.bk.length 3 (x.bk.map cE.cells)).holds from (cd 6 U (bB hx a (by simp [aT.jW])))) nQ dc om om)<|dS (jK k 0 (cE.cells z) U bU (show g9 _ (rd xa.1 x.bk.length 3 (x.bk.map cE.cells)).holds from (cd 6 U (bB hx a (by simp [aT.jW])))) v U dc U U)<|dP 3 [] (mc 1 U I) ?_
  obtain ⟨u,hu⟩:=aA y.bk k om
  have s:=bH cE.cells hu
  refine dS (IA k U (show g9 _ (rd ya.1 y.bk.length 3 (y.bk.map cE.cells)).holds from (cd 10 U (bB hy b (by simp [aT.jW])))) nQ dc om om)<|dS (jK k 0 (cE.cells u) U bU (show g9 _ (rd ya.1 y.bk.length 3 (y.bk.map cE.cells)).holds from (cd 10 U (bB hy b (by simp [aT.jW])))) s U dc U U)<|dS (BI U (IZ _ _ z u))<|cu<|RK S<|bO U (aW fun C=>?_) (aX fun C=>?_)
  ·refine cg<|aJ<|KK R<|ao<|rP 3 [] I ?_
   refine aC ?_
   have Y:(vI (((k+1):Nat):Int))=(vI ((k:Int)+1)):=by exact cI om
   refine a_ (J ⟨(k+1),⟨om,iA B hz hu C⟩⟩ _ _ _ U os (cz 5<|aU U Y<|cR.nil _) (aK [0,1,2,3,4,5,6,7,8,9,10,11]))
  refine WS fun _ T=>rP 1 [] I ?_
  refine RK T<|ak<|Q1 hQ U U U ?_
  exact cB (br (fun e=>by subst e; rw [hx] at hy; cases hy; (rw [hz] at hu; cases hu; exact C rfl))).symm
 refine NO U U [11,12,13] fun T21 AA=>AL U zX fun B9=>RD AA 1 U<|N1 11<|NO U U [12,13] fun T23 V=>AL U zX fun Ci=>RD V 2 U<|N1 12<|NO U U [13] fun T25 W=>pV U zd U<|RD W 2 U<|N1 13<|NO U U [] fun T26 X=>e7 U zd U<|RD X 2 U<|lF<|KK g<|ag fun _ K=>WS fun _ E=>rP 6 [0,1] (mc 1 U (mc 0 U I)) ?_
 refine bS (t:=84) U (aX fun o=>?_) (aW fun o=>?_)
 ·refine bp 8 U<|RK E<|aL U<|WS fun _ L=>rP 1 [] I ?_
  refine RK L<|ak<|Q1 hQ U U U ?_
  exact cB (br (fun e=>by subst e; rw [hx] at hy; cases hy; omega)).symm
 refine rP 8 [0,1] (mc 1 U (mc 0 U I)) ?_
 refine RK E<|cb U (aX fun r=>?_) (aW fun r=>?_)
 ·refine WS fun _ M=>rP 1 [] I ?_
  refine RK M<|ak<|Q1 hQ U U U ?_
  exact cB (br (fun e=>by subst e; rw [hx] at hy; cases hy; omega)).symm
 refine WK K<|WS fun _ N=>rP 1 [] I ?_
 refine RK N<|ax ?_
 have A:(0≤x.bk.length)∧(x.bk.take 0=y.bk.take 0):=by simp
 refine bP (ι:={z:Nat // (z≤x.bk.length)∧(x.bk.take z=y.bk.take z)}) [2,3,5,6,7] [0,1,2,3,4,5,6,7,8,9,10,11] U U (fun z=>[(8,(vI (z.1:Int)))]) (fun z=>[]) (fun _=>rfl) (fun _=>rfl) (fun z=>x.bk.length-z.1) ⟨0,A⟩ (bf U) (aK [0,1,2,3,4,5,6,7,8,9,10,11]) ?_
 clear A
 rintro ⟨k,⟨c,B⟩⟩ J32 J
 try dsimp only
 have Go:=Bt.2.2.2 x (aP hx)
 have H1:=h.2.2.2 y (aP hy)
 refine ag fun _ O=>WS fun _ P=>rP 5 [] (mc 1 U I) ?_
 refine RK P<|bO U (aO fun j=>?_) (aN fun j=>?_)
 ·refine bM<|ab<|ab<|aF<|aJ<|KK f<|ao<|rP 3 [] I ?_
  refine aC ?_
  have Z:(vI (((i+1):Nat):Int))=(vI ((i:Int)+1)):=by exact cI om
  refine a_ (d ⟨(i+1),⟨om,iA G hx hy (yF om om om B)⟩⟩ _ _ _ U os (cR.cons U<|cR.cons U<|aU U Z<|cR.nil _) (aK [2,3,4,5,6,7,8,9,10,11]))
 refine WK O<|ag fun _ R=>ax<|ag fun _ S=>cS cj 11 kr<|dP 3 [] (mc 1 U I) ?_
 obtain ⟨z,hz⟩:=aA x.bk k om
 have v:=bH cE.cells hz
 refine dS (IA k U (show g9 _ (rd xa.1 x.bk.length 3 (x.bk.map cE.cells)).holds from (cd 6 U (bB hx a (by simp [aT.jW])))) nQ dc om om)<|dS (jK k 0 (cE.cells z) U bU (show g9 _ (rd xa.1 x.bk.length 3 (x.bk.map cE.cells)).holds from (cd 6 U (bB hx a (by simp [aT.jW])))) v U dc U U)<|dP 3 [] (mc 0 U I) ?_
 obtain ⟨u,hu⟩:=aA y.bk k om
 have s:=bH cE.cells hu
 refine dS (IA k U (show g9 _ (rd ya.1 y.bk.length 3 (y.bk.map cE.cells)).holds from (cd 10 U (bB hy b (by simp [aT.jW])))) nQ dc om om)<|dS (jK k 0 (cE.cells u) U bU (show g9 _ (rd ya.1 y.bk.length 3 (y.bk.map cE.cells)).holds from (cd 10 U (bB hy b (by simp [aT.jW])))) s U dc U U)<|dS (BI U (IZ _ _ z u))<|cu<|RK S<|bO U (aW fun C=>?_) (aX fun C=>?_)
 ·refine cg<|aJ<|KK R<|ao<|rP 3 [] I ?_
  refine aC ?_
  have Y:(vI (((k+1):Nat):Int))=(vI ((k:Int)+1)):=by exact cI om
  refine a_ (J ⟨(k+1),⟨om,iA B hz hu C⟩⟩ _ _ _ U os (cz 5<|aU U Y<|cR.nil _) (aK [0,1,2,3,4,5,6,7,8,9,10,11]))
 refine WS fun _ T=>rP 1 [] I ?_
 refine RK T<|ak<|Q1 hQ U U U ?_
 exact cB (br (fun e=>by subst e; rw [hx] at hy; cases hy; (rw [hz] at hu; cases hu; exact C rfl))).symm
end
section
variable {w w':cp}
theorem CA {k:Int}:k∈l6 w↔ ∃ i:Nat,k=(i:Int)∧i≤w.n∧lh w (pW w i)=true:=by
 unfold l6 iY
 simp only [db,List.mem_filter,List.mem_range]
 constructor
 ·rintro ⟨i,⟨B,A⟩,rfl⟩; exact ⟨i,rfl,om,A⟩
 ·rintro ⟨i,rfl,B,A⟩; exact ⟨i,⟨om,A⟩,rfl⟩
variable {l l':bq} {r r':cO}
theorem GD {b:Nat} (hb:b<l.aj.length):fp l r (fP l b)=fp l r 0:=by rw [ng om]
theorem GH {b:Nat}:cY (di l r) b=if b<l.aj.length then eH l b else 0:=by
 unfold cY di cq
 split
 ·rename_i h
  simp [h]
 ·rename_i h
  simp [h]
theorem GJ {sg:List aG} {i:Nat} (h:i=0):mh sg i=⟨-1,0⟩:=by subst h; rfl
theorem r8 {sg:List aG} {i:Nat} {y:aG} (h:0<i) (hy:sg[i-1]? =some y):mh sg i=y:=by unfold mh; rw [if_neg om,hy]; rfl
end
section
/-- where a sled may be after k beams more -/
def lD (w:cp):Nat→Nat→aQ×Int→List (aQ×Int)
 |0,_,p=>[p]
 |k+1,b,p=>(jZ w b).flatMap fun o=>match nj w b p o with
  |some q=>lD w k (b+1) q
  |none=>[]
variable {w:cp}
theorem pt {k b:Nat} {p q:aQ×Int}:q∈lD w (k+1) b p↔ ∃ o∈jZ w b,∃ p',nj w b p o=some p'∧q∈lD w k (b+1) p':=by
 simp only [lD,List.mem_flatMap]
 constructor
 ·rintro ⟨o,ho,h⟩
  cases e:nj w b p o with
  |none=>rw [e] at h; cases h
  |some p'=>rw [e] at h; exact ⟨o,ho,p',e,h⟩
 ·rintro ⟨o,ho,p',e,h⟩
  exact ⟨o,ho,by rw [e]; exact h⟩
theorem zY: ∀ (k b:Nat) (q:aQ×Int),q∈pW w (b+k)↔ ∃ p∈pW w b,q∈lD w k b p:=by
 intro k
 induction k with
 |zero=>
  intro b q
  simp only [Nat.add_zero,lD,cH]
  exact ⟨fun h=>⟨q,h,rfl⟩,fun ⟨p,hp,e⟩=>e▸hp⟩
 |succ k ih=>
  intro b q
  rw [show b+(k+1)=(b+1)+k by omega,ih]
  constructor
  ·rintro ⟨p',hp',h⟩
   obtain ⟨p,hp,o,ho,e⟩:=kD.1 hp'
   exact ⟨p,hp,pt.2 ⟨o,ho,p',e,h⟩⟩
  ·rintro ⟨p,hp,h⟩
   obtain ⟨o,ho,p',e,h'⟩:=pt.1 h
   exact ⟨p',kD.2 ⟨p,hp,o,ho,e⟩,h'⟩
theorem se {b:Nat} {p q:aQ×Int} {o:Int×ai}:nj w b p o=some q↔max (p.2+cY w b) o.2.Lo≤min o.2.Hi w.gL∧q=(dR p.1 (gE o.1),max (p.2+cY w b) o.2.Lo):=by
 unfold nj
 split
 ·rename_i h
  constructor
  ·intro e; cases e; exact ⟨h,rfl⟩
  ·rintro ⟨_,rfl⟩; rfl
 ·rename_i h
  constructor
  ·intro e; cases e
  ·rintro ⟨h',_⟩; exact absurd h' h
theorem vO {b:Nat} {p q:aQ×Int} {o:Int×ai}:pO w b p o=some q↔o.2.Lo≤min p.2 o.2.Hi∧q=(dR p.1 (gE o.1),min p.2 o.2.Hi-cY w b):=by
 unfold pO
 split
 ·rename_i h
  constructor
  ·intro e; cases e; exact ⟨h,rfl⟩
  ·rintro ⟨_,rfl⟩; rfl
 ·rename_i h
  constructor
  ·intro e; cases e
  ·rintro ⟨h',_⟩; exact absurd h' h
theorem Gi {b:Nat} (hb:b≤w.n):((⟨0,0⟩:aQ),w.gL)∈back w b:=by
 rcases Nat.lt_or_ge b w.n with h|h
 ·exact (pd h).2 (.inl U)
 ·rw [vk h]; simp
theorem nM (t:aQ):dR t ⟨0,0⟩=t:=by cases t; simp [dR]
theorem zN (a o u:aQ):dR (dR a o) u=dR a (dR u o):=by simp only [dR,aQ.mk.injEq]; omega
theorem EP (hl: ∀ b,0≤cY w b): ∀ (k:Nat) (u:aQ×Int),u∈NW w k→u.2≤w.gL:=by
 intro k
 induction k with
 |zero=>intro u hu; simp only [NW,cH] at hu; subst hu; exact Int.le_refl _
 |succ k ih=>
  intro u hu
  simp only [NW,cm,List.mem_flatMap,List.mem_filterMap] at hu
  rcases hu with rfl|⟨p,hp,o,ho,e⟩
  ·exact Int.le_refl _
  ·obtain ⟨_,rfl⟩:=vO.1 e
   have:=ih p hp
   have:=hl (w.n-(k+1))
   simp only; omega
/-- what follows a passing is told by the way back -/
theorem L5: ∀ (k b:Nat) (p q:aQ×Int),b+k≤w.n→p.2≤w.gL→q∈lD w k b p→ ∃ u∈back w b,p.2≤u.2∧q.1=dR p.1 u.1:=by
 intro k
 induction k with
 |zero=>
  intro b p q hb hp hq
  simp only [lD,cH] at hq
  subst hq
  exact ⟨_,Gi om,hp,(nM _).symm⟩
 |succ k ih=>
  intro b p q hb hp hq
  obtain ⟨o,ho,p',e,h⟩:=pt.1 hq
  obtain ⟨C,rfl⟩:=se.1 e
  obtain ⟨u',hu',B,A⟩:=ih (b+1) _ q om (by simp only; omega) h
  simp only at B A
  refine ⟨(dR u'.1 (gE o.1),min u'.2 o.2.Hi-cY w b),(pd om).2 (.inr ⟨u',hu',o,ho,vO.2 ⟨om,U⟩⟩),by simp only; omega,?_⟩
  rw [A,zN]
theorem Ie (hl: ∀ b,0≤cY w b): ∀ (d b:Nat) (p u:aQ×Int),w.n=b+d→p.2≤u.2→u∈back w b→ ∃ k,b+k≤w.n∧ ∃ q∈lD w k b p,q.1=dR p.1 u.1:=by
 intro d
 induction d with
 |zero=>
  intro b p u hd hp hu
  rw [vk om] at hu
  simp only [cH] at hu
  subst hu
  exact ⟨0,om,p,by simp [lD],(nM _).symm⟩
 |succ d ih=>
  intro b p u hd hp hu
  rcases (pd om).1 hu with rfl|⟨u',hu',o,ho,e⟩
  ·exact ⟨0,om,p,by simp [lD],(nM _).symm⟩
  ·obtain ⟨B,rfl⟩:=vO.1 e
   have hn:u'.2≤w.gL:=EP hl _ _ hu'
   simp only at hp
   obtain ⟨k,hk,q,hq,A⟩:=ih (b+1) (dR p.1 (gE o.1),max (p.2+cY w b) o.2.Lo) u' om (by simp only; omega) hu'
   refine ⟨k+1,om,q,pt.2 ⟨o,ho,_,se.2 ⟨om,U⟩,hq⟩,?_⟩
   rw [A]; simp only; rw [zN]
end
section
section
variable {l:bq} {r:cO} {one at_:Int} {d:Nat} {f g m:Int} {rec:Int→Int→Int→Bool} {i:Int}
end
theorem vE {l:bq} {r:cO} {d:Nat} (hd:d<l.aj.length) {o:Int×ai}:o∈jZ (di l r) d↔o=(-1,⟨r.Start,r.gL⟩)∨ ∃ k,k<r.aa.length∧ ∃ s,r.aa[k]? =some s∧(s.fI=(d:Int)∧(dq l s).Lo≤(dq l s).Hi)∧o=((k:Int),dq l s):=by
 unfold jZ wX
 show o∈(-1,(⟨r.Start,r.gL⟩:ai))::((cL l r.aa r.aa.length)[d]?).getD []↔_
 rw [px hd,Option.getD_some,cm,tn]
theorem qg {l:bq} {r:cO} {d:Nat} (hd:d<l.aj.length):cY (di l r) d=eH l d:=by rw [GH,if_pos hd]
theorem vm {l:bq} {n d:Nat} {y:Int} (h:(cq l n)[d]? =some y):y=eH l d:=by
 unfold cq at h
 rw [fZ] at h
 have hd:d<n:=by
  rcases Nat.lt_or_ge d n with q|q
  ·exact q
  ·rw [List.getElem?_eq_none (by simpa using q)] at h; cases h
 rw [List.getElem?_range hd] at h
 exact (Option.some.inj h).symm
end
section
/-- a truth goes on from here -/
def U3 (w:cp) (b:Nat) (p:aQ×Int):Prop:= ∃ k,b+k≤w.n∧ ∃ q∈lD w k b p,nm w q.1=true
section
variable {w:cp}
/-- a beam is passed at a time, by a signal -/
def Jx (w:cp) (b:Nat) (s t:Int):Prop:= ∃ p∈pW w b,∃ o∈jZ w b,o.1=s∧(max (p.2+cY w b) o.2.Lo≤t∧t≤min o.2.Hi w.gL)∧U3 w (b+1) (dR p.1 (gE o.1),t)
theorem MC (hl: ∀ b,0≤cY w b) {b:Nat} (hb:b<w.n) {s t:Int}:(∃ q∈s9 w b,q.1=s∧q.2.Lo≤t∧t≤q.2.Hi)↔Jx w b s t:=by
 constructor
 ·rintro ⟨q,hq,hs,C,D⟩
  obtain ⟨o,ho,p,hp,u,hu,e⟩:=jz.1 hq
  obtain ⟨B,A,rfl⟩:=lp.1 e
  simp only [lJ] at C D B
  have hn:u.2≤w.gL:=EP hl _ _ hu
  obtain ⟨k,hk,q,hq',E⟩:=Ie hl (w.n-(b+1)) (b+1) (dR p.1 (gE o.1),t) u om (by simp only; omega) hu
  refine ⟨p,hp,o,ho,hs,⟨om,om⟩,k,hk,q,hq',?_⟩
  rw [E]
  unfold zS at A
  rw [show dR (dR p.1 (gE o.1)) u.1=dR (dR p.1 u.1) (gE o.1) by simp only [dR,aQ.mk.injEq]; omega]
  exact A
 ·rintro ⟨p,hp,o,ho,hs,⟨C,D⟩,k,hk,q,hq,hm⟩
  obtain ⟨u,hu,B,A⟩:=L5 k (b+1) _ q hk (by simp only; omega) hq
  simp only at B A
  refine ⟨(o.1,lJ w b p u o),jz.2 ⟨o,ho,p,hp,u,hu,lp.2 ⟨by simp only [lJ]; omega,?_,U⟩⟩,hs,by simp only [lJ]; omega,by simp only [lJ]; omega⟩
  unfold zS
  rw [A] at hm
  rw [show dR (dR p.1 u.1) (gE o.1)=dR (dR p.1 (gE o.1)) u.1 by simp only [dR,aQ.mk.injEq]; omega]
  exact hm
end
section
variable {w w':cp} {n:Int} {f g:Int→Int}
end
section
variable {l l':bq} {r r':cO} {n:Int} {f g:Int→Int}
end
end
section
theorem nO {l:bq} (ht:dB l.bL=true) (h:mJ l) {i:Nat} (hi:i<l.aj.length):1≤eH l i∧eH l i≤500000000:=by
 have A:=h.Pe i hi
 have B:=CT ht h.vY i
 have hf:=h.head.1
 unfold eH o9
 refine ⟨(Int.le_ediv_iff_mul_le om).2 om,?_⟩
 have:(1000*mN l i+l.gl-1)/l.gl≤1000*mN l i+l.gl-1:=Int.ediv_le_self _ om
 omega
end
section
def dN (good:List Int):aQ:=good.foldl (fun t g=>dR t (gE g)) ⟨0,0⟩
theorem oT {l:List Int} {g:Int}:dN (l++[g])=dR (dN l) (gE g):=by unfold dN; rw [List.foldl_append]; rfl
section
variable {l:bq} {r:cO} {times good:List Int}
theorem lH {α:Type} {l:List α} {b:Nat} {x:α} (h:l[b]? =some x):l.take (b+1)=l.take b++[x]:=by rw [List.take_add_one,h]; rfl
end
end
section
def hO (hi:Int→Int) (least:Nat→Int) (now:Int):Nat→List Int→List Int×Int
 |_,[]=>([],now)
 |b,x::xs=>((if 0≤x then min (hO hi least now (b+1) xs).2 (hi x) else (hO hi least now (b+1) xs).2)::(hO hi least now (b+1) xs).1,(if 0≤x then min (hO hi least now (b+1) xs).2 (hi x) else (hO hi least now (b+1) xs).2)-least b)
def gN (t:Int):List Int→Int
 |[]=>t
 |x::xs=>gN x xs
def kv (w:cp):Nat→Int→List Int→List Int→Prop
 |_,_,[],[]=>True
 |b,t,x::rs,y::fs=>(∃ o∈jZ w b,o.1=x∧max (t+cY w b) o.2.Lo≤min o.2.Hi w.gL∧y=max (t+cY w b) o.2.Lo)∧kv w (b+1) y rs fs
 |_,_,_,_=>False
section
variable {w:cp} {hi:Int→Int} {least:Nat→Int} {now:Int}
theorem sv: ∀ (b:Nat) (rs:List Int),(hO hi least now b rs).1.length=rs.length
 |_,[]=>rfl
 |b,x::xs=>by simp only [hO,List.length_cons]; rw [sv]
theorem nJ: ∀ (t:Int) (fs:List Int) (y:Int),gN t (fs++[y])=y
 |_,[],_=>rfl
 |t,x::fs,y=>nJ x fs y
theorem BH: ∀ (t:Int) (fs:List Int) (y:Int),fs[fs.length-1]? =some y→gN t fs=y
 |t,[],y,h=>by simp at h
 |t,[x],y,h=>by simpa [gN] using h
 |t,x::x2::fs,y,h=>by
  show gN x (x2::fs)=y
  exact BH x (x2::fs) y (by simpa using h)
theorem uL: ∀ (b:Nat) (rs:List Int) (x:Int) (ss:List Int),(hO hi least now b (rs++x::ss)).1[rs.length]? =some (if 0≤x then min (hO hi least now (b+rs.length+1) ss).2 (hi x) else (hO hi least now (b+rs.length+1) ss).2)
 |b,[],x,ss=>by simp [hO]
 |b,z::rs,x,ss=>by
  have:=uL (b+1) rs x ss
  simp only [List.cons_append,hO,List.length_cons,List.getElem?_cons_succ]
  rw [this,show b+1+rs.length+1=b+(rs.length+1)+1 by omega]
theorem ky: ∀ (b:Nat) (t:Int) (rs fs:List Int),kv w b t rs fs→fs.length=rs.length
 |_,_,[],[],_=>rfl
 |b,t,x::rs,y::fs,h=>by simp [ky _ _ rs fs h.2]
 |_,_,[],_::_,h=>h.elim
 |_,_,_::_,[],h=>h.elim
theorem r_: ∀ (b:Nat) (t:Int) (rs fs ss gs:List Int),fs.length=rs.length→(kv w b t (rs++ss) (fs++gs)↔kv w b t rs fs∧kv w (b+rs.length) (gN t fs) ss gs)
 |b,t,[],[],ss,gs,_=>by simp [kv,gN]
 |b,t,x::rs,y::fs,ss,gs,h=>by
  have ih:=r_ (b+1) y rs fs ss gs (by simpa using h)
  simp only [List.cons_append,kv,List.length_cons,gN]
  rw [ih,show b+1+rs.length=b+(rs.length+1) by omega,and_assoc]
 |_,_,[],_::_,_,_,h=>by simp at h
 |_,_,_::_,[],_,_,h=>by simp at h
theorem Ej (b:List Int): ∀ t:aQ,b.foldl (fun t g=>dR t (gE g)) t=dR t (dN b):=by
 induction b with
 |nil=>intro t; exact (nM t).symm
 |cons x b ih=>
  intro t
  show b.foldl (fun t g=>dR t (gE g)) (dR t (gE x))=dR t (b.foldl (fun t g=>dR t (gE g)) (dR ⟨0,0⟩ (gE x)))
  rw [ih,ih]; simp only [dR,aQ.mk.injEq]; omega
theorem sL (a b:List Int):dN (a++b)=dR (dN a) (dN b):=by
 show (a++b).foldl _ _=_
 rw [List.foldl_append,Ej]; rfl
theorem rZ:dN []=(⟨0,0⟩:aQ):=rfl
theorem qb (l:List Int):dR (⟨0,0⟩:aQ) (dN l)=dN l:=by simp [dR]
theorem th (x:Int) (l:List Int):dN (x::l)=dR (gE x) (dN l):=by
 rw [show x::l=[x]++l from rfl,sL,show dN [x]=gE x from (oT (l:=[])).trans (by rw [rZ]; simp [dR])]
theorem uU: ∀ l:List Int,0≤(dN l).right∧0≤(dN l).fB∧(dN l).right+(dN l).fB=(l.length:Int)
 |[]=>by rw [rZ]; simp
 |x::l=>by
  rw [th]
  have:=vM x
  have:=uU l
  simp only [dR,List.length_cons]
  omega
/-- chains are what the watch goes through -/
theorem kh: ∀ (k b:Nat) (p q:aQ×Int),q∈lD w k b p↔ ∃ rs fs,rs.length=k∧kv w b p.2 rs fs∧q=(dR p.1 (dN rs),gN p.2 fs):=by
 intro k
 induction k with
 |zero=>
  intro b p q
  simp only [lD,cH]
  constructor
  ·rintro rfl; exact ⟨[],[],rfl,trivial,by rw [rZ,nM]; rfl⟩
  ·rintro ⟨rs,fs,A,B,rfl⟩
   have A:=kH A
   subst A
   have:=kH (ky _ _ _ _ B)
   subst this
   rw [rZ,nM]; rfl
 |succ k ih=>
  intro b p q
  rw [pt]
  constructor
  ·rintro ⟨o,ho,p',e,h⟩
   obtain ⟨A,rfl⟩:=se.1 e
   obtain ⟨rs,fs,B,C,rfl⟩:=(ih _ _ _).1 h
   refine ⟨o.1::rs,max (p.2+cY w b) o.2.Lo::fs,by simp [B],⟨⟨o,ho,U,A,U⟩,C⟩,?_⟩
   rw [th]
   simp only [gN,dR,Prod.mk.injEq,aQ.mk.injEq,and_true]; omega
  ·rintro ⟨rs,fs,A,B,rfl⟩
   cases rs with
   |nil=>simp at A
   |cons x rs=>
    cases fs with
    |nil=>exact B.elim
    |cons y fs=>
     obtain ⟨⟨o,ho,rfl,C,rfl⟩,D⟩:=B
     refine ⟨o,ho,_,se.2 ⟨C,U⟩,(ih _ _ _).2 ⟨rs,fs,by simpa using A,D,?_⟩⟩
     rw [th]
     simp only [gN,dR,Prod.mk.injEq,aQ.mk.injEq,and_true]; omega
/-- what the reference's rows of last times know -/
structure Lh (w:cp) (hi:Int→Int) (least:Nat→Int) (now:Int):Prop where
 low: ∀ b,0≤cY w b
 least: ∀ b,b<w.n→least b=cY w b
 now:now=w.gL
 hi: ∀ b o,b<w.n→o∈jZ w b→0≤o.1→o.2.Hi=hi o.1
 none_: ∀ b o,b<w.n→o∈jZ w b→ ¬ 0≤o.1→o.2.Hi=w.gL
theorem yn (h:Lh w hi least now): ∀ (b:Nat) (rs:List Int),b+rs.length≤w.n→(hO hi least now b rs).2≤w.gL
 |_,[],_=>by simp only [hO]; exact Int.le_of_eq h.now
 |b,x::xs,hb=>by
  simp only [List.length_cons] at hb
  have B:=yn h (b+1) xs om
  have A:=h.low b
  rw [← h.least b om] at A
  simp only [hO]
  split<;>omega
theorem r9 (h:Lh w hi least now): ∀ (b:Nat) (t:Int) (rs fs:List Int),b+rs.length≤w.n→t≤w.gL→kv w b t rs fs→t≤(hO hi least now b rs).2
 |_,t,[],[],_,ht,_=>by simp only [hO]; rw [h.now]; exact ht
 |b,t,x::rs,y::fs,hb,ht,hc=>by
  simp only [List.length_cons] at hb
  obtain ⟨⟨o,ho,rfl,D,rfl⟩,A⟩:=hc
  have B:=r9 h (b+1) _ rs fs om om A
  have C:=h.least b om
  simp only [hO]
  split
  ·rename_i q
   have:=h.hi b o om ho q
   omega
  ·omega
 |_,_,[],_::_,_,_,hc=>hc.elim
 |_,_,_::_,[],_,_,hc=>hc.elim
theorem yJ (h:Lh w hi least now): ∀ (b:Nat) (t t':Int) (rs fs:List Int),b+rs.length≤w.n→t≤t'→t'≤(hO hi least now b rs).2→kv w b t rs fs→ ∃ gs,kv w b t' rs gs
 |_,t,_,[],[],_,_,_,_=>⟨[],trivial⟩
 |b,t,t',x::rs,y::fs,hb,ht,he,hc=>by
  simp only [List.length_cons] at hb
  obtain ⟨⟨o,ho,rfl,E,rfl⟩,A⟩:=hc
  have C:=r9 h (b+1) _ rs fs om om A
  have D:=h.least b om
  have F:=yn h (b+1) rs om
  simp only [hO] at he
  have B:max (t'+cY w b) o.2.Lo≤min o.2.Hi w.gL∧max (t'+cY w b) o.2.Lo≤(hO hi least now (b+1) rs).2:=by
   split at he
   ·rename_i q
    have:=h.hi b o om ho q
    omega
   ·rename_i q
    have:=h.none_ b o om ho q
    omega
  obtain ⟨gs,hg⟩:=yJ h (b+1) _ (max (t'+cY w b) o.2.Lo) rs fs om om B.2 A
  exact ⟨_::gs,⟨o,ho,U,B.1,U⟩,hg⟩
 |_,_,_,[],_::_,_,_,_,hc=>hc.elim
 |_,_,_,_::_,[],_,_,_,hc=>hc.elim
theorem BY (b:Nat) (t t':Int) (rs fs:List Int) (ht:t'≤t) (hc:kv w b t rs fs): ∃ gs,kv w b t' rs gs:=by
 have A:(dR ⟨0,0⟩ (dN rs),gN t fs)∈lD w rs.length b (⟨0,0⟩,t):=(kh _ _ _ _).2 ⟨rs,fs,rfl,hc,rfl⟩
 clear A
 induction rs generalizing b t t' fs with
 |nil=>exact ⟨[],trivial⟩
 |cons x rs ih=>
  cases fs with
  |nil=>exact hc.elim
  |cons y fs=>
   obtain ⟨⟨o,ho,rfl,C,rfl⟩,B⟩:=hc
   obtain ⟨gs,hg⟩:=ih (b+1) _ (max (t'+cY w b) o.2.Lo) fs om B
   exact ⟨_::gs,⟨o,ho,U,om,U⟩,hg⟩
/-- a way, as it is asked for -/
structure OF (w:cp) (hi:Int→Int) (least:Nat→Int) (now:Int) (y:du):Prop where
 chain:kv w 0 w.Start y.gp y.jh
 len:y.gp.length≤w.n
 last:y.mz=(hO hi least now 0 y.gp).1
 may:nm w (dN y.gp)=true
theorem CR {k:Nat}:lh w (pW w k)=true↔ ∃ rs fs,rs.length=k∧kv w 0 w.Start rs fs∧nm w (dN rs)=true:=by
 unfold lh
 rw [List.any_eq_true]
 have e:=fun q=>(zY (w:=w) k 0 q)
 rw [Nat.zero_add] at e
 constructor
 ·rintro ⟨q,hq,hm⟩
  obtain ⟨p,hp,h⟩:=(e q).1 hq
  simp only [pW,cH] at hp
  subst hp
  obtain ⟨rs,fs,A,B,rfl⟩:=(kh _ _ _ _).1 h
  refine ⟨rs,fs,A,B,?_⟩
  rwa [qb] at hm
 ·rintro ⟨rs,fs,A,B,C⟩
  refine ⟨_,(e _).2 ⟨((⟨0,0⟩:aQ),w.Start),cH.2 U,(kh _ _ _ _).2 ⟨rs,fs,A,B,U⟩⟩,?_⟩
  simp only [qb]; exact C
theorem HZ (h:Lh w hi least now) (hs:w.Start≤w.gL) {b:Nat} (hb:b<w.n) {s t:Int}:Jx w b s t↔ ∃ y,OF w hi least now y∧ ∃ f e,y.gp[b]? =some s∧y.jh[b]? =some f∧y.mz[b]? =some e∧f≤t∧t≤e:=by
 have ef:=fun q=>(zY (w:=w) b 0 q)
 rw [Nat.zero_add] at ef
 constructor
 ·rintro ⟨p,hp,o,ho,rfl,⟨C,L⟩,k,hk,q,hq,hm⟩
  obtain ⟨Y,AB,hp⟩:=(ef p).1 hp
  simp only [pW,cH] at AB
  subst AB
  obtain ⟨rs,fs,K,D,rfl⟩:=(kh _ _ _ _).1 hp
  obtain ⟨ss,gs,AA,E,rfl⟩:=(kh _ _ _ _).1 hq
  simp only at C L D E hm
  obtain ⟨gs',J⟩:=BY (b+1) t (max (gN w.Start fs+cY w b) o.2.Lo) ss gs C E
  have H:=ky _ _ _ _ D
  have T:=ky _ _ _ _ J
  have hc:kv w 0 w.Start (rs++o.1::ss) (fs++max (gN w.Start fs+cY w b) o.2.Lo::gs'):=(r_ _ _ _ _ _ _ H).2 ⟨D,by rw [Nat.zero_add,K]; exact ⟨⟨o,ho,rfl,om,rfl⟩,J⟩⟩
  have he:=r9 h (b+1) t ss gs om om E
  have A:=uL (hi:=hi) (least:=least) (now:=now) 0 rs o.1 ss
  rw [Nat.zero_add,K] at A
  refine ⟨⟨rs++o.1::ss,fs++max (gN w.Start fs+cY w b) o.2.Lo::gs',(hO hi least now 0 (rs++o.1::ss)).1⟩,⟨hc,by simp; omega,U,?_⟩,max (gN w.Start fs+cY w b) o.2.Lo,_,?_,?_,A,C,?_⟩
  ·show nm w (dN (rs++o.1::ss))=true
   rw [show rs++o.1::ss=(rs++[o.1])++ss by simp,sL,oT]
   rwa [qb] at hm
  ·show (rs++o.1::ss)[b]? =some o.1
   rw [List.getElem?_append_right om,K,Nat.sub_self]; rfl
  ·show (fs++_::gs')[b]? =_
   rw [List.getElem?_append_right om,H,K,Nat.sub_self]; rfl
  ·split
   ·rename_i q
    have:=h.hi b o hb ho q
    omega
   ·exact he
 ·rintro ⟨y,hy,f,e,C,L,P,Q,V⟩
  obtain ⟨R,F,La⟩:=y
  obtain ⟨hc,hn,A,hm⟩:=hy
  simp only at C L P hc hn A hm
  have N:=(aZ.1 C).1
  have S:=ky _ _ _ _ hc
  have eR:R=R.take b++s::R.drop (b+1):=by rw [← (aZ.1 C).2]; exact (List.take_append_drop b R).symm.trans (by rw [List.drop_eq_getElem_cons N])
  have M:b<F.length:=by omega
  have eF:F=F.take b++f::F.drop (b+1):=by rw [← (aZ.1 L).2]; exact (List.take_append_drop b F).symm.trans (by rw [List.drop_eq_getElem_cons M])
  rw [eR,eF,r_ _ _ _ _ _ _ (by simp only [List.length_take]; omega)] at hc
  have O:(R.take b).length=b:=by rw [List.length_take]; omega
  rw [O,Nat.zero_add] at hc
  obtain ⟨D,⟨o,ho,rfl,W,rfl⟩,E⟩:=hc
  have B:=uL (hi:=hi) (least:=least) (now:=now) 0 (R.take b) o.1 (R.drop (b+1))
  rw [← eR,O,Nat.zero_add,← A,P] at B
  have B:=Option.some.inj B
  have G:t≤(hO hi least now (b+1) (R.drop (b+1))).2∧t≤min o.2.Hi w.gL:=by
   have X:=yn h (b+1) (R.drop (b+1)) (by rw [List.length_drop]; omega)
   split at B
   ·rename_i q
    have:=h.hi b o hb ho q
    omega
   ·rename_i q
    have:=h.none_ b o hb ho q
    omega
  obtain ⟨gs,J⟩:=yJ h (b+1) _ t (R.drop (b+1)) (F.drop (b+1)) (by rw [List.length_drop]; omega) Q G.1 E
  refine ⟨(dR ⟨0,0⟩ (dN (R.take b)),gN w.Start (F.take b)),(ef _).2 ⟨((⟨0,0⟩:aQ),w.Start),cH.2 U,(kh _ _ _ _).2 ⟨_,_,O,D,U⟩⟩,o,ho,U,⟨Q,G.2⟩,(R.drop (b+1)).length,by rw [List.length_drop]; omega,_,(kh _ _ _ _).2 ⟨_,gs,U,J,U⟩,?_⟩
  show nm w (dR (dR (dR ⟨0,0⟩ (dN (R.take b))) (gE o.1)) (dN (R.drop (b+1))))=true
  rw [qb,← oT,← sL,show R.take b++[o.1]++R.drop (b+1)=R from by rw [List.append_assoc]; exact eR.symm]
  exact hm
end
noncomputable def LI (l:bq) (r:cO) (x:Int):Int:=match r.aa[x.toNat]? with
 |some s=>(dq l s).Hi
 |none=>0
theorem Eb {l:bq} {r:cO} {x:Int} {s:aG} (h:r.aa[x.toNat]? =some s):LI l r x=(dq l s).Hi:=by unfold LI; rw [h]
noncomputable def jO (l:bq) (r:cO) (rs:List Int):List Int:=(hO (LI l r) (eH l) r.gL 0 rs).1
noncomputable def pG (l:bq) (r:cO) (n:Nat) (t i:Int):Option Int:=
 if i<0 then (if t≤r.gL then some t else none) else match r.aa[i.toNat]? with
  |some s=>if (s.fI=(n:Int)∧(dq l s).Lo≤(dq l s).Hi)∧max t (dq l s).Lo≤min r.gL (dq l s).Hi then some (max t (dq l s).Lo) else none
  |none=>none
noncomputable def il (l:bq) (r:cO) (rs fs:List Int):List du:=if (r.aa.length:Int)-(dN rs).right≤l.ew then [⟨rs,fs,jO l r rs⟩] else []
noncomputable def iR (l:bq) (r:cO):Nat→List Int→List Int→List du
 |0,rs,fs=>if l.cU<(dN rs).fB then [] else il l r rs fs
 |k+1,rs,fs=>if l.cU<(dN rs).fB then [] else il l r rs fs++(List.range (r.aa.length+1)).flatMap fun (j:Nat)=>match pG l r rs.length (gN r.Start fs+eH l rs.length) ((j:Int)-1) with
  |some t=>iR l r k (rs++[(j:Int)-1]) (fs++[t])
  |none=>[]
noncomputable def Eh (l:bq) (r:cO) (k:Nat) (rs fs:List Int) (j:Nat):List du:=il l r rs fs++(List.range j).flatMap fun (j:Nat)=>match pG l r rs.length (gN r.Start fs+eH l rs.length) ((j:Int)-1) with
 |some t=>iR l r k (rs++[(j:Int)-1]) (fs++[t])
 |none=>[]
noncomputable def iS (l:bq) (r:cO) (k:Nat) (rs fs:List Int) (j:Nat):List du:=(List.range j).flatMap fun (j:Nat)=>match pG l r rs.length (gN r.Start fs+eH l rs.length) ((j:Int)-1) with
 |some t=>iR l r k (rs++[(j:Int)-1]) (fs++[t])
 |none=>[]
section
variable {l:bq} {r:cO} {k j:Nat} {rs fs:List Int} {t:Int}
theorem sj:Eh l r k rs fs j=il l r rs fs++iS l r k rs fs j:=rfl
theorem nI (h:pG l r rs.length (gN r.Start fs+eH l rs.length) ((j:Int)-1)=some t):iS l r k rs fs (j+1)=iS l r k rs fs j++iR l r k (rs++[(j:Int)-1]) (fs++[t]):=by
 unfold iS; rw [List.range_succ,List.flatMap_append]; simp [h]
theorem re (h:pG l r rs.length (gN r.Start fs+eH l rs.length) ((j:Int)-1)=none):iS l r k rs fs (j+1)=iS l r k rs fs j:=by
 unfold iS; rw [List.range_succ,List.flatMap_append]; simp [h]
theorem og (h:l.cU<(dN rs).fB):iR l r k rs fs=[]:=by cases k<;>exact if_pos h
theorem ot (h: ¬ l.cU<(dN rs).fB):iR l r 0 rs fs=il l r rs fs:=if_neg h
theorem n_ (h: ¬ l.cU<(dN rs).fB):iR l r (k+1) rs fs=Eh l r k rs fs (r.aa.length+1):=if_neg h
theorem CP {n:Nat} (hn:n<l.aj.length) (hl:0≤eH l n) (ht:r.Start≤t) {i y:Int} (hi: -1≤i):pG l r n (t+eH l n) i=some y↔ ∃ o∈jZ (di l r) n,o.1=i∧max (t+cY (di l r) n) o.2.Lo≤min o.2.Hi (di l r).gL∧y=max (t+cY (di l r) n) o.2.Lo:=by
 rw [qg hn]
 have hw:(di l r).gL=r.gL:=rfl
 unfold pG
 constructor
 ·intro h
  split at h
  ·rename_i B
   split at h
   ·cases h
    exact ⟨(-1,⟨r.Start,r.gL⟩),(vE hn).2 (.inl U),by simp only; omega,by simp only; omega,by simp only; omega⟩
   ·cases h
  ·rename_i B
   split at h
   ·rename_i s hs
    split at h
    ·rename_i q
     cases h
     exact ⟨((i.toNat:Nat),dq l s),(vE hn).2 (.inr ⟨i.toNat,(aZ.1 hs).1,s,hs,q.1,U⟩),by simp only; omega,by simp only; omega,U⟩
    ·cases h
   ·cases h
 ·rintro ⟨o,ho,rfl,A,rfl⟩
  rcases (vE hn).1 ho with rfl|⟨k,hk,s,hs,q,rfl⟩
  ·simp only at A ⊢
   rw [if_pos om,if_pos om]
   congr 1; omega
  ·simp only at A ⊢
   rw [if_neg om,Int.toNat_natCast,hs]
   simp only
   rw [if_pos ⟨q,om⟩]
theorem Io (hl: ∀ n,n<l.aj.length→0≤eH l n): ∀ (k:Nat) (rs fs:List Int) (y:du),rs.length+k=l.aj.length→fs.length=rs.length→r.Start≤gN r.Start fs→
 (y∈iR l r k rs fs↔ ∃ ss gs,kv (di l r) rs.length (gN r.Start fs) ss gs∧ss.length≤k∧y=⟨rs++ss,fs++gs,jO l r (rs++ss)⟩∧nm (di l r) (dN (rs++ss))=true):=by
 have D: ∀ (rs fs:List Int) (y:du),¬ l.cU<(dN rs).fB→(y∈il l r rs fs↔y=⟨rs++[],fs++[],jO l r (rs++[])⟩∧nm (di l r) (dN (rs++[]))=true):=by
  intro rs fs y hm
  unfold il
  rw [List.append_nil,List.append_nil]
  have e:nm (di l r) (dN rs)=true↔(r.aa.length:Int)-(dN rs).right≤l.ew:=by
   unfold nm
   rw [decide_eq_true_eq]
   exact ⟨fun q=>q.2,fun q=>⟨by have:(di l r).cU=l.cU:=rfl; omega,q⟩⟩
  split
  ·rename_i q
   rw [cH]
   exact ⟨fun h=>⟨h,e.2 q⟩,fun h=>h.1⟩
  ·rename_i q
   exact ⟨fun h=>(by cases h),fun h=>absurd (e.1 h.2) q⟩
 have miss: ∀ (rs ss:List Int),l.cU<(dN rs).fB→ ¬ nm (di l r) (dN (rs++ss))=true:=by
  intro rs ss h q
  unfold nm at q
  have:=(of_decide_eq_true q).1
  rw [sL] at this
  have C:=uU ss
  simp only [dR] at this
  have:(di l r).cU=l.cU:=rfl
  omega
 intro k
 induction k with
 |zero=>
  intro rs fs y hn hf hs
  by_cases hm:l.cU<(dN rs).fB
  ·rw [og hm]
   exact ⟨fun h=>(by cases h),fun ⟨ss,gs,_,_,_,q⟩=>absurd q (miss rs ss hm)⟩
  ·rw [ot hm,D _ _ _ hm]
   constructor
   ·rintro ⟨B,C⟩; exact ⟨[],[],trivial,sm,B,C⟩
   ·rintro ⟨ss,gs,B,C,E,F⟩
    have e:=kH (Nat.le_zero.1 C)
    subst e
    have e:=kH (ky _ _ _ _ B)
    subst e
    exact ⟨E,F⟩
 |succ k ih=>
  intro rs fs y hn hf hs
  by_cases hm:l.cU<(dN rs).fB
  ·rw [og hm]
   exact ⟨fun h=>(by cases h),fun ⟨ss,gs,_,_,_,q⟩=>absurd q (miss rs ss hm)⟩
  ·rw [n_ hm]
   unfold Eh
   rw [gR,D _ _ _ hm,List.mem_flatMap]
   have A: ∀ (x y:Int),(rs++[x]).length+k=l.aj.length∧(fs++[y]).length=(rs++[x]).length:=fun x y=>by simp; omega
   constructor
   ·rintro (⟨B,C⟩|⟨j,hj,h⟩)
    ·exact ⟨[],[],trivial,sm,B,C⟩
    ·cases e:pG l r rs.length (gN r.Start fs+eH l rs.length) ((j:Int)-1) with
     |none=>rw [e] at h; cases h
     |some t=>
      rw [e] at h
      simp only at h
      obtain ⟨o,ho,B,C,E⟩:=(CP om (hl _ om) hs om).1 e
      have G:r.Start≤t:=by
       have:=hl rs.length om
       rw [qg om] at E
       omega
      obtain ⟨ss,gs,F,J,H,AA⟩:=(ih _ _ y (A _ t).1 (A _ t).2 (by rw [nJ]; exact G)).1 h
      rw [nJ,List.length_append] at F
      refine ⟨((j:Int)-1)::ss,t::gs,⟨⟨o,ho,B,C,E⟩,F⟩,by simp; omega,by simpa using H,by simpa using AA⟩
   ·rintro ⟨ss,gs,B,C,E,F⟩
    cases ss with
    |nil=>
     have e:=kH (ky _ _ _ _ B)
     subst e
     exact .inl ⟨E,F⟩
    |cons x ss=>
     cases gs with
     |nil=>exact B.elim
     |cons t gs=>
      obtain ⟨⟨o,ho,rfl,J,H⟩,AA⟩:=B
      right
      have hx: -1≤o.1∧o.1<(r.aa.length:Int):=by
       rcases (vE om).1 ho with rfl|⟨k,hk,s,hs,q,rfl⟩
       ·simp only; omega
       ·simp only; omega
      have G:r.Start≤t:=by
       have:=hl rs.length om
       rw [qg om] at H
       omega
      have K:((o.1+1).toNat:Int)-1=o.1:=by omega
      refine ⟨(o.1+1).toNat,List.mem_range.2 om,?_⟩
      rw [K,(CP om (hl _ om) hs om).2 ⟨o,ho,rfl,J,H⟩]
      simp only
      refine (ih _ _ y (A _ t).1 (A _ t).2 (by rw [nJ]; exact G)).2 ⟨ss,gs,?_,?_,?_,?_⟩
      ·rw [nJ,List.length_append]; exact AA
      ·simp only [List.length_cons] at C; omega
      ·simpa using E
      ·simpa using F
end
theorem zB {l:bq} {r:cO} {rs fs:List Int} (h:(r.aa.length:Int)-(dN rs).right≤l.ew):il l r rs fs=[⟨rs,fs,jO l r rs⟩]:=if_pos h
theorem xg {l:bq} {r:cO} {rs fs:List Int} (h: ¬ (r.aa.length:Int)-(dN rs).right≤l.ew):il l r rs fs=[]:=if_neg h
noncomputable def fh (l:bq) (r:cO) (i:Nat):List ai:=(r.aa.take i).map (dq l)
noncomputable def fK (l:bq) (r:cO) (i:Nat):List Bool:=(r.aa.take i).map fun s=>decide ((dq l s).Lo≤(dq l s).Hi)
section
variable {l:bq} {r:cO} {i n:Nat} {s:aG} {rs:List Int}
theorem D4 (h:r.aa[i]? =some s):fh l r (i+1)=fh l r i++[dq l s]:=by unfold fh; rw [List.take_add_one,h,List.map_append]; rfl
theorem Ea (h:r.aa[i]? =some s):fK l r (i+1)=fK l r i++[decide ((dq l s).Lo≤(dq l s).Hi)]:=by unfold fK; rw [List.take_add_one,h,List.map_append]; rfl
theorem sG (h:i≤r.aa.length):(fh l r i).length=i:=by unfold fh; rw [List.length_map,List.length_take]; omega
theorem vQ (h:i≤r.aa.length):(fK l r i).length=i:=by unfold fK; rw [List.length_map,List.length_take]; omega
theorem Lw {k:Nat} {z:ai} (hs:r.aa[k]? =some s) (hz:(fh l r r.aa.length)[k]? =some z):z=dq l s:=by
 unfold fh at hz
 rw [List.take_length,fZ,hs] at hz
 exact (Option.some.inj hz).symm
theorem Kw {k:Nat} {z:ai} (hz:(fh l r r.aa.length)[k]? =some z): ∃ s,r.aa[k]? =some s∧z=dq l s:=by
 unfold fh at hz
 rw [List.take_length,fZ] at hz
 cases h:r.aa[k]? with
 |none=>rw [h] at hz; cases hz
 |some s=>rw [h] at hz; exact ⟨s,rfl,(Option.some.inj hz).symm⟩
theorem Bs {k:Nat} {z:Bool} (hs:r.aa[k]? =some s) (hz:(fK l r r.aa.length)[k]? =some z):z=true↔(dq l s).Lo≤(dq l s).Hi:=by
 unfold fK at hz
 rw [List.take_length,fZ,hs] at hz
 rw [← Option.some.inj hz]
 exact decide_eq_true_iff
theorem xR (l:bq) (s:aG):(0≤(dq l s).Lo∧(dq l s).Lo≤86400001)∧ -1≤(dq l s).Hi∧(dq l s).Hi≤86400000:=by
 have A:=jm (p:=iB (qz l s) s.Read) (n:=86400001)
 have B:=jm (p:=iF (qz l s) s.Read) (n:=86400001)
 unfold dq BL
 simp only
 omega
/-- the last times from a beam on -/
noncomputable def j5 (l:bq) (r:cO) (rs:List Int) (j:Nat):List Int×Int:=hO (LI l r) (eH l) r.gL j (rs.drop j)
noncomputable def j3 (l:bq) (r:cO) (rs:List Int) (j:Nat):List Int:=List.replicate j 0++(j5 l r rs j).1
noncomputable def ub (l:bq) (r:cO) (rs:List Int) (j:Nat) (x:Int):Int:=if 0≤x then min (j5 l r rs j).2 (LI l r x) else (j5 l r rs j).2
theorem vy:j5 l r rs rs.length=([],r.gL):=by unfold j5; rw [List.drop_length]; rfl
theorem Gk:j3 l r rs rs.length=List.replicate rs.length 0:=by unfold j3; rw [vy]; simp
theorem DY:j3 l r rs 0=jO l r rs:=by unfold j3 j5 jO; simp
theorem p8 {j:Nat} {x:Int} (hj:0<j) (hx:rs[j-1]? =some x):j5 l r rs (j-1)=(ub l r rs j x::(j5 l r rs j).1,ub l r rs j x-eH l (j-1)):=by
 unfold j5 ub
 have hb:=(aZ.1 hx).1
 rw [List.drop_eq_getElem_cons hb,(aZ.1 hx).2,show j-1+1=j by omega]
 simp only [hO]
 rw [show j-1+1=j by omega]
 rfl
theorem G1 {j:Nat} (h:j≤rs.length):(j3 l r rs j).length=rs.length:=by unfold j3 j5; rw [List.length_append,List.length_replicate,sv,List.length_drop]; omega
theorem zU {j:Nat} {x:Int} (hj:0<j) (hx:rs[j-1]? =some x):(j3 l r rs j).set (j-1) (ub l r rs j x)=j3 l r rs (j-1):=by
 unfold j3
 rw [p8 hj hx]
 simp only
 obtain ⟨k,rfl⟩: ∃ k,j=k+1:=⟨j-1,om⟩
 rw [Nat.add_sub_cancel,List.replicate_succ',List.append_assoc,List.set_append_right _ _ sm,List.length_replicate,Nat.sub_self]
 rfl
theorem E2 (hr:0≤r.gL∧r.gL≤86400000) (hl: ∀ b,b<rs.length→0≤eH l b∧eH l b≤500000000) (hrs: ∀ x∈rs,0≤x→x<(r.aa.length:Int)): ∀ (d j:Nat),j+d=rs.length→(-1-500000000*(d:Int))≤(j5 l r rs j).2∧(j5 l r rs j).2≤86400000
 |0,j,h=>by
  obtain rfl:j=rs.length:=by omega
  rw [vy]; simp only; omega
 |d+1,j,h=>by
  have ih:=E2 hr hl hrs d (j+1) om
  have hx:rs[j+1-1]? =some (rs[j]'om):=by rw [Nat.add_sub_cancel]; exact f_ _
  have e:=p8 (l:=l) (r:=r) (j:=j+1) om hx
  rw [Nat.add_sub_cancel] at e
  rw [e]
  simp only
  have A:=hl j om
  unfold ub
  split
  ·rename_i q
   have B:=hrs _ (List.getElem_mem (by omega:j<rs.length)) q
   obtain ⟨s,hs⟩: ∃ s,r.aa[(rs[j]'om).toNat]? =some s:=⟨r.aa[(rs[j]'om).toNat]'om,f_ _⟩
   rw [Eb hs]
   have C:=xR l s
   omega
  ·omega
theorem Jd {t i:Int} (hi:i<0):(t≤r.gL→pG l r n t i=some t)∧(¬ t≤r.gL→pG l r n t i=none):=by
 unfold pG; rw [if_pos hi]; exact ⟨fun h=>if_pos h,fun h=>if_neg h⟩
theorem JU {t i:Int} (hi: ¬ i<0) (hs:r.aa[i.toNat]? =some s) (hb:s.fI=(n:Int)) (hw:(dq l s).Lo≤(dq l s).Hi):(max t (dq l s).Lo≤min r.gL (dq l s).Hi→pG l r n t i=some (max t (dq l s).Lo))∧(¬ max t (dq l s).Lo≤min r.gL (dq l s).Hi→pG l r n t i=none):=by
 unfold pG; rw [if_neg hi,hs]
 exact ⟨fun h=>if_pos ⟨⟨hb,hw⟩,h⟩,fun h=>if_neg fun q=>h q.2⟩
theorem yi {t i:Int} (hi: ¬ i<0) (hs:r.aa[i.toNat]? =some s) (hb: ¬ (s.fI=(n:Int)∧(dq l s).Lo≤(dq l s).Hi)):pG l r n t i=none:=by
 unfold pG; rw [if_neg hi,hs]
 exact if_neg fun q=>hb q.1
theorem uH {x:Int} (hx:rs[i]? =some x):(dN (rs.take (i+1))).right=(dN (rs.take i)).right+(if 0≤x then 1 else 0):=by
 rw [lH hx,oT]
 unfold gE
 simp only [dR]
 by_cases h:x<0
 ·rw [if_pos h,if_neg om]
 ·rw [if_neg h,if_pos om]
end
theorem yp {l:bq} {r:cO} {rs fs:List Int}:(il l r rs fs).length≤1:=by unfold il; split<;>simp
theorem x9 {l:bq} {r:cO} (hr:r.aa.length≤10): ∀ (k:Nat) (rs fs:List Int),(iR l r k rs fs).length≤12^(k+1)
 |0,rs,fs=>by
  unfold iR
  split
  ·simp
  ·have:=yp (l:=l) (r:=r) (rs:=rs) (fs:=fs); omega
 |k+1,rs,fs=>by
  unfold iR
  split
  ·simp
  ·rw [List.length_append]
   have B:=yp (l:=l) (r:=r) (rs:=rs) (fs:=fs)
   have A: ∀ j,(iS l r k rs fs j).length≤j*12^(k+1):=by
    intro j
    induction j with
    |zero=>simp [iS]
    |succ j ih=>
     cases e:pG l r rs.length (gN r.Start fs+eH l rs.length) ((j:Int)-1) with
     |none=>rw [re e,Nat.succ_mul]; exact Nat.le_trans ih (Nat.le_add_right _ _)
     |some t=>rw [nI e,List.length_append,Nat.succ_mul]; exact Nat.add_le_add ih (x9 hr k (rs++[(j:Int)-1]) (fs++[t]))
   have C:=A (r.aa.length+1)
   have D:(r.aa.length+1)*12^(k+1)≤11*12^(k+1):=Nat.mul_le_mul_right _ om
   have E:0<12^(k+1):=Nat.pow_pos dc
   have F:12^(k+1+1)=12*12^(k+1):=by rw [Nat.pow_succ,Nat.mul_comm]
   show (il l r rs fs).length+(iS l r k rs fs (r.aa.length+1)).length≤_
   omega
theorem Jl {l:bq} {r:cO} (hr:r.aa.length≤10) {k j:Nat} {rs fs:List Int} (hk:k≤5) (hj:j≤11):(iS l r k rs fs j).length≤40000000:=by
 have A: ∀ j,(iS l r k rs fs j).length≤j*12^(k+1):=by
  intro j
  induction j with
  |zero=>simp [iS]
  |succ j ih=>
   cases e:pG l r rs.length (gN r.Start fs+eH l rs.length) ((j:Int)-1) with
   |none=>rw [re e,Nat.succ_mul]; exact Nat.le_trans ih (Nat.le_add_right _ _)
   |some t=>rw [nI e,List.length_append,Nat.succ_mul]; exact Nat.add_le_add ih (x9 hr k (rs++[(j:Int)-1]) (fs++[t]))
 have C:=A j
 have B:12^(k+1)≤12^6:=Nat.pow_le_pow_right dc om
 have D:j*12^(k+1)≤11*12^6:=Nat.mul_le_mul hj B
 omega
theorem vw {l:bq} {r:cO} (hr:r.aa.length≤10) {k:Nat} {rs fs:List Int} (hk:k≤6):(iR l r k rs fs).length≤40000000:=by
 have A:=x9 hr k rs fs (l:=l)
 have B:12^(k+1)≤12^7:=Nat.pow_le_pow_right dc om
 omega
noncomputable def kQ (l:bq) (r:cO):List du:=iR l r l.aj.length [] []
section
variable {l:bq} {r:cO}
theorem l3:(di l r).n=l.aj.length:=dx
theorem Oc (hle:e8 l=0) (hr:fW l r):Lh (di l r) (LI l r) (eH l) r.gL:=by
 obtain ⟨ht,B⟩:=dw hle
 refine ⟨fun b=>((nc ht B hr).cY b).1,fun b hb=>(qg (by rw [l3] at hb; exact hb)).symm,U,fun b o hb ho A=>?_,fun b o hb ho A=>?_⟩
 ·rw [l3] at hb
  rcases (vE hb).1 ho with rfl|⟨k,hk,s,hs,q,rfl⟩
  ·simp only at A; omega
  ·exact (Eb (by simpa using hs)).symm
 ·rw [l3] at hb
  rcases (vE hb).1 ho with rfl|⟨k,hk,s,hs,q,rfl⟩
  ·rfl
  ·simp only at A; omega
theorem p_ (hle:e8 l=0) (hr:fW l r) {y:du}:y∈kQ l r↔OF (di l r) (LI l r) (eH l) r.gL y:=by
 obtain ⟨ht,D⟩:=dw hle
 have hl: ∀ n,n<l.aj.length→0≤eH l n:=fun n hn=>by have:=nO ht D (i:=n) hn; omega
 unfold kQ
 rw [Io hl _ _ _ _ sm rfl (Int.le_refl _)]
 constructor
 ·rintro ⟨ss,gs,B,A,rfl,C⟩
  exact ⟨B,by rw [l3]; exact A,U,C⟩
 ·rintro ⟨B,A,E,C⟩
  rw [l3] at A
  exact ⟨y.gp,y.jh,B,A,by rw [List.nil_append,List.nil_append]; unfold jO; rw [← E],C⟩
theorem yC (hle:e8 l=0) (hr:fW l r) {k:Nat} (hk:k≤l.aj.length):((kQ l r).any fun y=>decide (y.gp.length=k))=lh (di l r) (pW (di l r) k):=by
 rw [Bool.eq_iff_iff,CR,List.any_eq_true]
 constructor
 ·rintro ⟨y,hy,e⟩
  have h:=(p_ hle hr).1 hy
  exact ⟨y.gp,y.jh,of_decide_eq_true e,h.chain,h.may⟩
 ·rintro ⟨rs,fs,e,A,B⟩
  exact ⟨⟨rs,fs,(hO (LI l r) (eH l) r.gL 0 rs).1⟩,(p_ hle hr).2 ⟨A,by rw [l3]; simp only; omega,U,B⟩,dC e⟩
theorem fY (hle:e8 l=0) (hr:fW l r):kQ l r=[]↔l6 (di l r)=[]:=by
 constructor
 ·intro h
  apply List.eq_nil_iff_forall_not_mem.2
  intro x hx
  obtain ⟨k,rfl,hk,hm⟩:=CA.1 hx
  rw [l3] at hk
  rw [← yC hle hr hk,h] at hm
  cases hm
 ·intro h
  apply List.eq_nil_iff_forall_not_mem.2
  intro y hy
  have hw:=(p_ hle hr).1 hy
  have:(y.gp.length:Int)∈l6 (di l r):=CA.2 ⟨y.gp.length,rfl,hw.len,CR.2 ⟨_,_,rfl,hw.chain,hw.may⟩⟩
  rw [h] at this; cases this
/-- the times at a beam, by all ways -/
def jt (b:Nat) (ws:List du):List (Int×ai):=ws.filterMap fun y=>match y.gp[b]?,y.jh[b]?,y.mz[b]? with
 |some s,some f,some e=>some (s,⟨f,e⟩)
 |_,_,_=>none
theorem nT {b:Nat} {ws:List du} {q:Int×ai}:q∈jt b ws↔ ∃ y∈ws,y.gp[b]? =some q.1∧y.jh[b]? =some q.2.Lo∧y.mz[b]? =some q.2.Hi:=by
 unfold jt
 rw [List.mem_filterMap]
 constructor
 ·rintro ⟨y,hy,h⟩
  cases e1:y.gp[b]? with
  |none=>rw [e1] at h; cases h
  |some s=>
   cases e2:y.jh[b]? with
   |none=>rw [e1,e2] at h; cases h
   |some f=>
    cases e3:y.mz[b]? with
    |none=>rw [e1,e2,e3] at h; cases h
    |some e=>
     rw [e1,e2,e3] at h; cases h
     exact ⟨y,hy,e1,e2,e3⟩
 ·rintro ⟨y,hy,A,B,C⟩
  exact ⟨y,hy,by rw [A,B,C]⟩
theorem yG {b:Nat} {ws:List du} {y:du} (h:y.gp.length≤b):jt b (ws++[y])=jt b ws:=by
 unfold jt; rw [List.filterMap_append]; simp [List.getElem?_eq_none h]
theorem qB {b:Nat} {ws:List du} {y:du} {s f e:Int} (h1:y.gp[b]? =some s) (h2:y.jh[b]? =some f) (h3:y.mz[b]? =some e):jt b (ws++[y])=jt b ws++[(s,⟨f,e⟩)]:=by
 unfold jt; rw [List.filterMap_append]; simp [h1,h2,h3]
theorem KI (hle:e8 l=0) (hr:fW l r) {y:du} (hy:y∈kQ l r):y.jh.length=y.gp.length∧y.mz.length=y.gp.length∧y.gp.length≤l.aj.length:=by
 have h:=(p_ hle hr).1 hy
 exact ⟨ky _ _ _ _ h.chain,by rw [h.last,sv],by have:=h.len; rwa [l3] at this⟩
theorem uM (hle:e8 l=0) (hr:fW l r) {b:Nat} (hb:b<l.aj.length) {s t:Int}:(∃ q∈s9 (di l r) b,q.1=s∧q.2.Lo≤t∧t≤q.2.Hi)↔ ∃ q∈jt b (kQ l r),q.1=s∧q.2.Lo≤t∧t≤q.2.Hi:=by
 have hh:=Oc hle hr
 rw [MC hh.low (by rw [l3]; exact hb),HZ hh hr.time.2.1 (by rw [l3]; exact hb)]
 constructor
 ·rintro ⟨y,hy,f,e,A,B,C,D,E⟩
  exact ⟨(s,⟨f,e⟩),nT.2 ⟨y,(p_ hle hr).2 hy,A,B,C⟩,U,D,E⟩
 ·rintro ⟨q,hq,rfl,D,E⟩
  obtain ⟨y,hy,A,B,C⟩:=nT.1 hq
  exact ⟨y,(p_ hle hr).1 hy,_,_,A,B,C,D,E⟩
/-- a way's span is none that is empty -/
theorem xN (hle:e8 l=0) (hr:fW l r) {b:Nat} {q:Int×ai} (hq:q∈jt b (kQ l r)):q.2.Lo≤q.2.Hi:=by
 have hh:=Oc hle hr
 obtain ⟨y,hy,C,D,H⟩:=nT.1 hq
 obtain ⟨hc,hn,B,hm⟩:=(p_ hle hr).1 hy
 obtain ⟨R,F,La⟩:=y
 simp only at C D H hc hn B
 have G:=(aZ.1 C).1
 have E:=(aZ.1 D).1
 have L:=ky _ _ _ _ hc
 have eR:R=R.take b++q.1::R.drop (b+1):=by rw [← (aZ.1 C).2]; exact (List.take_append_drop b R).symm.trans (by rw [List.drop_eq_getElem_cons G])
 have eF:F=F.take b++q.2.Lo::F.drop (b+1):=by rw [← (aZ.1 D).2]; exact (List.take_append_drop b F).symm.trans (by rw [List.drop_eq_getElem_cons E])
 rw [eR,eF,r_ _ _ _ _ _ _ (by simp only [List.length_take]; omega)] at hc
 have AA:(R.take b).length=b:=by rw [List.length_take]; omega
 rw [AA,Nat.zero_add] at hc
 obtain ⟨M,⟨o,ho,K,N,O⟩,J⟩:=hc
 have A:=uL (hi:=LI l r) (least:=eH l) (now:=r.gL) 0 (R.take b) q.1 (R.drop (b+1))
 rw [← eR,AA,Nat.zero_add,← B,H] at A
 have A:=Option.some.inj A
 have he:=r9 hh (b+1) q.2.Lo (R.drop (b+1)) (F.drop (b+1)) (by rw [List.length_drop]; omega) om J
 rw [← K] at A
 split at A
 ·rename_i z
  have:=hh.hi b o om ho z
  omega
 ·omega
theorem Dd {a b:List (Int×ai)} {h k:ai} (ha:kO a h) (hb:kO b k) (hab: ∀ x∈b,(∃ y∈a,y.2.Lo≤x.2.Lo)∧ ∃ y∈a,x.2.Hi≤y.2.Hi) (hba: ∀ x∈a,(∃ y∈b,y.2.Lo≤x.2.Lo)∧ ∃ y∈b,x.2.Hi≤y.2.Hi):h=k:=by
 rcases ha with ⟨rfl,rfl⟩|ha
 ·rcases hb with ⟨rfl,rfl⟩|hb
  ·rfl
  ·obtain ⟨x,hx,_⟩:=hb.lo
   obtain ⟨⟨y,hy,_⟩,_⟩:=hab x hx
   cases hy
 ·rcases hb with ⟨rfl,rfl⟩|hb
  ·obtain ⟨x,hx,_⟩:=ha.lo
   obtain ⟨⟨y,hy,_⟩,_⟩:=hba x hx
   cases hy
  ·obtain ⟨M,E,AA⟩:=ha.lo
   obtain ⟨N,F,V⟩:=ha.hi
   obtain ⟨O,G,W⟩:=hb.lo
   obtain ⟨P,H,X⟩:=hb.hi
   obtain ⟨⟨AB,A,Y⟩,_⟩:=hba M E
   obtain ⟨_,J,B,Z⟩:=hba N F
   obtain ⟨⟨K,C,c⟩,_⟩:=hab O G
   obtain ⟨_,L,D,d⟩:=hab P H
   have Q:=hb.all AB A
   have R:=hb.all J B
   have S:=ha.all K C
   have T:=ha.all L D
   apply ai.ext
   ·omega
   ·omega
theorem JE (hle:e8 l=0) (hr:fW l r) {b:Nat} (hb:b<l.aj.length) {h:ai} (hh:kO (jt b (kQ l r)) h):h=oi l r b:=by
 have hk:=vC (l:=s9 (di l r) b) (fun q hq=>oS hq)
 refine Dd hh hk (fun x hx=>?_) (fun x hx=>?_)
 ·have hle':=oS hx
  obtain ⟨y,hy,_,A,C⟩:=(uM hle hr hb (s:=x.1) (t:=x.2.Lo)).1 ⟨x,hx,rfl,Int.le_refl _,hle'⟩
  obtain ⟨z,hz,_,D,B⟩:=(uM hle hr hb (s:=x.1) (t:=x.2.Hi)).1 ⟨x,hx,rfl,hle',Int.le_refl _⟩
  exact ⟨⟨y,hy,A⟩,z,hz,B⟩
 ·have hle':=xN hle hr hx
  obtain ⟨y,hy,_,A,C⟩:=(uM hle hr hb (s:=x.1) (t:=x.2.Lo)).2 ⟨x,hx,rfl,Int.le_refl _,hle'⟩
  obtain ⟨z,hz,_,D,B⟩:=(uM hle hr hb (s:=x.1) (t:=x.2.Hi)).2 ⟨x,hx,rfl,hle',Int.le_refl _⟩
  exact ⟨⟨y,hy,A⟩,z,hz,B⟩
end
def qw (ws:List du) (b:Nat):Int:=if yI (jt b ws)=ny then 6 else 0
def qv (ws:List du) (b:Nat):ai:=if yI (jt b ws)=ny then ⟨0,0⟩ else yI (jt b ws)
theorem Mm {l:List (Int×ai)} {h:ai} (hh:kO l h) (hl: ∀ q∈l,q.2.Lo≤q.2.Hi):yI l=h:=
 Dd (vC hl) hh (fun x hx=>⟨⟨x,hx,Int.le_refl _⟩,x,hx,Int.le_refl _⟩) (fun x hx=>⟨⟨x,hx,Int.le_refl _⟩,x,hx,Int.le_refl _⟩)
theorem Dy {ws:List du} {b:Nat} (h:jt b ws=[]):qw ws b=6∧qv ws b=⟨0,0⟩:=by
 unfold qw qv; rw [h]; exact ⟨if_pos rfl,if_pos rfl⟩
theorem DU {ws:List du} {b:Nat} {o:ai} (hl: ∀ q∈jt b ws,q.2.Lo≤q.2.Hi) (h:oZ (jt b ws) o):qw ws b=0∧qv ws b=o:=by
 have e:=Mm (.inr h) hl
 unfold qw qv; rw [e]; exact ⟨if_neg h.ne,if_neg h.ne⟩
/-- what was found until now -/
def oe (b:Nat) (ws:List du) (fd:Bool) (o:ai):Prop:=(fd=false∧jt b ws=[])∨(fd=true∧oZ (jt b ws) o)
theorem HK {b:Nat} {o:ai}:oe b [] false o:= .inl ⟨rfl,rfl⟩
theorem BZ {q:Int×ai} (hq:q.2.Lo≤q.2.Hi):oZ [q] q.2:=⟨hq,⟨q,sm,rfl⟩,⟨q,sm,rfl⟩,fun x hx=>by simp at hx; subst hx; exact ⟨Int.le_refl _,Int.le_refl _⟩⟩
theorem Ai {l:List (Int×ai)} {h:ai} {q:Int×ai} (hh:oZ l h) (hq:q.2.Lo≤q.2.Hi):oZ (l++[q]) ⟨min q.2.Lo h.Lo,max q.2.Hi h.Hi⟩:=by
 have:=vx (.inr hh) hq
 unfold m0 at this
 rw [if_neg hh.ne] at this
 rcases this with ⟨e,_⟩|this
 ·simp at e
 ·exact this
theorem D2 {b:Nat} {ws:List du} {fd:Bool} {o:ai} {y:du} (h:oe b ws fd o) (hy:y.gp.length≤b):oe b (ws++[y]) fd o:=by
 unfold oe; rw [yG hy]; exact h
theorem C5 {b:Nat} {ws:List du} {fd:Bool} {o:ai} {y:du} {s f e:Int} (h:oe b ws fd o) (hf:fd=false) (h1:y.gp[b]? =some s) (h2:y.jh[b]? =some f) (h3:y.mz[b]? =some e) (hle:f≤e):oe b (ws++[y]) true ⟨f,e⟩:=by
 rcases h with ⟨_,q⟩|⟨q,_⟩
 ·right
  rw [qB h1 h2 h3,q]
  exact ⟨U,BZ hle⟩
 ·rw [q] at hf; cases hf
theorem EC {b:Nat} {ws:List du} {fd:Bool} {o:ai} {y:du} {s f e:Int} (h:oe b ws fd o) (hf:fd=true) (h1:y.gp[b]? =some s) (h2:y.jh[b]? =some f) (h3:y.mz[b]? =some e) (hle:f≤e):oe b (ws++[y]) true ⟨min f o.Lo,max e o.Hi⟩:=by
 rcases h with ⟨q,_⟩|⟨_,q⟩
 ·rw [q] at hf; cases hf
 ·right
  rw [qB h1 h2 h3]
  exact ⟨U,Ai q hle⟩
theorem zD {b:Nat} {ws:List du} {fd:Bool} {o:ai} (h:oe b ws fd o) (hl: ∀ q∈jt b ws,q.2.Lo≤q.2.Hi):(fd=false→qw ws b=6∧qv ws b=⟨0,0⟩)∧(fd=true→qw ws b=0∧qv ws b=o):=by
 rcases h with ⟨q,h⟩|⟨q,h⟩
 ·exact ⟨fun _=>Dy h,fun e=>(by rw [q] at e; cases e)⟩
 ·exact ⟨fun e=>(by rw [q] at e; cases e),fun _=>DU hl h⟩
section
variable {l:bq} {r:cO}
theorem pN (he:fp l r 0=0) {b:Nat} (hb:b<l.aj.length):qw (kQ l r) b=eA l r b∧qv (kQ l r) b=dD l r b:=by
 obtain ⟨A,hr,_,_⟩:=iG he
 have h:=JE A hr hb (vC fun q hq=>xN A hr hq)
 have ho:fp l r (fP l b)=0:=by rw [GD hb]; exact he
 unfold qw qv
 rw [h]
 by_cases e:oi l r b=ny
 ·rw [if_pos e,if_pos e,(rN ho e).1,(rN ho e).2]; exact ⟨rfl,rfl⟩
 ·rw [if_neg e,if_neg e,(q_ ho e).1,(q_ ho e).2]; exact ⟨rfl,rfl⟩
theorem QE (hle:e8 l=0) (hr:fW l r) {y:du} (hy:y∈kQ l r) {b:Nat} {f e:Int} (hb:b<y.gp.length) (h2:y.jh[b]? =some f) (h3:y.mz[b]? =some e):f≤e:=
 xN hle hr (q:=(y.gp[b],⟨f,e⟩)) (nT.2 ⟨y,hy,f_ _,h2,h3⟩)
theorem CX:fp l r (fP l l.bV)=fp l r 0:=by
 by_cases h:e8 l=0
 ·obtain ⟨_,A⟩:=dw h
  have hh:=A.head
  unfold eJ at hh
  rw [ng om]
 ·rw [iQ h,iQ h]
theorem wv (h: ¬ fp l r 0=0):eA l r l.bV=fp l r 0:=by
 have:=(dL (b:=l.bV) (by rw [CX]; exact h)).1
 rw [this,CX]
/-- rows of times that are those of ways -/
structure M6 (ws:List du):Prop where
 lens: ∀ y∈ws,y.jh.length=y.gp.length∧y.mz.length=y.gp.length∧y.gp.length≤6
 le: ∀ y∈ws,∀ (b:Nat) f e,b<y.gp.length→y.jh[b]? =some f→y.mz[b]? =some e→f≤e
 num:ws.length≤40000000
theorem M6.EZ {ws:List du} (h:M6 ws) {b:Nat}: ∀ q∈jt b ws,q.2.Lo≤q.2.Hi:=fun q hq=>by
 obtain ⟨y,hy,A,B,C⟩:=nT.1 hq
 exact h.le y hy b _ _ (aZ.1 A).1 B C
theorem DD (hle:e8 l=0) (hr:fW l r):M6 (kQ l r):=by
 obtain ⟨ht,B⟩:=dw hle
 have hh:=B.head
 unfold eJ at hh
 refine ⟨fun y hy=>?_,fun y hy b f e hb A C=>QE hle hr hy hb A C,vw hr.len om⟩
 obtain ⟨D,A,C⟩:=KI hle hr hy
 exact ⟨D,A,om⟩
/-- is a number of beams told -/
def Qy (ws:List du) (n:Nat):Bool:=ws.any fun y=>decide (y.gp.length=n)
theorem uO {ws:List du} {n:Nat} {y:du}:Qy (ws++[y]) n=(Qy ws n||decide (y.gp.length=n)):=by unfold Qy; rw [List.any_append]; simp
end
end
section
open Go.RowKit
structure IE (S:BS) (w0:World) (X:ay) (C0:List ay) (w:World) (S':BS):Prop where
 st:St S w0 (X::C0) w
 w_: ∀ b,S'.w b↔ ∃ A∈C0,A.wf b
theorem DH {A B:ay} (h:Dn A B):Dn A.ro B:=fun b C D=>⟨fun h=>h,(h b C D).2⟩
theorem Cc {E:fH} {c:Code} {Q:dv} {D:iw} {L:dG} {C C0:List ay} {X:ay} (i:Nat) (hn:decide (i::(List.range C.length).filter fun k=>k != i).Nodup=true) (hC:kR C (i::(List.range C.length).filter fun k=>k != i)=X::C0)
 (h: ∀ w S',IE E.S E.w0 X C0 w S'→WJ ⟨E.P,E.r,E.n,S',w⟩ c Q D L (X.ro::C0)):WJ E c Q D L C:=fun a w hf hs=>by
 have F:=St.kR _ hn hC hs
 obtain ⟨G,H⟩:=List.pairwise_cons.1 F.sep
 refine h w ⟨fun b=> ∃ A∈C0,A.wf b,fun _=>True⟩ ⟨F,fun b=>Iff.rfl⟩ a w hf ⟨dY.refl _ _,fun A hA=>?_,List.Pairwise.cons (fun B hB=>DH (G B hB)) H,fun A hA b hb=>?_,fun A hA b hb=> .inr trivial⟩
 ·rcases cm.1 hA with rfl|hA
  ·exact F.holds X (cr ..)
  ·exact F.holds A (dH _ hA)
 ·rcases cm.1 hA with rfl|hA
  ·exact hb.elim
  ·exact .inr ⟨A,hA,hb⟩
theorem AS {E:fH} {S':BS} {w:World} {K:Act→World→Prop} {D:iw} {L:dG} {C0 C1 C2:List ay} {X:ay} (hz:IE E.S E.w0 X C0 w S') (is:List Nat) (hn:decide is.Nodup=true) (hC:kR C2 is=C1) (hwr:C1.all (·.wr)=true)
 (h:KJ E K D L (X::C1)):KJ ⟨E.P,E.r,E.n,S',w⟩ K D L C2:=fun a w' hf hs=>by
 have F:=St.kR is hn hC hs
 have C:=hz.st
 obtain ⟨J,M⟩:=List.pairwise_cons.1 C.sep
 have AA: ∀ b,X.fO b→ ¬ S'.w b:=fun b hb hw=>by
  obtain ⟨A,hA,hw⟩:=(hz.w_ b).1 hw
  exact (J A hA b hb (A.k9 b hw)).2 hw
 have G: ∀ b,S'.w b→E.w0.heap.size≤b∨E.S.w b:=fun b hb=>by
  obtain ⟨A,hA,hw⟩:=(hz.w_ b).1 hb
  exact C.own A (dH _ hA) b hw
 have H: ∀ A∈C1,∀ b,A.fO b→w.heap.size≤b∨S'.w b:=fun A hA b hb=>F.own A hA b (A.whole (c_.1 hwr A hA) b hb)
 refine h a w' hf ⟨?_,fun A hA=>?_,List.Pairwise.cons (fun B hB b hb hb'=>?_) F.sep,fun A hA b hb=>?_,fun A hA b hb=>?_⟩
 ·refine ⟨F.keeps.os.trans C.keeps.os,F.keeps.tape.trans C.keeps.tape,F.keeps.output.trans C.keeps.output,Nat.le_trans C.keeps.size F.keeps.size,fun k hk hn'=>?_⟩
  refine (F.keeps.block k (Nat.lt_of_lt_of_le hk C.keeps.size) fun hw=>?_).trans (C.keeps.block k hk hn')
  rcases G k hw with q|q
  ·omega
  ·exact hn' q
 ·rcases cm.1 hA with rfl|hA
  ·have hh:=C.holds A (cr ..)
   exact A.pI w w' (fun b hb=>F.keeps.block b (A.lt w hh b hb) (AA b hb)) hh
  ·exact F.holds A hA
 ·exfalso
  have hl:=X.lt w (C.holds X (cr ..)) b hb
  rcases H B hB b hb' with q|q
  ·omega
  ·exact AA b hb q
 ·rcases cm.1 hA with rfl|hA
  ·exact C.own A (cr ..) b hb
  ·rcases F.own A hA b hb with q|q
   ·exact .inl (Nat.le_trans C.keeps.size q)
   ·exact G b q
 ·rcases cm.1 hA with rfl|hA
  ·exact C.seen A (cr ..) b hb
  ·rcases H A hA b hb with q|q
   ·exact .inl (Nat.le_trans C.keeps.size q)
   ·obtain ⟨B,hB,hw⟩:=(hz.w_ b).1 q
    exact C.seen B (dH _ hB) b (B.k9 b hw)
/-- put back, as it was -/
theorem Gg {M A:Type} {f:M→A→List ay} {S:BS} {w0 w:World} {C:List ay} {ms:List M} {asl:List A} {k:Nat} {m:M} {a:A} {X:ay} (hm:ms[k]? =some m) (ha:asl[k]? =some a) (hf:f m a=[X]) (h:St S w0 (X::bQ (gW f ms asl k)::C) w):St S w0 (bQ (bK f ms asl)::C) w:=by
 have B:St S w0 (bQ (gW f ms asl k)::X::C) w:=h.perm (List.Perm.swap _ _ _)
 have D:St S w0 ((f m a++gW f ms asl k)++C) w:=by
  rw [hf]
  exact B.iM.perm (List.perm_middle (a:=X) (l₁:=gW f ms asl k) (l₂:=C))
 exact mK (mo hm ha).symm D.tied
theorem Lr {E:fH} {K:Act→World→Prop} {D:iw} {L:dG} {C C1:List ay} {M A:Type} {f:M→A→List ay} {ms:List M} {asl:List A} {k:Nat} {m:M} {a:A} {X:ay} (i j:Nat) (hm:ms[k]? =some m) (ha:asl[k]? =some a) (hf:f m a=[X])
 (hn:decide (j::i::(List.range C.length).filter fun k=>k != i&&k != j).Nodup=true) (hC:kR C (j::i::(List.range C.length).filter fun k=>k != i&&k != j)=X::bQ (gW f ms asl k)::C1)
 (h:KJ E K D L (bQ (bK f ms asl)::C1)):KJ E K D L C:=fun a w hf' hs=>h a w hf' (Gg hm ha hf (St.kR _ hn hC hs))
theorem zG {M A:Type} {f:M→A→List ay} {ms:List M} {asl:List A} {m:M} {a:A} {X:ay} (hl:ms.length=asl.length) (hf:f m a=[X]):bK f ms asl++[X]=bK f (ms++[m]) (asl++[a]):=by
 rw [jJ hl,← hf]; simp [bK]
theorem zk {E:fH} {K:Act→World→Prop} {D:iw} {L:dG} {C C1:List ay} {M A:Type} {f:M→A→List ay} {ms:List M} {asl:List A} {m:M} {a:A} {X:ay} (i j:Nat) (hf:f m a=[X])
 (hn:decide (j::i::(List.range C.length).filter fun k=>k != i&&k != j).Nodup=true) (hC:kR C (j::i::(List.range C.length).filter fun k=>k != i&&k != j)=X::bQ (bK f ms asl)::C1)
 (h:KJ E K D L (bQ (bK f (m::ms) (a::asl))::C1)):KJ E K D L C:=fun b w hf' hs=>by
 have B:=St.kR _ hn hC hs
 have F:St E.S E.w0 (bQ (bK f ms asl)::X::C1) w:=B.perm (List.Perm.swap _ _ _)
 have G:St E.S E.w0 (bK f (m::ms) (a::asl)++C1) w:=by
  show St E.S E.w0 ((f m a++bK f ms asl)++C1) w
  rw [hf]
  exact F.iM.perm (List.perm_middle (a:=X) (l₁:=bK f ms asl) (l₂:=C1))
 exact h b w hf' G.tied
end
section
open Go.RowKit
abbrev mD (r:Nat):ay:=ju r (.deferred (some []))
theorem M8 (rs:List Nat):(bQ (rs.map mD)).wr=true:=by
 show (rs.map mD).all (·.wr)=true
 rw [c_]
 intro X hX
 obtain ⟨r,_,rfl⟩:=db.1 hX
 rfl
theorem w4 {E:fH} {c:Code} {Q:dv} {D:iw} {L:dG} {C:List ay} {ι:Type} (Di:ι→iw) (Li:ι→dG) (Ci:ι→List ay) (μ:ι→Nat) (x0:ι)
 (hD:D=Di x0) (h0:cR L (Li x0)) (hC: ∀ w,St E.S E.w0 C w→St E.S E.w0 (Ci x0) w)
 (round: ∀ x (J:Act→World→Prop),(∀ y D' L' C',D'=Di y→μ y<μ x→cR L' (Li y)→(∀ w,St E.S E.w0 C' w→St E.S E.w0 (Ci y) w)→KJ E J D' L' C')→WJ E c (Exit.then J Q) (Di x) (Li x) (Ci x)):WJ E (.loop c) Q D L C:=by
 intro a w hf hs
 subst hD
 have H: ∃ x,Fr E.n (Di x) (Li x) a∧St E.S E.w0 (Ci x) w:=⟨x0,hf.sub h0,hC w hs⟩
 clear hf hs
 have key: ∀ (m:Nat) (a:Act) (w:World),(∃ x,μ x=m∧Fr E.n (Di x) (Li x) a∧St E.S E.w0 (Ci x) w)→(Code.loop c).wpIn (Fw E.r) 0 E.P Q a w:=by
  intro m a w hx
  refine wpIn_loop (fun a w=> ∃ x,Fr E.n (Di x) (Li x) a∧St E.S E.w0 (Ci x) w) (fun a w=>leastOf fun k=> ∃ x,μ x=k∧Fr E.n (Di x) (Li x) a∧St E.S E.w0 (Ci x) w) (by obtain ⟨x,_,h⟩:=hx; exact ⟨x,h⟩) ?_
  intro a w hx
  have F: ∃ k,∃ x,μ x=k∧Fr E.n (Di x) (Li x) a∧St E.S E.w0 (Ci x) w:=by obtain ⟨x,h⟩:=hx; exact ⟨_,x,rfl,h⟩
  obtain ⟨x,K,AA,M⟩:=(leastOf_spec F).1
  refine round x _ ?_ a w AA M
  intro y D' L' C' hD G A B a' w' hf' hs'
  subst hD
  refine ⟨⟨y,hf'.sub A,B _ hs'⟩,?_⟩
  rw [← K]
  exact Nat.lt_of_le_of_lt ((leastOf_spec ⟨_,y,U,hf'.sub A,B _ hs'⟩).2 _ ⟨y,U,hf'.sub A,B _ hs'⟩) G
 obtain ⟨x,h⟩:=H
 exact key _ a w ⟨x,U,h⟩
theorem St.TV {S:BS} {w0 w:World} {C X:List ay} {A:ay} (h:St S w0 (A::bQ X::C) w):St S w0 (bQ (A::X)::C) w:=by
 have B:St S w0 (bQ X::A::C) w:=h.perm (List.Perm.swap _ _ _)
 have D:St S w0 ((A::X)++C) w:=B.iM.perm (List.perm_middle (a:=A) (l₁:=X) (l₂:=C))
 exact D.tied
theorem H_ {E:fH} {K:Act→World→Prop} {D:iw} {L:dG} {C C1 X:List ay} {A:ay} (i j:Nat) (hn:decide (j::i::(List.range C.length).filter fun k=>k != i&&k != j).Nodup=true) (hC:kR C (j::i::(List.range C.length).filter fun k=>k != i&&k != j)=A::bQ X::C1)
 (h:KJ E K D L (bQ (A::X)::C1)):KJ E K D L C:=fun a w hf hs=>h a w hf ((St.kR _ hn hC hs).TV)
theorem D3 {E:fH} {K:Act→World→Prop} {D:iw} {L:dG} {C:List ay} (h:KJ E K D L (bQ []::C)):KJ E K D L C:=fun a w hf hs=>h a w hf hs.Pp
theorem P2 {E:fH} {K:Act→World→Prop} {D:iw} {L:dG} (C1 C2:List ay) (h:KJ E K D L (bQ C1::C2)):KJ E K D L (C1++C2):=fun a w hf hs=>h a w hf (St.tied hs)
theorem L8 {E:fH} {fn:Func} {R:Ending→World→Prop} {D:iw} {L:dG} {C C1:List ay} {rs:List Nat} (i:Nat) (hn:decide (i::(List.range C.length).filter fun k=>k != i).Nodup=true) (hC:kR C (i::(List.range C.length).filter fun k=>k != i)=bQ (rs.map mD)::C1)
 (h:LJ E fn R D L C1):LJ E fn R (rs.map j0++D) L C:=by
 have key: ∀ rs:List Nat,LJ E fn R (rs.map j0++D) L (bQ (rs.map mD)::C1):=by
  intro rs
  induction rs with
  |nil=>exact fun a w hf hs=>h a w hf (hs.take (List.sublist_cons_self _ _))
  |cons r rs ih=>
   have A:LJ E fn R (j0 r::(rs.map j0++D)) L (mD r::bQ (rs.map mD)::C1):=rl 0 rfl rfl (fun a w hf hs=>ih a w hf (hs.take (List.sublist_cons_self _ _)))
   intro a w hf hs
   refine A a w hf ?_
   have B:St E.S E.w0 ((mD r::rs.map mD)++C1) w:=St.iM (C1:=mD r::rs.map mD) hs
   have F:St E.S E.w0 (rs.map mD++(mD r::C1)) w:=B.perm (List.perm_middle (a:=mD r) (l₁:=rs.map mD) (l₂:=C1)).symm
   exact F.tied.perm (List.Perm.swap _ _ _)
 exact fun a w hf hs=>key rs a w hf (St.kR _ hn hC hs)
theorem JQ {E:fH} {fn:Func} {R:Ending→World→Prop} {L:dG} {C C1:List ay} {rs:List Nat} (i:Nat) (hn:decide (i::(List.range C.length).filter fun k=>k != i).Nodup=true) (hC:kR C (i::(List.range C.length).filter fun k=>k != i)=bQ (rs.map mD)::C1)
 (h:LJ E fn R [] L C1):LJ E fn R (rs.map j0) L C:=by
 have:=L8 (D:=[]) i hn hC h
 rwa [List.append_nil] at this
end
section
open Go.RowKit
/-- a row is taken that was made before; an operation -/
inductive gf where
 |take (i:Nat)
 |op (j:Nat)
def gf.ix:gf→Nat
 | .take i=>i
 | .op j=>j
def Dg (dO:Nat→Nat):List gf→List Nat
 |[]=>[]
 | .take i::s=>dO i::Dg dO s
 | .op _::s=>Dg dO s
theorem uy {dO:Nat→Nat} {i:Nat}: ∀ {s:List gf},gf.take i∈s→dO i∈Dg dO s
 | .take k::s,h=>by
  rcases cm.1 h with e|h
  ·cases e; exact cr ..
  ·exact dH _ (uy h)
 | .op k::s,h=>by
  rcases cm.1 h with e|h
  ·cases e
  ·exact uy (s:=s) h
def rB (m:Array Nat) (dO:Nat→Nat) (x y:gf):Bool:=x.ix != y.ix&&(match y with | .op j=>jd m x.ix j| .take i=>match x with | .take k=>dO k != dO i| .op _=>true)
def TS (m:Array Nat) (dO:Nat→Nat):List gf→Bool
 |[]=>true
 |x::s=>s.all (rB m dO x)&&TS m dO s
theorem Ft {m:Array Nat} {dO:Nat→Nat}: ∀ {s:List gf},TS m dO s=true→s.Pairwise fun x y=>rB m dO x y=true
 |[],_=>List.Pairwise.nil
 |x::s,h=>by
  simp only [TS,dk] at h
  exact List.Pairwise.cons (fun y hy=>c_.1 h.1 y hy) (Ft h.2)
/-- what is known of the slots B is known in L -/
def C9 (B L:dG):Prop:= ∀ t v,B.lookup t=some v→L.lookup t=some v
theorem Ah {B L:dG} (h:B.map (fun p=>L.lookup p.1)=B.map (fun p=>some p.2)):C9 B L:=by
 induction B with
 |nil=>intro t v h; simp at h
 |cons p B ih=>
  obtain ⟨k,u⟩:=p
  simp only [List.map_cons,List.cons.injEq] at h
  intro t v hl
  by_cases e:t=k
  ·subst e
   simp only [List.lookup,beq_self_eq_true,Option.some.injEq] at hl
   rw [h.1,hl]
  ·have:(t==k)=false:=by simpa using e
   simp only [List.lookup,this] at hl
   exact ih h.2 t v hl
theorem ou {L Y:dG} {t:Nat}:(L++Y).lookup t=match L.lookup t with |some v=>some v|none=>Y.lookup t:=by
 induction L with
 |nil=>rfl
 |cons p L ih=>
  obtain ⟨k,u⟩:=p
  by_cases e:t==k
  ·simp [List.lookup,e]
  ·have:(t==k)=false:=by simpa using e
   simp only [List.cons_append,List.lookup,this,ih]
theorem C9.app {B L Y:dG} (h:C9 B L):C9 B (L++Y):=fun t v ht=>by rw [ou,h t v ht]
theorem Qx {B L:dG} (h:C9 B L) {x:Operand} {v:Value} (hv:ev B x=some v):ev L x=some v:=by
 cases x<;>simp only [ev] at hv ⊢ <;>first|exact h _ _ hv|exact hv
theorem Ga {B L:dG} (h:C9 B L): ∀ {xs:List Operand} {vs:List Value},evs B xs=some vs→evs L xs=some vs
 |[],vs,hv=>hv
 |x::xs,vs,hv=>by
  simp only [evs] at hv ⊢
  cases e1:ev B x with
  |none=>rw [e1] at hv; simp at hv
  |some v=>
   cases e2:evs B xs with
   |none=>rw [e1,e2] at hv; simp at hv
   |some us=>
    rw [e1,e2] at hv
    rw [Qx h e1,Ga h e2]; exact hv
section
variable (E:fH) (ops:Array Oper) (D:List Deferred) (C':List ay) (K0:Act→World→Prop) (B:List (Nat×Value)) (dO:Nat→Nat) (VO:Nat→Nat→Value) (AO:Nat→Nat→ay)
def CH:List gf→dG→List ay→Prop
 |[],L,C=>KJ E K0 D L C
 | .take i::s,L,C=> ∀ b,CH s ((dO i,VO i b)::L) (AO i b::C)
 | .op j::s,L,C=> ∀ o,ops[j]? =some o→ ∀ (Y:dG) (X:List ay) (K:Act→World→Prop),(∀ L' C'',(∀ w,St E.S E.w0 C'' w→St E.S E.w0 C' w)→((Dg dO s).all fun d=>(L'.lookup d).isNone)=true→B.map (fun p=>L'.lookup p.1)=B.map (fun p=>some p.2)→CH s L' C''→KJ E K D (L'++Y) (C''++X))→RJ E ops (NQ K) [o] D (L++Y) (C++X)
/-- a row that is made at any time -/
def Tu (i:Nat):Prop:= ∀ o,ops[i]? =some o→ ∀ (L:dG) (C:List ay) (K:Act→World→Prop),C9 B L→(∀ w,St E.S E.w0 C w→St E.S E.w0 C' w)→(∀ b,KJ E K D ((dO i,VO i b)::L) (AO i b::C))→RJ E ops (NQ K) [o] D L C
end
section
variable {E:fH} {ops:Array Oper} {D:List Deferred} {C' C1:List ay} {K0:Act→World→Prop} {B:List (Nat×Value)} {dO:Nat→Nat} {VO:Nat→Nat→Value} {AO:Nat→Nat→ay}
theorem Nu {Q:dv} {rest:List Oper} {L L2:dG} {C C2:List ay} (hL: ∀ a,Fr E.n D L a→Fr E.n D L2 a) (hC: ∀ w,St E.S E.w0 C w→St E.S E.w0 C2 w) (h:RJ E ops Q rest D L2 C2):RJ E ops Q rest D L C:=fun a w hf hs=>h a w (hL a hf) (hC w hs)
theorem ER {K:Act→World→Prop} {L L2:dG} {C C2:List ay} (hL: ∀ a,Fr E.n D L a→Fr E.n D L2 a) (hC: ∀ w,St E.S E.w0 C w→St E.S E.w0 C2 w) (h:KJ E K D L2 C2):KJ E K D L C:=fun a w hf hs=>h a w (hL a hf) (hC w hs)
theorem Fa {n:Nat} {L L2:dG} (h: ∀ t v,L2.lookup t=some v→L.lookup t=some v) (a:Act) (hf:Fr n D L a):Fr n D L2 a:=⟨hf.defers,hf.size,fun t v ht=>hf.at_ t v (h t v ht)⟩
theorem DA: ∀ (T0 s':List gf) (dn:List (Nat×Nat)) (L Y:dG) (C:List ay),(∀ x∈T0,∃ i b,x= .take i∧(i,b)∈dn)→(T0++s').Pairwise (fun x y=>rB (qR ops) dO x y=true)→(dn.map (·.1)).Nodup→(∀ p∈dn,gf.take p.1∈T0++s')→(∀ p∈dn,Y.lookup (dO p.1)=some (VO p.1 p.2))→(∀ i,gf.take i∈T0++s'→L.lookup (dO i)=none)→
 CH E ops D C' K0 B dO VO AO (T0++s') L C→ ∃ (dn':List (Nat×Nat)) (L':dG) (C2:List ay),CH E ops D C' K0 B dO VO AO s' L' C2∧(dn'.map (·.1)).Nodup∧(∀ p,p∈dn'↔p∈dn∧gf.take p.1∈s')∧(∀ t v,(L'++Y).lookup t=some v→(L++Y).lookup t=some v)∧(∀ i,gf.take i∈s'→L'.lookup (dO i)=none)∧(∀ w,St E.S E.w0 (C++dn.map fun p=>AO p.1 p.2) w→St E.S E.w0 (C2++dn'.map fun p=>AO p.1 p.2) w)
 |[],s',dn,L,Y,C,_,_,hn,hm,_,hl,h=>⟨dn,L,C,h,hn,fun p=>⟨fun q=>⟨q,hm p q⟩,fun q=>q.1⟩,fun t v q=>q,hl,fun w q=>q⟩
 |x::T0,s',dn,L,Y,C,ht,hp,hn,hm,hy,hl,h=>by
  obtain ⟨i,b,rfl,hb⟩:=ht x (cr ..)
  obtain ⟨J,P⟩:=List.pairwise_cons.1 hp
  have AB: ∀ y∈T0++s',i≠y.ix:=fun y hy e=>by
   have:=J y hy
   simp only [rB,dk,bne_iff_ne,gf.ix] at this
   exact this.1 e
  have N: ∀ k,gf.take k∈T0++s'→dO k≠dO i:=fun k hk e=>by
   have:=J _ hk
   simp only [rB,dk,bne_iff_ne] at this
   exact this.2 e.symm
  have K:dn.Perm ((i,b)::dn.erase (i,b)):=List.perm_cons_erase hb
  have H:((dn.erase (i,b)).map (·.1)).Nodup∧i ∉ (dn.erase (i,b)).map (·.1):=by
   have:=(K.map (·.1)).nodup_iff.1 hn
   exact ⟨(List.nodup_cons.1 this).2,(List.nodup_cons.1 this).1⟩
  have A: ∀ p∈dn.erase (i,b),p∈dn∧p.1≠i:=fun p hp=>⟨List.mem_of_mem_erase hp,fun e=>by have q:=List.mem_map_of_mem (f:=fun p:Nat×Nat=>p.1) hp; simp only [e] at q; exact H.2 q⟩
  have O:L.lookup (dO i)=none:=hl i (cr ..)
  obtain ⟨dn',L',C2,R,T,AA,V,W,X⟩:=DA T0 s' (dn.erase (i,b)) ((dO i,VO i b)::L) Y (AO i b::C) (fun x hx=>by
   obtain ⟨k,c,rfl,hk⟩:=ht x (dH _ hx)
   refine ⟨k,c,U,?_⟩
   have F:k≠i:=fun e=>AB _ (List.mem_append_left _ hx) e.symm
   exact (List.mem_erase_of_ne (fun e=>F (congrArg Prod.fst e))).2 hk) P H.1 (fun p hp=>by
   obtain ⟨M,G⟩:=A p hp
   rcases cm.1 (hm p M) with e|e
   ·injection e with e; exact absurd e G
   ·exact e) (fun p hp=>hy p (A p hp).1) (fun k hk=>by
   have:(dO k==dO i)=false:=by simpa using N k hk
   simp only [List.lookup,this]
   exact hl k (dH _ hk)) (h b)
  refine ⟨dn',L',C2,R,T,fun p=>?_,fun t v hv=>?_,W,fun w hw=>X w ?_⟩
  ·rw [AA]
   constructor
   ·rintro ⟨M,G⟩; exact ⟨(A p M).1,G⟩
   ·rintro ⟨M,G⟩
    have F:p.1≠i:=fun e=>AB _ (List.mem_append_right _ G) e.symm
    exact ⟨(List.mem_erase_of_ne (fun e=>F (congrArg Prod.fst e))).2 M,G⟩
  ·have:=V t v hv
   rw [ou] at this ⊢
   by_cases e:t=dO i
   ·subst e
    simp only [List.lookup,beq_self_eq_true] at this
    rw [O]; simp only
    rw [hy _ hb]; exact this
   ·have Q:(t==dO i)=false:=by simpa using e
    simp only [List.lookup,Q] at this
    exact this
  ·refine hw.perm ?_
   show (C++dn.map fun p=>AO p.1 p.2).Perm (AO i b::(C++(dn.erase (i,b)).map fun p=>AO p.1 p.2))
   refine ((K.map fun p:Nat×Nat=>AO p.1 p.2).append_left C).trans ?_
   exact List.perm_middle
theorem CN: ∀ (s:List gf) (j:Nat),gf.op j∈s→ ∃ T0 k s',s=T0++gf.op k::s'∧ ∀ x∈T0,∃ i,x=gf.take i
 | .take i::s,j,h=>by
  rcases cm.1 h with e|h
  ·cases e
  ·obtain ⟨T0,k,s',rfl,A⟩:=CN s j h
   exact ⟨.take i::T0,k,s',U,fun x hx=>by
    rcases cm.1 hx with rfl|hx
    ·exact ⟨i,U⟩
    ·exact A x hx⟩
 | .op k::s,j,_=>⟨[],k,s,rfl,fun x hx=>by cases hx⟩
def k6 (s:List gf) (dn:List (Nat×Nat)):List Nat:=(s.map gf.ix).filter fun i=> !(dn.map (·.1)).contains i
theorem sB {s:List gf} {dn:List (Nat×Nat)} {i:Nat}:i∈k6 s dn↔(∃ x∈s,x.ix=i)∧ ∀ p∈dn,p.1≠i:=by
 unfold k6
 rw [List.mem_filter,db]
 refine and_congr Iff.rfl ?_
 rw [Bool.not_eq_true',← Bool.not_eq_true,List.contains_iff_mem,db]
 constructor
 ·intro h p hp e; exact h ⟨p,hp,e⟩
 ·rintro h ⟨p,hp,e⟩; exact h p hp e
theorem rI (hal: ∀ i,Tu E ops D C' B dO VO AO i∨True): ∀ (n:Nat) (s:List gf) (dn:List (Nat×Nat)) (L Y:dG) (C:List ay),(∀ i,gf.take i∈s→Tu E ops D C' B dO VO AO i)→s.Pairwise (fun x y=>rB (qR ops) dO x y=true)→(k6 s dn).length=n→(dn.map (·.1)).Nodup→(∀ p∈dn,gf.take p.1∈s)→(∀ p∈dn,Y.lookup (dO p.1)=some (VO p.1 p.2))→(∀ i,gf.take i∈s→L.lookup (dO i)=none)→C9 B L→
 (∀ w,St E.S E.w0 C w→St E.S E.w0 C' w)→CH E ops D C' K0 B dO VO AO s L C→TN E ops D C' C1 (fun L C=>KJ E K0 D L C) [] n (k6 s dn) (L++Y) (C++dn.map fun p=>AO p.1 p.2)
 |0,s,dn,L,Y,C,_,hp,hlen,hn,hm,hy,hl,hB,hC,h=>by
  have hr:k6 s dn=[]:=kH hlen
  have Q: ∀ x∈s,∃ i b,x=gf.take i∧(i,b)∈dn:=fun x hx=>by
   have hx':x.ix ∉ k6 s dn:=by rw [hr]; exact List.not_mem_nil
   rw [sB] at hx'
   have: ∃ p∈dn,p.1=x.ix:=by
    apply Classical.byContradiction
    intro q
    exact hx' ⟨⟨x,hx,U⟩,fun p hp e=>q ⟨p,hp,e⟩⟩
   obtain ⟨p,T,AA⟩:=this
   have ht:=hm p T
   rcases List.mem_iff_getElem.1 hx with ⟨a,ha,ea⟩
   rcases List.mem_iff_getElem.1 ht with ⟨c,hc,ec⟩
   have d:a=c:=by
    rcases Nat.lt_trichotomy a c with q|q|q
    ·have:=eZ.1 hp a c ha hc q
     simp only [rB,dk,bne_iff_ne,ea,ec] at this
     exact absurd AA.symm this.1
    ·exact q
    ·have:=eZ.1 hp c a hc ha q
     simp only [rB,dk,bne_iff_ne,ea,ec] at this
     exact absurd AA this.1
   subst d
   exact ⟨p.1,p.2,by rw [← ea,ec],T⟩
  obtain ⟨dn',L',C2,V,J,O,W,h5,X⟩:=DA s [] dn L Y C Q (by simpa using hp) hn (by simpa using hm) hy (by simpa using hl) (by simpa using h)
  show KJ E K0 D _ _
  have hd:dn'=[]:=List.eq_nil_iff_forall_not_mem.2 fun p hp=>by have:=((O p).1 hp).2; cases this
  subst hd
  refine ER (L2:=L') (C2:=C2) (fun a hf=>Fa (fun t v ht=>W t v (by rw [ou,ht])) a hf) (fun w hw=>by have:=X w hw; simpa using this) V
 |n+1,s,dn,L,Y,C,hal',hp,hlen,hn,hm,hy,hl,hB,hC,h=>by
  intro i hi o ho K hK
  obtain ⟨G,m⟩:=List.mem_filter.1 hi
  obtain ⟨⟨x,hx,rfl⟩,H⟩:=sB.1 G
  have A: ∀ k∈k6 s dn,jd (qR ops) k x.ix=false:=fun k hk=>by
   have:=c_.1 m k hk
   simpa using this
  cases x with
  |take i=>
   simp only [gf.ix] at H A ho hK G ⊢
   refine hal' i hx o ho _ _ K hB.app (fun w hw=>hC w (hw.take (List.sublist_append_left _ _))) fun b=>?_
   have l:=hl i hx
   have AB:(k6 s dn).filter (· != i)=k6 s ((i,b)::dn):=by
    unfold k6
    rw [List.filter_filter]
    apply List.filter_congr
    intro k _
    simp only [List.map_cons,List.contains_cons,Bool.not_or]
    rfl
   have N:(k6 s dn).Nodup:=by
    unfold k6
    refine List.Nodup.sublist List.filter_sublist<|List.pairwise_map.2 (hp.imp fun {a c} q=>?_)
    simp only [rB,dk,bne_iff_ne] at q
    exact q.1
   have M: ∀ k,gf.take k∈s→k≠i→dO k≠dO i:=fun k hk AC e=>by
    rcases List.mem_iff_getElem.1 hx with ⟨a,ha,ea⟩
    rcases List.mem_iff_getElem.1 hk with ⟨c,hc,ec⟩
    rcases Nat.lt_trichotomy a c with q|q|q
    ·have:=eZ.1 hp a c ha hc q
     simp only [rB,dk,bne_iff_ne,ea,ec] at this
     exact this.2 e.symm
    ·subst q; rw [ea] at ec; cases ec; exact AC rfl
    ·have:=eZ.1 hp c a hc ha q
     simp only [rB,dk,bne_iff_ne,ea,ec] at this
     exact this.2 e
   refine ER (L2:=L++((dO i,VO i b)::Y)) (C2:=C++((i,b)::dn).map fun p=>AO p.1 p.2) (fun a hf=>Fa (fun t v ht=>?_) a hf) (fun w hw=>hw.perm (List.perm_middle).symm) (hK _ _ (fun w hw=>hC w (hw.take (List.sublist_append_left _ _))) (fun q=>by cases q) ?_)
   ·rw [ou] at ht
    by_cases e:t=dO i
    ·subst e
     rw [l] at ht
     simp only [List.lookup,beq_self_eq_true] at ht ⊢
     exact ht
    ·have e2:(t==dO i)=false:=by simpa using e
     simp only [List.lookup,e2] at ht ⊢
     rw [ou]; exact ht
   ·rw [AB]
    refine rI hal n s ((i,b)::dn) L ((dO i,VO i b)::Y) C hal' hp ?_ (List.nodup_cons.2 ⟨fun q=>?_,hn⟩) (fun p hp'=>?_) (fun p hp'=>?_) hl hB hC h
    ·rw [← AB,← List.Nodup.erase_eq_filter N,List.length_erase_of_mem G,hlen]; rfl
    ·obtain ⟨p,hp',e⟩:=db.1 q
     exact H p hp' e
    ·rcases cm.1 hp' with rfl|hp'
     ·exact hx
     ·exact hm p hp'
    ·rcases cm.1 hp' with rfl|hp'
     ·simp [List.lookup]
     ·have:(dO p.1==dO i)=false:=by simpa using M p.1 (hm p hp') (H p hp')
      simp only [List.lookup,this]
      exact hy p hp'
  |op j=>
   simp only [gf.ix] at H A ho hK G ⊢
   obtain ⟨T0,k,s',rfl,hT⟩:=CN s j hx
   obtain ⟨q1,q2,q3⟩:=List.pairwise_append.1 hp
   obtain ⟨q4,q5⟩:=List.pairwise_cons.1 q2
   have R: ∀ k',gf.op k'∈T0++gf.op k::s'→k'∈k6 (T0++gf.op k::s') dn:=fun k' hk'=>by
    refine sB.2 ⟨⟨_,hk',U⟩,fun p hp' e=>?_⟩
    have ht:=hm p hp'
    rcases List.mem_iff_getElem.1 hk' with ⟨a,ha,ea⟩
    rcases List.mem_iff_getElem.1 ht with ⟨c,hc,ec⟩
    rcases Nat.lt_trichotomy a c with q|q|q
    ·have:=eZ.1 hp a c ha hc q
     simp only [rB,dk,bne_iff_ne,ea,ec,gf.ix] at this
     exact this.1 e.symm
    ·subst q; rw [ea] at ec; cases ec
    ·have:=eZ.1 hp c a hc ha q
     simp only [rB,dk,bne_iff_ne,ea,ec,gf.ix] at this
     exact this.1 e
   have AM:k=j:=by
    apply Classical.byContradiction
    intro Ac
    have hj':gf.op j∈s':=by
     rcases gR.1 hx with q|q
     ·obtain ⟨i,e⟩:=hT _ q; cases e
     ·rcases cm.1 q with e|q
      ·injection e with e; exact absurd e.symm Ac
      ·exact q
    have:=q4 _ hj'
    simp only [rB,dk,gf.ix] at this
    have J:=A k (R k sm)
    rw [this.2] at J; cases J
   subst AM
   have F: ∀ x∈T0,∃ i b,x=gf.take i∧(i,b)∈dn:=fun x hx'=>by
    obtain ⟨i,rfl⟩:=hT x hx'
    apply Classical.byContradiction
    intro q
    have r:i∈k6 (T0++gf.op k::s') dn:=sB.2 ⟨⟨_,List.mem_append_left _ hx',rfl⟩,fun p hp' e=>q ⟨i,p.2,rfl,by rw [← e]; exact hp'⟩⟩
    have:=q3 _ hx' _ (cr ..)
    simp only [rB,dk,gf.ix] at this
    have J:=A i r
    rw [this.2] at J; cases J
   obtain ⟨dn',L',C2,V,J,O,W,h5,X⟩:=DA T0 (gf.op k::s') dn L Y C F hp hn hm hy hl h
   refine Nu (fun a hf=>Fa W a hf) X (V o ho Y (dn'.map fun p=>AO p.1 p.2) K fun L3 C3 P As Z g=>?_)
   have AB:(k6 (T0++gf.op k::s') dn).filter (· != k)=k6 s' dn':=by
    unfold k6
    rw [List.map_append,List.filter_append,List.map_cons,List.filter_append]
    have e1:(List.map gf.ix T0).filter (fun i=> !(dn.map (·.1)).contains i)=[]:=by
     apply List.filter_eq_nil_iff.2
     intro z hz
     obtain ⟨x,hx',rfl⟩:=db.1 hz
     obtain ⟨i,b,rfl,hb⟩:=F x hx'
     simp only [gf.ix,Bool.not_eq_true',Bool.not_eq_false,List.contains_iff_mem]
     exact List.mem_map_of_mem (f:=(·.1)) hb
    rw [e1]
    simp only [List.filter_nil,List.nil_append]
    have u:k ∉ dn.map (·.1):=fun q=>by
     obtain ⟨p,hp',e⟩:=db.1 q
     exact H p hp' e
    rw [List.filter_cons_of_pos (by simpa [gf.ix] using u),List.filter_cons_of_neg (by simp [gf.ix]),List.filter_filter]
    apply List.filter_congr
    intro z hz
    obtain ⟨y,hy',rfl⟩:=db.1 hz
    have A0:y.ix≠k:=fun e=>by
     have:=q4 y hy'
     simp only [rB,dk,bne_iff_ne,gf.ix] at this
     exact this.1 e.symm
    rw [Bool.eq_iff_iff]
    simp only [dk,bne_iff_ne,Bool.not_eq_true',← Bool.not_eq_true,List.contains_iff_mem]
    constructor
    ·rintro ⟨_,hq⟩ hc
     obtain ⟨p,hp',e⟩:=db.1 hc
     exact hq (by rw [← e]; exact List.mem_map_of_mem (f:=(·.1)) ((O p).1 hp').1)
    ·intro hq
     refine ⟨A0,fun hc=>?_⟩
     obtain ⟨p,hp',e⟩:=db.1 hc
     apply hq
     rw [← e]
     refine List.mem_map_of_mem (f:=(·.1)) ((O p).2 ⟨hp',?_⟩)
     have ht:=hm p hp'
     rcases gR.1 ht with ht|ht
     ·exfalso
      have:=q3 _ ht _ (dH _ hy')
      simp only [rB,dk,bne_iff_ne,gf.ix] at this
      exact this.1 e
     ·exact ht
   have N:(k6 (T0++gf.op k::s') dn).Nodup:=by
    unfold k6
    refine List.Nodup.sublist List.filter_sublist<|List.pairwise_map.2 (hp.imp fun {a c} q=>?_)
    simp only [rB,dk,bne_iff_ne] at q
    exact q.1
   refine hK _ _ (fun w hw=>P w (hw.take (List.sublist_append_left _ _))) (fun q=>by cases q) ?_
   rw [AB]
   have hdn': ∀ p∈dn',gf.take p.1∈s':=fun p hp'=>by
    rcases cm.1 ((O p).1 hp').2 with e|e
    ·cases e
    ·exact e
   refine rI hal n s' dn' L3 Y C3 (fun i hi=>hal' i (by simp [hi])) q5 ?_ J hdn' (fun p hp'=>hy p ((O p).1 hp').1) (fun i hi=>?_) (Ah Z) P g
   ·rw [← AB,← List.Nodup.erase_eq_filter N,List.length_erase_of_mem G,hlen]; rfl
   ·have:=c_.1 As _ (uy hi)
    simpa using this
/-- the rows, at any time; the others, one after the other -/
theorem NC {tb rem:List Nat} {L:dG} {C:List ay} (s:List gf) (B:dG) (dO:Nat→Nat) (VO:Nat→Nat→Value) (AO:Nat→Nat→ay) {n:Nat} (htb:tb=[]) (hr:s.map gf.ix=rem) (hn:rem.length=n) (hp:TS (qR ops) dO s=true) (hl:((Dg dO s).all fun d=>(L.lookup d).isNone)=true) (hB:B.map (fun p=>L.lookup p.1)=B.map (fun p=>some p.2)) (hC: ∀ w,St E.S E.w0 C w→St E.S E.w0 C' w)
 (hal: ∀ i,gf.take i∈s→Tu E ops D C' B dO VO AO i) (h:CH E ops D C' K0 B dO VO AO s L C):TN E ops D C' C1 (fun L C=>KJ E K0 D L C) tb n rem L C:=by
 subst htb hr
 have e:k6 s []=s.map gf.ix:=by unfold k6; simp
 have:=rI (C1:=C1) (fun i=> .inr trivial) n s [] L [] C hal (Ft hp) (by rw [e]; exact hn) List.nodup_nil (fun p hp=>by cases hp) (fun p hp=>by cases hp) (fun i hi=>by
  have:=c_.1 hl _ (uy hi)
  simpa using this) (Ah hB) hC h
 simpa [e] using this
theorem Qz {p:Nat→Prop}: ∀ i,gf.take i∈([]:List gf)→p i:=fun i h=>by cases h
theorem xO {p:Nat→Prop} {j:Nat} {s:List gf} (h: ∀ i,gf.take i∈s→p i): ∀ i,gf.take i∈gf.op j::s→p i:=fun i hi=>by
 rcases cm.1 hi with e|hi
 ·cases e
 ·exact h i hi
theorem wQ {p:Nat→Prop} {j:Nat} {s:List gf} (hj:p j) (h: ∀ i,gf.take i∈s→p i): ∀ i,gf.take i∈gf.take j::s→p i:=fun i hi=>by
 rcases cm.1 hi with e|hi
 ·cases e; exact hj
 ·exact h i hi
end
section
variable {E:fH} {ops:Array Oper} {D:List Deferred} {C':List ay} {B:List (Nat×Value)} {dO:Nat→Nat} {VO:Nat→Nat→Value} {AO:Nat→Nat→ay}
variable {d:Nat} {ty:TypeId} {ps:String} {af:Array Edge}
theorem Lt {i t e sz:Nat} (ho:ops[i]? =some ⟨some d,.buildSlice t 0 #[],ty,ps,af,none⟩) (ht:tE E.P t=some (e,sz)) (hd:Nat.blt d E.n=true) (h1:dO i=d) (h2: ∀ b,VO i b= .slice (some ⟨b,0,none⟩) 0 0) (h3: ∀ b,AO i b=cy b e []):Tu E ops D C' B dO VO AO i:=fun o ho' L C K hB _ hk=>by
 rw [ho] at ho'; cases ho'
 exact lE U ht hd fun b=>aC (by have:=hk b; rw [h1,h2,h3] at this; exact this)
theorem OK {i t e sz n:Nat} {xs:List Operand} {vs:List Value} {cs zs:List Value} (ho:ops[i]? =some ⟨some d,.buildSlice t n ((xs.zipIdx.map fun p=>(p.2,p.1)).toArray),ty,ps,af,none⟩) (ht:tE E.P t=some (e,sz)) (hz:tZ E.P e=some zs) (hx:evs B xs=some vs) (hn:xs.length=n) (hp:Nat.blt 0 (n*sz)=true) (hb:Nat.ble (n*sz) 16777216=true) (hv: ∀ v∈vs,v.cells.size=sz)
 (hc:(vs.map (·.cells.toList)).flatten=cs) (hd:Nat.blt d E.n=true) (h1:dO i=d) (h2: ∀ b,VO i b= .slice (some ⟨b,0,none⟩) n n) (h3: ∀ b,AO i b=cy b e cs):Tu E ops D C' B dO VO AO i:=fun o ho' L C K hB _ hk=>by
 rw [ho] at ho'; cases ho'
 exact e_ U ht hz (Ga hB hx) hn hp hb hv hc hd fun b=>aC (by have:=hk b; rw [h1,h2,h3] at this; exact this)
end
section
variable {E:fH} {ops:Array Oper} {D:List Deferred} {C':List ay} {K0:Act→World→Prop} {B:List (Nat×Value)} {dO:Nat→Nat} {VO:Nat→Nat→Value} {AO:Nat→Nat→ay}
theorem xP {j:Nat} {s:List gf} {L:dG} {C:List ay} {o:Oper} (ho:ops[j]? =some o)
 (h: ∀ (Y:dG) (X:List ay) (K:Act→World→Prop),(∀ L' C'',(∀ w,St E.S E.w0 C'' w→St E.S E.w0 C' w)→((Dg dO s).all fun d=>(L'.lookup d).isNone)=true→B.map (fun p=>L'.lookup p.1)=B.map (fun p=>some p.2)→CH E ops D C' K0 B dO VO AO s L' C''→KJ E K D (L'++Y) (C''++X))→RJ E ops (NQ K) [o] D (L++Y) (C++X)):CH E ops D C' K0 B dO VO AO (.op j::s) L C:=fun o' ho'=>by
 rw [ho] at ho'; cases ho'
 exact h
theorem tp {s:List gf} {L Y:dG} {C X:List ay} {K:Act→World→Prop} (hT: ∀ L' C'',(∀ w,St E.S E.w0 C'' w→St E.S E.w0 C' w)→((Dg dO s).all fun d=>(L'.lookup d).isNone)=true→B.map (fun p=>L'.lookup p.1)=B.map (fun p=>some p.2)→CH E ops D C' K0 B dO VO AO s L' C''→KJ E K D (L'++Y) (C''++X)) (nL nC:Nat)
 (hL:L.take nL++Y=L) (hC:C.take nC++X=C) (h1: ∀ w,St E.S E.w0 (C.take nC) w→St E.S E.w0 C' w) (h2:((Dg dO s).all fun d=>((L.take nL).lookup d).isNone)=true) (h3:B.map (fun p=>(L.take nL).lookup p.1)=B.map (fun p=>some p.2)) (h:CH E ops D C' K0 B dO VO AO s (L.take nL) (C.take nC)):RJ E ops (NQ K) [] D L C:=by
 have:=hT _ _ h1 h2 h3 h
 rw [hL,hC] at this
 exact aC this
theorem Rm {c:Code} {Q:dv} {L L':dG} {C:List ay} (h:L'.map (fun p=>L.lookup p.1)=L'.map (fun p=>some p.2)) (k:WJ E c Q D L' C):WJ E c Q D L C:=fun a w hf hs=>k a w (Fa (Ah h) a hf) hs
theorem xM: ∀ {C:List ay} {i:Nat} {A:ay},C[i]? =some A→C.Perm (A::C.eraseIdx i)
 |[],i,A,h=>by simp at h
 |x::C,0,A,h=>by
  simp at h; subst h
  exact List.Perm.refl _
 |x::C,i+1,A,h=>((xM (C:=C) (i:=i) (by simpa using h)).cons x).trans (List.Perm.swap _ _ _)
theorem St.front {S:BS} {w0 w:World} {C:List ay} {A:ay} (i:Nat) (hi:C[i]? =some A) (h:St S w0 C w):St S w0 (A::C.eraseIdx i) w:=h.perm (xM hi)
theorem Ge {K:Act→World→Prop} {L:dG} {C:List ay} {A:ay} (i:Nat) (hi:C[i]? =some A) (h:KJ E K D L (A::C.eraseIdx i)):KJ E K D L C:=fun a w hf hs=>h a w hf (hs.front i hi)
theorem rX {Q:dv} {rest:List Oper} {L:dG} {C:List ay} {A:ay} (i:Nat) (hi:C[i]? =some A) (h:RJ E ops Q rest D L (A::C.eraseIdx i)):RJ E ops Q rest D L C:=fun a w hf hs=>h a w hf (hs.front i hi)
end
end
section
open Go.RowKit
theorem BF (l:List du) (az:List k8): ∀ v∈(List.zipWith du.cells l az).flatten,v.oneCell'=true:=by
 induction l generalizing az with
 |nil=>intro v hv; simp at hv
 |cons x l ih=>
  cases az with
  |nil=>intro v hv; simp at hv
  |cons a az=>
   intro v hv
   simp only [List.zipWith_cons_cons,List.flatten_cons,gR] at hv
   rcases hv with hv|hv
   ·simp only [du.cells,xB.cells,cm,List.not_mem_nil,or_false] at hv
    rcases hv with rfl|rfl|rfl<;>rfl
   ·exact ih az v hv
theorem Fi: ∀ (m:du) (a:k8) (w:World),(∀ X∈du.owns m a,X.holds w)→ ∀ X∈du.jW m a,X.holds w:=fun m a w h X hX=>by
 simp only [du.jW,cm,List.not_mem_nil,or_false] at hX
 have A:=n7 (h (own a.1.1 a.1.2 mE 1 (m.gp.map iC)) (by simp [du.owns]))
 have B:=n7 (h (own a.2.1.1 a.2.1.2 mE 1 (m.jh.map iC)) (by simp [du.owns]))
 have C:=n7 (h (own a.2.2.1 a.2.2.2 mE 1 (m.mz.map iC)) (by simp [du.owns]))
 rcases hX with rfl|rfl|rfl
 ·simpa using A
 ·simpa using B
 ·simpa using C
theorem qs: ∀ (l:List du) (az:List k8),(bK du.owns l az).all (·.wr)=true
 |[],_=>rfl
 |_::_,[]=>rfl
 |x::l,a::az=>by
  simp only [bK,List.all_append,dk]
  exact ⟨U,qs l az⟩
theorem Kc (l:List du) (az:List k8):(bQ (bK du.owns l az)).wr=true:=qs l az
theorem KR {l m:List du} {az bz:List k8} (h:az.length=l.length):List.zipWith du.cells (l++m) (az++bz)=List.zipWith du.cells l az++List.zipWith du.cells m bz:=List.zipWith_append h.symm
theorem m8 {l:List du} {az:List k8} (h:az.length=l.length):(List.zipWith du.cells l az).length=l.length:=by rw [List.length_zipWith]; omega
/-- what is read of a thing that is tied, and frozen -/
theorem qy {C L:List ay} {a:OA} {c e sz n:Nat} {es:List (List Value)} (i:Nat) (hC:C[i]? =some (bQ L).ro) (hm:own a c e sz es∈L) (hn:es.length=n):g9 C (rd a n sz es).holds:=fun w hw=>by
 subst hn
 exact n7 ((show (bQ L).holds w from (hw _ (aP hC):(bQ L).ro.holds w)).1 _ hm)
section
variable {E:fH} {ops:Array Oper} {Q:dv} {rest:List Oper} {D:List Deferred} {L:List (Nat×Value)} {C C1:List ay}
theorem St.Qq {S:BS} {w0 w:World} {X C:List ay} {A:ay} (h:St S w0 (bQ (X++[A])::C) w):St S w0 (A::bQ X::C) w:=by
 have B:=h.iM
 have D:St S w0 (X++(A::C)) w:=by simpa using B
 exact D.tied.perm (List.Perm.swap _ _ _)
theorem St.merge {S:BS} {w0 w:World} {X Y C:List ay} (h:St S w0 (bQ X::bQ Y::C) w):St S w0 (bQ (X++Y)::C) w:=by
 have A:St S w0 (bQ Y::(X++C)) w:=(h.iM).perm (List.perm_middle (a:=bQ Y) (l₁:=X) (l₂:=C))
 have B:St S w0 (Y++(X++C)) w:=A.iM
 have D:St S w0 ((X++Y)++C) w:=B.perm (by rw [← List.append_assoc]; exact List.perm_append_comm.append_right _)
 exact D.tied
end
section
variable {E:fH} {ops:Array Oper} {Q:dv} {rest:List Oper} {D:List Deferred} {L:List (Nat×Value)} {C:List ay}
theorem AY {A:ay} {X X':List ay} (e:X++[A]=X') (h:RJ E ops Q rest D L (bQ X'::C)):RJ E ops Q rest D L (A::bQ X::C):=fun a w hf hs=>h a w hf (hs.tie e)
theorem zL {X:List ay} {A:ay} (h:RJ E ops Q rest D L (A::bQ X::C)):RJ E ops Q rest D L (bQ (X++[A])::C):=fun a w hf hs=>h a w hf hs.Qq
theorem KY {K:Act→World→Prop} {ms ns:List du} {az bz:List k8} (hl:az.length=ms.length) (h:KJ E K D L (bQ (bK du.owns (ms++ns) (az++bz))::C)):KJ E K D L (bQ (bK du.owns ms az)::bQ (bK du.owns ns bz)::C):=fun a w hf hs=>h a w hf (by rw [jJ hl.symm]; exact hs.merge)
end
/-- the head of the ways: the way that ends here, if it may -/
def xD (l:bq) (r:cO) (rs fs:List Int) (ra fa:RA) (hz:List k8) (LA:List ay):Prop:=
 ((r.aa.length:Int)-(dN rs).right≤l.ew∧ ∃ la:RA,hz=[(ra,fa,la)]∧LA=[own la.1 la.2 mE 1 ((jO l r rs).map iC)])∨(¬ (r.aa.length:Int)-(dN rs).right≤l.ew∧hz=[]∧LA=[])
theorem xD.len {l:bq} {r:cO} {rs fs:List Int} {ra fa:RA} {hz:List k8} {LA:List ay} (h:xD l r rs fs ra fa hz LA):hz.length=(il l r rs fs).length:=by
 unfold il
 rcases h with ⟨q,la,rfl,rfl⟩|⟨q,rfl,rfl⟩
 ·rw [if_pos q]; rfl
 ·rw [if_neg q]; rfl
theorem xD.wr {l:bq} {r:cO} {rs fs:List Int} {ra fa:RA} {hz:List k8} {LA:List ay} (h:xD l r rs fs ra fa hz LA):LA.all (·.wr)=true:=by
 rcases h with ⟨q,la,rfl,rfl⟩|⟨q,rfl,rfl⟩<;>rfl
theorem H4 {S:BS} {w0 w:World} {l:bq} {r:cO} {rs fs:List Int} {ra fa:RA} {hz az:List k8} {LA:List ay} {R:List du} {A:ay} (hh:xD l r rs fs ra fa hz LA)
 (h:St S w0 [bQ [own ra.1 ra.2 mE 1 (rs.map iC),own fa.1 fa.2 mE 1 (fs.map iC)],A,bQ LA,bQ (bK du.owns R az)] w):St S w0 [bQ (bK du.owns (il l r rs fs++R) (hz++az)++[A])] w:=by
 rw [jJ hh.len.symm]
 have D:St S w0 [own ra.1 ra.2 mE 1 (rs.map iC),own fa.1 fa.2 mE 1 (fs.map iC),A,bQ LA,bQ (bK du.owns R az)] w:=h.iM
 rcases hh with ⟨q,la,rfl,rfl⟩|⟨q,rfl,rfl⟩
 ·unfold il
  rw [if_pos q]
  have B:=(St.kR [3,0,1,2,4] rfl rfl D).iM
  have E:=(St.kR [4,1,2,0,3] rfl rfl B).iM
  have C:St S w0 (((bK du.owns [(⟨rs,fs,jO l r rs⟩:du)] [(ra,fa,la)]++bK du.owns R az)++[A])++[]) w:=by
   rw [List.append_nil]
   refine E.perm ?_
   show (bK du.owns R az++(bK du.owns [(⟨rs,fs,jO l r rs⟩:du)] [(ra,fa,la)]++[A])).Perm _
   rw [← List.append_assoc]
   exact List.perm_append_comm.append_right _
  exact C.tied
 ·unfold il
  rw [if_neg q]
  have B:=(St.kR [4,2] rfl rfl D).iM
  have C:St S w0 (((bK du.owns [] []++bK du.owns R az)++[A])++[]) w:=by
   rw [List.append_nil]; exact B
  exact C.tied
theorem Lj {E:fH} {K:Act→World→Prop} {D:iw} {L:dG} {l:bq} {r:cO} {rs fs:List Int} {ra fa:RA} {hz az z:List k8} {LA:List ay} {R W:List du} {A A':ay} (hh:xD l r rs fs ra fa hz LA) (hW:il l r rs fs++R=W) (hz':hz++az=z) (hA:A=A')
 (h:KJ E K D L [bQ (bK du.owns W z++[A'])]):KJ E K D L [bQ [own ra.1 ra.2 mE 1 (rs.map iC),own fa.1 fa.2 mE 1 (fs.map iC)],A,bQ LA,bQ (bK du.owns R az)]:=fun a w hf hs=>h a w hf (by subst hW hz' hA; exact H4 hh hs)
theorem P4 {E:fH} {K:Act→World→Prop} {D:iw} {L:dG} {X A:ay} {W:List du} (h:KJ E K D L [bQ (bK du.owns W []++[A])]):KJ E K D L [X,A]:=fun a w hf hs=>h a w hf (by
 have B:St E.S E.w0 [A] w:=St.kR [1] rfl rfl hs
 have C:St E.S E.w0 (([]++[A])++[]) w:=B
 have e:bK du.owns W []=[]:=by cases W<;>rfl
 rw [e]
 exact C.tied)
theorem HB {E:fH} {K:Act→World→Prop} {D:iw} {L:dG} {C:List ay} (e sz:Nat) (k:KJ E K D L (own none 0 e sz []::C)):KJ E K D L C:=fun a w hf hs=>k a w hf (hs.uu e sz)
end
section
open Go.RowKit
theorem Ff (fs:List FM) (fb:List Nat):(bQ (bK nv fs fb)).wr=true:=by
 show (bK nv fs fb).all (·.wr)=true
 rw [c_]
 intro X hX
 obtain ⟨k,m,a,_,_,h⟩:=ku hX
 simp only [nv,cH] at h
 subst h; rfl
theorem OO (fs:List TM) (fb:List Nat):(bQ (bK qq fs fb)).wr=true:=by
 show (bK qq fs fb).all (·.wr)=true
 rw [c_]
 intro X hX
 obtain ⟨k,m,a,_,_,h⟩:=ku hX
 simp only [qq,cH] at h
 subst h; rfl
end
section
def dJ (bl:List Nat) (n:Nat):List (Option Nat):=bl.map some++List.replicate (n-bl.length) none
def iH (bl:List Nat) (n:Nat):List (Option Nat):=List.replicate (n-bl.length) none++bl.map some
theorem nG {bl:List Nat} {n:Nat} (h:bl.length≤n):(dJ bl n).length=n:=by simp [dJ]; omega
theorem z8 {bl:List Nat} {n:Nat} (h:bl.length≤n):(iH bl n).length=n:=by simp [iH]; omega
theorem vK {n:Nat}:List.replicate n none=dJ [] n:=by simp [dJ]
theorem GA {n:Nat}:List.replicate n none=iH [] n:=by simp [iH]
theorem z5 {bl:List Nat} {n:Nat} (h:bl.length=n):dJ bl n=bl.map some:=by simp [dJ,h]
theorem HA {bl:List Nat} {n:Nat} (h:bl.length=n):iH bl n=bl.map some:=by simp [iH,h]
theorem m6 {bl:List Nat} {n k g:Nat} (h:bl[k]? =some g):(dJ bl n)[k]? =some (some g):=by
 have hk:=(aZ.1 h).1
 unfold dJ
 rw [List.getElem?_append_left (by simpa using hk),fZ,h]; rfl
theorem uE {bl:List Nat} {n k i g:Nat} (h:bl[i]? =some g) (hk:k=n-bl.length+i):(iH bl n)[k]? =some (some g):=by
 subst hk
 unfold iH
 rw [List.getElem?_append_right sm,fZ,List.length_replicate,Nat.add_sub_cancel_left,h]; rfl
theorem sE {bl:List Nat} {n k g:Nat} (hk:k=bl.length) (h:bl.length<n):(dJ bl n).set k (some g)=dJ (bl++[g]) n:=by
 subst hk
 unfold dJ
 rw [List.set_append_right _ _ sm]
 have e:n-bl.length=(n-(bl++[g]).length)+1:=by simp; omega
 rw [e,List.replicate_succ]
 simp
theorem HC {bl:List Nat} {n k g:Nat} (hk:k+1+bl.length=n):(iH bl n).set k (some g)=iH (g::bl) n:=by
 unfold iH
 have e:n-bl.length=k+1:=by omega
 have A:n-(g::bl).length=k:=by simp; omega
 rw [e,A,List.set_append_left _ _ sm,List.replicate_succ',List.set_append_right _ _ sm]
 simp
theorem qH {l:List (Option Nat)} {k g:Nat} (h:l[k]? =some (some g)):(l.map oC)[k]? =some (oC (some g)):=by rw [fZ,h]; rfl
theorem Av {α:Type} {l:List α} {x:α} {k:Nat} (h:k=l.length):(l++[x])[k]? =some x:=by subst h; simp
theorem K9 {α:Type} {l:List α} {x y:α} {k:Nat} (h:l[k]? =some y):(l++[x])[k]? =some y:=by rw [List.getElem?_append_left (aZ.1 h).1]; exact h
structure qP (w:cp) (fs:List FM):Prop where
 all: ∀ (b:Nat) m,fs[b]? =some m→vd m (pW w b)∧(m.map (·.1)).Nodup
structure iL (w:cp) (k:Nat) (bs:List FM):Prop where
 all: ∀ (i:Nat) m,bs[i]? =some m→wD m (back w (k+i))∧(m.map (·.1)).Nodup
variable {w:cp} {b:Nat} {mb m left:List (aQ×Int)} {o:Int×ai} {os:List (Int×ai)} {p:aQ×Int}
theorem qP.first:qP w [[(⟨0,0⟩,w.Start)]]:=⟨fun b m h=>by
 match b with
 |0=>simp at h; subst h; exact ⟨He,sm⟩
 |n+1=>simp at h⟩
theorem qP.add {fs:List FM} (h:qP w fs) (hl:fs.length=b+1) (hmb:fs[b]? =some mb) (hm:yu w b m) (hd:kq w b mb m left) (h0:left=[]):qP w (fs++[m]):=⟨fun i x hx=>by
 rcases Nat.lt_or_ge i fs.length with q|q
 ·rw [List.getElem?_append_left q] at hx; exact h.all i x hx
 ·rw [List.getElem?_append_right q] at hx
  have hi:i-fs.length=0:=by
   rcases Nat.eq_zero_or_pos (i-fs.length) with z|z
   ·exact z
   ·rw [List.getElem?_eq_none (by simp; omega)] at hx; cases hx
  rw [hi] at hx
  simp at hx; subst hx
  obtain rfl:i=b+1:=by omega
  have A:=h.all b mb hmb
  exact ⟨I4 A.2 A.1 hm.snd (hd.fin h0),hm.keys⟩⟩
theorem qP.ok {fs:List FM} (h:qP w fs) (hl:fs.length=w.n+1):wh w fs:=⟨hl,fun b m hm=>(h.all b m hm).1,fun b m hm=>(h.all b m hm).2⟩
theorem iL.none_:iL w b []:=⟨fun i m h=>by simp at h⟩
theorem iL.last (hb:w.n≤b):iL w b [[(⟨0,0⟩,w.gL)]]:=⟨fun i m h=>by
 match i with
 |0=>simp at h; subst h; exact ⟨JO om,sm⟩
 |n+1=>simp at h⟩
theorem iL.add {bs:List FM} (h:iL w (b+1) bs) (hb:b<w.n) (hmb:bs[0]? =some mb) (hm:wM w b m) (hd:jV w b mb m left) (h0:left=[]):iL w b (m::bs):=⟨fun i x hx=>by
 match i with
 |0=>
  simp at hx; subst hx
  have A:=h.all 0 mb hmb
  exact ⟨IN hb A.2 A.1 hm.snd hm.zero (hd.fin h0),hm.keys⟩
 |n+1=>
  have:=h.all n x (by simpa using hx)
  rw [show b+1+n=b+(n+1) by omega] at this
  exact this⟩
theorem iL.ok {bs:List FM} (h:iL w 0 bs) (hl:bs.length=w.n+1):tw w bs:=⟨hl,fun b m hm=>by have:=(h.all b m hm).1; rwa [Nat.zero_add] at this,fun b m hm=>(h.all b m hm).2⟩
/-- on the way through one entry's options -/
structure nV (w:cp) (b:Nat) (mb left m:List (aQ×Int)) (p:aQ×Int) (os:List (Int×ai)):Prop where
 on:yu w b m
 u3:kq w b mb m left
 done:jI w b m p os
structure nS (w:cp) (b:Nat) (mb left m:List (aQ×Int)) (p:aQ×Int) (os:List (Int×ai)):Prop where
 on:wM w b m
 u3:jV w b mb m left
 done:jE w b m p os
theorem nV.start (h:yu w b m) (h2:kq w b mb m left):nV w b mb left m p []:=⟨h,h2,fun o ho=>by cases ho⟩
theorem nS.start (h:wM w b m) (h2:jV w b mb m left):nS w b mb left m p []:=⟨h,h2,fun o ho=>by cases ho⟩
theorem Hg {q:aQ×Int} (h:(m.lookup q.1).isSome=false∨q.2<(m.lookup q.1).getD 0):pT m q=eD m q.1 q.2:=by
 unfold pT
 cases e:m.lookup q.1 with
 |none=>rfl
 |some v=>rw [e] at h; simp at h; simp only; rw [if_pos h]
theorem EG {q:aQ×Int} (h:(m.lookup q.1).isSome=true) (h2: ¬ q.2<(m.lookup q.1).getD 0):pT m q=m:=by
 unfold pT
 cases e:m.lookup q.1 with
 |none=>rw [e] at h; cases h
 |some v=>rw [e] at h2; simp only [Option.getD_some] at h2; simp only; rw [if_neg h2]
theorem G0 {q:aQ×Int} (h:(m.lookup q.1).isSome=false∨(m.lookup q.1).getD 0<q.2):pg m q=eD m q.1 q.2:=by
 unfold pg
 cases e:m.lookup q.1 with
 |none=>rfl
 |some v=>rw [e] at h; simp at h; simp only; rw [if_pos h]
theorem El {q:aQ×Int} (h:(m.lookup q.1).isSome=true) (h2: ¬ (m.lookup q.1).getD 0<q.2):pg m q=m:=by
 unfold pg
 cases e:m.lookup q.1 with
 |none=>rw [e] at h; cases h
 |some v=>rw [e] at h2; simp only [Option.getD_some] at h2; simp only; rw [if_neg h2]
theorem AF {t:aQ} {v y:Int} (hy:w.qO[b]? =some y) (h:max (v+y) o.2.Lo≤min o.2.Hi w.gL):nj w b (t,v) o=some (dR t (gE o.1),max (v+y) o.2.Lo):=by
 have e:=ob hy
 subst e
 exact Le h
theorem Ln {t:aQ} {v y:Int} (hy:w.qO[b]? =some y) (h: ¬ max (v+y) o.2.Lo≤min o.2.Hi w.gL):nj w b (t,v) o=none:=by
 have e:=ob hy
 subst e
 exact L6 h
theorem AE {t:aQ} {v y:Int} (hy:w.qO[b]? =some y) (h:o.2.Lo≤min v o.2.Hi):pO w b (t,v) o=some (dR t (gE o.1),min v o.2.Hi-y):=by
 have e:=ob hy
 subst e
 exact Jk h
theorem nV.set {q:aQ×Int} (h:nV w b mb left m p os) (hp:p∈pW w b) (ho:o∈jZ w b) (he:nj w b p o=some q) (hs:(m.lookup q.1).isSome=false∨q.2<(m.lookup q.1).getD 0):nV w b mb left (eD m q.1 q.2) p (os++[o]):=by
 rw [← Hg hs]
 exact ⟨h.on.add hp ho he,h.u3.lower wq,h.done.I2 he⟩
theorem nV.pI {q:aQ×Int} (h:nV w b mb left m p os) (he:nj w b p o=some q) (hs:(m.lookup q.1).isSome=true) (h2: ¬ q.2<(m.lookup q.1).getD 0):nV w b mb left m p (os++[o]):=by
 have:=h.done.I2 he
 rw [EG hs h2] at this
 exact ⟨h.on,h.u3,this⟩
theorem nV.skip (h:nV w b mb left m p os) (he:nj w b p o=none):nV w b mb left m p (os++[o]):=⟨h.on,h.u3,h.done.none_ he⟩
theorem nS.set {q:aQ×Int} (hb:b<w.n) (h:nS w b mb left m p os) (hp:p∈back w (b+1)) (ho:o∈jZ w b) (he:pO w b p o=some q) (hs:(m.lookup q.1).isSome=false∨(m.lookup q.1).getD 0<q.2):nS w b mb left (eD m q.1 q.2) p (os++[o]):=by
 rw [← G0 hs]
 exact ⟨h.on.add hb hp ho he,h.u3.upper rR,h.done.I2 he⟩
theorem nS.pI {q:aQ×Int} (h:nS w b mb left m p os) (he:pO w b p o=some q) (hs:(m.lookup q.1).isSome=true) (h2: ¬ (m.lookup q.1).getD 0<q.2):nS w b mb left m p (os++[o]):=by
 have:=h.done.I2 he
 rw [El hs h2] at this
 exact ⟨h.on,h.u3,this⟩
theorem nS.skip (h:nS w b mb left m p os) (he:pO w b p o=none):nS w b mb left m p (os++[o]):=⟨h.on,h.u3,h.done.none_ he⟩
theorem nV.next {t:aQ} {v:Int} (hn:(left.map (·.1)).Nodup) (hm:(t,v)∈left) (h:nV w b mb left m (t,v) os) (ho: ∀ o∈jZ w b,o∈os):kq w b mb m (fz left t):=h.u3.next hn hm h.done ho
theorem nS.next {t:aQ} {v:Int} (hn:(left.map (·.1)).Nodup) (hm:(t,v)∈left) (h:nS w b mb left m (t,v) os) (ho: ∀ o∈jZ w b,o∈os):jV w b mb m (fz left t):=h.u3.next hn hm h.done ho
theorem qP.mem {fs:List FM} (h:qP w fs) (hm:fs[b]? =some mb) (hp:p∈mb):p∈pW w b:=(h.all b mb hm).1.1 _ _ ((fR (h.all b mb hm).2).1 hp)
theorem iL.Uw {bs:List FM} {k:Nat} (h:iL w k bs) (hk:k=b+1) (hm:bs[0]? =some mb) (hp:p∈mb):p∈back w (b+1):=by
 subst hk
 exact (h.all 0 mb hm).1.1 _ _ ((fR (h.all 0 mb hm).2).1 hp)
theorem iL.end_ {bs:List FM} {k j:Nat} (h:iL w k bs) (hj:bs.length=0) (hk:j=b) (hb:w.n≤b):iL w j ([(⟨0,0⟩,w.gL)]::bs):=by
 subst hk
 rw [kH hj]
 exact iL.last hb
theorem iL.more {bs:List FM} {k j:Nat} (h:iL w k bs) (hk:k=b+1) (hj:j=b) (hb:b<w.n) (hmb:bs[0]? =some mb) (hm:wM w b m) (hd:jV w b mb m left) (h0:left=[]):iL w j (m::bs):=by
 subst hk hj
 exact h.add hb hmb hm hd h0
end
section
open Go.RowKit
theorem jG {a:OA} {c e sz n:Nat} {es:List (List Value)} (h:es.length=n):Kf (own a c e sz es) (rd a n sz es):=by subst h; exact Na
theorem q9 {L:List ay}:Kf (bQ L) (iK L):=⟨fun w h=>h.1,fun b h=>h⟩
theorem Fc {b:Nat} {fb:List Nat} {g:Nat} (h:fb.length=b):bK qq (List.replicate b ([]:TM)) fb++[kx iV g (cT j8 [])]=bK qq (List.replicate (b+1) ([]:TM)) (fb++[g]):=by
 rw [List.replicate_succ']
 exact zG (by rw [List.length_replicate]; exact h.symm) U
theorem RY {α:Type} {ms:List α} {fb:List Nat} {n:Nat} (h:fb.length=n) (h2:ms.length=n):List.map oC (dJ fb n)=List.zipWith gK ms fb:=by
 rw [z5 h]; exact (AZ om).symm
theorem oN {l:bq} {r:cO} {i:Nat} {x:aG} (hx:r.aa[i]? =some x) (h: ¬ jD l r.aa i x): ¬ fW l r:=fun q=>h (q.sig i x hx)
end
section
open Go.RowKit
theorem qk (a:ai) (l:List ai) (lA:OA) (lC:Nat) (ha:l_ a) (hl: ∀ z∈l,l_ z) (hlen:l.length≤4):
 dF Tryz.prog 171 [(vA (ai.cells a)),(vS lA l.length lC)] [(rd lA l.length 2 (l.map ai.cells))] (vA (ai.cells (kW a l))):=by
 refine bG kr Tryz.func171 U U fun AA Q hQ hN=>?_
 try dsimp only
 refine WS fun _ AB=>dV U fun R=>AL U eg fun T=>RK AB<|ag fun _ J=>WS fun _ K=>rP 3 [] I ?_
 refine RK K<|ax ?_
 have A:(0≤l.length):=by exact Nat.zero_le _
 refine bP (ι:={z:Nat // (z≤l.length)}) [2,4,7,8] [0,2] U U (fun z=>[(9,(vI (z.1:Int)))]) (fun z=>[(cy R 38 (ai.cells (kW a (l.take z.1))))]) (fun _=>rfl) (fun _=>rfl) (fun z=>l.length-z.1) ⟨0,A⟩ (bf U) (aK [0,2,1]) ?_
 clear A
 rintro ⟨i,N⟩ J6 H
 try dsimp only
 refine WS fun _ L=>rP 1 [] I ?_
 refine RK L<|ag fun _ M=>bO U (aO fun S=>?_) (aN fun S=>?_)
 ·refine bM<|ab<|ab<|aF<|KK J<|ag fun _ D=>?_
  have G:(ai.cells (kW a (l.take i)))=(ai.cells (kW a l)):=by rw [I0 om]
  rw [G]
  refine ao<|rP 1 [] (mc 2 U I) ?_
  refine e7 U cW U<|RK D<|ak ?_
  exact Bf hQ [0] (mc 0 U I) U U
 refine WK M<|ag fun _ B=>ax<|WS fun _ C=>?_
 obtain ⟨x,hx⟩:=aA l i om
 have O:=bH ai.cells hx
 refine rS (IA i U (av 1 U) lK dc om om)<|rS (jK i 0 (ai.cells x) U bU (av 1 U) O U dc U U)<|AL U eg fun P=>e7 U cW U<|RK C<|ao ?_
 have hb:=Pd ha hl i
 have hz:=hl x (aP hx)
 unfold l_ at hz
 refine rP 10 [0,1,0,1] (mc 3 U (mc 0 U I)) ?_
 refine rS (SX (bD (xs:=[(0,.tmp 17),(1,.tmp 22)]) (cs:=(ai.cells (ai.mk (((kW a (l.take i)).Lo)+x.Lo) (((kW a (l.take i)).Hi)+x.Hi)))) U U (bE g6 U)) U U)<|PE U cW U<|aC<|aJ<|KK B ?_
 have E:(ai.cells (ai.mk (((kW a (l.take i)).Lo)+x.Lo) (((kW a (l.take i)).Hi)+x.Hi)))=(ai.cells (kW a (l.take (i+1)))):=by rw [zM hx]; rfl
 rw [E]
 refine ao<|rP 2 [] I ?_
 refine aC ?_
 have F:(vI ((i+1):Int))=(vI ((i:Int)+1)):=by exact cI om
 refine a_ (H ⟨(i+1),(by first|omega|(simp only []; omega))⟩ _ _ _ U os (cz 4<|aU U F<|cR.nil _) (aK [1,2,3]))
theorem F5 (ts:List aD) (tsA:OA) (tsC:Nat) (hlen:ts.length≤1000000) (hside: ∀ x∈ts,0≤x.ja∧x.ja≤255):
 dF Tryz.prog 168 [(vA (bJ.cells (bJ.mk (bj.mk tsA ts.length tsC))))] [(rd tsA ts.length 9 (ts.map aD.cells))] (vT [(vA (eN.cells (eN.mk (bJ.mk (bj.mk tsA ts.length tsC))))),(vI (if dB ts=true then 0 else 10))]):=by
 refine bG kr Tryz.func168 U U fun E Q hQ hN=>?_
 try dsimp only
 refine WS fun _ A=>dV U fun C=>AL U I6 fun D=>bp 1 U<|RK A<|ag fun _ B=>cS cj 4 kr<|kp 1 [] (mc 1 U I) U<|dS (SX (bD (xs:=[(0,.tmp 4)]) (cs:=(eN.cells (eN.mk (bJ.mk (bj.mk tsA ts.length tsC))))) U U (bE QP U)) U U)<|kp 1 [] (mc 1 U I) U<|dS (CL (C_ ts tsA tsC hlen hside) (aY [2]) U)<|cu<|e7 U ID U<|rP 1 [] I ?_
 refine RK B<|ak ?_
 exact ml hQ [0] (mc 0 U I) U U
theorem LL (f:Int) (tsA:OA) (tsN tsC:Nat):
 lO Tryz.prog 198 [(vA (eN.cells (eN.mk (bJ.mk (bj.mk tsA tsN tsC))))),(vI f)] [] (fun (x:Nat×Nat)=>(Value.func (.func 216) [].toArray [(Value.pointer (some ⟨x.1,0,none⟩)),(Value.pointer (some ⟨x.2,0,none⟩))].toArray)) (fun (x:Nat×Nat)=>True) (fun (x:Nat×Nat)=>[(cy x.1 3 [(vI f)]),(cy x.2 251 (eN.cells (eN.mk (bJ.mk (bj.mk tsA tsN tsC)))))]):=by
 refine dK kr Tryz.func198 U U fun E Q hQ hN=>?_
 try dsimp only
 refine WS fun _ A=>dV U fun C=>wP U U fun D=>bp 1 U<|RK A<|WS fun _ B=>rS (FU U)<|rP 1 [] I ?_
 refine RK B<|ak<|LX hQ (D,C) [0,1] [] I U U U U ?_
 trivial
theorem HU (ts:List aD) (tsA:OA) (tsC:Nat) (f:Int) (g1 g2:Nat) (hst: ∀ x∈ts,bY x) (hlen:ts.length≤12) (hf:0≤f∧f≤ts.length):
 Ny Tryz.prog 216 [] [(vP g1),(vP g2)] [(rd tsA ts.length 9 (ts.map aD.cells)),(cy g1 3 [(vI f)]),(cy g2 251 (eN.cells (eN.mk (bJ.mk (bj.mk tsA ts.length tsC)))))] (uY ts f.toNat):=by
 refine FX kr Tryz.func216 U U fun l J Z A0 p Q hY g d hQ hN=>?_
 try dsimp only
 refine WS fun _ h=>AL U eg fun n=>AL U eg fun o=>RK h<|WS fun _ i=>rP 2 [] (mr 4 U I) ?_
 refine RK i<|ax ?_
 have P:(0≤ts.length-f.toNat)∧(J 0 A0)∧(Fo A0 p A0):=by exact ⟨Nat.zero_le _,g,d⟩
 have m:(vI (f+(0:Int)))=(vI f):=by exact cI om
 refine bP (ι:={z:Nat×ay // (z.1≤ts.length-f.toNat)∧(J z.1 z.2)∧(Fo A0 p z.2)}) [0,1,2,4,5] [3,4,5] U U (fun z=>[(6,(vI (f+(z.1.1:Int))))]) (fun z=>[(cy o 38 (ai.cells (gT ts f.toNat z.1.1))),(cy n 38 (ai.cells (eV ts f.toNat z.1.1))),z.1.2]) (fun _=>rfl) (fun _=>rfl) (fun z=>ts.length-f.toNat-z.1.1) ⟨(0,A0),P⟩ (aU U m<|cR.nil _) (aK [3,4,5,0,1,2]) ?_
 clear P
 rintro ⟨⟨k,A⟩,⟨W,R,S⟩⟩ J6 V
 try dsimp only at W R S
 try dsimp only
 refine ag fun _ j=>WS fun _ X=>rP 3 [0,1] (mc 4 U (mc 3 U I)) ?_
 refine FO 5 hY R S U U U (zF om) U U (fun B9 C B=>?_) (fun B9 C B=>?_)
 rotate_left 1
 ·refine rP 8 [] I ?_
  refine RK X<|bT U<|bM<|ab<|ab<|aF ?_
  refine hN _ _ _ (j9 (vs:=[]) trivial fun w hs=>NY 5 U C B hs)
 refine rP 8 [] (mr 2 U I) ?_
 refine RK X<|bO U (aO fun c=>?_) (aN fun c=>?_)
 ·refine bM<|ab<|ab<|aF ?_
  refine hN _ _ _ (j9 (vs:=[]) trivial fun w hs=>Tr 5 U (by rw [uV]; have e:ts.length-f.toNat+1=k+1:=om; rw [e]; exact C) B hs)
 refine WK j<|ag fun _ M=>ax<|mQ cj [0,1,2,3,4,5,6,7,10,11,12,13,14,15,16,17] [8,9,18,19,20,21] [true,false,false,false,false,false,false,false,true,false,false,false,false,false,false,false] [8,9,18] [(rd tsA ts.length 9 (ts.map aD.cells)).ro,(cy g1 3 [(vI f)]).ro,(cy g2 251 (eN.cells (eN.mk (bJ.mk (bj.mk tsA ts.length tsC))))).ro,B9] [(rd tsA ts.length 9 (ts.map aD.cells)).ro,(cy g1 3 [(vI f)]).ro,(cy g2 251 (eN.cells (eN.mk (bJ.mk (bj.mk tsA ts.length tsC))))).ro,(cy o 38 (ai.cells (gT ts f.toNat k))),(cy n 38 (ai.cells (eV ts f.toNat k))),B9] kr (aK [0,1,2,5]) (aK [0,1,2,3,4,5])<|fS U (LW 4 U bU U U)<|eS U (FA 0 U eC U)<|eS U (FA 0 U eC U)<|eS U (Kr (vS tsA ts.length tsC) 2 U bU U U)<|eS U (MV U) ?_
 obtain ⟨x,hx⟩:=aA ts (f.toNat+k) om
 have a:=bH aD.cells hx
 refine eS U (IA (f.toNat+k) U (av 0 U) wL dc om om) ?_
 have L:=hst x (aP hx)
 refine eS U (nX (((f.toNat+k)*9)+1) U (av 0 U) (Nat.mul_pos om dc) eC U)<|eS U (jK (f.toNat+k) 1 (ai.cells x.jT) U bU (av 0 U) a U dc U U)<|fS U (LW 3 U bU U U)<|eS U (FA 0 U eC U)<|eS U (FA 0 U eC U)<|eS U (Kr (vS tsA ts.length tsC) 2 U bU U U)<|eS U (MV U)<|eS U (IA (f.toNat+k) U (av 0 U) wL dc om om)<|eS U (nX (((f.toNat+k)*9)+3) U (av 0 U) (Nat.mul_pos om dc) eC U)<|eS U (jK (f.toNat+k) 3 (ai.cells x.kN) U bU (av 0 U) a U dc U U)<|ed U<|mM [8,18] kr (iD ?_<|iD ?_<|pM)
 rotate_left 1
 ·refine wi (rem':=[8,9,19,20,21]) U kr fun T14 N=>e_ (xs:=[.tmp 39]) (cs:=(ai.cells x.kN)) U lK eg U U U U (by simp [Value.cells,ai.bI]) U U fun T=>aC (N _ _ (aK [1,2,3,6]) (aK [1,2,3,4,5,6]) ?_)
  refine N1 8<|wi (rem':=[9,19,20,21]) U kr fun T16 D=>e_ (xs:=[.tmp 29]) (cs:=(ai.cells x.jT)) U lK eg U U U U (by simp [Value.cells,ai.bI]) U U fun AA=>aC (D _ _ (aK [2,3,4,7]) (aK [2,3,4,5,6,7]) ?_)
  refine N1 9<|wi (rem':=[19,20,21]) U kr fun T18 O=>?_
  refine rS (CL (dF.eq (qk (eV ts f.toNat k) ([x.jT]) (some ⟨AA,0,none⟩) 1 (by exact q7 hst om) (by intro z hz; simp only [cH] at hz; subst hz; exact vq L) sm) oa) (aw (bo 0 rfl rfl (by simp [ai.bI]) rfl)<|aS) rfl) ?_
  refine aC (O _ _ (aK [2,3,4,7]) (aK [2,3,4,5,6,7]) ?_)
  refine N1 19<|NO U U [20,21] fun T19 E=>?_
  refine rS (CL (dF.eq (qk (gT ts f.toNat k) ([x.kN]) (some ⟨T,0,none⟩) 1 (by exact yz hst om) (by intro z hz; simp only [cH] at hz; subst hz; exact vV L) sm) oa) (aw (bo 1 rfl rfl (by simp [ai.bI]) rfl)<|aS) rfl) ?_
  refine aC (E _ _ (aK [2,3,4,7]) ?_)
  refine N1 20<|NO U U [21] fun T20 F=>RB U cW U<|aC (F _ _ (aK [2,3,4,7]) ?_)
  refine N1 21<|NO U U [] fun T21 G=>HY U cW U<|aC (G _ _ (aK [2,3,4,7]) ?_)
  refine lF<|aJ<|KK M ?_
  have H:(ai.cells (mZ (eV ts f.toNat k) x.jT))=(ai.cells (eV ts f.toNat (k+1))):=by rw [qm hx]
  rw [H]
  have AB:(ai.cells (mZ (gT ts f.toNat k) x.kN))=(ai.cells (gT ts f.toNat (k+1))):=by rw [qc hx]
  rw [AB]
  refine ao<|rP 3 [] I ?_
  refine aC ?_
  have K:(vI (f+(((k+1):Nat):Int)))=(vI ((f+(k:Int))+1)):=by exact cI om
  refine a_ (V ⟨((k+1),B9),⟨om,C,B⟩⟩ _ _ _ U os (cz 5<|aU U K<|cR.nil _) (aK [2,3,4,5,6,7]))
 refine wi (rem':=[9,18,19,20,21]) U kr fun T14 N=>e_ (xs:=[.tmp 29]) (cs:=(ai.cells x.jT)) U lK eg U U U U (by simp [Value.cells,ai.bI]) U U fun T=>aC (N _ _ (aK [1,2,3,6]) (aK [1,2,3,4,5,6]) ?_)
 refine mM [9,18] kr (iD ?_<|iD ?_<|pM)
 rotate_left 1
 ·refine wi (rem':=[9,19,20,21]) U kr fun T16 D=>e_ (xs:=[.tmp 39]) (cs:=(ai.cells x.kN)) U lK eg U U U U (by simp [Value.cells,ai.bI]) U U fun AA=>aC (D _ _ (aK [2,3,4,7]) (aK [2,3,4,5,6,7]) ?_)
  refine N1 9<|wi (rem':=[19,20,21]) U kr fun T18 O=>?_
  refine rS (CL (dF.eq (qk (eV ts f.toNat k) ([x.jT]) (some ⟨T,0,none⟩) 1 (by exact q7 hst om) (by intro z hz; simp only [cH] at hz; subst hz; exact vq L) sm) oa) (aw (bo 1 rfl rfl (by simp [ai.bI]) rfl)<|aS) rfl) ?_
  refine aC (O _ _ (aK [2,3,4,7]) (aK [2,3,4,5,6,7]) ?_)
  refine N1 19<|NO U U [20,21] fun T19 E=>?_
  refine rS (CL (dF.eq (qk (gT ts f.toNat k) ([x.kN]) (some ⟨AA,0,none⟩) 1 (by exact yz hst om) (by intro z hz; simp only [cH] at hz; subst hz; exact vV L) sm) oa) (aw (bo 0 rfl rfl (by simp [ai.bI]) rfl)<|aS) rfl) ?_
  refine aC (E _ _ (aK [2,3,4,7]) ?_)
  refine N1 20<|NO U U [21] fun T20 F=>RB U cW U<|aC (F _ _ (aK [2,3,4,7]) ?_)
  refine N1 21<|NO U U [] fun T21 G=>HY U cW U<|aC (G _ _ (aK [2,3,4,7]) ?_)
  refine lF<|aJ<|KK M ?_
  have H:(ai.cells (mZ (eV ts f.toNat k) x.jT))=(ai.cells (eV ts f.toNat (k+1))):=by rw [qm hx]
  rw [H]
  have AB:(ai.cells (mZ (gT ts f.toNat k) x.kN))=(ai.cells (gT ts f.toNat (k+1))):=by rw [qc hx]
  rw [AB]
  refine ao<|rP 3 [] I ?_
  refine aC ?_
  have K:(vI (f+(((k+1):Nat):Int)))=(vI ((f+(k:Int))+1)):=by exact cI om
  refine a_ (V ⟨((k+1),B9),⟨om,C,B⟩⟩ _ _ _ U os (cz 5<|aU U K<|cR.nil _) (aK [2,3,4,5,6,7]))
 refine wi (rem':=[18,19,20,21]) U kr fun T16 D=>?_
 refine rS (CL (dF.eq (qk (eV ts f.toNat k) ([x.jT]) (some ⟨T,0,none⟩) 1 (by exact q7 hst om) (by intro z hz; simp only [cH] at hz; subst hz; exact vq L) sm) oa) (aw (bo 0 rfl rfl (by simp [ai.bI]) rfl)<|aS) rfl) ?_
 refine aC (D _ _ (aK [1,2,3,6]) (aK [1,2,3,4,5,6]) ?_)
 refine N1 18<|wi (rem':=[19,20,21]) U kr fun T17 Y=>e_ (xs:=[.tmp 39]) (cs:=(ai.cells x.kN)) U lK eg U U U U (by simp [Value.cells,ai.bI]) U U fun b=>aC (Y _ _ (aK [2,3,4,7]) (aK [2,3,4,5,6,7]) ?_)
 refine N1 19<|NO U U [20,21] fun T19 E=>?_
 refine rS (CL (dF.eq (qk (gT ts f.toNat k) ([x.kN]) (some ⟨b,0,none⟩) 1 (by exact yz hst om) (by intro z hz; simp only [cH] at hz; subst hz; exact vV L) sm) oa) (aw (bo 0 rfl rfl (by simp [ai.bI]) rfl)<|aS) rfl) ?_
 refine aC (E _ _ (aK [2,3,4,7]) ?_)
 refine N1 20<|NO U U [21] fun T20 F=>RB U cW U<|aC (F _ _ (aK [2,3,4,7]) ?_)
 refine N1 21<|NO U U [] fun T21 G=>HY U cW U<|aC (G _ _ (aK [2,3,4,7]) ?_)
 refine lF<|aJ<|KK M ?_
 have H:(ai.cells (mZ (eV ts f.toNat k) x.jT))=(ai.cells (eV ts f.toNat (k+1))):=by rw [qm hx]
 rw [H]
 have AB:(ai.cells (mZ (gT ts f.toNat k) x.kN))=(ai.cells (gT ts f.toNat (k+1))):=by rw [qc hx]
 rw [AB]
 refine ao<|rP 3 [] I ?_
 refine aC ?_
 have K:(vI (f+(((k+1):Nat):Int)))=(vI ((f+(k:Int))+1)):=by exact cI om
 refine a_ (V ⟨((k+1),B9),⟨om,C,B⟩⟩ _ _ _ U os (cz 5<|aU U K<|cR.nil _) (aK [2,3,4,5,6,7]))
theorem I5 (ts:List aD) (tsA:OA) (tsC:Nat) (f t:Int) (hst: ∀ x∈ts,bY x) (hlen:ts.length≤12) (hf:0≤f∧f≤t∧t≤ts.length):
 dF Tryz.prog 170 [(vA (eN.cells (eN.mk (bJ.mk (bj.mk tsA ts.length tsC))))),(vI f),(vI t)] [(rd tsA ts.length 9 (ts.map aD.cells))] (vT [(vA (ai.cells (eV ts f.toNat (t-f).toNat))),(vA (ai.cells (gT ts f.toNat (t-f).toNat)))]):=by
 refine bG kr Tryz.func170 U U fun w0 Q hQ hN=>?_
 try dsimp only
 refine WS fun _ M=>dV U fun a=>wP U U fun b=>wP U U fun d=>AL U eg fun e=>AL U eg fun g=>RK M<|ag fun _ AA=>WS fun _ V=>rP 2 [0,1] (mc 4 U (mc 3 U I)) ?_
 refine cX (LL f tsA ts.length tsC) (aS) U fun u n=>?_
 obtain ⟨B,C⟩:=u
 try dsimp only
 refine RK V<|ax<|jv 7 U (by exact fun _ h=>h) ?_
 refine Fh (L0:=[(3,(vP a)),(4,(vP b)),(5,(vP d)),(6,(vP e)),(7,(vP g))]) (F:=[(rd tsA ts.length 9 (ts.map aD.cells)).ro,(cy B 3 [(vI f)]),(cy C 251 (eN.cells (eN.mk (bJ.mk (bj.mk tsA ts.length tsC)))))]) (xs:=(uY ts f.toNat)) (fun k (y:ai×ai×Int)=>(k≤(t-f).toNat)∧(y.2.2=f+(k:Int))) (fun k y=>[(cy g 38 (ai.cells y.2.1)),(cy e 38 (ai.cells y.1)),(cy d 3 [(vI t)]),(cy b 3 [(vI y.2.2)]),(cy a 251 (eN.cells (eN.mk (bJ.mk (bj.mk tsA ts.length tsC))))),(rd tsA ts.length 9 (ts.map aD.cells)).ro]) (fun c (z:Unit)=>(c= .exit 0)) (fun _ z=>[(cy g 38 (ai.cells (gT ts f.toNat (t-f).toNat))),(cy e 38 (ai.cells (eV ts f.toNat (t-f).toNat))),(cy d 3 [(vI t)]),(cy b 3 [(vI t)]),(cy a 251 (eN.cells (eN.mk (bJ.mk (bj.mk tsA ts.length tsC))))),(rd tsA ts.length 9 (ts.map aD.cells)).ro]) [3,4,5,6,7,8] [0,1,2] (h_,h_,f) U U (HU ts tsA tsC f B C (by first|assumption|omega|(simp; done)) (by first|assumption|omega|(simp; done)) om) U U U (by exact ⟨Nat.zero_le _,sm⟩) (by simp only [List.forall_mem_cons,List.not_mem_nil,false_imp_iff,implies_true,and_true]; exact ⟨⟨_,sm,(dM (b_ _))⟩,⟨_,sm,(b_ _)⟩,⟨_,sm,(b_ _)⟩⟩) (by exact D8) U (bf U) ?_ ?_ ?_ ?_
 rotate_left 1
 ·rintro q ⟨v,z2,m⟩ J
  obtain ⟨A,K⟩:=J
  try dsimp only at A K
  try dsimp only
  exfalso; rw [uV] at A; omega
 ·rintro r id _ Y
  have hc:=Y
  cases hc
  try dsimp only
  refine aF<|KK AA<|ag fun _ D=>dp cj [2,3] [] [] [0,1,2,3,4,5,6,7,8,9] [] U U U U U<|eS U (LW 5 U bU U U)<|eS U (LW 4 U bU U U)<|ed U<|cf U fun T30 E=>HY U cW U<|aC (E _ _ (aK [0,1,2,3,4,5,6,7,8,9]) ?_)
  refine cf U fun T31 G=>QL U cW U<|aC (G _ _ (aK [0,1,2,3,4,5,6,7,8,9]) ?_)
  refine e9 U<|KK D<|ak<|hQ _ _ _ (rl 0 U U<|j9 (vs:=[(vA (ai.cells (eV ts f.toNat (t-f).toNat))),(vA (ai.cells (gT ts f.toNat (t-f).toNat)))]) ⟨⟨_,U,.inl ⟨_,_,bU,qh (vs:=(ai.cells (eV ts f.toNat (t-f).toNat))) 5 U U,U,U⟩⟩,⟨_,U,.inl ⟨_,_,bU,qh (vs:=(ai.cells (gT ts f.toNat (t-f).toNat))) 4 U U,U,U⟩⟩,trivial⟩ fun w hs=>BK ?_ hs)
  show (vT [(vA (ai.cells (eV ts f.toNat (t-f).toNat))),(vA (ai.cells (gT ts f.toNat (t-f).toNat)))])=(vT [(vA (ai.cells (eV ts f.toNat (t-f).toNat))),(vA (ai.cells (gT ts f.toNat (t-f).toNat)))])
  clear hs w hQ hN G T31 E T30 D V AA M
  rfl
 ·rintro s _ Z
  cases Z
 rintro k x ⟨v,z2,m⟩ l ra rb S w1 K13 Qr14 hx AB N H L j
 obtain ⟨hk,rfl⟩:=GF hx
 obtain ⟨A,K⟩:=AB
 try dsimp only at A K
 try dsimp only
 refine WS fun _ O=>AL U eg fun o=>e7 U cW U<|RK O<|ao<|AL U eg fun p=>e7 U cW U<|aC<|j7 (fun _ _ h=>h) (aK [2,0,1,3,4,5,6,7,8])<|a_ (N _ _ ?_)
 refine ax<|ag fun _ P=>ag fun _ R=>dp cj [2,3] [] [] [0,1,2,5,6,7,8] [] U U U U U<|eS U (LW 2 U bU U U)<|eS U (LW 1 U bU U U)<|ed U<|cf U fun T21 W=>QL U cW U<|aC (W _ _ (aK [0,1,2,5,6,7,8]) ?_)
 refine cf U fun T22 X=>PE U cW U<|aC (X _ _ (aK [0,1,2,5,6,7,8]) ?_)
 refine e9 U<|KK R<|WS fun _ T=>rP 3 [0,1] (mc 6 U (mc 5 U I)) ?_
 refine RK T<|cb U (aN fun i=>?_) (aO fun i=>?_)
 ·refine bM<|ab<|fF U ?_
  rw [show m=t from by omega]
  obtain rfl:k=(t-f).toNat:=by omega
  exact L _ () _ _ (by exact U) (aK [0,3,4,5,6,7,8])
 refine WK P<|ao<|rP 2 [] (mc 6 U I) ?_
 refine VH U Dv U U<|aC<|aJ ?_
 exact H ((eV ts f.toNat k),(gT ts f.toNat k),(m+1)) _ _ (by refine ⟨om,?_⟩; dsimp only; omega) (aK [0,3,4,5,6,7,8])
end
section
open Go.RowKit
theorem Gy (i:Int) (s:dg) (ts:List aD) (tsA:OA) (tsC g1:Nat) (hst: ∀ x∈ts,bY x) (hlen:ts.length≤12):
 dF Tryz.prog 197 [(vI i),(vA (dg.cells s)),(vP g1)] [(rd tsA ts.length 9 (ts.map aD.cells)),(cy g1 251 (eN.cells (eN.mk (bJ.mk (bj.mk tsA ts.length tsC)))))] (vB (!(decide (fU ts s)))):=by
 refine bG kr Tryz.func197 U U fun AA Q hQ hN=>?_
 try dsimp only
 refine WS fun _ C=>dV U fun G=>rP 1 [] I ?_
 refine RK C<|ag fun _ A=>mQ cj [0,1,2,3,4,5,6] [7,8,9,10,11,12,13,14,15,16,17,18,19,20,21,22,23,24,25,26] [false,false,false,false,false,false,false] [] [(cy G 135 (dg.cells s)),(rd tsA ts.length 9 (ts.map aD.cells)).ro,(cy g1 251 (eN.cells (eN.mk (bJ.mk (bj.mk tsA ts.length tsC))))).ro] [] kr (aK [0,1,2]) (aK [])<|eS U (FA 0 U eC U)<|eS U (FA 0 U eC U)<|eS U (Kr (vS tsA ts.length tsC) 2 U bU U U)<|eS U (LN U Pg)<|eS U (BI U (xw ⟨om,om⟩))<|eS U (FA 0 U eC U)<|eS U (L1 (vI s.bw) 0 U bU U U)<|ed U<|N1 7<|NO U U [8,9,10,11,12,13,14,15,16,17,18,19,20,21,22,23,24,25,26] fun T4 D=>e_ (xs:=[.tmp 12]) (cs:=[(vI s.bw)]) U dI kS U U U U (by simp [Value.cells]) U U fun H=>RD D 1 U<|PJ [14,15,16,17,18,19,20,21,22,23,24,25,26,27,28,29,30,31,5] kr kr U _ U U (aK [1,2,3]) ?_
 refine dS (CL (dF.eq (pf 0 ((ts.length:Int)-1) ([s.bw]) (some ⟨H,0,none⟩) 1 (by (simp; done))) cK) (aw (bo 0 U U (by simp [bX]) U)<|aS) U) ?_
 refine dP 2 [] I ?_
 refine ic (t:=16) U (aX fun B=>?_) (aW fun B=>?_)
 ·refine kK 9 U<|dP 7 [] I ?_
  refine cu<|RK A<|ak<|Q1 hQ U U U ?_
  (refine cB ?_; rw [br (Cb om)]; rfl)
 refine kK 1 U<|dS (LP (ai.cells s.l9) 1 U bU U U U)<|dP 5 [0,1] (mr 3 U (mc 1 U I)) ?_
 obtain ⟨x,hx⟩:=aA ts ((s.bw).toNat) om
 have E:=bH aD.cells hx
 refine dS (IA ((s.bw).toNat) U (av 2 U) wL dc om om)<|dS (nX ((((s.bw).toNat)*9)+1) U (av 2 U) (Nat.mul_pos om dc) eC U) ?_
 have F:=(hst x (aP hx)).2.1
 simp only [eu] at F
 refine dS (nX ((((s.bw).toNat)*9)+1) U (av 2 U) (Nat.mul_pos om dc) eC U)<|dS (gD ((s.bw).toNat) 1 (vI x.jT.Lo) U bU (av 2 U) E U dc U)<|kK 1 U<|dS (CL (wU s.l9 0 (x.jT.Lo-1)) (aS) U)<|dP 3 [] I ?_
 refine cu<|RK A<|ak<|Q1 hQ U U U ?_
 exact congrArg (fun b=>vB (!b)) (gS.2 (Bv om hx).symm)
theorem Dw (l:List dg) (lA:OA) (lC:Nat) (f:Value) (p:Int→dg→Bool) (X:ay) (hf: ∀ x0 x1,(∃ k:Nat,x0=(k:Int)∧l[k]? =some x1)→DE Tryz.prog f [.int .i64 x0,.agg (dg.cells x1).toArray] [X] (.bool (p x0 x1))) (hlen:l.length≤1000000):
 lO Tryz.prog 196 [(vS lA l.length lC),f] [(rd lA l.length 3 (l.map dg.cells)),X] (fun (x:(OA)×Nat)=>(vS x.1 ((Kl (fun jj yy=>p (jj:Int) yy) l).length) x.2)) (fun (x:(OA)×Nat)=>True) (fun (x:(OA)×Nat)=>[(own x.1 x.2 3 1 ((Kl (fun jj yy=>p (jj:Int) yy) l).map iC))]):=by
 refine dK kr Tryz.func196 U U fun W Q hQ hN=>?_
 try dsimp only
 refine WS fun _ L=>bp 1 U<|RK L<|WS fun _ M=>bp 1 U<|RK M<|ag fun _ N=>WS fun _ O=>rP 3 [] I ?_
 refine RK O<|ax<|fu 3 1 ?_
 have A:(0≤l.length):=by exact Nat.zero_le _
 refine bP (ι:={z:Nat×(OA)×Nat // (z.1≤l.length)}) [0,1,8,9] [1,2] U U (fun z=>[(5,(vS z.1.2.1 ((tD (fun jj yy=>p (jj:Int) yy) l z.1.1).length) z.1.2.2)),(10,(vI (z.1.1:Int)))]) (fun z=>[(own z.1.2.1 z.1.2.2 3 1 ((tD (fun jj yy=>p (jj:Int) yy) l z.1.1).map iC))]) (fun _=>rfl) (fun _=>rfl) (fun z=>l.length-z.1.1) ⟨(0,none,0),A⟩ (bf U) (aK [1,2,0]) ?_
 clear A
 rintro ⟨⟨i,a,c⟩,B⟩ J5 C
 try dsimp only at B
 try dsimp only
 refine WS fun _ P=>rP 1 [] I ?_
 refine RK P<|ag fun _ R=>bO U (aO fun V=>?_) (aN fun V=>?_)
 ·refine bM<|ab<|ab<|aF<|KK N<|WS fun _ F=>?_
  rw [NA (p:=fun (i:Nat) x=>p (i:Int) x) (show i=l.length by omega)]
  refine rP 2 [] I ?_
  refine RK F<|ak<|LX hQ (a,c) [2] [] I U U U U ?_
  trivial
 refine WK R<|ag fun _ G=>ax<|WS fun _ D=>rP 1 [] I ?_
 obtain ⟨x,hx⟩:=aA l i om
 have S:=bH dg.cells hx
 refine rS (IA i U (av 0 U) KC dc om om)<|rS (jK i 0 (dg.cells x) U bU (av 0 U) S U dc U U)<|AL U F_ fun T=>bp 1 U<|e7 U OE U<|RK D<|WS fun _ E=>rP 3 [] (mc 0 U I) ?_
 refine rS (SX (qo U U U (hf (i:Int) x ⟨i,U,hx⟩) (aY [2])) U U)<|RK E<|bO U (fun hp=>?_) (fun hp=>?_)
 ·refine cg<|aJ<|KK G<|ao ?_
  rw [← ND (p:=fun (i:Nat) x=>p (i:Int) x) hx hp]
  refine rP 2 [] I ?_
  refine aC ?_
  have AB:(vI (((i+1):Nat):Int))=(vI ((i:Int)+1)):=by exact cI om
  refine a_ (C ⟨((i+1),a,c),(by first|omega|(simp only []; omega))⟩ _ _ _ U os (cz 5<|aU U AB<|cR.nil _) (aK [1,2,3]))
 refine ao<|rP 2 [] I ?_
 refine e_ (xs:=[.tmp 20]) (cs:=[(vI (i:Int))]) U dI kS U U U U (by simp [Value.cells]) U U fun AA=>?_
 refine cN (es2:=(List.map iC (tD (fun jj yy=>p (jj:Int) yy) l (i+1)))) (m':=(tD (fun jj yy=>p (jj:Int) yy) l (i+1)).length) 4 U U U pq U U sm (bo (es:=List.map iC [(i:Int)]) 0 U U (by simp [bX]) U) (jM _) (by have:=Cu (p:=fun (i:Nat) x=>p (i:Int) x) (l:=l) (n:=i); simp; omega) (by have:=Cu (p:=fun (i:Nat) x=>p (i:Int) x) (l:=l) (n:=i); simp only [maxLen]; omega) (by rw [Il hx hp]; simp) sm U fun J K=>?_
 try dsimp only
 refine bp 1 U<|aC<|aJ<|KK G<|ao<|rP 2 [] I ?_
 refine aC ?_
 have H:(vI (((i+1):Nat):Int))=(vI ((i:Int)+1)):=by exact cI om
 refine a_ (C ⟨((i+1),J,K),(by first|omega|(simp only []; omega))⟩ _ _ _ U os (cz 5<|aU U H<|cR.nil _) (aK [2,3,4]))
theorem Bl (ts:List aD) (tsA:OA) (tsC:Nat) (l:List dg) (lA:OA) (lC:Nat) (hst: ∀ x∈ts,bY x) (hlen:ts.length≤12) (hl:l.length≤4):
 dF Tryz.prog 169 [(vA (eN.cells (eN.mk (bJ.mk (bj.mk tsA ts.length tsC))))),(vS lA l.length lC)] [(rd tsA ts.length 9 (ts.map aD.cells)),(rd lA l.length 3 (l.map dg.cells))] (vB (decide (∀ s∈l,fU ts s))):=by
 refine bG kr Tryz.func169 U U fun J Q hQ hN=>?_
 try dsimp only
 refine WS fun _ B=>dV U fun A=>bp 1 U<|RK B<|WS fun _ C=>rP 1 [] I ?_
 refine rS (FU U) ?_
 refine cX (Dw l lA lC (Value.func (.func 197) [].toArray [(vP A)].toArray) (fun E D=>(!(decide (fU ts D)))) (iK [(rd tsA ts.length 9 (ts.map aD.cells)),(cy A 251 (eN.cells (eN.mk (bJ.mk (bj.mk tsA ts.length tsC)))))]) (by intro E D _; exact lu (fi:=[]) (ca:=[(vP A)]) (j6 (Gy E D ts tsA tsC A (by first|assumption|omega) (by first|assumption|omega)) (aY [0,1]))) om) (eE 2 U U<|aw (j1 (aY [1,0]))<|aS) U fun G F=>?_
 obtain ⟨H,AA⟩:=G
 try dsimp only
 refine rP 3 [] I ?_
 refine RK C<|ak<|Q1 hQ U U U ?_
 exact congrArg Value.bool (decide_eq_decide.2 (by rw [show ∀ n:Nat,((n:Int)=0)↔n=0 from fun n=>by omega,GM]; simp only [Bool.not_eq_false',decide_eq_true_eq]; exact ⟨fun h s hs=>by obtain ⟨k,hk⟩:=List.getElem?_of_mem hs; exact h k s hk,fun h k s hk=>h s (List.mem_of_getElem? hk)⟩))
theorem EA (z:ai) (hz:l_ z):
 dF Tryz.prog 199 [(vA (ai.cells z))] [] (vA (ai.cells (oJ z))):=by
 unfold l_ at hz
 refine bG kr Tryz.func199 U U fun E Q hQ hN=>?_
 try dsimp only
 refine WS fun _ A=>dV U fun C=>AL U eg fun D=>RK A<|WS fun _ B=>dZ 2 [] (mc 1 U I) U<|rS (NG U ⟨om,om⟩)<|rP 2 [] (mc 1 U I) ?_
 refine rS (NG U ⟨om,om⟩)<|rS (SX (bD (xs:=[(0,.tmp 5),(1,.tmp 8)]) (cs:=(ai.cells (ai.mk (-z.Hi) (-z.Lo)))) U U (bE g6 U)) U U)<|e7 U cW U<|RK B<|ak ?_
 exact Bf hQ [0] (mc 0 U I) U U
theorem Rx (ts:List aD) (tsA:OA) (tsC:Nat) (s:dg) (hlen:ts.length≤1000000) (hside: ∀ x∈ts,0≤x.ja∧x.ja≤255):
 dF Tryz.prog 141 [(vA (bJ.cells (bJ.mk (bj.mk tsA ts.length tsC)))),(vA (dg.cells s))] [(rd tsA ts.length 9 (ts.map aD.cells))] (vT [(vA (ai.cells (O3 ts s))),(vI (Gf ts s))]):=by
 refine bG kr Tryz.func141 U U fun Z Q hQ hN=>?_
 try dsimp only
 refine WS fun _ K=>dV U fun V=>dV U fun W=>AL U eg fun X=>bp 1 U<|RK K<|WS fun _ L=>dZ 1 [] (mc 2 U I) U<|rS (CL (F5 ts tsA tsC hlen hside) (aY [3]) U)<|bp 3 U<|AL U I6 fun Y=>e7 U ID U<|bp 1 U<|RK L<|ag fun _ M=>WS fun _ N=>rP 2 [] I ?_
 refine RK N<|cb U (aX fun he=>?_) (aW fun he=>?_)
 ·refine WS fun _ O=>rS (SX (bD (xs:=[]) (cs:=(ai.cells (ai.mk 0 0))) U U (bE g6 U)) U U)<|bp 1 U<|pV U cW U<|rP 1 [] I ?_
  refine RK O<|ak<|ml hQ [0] (mc 1 U I) U ?_
  (have e:=KA (s:=s) (zZ he).1; rw [e.1,e.2,(zZ he).2]<;>rfl)
 refine WK M<|ag fun _ C=>WS fun _ D=>?_
 have B:=DQ he
 have H:=km B
 have R:=lz B
 refine rP 2 [0,1] (mc 0 U (mc 2 U I)) ?_
 refine e_ (xs:=[.tmp 20]) (cs:=(dg.cells s)) U KC F_ U U U U (by simp [Value.cells,dg.bI]) U U fun AB=>?_
 refine rS (CL (dF.eq (Bl ts tsA tsC ([s]) (some ⟨AB,0,none⟩) 1 asm asm (by (simp; done))) EH) (eE 5 U U<|aw (bo 0 U U (by simp [dg.bI]) U)<|aS) U) ?_
 refine rP 1 [] I ?_
 refine RK D<|cb U (aX fun A=>?_) (aW fun A=>?_)
 ·refine WS fun _ E=>rS (SX (bD (xs:=[]) (cs:=(ai.cells (ai.mk 0 0))) U U (bE g6 U)) U U)<|BA U cW U<|rP 1 [] I ?_
  refine RK E<|ak<|ml hQ [0] (mc 2 U I) U ?_
  (have e:=Lm B A; rw [e.1,e.2]<;>rfl)
 refine WK C<|WS fun _ F=>?_
 have AA:=A.1
 have P:=rf H A
 refine dZ 3 [0,1] (mc 1 U (mc 3 U I)) U<|rS (CL (I5 ts tsA tsC 0 s.bw asm asm om) (aY [5]) U)<|bp 3 U<|AL U eg fun S=>AL U eg fun T=>pV U cW U<|e7 U cW U<|RK F<|WS fun _ G=>rP 2 [] (mc 1 U I) ?_
 refine rS (LP (ai.cells s.l9) 5 U bU U U U)<|e_ (xs:=[.tmp 34]) (cs:=(ai.cells s.l9)) U lK eg U U U U (by simp [Value.cells,ai.bI]) U U fun J=>?_
 refine rS (CL (dF.eq (qk (eV ts (0:Int).toNat (s.bw-0).toNat) ([s.l9]) (some ⟨J,0,none⟩) 1 (by exact q7 H om) (by intro z hz; simp only [cH] at hz; subst hz; exact P) sm) oa) (aw (bo 0 rfl rfl (by simp [ai.bI]) rfl)<|aS) rfl) ?_
 refine HY U cW U<|rP 1 [] I ?_
 refine RK G<|ak<|ml hQ [0] (mc 5 U I) U ?_
 (have e:=x5 B A; rw [e.1,e.2]; unfold LF; rw [show (s.bw-0).toNat=s.bw.toNat by rw [Int.sub_zero]]<;>rfl)
theorem Nk (ts:List aD) (tsA:OA) (tsC:Nat) (p:dg) (q:dg) (hlen:ts.length≤1000000) (hside: ∀ x∈ts,0≤x.ja∧x.ja≤255):
 dF Tryz.prog 172 [(vA (bJ.cells (bJ.mk (bj.mk tsA ts.length tsC)))),(vA (dg.cells p)),(vA (dg.cells q))] [(rd tsA ts.length 9 (ts.map aD.cells))] (vT [(vA (ai.cells (lv ts p q))),(vI (mx ts p q))]):=by
 refine bG kr Tryz.func172 U U fun w Q hQ hN=>?_
 try dsimp only
 refine WS fun _ c=>dV U fun r=>dV U fun s=>dV U fun t=>AL U eg fun u=>bp 1 U<|RK c<|WS fun _ d=>dZ 1 [] (mc 3 U I) U<|rS (CL (F5 ts tsA tsC hlen hside) (aY [4]) U)<|bp 3 U<|AL U I6 fun v=>e7 U ID U<|bp 1 U<|RK d<|ag fun _ g=>WS fun _ h=>rP 2 [] I ?_
 refine RK h<|cb U (aX fun he=>?_) (aW fun he=>?_)
 ·refine WS fun _ G=>rS (SX (bD (xs:=[]) (cs:=(ai.cells (ai.mk 0 0))) U U (bE g6 U)) U U)<|bp 1 U<|pV U cW U<|rP 1 [] I ?_
  refine RK G<|ak<|ml hQ [0] (mc 1 U I) U ?_
  (have e:=vZ (a:=p) (b:=q) (zZ he).1; rw [e.1,e.2,(zZ he).2]<;>rfl)
 refine WK g<|ag fun _ H=>WS fun _ AB=>?_
 have A:=DQ he
 have F:=km A
 have j:=lz A
 refine rP 3 [0,1,2] (mc 0 U (mc 3 U (mc 2 U I))) ?_
 refine e_ (xs:=[.tmp 22,.tmp 23]) (cs:=((dg.cells p)++(dg.cells q))) U KC F_ U U U U (by simp [Value.cells,dg.bI]) U U fun X=>?_
 refine rS (CL (dF.eq (Bl ts tsA tsC ([p,q]) (some ⟨X,0,none⟩) 2 asm asm (by (simp; done))) DX) (eE 6 U U<|aw (bo 0 U U (by simp [dg.bI]) U)<|aS) U) ?_
 refine rP 1 [] I ?_
 refine RK AB<|cb U (aX fun D=>?_) (aW fun D=>?_)
 ·refine WS fun _ J=>rS (SX (bD (xs:=[]) (cs:=(ai.cells (ai.mk 0 0))) U U (bE g6 U)) U U)<|BA U cW U<|rP 1 [] I ?_
  refine RK J<|ak<|ml hQ [0] (mc 2 U I) U ?_
  (have e:=pJ A D; rw [e.1,e.2]<;>rfl)
 refine WK H<|WS fun _ K=>?_
 obtain ⟨hp,hq⟩:=D
 have n:=hp.1
 have o:=hq.1
 have i:=rf F hp
 have W:=rf F hq
 have V:=Af i
 have B:=q7 F (f:=(min p.bw q.bw).toNat) (k:=(max p.bw q.bw-min p.bw q.bw).toNat) om
 refine dZ 5 [0,1,2] (mc 1 U (mc 4 U (mc 3 U I))) U<|rS (MN U)<|dZ 4 [0,1] (mc 4 U (mc 3 U I)) U<|rS (MX U)<|rS (CL (I5 ts tsA tsC (min p.bw q.bw) (max p.bw q.bw) asm asm om) (aY [6]) U)<|bp 3 U<|AL U eg fun l=>AL U eg fun m=>pV U cW U<|e7 U cW U<|RK K<|ag fun _ C=>WS fun _ L=>rP 5 [0,1] (mc 5 U (mc 6 U I)) ?_
 refine RK L<|bO U (aO fun E=>?_) (aN fun E=>?_)
 ·refine WK C<|ag fun _ N=>dp cj [6,7,8] [] [] [0,1,2,3,5,6,7,8] [] U U U U U<|eS U (LW 1 U bU U U)<|eS U (FA 1 U eC U)<|eS U (LP (ai.cells q.l9) 4 U bU U U U)<|eS U (FA 1 U eC U)<|eS U (LP (ai.cells p.l9) 5 U bU U U U)<|eS U (CL (EA p.l9 asm) (aS) U)<|eS U (AG U)<|ed U<|cf U fun T26 S=>e_ (xs:=[.tmp 52,.tmp 55]) (cs:=((ai.cells q.l9)++(ai.cells (oJ p.l9)))) U lK eg U U U U (by simp [Value.cells,ai.bI]) U U fun Z=>aC (S _ _ (aK [1,2,3,4,6,7,8,9]) ?_)
  refine cf U fun T28 T=>?_
  refine rS (CL (dF.eq (qk (eV ts (min p.bw q.bw).toNat ((max p.bw q.bw)-(min p.bw q.bw)).toNat) ([q.l9,(oJ p.l9)]) (some ⟨Z,0,none⟩) 2 (by first|exact B|exact Af B) (by intro z hz; simp only [cm,List.not_mem_nil,or_false] at hz; rcases hz with rfl|rfl; exact W; exact V) sm) BB) (aw (bo 0 rfl rfl (by simp [ai.bI]) rfl)<|aS) rfl) ?_
  refine aC (T _ _ (aK [1,2,3,4,6,7,8,9]) ?_)
  refine cf U fun T29 AA=>HY U cW U<|aC (AA _ _ (aK [1,2,3,4,6,7,8,9]) ?_)
  refine e9 U<|KK N<|ak<|ml hQ [0] (mc 5 U I) U ?_
  (have e:=lW A ⟨hp,hq⟩; rw [e.1,e.2]; unfold kl xG; rw [if_neg E]<;>rfl)
 refine ao<|rP 1 [] (mc 1 U I) ?_
 refine rS (CL (EA (eV ts (min p.bw q.bw).toNat ((max p.bw q.bw)-(min p.bw q.bw)).toNat) asm) (aS) U)<|pV U cW U<|RK C<|ag fun _ M=>dp cj [6,7,8] [] [] [0,1,2,3,5,6,7,8] [] U U U U U<|eS U (LW 1 U bU U U)<|eS U (FA 1 U eC U)<|eS U (LP (ai.cells q.l9) 4 U bU U U U)<|eS U (FA 1 U eC U)<|eS U (LP (ai.cells p.l9) 5 U bU U U U)<|eS U (CL (EA p.l9 asm) (aS) U)<|eS U (AG U)<|ed U<|cf U fun T21 O=>e_ (xs:=[.tmp 52,.tmp 55]) (cs:=((ai.cells q.l9)++(ai.cells (oJ p.l9)))) U lK eg U U U U (by simp [Value.cells,ai.bI]) U U fun Y=>aC (O _ _ (aK [1,2,3,4,6,7,8,9]) ?_)
 refine cf U fun T23 P=>?_
 refine rS (CL (dF.eq (qk (oJ (eV ts (min p.bw q.bw).toNat ((max p.bw q.bw)-(min p.bw q.bw)).toNat)) ([q.l9,(oJ p.l9)]) (some ⟨Y,0,none⟩) 2 (by first|exact B|exact Af B) (by intro z hz; simp only [cm,List.not_mem_nil,or_false] at hz; rcases hz with rfl|rfl; exact W; exact V) sm) BB) (aw (bo 0 rfl rfl (by simp [ai.bI]) rfl)<|aS) rfl) ?_
 refine aC (P _ _ (aK [1,2,3,4,6,7,8,9]) ?_)
 refine cf U fun T24 R=>HY U cW U<|aC (R _ _ (aK [1,2,3,4,6,7,8,9]) ?_)
 refine e9 U<|KK M<|ak<|ml hQ [0] (mc 5 U I) U ?_
 (have e:=lW A ⟨hp,hq⟩; rw [e.1,e.2]; unfold kl xG; rw [if_pos E]<;>rfl)
theorem sx (ts:List aD) (tsA:OA) (tsC:Nat) (s:dg) (hst: ∀ x∈ts,bY x) (hlen:ts.length≤12):
 dF Tryz.prog 158 [(vA (bJ.cells (bJ.mk (bj.mk tsA ts.length tsC)))),(vA (dg.cells s))] [(rd tsA ts.length 9 (ts.map aD.cells))] (vB (decide (fU ts s))):=by
 refine bG kr Tryz.func158 U U fun H Q hQ hN=>?_
 try dsimp only
 refine WS fun _ C=>dV U fun F=>dV U fun G=>bp 1 U<|RK C<|ag fun _ A=>cS cj 22 kr<|kp 6 [0,1] (mc 0 U (mc 1 U I)) U<|dS (CL (pj s.bw 0 ((ts.length:Int)-1)) (aS) U)<|dP 1 [] I ?_
 refine jl (t:=12) U (aO fun B=>?_) (aN fun B=>?_)
 ·refine kK 8 U<|dP 6 [] I ?_
  refine cu<|RK A<|ak<|Q1 hQ U U U ?_
  (refine cB ?_; rw [br (Cb om)])
 refine kK 1 U<|dS (LP (ai.cells s.l9) 0 U bU U U U)<|dP 4 [0,1] (mc 1 U (mc 0 U I)) ?_
 obtain ⟨x,hx⟩:=aA ts ((s.bw).toNat) om
 have D:=bH aD.cells hx
 refine dS (IA ((s.bw).toNat) U (av 2 U) wL dc om om)<|dS (nX ((((s.bw).toNat)*9)+1) U (av 2 U) (Nat.mul_pos om dc) eC U) ?_
 have E:=(hst x (aP hx)).2.1
 simp only [eu] at E
 refine dS (nX ((((s.bw).toNat)*9)+1) U (av 2 U) (Nat.mul_pos om dc) eC U)<|dS (gD ((s.bw).toNat) 1 (vI x.jT.Lo) U bU (av 2 U) D U dc U)<|kK 1 U<|dS (CL (p7 s.l9 0 (x.jT.Lo-1)) (aS) U)<|dP 2 [] I ?_
 refine cu<|RK A<|ak<|Q1 hQ U U U ?_
 exact cB (gS.2 (Bv om hx).symm)
theorem Ao (ts:List aD) (tsA:OA) (tsC:Nat) (f t:Int) (hst: ∀ x∈ts,bY x) (hlen:ts.length≤12) (hf:0≤f∧f≤t∧t≤ts.length):
 dF Tryz.prog 215 [(vA (bJ.cells (bJ.mk (bj.mk tsA ts.length tsC)))),(vI f),(vI t)] [(rd tsA ts.length 9 (ts.map aD.cells))] (vT [(vA (ai.cells (eV ts f.toNat (t-f).toNat))),(vA (ai.cells (gT ts f.toNat (t-f).toNat)))]):=by
 refine bG kr Tryz.func215 U U fun i Q hQ hN=>?_
 try dsimp only
 refine WS fun _ R=>dV U fun e=>AL U eg fun g=>AL U eg fun h=>RK R<|WS fun _ S=>AL U eg fun a=>AL U eg fun b=>RK S<|ag fun _ T=>WS fun _ AA=>rP 2 [] I ?_
 refine RK AA<|ax ?_
 have A:(0≤(t-f).toNat):=by exact Nat.zero_le _
 have K:(vI (f+(0:Int)))=(vI f):=by exact cI om
 refine bP (ι:={z:Nat // (z≤(t-f).toNat)}) [1,2,3,6,7,8,9] [2,3,4,5] U U (fun z=>[(10,(vI (f+(z.1:Int))))]) (fun z=>[(cy b 38 (ai.cells (gT ts f.toNat z.1))),(cy a 38 (ai.cells (eV ts f.toNat z.1)))]) (fun _=>rfl) (fun _=>rfl) (fun z=>(t-f).toNat-z.1) ⟨0,A⟩ (aU U K<|cR.nil _) (aK [2,3,4,5,0,1]) ?_
 clear A
 rintro ⟨k,V⟩ J11 B
 try dsimp only
 refine ag fun _ C=>WS fun _ D=>rP 3 [] I ?_
 refine RK D<|bO U (aO fun P=>?_) (aN fun P=>?_)
 ·refine bM<|ab<|ab<|aF<|KK T<|ag fun _ H=>dp cj [2,3] [] [] [2,3,4,5] [] U U U U U<|eS U (LW 3 U bU U U)<|eS U (LW 2 U bU U U)<|ed U<|cf U fun T23 AB=>pV U cW U<|aC (AB _ _ (aK [2,3,4,5]) ?_)
  refine cf U fun T24 J=>e7 U cW U<|aC (J _ _ (aK [2,3,4,5]) ?_)
  refine e9 U<|KK H<|ak<|ml hQ [0,1] (mc 1 U (mc 0 U I)) U ?_
  obtain rfl:k=(t-f).toNat:=om; rfl
 refine WK C<|ag fun _ E=>ax<|WS fun _ F=>rP 3 [] (mc 2 U I) ?_
 obtain ⟨x,hx⟩:=aA ts (f.toNat+k) om
 have Y:=bH aD.cells hx
 refine rS (IA (f.toNat+k) U (av 3 U) wL dc om om)<|rS (jK (f.toNat+k) 0 (aD.cells x) U bU (av 3 U) Y U dc U U)<|AL U KT fun Z=>e7 U H2 U<|RK F<|WS fun _ G=>?_
 have O:=hst x (aP hx)
 have d:=mR hst f.toNat k
 have c:=F6 hst f.toNat k
 have W:=O.2.1
 have X:=O.2.2.1
 simp only [eu] at W X
 refine dZ 12 [0,1,0,1] (mc 6 U (mc 0 U I)) U<|rS (SX (bD (xs:=[(0,.tmp 28),(1,.tmp 34)]) (cs:=(ai.cells (ai.mk (((eV ts f.toNat k).Lo)+x.jT.Lo) (((eV ts f.toNat k).Hi)+x.jT.Hi)))) U U (bE g6 U)) U U)<|RB U cW U<|RK G<|ao<|rP 12 [0,1,0,1] (mc 5 U (mc 0 U I)) ?_
 refine rS (SX (bD (xs:=[(0,.tmp 41),(1,.tmp 47)]) (cs:=(ai.cells (ai.mk (((gT ts f.toNat k).Lo)+x.kN.Lo) (((gT ts f.toNat k).Hi)+x.kN.Hi)))) U U (bE g6 U)) U U)<|HY U cW U<|aC<|aJ<|KK E ?_
 have L:(ai.cells (ai.mk (((eV ts f.toNat k).Lo)+x.jT.Lo) (((eV ts f.toNat k).Hi)+x.jT.Hi)))=(ai.cells (eV ts f.toNat (k+1))):=by rw [qm hx]; rfl
 rw [L]
 have M:(ai.cells (ai.mk (((gT ts f.toNat k).Lo)+x.kN.Lo) (((gT ts f.toNat k).Hi)+x.kN.Hi)))=(ai.cells (gT ts f.toNat (k+1))):=by rw [qc hx]; rfl
 rw [M]
 refine ao<|rP 3 [] I ?_
 refine aC ?_
 have N:(vI (f+(((k+1):Nat):Int)))=(vI ((f+(k:Int))+1)):=by exact cI om
 refine a_ (B ⟨(k+1),(by first|omega|(simp only []; omega))⟩ _ _ _ U os (cz 7<|aU U N<|cR.nil _) (aK [1,2,3,4,5,6]))
end
end Go.Proofs.YtkaenmjhfajbkaaGreatDoor
