/-
 The statement juryRules_said, part 5 of 9: JMem, SeqO, RankP, NestS, Grp, JSeq, JTop, JMor, JFeeL, JRef, JRep, Twin, Fresh, JPut, JPutL, JRul, Win6, DrawB, MapD, Bits, BoolC, RaceR, B1, B11, WLe, Ends5, Can, Sim, Told, Clear, Ways, Frozen, MarkD, Async, WayM, Marks, Follow, OpenM, B2, B3.
 Conditions: none.
-/
import Derived.Test.YtkaenmjhfajbkaaGreatDoorTv1
import Derived.Test.YtkaenmjhfajbkaaGreatDoorTv2
import Derived.Test.YtkaenmjhfajbkaaGreatDoorTv3
import Derived.Test.YtkaenmjhfajbkaaGreatDoorTv4
import Derived.KernelRfl
namespace Go.Proofs.YtkaenmjhfajbkaaGreatDoor
set_option maxRecDepth 100000
set_option maxHeartbeats 4000000
set_option linter.unusedVariables false
section
open Go.RowKit
structure er (j:cw) (az:List RA) (ha:List bZ):Prop where
 race:iL j.Race az ha
 nf:j.aM.length≤1000000
 np:j.aB.length≤1000000
 kind: ∀ f∈j.aM,0≤f.Kind∧f.Kind≤255
structure uk (j:cw) (az:List RA) (ha:List bZ):Prop where
 race:uB j.Race az ha
 nf:j.aM.length≤9223372036854775807
 np:j.aB.length≤9223372036854775807
 kind: ∀ f∈j.aM,0≤f.Kind∧f.Kind≤255
def l3 (j:cw):Prop:=(jX j.Race∨10<(j.aM.length:Int))∨15<(j.aB.length:Int)
noncomputable instance (j:cw):Decidable (l3 j):=Classical.propDecidable _
theorem sv {j:cw} (h: ¬ l3 j): ¬ jX j.Race∧(j.aM.length:Int)≤10∧(j.aB.length:Int)≤15:=by
 unfold l3 at h
 have A: ¬ jX j.Race:=fun q=>h (.inl (.inl q))
 have B: ¬ 10<(j.aM.length:Int):=fun q=>h (.inl (.inr q))
 have C: ¬ 15<(j.aB.length:Int):=fun q=>h (.inr q)
 exact ⟨A,om,om⟩
theorem uk.small {j:cw} {az:List RA} {ha:List bZ} (h:uk j az ha) (hg: ¬ l3 j):er j az ha:=by
 have A:=sv hg
 exact ⟨h.race.small A.1,om,om,h.kind⟩
def oY (fin:Int) (f:bg):Prop:=(1≤f.Kind∧f.Kind≤3)∧(0≤f.mz∧f.mz≤f.To∧f.To≤86400000)∧0≤f.hE∧f.hE≤(if f.Kind=1 then 0 else fin)
instance (fin:Int) (f:bg):Decidable (oY fin f):=by unfold oY; infer_instance
theorem Mt {P:Nat→Bool} {n i:Nat} (h: ¬ 0<((kT P n).length:Int)) (hi:i<n):P i=false:=by
 cases e:P i with
 |false=>rfl
 |true=>
  have:(i:Int)∈kT P n:=El.2 ⟨i,hi,rfl,e⟩
  have:=List.length_pos_of_mem this
  omega
theorem Mi {P:Nat→Bool} {n:Nat} (h:0<((kT P n).length:Int)): ∃ i,i<n∧P i=true:=by
 obtain ⟨x,hx⟩:=List.exists_mem_of_length_pos (l:=kT P n) om
 obtain ⟨i,A,_,B⟩:=El.1 hx
 exact ⟨i,A,B⟩
def iK {α:Type} (l:List α) (p:Int→α→Bool) (i:Nat):Bool:=(l[i]?).any (p (i:Int))
theorem sj {α:Type} {l:List α} {p:Int→α→Bool} {i:Nat} {x:α} (h:l[i]? =some x):iK l p i=p (i:Int) x:=by unfold iK; rw [h]; rfl
section
variable {fin:Int} {f:bg} {j:cw}
theorem uV (hk:f.Kind=1):oY fin f↔(0≤f.mz∧f.mz≤f.To∧f.To≤86400000)∧0≤f.hE∧f.hE≤0:=by
 unfold oY; rw [if_pos hk]; omega
theorem uA (hk: ¬ f.Kind=1):oY fin f↔(1≤f.Kind∧f.Kind≤3)∧(0≤f.mz∧f.mz≤f.To∧f.To≤86400000)∧0≤f.hE∧f.hE≤fin:=by
 unfold oY; rw [if_neg hk]
theorem Er (h:0<((kT (iK j.aM fun _ f=>decide (¬ oY j.Race.au.bU f)) j.aM.length).length:Int)): ¬ qY j:=fun q=>by
 obtain ⟨i,hi,hb⟩:=Mi h
 have hx:j.aM[i]? =some (j.aM[i]'hi):=fZ hi
 rw [sj hx] at hb
 exact (of_decide_eq_true hb) (q.fault _ (aP hx))
theorem BZ (h: ¬ 0<((kT (iK j.aM fun _ f=>decide (¬ oY j.Race.au.bU f)) j.aM.length).length:Int)): ∀ f∈j.aM,fj j.Race.au f:=fun f hf=>by
 obtain ⟨i,hi⟩:=List.mem_iff_getElem?.1 hf
 have hb:=Mt h (aZ.1 hi).1
 rw [sj hi] at hb
 exact Decidable.of_not_not (of_decide_eq_false hb)
theorem tS {b:Bool} {p q:Prop} (h1:b=false) (h2: ¬ p) (h3: ¬ q): ¬ (b=true∨p∨q):=by
 rintro (h|h|h)
 ·rw [h1] at h; cases h
 ·exact h2 h
 ·exact h3 h
end
section
variable {l:bq} {r:cQ} {b:Int} {f:bg} {d:aq} {a c:xr}
theorem zR (h:b<0):dh l r b=⟨r.Start,r.Start,true,false⟩:=if_pos h
theorem ye (h: ¬ b<0) (e: ¬ eA l r b=0):dh l r b=⟨86400000,86400000,false,true⟩:=by unfold dh; rw [if_neg h,if_neg e]
theorem vo (h: ¬ b<0) (e:eA l r b=0) (q:uI l r b=true):dh l r b=⟨(dD l r b).Lo,(dD l r b).Hi,true,false⟩:=by unfold dh; rw [if_neg h,if_pos e,q]; rfl
theorem tM (h: ¬ b<0) (e:eA l r b=0) (q:uI l r b=false):dh l r b=⟨(dD l r b).Lo,86400000,false,false⟩:=by unfold dh; rw [if_neg h,if_pos e,q]; rfl
theorem su (h:eA l r b=0) (hb:0≤b):fq l r 0=0:=by
 by_cases e:fq l r (fQ l b)=0
 ·by_cases c:0≤b∧b≤(l.aj.length:Int)-1
  ·rw [mV c] at e; exact e
  ·rw [show fQ l b=2 from if_neg c] at e
   have:=(iD e).2.2.1
   omega
 ·rw [(dK e).1] at h; exact absurd h e
theorem BX (h:fq l r 0=0):uI l r b=decide (b<qb (hH l r)):=by
 have hm:=NV (zp h)
 unfold uI
 rw [Bool.eq_iff_iff,c_,decide_eq_true_iff]
 constructor
 ·intro q; exact of_decide_eq_true (q _ hm.1)
 ·intro q x hx
  have:=hm.2 x hx
  exact dC om
theorem FO (hb:0≤b):(0≤(dh l r b).Lo∧(dh l r b).Lo≤86400000)∧0≤(dh l r b).Hi∧(dh l r b).Hi≤86400000:=by
 by_cases e:eA l r b=0
 ·have A:=vb e
  cases q:uI l r b with
  |true=>rw [vo om e q]; simp only; omega
  |false=>rw [tM om e q]; simp only; omega
 ·rw [ye om e]; simp only; omega
theorem gZ (hk:f.Kind=1) (hr:o0 d):gd l f d=nu f (dh l d.aV (-1)) (dh l d.aV l.bU):=by
 unfold gd Ff TQ; rw [if_pos hr,if_pos hk,if_pos hk]
theorem gV (hk:f.Kind=2) (hr:o0 d):gd l f d=nu f (dh l d.aV (f.hE-1)) (dh l d.aV f.hE):=by
 unfold gd Ff TQ; rw [if_pos hr,if_neg om,if_pos hk,if_neg om]
theorem gY (hk:f.Kind=3) (hr:o0 d):gd l f d=nu f (dh l d.aV f.hE) (dh l d.aV f.hE):=by
 unfold gd Ff TQ; rw [if_pos hr,if_neg om,if_neg om,if_neg om]
theorem eX (h:a.never=true∨f.To<a.Lo∨c.Hi<f.mz):nu f a c=0:=if_pos h
theorem lV (h: ¬ (a.never=true∨f.To<a.Lo∨c.Hi<f.mz)) (q:a.each=true) (s:q8 f a c):nu f a c=2:=by unfold nu; rw [if_neg h,if_pos ⟨q,s⟩]
theorem gr (h: ¬ (a.never=true∨f.To<a.Lo∨c.Hi<f.mz)) (q: ¬ (a.each=true∧q8 f a c)):nu f a c=1:=by unfold nu; rw [if_neg h,if_neg q]
theorem j1 (hk: ¬ f.Kind=3):q8 f a c↔a.Hi≤f.To∧f.mz≤c.Lo:=by unfold q8; rw [if_neg hk]
theorem An (hk:f.Kind=3):q8 f a c↔ai.mk (max a.Lo f.mz) (min a.Hi f.To)=ai.mk a.Lo a.Hi:=by
 unfold q8; rw [if_pos hk]
 constructor
 ·intro q; congr 1<;>omega
 ·intro q; injection q with A B; omega
end
section
variable {j:cw} {p:bR} {d:aq} {f:bg}
theorem JI (hd:qP j p=some d) (h:p.At≤(dh j.Race.au d.aV j.Race.au.bU).Lo+60000*j.gu):pS j p=0:=by unfold pS; rw [hd]; exact if_pos h
theorem IU (hd:qP j p=some d) (h: ¬ p.At≤(dh j.Race.au d.aV j.Race.au.bU).Lo+60000*j.gu) (h2:p.At≤(dh j.Race.au d.aV j.Race.au.bU).Hi+60000*j.gu):pS j p=1:=by unfold pS; rw [hd]; simp only; rw [if_neg h,if_pos h2]
theorem Kh (hd:qP j p=some d) (h: ¬ p.At≤(dh j.Race.au d.aV j.Race.au.bU).Lo+60000*j.gu) (h2: ¬ p.At≤(dh j.Race.au d.aV j.Race.au.bU).Hi+60000*j.gu):pS j p=2:=by unfold pS; rw [hd]; simp only; rw [if_neg h,if_neg h2]
theorem Jj (h:pS j p=2):gJ j p=false:=by unfold gJ; split<;>simp [h]
theorem Lf (hd:qP j p=some d) (hf:j.aM[p.gh.toNat]? =some f) (h: ¬ pS j p=2):gJ j p= !decide (gd j.Race.au f d=0):=by unfold gJ; rw [hd,hf]; simp [h]
end
section
variable {j:cw} {i k:Nat} {p q:bR} {f:bg} {d:aq}
/-- the first faults are right -/
def pQ (j:cw) (k:Nat):Prop:= ∀ (i:Nat) f,i<k→j.aM[i]? =some f→fj j.Race.au f
theorem Cy:pQ j 0:=fun i f h=>absurd h (Nat.not_lt_zero _)
theorem rq (h:pQ j k) (hf:j.aM[k]? =some f) (ho:fj j.Race.au f):pQ j (k+1):=fun i g hi hg=>by
 rcases Nat.lt_or_ge i k with c|c
 ·exact h i g c hg
 ·obtain rfl:i=k:=by omega
  rw [hf] at hg; cases hg; exact ho
theorem dW (h:pQ j k) (hk:j.aM.length≤k): ∀ f∈j.aM,fj j.Race.au f:=fun f hf=>by
 obtain ⟨i,hi⟩:=List.mem_iff_getElem?.1 hf
 exact h i f (by have:=(aZ.1 hi).1; omega) hi
/-- the first protests are right -/
def oG (j:cw) (k:Nat):Prop:= ∀ (i:Nat) p,i<k→j.aB[i]? =some p→vz j i p
theorem xp:oG j 0:=fun i f h=>absurd h (Nat.not_lt_zero _)
theorem tx (h:oG j k) (hp:j.aB[k]? =some p) (ho:vz j k p):oG j (k+1):=fun i g hi hg=>by
 rcases Nat.lt_or_ge i k with c|c
 ·exact h i g c hg
 ·obtain rfl:i=k:=by omega
  rw [hp] at hg; cases hg; exact ho
/-- the number of the last protest, so far -/
def pR (j:cw) (k:Nat):Int:=match k with
 |0=> -1
 |k+1=>match j.aB[k]? with
  |some p=>p.Id
  |none=> -1
theorem nW (hp:j.aB[k]? =some p):pR j (k+1)=p.Id:=by unfold pR; simp only [hp]
theorem MD (h:oG j k) (hk:k≤j.aB.length): -1≤pR j k∧pR j k≤9999:=by
 cases k with
 |zero=>exact ⟨by simp [pR],by simp [pR]⟩
 |succ k=>
  obtain ⟨p,hp⟩: ∃ p,j.aB[k]? =some p:=⟨j.aB[k]'om,fZ _⟩
  have:=(h k p om hp).id
  rw [nW hp]; omega
theorem mF {ht:List aq} (hh:j.Race.aI[p.ib.toNat]? =some ht) (hd:ht[p.gH.toNat]? =some d):qP j p=some d:=by
 unfold qP; rw [hh]; exact hd
theorem Nc (hp:j.aB[k]? =some p) (hi:pR j k+1≤p.Id∧p.Id≤9999) (h0: -1≤pR j k) (hs:0≤p.gH∧p.gH≤(j.Race.bu.length:Int)-1) (hh:0≤p.ib∧p.ib≤(j.Race.aI.length:Int)-1) (hf:0≤p.gh∧p.gh≤(j.aM.length:Int)-1) (hd:qP j p=some d) (hr:o0 d) (ha:d.aV.Start≤p.At∧p.At≤86400000):vz j k p:=by
 refine ⟨om,fun q B A=>?_,hs,hh,hf,d,hd,hr,ha⟩
 cases k with
 |zero=>omega
 |succ k=>
  rw [Nat.add_sub_cancel] at A
  rw [nW A] at hi
  omega
/-- one that is wrong -/
theorem rY (hp:j.aB[k]? =some p) (h: ¬ vz j k p): ¬ qY j:=fun q=>h (q.ia k p hp)
theorem wS (h:vz j k p) (hk:k≤j.aB.length):pR j k+1≤p.Id:=by
 cases k with
 |zero=>have:=h.id; show-1+1≤p.Id; omega
 |succ k=>
  obtain ⟨q,hq⟩: ∃ q,j.aB[k]? =some q:=⟨j.aB[k]'om,fZ _⟩
  have:=h.up q om (by rw [Nat.add_sub_cancel]; exact hq)
  rw [nW hq]; omega
end
def o5 (l:List bg) (f:bg):Int:=match l.findIdx? (fun x=>decide (x=f)) with
 |some i=>(i:Int)
 |none=> -1
section
variable {l:List bg} {f g x:bg} {i:Nat}
theorem ME (hx:l[i]? =some x) (h:x=f) (hb: ∀ (q:Nat) y,q<i→l[q]? =some y→y≠f):o5 l f=(i:Int):=by
 unfold o5
 have:l.findIdx? (fun x=>decide (x=f))=some i:=by
  rw [List.findIdx?_eq_some_iff_getElem]
  obtain ⟨hi,e⟩:=aZ.1 hx
  refine ⟨hi,by rw [e]; simp [h],fun q hq=>?_⟩
  have:=hb q (l[q]'om) hq (fZ _)
  simpa using this
 rw [this]
theorem M0 (hb: ∀ (q:Nat) y,q<i→l[q]? =some y→y≠f) (hi:l.length≤i):o5 l f= -1:=by
 unfold o5
 have:l.findIdx? (fun x=>decide (x=f))=none:=by
  rw [List.findIdx?_eq_none_iff]
  intro y hy
  obtain ⟨q,hq⟩:=List.mem_iff_getElem?.1 hy
  have:=hb q y (by have:=(aZ.1 hq).1; omega) hq
  simpa using this
 rw [this]
theorem B6 (hf:f∈l): ∃ i:Nat,o5 l f=(i:Int)∧l[i]? =some f:=by
 unfold o5
 cases h:l.findIdx? (fun x=>decide (x=f)) with
 |none=>
  rw [List.findIdx?_eq_none_iff] at h
  have:=h f hf
  simp at this
 |some i=>
  rw [List.findIdx?_eq_some_iff_getElem] at h
  obtain ⟨hi,e,_⟩:=h
  exact ⟨i,U,by rw [fZ hi]; simpa using e⟩
theorem IG (hf:f∈l) (hg:g∈l) (h:o5 l f=o5 l g):f=g:=by
 obtain ⟨i,C,A⟩:=B6 hf
 obtain ⟨k,D,B⟩:=B6 hg
 have:i=k:=by omega
 subst this
 exact Option.some.inj (A.symm.trans B)
end
abbrev pb (j:cw) (kA:Option Addr) (az:List RA) (cA bA:Option Addr) (slA drA:Option Addr) (ha:List bZ) (heA:Option Addr) (faA prA:Option Addr):List ay:=[(rd kA j.Race.au.bL.length 9 (j.Race.au.bL.map aD.cells)),(rd cA j.Race.au.aG.length 2 (List.zipWith aT.cells j.Race.au.aG az)),(iH (bK aT.jU j.Race.au.aG az)),(rd bA j.Race.au.aj.length 4 (j.Race.au.aj.map cO.cells)),(rd slA j.Race.bu.length 1 (j.Race.bu.map iC)),(rd drA j.Race.cN.length 1 (j.Race.cN.map iC)),(rd heA j.Race.aI.length 1 (List.zipWith cL j.Race.aI ha)),(iH (bK lM j.Race.aI ha)),(rd faA j.aM.length 4 (j.aM.map bg.cells)),(rd prA j.aB.length 5 (j.aB.map bR.cells))]
end
section
open Go.RowKit
abbrev Vp (C:List ay) (i j:Nat):List Nat:=i::j::(List.range C.length).filter fun k=>k != i&&k != j
def Ue {σ:Type} (w0:World) (P:Program) (l:Nat) (step:σ→List Value→ay→σ→Prop) (J:σ→ay→Prop) (Z:ay→Prop):Prop:=
 ∀ k x R k' A w,step k x R k'→J k A→w0.heap.size≤w.heap.size→(bQ [A,R]).holds w→YieldAt (Fw none) 0 P l x.toArray w fun e w'=>
  (e= .returned (.bool true)∧ ∃ B,J k' B∧Mv (bQ [A,R]) B w w')∨(e= .returned (.bool false)∧ ∃ B,Z B∧Mv (bQ [A,R]) B w w')
structure O6 {σ:Type} (P:Program) (f:FuncId) (fi ca:List Value) (Cp:List ay) (s0:σ) (step:σ→List Value→ay→σ→Prop) (fin:σ→Prop):Prop where
 go:sP P f=true
 run: ∀ (l:Nat) (J:σ→ay→Prop) (Z:ay→Prop) (A0:ay) (w:World),Ue w P l step J Z→J s0 A0→A0.holds w→(∀ A∈Cp,A.holds w)→(∀ A∈Cp,Dm A0 A.ro)→
  Calls P f (fi++Value.func (.yield l) #[] #[]::ca).toArray w (Bl J Z fin A0 w)
theorem MR {σ:Type} {P:Program} {f:FuncId} {fn:Func} {c:Code} {fi ca:List Value} {Cp:List ay} {s0:σ} {step:σ→List Value→ay→σ→Prop} {fin:σ→Prop} (hgo:sP P f=true) (hf:P.funcs[f]? =some fn) (hb:fn.body=some c) (hn:Nat.ble (fi.length+ca.length+1) fn.ntmps=true)
 (h: ∀ (l:Nat) (J:σ→ay→Prop) (Z:ay→Prop) (A0:ay) (w0:World) (Q:dv),Ue w0 P l step J Z→J s0 A0→Fo A0 w0 A0→
  (∀ D L C,LJ ⟨P,none,fn.ntmps,⟨A0.wf,fun _=>True⟩,w0⟩ fn (Bl J Z fin A0 w0) D L C→KJ ⟨P,none,fn.ntmps,⟨A0.wf,fun _=>True⟩,w0⟩ (Q .ret) D L C)→
  (∀ D L C,LJ ⟨P,none,fn.ntmps,⟨A0.wf,fun _=>True⟩,w0⟩ fn (Bl J Z fin A0 w0) D L C→KJ ⟨P,none,fn.ntmps,⟨A0.wf,fun _=>True⟩,w0⟩ (Q .normal) D L C)→
  WJ ⟨P,none,fn.ntmps,⟨A0.wf,fun _=>True⟩,w0⟩ c Q [] (NZ (fi++Value.func (.yield l) #[] #[]::ca)) (A0::Cp.map ay.ro)):O6 P f fi ca Cp s0 step fin:=by
 refine ⟨hgo,fun l J Z A0 w hY hJ hA F E=>?_⟩
 refine Aa hf hb (by simpa [Nat.add_assoc] using hn) (h l J Z A0 w · hY hJ (fun b hb=> .inl hb)) ?_
 have G:=rj F
 refine ⟨dZ.refl _ _,fun A hA'=>?_,List.Pairwise.cons (fun B hB=>?_) G.sep,fun A hA' b hb=>?_,fun _ _ _ _=> .inr trivial⟩
 ·rcases cm.1 hA' with rfl|hA'
  ·exact hA
  ·exact G.holds A hA'
 ·obtain ⟨B',hB',rfl⟩:=db.1 hB
  exact E B' hB'
 ·rcases cm.1 hA' with rfl|hA'
  ·exact .inr hb
  ·obtain ⟨B',hB',rfl⟩:=db.1 hA'
   exact hb.elim
section
variable {E:fH} {ops:Array Oper} {Q:dv} {rest:List Oper} {D:List Deferred} {L:List (Nat×Value)} {C:List ay}
variable {d:Nat} {ty:TypeId} {ps:String} {af:Array Edge} {g:Option (Nat×Bool)}
/-- a call of yield -/
theorem KE {σ:Type} {fop:Operand} {xs:Array Operand} {ts:Array TypeId} {l:Nat} {k k':σ} {vs:List Value} {step:σ→List Value→ay→σ→Prop} {J:σ→ay→Prop} {Z:ay→Prop} {A0 A R:ay} {C1:List ay} (i j:Nat) (hS:E.S=⟨A0.wf,fun _=>True⟩) (hY:Ue E.w0 E.P l step J Z) (hJ:J k A) (hF:Fo A0 E.w0 A) (hg:ke ops L g=true) (hf:ev L fop=some (.func (.yield l) #[] #[]))
 (hx:evs L xs.toList=some vs) (hk:step k vs R k') (hR:R.wr=true) (hn:decide (Vp C i j).Nodup=true) (hC:sQ C (Vp C i j)=some (A::R::C1)) (hd:Nat.blt d E.n=true)
 (k1: ∀ B,J k' B→Fo A0 E.w0 B→RJ E ops Q rest D ((d,.bool true)::L) (B::C1))
 (k2: ∀ B,Z B→Fo A0 E.w0 B→RJ E ops Q rest D ((d,.bool false)::L) (B::C1)):
 RJ E ops Q (⟨some d,.call {callee:= .value fop,args:=xs,argTypes:=ts},ty,ps,af,g⟩::rest) D L C:=by
 intro a w F N
 have AA:St E.S E.w0 ([A,R]++C1) w:=St.kS _ hn (mQ hC) N
 have hs:=AA.tied
 have hd':d<E.n:=by rw [← Nat.blt_eq]; exact hd
 unfold tg
 rw [if_pos (eI F hg)]
 have O:xs.map a.eval=vs.toArray:=by
  have:=F.evs hx
  apply Array.ext'
  simp [this]
 obtain ⟨fn,tmps,assign,body,hy,hr⟩:=hY k vs R k' A w hk hJ hs.keeps.size (hs.holds _ cr)
 have H:(execOp a.eval ⟨some d,.call {callee:= .value fop,args:=xs,argTypes:=ts},ty,ps,af,g⟩).run E.P w= .ok (.round l fn tmps assign body) w:=by
  simp [execOp,resolve,F.ev hf,Deferred.ofValue,invoke,O,hy]
 refine ⟨fun _ _=>trivial,?_⟩
 rw [Oper.semAt_eq _ _ _ sm,H]
 refine ⟨fun h=>by simp at h,?_⟩
 have G: ∀ (B:ay) (w':World),Mv (bQ [A,R]) B w w'→Fo A0 E.w0 B:=fun B w' m b hb=>by
  rcases m.fO b hb with ⟨X,hX,K⟩|K
  ·rcases cm.1 hX with rfl|hX
   ·exact hF b K
   ·rw [cH] at hX; subst hX
    rcases AA.own X sm b (X.whole hR b K) with M|M
    ·exact .inr M
    ·rw [hS] at M; exact .inl (A0.k9 b M)
  ·exact .inr (Nat.le_trans hs.keeps.size K)
 have hr':RoundIn (Fw E.r) 0 E.P l fn tmps assign body w _:=hr
 refine hr'.mono fun e w' he=>?_
 rcases he with ⟨rfl,B,hB,m⟩|⟨rfl,B,hB,m⟩
 ·exact k1 B hB (G B w' m) _ _ (F.put hd' _) (hs.mv 0 U m)
 ·exact k2 B hB (G B w' m) _ _ (F.put hd' _) (hs.mv 0 U m)
end
theorem JN {σ:Type} {E:fH} {Q:dv} {D:iw} {L L0:dF} {C F:List ay} {g:Operand} {ps:Array Tmp} {assign body:Code} {f:FuncId} {fi ca:List Value} {Cp:List ay} {s0:σ} {step:σ→List Value→ay→σ→Prop} {fin_:σ→Prop} {ι κ:Type}
 (inv:σ→ι→Prop) (Ci:σ→ι→List ay) (invx:Code→κ→Prop) (Cx:Code→κ→List ay) (isJ isF:List Nat) (y0:ι)
 (hr:E.r=none) (hg:ev L g=some (.func (.func f) fi.toArray ca.toArray)) (hs:O6 E.P f fi ca Cp s0 step fin_)
 (hnd:decide (isJ++isF).Nodup=true) (hJ:kS C isJ=Ci s0 y0) (hF:kS C isF=F) (h0:inv s0 y0) (hCp: ∀ A∈Cp,∃ B∈F,Kq B A)
 (hps: ∀ k x R k',step k x R k'→x.length=ps.size) (hpn:ps.toList.all (fun t=>Nat.blt t E.n)=true) (hL:cR L L0)
 (round: ∀ (k:σ) (x:List Value) (R:ay) (k':σ) (y:ι) (l:Nat) (ra rb:Loop) (S:BS) (w0:World) (K:Act→World→Prop) (Qr:dv),E.w0.heap.size≤w0.heap.size→step k x R k'→inv k y→
  (∀ L' C',WJ ⟨E.P,some l,E.n,S,w0⟩ body Qr [] L' (ju l (.loop rb)::C')→KJ ⟨E.P,some l,E.n,S,w0⟩ K [] L' (ju l (.loop ra)::C'))→
  (∀ y' L' C',inv k' y'→(∀ w,St S w0 C' w→St S w0 (ju l (.loop rb)::Ci k' y') w)→KJ ⟨E.P,some l,E.n,S,w0⟩ (Qr .normal) [] L' C')→
  (∀ id z L' C',invx (.exit id) z→(∀ w,St S w0 C' w→St S w0 (ju l (.loop rb)::Cx (.exit id) z) w)→KJ ⟨E.P,some l,E.n,S,w0⟩ (Qr (.exit id)) [] L' C')→
  (∀ z L' C',invx .ret z→(∀ w,St S w0 C' w→St S w0 (ju l (.loop rb)::Cx .ret z) w)→KJ ⟨E.P,some l,E.n,S,w0⟩ (Qr .ret) [] L' C')→
  WJ ⟨E.P,some l,E.n,S,w0⟩ assign (Exit.then K (fun _ _ _=>False)) [] (yW ps.toList x L0) (ju l (.loop ra)::(Ci k y++[R])))
 (fin: ∀ r s y,fin_ s→inv s y→KJ E (Q .normal) (jY r::D) L0 (ju r (.deferred (some []))::(F++Ci s y)))
 (finx: ∀ r id z,invx (.exit id) z→KJ E (Q (.exit id)) (jY r::D) L0 (ju r (.deferred (some []))::(F++Cx (.exit id) z)))
 (finr: ∀ r z,invx .ret z→KJ E (Q .ret) (jY r::D) L0 (ju r (.deferred (some []))::(F++Cx .ret z))):WJ E (.rangeFunc g ps assign body) Q D L C:=by
 intro a w hf u
 refine wpIn_rangeFunc fun fn _=>?_
 show ∃ l jY w₁ d w₁' f args w₂,(Instr.enterLoop fn a.tmps ps assign body E.r).run E.P w= .ok (l,jY) w₁∧_
 rw [hr]
 obtain ⟨rec,G⟩: ∃ rec:LoopState→Option Code→Loop,rec=fun st pe=>{state:=st,pending:=pe,fn,tmps:=a.tmps,params:=ps,assign,body,defers:=w.heap.size}:=⟨_,rfl⟩
 obtain ⟨W1,T⟩: ∃ W1,(w.alloc (.deferred (some []))).alloc (.loop (rec .ready none))=W1:=⟨_,rfl⟩
 have A1:a.eval g= .func (.func f) fi.toArray ca.toArray:=hf.ev hg
 have q:(Instr.enterLoop fn a.tmps ps assign body none).run E.P w= .ok (w.heap.size+1,[jY w.heap.size]) W1:=by
  rw [← T,G]; exact run_enterLoop_outer _ _ _ _ _
 -- the state with the record and the block
 have AC:St E.S E.w0 ((ju (w.heap.size+1) (.loop (rec .ready none))::Ci s0 y0)++(ju w.heap.size (.deferred (some []))::F)) W1:=by
  have Y:St E.S E.w0 (Ci s0 y0++F) w:=St.kS (isJ++isF) hnd (by have Y:=hJ; have o:=hF; unfold Go.Proofs.YtkaenmjhfajbkaaGreatDoor.kS at Y o ⊢; rw [List.filterMap_append,Y,o]) u
  have hn:LD w W1 [ju (w.heap.size+1) (.loop (rec .ready none)),ju w.heap.size (.deferred (some []))]:=by
   refine ⟨fun A hA=>?_,fun A hA b hb=>?_,?_⟩
   ·rcases cm.1 hA with rfl|hA
    ·show W1.heap[w.heap.size+1]? =_
     rw [← T]; have:=World.alloc_heap_new (w.alloc (.deferred (some []))) (.loop (rec .ready none)); rwa [World.size_alloc] at this
    ·simp only [cH] at hA; subst hA
     show W1.heap[w.heap.size]? =_
     rw [← T]; exact (Below.heap_alloc _ _ _ sm).trans (World.alloc_heap_new w _)
   ·rcases cm.1 hA with rfl|hA
    ·have:b=w.heap.size+1:=hb
     omega
    ·simp only [cH] at hA; subst hA
     have:b=w.heap.size:=hb
     omega
   ·refine List.Pairwise.cons (fun B hB b Y o=>?_) (List.pairwise_singleton _ _)
    simp only [cH] at hB; subst hB
    have X:b=w.heap.size+1:=Y
    have O:b=w.heap.size:=o
    omega
  have hk:dZ no w W1:=by rw [← T]; exact (dZ.alloc no w _).trans (dZ.alloc no _ _)
  have o:=Y.grow hk hn
  refine o.perm ?_
  simp only [List.cons_append,List.nil_append]
  exact List.Perm.cons _ (List.perm_middle.symm)
 have i:=AC.tied
 obtain ⟨H,A6⟩:=List.pairwise_cons.1 i.sep
 have Ax:=i.holds _ (cr ..)
 let J:σ→ay→Prop:=fun k A=> ∃ y,inv k y∧A=bQ (ju (w.heap.size+1) (.loop (rec .ready none))::Ci k y)
 let Z:ay→Prop:=fun A=> ∃ c z,(c= .ret∨ ∃ id,c= .exit id)∧invx c z∧A=bQ (ju (w.heap.size+1) (.loop (rec .done (some c)))::Cx c z)
 refine ⟨w.heap.size+1,[jY w.heap.size],W1,{target:= .fn (.func f) ca.toArray,args:=fi.toArray++ #[.func (.yield (w.heap.size+1)) #[] #[]]},W1,f,
  (fi++Value.func (.yield (w.heap.size+1)) #[] #[]::ca).toArray,W1,q,?_,fun _ _=>trivial,?_,fun h=>by simp at h,?_⟩
 ·simp only [resolve,A1]
  simp [Deferred.ofValue,Act.eval]
 ·have:fi.toArray++ #[Value.func (.yield (w.heap.size+1)) #[] #[]]++ca.toArray=(fi++Value.func (.yield (w.heap.size+1)) #[] #[]::ca).toArray:=by simp
  simp [invoke,nA hs.go]
 ·refine (pN E.r (hs.run (w.heap.size+1) J Z _ W1 ?_ ⟨y0,h0,U⟩ Ax ?_ ?_)).mono ?_
  ·-- a round
   rintro k x R k' A W hx ⟨y,hy,rfl⟩ A0 hA
   have hl:W.heap[w.heap.size+1]? =some (.loop (rec .ready none)):=(hA.1 _ (cr ..)).1 _ (cr ..)
   have AO:=run_yield (P:=E.P) (args:=x.toArray) hl (by rw [G]; simpa using hps k x R k' hx)
   rw [G] at AO
   refine ⟨fn,_,assign,body,AO,roundIn_of_wpIn trivial ?_⟩
   let A:ay:=bQ [bQ (ju (w.heap.size+1) (.loop (rec .ready none))::Ci k y),R]
   have A2:Fr E.n [] (yW ps.toList x L0) {tmps:=(ps.zip x.toArray).foldl (fun tmps (t,a)=>tmps.setIfInBounds t a) a.tmps,defers:=[]}:=by
    have Y:=Dz ps.toList x L0 a.tmps (fun t ht=>by have:=c_.1 hpn t ht; rwa [Nat.blt_eq] at this) ⟨rfl,hf.size,fun t v hv=>hf.at_ t v (hL t v hv)⟩
    rw [← Array.foldl_toList]
    simpa using Y
   have p: ∀ (c:Option Code) (b:Bool),({rec .busy none with state:=if b then .ready else .done,pending:=c}:Loop)=rec (if b then .ready else .done) c:=fun c b=>by rw [G]
   have AA: ∀ (c:Option Code) (N:World) (C':List ay) (S:BS),St S W (ju (w.heap.size+1) (.loop (rec .busy none))::C') N→
    ∃ M,(Instr.endRound (w.heap.size+1) c).run E.P N= .ok (.bool c.isNone) M∧St S W (ju (w.heap.size+1) (.loop (rec (if c.isNone then .ready else .done) c))::C') M:=fun c N C' S H=>by
    have AB:N.heap[w.heap.size+1]? =some (.loop (rec .busy none)):=H.holds _ (cr ..)
    refine ⟨_,run_endRound c AB,?_⟩
    have:=H.Ag (b:=w.heap.size+1) (A':=ju (w.heap.size+1) (.loop (rec (if c.isNone then .ready else .done) c))) 0 rfl rfl rfl (ik _) (fun _ h=>h) (World.putObj_heap_same (eB AB))
    rw [p]
    exact this
   refine round k x R k' y (w.heap.size+1) (rec .ready none) (rec .busy none) ⟨A.wf,A.fO⟩ W _ (roundPost E.P (w.heap.size+1) (fun e w'=>(e= .returned (.bool true)∧ ∃ B,J k' B∧Mv A B W w')∨(e= .returned (.bool false)∧ ∃ B,Z B∧Mv A B W w'))) (Nat.le_trans (Nat.le_trans u.keeps.size (by rw [← T]; simp; omega)) A0) hx hy ?_ ?_ ?_ ?_ _ _ A2 (by have:=(St.Ba hA).iN; simpa using this)
   ·intro L' C' hW a1 N j H
    have AB:N.heap[w.heap.size+1]? =some (.loop (rec .ready none)):=H.holds _ (cr ..)
    refine ⟨_,run_beginRound AB (by rw [G]),hW _ _ j ?_⟩
    have:=H.Ag (b:=w.heap.size+1) (A':=ju (w.heap.size+1) (.loop (rec .busy none))) 0 rfl rfl rfl (ik _) (fun _ h=>h) (World.putObj_heap_same (eB AB))
    have e:({rec .ready none with state:= .busy}:Loop)=rec .busy none:=by rw [G]
    rw [e]; exact this
   ·intro y' L' C' hy' hC' a1 N j H
    obtain ⟨M,X,O⟩:=AA none N _ _ (hC' _ H)
    exact ⟨_,M,X,.inl ⟨U,_,⟨y',hy',U⟩,Mv.of O⟩⟩
   ·intro id z L' C' hz hC' a1 N j H
    obtain ⟨M,X,O⟩:=AA (some (.exit id)) N _ _ (hC' _ H)
    exact ⟨_,M,X,.inr ⟨U,_,⟨_,z,.inr ⟨id,U⟩,hz,U⟩,Mv.of O⟩⟩
   ·intro z L' C' hz hC' a1 N j H
    obtain ⟨M,X,O⟩:=AA (some .ret) N _ _ (hC' _ H)
    exact ⟨_,M,X,.inr ⟨U,_,⟨_,z,.inl U,hz,U⟩,Mv.of O⟩⟩
  ·intro A hA
   obtain ⟨B,hB,hc⟩:=hCp A hA
   exact hc.holds _ (i.holds B (dH _ (dH _ hB)))
  ·intro A hA b hb hb'
   obtain ⟨B,hB,hc⟩:=hCp A hA
   exact ⟨(H B (dH _ hB) b hb (hc.fO b hb')).1,fun h=>h⟩
  ·rintro e w' ⟨v,rfl,hh⟩
   have V:Fr E.n (jY w.heap.size::D) L0 {a with defers:=[jY w.heap.size]++a.defers}:=⟨by simp [hf.defers],hf.size,fun t v hv=>hf.at_ t v (hL t v hv)⟩
   have hleave: ∀ (st:LoopState) (c:Option Code) (C':List ay),st≠ .busy→Mv (bQ (ju (w.heap.size+1) (.loop (rec .ready none))::Ci s0 y0)) (bQ (ju (w.heap.size+1) (.loop (rec st c))::C')) W1 w'→
    ∃ M,(Instr.endLoop (w.heap.size+1)).run E.P w'= .ok c M∧St E.S E.w0 (ju w.heap.size (.deferred (some []))::(F++C')) M:=fun st c C' A4 m=>by
    have Y:=(i.mv 0 rfl m).iN
    have h1':St E.S E.w0 ((ju (w.heap.size+1) (.loop (rec st c))::C')++(ju w.heap.size (.deferred (some []))::F)) w':=Y
    have AB:w'.heap[w.heap.size+1]? =some (.loop (rec st c)):=h1'.holds (ju (w.heap.size+1) (.loop (rec st c))) sm
    refine ⟨_,by have:=run_endLoop (P:=E.P) AB (by rw [G]; exact A4); rw [this,G],?_⟩
    have o:=h1'.Ag (b:=w.heap.size+1) (A':=ju (w.heap.size+1) (.loop {rec st c with state:= .exhausted})) 0 rfl rfl rfl (ik _) (fun _ h=>h) (World.putObj_heap_same (eB AB))
    have h3:St E.S E.w0 (C'++(ju w.heap.size (.deferred (some []))::F)) _:=o.take (List.sublist_cons_self _ _)
    rw [G] at h3
    refine h3.perm ?_
    exact (List.perm_append_comm).trans sm
   rcases hh with ⟨s,B,A3,⟨y,hy,rfl⟩,m⟩|⟨B,⟨c,z,hc,hz,rfl⟩,m⟩
   ·obtain ⟨M,X,O⟩:=hleave .ready none _ sm m
    exact ⟨none,M,X,fin w.heap.size s y A3 hy _ _ V O⟩
   ·obtain ⟨M,X,O⟩:=hleave .done (some c) _ sm m
    refine ⟨some c,M,X,?_⟩
    rcases hc with rfl|⟨id,rfl⟩
    ·exact wpIn_ret (finr w.heap.size z hz _ _ V O)
    ·exact wpIn_exit (finx w.heap.size id z hz _ _ V O)
end
section
abbrev Qd:=List (Int×Bool)
section
variable {m:Qd} {P Q:Int→Prop} {k:Int}
end
/-- two rows that go up and have the same numbers, each once -/
theorem G1 {a b:List Int} (ha:a.Pairwise (· ≤ ·)) (hb:b.Pairwise (· ≤ ·)) (na:a.Nodup) (nb:b.Nodup) (h: ∀ x,x∈a↔x∈b):a=b:=
 sT ((List.perm_ext_iff_of_nodup na nb).2 h) ha hb
section
variable {m left:B7} {i n x:Int} {y:ai}
end
section
variable {m:B7} {i:Int} {own:ai} {ys:List Int} {nev ranks:Qd} {n a b:Int}
end
section
variable {nw left rk:Qd} {N R:Int→Prop} {u:Int} {v:Bool}
end
section
variable {m left:B7} {i x n:Int} {own y:ai} {ys:List Int}
end
section
variable {r:eU} {h i:Int} {ht:List aq} {d:aq}
end
end
section
open Go.RowKit
/-- a map, or nil -/
def oC (o:Option Nat):List Value:=[Value.map o]
theorem AQ {α:Type}: ∀ {ms:List α} {asl:List Nat},ms.length=asl.length→List.zipWith gK ms asl=(asl.map some).map oC
 |[],[],_=>rfl
 |[],_::_,h=>by simp at h
 |_::_,[],h=>by simp at h
 |x::ms,y::asl,h=>by simp only [List.zipWith_cons_cons,List.map_cons,AQ (ms:=ms) (asl:=asl) (by simpa using h)]; rfl
/-- what stands for all but one -/
def gU {M A:Type} (f:M→A→List ay) (ms:List M) (asl:List A) (k:Nat):List ay:=bK f (ms.take k) (asl.take k)++bK f (ms.drop (k+1)) (asl.drop (k+1))
theorem mD {M A:Type} {f:M→A→List ay}: ∀ {ms:List M} {asl:List A} {k:Nat} {m:M} {a:A},ms[k]? =some m→asl[k]? =some a→(bK f ms asl).Perm (f m a++gU f ms asl k)
 |[],_,k,m,a,h,_=>by simp at h
 |_::_,[],k,m,a,_,h=>by simp at h
 |x::ms,y::asl,0,m,a,h,h2=>by
  simp at h h2; subst h h2
  simp [gU,bK]
 |x::ms,y::asl,k+1,m,a,h,h2=>by
  have ih:=mD (f:=f) (ms:=ms) (asl:=asl) (k:=k) (by simpa using h) (by simpa using h2)
  show (f x y++bK f ms asl).Perm (f m a++gU f (x::ms) (y::asl) (k+1))
  have e:gU f (x::ms) (y::asl) (k+1)=f x y++gU f ms asl k:=by simp [gU,bK,List.append_assoc]
  rw [e]
  refine (ih.append_left (f x y)).trans ?_
  rw [← List.append_assoc,← List.append_assoc]
  exact List.perm_append_comm.append_right _
theorem HS {M A:Type} {f:M→A→List ay} {ms:List M} {asl:List A} {k:Nat} {m':M}:gU f (ms.set k m') asl k=gU f ms asl k:=by
 unfold gU
 rw [List.take_set_of_le (Nat.le_refl k),List.drop_set_of_lt (Nat.lt_succ_self k)]
theorem mx {S:BS} {w0 w:World} {C X Y:List ay} (hp:X.Perm Y) (h:St S w0 (bQ X::C) w):St S w0 (bQ Y::C) w:=by
 have A:St S w0 (X++C) w:=h.iN
 exact (A.perm (hp.append_right C)).tied
theorem St.out {M A:Type} {f:M→A→List ay} {S:BS} {w0 w:World} {C:List ay} {ms:List M} {asl:List A} {k:Nat} {m:M} {a:A} {X:ay} (hm:ms[k]? =some m) (ha:asl[k]? =some a) (hf:f m a=[X]) (h:St S w0 (bQ (bK f ms asl)::C) w):St S w0 (X::bQ (gU f ms asl k)::C) w:=by
 have B:=(mx (mD hm ha) h).iN
 rw [hf] at B
 have D:St S w0 (gU f ms asl k++(X::C)) w:=B.perm (List.perm_middle (a:=X) (l₁:=gU f ms asl k) (l₂:=C)).symm
 exact D.tied.perm (List.Perm.swap _ _ _)
theorem St.back {M A:Type} {f:M→A→List ay} {S:BS} {w0 w:World} {C:List ay} {ms:List M} {asl:List A} {k:Nat} {m':M} {a:A} {X:ay} (hk:k<ms.length) (ha:asl[k]? =some a) (hf:f m' a=[X]) (h:St S w0 (X::bQ (gU f ms asl k)::C) w):St S w0 (bQ (bK f (ms.set k m') asl)::C) w:=by
 have B:St S w0 (bQ (gU f ms asl k)::X::C) w:=h.perm (List.Perm.swap _ _ _)
 have D:=B.iN
 have E:St S w0 ((f m' a++gU f (ms.set k m') asl k)++C) w:=by
  rw [hf,HS]
  exact D.perm (List.perm_middle (a:=X) (l₁:=gU f ms asl k) (l₂:=C))
 exact mx (mD (List.getElem?_set_self hk) ha).symm E.tied
section
variable {E:fH} {ops:Array Oper} {Q:dv} {rest:List Oper} {D:List Deferred} {L:List (Nat×Value)} {C C1:List ay}
variable {M A:Type} {f:M→A→List ay} {ms:List M} {asl:List A} {k:Nat} {m:M} {a:A} {X:ay}
theorem zV {c:Code} (i:Nat) (hm:ms[k]? =some m) (ha:asl[k]? =some a) (hf:f m a=[X]) (hn:decide (i::(List.range C.length).filter fun k=>k != i).Nodup=true) (hC:kS C (i::(List.range C.length).filter fun k=>k != i)=bQ (bK f ms asl)::C1)
 (h:WJ E c Q D L (X::bQ (gU f ms asl k)::C1)):WJ E c Q D L C:=fun a w hf' hs=>h a w hf' (St.out hm ha hf (St.kS _ hn hC hs))
theorem AW {K:Act→World→Prop} (i j:Nat) (hk:k<ms.length) (ha:asl[k]? =some a) (hf:f m a=[X]) (hn:decide (j::i::(List.range C.length).filter fun k=>k != i&&k != j).Nodup=true) (hC:kS C (j::i::(List.range C.length).filter fun k=>k != i&&k != j)=X::bQ (gU f ms asl k)::C1)
 (h:KJ E K D L (bQ (bK f (ms.set k m) asl)::C1)):KJ E K D L C:=fun a w hf' hs=>h a w hf' (St.back hk ha hf (St.kS _ hn hC hs))
end
end
section
open Go.RowKit
def tU (l:List Int) (a:RA):List Value:=[vS a.1 l.length a.2]
def OK (l:List Int) (a:RA):List ay:=[rd a.1 l.length 1 (l.map iC)]
def BL (l:List Int) (a:RA):List ay:=[own a.1 a.2 Oy 1 (l.map iC)]
theorem Gc: ∀ (m:List Int) (a:RA) (w:World),(∀ X∈BL m a,X.holds w)→ ∀ X∈OK m a,X.holds w:=fun m a w h X hX=>by
 simp only [OK,cH] at hX
 subst hX
 have:=n9 (h _ (cH.2 rfl))
 simpa using this
theorem qp {l:List (List Int)} {bz:List RA}:(bQ (bK BL l bz)).wr=true:=by
 show (bK BL l bz).all (·.wr)=true
 rw [c_]
 intro X hX
 obtain ⟨k,m,a,_,_,h⟩:=ku hX
 simp only [BL,cH] at h
 subst h; rfl
theorem mS {ls:List (List Int)} {az:List RA} (h:az.length=ls.length):(List.zipWith tU ls az).length=ls.length:=by simp [h]
theorem Fs (l:List (List Int)) (az:List RA): ∀ v∈(List.zipWith tU l az).flatten,v.oneCell'=true:=by
 induction l generalizing az with
 |nil=>intro v hv; simp at hv
 |cons x l ih=>
  cases az with
  |nil=>intro v hv; simp at hv
  |cons a az=>
   intro v hv
   rw [List.zipWith_cons_cons,List.flatten_cons,gQ] at hv
   rcases hv with hv|hv
   ·simp [tU] at hv; subst hv; rfl
   ·exact ih az v hv
section
variable {M A:Type} {f:M→A→List ay} {ms:List M} {asl:List A} {k:Nat} {m:M} {a:A} {X:ay}
theorem yA:gU f (ms.set k m) (asl.set k a) k=gU f ms asl k:=by
 unfold gU
 rw [List.take_set_of_le (Nat.le_refl k),List.drop_set_of_lt (Nat.lt_succ_self k),List.take_set_of_le (Nat.le_refl k),List.drop_set_of_lt (Nat.lt_succ_self k)]
theorem uL {β:Type} {c:M→A→β}:(List.zipWith c ms asl).set k (c m a)=List.zipWith c (ms.set k m) (asl.set k a):=by
 apply List.ext_getElem?
 intro j
 rw [List.getElem?_set]
 by_cases e:k=j
 ·subst e
  rw [if_pos rfl,List.length_zipWith,List.getElem?_zipWith,List.getElem?_set,List.getElem?_set,if_pos rfl,if_pos rfl]
  by_cases B:k<ms.length
  ·by_cases C:k<asl.length
   ·rw [if_pos om,if_pos B,if_pos C]
   ·rw [if_neg om,if_pos B,if_neg C]
  ·rw [if_neg om,if_neg B]
 ·rw [if_neg e,List.getElem?_zipWith,List.getElem?_zipWith,List.getElem?_set_ne e,List.getElem?_set_ne e]
variable {E:fH} {ops:Array Oper} {Q:dv} {rest:List Oper} {D:List Deferred} {L:List (Nat×Value)} {C C1:List ay}
abbrev HT (C:List ay) (i j:Nat):List Nat:=j::i::(List.range C.length).filter fun k=>k != i&&k != j
abbrev SS (C:List ay) (i:Nat):List Nat:=i::(List.range C.length).filter fun k=>k != i
theorem PA {Y Y':List ay} (i j:Nat) (hn:decide (HT C i j).Nodup=true) (hC:sQ C (HT C i j)=some (X::bQ Y::C1)) (e:Y++[X]=Y') (h:RJ E ops Q rest D L (bQ Y'::C1)):RJ E ops Q rest D L C:=fun a w hf hs=>h a w hf ((St.kS _ hn (mQ hC) hs).tie e)
theorem Al {K:Act→World→Prop} {Y Y':List ay} (i j:Nat) (hn:decide (HT C i j).Nodup=true) (hC:sQ C (HT C i j)=some (X::bQ Y::C1)) (e:Y++[X]=Y') (h:KJ E K D L (bQ Y'::C1)):KJ E K D L C:=fun a w hf hs=>h a w hf ((St.kS _ hn (mQ hC) hs).tie e)
end
theorem xo {M A:Type} {f:M→A→List ay} {ms:List M} {asl:List A} {m:M} {a:A} {X:ay} (h:ms.length=asl.length) (hf:f m a=[X]):bK f ms asl++[X]=bK f (ms++[m]) (asl++[a]):=by
 rw [jJ h]; simp [bK,hf]
theorem zJ {M A β:Type} {f:M→A→β} {ms:List M} {asl:List A} {m:M} {a:A} (h:ms.length=asl.length):List.zipWith f ms asl++List.zipWith f [m] [a]=List.zipWith f (ms++[m]) (asl++[a]):=(List.zipWith_append h).symm
section
variable {f:Int→ai} {L:List Int} {G:List (List Int)} {g:List Int} {x last:Int} {i j:Nat}
end
end
section
open Go.RowKit
/-- the faults that a map of places says -/
def l7 (fs:List bg) (m:List (Int×Bool)) (f:bg):Prop:=(List.lookup (o5 fs f) m).getD false=true
/-- what comes next: the row of a heat, in memory of its own -/
def Js (G:List (List Int)) (k:Nat) (x:List Value) (R:ay) (k':Nat):Prop:= ∃ (a:OA) (c:Nat) (row:List Int),G[k]? =some row∧x=[vS a row.length c]∧R=own a c Oy 1 (row.map iC)∧k'=k+1
section
variable {l:bq} {fs:List bg} {m:List (Int×Bool)} {d:aq} {h:List aq} {j:cw} {F G:bg→Prop} {k n q:Nat} {f f0:bg}
noncomputable def lP (l:bq) (fs:List bg) (m:List (Int×Bool)) (h:List aq) (s:Nat):Bool:=(h[s]?).any fun d=> @decide (Hs l (l7 fs m) fs d) (Classical.propDecidable _)
theorem Mf:(fs.any fun f=>((List.lookup (o5 fs f) m).getD false)&& !decide (gd l f d=0))= @decide (Hs l (l7 fs m) fs d) (Classical.propDecidable _):=by
 rw [Bool.eq_iff_iff,List.any_eq_true,@decide_eq_true_iff _ (Classical.propDecidable _)]
 constructor
 ·rintro ⟨f,hf,hb⟩
  rw [dk,Bool.not_eq_true',decide_eq_false_iff_not] at hb
  exact ⟨f,hf,hb.1,hb.2⟩
 ·rintro ⟨f,hf,A,B⟩
  exact ⟨f,hf,by rw [dk,Bool.not_eq_true',decide_eq_false_iff_not]; exact ⟨A,B⟩⟩
theorem ER (hd:h[q]? =some d):lP l fs m h q=(fs.any fun f=>((List.lookup (o5 fs f) m).getD false)&& !decide (gd l f d=0)):=by
 unfold lP; rw [hd,Mf]; rfl
theorem KY {ht:List aq} (hh:j.Race.aI[k]? =some ht):(eT j (l7 j.aM m))[k]? =some (kT (lP j.Race.au j.aM m ht) ht.length):=Av hh
/-- only who is told, of faults of the row -/
theorem wc (h: ∀ f∈j.aM,(F f↔G f)):eT j F=eT j G:=by
 unfold eT
 apply List.map_congr_left
 intro x _
 exact HC h
end
def wJ (fs:List bg) (gs:List bg):List (Int×Bool):=gs.foldl (fun m f=>eC m (o5 fs f) true) []
section
variable {fs gs:List bg} {f g:bg} {m:List (Int×Bool)}
theorem Gh {x y:Int}:(List.lookup y (eC m x true)).getD false=true↔y=x∨(List.lookup y m).getD false=true:=by
 rw [lT]
 by_cases e:y=x
 ·rw [if_pos e]; simp [e]
 ·rw [if_neg e]; simp [e]
theorem FL: ∀ {gs:List bg} {m:List (Int×Bool)} {y:Int},(List.lookup y (gs.foldl (fun m f=>eC m (o5 fs f) true) m)).getD false=true↔(∃ g∈gs,y=o5 fs g)∨(List.lookup y m).getD false=true
 |[],m,y=>by simp
 |g::gs,m,y=>by
  rw [List.foldl_cons,FL (gs:=gs),Gh]
  constructor
  ·rintro (⟨u,A,B⟩|h|h)
   ·exact .inl ⟨u,dH _ A,B⟩
   ·exact .inl ⟨g,cr,h⟩
   ·exact .inr h
  ·rintro (⟨u,A,B⟩|h)
   ·rcases cm.1 A with rfl|A
    ·exact .inr (.inl B)
    ·exact .inl ⟨u,A,B⟩
   ·exact .inr (.inr h)
theorem RX (hg: ∀ g∈gs,g∈fs) (hf:f∈fs):l7 fs (wJ fs gs) f↔f∈gs:=by
 unfold l7 wJ
 rw [FL]
 constructor
 ·rintro (⟨g,A,B⟩|h)
  ·rw [IG hf (hg g A) B]; exact A
  ·simp at h
 ·intro h; exact .inl ⟨f,h,rfl⟩
theorem HR:wJ fs (gs++[g])=eC (wJ fs gs) (o5 fs g) true:=by unfold wJ; rw [List.foldl_append]; rfl
end
noncomputable def G2 (j:cw) (t:Nat):List bg:=((jw j).take t).filterMap fun i=>(j.aB[i.toNat]?).bind fun p=>j.aM[p.gh.toNat]?
section
variable {j:cw} {t:Nat} {i:Int} {p:bR} {f g:bg}
theorem Lr (hi:(jw j)[t]? =some i) (hp:j.aB[i.toNat]? =some p) (hf:j.aM[p.gh.toNat]? =some f):G2 j (t+1)=G2 j t++[f]:=by
 unfold G2
 rw [List.take_add_one,hi,List.filterMap_append]
 simp [hp,hf]
theorem M6: ∀ g∈G2 j t,g∈j.aM:=fun g h=>by
 obtain ⟨i,_,A⟩:=List.mem_filterMap.1 h
 cases e:j.aB[i.toNat]? with
 |none=>rw [e] at A; cases A
 |some p=>rw [e] at A; exact aP A
theorem MQ (ht:(jw j).length≤t):f∈G2 j t↔F1 j f:=by
 unfold G2
 rw [List.take_of_length_le ht,List.mem_filterMap]
 constructor
 ·rintro ⟨x,hx,h⟩
  obtain ⟨i,_,rfl,p,hp,hg⟩:=tp.1 hx
  rw [Int.toNat_natCast,hp] at h
  exact ⟨i,p,hp,hg,h⟩
 ·rintro ⟨i,p,hp,hg,hf⟩
  exact ⟨(i:Int),tp.2 ⟨i,(aZ.1 hp).1,U,p,hp,hg⟩,by rw [Int.toNat_natCast,hp]; exact hf⟩
theorem Dx (ht:(jw j).length≤t):eT j (l7 j.aM (wJ j.aM (G2 j t)))=dT j:=
 wc fun f hf=>(RX M6 hf).trans (MQ ht)
theorem HB (hi:(jw j)[t]? =some i): ∃ k:Nat,i=(k:Int)∧k<j.aB.length:=by
 obtain ⟨k,A,B,_⟩:=tp.1 (aP hi)
 exact ⟨k,B,A⟩
theorem tH:(jw j).length≤j.aB.length:=nj
end
end
section
open Go.RowKit
theorem p9 {α:Type} {l:List α} {k:Nat} {x:α} (h:l[k]? =some x):l.take (k+1)=l.take k++[x]:=by rw [List.take_add_one,h]; rfl
theorem xK {a b:Int} (h1: -60000≤a∧a≤60000) (h2:0≤b∧b≤100000): -9223372036854775808≤a*b∧a*b≤9223372036854775807:=by
 have A:=Int.mul_le_mul_of_nonneg_right h1.1 h2.1
 have B:=Int.mul_le_mul_of_nonneg_right h1.2 h2.1
 omega
noncomputable def OS (j:cw) (i:Int):Int:=if dU j=0 then (if 0≤i∧i≤(j.aB.length:Int)-1 then 0 else 2) else dU j
noncomputable def sV (j:cw) (i:Int):Int:=if dU j=0∧(0≤i∧i≤(j.aB.length:Int)-1) then (match j.aB[i.toNat]? with
 |some p=>pS j p
 |none=>0) else 0
noncomputable def iA (j:cw):List Int:=if dU j=0 then jw j else []
noncomputable def ei (j:cw):List (List Int):=if dU j=0 then dT j else []
noncomputable def yb (j:cw):Int:=if dU j=0 then Kd j else 0
noncomputable def xR (j:cw):Int:=if dU j=0 then N4 j else 0
noncomputable def Aj (j:cw) (s:Int) (p:bR):Bool:=decide (p.gH=s)&& !gJ j p
noncomputable def ql (j:cw) (s:Int):Int:=if dU j=0 then (if 0≤s∧s≤(j.Race.bu.length:Int)-1 then 0 else 2) else dU j
noncomputable def rO (j:cw) (s:Int):Int:=if dU j=0∧(0≤s∧s≤(j.Race.bu.length:Int)-1) then Qc j s else 0
section
variable {j:cw} {k h s i:Int} {f:bg} {ht:List aq} {d:aq} {p:bR}
theorem EO (e:dU j=0) (n:0≤i∧i≤(j.aB.length:Int)-1) (hp:j.aB[i.toNat]? =some p):sV j i=pS j p∧OS j i=0:=
 ⟨by unfold sV; rw [if_pos ⟨e,n⟩,hp],by unfold OS; rw [if_pos e,if_pos n]⟩
theorem pY (e: ¬ dU j=0):iA j=[]:=if_neg e
theorem qy (e:dU j=0):iA j=jw j:=if_pos e
theorem oD (e: ¬ dU j=0):ei j=[]:=if_neg e
theorem ki (e:dU j=0):ei j=dT j:=if_pos e
theorem zg (e: ¬ dU j=0):yb j=0∧xR j=0:=⟨if_neg e,if_neg e⟩
theorem yq (e:dU j=0):yb j=Kd j∧xR j=N4 j:=⟨if_pos e,if_pos e⟩
theorem MK (e: ¬ p.gH=s):Aj j s p=false:=by unfold Aj; rw [br e]; rfl
theorem I0 (e:p.gH=s):Aj j s p= !gJ j p:=by unfold Aj; rw [dC e]; rfl
theorem IY {P:Nat→Bool} {n:Nat}:(kT P n).length=(List.range n).countP P:=by unfold kT; rw [List.length_map,List.countP_eq_length_filter]
theorem z9 (e: ¬ dU j=0):rO j s=0∧ql j s=dU j:=⟨if_neg fun q=>e q.1,if_neg e⟩
theorem zL (e:dU j=0) (n: ¬ (0≤s∧s≤(j.Race.bu.length:Int)-1)):rO j s=0∧ql j s=2:=⟨if_neg fun q=>n q.2,by unfold ql; rw [if_pos e,if_neg n]⟩
theorem KH (e:dU j=0) (n:0≤s∧s≤(j.Race.bu.length:Int)-1):rO j s= -((kT (iK j.aB fun _ p=>Aj j s p) j.aB.length).length:Int)*j.kU∧ql j s=0:=
 ⟨by unfold rO; rw [if_pos ⟨e,n⟩,IY]; rfl,by unfold ql; rw [if_pos e,if_pos n]⟩
end
end
section
section
variable {j x:cw} {n s:Int} {h k:Nat} {a b:List Int} {f f':bg} {ht:List aq} {d:aq}
theorem Ms (e:dU j=0) (ha:(ei j)[h]? =some a): ∃ ht,j.Race.aI[h]? =some ht∧a.length≤ht.length:=by
 rw [ki e] at ha
 unfold dT at ha
 have hl:=(aZ.1 ha).1
 rw [um] at hl
 have hh:j.Race.aI[h]? =some (j.Race.aI[h]'hl):=fZ _
 rw [Av hh] at ha
 cases ha
 exact ⟨_,hh,nj⟩
end
end
section
section
variable {j:cw} {m n i:Nat} {p:bR} {s:Int}
theorem Ia:h_ j s m≤m:=by unfold h_; exact Nat.le_trans List.countP_le_length (by rw [List.length_range]; exact Nat.le_refl _)
theorem yG (e:dU j=0): ∀ l∈ei j,l.length≤1000000:=fun l hl=>by
 obtain ⟨h,hh⟩:=List.getElem?_of_mem hl
 obtain ⟨ht,A,B⟩:=Ms e hh
 have C:=((dx (dj e).1).2.fJ ht (aP A)).1
 have D:=(dx (dj e).1).2.num
 omega
end
end
section
section
variable {l:bq} {r:cQ} {b w:Int} {f:bg} {d:aq} {j:cw} {p:bR} {a c:xr} {P:Nat→Prop} {k n i:Nat} {ht:List aq}
/-- the first number tells whether all are behind the beam -/
theorem G6 (ho:fq l r 0=0) (hw:(hH l r)[0]? =some w):uI l r b=decide (b<w):=by
 have hs:(hH l r).Pairwise (· < ·):=by
  rw [si ho]; unfold lY iT
  rw [List.pairwise_map]
  exact List.Pairwise.imp (fun h=>by omega) (List.Pairwise.filter _ List.pairwise_lt_range)
 unfold uI
 rw [Bool.eq_iff_iff,c_,decide_eq_true_iff]
 constructor
 ·intro h; exact of_decide_eq_true (h w (aP hw))
 ·intro h n hn
  obtain ⟨i,hi⟩:=List.getElem?_of_mem hn
  refine dC ?_
  rcases Nat.eq_zero_or_pos i with rfl|e
  ·rw [hw] at hi; cases hi; exact h
  ·obtain ⟨B,D⟩:=aZ.1 hi
   obtain ⟨A,C⟩:=aZ.1 hw
   have:=eZ.1 hs 0 i A B e
   omega
theorem tG (h: ¬ b<0) (e:eA l r b=0) (ho:fq l r 0=0) (hw:(hH l r)[0]? =some w):(b<w→dh l r b=⟨(dD l r b).Lo,(dD l r b).Hi,true,false⟩)∧(¬ b<w→dh l r b=⟨(dD l r b).Lo,86400000,false,false⟩):=by
 have hh:=G6 (b:=b) ho hw
 exact ⟨fun q=>vo h e (by rw [hh]; exact dC q),fun q=>tM h e (by rw [hh]; exact br q)⟩
/-- the faults that some places say -/
def nF (fs:List bg) (P:Nat→Prop) (f:bg):Prop:= ∃ k:Nat,fs[k]? =some f∧P k
/-- hit, by the first faults -/
def RL (l:bq) (fs:List bg) (P:Nat→Prop) (d:aq) (n:Nat):Prop:= ∃ (k:Nat) (f:bg),k<n∧fs[k]? =some f∧P k∧ ¬ gd l f d=0
noncomputable def ml (l:bq) (fs:List bg) (P:Nat→Prop) (d:aq) (n:Nat):Bool:= @decide (RL l fs P d n) (Classical.propDecidable _)
theorem Es {fs:List bg}:ml l fs P d 0=false:= @decide_eq_false _ (Classical.propDecidable _) (fun ⟨k,f,h,_⟩=>absurd h (Nat.not_lt_zero _))
theorem tL {fs:List bg} (hf:fs[n]? =some f):ml l fs P d (n+1)=true↔ml l fs P d n=true∨(P n∧ ¬ gd l f d=0):=by
 unfold ml
 rw [@decide_eq_true_iff _ (Classical.propDecidable _),@decide_eq_true_iff _ (Classical.propDecidable _)]
 constructor
 ·rintro ⟨k,g,D,C,A,B⟩
  by_cases c:k=n
  ·subst c; rw [hf] at C; cases C; exact .inr ⟨A,B⟩
  ·exact .inl ⟨k,g,om,C,A,B⟩
 ·rintro (⟨k,g,D,C,A,B⟩|⟨A,B⟩)
  ·exact ⟨k,g,om,C,A,B⟩
  ·exact ⟨n,f,om,hf,A,B⟩
theorem zx {fs:List bg} (hn:fs.length≤n):ml l fs P d n= @decide (Hs l (nF fs P) fs d) (Classical.propDecidable _):=by
 unfold ml
 rw [gT]
 constructor
 ·rintro ⟨k,f,_,A,B,C⟩; exact ⟨f,aP A,⟨k,A,B⟩,C⟩
 ·rintro ⟨f,_,⟨k,A,B⟩,C⟩; exact ⟨k,f,by have:=(aZ.1 A).1; omega,A,B,C⟩
theorem TV {fs:List bg} (hf:fs[k]? =some f) (h:ml l fs P d k=true):true=ml l fs P d (k+1):=((tL hf).2 (.inl h)).symm
theorem UI {fs:List bg} {x:Bool} (hf:fs[k]? =some f) (h: ¬ ml l fs P d k=true) (hx:x=true↔P k) (hn: ¬ x=true):false=ml l fs P d (k+1):=by
 cases e:ml l fs P d (k+1) with
 |false=>rfl
 |true=>exact ((tL hf).1 e).elim (fun q=>absurd q h) (fun q=>absurd (hx.2 q.1) hn)
theorem Ur {fs:List bg} {x:Bool} (hf:fs[k]? =some f) (h: ¬ ml l fs P d k=true) (hx:x=true↔P k) (hn:x=true):decide (0<gd l f d)=ml l fs P d (k+1):=by
 have hb:=B2 (l:=l) (f:=f) (d:=d)
 rw [Bool.eq_iff_iff,decide_eq_true_iff,tL hf]
 constructor
 ·intro q; exact .inr ⟨hx.1 hn,om⟩
 ·rintro (q|⟨_,q⟩)
  ·exact absurd q h
  ·omega
theorem Ej (hk:f.Kind=3):q8 f a c↔f.mz≤a.Lo∧a.Hi≤f.To:=by unfold q8; rw [if_pos hk]
noncomputable def ow (l:bq) (fs:List bg) (P:Nat→Prop) (ht:List aq) (s:Nat):Bool:=(ht[s]?).any fun d=> @decide (Hs l (nF fs P) fs d) (Classical.propDecidable _)
theorem BO {fs:List bg} {q:Nat} (hd:ht[q]? =some d):ow l fs P ht q= @decide (Hs l (nF fs P) fs d) (Classical.propDecidable _):=by unfold ow; rw [hd]; rfl
theorem Gm {h:Nat} (hh:j.Race.aI[h]? =some ht):(eT j (nF j.aM P))[h]? =some (kT (ow j.Race.au j.aM P ht) ht.length):=Av hh
theorem M7 {r:eU} {q s:Nat} (ho:fP r) {at_:Int} (h: ∃ d,((r.aI[q]?).bind (·[s]?))=some d∧o0 d∧d.aV.Start≤at_∧at_≤86400000):0≤at_∧at_≤86400000:=by
 obtain ⟨d,A,C,D,E⟩:=h
 cases e:r.aI[q]? with
 |none=>rw [e] at A; cases A
 |some x=>
  rw [e] at A
  have B:=(ho.fJ x (aP e)).2 d (aP A)
  rw [uS C] at B
  have:=(rF B.1).time
  omega
theorem Hz {q:cw} (h1:j.Race=q.Race) (h2:j.gu=q.gu) (h3:j.kU=q.kU) (h4:j.aM=q.aM) (h5:j.aB=q.aB):j=q:=by
 cases j; cases q; simp_all
noncomputable def iv (n:Nat) (P:Nat→Prop):List Bool:=(List.range n).map fun k=> @decide (P k) (Classical.propDecidable _)
@[simp] theorem lB:(iv n P).length=n:=by simp [iv]
theorem pz (h:k<n):(iv n P)[k]? =some (@decide (P k) (Classical.propDecidable _)):=by unfold iv; rw [f_,List.getElem?_range h]; rfl
theorem DX {x:Bool} (h:(iv n P)[k]? =some x):k<n∧(x=true↔P k):=by
 have hk:=(aZ.1 h).1
 rw [lB] at hk
 rw [pz hk] at h
 cases h
 exact ⟨hk,@decide_eq_true_iff _ (Classical.propDecidable _)⟩
theorem Ea {Q:Nat→Prop} {x:Bool} (hk:k<n) (hx:x=true↔Q k) (hq: ∀ i,i≠k→(P i↔Q i)):(iv n P).set k x=iv n Q:=by
 apply List.ext_getElem?
 intro i
 rw [List.getElem?_set]
 by_cases c:k=i
 ·subst c
  rw [if_pos rfl,if_pos (by rw [lB]; exact hk),pz hk]
  congr 1
  rw [Bool.eq_iff_iff,hx,@decide_eq_true_iff _ (Classical.propDecidable _)]
 ·rw [if_neg c]
  by_cases hi:i<n
  ·rw [pz hi,pz hi]
   congr 1
   rw [gT]; exact hq i (Ne.symm c)
  ·rw [List.getElem?_eq_none (by rw [lB]; omega),List.getElem?_eq_none (by rw [lB]; omega)]
theorem CU:List.replicate n false=iv n (fun _=>False):=by
 apply List.ext_getElem?
 intro i
 by_cases hi:i<n
 ·rw [pz hi,List.getElem?_replicate,if_pos hi]
  congr 1
  exact (@decide_eq_false _ (Classical.propDecidable _) id).symm
 ·rw [List.getElem?_eq_none (by rw [List.length_replicate]; omega),List.getElem?_eq_none (by rw [lB]; omega)]
theorem vf {Q:Nat→Prop} (h: ∀ i,i<n→(P i↔Q i)):iv n P=iv n Q:=by
 unfold iv
 apply List.map_congr_left
 intro i hi
 rw [gT]
 exact h i (List.mem_range.1 hi)
/-- the faults about which protests are granted -/
theorem AD (e:dU j=0) (hP: ∀ k:Nat,P k↔ ∃ (i:Nat) (p:bR),j.aB[i]? =some p∧gJ j p=true∧p.gh=(k:Int)):eT j (nF j.aM P)=ei j:=by
 rw [ki e]
 refine wc fun f hf=>?_
 constructor
 ·rintro ⟨k,D,E⟩
  obtain ⟨i,p,A,B,C⟩:=(hP k).1 E
  exact ⟨i,p,A,B,by rw [C,Int.toNat_natCast]; exact D⟩
 ·rintro ⟨i,p,A,B,C⟩
  have hp:=((dj e).2.ia i p A).fault
  exact ⟨p.gh.toNat,C,(hP _).2 ⟨i,p,A,B,om⟩⟩
end
end
section
def j0 (H:List (List aq)) (h i:Int) (d:aq):List (List aq):=match H[h.toNat]? with
 |some ht=>H.set h.toNat (ht.set i.toNat d)
 |none=>H
def rn (r:eU) (h i:Int) (d:aq):eU:=⟨r.au,r.bu,r.cN,r.jd,j0 r.aI h i d⟩
section
variable {H:List (List aq)} {h i x y:Int} {d e:aq} {ht:List aq} {r:eU}
theorem r9 (hh:H[h.toNat]? =some ht):j0 H h i d=H.set h.toNat (ht.set i.toNat d):=by unfold j0; rw [hh]
theorem q_:(j0 H h i d).length=H.length:=by unfold j0; split; rw [List.length_set]; rfl
end
end
section
open Go.RowKit
theorem yo (l:List aT) (az:List RA): ∀ v∈(List.zipWith aT.cells l az).flatten,v.oneCell'=true:=by
 induction l generalizing az with
 |nil=>intro v hv; simp at hv
 |cons x l ih=>
  cases az with
  |nil=>intro v hv; simp at hv
  |cons a az=>
   intro v hv
   rw [List.zipWith_cons_cons,List.flatten_cons,gQ] at hv
   rcases hv with hv|hv
   ·simp [aT.cells,dE.cells] at hv
    rcases hv with rfl|rfl<;>rfl
   ·exact ih az v hv
theorem gO {l:List aT} {az:List RA} (h:az.length=l.length):(List.zipWith aT.cells l az).length=l.length:=by simp [h]
/-- addresses, of which some are new -/
def sO (bz az:List RA) (i:Nat):List RA:=bz++az.drop i
theorem rV {bz az:List RA} {i:Nat} (hb:bz.length=i) (hi:i≤az.length):(sO bz az i).length=az.length:=by simp [sO,hb]; omega
theorem KU {bz az:List RA} {i:Nat} (h:az.length≤i):sO bz az i=bz:=by unfold sO; rw [List.drop_eq_nil_of_le h,List.append_nil]
theorem FW {bz az:List RA} {i:Nat} {a:RA} (hb:bz.length=i) (h:az[i]? =some a):(sO bz az i)[i]? =some a:=by
 unfold sO
 rw [List.getElem?_append_right om,hb,Nat.sub_self,List.getElem?_drop]
 simpa using h
theorem Km {bz az:List RA} {i:Nat} {a b:RA} (hb:bz.length=i) (h:az[i]? =some a):(sO bz az i).set i b=sO (bz++[b]) az (i+1):=by
 unfold sO
 have hi:=(aZ.1 h).1
 rw [List.set_append_right _ _ om,hb,Nat.sub_self,List.drop_eq_getElem_cons hi,List.set_cons_zero]
 simp
theorem M4 {l:List aT} {bz az:List RA} {i:Nat} {x:aT} {xa nw:RA} (hx:l[i]? =some x) (hb:bz.length=i) (ha:az[i]? =some xa):
 (List.zipWith aT.cells l (sO bz az i)).set i (aT.cells x nw)=List.zipWith aT.cells l (sO (bz++[nw]) az (i+1)):=by
 rw [← Km hb ha]
 apply List.ext_getElem?
 intro k
 rw [List.getElem?_set]
 by_cases e:i=k
 ·subst e
  have A:=FW hb ha
  have B:=(aZ.1 A).1
  have C:=(aZ.1 hx).1
  rw [if_pos rfl,List.getElem?_zipWith,hx,List.getElem?_set_self B,if_pos (by simp; omega)]
 ·rw [if_neg e,List.getElem?_zipWith,List.getElem?_zipWith,List.getElem?_set_ne e]
theorem GV {l:List aT} {bz:List RA} {i:Nat} {x:aT} {nw:RA} (hx:l[i]? =some x) (hb:bz.length=i):bK aT.owns (l.take i) bz++aT.owns x nw=bK aT.owns (l.take (i+1)) (bz++[nw]):=by
 have hi:=(aZ.1 hx).1
 rw [List.take_add_one,hx,Option.toList_some,jJ (by rw [List.length_take,hb]; omega)]
 simp [bK]
theorem kB {l:List aT} {bz:List RA}:(bQ (bK aT.owns l bz)).wr=true:=by
 show (bK aT.owns l bz).all (·.wr)=true
 rw [c_]
 intro X hX
 obtain ⟨k,m,a,_,_,h⟩:=ku hX
 simp only [aT.owns,cH] at h
 subst h; rfl
/-- what is known of new rows -/
def mU (l:List aT) (bz:List RA):Prop:= ∀ (k:Nat) m (a:RA),l[k]? =some m→bz[k]? =some a→m.bk.length≤a.2
theorem Bk {l:List aT} {bz:List RA} {i:Nat} {x:aT} {nw:RA} (h:mU l bz) (hb:bz.length=i) (hx:l[i]? =some x) (hc:x.bk.length≤nw.2):mU l (bz++[nw]):=fun k m a hm ha=>by
 by_cases e:k<bz.length
 ·rw [List.getElem?_append_left e] at ha
  exact h k m a hm ha
 ·rw [List.getElem?_append_right om] at ha
  have hk:k-bz.length=0:=by
   rcases Nat.eq_zero_or_pos (k-bz.length) with A|A
   ·exact A
   ·rw [List.getElem?_eq_none (by simp; omega)] at ha; cases ha
  rw [hk] at ha
  simp at ha
  have:k=i:=by omega
  subst this
  rw [hx] at hm; cases hm
  subst ha; exact hc
theorem jT: ∀ (m:aT) (a:RA) (w:World),(∀ X∈aT.owns m a,X.holds w)→ ∀ X∈aT.jU m a,X.holds w:=fun m a w h X hX=>by
 simp only [aT.jU,cH] at hX
 subst hX
 have:=n9 (h _ (cH.2 rfl))
 simpa using this
theorem ed.Nm {l:bq} {az bz:List RA} (h:ed l az) (hb:bz.length=l.aG.length) (hc:mU l.aG bz):ed l bz:=⟨h.qI,h.side,h.qG,hb,h.qD,fun k m a hm ha=>⟨hc k m a hm ha,by
 obtain ⟨A,B⟩: ∃ A,az[k]? =some A:=⟨az[k]'(by rw [h.lS]; exact (aZ.1 hm).1),fZ _⟩
 exact (h.QI k m A hm B).2⟩⟩
theorem yL {x y:aT} {k:Nat} (h1:x.dA=y.dA) (h2:(x.bk.length:Int)=(y.bk.length:Int)) (hk:x.bk.length≤k) (h:x.bk.take k=y.bk.take k):x=y:=by
 cases x; cases y
 simp only [aT.mk.injEq] at *
 rw [List.take_of_length_le hk,List.take_of_length_le om] at h
 exact ⟨h1,h⟩
theorem HE {l m:bq} (h1:l.bL=m.bL) (h2:l.gl=m.gl) (h3:l.bU=m.bU) (h4:l.ew=m.ew) (h5:l.cU=m.cU) (h6:l.aG=m.aG) (h7:l.aj=m.aj):l=m:=by
 cases l; cases m; simp_all
section
variable {E:fH} {ops:Array Oper} {Q:dv} {rest:List Oper} {D:List Deferred} {L:List (Nat×Value)} {C:List ay}
theorem Rg {a:OA} {c e sz:Nat} {es:List (List Value)} (i:Nat) (hC:C[i]? =some (own a c e sz es)) (k:es.length≤c→RJ E ops Q rest D L C):RJ E ops Q rest D L C:=fun act w hf hs=>
 k (E7 (hs.holds _ (aP hC))) act w hf hs
end
end
section
open Go.RowKit
def oj (m:aq) (a:RA):List ay:=[own a.1 a.2 CI 2 (m.aV.aa.map aH.cells)]
def j3 (m:List aq) (a:bZ):List ay:=own a.1.1 a.1.2 Cb 7 (List.zipWith aq.cells m a.2)::bK oj m a.2
theorem Qj: ∀ (m:aq) (a:RA) (w:World),(∀ X∈oj m a,X.holds w)→ ∀ X∈aq.jU m a,X.holds w:=fun m a w h X hX=>by
 simp only [aq.jU,cH] at hX
 subst hX
 have:=n9 (h _ (cH.2 rfl))
 simpa using this
theorem jP {m:List aq} {asl:List RA} (h:asl.length=m.length):(List.zipWith aq.cells m asl).length=m.length:=by simp [h]
theorem dQ {m:List (List aq)} {asl:List bZ} (h:asl.length=m.length):(List.zipWith cL m asl).length=m.length:=by simp [h]
theorem M1 {m:List aq} {asl:List RA}:(bK oj m asl).all (·.wr)=true:=by
 rw [c_]
 intro X hX
 obtain ⟨k,d,a,_,_,h⟩:=ku hX
 simp only [oj,cH] at h
 subst h; rfl
theorem rf {m:List (List aq)} {asl:List bZ}:(bQ (bK j3 m asl)).wr=true:=by
 show (bK j3 m asl).all (·.wr)=true
 rw [c_]
 intro X hX
 obtain ⟨k,d,a,_,_,h⟩:=ku hX
 rcases cm.1 h with rfl|h
 ·rfl
 ·exact c_.1 M1 X h
theorem Fj (l:List aq) (az:List RA): ∀ v∈(List.zipWith aq.cells l az).flatten,v.oneCell'=true:=by
 induction l generalizing az with
 |nil=>intro v hv; simp at hv
 |cons x l ih=>
  cases az with
  |nil=>intro v hv; simp at hv
  |cons a az=>
   intro v hv
   rw [List.zipWith_cons_cons,List.flatten_cons,gQ] at hv
   rcases hv with hv|hv
   ·simp [aq.cells,aR.cells,de.cells,ai.cells] at hv
    rcases hv with rfl|rfl|rfl|rfl|rfl|rfl|rfl<;>rfl
   ·exact ih az v hv
theorem zE (l:List (List aq)) (az:List bZ): ∀ v∈(List.zipWith cL l az).flatten,v.oneCell'=true:=by
 induction l generalizing az with
 |nil=>intro v hv; simp at hv
 |cons x l ih=>
  cases az with
  |nil=>intro v hv; simp at hv
  |cons a az=>
   intro v hv
   rw [List.zipWith_cons_cons,List.flatten_cons,gQ] at hv
   rcases hv with hv|hv
   ·simp [cL] at hv; subst hv; rfl
   ·exact ih az v hv
/-- every heat has as many places as descents -/
def ud (H:List (List aq)) (hz:List bZ):Prop:=hz.length=H.length∧ ∀ (k:Nat) h (a:bZ),H[k]? =some h→hz[k]? =some a→a.2.length=h.length
theorem Nz {a:OA} {c e sz n:Nat} {es:List (List Value)} {w:World} (h:(own a c e sz es).holds w) (hn:es.length=n):(rd a n sz es).holds w:=by subst hn; exact n9 h
theorem jf {C:List ay} {H:List (List aq)} {hz:List bZ} (i:Nat) (hC:C[i]? =some (bQ (bK j3 H hz))) (hh:ud H hz):g9 C (iH (bK lM H hz)).holds:=fun w hw X hX=>by
 have hb:=hw _ (aP hC)
 obtain ⟨k,m,a,A,B,D⟩:=ku hX
 rcases cm.1 D with rfl|D
 ·exact Nz (hb.1 _ (bB A B cr)) (jP (hh.2 k m a A B))
 ·obtain ⟨q,d,b,E,F,G⟩:=ku D
  exact Qj d b w (fun Y hY=>hb.1 Y (bB A B (dH _ (bB E F hY)))) X G
section
variable {α:Type}
def jr (bz az:List α) (i:Nat):List α:=bz++az.drop i
variable {bz az:List α} {i:Nat} {a b:α}
theorem eP (hb:bz.length=i) (hi:i≤az.length):(jr bz az i).length=az.length:=by simp [jr,hb]; omega
theorem qW (h:az.length≤i):jr bz az i=bz:=by unfold jr; rw [List.drop_eq_nil_of_le h,List.append_nil]
theorem vd (hb:bz.length=i) (h:az[i]? =some a):(jr bz az i)[i]? =some a:=by
 unfold jr
 rw [List.getElem?_append_right om,hb,Nat.sub_self,List.getElem?_drop]
 simpa using h
theorem BW (hb:bz.length=i):(jr (bz++[b]) az (i+1))[i]? =some b:=by
 unfold jr
 rw [List.getElem?_append_left (by simp; omega),List.getElem?_append_right om,hb,Nat.sub_self]; rfl
theorem Jo (hb:bz.length=i) (h:az[i]? =some a):(jr bz az i).set i b=jr (bz++[b]) az (i+1):=by
 unfold jr
 have hi:=(aZ.1 h).1
 rw [List.set_append_right _ _ om,hb,Nat.sub_self,List.drop_eq_getElem_cons hi,List.set_cons_zero]
 simp
theorem q6 {M β:Type} {c:M→α→β} {l:List M} {x:M} (hx:l[i]? =some x) (hb:bz.length=i) (h:az[i]? =some a):(List.zipWith c l (jr bz az i)).set i (c x b)=List.zipWith c l (jr (bz++[b]) az (i+1)):=by
 rw [uL,Jo hb h]
 congr 1
 obtain ⟨hi,rfl⟩:=aZ.1 hx
 exact List.set_getElem_self hi
theorem oh {M:Type} {f:M→α→List ay} {l:List M} {x:M} (hx:l[i]? =some x) (hb:bz.length=i):bK f (l.take i) bz++f x b=bK f (l.take (i+1)) (bz++[b]):=by
 have hi:=(aZ.1 hx).1
 rw [List.take_add_one,hx,Option.toList_some,jJ (by rw [List.length_take,hb]; omega)]
 simp [bK]
end
theorem C7: ∀ {l:List (List aq)} {u v:List bZ},u.map (·.1)=v.map (·.1)→List.zipWith cL l u=List.zipWith cL l v
 |[],u,v,_=>by simp
 |x::l,[],[],_=>rfl
 |x::l,[],b::v,h=>by simp at h
 |x::l,a::u,[],h=>by simp at h
 |x::l,a::u,b::v,h=>by
  simp only [List.map_cons,List.cons.injEq] at h
  rw [List.zipWith_cons_cons,List.zipWith_cons_cons,C7 h.2]
  have e:cL x a=cL x b:=by simp only [cL,h.1]
  rw [e]
theorem Cu {l:List (List aq)} {hz ha:List bZ} {p:RA} {x y:List RA} {i:Nat}:List.zipWith cL l (jr (hz++[(p,x)]) ha i)=List.zipWith cL l (jr (hz++[(p,y)]) ha i):=C7 (by simp [jr])
theorem ES {H:List (List aq)} {hz:List bZ} {i:Nat} {x:List aq} {b:bZ} (hx:H[i]? =some x) (h: ∀ (k:Nat) y (a:bZ),H[k]? =some y→hz[k]? =some a→a.2.length=y.length) (hb:hz.length=i) (hl:b.2.length=x.length): ∀ (k:Nat) y (a:bZ),H[k]? =some y→(hz++[b])[k]? =some a→a.2.length=y.length:=fun k y a hy ha=>by
 by_cases e:k<hz.length
 ·rw [List.getElem?_append_left e] at ha
  exact h k y a hy ha
 ·rw [List.getElem?_append_right om] at ha
  have hk:k-hz.length=0:=by
   rcases Nat.eq_zero_or_pos (k-hz.length) with A|A
   ·exact A
   ·rw [List.getElem?_eq_none (by simp; omega)] at ha; cases ha
  rw [hk] at ha
  simp at ha
  have:k=i:=by omega
  subst this
  rw [hx] at hy; cases hy
  subst ha; exact hl
theorem FR {S:BS} {w0 w:World} {C:List ay} {A:ay} {Y Z:List ay} (h:St S w0 (A::bQ Y::bQ Z::C) w):St S w0 (bQ (Z++A::Y)::C) w:=by
 have D:St S w0 (bQ Y::A::bQ Z::C) w:=h.perm (List.Perm.swap _ _ _)
 have E:St S w0 (Y++(A::bQ Z::C)) w:=D.iN
 have F:St S w0 (bQ Z::(A::Y)++C) w:=E.perm (by
  have B:(Y++(A::bQ Z::C)).Perm ((A::bQ Z::C)++Y):=List.perm_append_comm
  refine B.trans ?_
  show (A::bQ Z::(C++Y)).Perm (bQ Z::A::(Y++C))
  exact (List.Perm.swap _ _ _).trans (((List.perm_append_comm (l₁:=C) (l₂:=Y)).cons A).cons _))
 have G:St S w0 (Z++((A::Y)++C)) w:=F.iN
 have H:St S w0 ((Z++A::Y)++C) w:=by simpa using G
 exact H.tied
theorem HO {S:BS} {w0 w:World} {C:List ay} {A:ay} {Y Z:List ay} (h:St S w0 (bQ (A::Y++Z)::C) w):St S w0 (A::bQ Y::bQ Z::C) w:=by
 have D:St S w0 ((A::Y++Z)++C) w:=h.iN
 have E:St S w0 (Z++(A::(Y++C))) w:=D.perm (by
  show (A::(Y++Z)++C).Perm (Z++(A::(Y++C)))
  have B:(A::(Y++Z)++C).Perm (A::(Z++(Y++C))):=by
   show (A::((Y++Z)++C)).Perm _
   refine List.Perm.cons A ?_
   rw [← List.append_assoc]
   exact List.perm_append_comm.append_right C
  exact B.trans (List.perm_middle (a:=A) (l₁:=Z) (l₂:=Y++C)).symm)
 have F:=E.tied
 have G:St S w0 (Y++(A::bQ Z::C)) w:=F.perm (by
  show (bQ Z::A::(Y++C)).Perm (Y++(A::bQ Z::C))
  have B:(Y++(A::bQ Z::C)).Perm (A::bQ Z::(Y++C)):=by
   have:=List.perm_append_comm (l₁:=Y) (l₂:=A::bQ Z::C)
   refine this.trans ?_
   show (A::bQ Z::(C++Y)).Perm _
   exact (List.perm_append_comm.cons _).cons _
  exact (B.trans (List.Perm.swap _ _ _)).symm)
 have H:=G.tied
 exact H.perm (List.Perm.swap _ _ _)
theorem yD {H:List (List aq)} {hz:List bZ} {k:Nat} {h:List aq} {a:bZ} (hh:H[k]? =some h) (ha:hz[k]? =some a):(bK j3 H hz).Perm (own a.1.1 a.1.2 Cb 7 (List.zipWith aq.cells h a.2)::bK oj h a.2++gU j3 H hz k):=mD hh ha
theorem O7 {E:fH} {K:Act→World→Prop} {D:iw} {L:dF} {C:List ay} {a:OA} {c e sz:Nat} {es:List (List Value)} (i:Nat) (hC:C[i]? =some (own a c e sz es)) (k:es.length≤c→KJ E K D L C):KJ E K D L C:=fun act w hf hs=>k (E7 (hs.holds _ (aP hC))) act w hf hs
abbrev Mw (C:List ay) (i j k:Nat):List Nat:=k::j::i::(List.range C.length).filter fun q=>q != i&&q != j&&q != k
section
variable {E:fH} {ops:Array Oper} {Q:dv} {rest:List Oper} {D:List Deferred} {L:List (Nat×Value)} {C C1:List ay} {K:Act→World→Prop}
variable {H:List (List aq)} {hz:List bZ} {h h':List aq} {a a':bZ} {k:Nat} {X:ay} {Y Z Z':List ay}
/-- i: the others, j: what hangs on the row, q: the row -/
theorem Jv (i j q:Nat) (hn:decide (Mw C i j q).Nodup=true) (hC:sQ C (Mw C i j q)=some (X::bQ Y::bQ Z::C1)) (e:Z++X::Y=Z') (hk:KJ E K D L (bQ Z'::C1)):KJ E K D L C:=fun a w hf hs=>by
 subst e; exact hk a w hf (FR (St.kS _ hn (mQ hC) hs))
theorem Im {c:Code} (i:Nat) (hh:H[k]? =some h) (ha:hz[k]? =some a) (hn:decide (SS C i).Nodup=true) (hC:sQ C (SS C i)=some (bQ (bK j3 H hz)::C1))
 (hk:WJ E c Q D L (own a.1.1 a.1.2 Cb 7 (List.zipWith aq.cells h a.2)::bQ (bK oj h a.2)::bQ (gU j3 H hz k)::C1)):WJ E c Q D L C:=fun act w hf hs=>
 hk act w hf (HO (mx (yD hh ha) (St.kS _ hn (mQ hC) hs)))
theorem Iz {S:BS} {w0 w:World} (hk:k<H.length) (hk2:k<hz.length) (hs:St S w0 (own a'.1.1 a'.1.2 Cb 7 (List.zipWith aq.cells h' a'.2)::bQ (bK oj h' a'.2)::bQ (gU j3 H hz k)::C) w):St S w0 (bQ (bK j3 (H.set k h') (hz.set k a'))::C) w:=by
 have B:=FR hs
 refine mx ?_ B
 have A:=yD (H:=H.set k h') (hz:=hz.set k a') (List.getElem?_set_self hk) (List.getElem?_set_self hk2)
 rw [yA] at A
 exact (List.perm_append_comm).trans A.symm
end
theorem zz {H:List (List aq)} {hz:List bZ} {k:Nat} {h h':List aq} {a:bZ} {bs:List RA} (hh:H[k]? =some h) (ha:hz[k]? =some a) (hl:h'.length=h.length):List.zipWith cL (H.set k h') (hz.set k (a.1,bs))=List.zipWith cL H hz:=by
 rw [← uL]
 have e:cL h' (a.1,bs)=cL h a:=by simp only [cL,hl]
 rw [e]
 have hz':=cG (f:=cL) hh ha
 obtain ⟨hi,A⟩:=aZ.1 hz'
 rw [← A]
 exact List.set_getElem_self hi
theorem pK {d e:aq}:d=e↔d.Out=e.Out∧d.cD=e.cD∧d.Time=e.Time∧d.aV.Start=e.aV.Start∧d.aV.gL=e.aV.gL∧d.aV.aa=e.aV.aa:=by
 obtain ⟨a,b,c,⟨x,y,z⟩⟩:=d
 obtain ⟨A,B,C,⟨D,E,F⟩⟩:=e
 simp only [aq.mk.injEq,cQ.mk.injEq]
theorem G9 {r q:eU} (h1:r.au=q.au) (h2:r.bu=q.bu) (h3:r.cN=q.cN) (h4:r.jd=q.jd) (h5:r.aI=q.aI):r=q:=by
 cases r; cases q; simp_all
theorem iL.Nm {r:eU} {az bz:List RA} {ha hz:List bZ} (h:iL r az ha) (hb:bz.length=r.au.aG.length) (hc:mU r.au.aG bz) (hh:ud r.aI hz):iL r bz hz:=⟨h.line.Nm hb hc,h.fM,h.draw,h.fE,hh.1,fun k x a hx ha'=>by
 obtain ⟨A,C⟩: ∃ A,ha[k]? =some A:=⟨ha[k]'(by rw [h.has]; exact (aZ.1 hx).1),fZ _⟩
 have B:=h.fJ k x A hx C
 exact ⟨B.len,hh.2 k x a hx ha',B.sig⟩⟩
end
section
open Go.RowKit
noncomputable def km (j:cw) (h i:Int) (d:aq):Int:=
 if dU j=0 then (if (0≤h∧h≤(j.Race.aI.length:Int)-1)∧qQ j.Race i then (if i∈(dT j)[h.toNat]?.getD [] then (if jE (rn j.Race h i d)=0 then 0 else 60) else 8) else 2) else dU j
section
variable {j:cw} {h i:Int} {d e:aq} {row:List Int} {r:eU} {H:List (List aq)} {k:Nat} {y:List aq} {hz:List bZ} {hza:bZ} {ht:List aq} {x:RA}
theorem B0 (q: ¬ dU j=0):km j h i d=dU j:=if_neg q
theorem ue (q:dU j=0) (n: ¬ ((0≤h∧h≤(j.Race.aI.length:Int)-1)∧0≤i∧i≤(j.Race.bu.length:Int)-1)):km j h i d=2:=by unfold km; rw [if_pos q,if_neg (by exact n)]
theorem x4 (q:dU j=0) (n:(0≤h∧h≤(j.Race.aI.length:Int)-1)∧0≤i∧i≤(j.Race.bu.length:Int)-1) (hr:(dT j)[h.toNat]? =some row):km j h i d=if i∈row then (if jE (rn j.Race h i d)=0 then 0 else 60) else 8:=by
 unfold km; rw [if_pos q,if_pos (by exact n),hr]; rfl
theorem E2 (q:dU j=0) (n:(0≤h∧h≤(j.Race.aI.length:Int)-1)∧0≤i∧i≤(j.Race.bu.length:Int)-1) (hr:(dT j)[h.toNat]? =some row) (hn: ¬ i∈row):km j h i d=8:=by rw [x4 q n hr,if_neg hn]
theorem z3 (q:dU j=0) (n:(0≤h∧h≤(j.Race.aI.length:Int)-1)∧0≤i∧i≤(j.Race.bu.length:Int)-1) (hr:(dT j)[h.toNat]? =some row) (hm:i∈row) (he: ¬ jE (rn j.Race h i d)=0):km j h i d=60:=by rw [x4 q n hr,if_pos hm,if_neg he]
theorem F5 (q:dU j=0) (n:(0≤h∧h≤(j.Race.aI.length:Int)-1)∧0≤i∧i≤(j.Race.bu.length:Int)-1) (hr:(dT j)[h.toNat]? =some row) (hm:i∈row) (he:jE (rn j.Race h i d)=0):km j h i d=0:=by rw [x4 q n hr,if_pos hm,if_pos he]
theorem C6 (hy:(j0 H h i d)[k]? =some y): ∃ x,H[k]? =some x∧y.length=x.length∧ ∀ e∈y,e∈x∨e=d:=by
 cases hh:H[h.toNat]? with
 |none=>unfold j0 at hy; rw [hh] at hy; exact ⟨y,hy,rfl,fun e he=> .inl he⟩
 |some ht=>
  rw [r9 hh,List.getElem?_set] at hy
  split at hy
  ·rename_i e
   rw [if_pos (aZ.1 hh).1] at hy
   cases hy
   exact ⟨ht,by rw [← e]; exact hh,by rw [List.length_set],fun e he=>List.mem_or_eq_of_mem_set he⟩
  ·exact ⟨y,hy,U,fun e he=> .inl he⟩
theorem Ib (hh:ud H hz) (h1:H[h.toNat]? =some ht) (h2:hz[h.toNat]? =some hza):ud (j0 H h i d) (hz.set h.toNat (hza.1,hza.2.set i.toNat x)):=by
 refine ⟨by rw [List.length_set,q_]; exact hh.1,fun k y a hy ha=>?_⟩
 rw [r9 h1] at hy
 rw [List.getElem?_set] at hy ha
 by_cases e:h.toNat=k
 ·rw [if_pos e,if_pos (aZ.1 h1).1] at hy
  rw [if_pos e,if_pos (aZ.1 h2).1] at ha
  cases hy; cases ha
  simp only [List.length_set]
  exact hh.2 _ _ _ h1 h2
 ·rw [if_neg e] at hy ha
  exact hh.2 k y a hy ha
theorem iL.put {az bz:List RA} {ha:List bZ} (hin:iL r az ha) (hb:bz.length=r.au.aG.length) (hc:mU r.au.aG bz) (hh:ud (j0 r.aI h i d) hz) (hd:d.aV.aa.length≤1000000):iL (rn r h i d) bz hz:=⟨hin.line.Nm hb hc,hin.fM,hin.draw,by
 show (j0 r.aI h i d).length≤1000000
 rw [q_]; exact hin.fE,hh.1,fun k y a hy ha'=>by
 obtain ⟨x,hx,hl,hm⟩:=C6 hy
 obtain ⟨b,hb⟩: ∃ b,ha[k]? =some b:=⟨ha[k]'(by rw [hin.has]; exact (aZ.1 hx).1),fZ _⟩
 have A:=hin.fJ k x b hx hb
 refine ⟨by rw [hl]; exact A.len,hh.2 k y a hy ha',fun e he=>?_⟩
 rcases hm e he with q|rfl
 ·exact A.sig e q
 ·exact hd⟩
theorem HJ (hs: ¬ jX r) (hd:(d.aV.aa.length:Int)≤15): ¬ jX (rn r h i d):=fun q=>by
 obtain ⟨A,E,F,G,B⟩:=uz hs
 rcases q with (q|q|q|q)|⟨y,hy,q⟩
 ·exact A q
 ·have:(rn r h i d).bu=r.bu:=rfl; rw [this] at q; omega
 ·have:(rn r h i d).cN=r.cN:=rfl; rw [this] at q; omega
 ·have:(rn r h i d).aI.length=r.aI.length:=q_; omega
 ·obtain ⟨k,hk⟩:=List.mem_iff_getElem?.1 hy
  obtain ⟨x,hx,hl,hm⟩:=C6 hk
  have C:=B x (aP hx)
  rcases q with q|⟨e,he,q⟩
  ·rw [hl] at q; omega
  ·rcases hm e he with D|rfl
   ·have:=C.2 e D; omega
   ·omega
end
section
variable {E:fH} {Q:dv} {D:List Deferred} {L:List (Nat×Value)} {C C1:List ay} {c:Code}
variable {h:List aq} {bs:List RA} {i:Nat} {d d':aq} {b b':RA}
theorem MO {S:BS} {w0 w:World} {C:List ay} (hd:h[i]? =some d) (hb:bs[i]? =some b) (hs:St S w0 (own b'.1 b'.2 CI 2 (d'.aV.aa.map aH.cells)::bQ (bK oj h bs)::C) w):St S w0 (bQ (bK oj (h.set i d') (bs.set i b'))::C) w:=by
 have hs:=hs.perm (List.Perm.swap _ _ _)
 have A:=(mx (mD hd hb) hs).iN
 have B:St S w0 (gU oj h bs i++(own b'.1 b'.2 CI 2 (d'.aV.aa.map aH.cells)::C)) w:=St.take (by simpa using A) (List.sublist_append_right (oj d b) _)
 have D:St S w0 ((own b'.1 b'.2 CI 2 (d'.aV.aa.map aH.cells)::gU oj h bs i)++C) w:=B.perm List.perm_middle
 have E:St S w0 ((oj d' b'++gU oj (h.set i d') (bs.set i b') i)++C) w:=by
  rw [yA]; exact D
 exact mx (mD (List.getElem?_set_self (aZ.1 hd).1) (List.getElem?_set_self (aZ.1 hb).1)).symm E.tied
/-- i: what hangs on the row, j: the new one -/
theorem KG (p j:Nat) (hd:h[i]? =some d) (hb:bs[i]? =some b) (hn:decide (HT C p j).Nodup=true) (hC:sQ C (HT C p j)=some (own b'.1 b'.2 CI 2 (d'.aV.aa.map aH.cells)::bQ (bK oj h bs)::C1))
 (hk:WJ E c Q D L (bQ (bK oj (h.set i d') (bs.set i b'))::C1)):WJ E c Q D L C:=fun a w hf hs=>hk a w hf (MO hd hb (St.kS _ hn (mQ hC) hs))
theorem E8 {H:List (List aq)} {hz:List bZ} {h':List aq} {a':bZ} {k:Nat} (i j q:Nat) (hk:k<H.length) (hk2:k<hz.length) (hn:decide (Mw C i j q).Nodup=true) (hC:sQ C (Mw C i j q)=some (own a'.1.1 a'.1.2 Cb 7 (List.zipWith aq.cells h' a'.2)::bQ (bK oj h' a'.2)::bQ (gU j3 H hz k)::C1))
 (hr:WJ E c Q D L (bQ (bK j3 (H.set k h') (hz.set k a'))::C1)):WJ E c Q D L C:=fun act w hf hs=>hr act w hf (Iz hk hk2 (St.kS _ hn (mQ hC) hs))
end
end
section
open Go.RowKit
section
variable {j:cw} {h i:Int} {d e d0:aq} {row:List Int} {r:eU} {H:List (List aq)} {x y:Nat} {ht hu:List aq} {hz:List bZ}
end
theorem FY {P:Program} {f:FuncId} {args:List Value} {Cp:List ay} {β:Type} {V:β→Value} {V':Bool×Int×β→Value} {p:β→Prop} {q:Bool×Int×β→Prop} {N:β→List ay} (h:lR P f args Cp (fun x:Bool×Int×β=>bif x.1 then V x.2.2 else V' x) (fun x=>(x.1=true→p x.2.2)∧(x.1=false→q x)) (fun x=>bif x.1 then N x.2.2 else [])) (hn: ∀ x,¬ q x):lR P f args Cp V p N:=
 ⟨h.go,fun w hw=>(h.run w hw).mono fun e w' ⟨⟨b,ec,y⟩,B,A,C,D⟩=>by
  cases b with
  |false=>exact absurd (A.2 rfl) (hn _)
  |true=>exact ⟨y,B,A.1 rfl,C,D⟩⟩
end
section
open Go.RowKit
noncomputable def lk (j:cw):List Bool:=j.aB.map (gJ j)
noncomputable def Aq (j:cw) (i:Nat):List Bool:=(j.aB.take i).map (gJ j)++List.replicate (j.aB.length-i) false
/-- the faults about which one of the first protests is granted -/
def qB (j:cw) (n k:Nat):Prop:= ∃ (i:Nat) (p:bR),i<n∧j.aB[i]? =some p∧gJ j p=true∧p.gh=(k:Int)
section
variable {j:cw} {p:bR} {i k n m:Nat} {s:Int} {x:Bool} {f:bg} {d:aq} {a b:Int}
theorem rM:(lk j).length=j.aB.length:=List.length_map _
theorem Gj:List.replicate j.aB.length false=Aq j 0:=by simp [Aq]
theorem Lw (h:j.aB.length≤i):Aq j i=lk j:=by
 unfold Aq lk
 rw [List.take_of_length_le h,Nat.sub_eq_zero_of_le h]; simp
theorem C_ (hp:j.aB[i]? =some p) (hx:x=gJ j p):(Aq j i).set i x=Aq j (i+1):=by
 have hi:=(aZ.1 hp).1
 have hl:((j.aB.take i).map (gJ j)).length=i:=by rw [List.length_map,List.length_take]; omega
 unfold Aq
 rw [List.set_append_right _ _ om,hl,Nat.sub_self,show j.aB.length-i=(j.aB.length-(i+1))+1 by omega,List.replicate_succ,List.set_cons_zero,List.take_add_one,hp,hx]
 simp
theorem Pt (hc:qP j p=some d) (hf:j.aM[p.gh.toNat]? =some f) (hl:sV j (i:Int)=pS j p) (h:0<gd j.Race.au f d):(!decide (sV j (i:Int)=2))=gJ j p:=by
 unfold gJ; rw [hc,hf,hl]
 have: ¬ gd j.Race.au f d=0:=by omega
 simp [this]
theorem Rq (hc:qP j p=some d) (hf:j.aM[p.gh.toNat]? =some f) (h: ¬ 0<gd j.Race.au f d):false=gJ j p:=by
 have hb:=B2 (l:=j.Race.au) (f:=f) (d:=d)
 unfold gJ; rw [hc,hf]
 have:gd j.Race.au f d=0:=by omega
 simp [this]
theorem rW (hx:(lk j)[i]? =some x):(j.aB[i]?).any (gJ j)=x:=by
 unfold lk at hx
 rw [f_] at hx
 cases h:j.aB[i]? with
 |none=>rw [h] at hx; cases hx
 |some p=>rw [h] at hx; simpa using hx
theorem A_ (hx:(lk j)[i]? =some x) (hp:j.aB[i]? =some p):x=gJ j p:=by
 have:=rW hx; rw [hp] at this; exact this.symm
theorem Jn:iv m (fun _=>False)=iv m (qB j 0):=vf fun i _=>⟨False.elim,fun ⟨_,_,h,_⟩=>absurd h (Nat.not_lt_zero _)⟩
theorem L_ (hp:j.aB[i]? =some p) (hg:gJ j p=true) (h0:0≤p.gh) (hk:p.gh.toNat<m):(iv m (qB j i)).set p.gh.toNat true=iv m (qB j (i+1)):=
 Ea hk ⟨fun _=>⟨i,p,om,hp,hg,om⟩,fun _=>rfl⟩ fun q hq=>⟨fun ⟨a,b,B,A⟩=>⟨a,b,om,A⟩,fun ⟨a,b,B,A,C,D⟩=>by
  rcases Nat.lt_or_ge a i with c|c
  ·exact ⟨a,b,c,A,C,D⟩
  ·obtain rfl:a=i:=by omega
   rw [hp] at A; cases A; exact absurd om hq⟩
theorem Pc (hp:j.aB[i]? =some p) (hg:gJ j p=false):iv m (qB j i)=iv m (qB j (i+1)):=vf fun q _=>⟨fun ⟨a,b,C,A⟩=>⟨a,b,om,A⟩,fun ⟨a,b,C,A,B,D⟩=>by
 rcases Nat.lt_or_ge a i with c|c
 ·exact ⟨a,b,c,A,B,D⟩
 ·obtain rfl:a=i:=by omega
  rw [hp] at A; cases A; rw [hg] at B; cases B⟩
theorem Nq (e:dU j=0):eT j (nF j.aM (qB j j.aB.length))=dT j:=by
 rw [← ki e]
 exact AD e fun k=>⟨fun ⟨a,b,_,A,B,C⟩=>⟨a,b,A,B,C⟩,fun ⟨a,b,A,B,C⟩=>⟨a,b,(aZ.1 A).1,A,B,C⟩⟩
noncomputable def js (j:cw) (i:Nat):Nat:=(iq j i).length
theorem wQ:js j i≤i:=nj
theorem Bu (hx:(lk j)[i]? =some true):js j (i+1)=js j i+1:=by
 unfold js iq; rw [vO (rW hx)]; simp
theorem FI (hx:(lk j)[i]? =some false):js j (i+1)=js j i:=by
 unfold js iq; rw [zK (rW hx)]
theorem Qt (hx:(lk j)[i]? =some true):(js j i:Int)*j.kU+j.kU=((js j (i+1):Nat):Int)*j.kU:=by
 rw [Bu hx,Int.natCast_add,Int.add_mul]; omega
theorem Qe (hx:(lk j)[i]? =some true):((i:Int)-(js j i:Int))*j.kU=(((i+1:Nat):Int)-((js j (i+1):Nat):Int))*j.kU:=by
 rw [Bu hx,show (((i+1:Nat):Int)-((js j i+1:Nat):Int))=(i:Int)-(js j i:Int) by omega]
theorem PL (hx:(lk j)[i]? =some false):(js j i:Int)*j.kU=((js j (i+1):Nat):Int)*j.kU:=by rw [FI hx]
theorem Qw (hx:(lk j)[i]? =some false):((i:Int)-(js j i:Int))*j.kU+j.kU=(((i+1:Nat):Int)-((js j (i+1):Nat):Int))*j.kU:=by
 rw [FI hx,show (((i+1:Nat):Int)-(js j i:Int))=((i:Int)-(js j i:Int))+1 by omega,Int.add_mul]; omega
theorem M_ (e:dU j=0):(js j j.aB.length:Int)*j.kU=yb j∧((j.aB.length:Int)-(js j j.aB.length:Int))*j.kU=xR j:=by
 have A:=(yq e).1
 have B:=(yq e).2
 rw [A,B]
 refine ⟨U,?_⟩
 rw [Int.sub_mul]; rfl
theorem JU (hp:j.aB[m]? =some p) (hg:gJ j p=true):h_ j s (m+1)=h_ j s m:=by
 unfold h_; rw [List.range_succ,List.countP_append]; simp [hp,hg]
theorem IT (hp:j.aB[m]? =some p) (h: ¬ p.gH=s):h_ j s (m+1)=h_ j s m:=by
 unfold h_; rw [List.range_succ,List.countP_append]; simp [hp,h]
theorem GC (hp:j.aB[m]? =some p) (h:p.gH=s) (hg:gJ j p=false):h_ j s (m+1)=h_ j s m+1:=by
 unfold h_; rw [List.range_succ,List.countP_append]; simp [hp,h,hg]
theorem KN (h:h_ j s (m+1)=h_ j s m): -(h_ j s m:Int)*j.kU= -((h_ j s (m+1):Nat):Int)*j.kU:=by rw [h]
theorem Pa (h:h_ j s (m+1)=h_ j s m+1): -(h_ j s m:Int)*j.kU-j.kU= -((h_ j s (m+1):Nat):Int)*j.kU:=by
 rw [h,show-((h_ j s m+1:Nat):Int)= -(h_ j s m:Int)+(-1) by omega,Int.add_mul]; omega
theorem SL:(0:Int)= -(h_ j s 0:Int)*j.kU:=by simp [h_]
theorem NB (e:dU j=0) (n:0≤s∧s≤(j.Race.bu.length:Int)-1):rO j s= -(h_ j s j.aB.length:Int)*j.kU∧ql j s=0:=⟨by unfold rO; rw [if_pos ⟨e,n⟩]; rfl,by unfold ql; rw [if_pos e,if_pos n]⟩
theorem yN {az:List RA} {ha:List bZ} (hin:er j az ha):(ei j).length≤1000000:=by
 unfold ei
 split
 ·unfold dT; rw [um]; exact hin.race.fE
 ·simp
theorem zk: ∀ l∈ei j,l.length≤1000000:=by
 by_cases e:dU j=0
 ·exact yG e
 ·rw [show ei j=[] from if_neg e]; intro l hl; cases hl
theorem sU {az:List RA} {ha:List bZ} (hin:er j az ha):(iA j).length≤1000000:=by
 unfold iA
 split
 ·exact Nat.le_trans (tH (j:=j)) hin.np
 ·simp
end
def wx:eU:=⟨⟨[],0,[],[],0,0,0⟩,[],[],0,[]⟩
theorem Fa:iL wx [] []:=⟨⟨dc,fun x h=>(List.not_mem_nil h).elim,dc,rfl,dc,fun k x a h=>by simp [wx] at h⟩,dc,dc,dc,rfl,fun k x a h=>by simp [wx] at h⟩
theorem yh: ¬ jX wx:=fun q=>by
 rcases q with (q|q|q|q)|⟨y,hy,_⟩
 ·simp [lh,wx] at q
 ·exact absurd q dc
 ·exact absurd q dc
 ·exact absurd q dc
 ·simp [wx] at hy
theorem wT {C:List ay} {M A:Type} {f:M→A→List ay} {asl:List A}:g9 C (iH (bK f [] asl)).holds:=fun w hw X hX=>by cases hX
/-- a call that is known not to answer -/
theorem I1 {P:Program} {f:FuncId} {args:List Value} {Cp:List ay} {β:Type} {v:Value} {V V':Bool×β→Value} {p q:Bool×β→Prop} {N:Bool×β→List ay} (h:lR P f args Cp (fun x:Bool×β=>bif x.1 then V x else V' x) (fun x=>(x.1=true→p x)∧(x.1=false→q x)) N) (hn: ∀ x,¬ p x) (hv: ∀ x,q x→V' x=v):dG P f args Cp v:=
 ⟨h.go,fun w hw=>(h.run w hw).mono fun e w' ⟨⟨b,y⟩,B,A,C,D⟩=>by
  cases b with
  |true=>exact absurd (A.1 rfl) (hn _)
  |false=>exact ⟨by rw [B]; exact congrArg _ (hv _ (A.2 rfl)),C⟩⟩
end
section
open Go.RowKit
section
variable {E:fH} {ops:Array Oper} {Q:dv} {rest:List Oper} {D:List Deferred} {L:List (Nat×Value)} {C C1:List ay}
end
theorem P8 {E:fH} {c:Code} {Q:dv} {D:iw} {L:dF} {C C1:List ay} (ix:List Nat) (hC:sQ C ix=some C1) (h:WJ E c Q D L C1) (hn:decide ix.Nodup=true:=by rfl):WJ E c Q D L C:=fun a w hf hs=>h a w hf (St.kS _ hn (mQ hC) hs)
end
section
theorem TN.sub {E:fH} {ops:Array Oper} {Q:dv} {D:iw} {C' C1 C:List ay} {tb rem:List Nat}: ∀ {n:Nat} {L L':dF},cR L L'→TN E ops D C' C1 (fun L C=>KJ E (Q .normal) D L C) tb n rem L' C→TN E ops D C' C1 (fun L C=>KJ E (Q .normal) D L C) tb n rem L C:=by
 intro n
 cases n with
 |zero=>intro L L' hs h; exact j6 hs (fun _ h=>h) h
 |succ n=>intro L L' hs h i hi o ho K hK; exact Oc hs (fun _ h=>h) (h i hi o ho K hK)
theorem Mq {E:fH} {ops:Array Oper} {Q:dv} {D:iw} {C' C1 C:List ay} {bs:List Bool} {os:List Oper} {L:dF} {tb rem:List Nat} {n:Nat} {t:Nat} {b:Bool} (h:L.lookup t=some (.bool b))
 (h1:b=true→qS E ops D C' C1 (fun L'=>TN E ops D C' C1 (fun L C=>KJ E (Q .normal) D L C) tb n rem L' C) bs os ((t,.bool true)::L)) (h2:b=false→qS E ops D C' C1 (fun L'=>TN E ops D C' C1 (fun L C=>KJ E (Q .normal) D L C) tb n rem L' C) bs os ((t,.bool false)::L)):
 qS E ops D C' C1 (fun L'=>TN E ops D C' C1 (fun L C=>KJ E (Q .normal) D L C) tb n rem L' C) bs os L:=by
 have A: ∀ v:Bool,b=v→cR L ((t,.bool v)::L):=fun v hv=>cR.cons (hv▸h) (fun _ _ h=>h)
 cases b
 ·exact qS.mono (fun _ _=>TN.sub) (A _ U) (h2 U)
 ·exact qS.mono (fun _ _=>TN.sub) (A _ U) (h1 U)
theorem Ss {E:fH} {ops:Array Oper} {Q:dv} {D:List Deferred} {L:List (Nat×Value)} {C1 C2 C:List ay} {t n:Nat} {b:Bool} {bs:List Bool} {os:List Oper} {tb rem:List Nat} (h:L.lookup t=some (.bool b)) (h2:b=false→qS E ops D C2 C1 (fun L2=>TN E ops D C2 C1 (fun L C=>KJ E (Q .normal) D L C) tb n rem L2 C) bs os ((t,.bool false)::L)) (h1:b=true→qS E ops D C2 C1 (fun L2=>TN E ops D C2 C1 (fun L C=>KJ E (Q .normal) D L C) tb n rem L2 C) bs os ((t,.bool true)::L)):qS E ops D C2 C1 (fun L2=>TN E ops D C2 C1 (fun L C=>KJ E (Q .normal) D L C) tb n rem L2 C) bs os L:=Mq h h1 h2
end
section
open Go.RowKit
section
variable {K:Type} [DecidableEq K] {kV:K→Value}
variable {E:fH} {ops:Array Oper} {Q:dv} {rest:List Oper} {D:List Deferred} {L:List (Nat×Value)} {C:List ay}
variable {ty:TypeId} {ps:String} {af:Array Edge} {g:Option (Nat×Bool)}
theorem tj {t kt et:TypeId} {xm xk:Operand} {ts:Array TypeId} {b:Nat} {x:K} {m m':List (K×Value)} {C':List ay} (i:Nat) (hg:ke ops L g=true) (hm:ev L xm=some (.map (some b))) (hk:ev L xk=some (kV x)) (hts:ts[0]? =some t)
 (ht:E.P.underlying t=some (.map kt et)) (hkt:vH E.P kt kV) (hC:C[i]? =some (kx kV b m)) (hm':fz m x=m') (hC':C.set i (kx kV b m')=C') (k:RJ E ops Q rest D L C'):
 RJ E ops Q (⟨none,.call {callee:= .builtin .delete,args:= #[xm,xk],argTypes:=ts},ty,ps,af,g⟩::rest) D L C:=by
 subst hm' hC'
 intro a w A hs
 unfold tg
 rw [if_pos (eI A hg)]
 obtain ⟨es,c,he,hi⟩:=hs.holds _ (aP hC)
 have B:(getObj b).run E.P w= .ok (.map es c) w:=MapKept.run_getObj_map he
 rcases pd (P:=E.P) (w:=w) (x:=x) hkt hi with ⟨F,G⟩|⟨j,AA,F,G,H⟩
 ·refine jl (v:= .tuple #[]) (w':={w with heap:=w.heap.setIfInBounds b (.map es c)}) sm ?_ ?_
  ·simp [execOp,resolve,invoke,builtin,A.ev hm,A.ev hk,Builtin.delete_,hts,run_underlying ht,B,jq hkt,F,MapKept.run_setObj_map _ he]
  ·refine k _ _ ⟨A.defers,A.size,A.at_⟩ (hs.Ag (b:=b) i hC U U (nO _) (fun _ h=>h) ⟨_,_,pT he,?_⟩)
   rw [DA G]; exact hi
 ·refine jl (v:= .tuple #[]) (w':={w with heap:=w.heap.setIfInBounds b (.map (es.eraseIdxIfInBounds j) c)}) sm ?_ ?_
  ·simp [execOp,resolve,invoke,builtin,A.ev hm,A.ev hk,Builtin.delete_,hts,run_underlying ht,B,jq hkt,F,MapKept.run_setObj_map _ he]
  ·exact k _ _ ⟨A.defers,A.size,A.at_⟩ (hs.Ag (b:=b) i hC U U (nO _) (fun _ h=>h) ⟨_,_,pT he,hi.del G⟩)
end
end
section
open Go.RowKit
section
variable {P:Program} {t:TypeId} {x y:Operand}
theorem rE {e:TypeId} {a:OA} {n c:Nat} (ht:P.underlying t=some (.slice e)):gR P .eql t x y (.slice a n c) (.slice none 0 0) (.bool (decide (a=none))):=fun w=>by
 have A:(Op.equal t (.slice a n c) (.slice none 0 0)).run P w= .ok (decide (a=none)) w:=by
  unfold Op.equal
  show (Op.equalIn (9999+1) t (.slice a n c) (.slice none 0 0)).run P w=_
  unfold Op.equalIn
  cases a<;>simp [run_underlying ht]
 have B:eqGuard .eql t x y (.slice a n c) (.slice none 0 0)=pure ():=rfl
 rw [B]
 show (Sem.run P (do let b ← Op.equal t (.slice a n c) (.slice none 0 0); pure (vB b)) w)=_
 simp [A]
end
section
variable {E:fH} {ops:Array Oper} {Q:dv} {rest:List Oper} {D:List Deferred} {L:List (Nat×Value)} {C:List ay}
variable {dst:Option Tmp} {d:Nat} {ty:TypeId} {ps:String} {af:Array Edge} {g:Option (Nat×Bool)}
/-- a row that lies nowhere is empty -/
theorem m8 {a:OA} {n sz:Nat} {es:List (List Value)} (hR:g9 C (rd a n sz es).holds) (ha:a=none) (hz:0<sz) (k:es=[]→RJ E ops Q rest D L C):RJ E ops Q rest D L C:=fun act w hf hs=>by
 refine k ?_ act w hf hs
 obtain ⟨F,G,B⟩:=hs.has hR
 rcases Nat.eq_zero_or_pos (n*sz) with h|h
 ·have:n=0:=by
   rcases Nat.mul_eq_zero.1 h with h|h
   ·exact h
   ·omega
  exact kE om
 ·obtain ⟨ad,A,_⟩:=B h
  rw [ha] at A; cases A
theorem Mx {A:ay} (i:Nat) (h:C[i]? =some A.ro):g9 C A.holds:=fun w hw=>by
 have B:=hw A.ro (aP h)
 exact B
end
end
section
open Go.RowKit
def im (b:Bool):List Value:=[.bool b]
@[simp] theorem Ah (b:Bool):(im b).length=1:=rfl
theorem GA (l:List Bool): ∀ v∈(l.map im).flatten,v.oneCell'=true:=kX (fun s=>rfl) l
end
section
def mE (r:eU) (i:Nat):Prop:= ∀ (j:Nat) x,j<i→r.aI[j]? =some x→ ¬ pI x
def nM (x:List aq) (i:Nat):Prop:= ∀ (j:Nat) d,j<i→x[j]? =some d→ ¬ 15<(d.aV.aa.length:Int)
section
variable {r:eU} {i:Nat} {x:List aq} {d:aq}
theorem Dg:mE r 0:=fun j x hj=>absurd hj (Nat.not_lt_zero _)
theorem Cj (h:mE r i) (hx:r.aI[i]? =some x) (ho: ¬ pI x):mE r (i+1):=fun j y hj hy=>by
 rcases Nat.lt_or_ge j i with q|q
 ·exact h j y q hy
 ·obtain rfl:j=i:=by omega
  rw [hx] at hy; cases hy; exact ho
theorem By:nM x 0:=fun j x hj=>absurd hj (Nat.not_lt_zero _)
theorem CP (h:nM x i) (hx:x[i]? =some d) (ho: ¬ 15<(d.aV.aa.length:Int)):nM x (i+1):=fun j y hj hy=>by
 rcases Nat.lt_or_ge j i with q|q
 ·exact h j y q hy
 ·obtain rfl:j=i:=by omega
  rw [hx] at hy; cases hy; exact ho
theorem DH (hl: ¬ 8<(x.length:Int)) (h:nM x i) (hi:x.length≤i): ¬ pI x:=by
 rintro (q|⟨d,hd,q⟩)
 ·exact hl q
 ·obtain ⟨j,hj⟩:=List.getElem?_of_mem hd
  exact h j d (by have:=(aZ.1 hj).1; omega) hj q
theorem Hm (h1: ¬ lh r.au) (h2: ¬ 8<(r.bu.length:Int)∧ ¬ 8<(r.cN.length:Int)∧ ¬ 5<(r.aI.length:Int)) (h:mE r i) (hi:r.aI.length≤i): ¬ jX r:=by
 rintro ((q|q)|⟨x,hx,q⟩)
 ·exact h1 q
 ·omega
 ·obtain ⟨j,hj⟩:=List.getElem?_of_mem hx
  exact h j x (by have:=(aZ.1 hj).1; omega) hj q
theorem qm (h:lh r.au∨8<(r.bu.length:Int)∨8<(r.cN.length:Int)∨5<(r.aI.length:Int)):jX r:= .inl h
theorem BJ (hx:r.aI[i]? =some x) (h:8<(x.length:Int)):jX r:= .inr ⟨x,aP hx,.inl h⟩
theorem Dt {j:Nat} (hx:r.aI[i]? =some x) (hd:x[j]? =some d) (h:15<(d.aV.aa.length:Int)):jX r:= .inr ⟨x,aP hx,.inr ⟨d,aP hd,h⟩⟩
end
noncomputable def pC (l:bq) (d:aq):ai:=if d.Out=true then hZ else gD l d
theorem Kp {l:bq} {d:aq} (h:jn l d):pC l d=gD l d:=by
 unfold pC
 split
 ·rename_i q
  rw [ET q]
  rw [qV q] at h
  exact h.2.1.symm
 ·rfl
theorem AT {l:bq} {d:aq} (h:d.Out=true):pC l d=hZ:=if_pos h
theorem Ge {l:bq} {d:aq} (h:d.Out=false∧d.cD=true):pC l d=d.Time:=by unfold pC; rw [if_neg (by rw [h.1]; decide),EL h]
theorem Fe {l:bq} {d:aq} (h:d.Out=false∧d.cD=false):pC l d=Bt l d.aV:=by unfold pC; rw [if_neg (by rw [h.1]; decide),EU h]
def QV (r:eU) (j:Nat):Prop:= ∀ x,r.bu[j]? =some x→(0≤x∧x≤9999)∧ ∀ y,0<j→r.bu[j-1]? =some y→y<x
def Jt (r:eU) (j:Nat):Prop:= ∀ x,r.cN[j]? =some x→(0≤x∧x≤(r.bu.length:Int)-1)∧ ∀ (k:Nat) y,k<j→r.cN[k]? =some y→y≠x
def x5 (r:eU) (i:Nat):Prop:= ∀ j,j<i→QV r j∧Jt r j
section
variable {r:eU} {i k:Nat} {x:Int}
theorem K3:x5 r 0:=fun j hj=>absurd hj (Nat.not_lt_zero _)
theorem B_ (h:x5 r i) (h1:QV r i) (h2:Jt r i):x5 r (i+1):=fun j hj=>by
 rcases Nat.lt_or_ge j i with q|q
 ·exact h j q
 ·obtain rfl:j=i:=by omega
  exact ⟨h1,h2⟩
theorem xG {l:List Int} {u v:Int} (h: ∀ (q:Nat) y,q<k→l[q]? =some y→y≠v) (hx:l[k]? =some u) (hne: ¬ u=v): ∀ (q:Nat) y,q<k+1→l[q]? =some y→y≠v:=fun q y hq hy=>by
 rcases Nat.lt_or_ge q k with c|c
 ·exact h q y c hy
 ·obtain rfl:q=k:=by omega
  rw [hx] at hy; cases hy; exact hne
theorem Ix (hl:r.cN.length=r.bu.length) (h:x5 r r.bu.length):r.cN.Perm (Gi r.bu.length):=by
 have nd:r.cN.Nodup:=by
  rw [List.nodup_iff_pairwise_ne,eZ]
  intro a b ha hb A
  exact ((h b om).2 _ (fZ hb)).2 a _ A (fZ ha)
 have hm: ∀ x∈r.cN,x∈Gi r.bu.length:=fun x hx=>by
  obtain ⟨j,hj⟩:=List.getElem?_of_mem hx
  have:=((h j (by have:=(aZ.1 hj).1; omega)).2 x hj).1
  exact db.2 ⟨x.toNat,List.mem_range.2 om,om⟩
 have ndu:(Gi r.bu.length).Nodup:=by
  unfold Gi
  rw [List.nodup_iff_pairwise_ne,List.pairwise_map]
  exact List.pairwise_lt_range.imp fun h=>by omega
 have e:ob r.cN=(Gi r.bu.length).filter fun x=>decide (x∈r.cN):=by
  refine G1 uT ((yK _).filter _) (mw.nodup_iff.2 nd) (ndu.filter _) fun x=>?_
  rw [mw.mem_iff,List.mem_filter,decide_eq_true_eq]
  exact ⟨fun q=>⟨hm x q,q⟩,fun q=>q.2⟩
 have B:=congrArg List.length e
 rw [u_,hl] at B
 have C:(Gi r.bu.length).filter (fun x=>decide (x∈r.cN))=Gi r.bu.length:=List.filter_sublist.eq_of_length (by rw [← B]; simp)
 rw [C] at e
 rw [← e]; exact mw.symm
theorem HF {n:Nat} (h1:1≤(r.bu.length:Int)∧(r.bu.length:Int)≤5) (h2:r.cN.length=r.bu.length) (h3:0≤r.jd∧r.jd≤5) (h4:1≤(r.aI.length:Int)∧(r.aI.length:Int)≤3)
 (hn:n=r.bu.length) (h6:x5 r n) (h7:kH r i) (hi:r.aI.length≤i):fP r:=by
 subst hn
 refine ⟨h1,h3,h4,fun k x hx=>(h6 k (aZ.1 hx).1).1 x hx,Ix h2 h6,fun h hh=>?_⟩
 obtain ⟨j,hj⟩:=List.getElem?_of_mem hh
 exact h7 j h (by have:=(aZ.1 hj).1; omega) hj
theorem fP.K6 (h:fP r) (hx:r.cN[i]? =some x):0≤x∧x≤(r.bu.length:Int)-1:=by
 obtain ⟨k,hk,rfl⟩:=db.1 (h.draw.mem_iff.1 (aP hx))
 have:=List.mem_range.1 hk
 omega
theorem fP.PV (h:fP r):r.cN.Nodup:=by
 refine h.draw.nodup_iff.2 ?_
 rw [List.nodup_iff_pairwise_ne,List.pairwise_map]
 exact List.pairwise_lt_range.imp fun h=>by omega
theorem fP.PZ (h:fP r) {u v:Int} (hki:k<i) (hu:r.cN[k]? =some u) (hv:r.cN[i]? =some v): ¬ u=v:=by
 have A:=h.PV
 rw [List.nodup_iff_pairwise_ne,eZ] at A
 obtain ⟨a,ea⟩:=aZ.1 hu
 obtain ⟨b,eb⟩:=aZ.1 hv
 subst ea eb
 exact A k i a b hki
end
section
variable {r:eU} {i k n:Nat} {s:ai} {l:bq} {hs:List (List aq)}
end
section
variable {r:eU} {i x:Int} {own s:ai} {k:Nat} {ys zs:List Int}
end
section
variable {B:List Bool} {P Q:Int→Prop} {k x:Nat} {m:B7} {i y a b:Int} {ys:List Int}
end
end
section
open Go.RowKit
theorem pw (n lo hi:Int):
 dG Tryz.prog 155 [(vI n),(vI lo),(vI hi)] [] (vB (decide (lo≤n∧n≤hi))):=by
 refine bG kr Tryz.func155 U U fun D Q hQ hN=>?_
 try dsimp only
 refine WS fun _ B=>bp 1 U<|RK B<|WS fun _ A=>rP 4 [] I ?_
 refine bS (t:=10) U (aN fun C=>?_) (aO fun C=>?_)
 ·refine rP 5 [] I ?_
  refine RK A<|ak<|Q1 hQ U U U ?_
  exact cB (gT.2 om)
 refine rP 5 [] I ?_
 refine RK A<|ak<|Q1 hQ U U U ?_
 exact cB (br om).symm
theorem qj (s:ai) (lo hi:Int):
 dG Tryz.prog 156 [(vA (ai.cells s)),(vI lo),(vI hi)] [] (vB (decide (s.Lo≤s.Hi∧lo≤s.Lo∧s.Hi≤hi))):=by
 refine bG kr Tryz.func156 U U fun E Q hQ hN=>?_
 try dsimp only
 refine WS fun _ B=>dV U fun D=>bp 1 U<|RK B<|WS fun _ A=>dY 5 [] (mc 0 U I) U<|rS (CL (pw s.Lo lo s.Hi) (aS) U)<|rP 1 [] I ?_
 refine cx (t:=13) U (aO fun C=>?_) (aN fun C=>?_)
 ·refine rP 6 [] I ?_
  refine RK A<|ak<|Q1 hQ U U U ?_
  exact cB (br om).symm
 refine rP 6 [] (mc 0 U I) ?_
 refine RK A<|ak<|Q1 hQ U U U ?_
 exact cB (gT.2 om)
theorem No (t:List aD) (tA:OA) (tC:Nat):
 dG Tryz.prog 100 [(vA (bJ.cells (bJ.mk (bj.mk tA t.length tC))))] [(rd tA t.length 9 (t.map aD.cells))] (vB (decide (20<(t.length:Int)))):=by
 refine bG kr Tryz.func100 U U fun D Q hQ hN=>?_
 try dsimp only
 refine WS fun _ A=>dV U fun C=>bp 1 U<|RK A<|WS fun _ B=>rP 5 [] (mc 0 U I) ?_
 refine RK B<|ak ?_
 exact Q1 hQ U U U U
theorem Nw (l:List Int) (lA:OA) (lC:Nat) (f:Value) (p:Int→Bool) (X:ay) (hf: ∀ x0,x0∈l→Dy Tryz.prog f [.int .i64 x0] [X] (.bool (p x0))) (hlen:l.length≤1000000):
 dG Tryz.prog 104 [(vS lA l.length lC),f] [(rd lA l.length 1 (l.map iC)),X] (vI (s9 p l)):=by
 refine bG kr Tryz.func104 U U fun R Q hQ hN=>?_
 try dsimp only
 refine WS fun _ G=>bp 1 U<|RK G<|ag fun _ H=>WS fun _ AA=>rP 3 [] I ?_
 refine RK AA<|ax ?_
 have B:(0≤l.length)∧((l.take 0).any p=false):=by simp
 refine bP (ι:={z:Nat // (z≤l.length)∧((l.take z).any p=false)}) [0,1,7] [0,1] U U (fun z=>[(8,(vI (z.1:Int)))]) (fun z=>[]) (fun _=>rfl) (fun _=>rfl) (fun z=>l.length-z.1) ⟨0,B⟩ (bf U) (aK [0,1]) ?_
 clear B
 rintro ⟨i,⟨N,A⟩⟩ J4 F
 try dsimp only
 refine WS fun _ J=>rP 1 [] I ?_
 refine RK J<|ag fun _ K=>bO U (aO fun P=>?_) (aN fun P=>?_)
 ·refine bM<|ab<|ab<|aF<|KK H<|WS fun _ E=>rP 1 [] I ?_
  refine RK E<|ak<|Q1 hQ U U U ?_
  exact cI (qh om A).symm
 refine WK K<|ag fun _ L=>ax<|WS fun _ M=>bp 2 U<|RK M<|WS fun _ C=>rP 3 [] I ?_
 obtain ⟨x,hx⟩:=aA l i om
 have O:=bH iC hx
 refine rS (IA i U (av 0 U) dI dc om om)<|rS (gv i 0 (vI x) U bV (av 0 U) O U dc U)<|rS (SX (pX U U U (hf x (aP hx)) (aY [1])) U U)<|RK C<|cb U (fun hp=>?_) (fun hp=>?_)
 ·refine WS fun _ D=>rP 2 [] I ?_
  refine RK D<|ak<|Q1 hQ U U U ?_
  exact cI (uh hx hp A).symm
 refine cg<|aJ<|KK L<|ao<|rP 2 [] I ?_
 refine aC ?_
 refine a_ (F ⟨(i+1),⟨om,uo hx A hp⟩⟩ _ _ _ U os (bf U) (aK [0,1]))
theorem qd (l:List Int) (lA:OA) (lC:Nat) (f:Value) (p:Int→Bool) (X:ay) (hf: ∀ x0,x0∈l→Dy Tryz.prog f [.int .i64 x0] [X] (.bool (p x0))) (hlen:l.length≤1000000):
 dG Tryz.prog 76 [(vS lA l.length lC),f] [(rd lA l.length 1 (l.map iC)),X] (vB (l.any p)):=by
 refine bG kr Tryz.func76 U U fun C Q hQ hN=>?_
 try dsimp only
 refine WS fun _ A=>bp 1 U<|RK A<|WS fun _ B=>bp 2 U<|rS (CL (Nw l lA lC f p X (by exact hf) hlen) (aY [0,1]) U)<|rP 2 [] I ?_
 refine RK B<|ak<|Q1 hQ U U U ?_
 exact cB se
theorem HI (n lo hi:Int) (g1 g2:Nat):
 dG Tryz.prog 163 [(vI n),(vP g1),(vP g2)] [(cy g1 3 [(vI lo)]),(cy g2 3 [(vI hi)])] (vB (decide (n<lo∨hi<n))):=by
 refine bG kr Tryz.func163 U U fun D Q hQ hN=>?_
 try dsimp only
 refine WS fun _ B=>bp 1 U<|RK B<|WS fun _ A=>rP 4 [] (mr 0 U I) ?_
 refine bS (t:=8) U (aN fun C=>?_) (aO fun C=>?_)
 ·refine rP 5 [] I ?_
  refine RK A<|ak<|Q1 hQ U U U ?_
  exact cB (dC om).symm
 refine rP 5 [] (mr 1 U I) ?_
 refine RK A<|ak<|Q1 hQ U U U ?_
 exact cB (gT.2 om)
theorem pD (lo hi:Int) (l:List Int) (lA:OA) (lC:Nat) (hlen:l.length≤1000000):
 dG Tryz.prog 130 [(vI lo),(vI hi),(vS lA l.length lC)] [(rd lA l.length 1 (l.map iC))] (vB (qH lo hi l)):=by
 refine bG kr Tryz.func130 U U fun F Q hQ hN=>?_
 try dsimp only
 refine WS fun _ D=>wV U U fun A=>wV U U fun B=>bp 1 U<|RK D<|WS fun _ E=>rP 1 [] I ?_
 refine rS (FU U) ?_
 refine rS (CL (qd l lA lC (Value.func (.func 163) [].toArray [(vP A),(vP B)].toArray) (fun C=>(decide (C<lo∨hi<C))) (iH [(cy A 3 [(vI lo)]),(cy B 3 [(vI hi)])]) (by intro C _; exact lp (fi:=[]) (ca:=[(vP A),(vP B)]) (j8 (HI C lo hi A B) (aY [0,1]))) hlen) (eG 2 U U<|aw (j7 (aY [1,0]))<|aS) U) ?_
 refine rP 2 [] I ?_
 refine RK E<|ak ?_
 exact Q1 hQ U U U U
theorem w5 (s:ai) (lo hi:Int):
 dG Tryz.prog 131 [(vA (ai.cells s)),(vI lo),(vI hi)] [] (vB (decide (s.Lo≤s.Hi∧lo≤s.Lo∧s.Hi≤hi))):=by
 refine bG kr Tryz.func131 U U fun F Q hQ hN=>?_
 try dsimp only
 refine WS fun _ B=>dV U fun E=>bp 1 U<|RK B<|WS fun _ A=>rP 6 [] (mc 0 U I) ?_
 refine e9 (xs:=[.tmp 10,.tmp 12]) (cs:=[(vI s.Lo),(vI s.Hi)]) U dI kR U U U U (by simp [Value.cells]) U U fun C=>?_
 refine rS (CL (dG.eq (pD lo hi ([s.Lo,s.Hi]) (some ⟨C,0,none⟩) 2 (by (simp; done))) pG) (aw (bo 0 U U (by simp [bX]) U)<|aS) U) ?_
 refine rP 1 [] I ?_
 refine cx (t:=15) U (aO fun D=>?_) (aN fun D=>?_)
 ·refine rP 7 [] I ?_
  refine RK A<|ak<|Q1 hQ U U U ?_
  exact cB (br om).symm
 refine rP 7 [] (mc 1 U I) ?_
 refine RK A<|ak<|Q1 hQ U U U ?_
 exact cB (gT.2 om)
theorem wZ (ts:List aD) (tsA:OA) (tsC:Nat) (hlen:ts.length≤1000000):
 dG Tryz.prog 126 [(vA (bJ.cells (bJ.mk (bj.mk tsA ts.length tsC))))] [(rd tsA ts.length 9 (ts.map aD.cells))] (vB (dB ts)):=by
 refine bG kr Tryz.func126 U U fun w0 Q hQ hN=>?_
 try dsimp only
 refine WS fun _ C1=>dV U fun b2=>bp 1 U<|RK C1<|ag fun _ C2=>WS fun _ C3=>dY 3 [] (mc 0 U I) U<|rS (CL (pw (ts.length:Int) 1 12) (aS) U)<|rP 1 [] I ?_
 refine RK C3<|cb U (aX fun h5=>?_) (aW fun h5=>?_)
 ·refine WS fun _ Di=>rP 1 [] I ?_
  refine RK Di<|ak<|Q1 hQ U U U ?_
  exact cB (oM om).symm
 refine WK C2<|ag fun _ Do=>WS fun _ EQ=>rP 1 [] I ?_
 refine RK EQ<|ax ?_
 have E:(0≤ts.length)∧(fg (-1) ts=fg (gP ts 0) (ts.drop 0))∧(-1≤gP ts 0):=by (refine ⟨om,rfl,by simp [gP]⟩)
 refine bP (ι:={z:Nat // (z≤ts.length)∧(fg (-1) ts=fg (gP ts z) (ts.drop z))∧(-1≤gP ts z)}) [1] [0,1] U U (fun z=>[(3,(vI (z.1:Int)))]) (fun z=>[]) (fun _=>rfl) (fun _=>rfl) (fun z=>ts.length-z.1) ⟨0,E⟩ (bf U) (aK [0,1]) ?_
 clear E
 rintro ⟨i,⟨Eq,A,FS⟩⟩ J9 D
 try dsimp only
 have hz:i=0→gP ts i= -1:=Cn
 refine ag fun _ K=>WS fun _ L=>rP 5 [] (mc 0 U I) ?_
 refine RK L<|bO U (aO fun v=>?_) (aN fun v=>?_)
 ·refine bM<|ab<|ab<|aF<|KK Do<|WS fun _ u=>rP 1 [] I ?_
  refine RK u<|ak<|Q1 hQ U U U ?_
  exact cB (wk A om om).symm
 refine WK K<|ag fun _ C=>ax<|WS fun _ M=>rP 3 [] (mc 0 U I) ?_
 obtain ⟨x,hx⟩:=aA ts i om
 have Fd:=bH aD.cells hx
 refine rS (IA i U (av 1 U) wL dc om om)<|rS (jL i 0 (aD.cells x) U bV (av 1 U) Fd U dc U U)<|AL U Lg fun Fn=>e7 U IC U<|RK M<|ag fun _ F=>ag fun _ B=>cS cj 38 kr<|kf 2 [] (mc 0 U I) U<|dS (CL (pw x.Id 0 9999) (aS) U)<|dP 2 [] I ?_
 refine ic (t:=26) U (aX fun w=>?_) (aW fun w=>?_)
 ·refine kI 11 U<|kI 22 U<|cu<|RK B<|aL U<|WS fun _ N=>rP 1 [] I ?_
  refine RK N<|ak<|Q1 hQ U U U ?_
  exact cB (ek A hx (by simp only [bY,eu]; omega)).symm
 refine dP 3 [] I ?_
 refine jm (t:=29) U (aO fun AC=>?_) (aN fun AC=>?_)
 ·refine kI 8 U<|kI 6 U<|dS (LP (ai.cells x.jR) 0 U bV U U U)<|dS (CL (qj x.jR 1 30000) (aS) U)<|dP 3 [] I ?_
  refine ic (t:=48) U (aX fun A8=>?_) (aW fun A8=>?_)
  ·refine kI 11 U<|cu<|RK B<|aL U<|WS fun _ e=>rP 1 [] I ?_
   refine RK e<|ak<|Q1 hQ U U U ?_
   exact cB (ek A hx (by simp only [bY,eu]; omega)).symm
  refine kI 1 U<|dS (LP (ai.cells x.kQ) 0 U bV U U U)<|dS (CL (qj x.kQ 0 5000) (aS) U)<|dP 3 [] I ?_
  refine ic (t:=54) U (aX fun A9=>?_) (aW fun A9=>?_)
  ·refine kI 5 U<|cu<|RK B<|aL U<|WS fun _ f=>rP 1 [] I ?_
   refine RK f<|ak<|Q1 hQ U U U ?_
   exact cB (ek A hx (by simp only [bY,eu]; omega)).symm
  refine kf 2 [] (mc 0 U I) U<|dS (CL (pw x.xe 0 5000) (aS) U)<|dP 2 [] I ?_
  refine cu<|RK B<|cb U (aX fun Ba=>?_) (aW fun Ba=>?_)
  ·refine WS fun _ g=>rP 1 [] I ?_
   refine RK g<|ak<|Q1 hQ U U U ?_
   exact cB (ek A hx (by simp only [bY,eu]; omega)).symm
  refine WK F<|WS fun _ h=>dY 2 [] (mc 0 U I) U<|RK h<|ax<|WS fun _ j=>rS (BI U ks)<|rP 1 [] I ?_
  refine RK j<|cb U (aN fun B3=>?_) (aO fun B3=>?_)
  ·refine WS fun _ AB=>rP 5 [] (mc 0 U I) ?_
   refine bS (t:=68) U (aX fun B9=>?_) (aW fun B9=>?_)
   ·refine bp 5 U<|RK AB<|aL U<|WS fun _ k=>rP 1 [] I ?_
    refine RK k<|ak<|Q1 hQ U U U ?_
    exact cB (ek A hx (by simp only [bY,eu]; omega)).symm
   refine rP 5 [] (mc 0 U I) ?_
   refine RK AB<|bO U (aW fun CB=>?_) (aX fun CB=>?_)
   ·refine cg<|aJ<|aJ<|KK C<|ao<|rP 3 [] I ?_
    refine aC ?_
    refine a_ (D ⟨(i+1),⟨om,ir A hx (by simp only [bY,eu]; omega),by rw [gM hx]; omega⟩⟩ _ _ _ U os (bf U) (aK [1,2]))
   refine WS fun _ l=>rP 1 [] I ?_
   refine RK l<|ak<|Q1 hQ U U U ?_
   exact cB (ek A hx (by simp only [bY,eu]; omega)).symm
  refine ag fun _ J=>WS fun _ m=>rS (BI U ks)<|rP 1 [] I ?_
  refine RK m<|cb U (aN fun Ci=>?_) (aO fun Ci=>?_)
  ·refine WK J<|bO U (aO fun Ck=>?_) (aN fun Ck=>?_)
   ·refine WS fun _ p=>rP 1 [] I ?_
    refine RK p<|ak<|Q1 hQ U U U ?_
    exact cB (oM om).symm
   refine WS fun _ n=>bp 1 U<|rS (LP (ai.cells x.ej) 0 U bV U U U)<|rS (CL (qj x.ej 500 20000) (aS) U)<|rP 1 [] I ?_
   refine RK n<|bO U (aW fun Cp=>?_) (aX fun Cp=>?_)
   ·refine cg<|aJ<|aJ<|KK C<|ao<|rP 3 [] I ?_
    refine aC ?_
    refine a_ (D ⟨(i+1),⟨om,ir A hx (by simp only [bY,eu]; omega),by rw [gM hx]; omega⟩⟩ _ _ _ U os (bf U) (aK [1,2]))
   refine WS fun _ o=>rP 1 [] I ?_
   refine RK o<|ak<|Q1 hQ U U U ?_
   exact cB (ek A hx (by simp only [bY,eu]; omega)).symm
  refine ao<|rS (BI U ks)<|rP 1 [] I ?_
  refine RK J<|bO U (aO fun Cx=>?_) (aN fun Cx=>?_)
  ·refine WS fun _ s=>rP 1 [] I ?_
   refine RK s<|ak<|Q1 hQ U U U ?_
   exact cB (ek A hx (by simp only [bY,eu]; omega)).symm
  refine WS fun _ q=>bp 1 U<|rS (LP (ai.cells x.ej) 0 U bV U U U)<|rS (CL (qj x.ej 500 20000) (aS) U)<|rP 1 [] I ?_
  refine RK q<|bO U (aW fun C0=>?_) (aX fun C0=>?_)
  ·refine cg<|aJ<|aJ<|KK C<|ao<|rP 3 [] I ?_
   refine aC ?_
   refine a_ (D ⟨(i+1),⟨om,ir A hx (by simp only [bY,eu]; omega),by rw [gM hx]; omega⟩⟩ _ _ _ U os (bf U) (aK [1,2]))
  refine WS fun _ r=>rP 1 [] I ?_
  refine RK r<|ak<|Q1 hQ U U U ?_
  exact cB (ek A hx (by simp only [bY,eu]; omega)).symm
 refine dP 6 [0,1] (mc 0 U (mc 1 U I)) ?_
 obtain ⟨y,hy⟩:=aA ts (i-1) om
 have Fk:=bH aD.cells hy
 refine dS (IA (i-1) U (av 2 U) wL dc om om)<|dS (nQ ((i-1)*9) U (av 2 U) (Nat.mul_pos om dc) eD U) ?_
 have GT:=Ep om hy
 refine dS (gv (i-1) 0 (vI y.Id) U bV (av 2 U) Fk U dc U)<|dP 4 [] I ?_
 refine ic (t:=42) U (aN fun AO=>?_) (aO fun AO=>?_)
 ·refine kI 17 U<|cu<|RK B<|aL U<|WS fun _ O=>rP 1 [] I ?_
  refine RK O<|ak<|Q1 hQ U U U ?_
  exact cB (ek A hx (by simp only [bY,eu]; omega)).symm
 refine kI 1 U<|dS (LP (ai.cells x.jR) 0 U bV U U U)<|dS (CL (qj x.jR 1 30000) (aS) U)<|dP 3 [] I ?_
 refine ic (t:=48) U (aX fun AU=>?_) (aW fun AU=>?_)
 ·refine kI 11 U<|cu<|RK B<|aL U<|WS fun _ P=>rP 1 [] I ?_
  refine RK P<|ak<|Q1 hQ U U U ?_
  exact cB (ek A hx (by simp only [bY,eu]; omega)).symm
 refine kI 1 U<|dS (LP (ai.cells x.kQ) 0 U bV U U U)<|dS (CL (qj x.kQ 0 5000) (aS) U)<|dP 3 [] I ?_
 refine ic (t:=54) U (aX fun Ag=>?_) (aW fun Ag=>?_)
 ·refine kI 5 U<|cu<|RK B<|aL U<|WS fun _ R=>rP 1 [] I ?_
  refine RK R<|ak<|Q1 hQ U U U ?_
  exact cB (ek A hx (by simp only [bY,eu]; omega)).symm
 refine kf 2 [] (mc 0 U I) U<|dS (CL (pw x.xe 0 5000) (aS) U)<|dP 2 [] I ?_
 refine cu<|RK B<|cb U (aX fun Ax=>?_) (aW fun Ax=>?_)
 ·refine WS fun _ S=>rP 1 [] I ?_
  refine RK S<|ak<|Q1 hQ U U U ?_
  exact cB (ek A hx (by simp only [bY,eu]; omega)).symm
 refine WK F<|WS fun _ T=>dY 2 [] (mc 0 U I) U<|RK T<|ax<|WS fun _ AA=>rS (BI U ks)<|rP 1 [] I ?_
 refine RK AA<|cb U (aN fun A0=>?_) (aO fun A0=>?_)
 ·refine WS fun _ G=>rP 5 [] (mc 0 U I) ?_
  refine bS (t:=68) U (aX fun A1=>?_) (aW fun A1=>?_)
  ·refine bp 5 U<|RK G<|aL U<|WS fun _ V=>rP 1 [] I ?_
   refine RK V<|ak<|Q1 hQ U U U ?_
   exact cB (ek A hx (by simp only [bY,eu]; omega)).symm
  refine rP 5 [] (mc 0 U I) ?_
  refine RK G<|bO U (aW fun A2=>?_) (aX fun A2=>?_)
  ·refine cg<|aJ<|aJ<|KK C<|ao<|rP 3 [] I ?_
   refine aC ?_
   refine a_ (D ⟨(i+1),⟨om,ir A hx (by simp only [bY,eu]; omega),by rw [gM hx]; omega⟩⟩ _ _ _ U os (bf U) (aK [1,2]))
  refine WS fun _ W=>rP 1 [] I ?_
  refine RK W<|ak<|Q1 hQ U U U ?_
  exact cB (ek A hx (by simp only [bY,eu]; omega)).symm
 refine ag fun _ H=>WS fun _ X=>rS (BI U ks)<|rP 1 [] I ?_
 refine RK X<|cb U (aN fun A3=>?_) (aO fun A3=>?_)
 ·refine WK H<|bO U (aO fun A4=>?_) (aN fun A4=>?_)
  ·refine WS fun _ a=>rP 1 [] I ?_
   refine RK a<|ak<|Q1 hQ U U U ?_
   exact cB (oM om).symm
  refine WS fun _ Y=>bp 1 U<|rS (LP (ai.cells x.ej) 0 U bV U U U)<|rS (CL (qj x.ej 500 20000) (aS) U)<|rP 1 [] I ?_
  refine RK Y<|bO U (aW fun A5=>?_) (aX fun A5=>?_)
  ·refine cg<|aJ<|aJ<|KK C<|ao<|rP 3 [] I ?_
   refine aC ?_
   refine a_ (D ⟨(i+1),⟨om,ir A hx (by simp only [bY,eu]; omega),by rw [gM hx]; omega⟩⟩ _ _ _ U os (bf U) (aK [1,2]))
  refine WS fun _ Z=>rP 1 [] I ?_
  refine RK Z<|ak<|Q1 hQ U U U ?_
  exact cB (ek A hx (by simp only [bY,eu]; omega)).symm
 refine ao<|rS (BI U ks)<|rP 1 [] I ?_
 refine RK H<|bO U (aO fun A6=>?_) (aN fun A6=>?_)
 ·refine WS fun _ d=>rP 1 [] I ?_
  refine RK d<|ak<|Q1 hQ U U U ?_
  exact cB (ek A hx (by simp only [bY,eu]; omega)).symm
 refine WS fun _ b=>bp 1 U<|rS (LP (ai.cells x.ej) 0 U bV U U U)<|rS (CL (qj x.ej 500 20000) (aS) U)<|rP 1 [] I ?_
 refine RK b<|bO U (aW fun A7=>?_) (aX fun A7=>?_)
 ·refine cg<|aJ<|aJ<|KK C<|ao<|rP 3 [] I ?_
  refine aC ?_
  refine a_ (D ⟨(i+1),⟨om,ir A hx (by simp only [bY,eu]; omega),by rw [gM hx]; omega⟩⟩ _ _ _ U os (bf U) (aK [1,2]))
 refine WS fun _ c=>rP 1 [] I ?_
 refine RK c<|ak<|Q1 hQ U U U ?_
 exact cB (ek A hx (by simp only [bY,eu]; omega)).symm
theorem C9 (ts:List aD) (tsA:OA) (tsC:Nat) (hlen:ts.length≤1000000) (hside: ∀ x∈ts,0≤x.ja∧x.ja≤255):
 dG Tryz.prog 107 [(vA (bJ.cells (bJ.mk (bj.mk tsA ts.length tsC))))] [(rd tsA ts.length 9 (ts.map aD.cells))] (vI (if dB ts=true then 0 else 10)):=by
 refine bG kr Tryz.func107 U U fun w0 Q hQ hN=>?_
 try dsimp only
 refine WS fun _ v=>dV U fun b2=>bp 1 U<|RK v<|Ao U<|ag fun _ w=>WS fun _ y=>rP 3 [] (mc 0 U I) ?_
 refine e9 (xs:=[.tmp 11]) (cs:=[(vI (ts.length:Int))]) U dI kR U U U U (by simp [Value.cells]) U U fun b5=>?_
 refine rS (CL (dG.eq (pD 1 12 ([(ts.length:Int)]) (some ⟨b5,0,none⟩) 1 (by (simp; done))) cK) (aw (bo 0 U U (by simp [bX]) U)<|aS) U) ?_
 refine rP 1 [] I ?_
 refine RK y<|cb U (aX fun h6=>?_) (aW fun h6=>?_)
 ·refine WS fun _ AC=>rP 1 [] I ?_
  refine RK AC<|ak<|Q1 hQ U U U ?_
  exact cI (if_neg (by rw [oM om]; decide)).symm
 refine WK w<|WS fun _ AO=>bp 1 U<|RK AO<|WS fun _ AU=>bp 1 U<|RK AU<|ag fun _ J=>AA<|KK J<|ag fun _ B=>WS fun _ K=>rP 4 [] (mc 1 U I) ?_
 refine RK K<|ax ?_
 have D:(0≤ts.length)∧(fg (-1) ts=fg (gP ts 0) (ts.drop 0))∧(-1≤gP ts 0)∧(gP ts 0≤9999):=by (refine ⟨om,rfl,by simp [gP],by simp [gP]⟩)
 refine bP (ι:={z:Nat // (z≤ts.length)∧(fg (-1) ts=fg (gP ts z) (ts.drop z))∧(-1≤gP ts z)∧(gP ts z≤9999)}) [1,4,16,17] [1,2] U U (fun z=>[(3,(vI (gP ts z.1))),(18,(vI (z.1:Int)))]) (fun z=>[]) (fun _=>rfl) (fun _=>rfl) (fun z=>ts.length-z.1) ⟨0,D⟩ (bf U) (aK [1,2]) ?_
 clear D
 rintro ⟨i,⟨Ag,A,Ax,A0⟩⟩ J13 E
 try dsimp only
 refine WS fun _ L=>rP 1 [] I ?_
 refine RK L<|ag fun _ M=>bO U (aO fun k=>?_) (aN fun k=>?_)
 ·refine bM<|ab<|ab<|aF<|KK B<|WS fun _ O=>rP 2 [] I ?_
  refine RK O<|ak<|Q1 hQ U U U ?_
  exact cI (if_pos (wk A om om)).symm
 refine WK M<|ag fun _ F=>ax<|WS fun _ N=>?_
 obtain ⟨x,hx⟩:=aA ts i om
 have A1:=bH aD.cells hx
 refine rS (IA i U (av 1 U) wL dc om om) ?_
 have A5:=hside x (aP hx)
 refine rS (jL i 0 (aD.cells x) U bV (av 1 U) A1 U dc U U)<|AL U Lg fun A2=>e7 U IC U<|RK N ?_
 refine oR (ι:=Unit) [1,3,4,6,16,17,18] [0,1,2] U U (fun z=>[(7,(vB (decide (x.ja=0∧x.ej.Lo=0∧x.ej.Hi=0))))]) (fun z=>[]) (fun _=>rfl) (fun _=>rfl) ?_ fun K20 G=>?_
 ·intro _
  try dsimp only
  refine oR (ι:=Unit) [1,3,4,6,7,16,17,18] [0,1,2] U U (fun z=>[(8,(vB (decide ((1≤x.ja∧x.ja≤2)∧x.ej.Lo≤x.ej.Hi∧500≤x.ej.Lo∧x.ej.Hi≤20000))))]) (fun z=>[]) (fun _=>rfl) (fun _=>rfl) ?_ fun K21 H=>?_
  ·intro _
   try dsimp only
   refine ag fun _ AD=>WS fun _ C=>rP 4 [] (mc 0 U I) ?_
   refine e9 (xs:=[.tmp 44]) (cs:=[(vI x.Id)]) U dI kR U U U U (by simp [Value.cells]) U U fun h=>?_
   refine rS (CL (dG.eq (pD ((gP ts i)+1) 9999 ([x.Id]) (some ⟨h,0,none⟩) 1 (by (simp; done))) cK) (aw (bo 0 U U (by simp [bX]) U)<|aS) U) ?_
   refine rP 2 [] I ?_
   refine bS (t:=48) U (aX fun o=>?_) (aW fun o=>?_)
   ·refine bp 26 U<|RK C<|aL U<|WS fun _ P=>bp 1 U<|RK P<|bM<|ab<|fF U<|ab<|ab<|aF<|KK B<|WS fun _ R=>rP 2 [] I ?_
    refine RK R<|ak<|Q1 hQ U U U ?_
    exact cI (if_neg (by rw [ek A hx (by simp only [bY,eu]; omega)]; decide)).symm
   refine bp 1 U<|rS (LP (ai.cells x.jR) 1 U bV U U U)<|rS (CL (w5 x.jR 1 30000) (aS) U)<|rP 3 [] I ?_
   refine bS (t:=54) U (aX fun p=>?_) (aW fun p=>?_)
   ·refine bp 20 U<|RK C<|aL U<|WS fun _ S=>bp 1 U<|RK S<|bM<|ab<|fF U<|ab<|ab<|aF<|KK B<|WS fun _ T=>rP 2 [] I ?_
    refine RK T<|ak<|Q1 hQ U U U ?_
    exact cI (if_neg (by rw [ek A hx (by simp only [bY,eu]; omega)]; decide)).symm
   refine bp 1 U<|rS (LP (ai.cells x.kQ) 1 U bV U U U)<|rS (CL (w5 x.kQ 0 5000) (aS) U)<|rP 3 [] I ?_
   refine bS (t:=60) U (aX fun q=>?_) (aW fun q=>?_)
   ·refine bp 14 U<|RK C<|aL U<|WS fun _ AB=>bp 1 U<|RK AB<|bM<|ab<|fF U<|ab<|ab<|aF<|KK B<|WS fun _ V=>rP 2 [] I ?_
    refine RK V<|ak<|Q1 hQ U U U ?_
    exact cI (if_neg (by rw [ek A hx (by simp only [bY,eu]; omega)]; decide)).symm
   refine rP 2 [] (mc 1 U I) ?_
   refine e9 (xs:=[.tmp 62]) (cs:=[(vI x.xe)]) U dI kR U U U U (by simp [Value.cells]) U U fun j=>?_
   refine rS (CL (dG.eq (pD 0 5000 ([x.xe]) (some ⟨j,0,none⟩) 1 (by (simp; done))) cK) (aw (bo 0 U U (by simp [bX]) U)<|aS) U) ?_
   refine rP 3 [] I ?_
   refine bS (t:=67) U (aX fun r=>?_) (aW fun r=>?_)
   ·refine bp 7 U<|RK C<|aL U<|WS fun _ W=>bp 1 U<|RK W<|bM<|ab<|fF U<|ab<|ab<|aF<|KK B<|WS fun _ X=>rP 2 [] I ?_
    refine RK X<|ak<|Q1 hQ U U U ?_
    exact cI (if_neg (by rw [ek A hx (by simp only [bY,eu]; omega)]; decide)).symm
   refine rP 3 [] I ?_
   refine cx (t:=70) U (aW fun s=>?_) (aX fun s=>?_)
   ·refine bp 4 U<|RK C<|bT U<|WK AD<|ao<|dY 3 [] (mc 2 U I) U<|aC<|aJ<|KK F<|ao<|rP 2 [] I ?_
    refine aC ?_
    have f:(vI (gP ts (i+1)))=(vI x.Id):=by rw [gM hx]
    refine a_ (E ⟨(i+1),⟨om,ir A hx (by simp only [bY,eu]; omega),by rw [gM hx]; omega,by rw [gM hx]; omega⟩⟩ _ _ _ U os (cz 4<|aU U f<|bf U) (aK [3,4]))
   refine rP 4 [] I ?_
   refine RK C<|bO U (aW fun u=>?_) (aX fun u=>?_)
   ·refine WK AD<|ao<|dY 3 [] (mc 2 U I) U<|aC<|aJ<|KK F<|ao<|rP 2 [] I ?_
    refine aC ?_
    have e:(vI (gP ts (i+1)))=(vI x.Id):=by rw [gM hx]
    refine a_ (E ⟨(i+1),⟨om,ir A hx (by simp only [bY,eu]; omega),by rw [gM hx]; omega,by rw [gM hx]; omega⟩⟩ _ _ _ U os (cz 4<|aU U e<|bf U) (aK [3,4]))
   refine WS fun _ Y=>bp 1 U<|RK Y<|bM<|ab<|fF U<|ab<|ab<|aF<|KK B<|WS fun _ Z=>rP 2 [] I ?_
   refine RK Z<|ak<|Q1 hQ U U U ?_
   exact cI (if_neg (by rw [ek A hx (by simp only [bY,eu]; omega)]; decide)).symm
  refine ao<|rP 2 [] (mc 0 U I) ?_
  refine rS (SX (sK (m:=x.ja) U U N8 oV (oO (by first|assumption|omega))) U U)<|e9 (xs:=[.tmp 33]) (cs:=[(vI x.ja)]) U dI kR U U U U (by simp [Value.cells]) U U fun g=>?_
  refine rS (CL (dG.eq (pD 1 2 ([x.ja]) (some ⟨g,0,none⟩) 1 (by (simp; done))) cK) (aw (bo 0 U U (by simp [bX]) U)<|aS) U) ?_
  refine rP 1 [] I ?_
  refine cx (t:=36) U (aO fun n=>?_) (aN fun n=>?_)
  ·refine rP 5 [] I ?_
   refine aC ?_
   have d:(decide ((1≤x.ja∧x.ja≤2)∧x.ej.Lo≤x.ej.Hi∧500≤x.ej.Lo∧x.ej.Hi≤20000))=false:=br om
   refine a_ (j6 (cz 8<|oq U d<|cR.nil _) (aK [1,2,3]) (H ()))
  refine bp 1 U<|rS (LP (ai.cells x.ej) 1 U bV U U U)<|rS (CL (w5 x.ej 500 20000) (aS) U)<|rP 2 [] I ?_
  refine aC ?_
  have c:(decide ((1≤x.ja∧x.ja≤2)∧x.ej.Lo≤x.ej.Hi∧500≤x.ej.Lo∧x.ej.Hi≤20000))=(decide (x.ej.Lo≤x.ej.Hi∧500≤x.ej.Lo∧x.ej.Hi≤20000)):=gT.2 om
  refine a_ (j6 (cz 8<|oq U c<|cR.nil _) (aK [1,2,3]) (H ()))
 refine ao<|dY 2 [] (mc 0 U I) U<|rS (BI U ks)<|rP 1 [] I ?_
 refine cx (t:=25) U (aO fun l=>?_) (aN fun l=>?_)
 ·refine rP 6 [] I ?_
  refine aC ?_
  have b:(decide (x.ja=0∧x.ej.Lo=0∧x.ej.Hi=0))=false:=br om
  refine a_ (j6 (cz 7<|oq U b<|cR.nil _) (aK [0,1,2]) (G ()))
 refine bp 1 U<|rS (LP (ai.cells x.ej) 0 U bV U U U)<|rS (SX (bE (xs:=[]) (cs:=(ai.cells (ai.mk 0 0))) U U (bD g6 U)) U U)<|rS (BI U (wF _ _ x.ej (ai.mk 0 0)))<|rP 2 [] I ?_
 refine aC ?_
 have a:(decide (x.ja=0∧x.ej.Lo=0∧x.ej.Hi=0))=(decide (x.ej=(ai.mk 0 0))):=gT.2 (by (simp only [ai.ext_iff] at *; omega))
 refine a_ (j6 (cz 7<|oq U a<|cR.nil _) (aK [0,1,2]) (G ()))
theorem O0 (ts:List aD) (tsA:OA) (tsC:Nat) (hlen:ts.length≤1000000):
 lR Tryz.prog 101 [(vA (bJ.cells (bJ.mk (bj.mk tsA ts.length tsC))))] [(rd tsA ts.length 9 (ts.map aD.cells))] (fun (x:(OA)×Nat)=>(vA (bJ.cells (bJ.mk (bj.mk x.1 ts.length x.2))))) (fun (x:(OA)×Nat)=>True) (fun (x:(OA)×Nat)=>[(own x.1 x.2 128 9 (ts.map aD.cells))]):=by
 refine dL kr Tryz.func101 U U fun H Q hQ hN=>?_
 try dsimp only
 refine WS fun _ A=>dV U fun F=>AL U T3 fun G=>RK A<|WS fun _ B=>lH U wL U fun E=>rP 2 [] (mc 2 U I) ?_
 refine fy (es:=(List.map aD.cells [])) (C':=[own (some ⟨E,0,none⟩) 0 128 9 (List.map aD.cells []),_,_,_]) 0 U sm U (by simp [maxLen]) U ?_
 refine cP (es2:=(List.map aD.cells ts)) (m':=ts.length) 0 U U U TC U U sm (av 3 U) (od _) os (by (simp only [maxLen]; omega)) sm sm U fun C D=>?_
 try dsimp only
 refine rS (SX (bE (xs:=[(0,.tmp 6)]) (cs:=(bJ.cells (bJ.mk (bj.mk C ts.length D)))) U U (bD TZ U)) U U)<|pV U Rd U<|RK B<|ak<|LX hQ (C,D) [0] [0] (mc 1 U I) U U U U ?_
 trivial
theorem Pm (la:List aD) (laA:OA) (laC:Nat) (lb:List aD) (lbA:OA) (lbC:Nat) (h1:la.length≤1000000) (h2:lb.length≤1000000):
 dG Tryz.prog 87 [(vA (bJ.cells (bJ.mk (bj.mk laA la.length laC)))),(vA (bJ.cells (bJ.mk (bj.mk lbA lb.length lbC))))] [(rd laA la.length 9 (la.map aD.cells)),(rd lbA lb.length 9 (lb.map aD.cells))] (vB (decide (la=lb))):=by
 refine bG kr Tryz.func87 U U fun X Q hQ hN=>?_
 try dsimp only
 refine WS fun _ L=>dV U fun V=>dV U fun W=>bp 1 U<|RK L<|ag fun _ M=>WS fun _ N=>rP 7 [0,1] (mc 1 U (mc 0 U I)) ?_
 refine RK N<|cb U (aX fun hl=>?_) (aW fun hl=>?_)
 ·refine WS fun _ O=>rP 1 [] I ?_
  refine RK O<|ak<|Q1 hQ U U U ?_
  exact cB (br (fun e=>by subst e; omega)).symm
 refine WK M<|ag fun _ P=>WS fun _ R=>rP 1 [] I ?_
 refine RK R<|ax ?_
 have A:(0≤la.length)∧(la.take 0=lb.take 0):=by simp
 refine bP (ι:={z:Nat // (z≤la.length)∧(la.take z=lb.take z)}) [2,3] [0,1,2,3] U U (fun z=>[(5,(vI (z.1:Int)))]) (fun z=>[]) (fun _=>rfl) (fun _=>rfl) (fun z=>la.length-z.1) ⟨0,A⟩ (bf U) (aK [0,1,2,3]) ?_
 clear A
 rintro ⟨i,⟨S,B⟩⟩ J9 K
 try dsimp only
 refine ag fun _ C=>WS fun _ D=>rP 5 [] (mc 1 U I) ?_
 refine RK D<|bO U (aO fun J=>?_) (aN fun J=>?_)
 ·refine bM<|ab<|ab<|aF<|KK P<|WS fun _ H=>rP 1 [] I ?_
  refine RK H<|ak<|Q1 hQ U U U ?_
  exact cB (dC (jD om B om)).symm
 refine WK C<|ag fun _ E=>ax<|ag fun _ F=>cS cj 11 kr<|dP 3 [] (mc 1 U I) ?_
 obtain ⟨x,hx⟩:=aA la i om
 have T:=bH aD.cells hx
 refine dS (IA i U (av 2 U) wL dc om om)<|dS (jL i 0 (aD.cells x) U bV (av 2 U) T U dc U U)<|dP 3 [] (mc 0 U I) ?_
 obtain ⟨y,hy⟩:=aA lb i om
 have AA:=bH aD.cells hy
 refine dS (IA i U (av 3 U) wL dc om om)<|dS (jL i 0 (aD.cells y) U bV (av 3 U) AA U dc U U)<|dS (BI U (Qq _ _ x y))<|cu<|RK F<|cb U (aX fun h=>?_) (aW fun h=>?_)
 ·refine WS fun _ G=>rP 1 [] I ?_
  refine RK G<|ak<|Q1 hQ U U U ?_
  exact cB (br (nX hx hy h)).symm
 refine cg<|aJ<|KK E<|ao<|rP 3 [] I ?_
 refine aC ?_
 have AB:(vI (((i+1):Nat):Int))=(vI ((i:Int)+1)):=by exact cI om
 refine a_ (K ⟨(i+1),⟨om,iz B hx hy h⟩⟩ _ _ _ U os (cR.cons U<|cR.cons U<|aU U AB<|cR.nil _) (aK [0,1,2,3]))
theorem EE (la:List Int) (laA:OA) (laC:Nat) (lb:List Int) (lbA:OA) (lbC:Nat) (h1:la.length≤1000000) (h2:lb.length≤1000000):
 dG Tryz.prog 12 [(vS laA la.length laC),(vS lbA lb.length lbC)] [(rd laA la.length 1 (la.map iC)),(rd lbA lb.length 1 (lb.map iC))] (vB (decide (la=lb))):=by
 refine bG kr Tryz.func12 U U fun V Q hQ hN=>?_
 try dsimp only
 refine WS fun _ J=>bp 1 U<|RK J<|ag fun _ K=>WS fun _ L=>rP 5 [] I ?_
 refine RK L<|cb U (aX fun hl=>?_) (aW fun hl=>?_)
 ·refine WS fun _ M=>rP 1 [] I ?_
  refine RK M<|ak<|Q1 hQ U U U ?_
  exact cB (br (fun e=>by subst e; omega)).symm
 refine WK K<|ag fun _ N=>WS fun _ O=>rP 1 [] I ?_
 refine RK O<|ax ?_
 have A:(0≤la.length)∧(la.take 0=lb.take 0):=by simp
 refine bP (ι:={z:Nat // (z≤la.length)∧(la.take z=lb.take z)}) [0,1] [0,1] U U (fun z=>[(5,(vI (z.1:Int)))]) (fun z=>[]) (fun _=>rfl) (fun _=>rfl) (fun z=>la.length-z.1) ⟨0,A⟩ (bf U) (aK [0,1]) ?_
 clear A
 rintro ⟨i,⟨S,B⟩⟩ J7 AB
 try dsimp only
 refine ag fun _ P=>WS fun _ R=>rP 4 [] I ?_
 refine RK R<|bO U (aO fun H=>?_) (aN fun H=>?_)
 ·refine bM<|ab<|ab<|aF<|KK N<|WS fun _ F=>rP 1 [] I ?_
  refine RK F<|ak<|Q1 hQ U U U ?_
  exact cB (dC (jD om B om)).symm
 refine WK P<|ag fun _ C=>ax<|ag fun _ D=>cS cj 9 kr<|dP 2 [] I ?_
 obtain ⟨x,hx⟩:=aA la i om
 have T:=bH iC hx
 refine dS (IA i U (av 0 U) dI dc om om)<|dS (gv i 0 (vI x) U bV (av 0 U) T U dc U)<|dP 2 [] I ?_
 obtain ⟨y,hy⟩:=aA lb i om
 have AA:=bH iC hy
 refine dS (IA i U (av 1 U) dI dc om om)<|dS (gv i 0 (vI y) U bV (av 1 U) AA U dc U)<|dP 1 [] I ?_
 refine cu<|RK D<|cb U (aX fun h=>?_) (aW fun h=>?_)
 ·refine WS fun _ E=>rP 1 [] I ?_
  refine RK E<|ak<|Q1 hQ U U U ?_
  exact cB (br (nX hx hy h)).symm
 refine cg<|aJ<|KK C<|ao<|rP 3 [] I ?_
 refine aC ?_
 have G:(vI (((i+1):Nat):Int))=(vI ((i:Int)+1)):=by exact cI om
 refine a_ (AB ⟨(i+1),⟨om,iz B hx hy h⟩⟩ _ _ _ U os (cR.cons U<|cR.cons U<|aU U G<|cR.nil _) (aK [0,1]))
end
section
open Go.RowKit
theorem LQ (l:bq) (kA:OA) (kC:Nat) (az:List RA) (cA:OA) (cC:Nat) (bA:OA) (bC:Nat) (m:bq) (k2A:OA) (k2C:Nat) (az2:List RA) (c2A:OA) (c2C:Nat) (b2A:OA) (b2C:Nat) (hin:ed l az) (hin2:ed m az2) (hsm: ¬ lh l) (hsm2: ¬ lh m):
 dG Tryz.prog 57 [(vA (bW.cells (jx l kA kC cA cC bA bC))),(vA (bW.cells (bW.mk (bJ.mk (bj.mk k2A m.bL.length k2C)) m.gl (bj.mk c2A m.aG.length c2C) (bj.mk b2A m.aj.length b2C) m.bU m.ew m.cU)))] ((o7 l kA az cA bA)++[(rd k2A m.bL.length 9 (m.bL.map aD.cells)),(rd c2A m.aG.length 2 (List.zipWith aT.cells m.aG az2)),(iH (bK aT.jU m.aG az2)),(rd b2A m.aj.length 4 (m.aj.map cO.cells))]) (vB (decide (l=m))):=by
 have J4:=hin.qI
 have J3:=hin.qG
 have Jk:=hin.lS
 have J2:=hin.qD
 have In:=hin2.qI
 have If:=hin2.qG
 have IR:=hin2.lS
 have Id:=hin2.qD
 have B3:=u6 hsm
 have h:=u6 hsm2
 refine bG kr Tryz.func57 U U fun w0 Q hQ hN=>?_
 try dsimp only
 refine WS fun _ Do=>dV U fun b2=>dV U fun b3=>bp 1 U<|RK Do<|ag fun _ EQ=>WS fun _ F=>bp 1 U<|rS (LP (bJ.cells (bJ.mk (bj.mk kA l.bL.length kC))) 1 U bV U U U)<|bp 1 U<|rS (LP (bJ.cells (bJ.mk (bj.mk k2A m.bL.length k2C))) 0 U bV U U U)<|rS (CL (Pm l.bL kA kC m.bL k2A k2C asm asm) (aY [2,6]) U)<|rP 2 [] I ?_
 refine bS (t:=16) U (aX fun D=>?_) (aW fun D=>?_)
 ·refine bp 45 U<|RK F<|aL U<|WS fun _ Eq=>rP 1 [] I ?_
  refine RK Eq<|ak<|Q1 hQ U U U ?_
  exact cB (br (fun e=>by subst e; first|exact D rfl|omega)).symm
 refine rP 7 [0,1] (mc 1 U (mc 0 U I)) ?_
 refine bS (t:=23) U (aX fun Cp=>?_) (aW fun Cp=>?_)
 ·refine bp 38 U<|RK F<|aL U<|WS fun _ FS=>rP 1 [] I ?_
  refine RK FS<|ak<|Q1 hQ U U U ?_
  exact cB (br (fun e=>by subst e; first|exact D rfl|omega)).symm
 refine rP 7 [0,1] (mc 1 U (mc 0 U I)) ?_
 refine bS (t:=30) U (aX fun Cx=>?_) (aW fun Cx=>?_)
 ·refine bp 31 U<|RK F<|aL U<|WS fun _ Fd=>rP 1 [] I ?_
  refine RK Fd<|ak<|Q1 hQ U U U ?_
  exact cB (br (fun e=>by subst e; first|exact D rfl|omega)).symm
 refine rP 7 [0,1] (mc 1 U (mc 0 U I)) ?_
 refine bS (t:=37) U (aX fun C0=>?_) (aW fun C0=>?_)
 ·refine bp 24 U<|RK F<|aL U<|WS fun _ Fk=>rP 1 [] I ?_
  refine RK Fk<|ak<|Q1 hQ U U U ?_
  exact cB (br (fun e=>by subst e; first|exact D rfl|omega)).symm
 refine rP 7 [0,1] (mc 1 U (mc 0 U I)) ?_
 refine bS (t:=44) U (aX fun C1=>?_) (aW fun C1=>?_)
 ·refine bp 17 U<|RK F<|aL U<|WS fun _ AC=>rP 1 [] I ?_
  refine RK AC<|ak<|Q1 hQ U U U ?_
  exact cB (br (fun e=>by subst e; first|exact D rfl|omega)).symm
 refine rP 9 [0,1] (mc 1 U (mc 0 U I)) ?_
 refine bS (t:=53) U (aX fun C3=>?_) (aW fun C3=>?_)
 ·refine bp 8 U<|RK F<|aL U<|WS fun _ AO=>rP 1 [] I ?_
  refine RK AO<|ak<|Q1 hQ U U U ?_
  exact cB (br (fun e=>by subst e; first|exact D rfl|omega)).symm
 refine rP 8 [0,1] (mc 1 U (mc 0 U I)) ?_
 refine RK F<|cb U (aX fun Di=>?_) (aW fun Di=>?_)
 ·refine WS fun _ AU=>rP 1 [] I ?_
  refine RK AU<|ak<|Q1 hQ U U U ?_
  exact cB (br (fun e=>by subst e; first|exact D rfl|omega)).symm
 refine WK EQ<|ag fun _ Ag=>WS fun _ Ax=>rP 1 [] I ?_
 refine RK Ax<|ax ?_
 have A:(0≤l.aG.length)∧(l.aG.take 0=m.aG.take 0):=by simp
 refine bP (ι:={z:Nat // (z≤l.aG.length)∧(l.aG.take z=m.aG.take z)}) [2,3] [0,1,2,3,4,5,6,7,8,9] U U (fun z=>[(5,(vI (z.1:Int)))]) (fun z=>[]) (fun _=>rfl) (fun _=>rfl) (fun z=>l.aG.length-z.1) ⟨0,A⟩ (bf U) (aK [0,1,2,3,4,5,6,7,8,9]) ?_
 clear A
 rintro ⟨i,⟨Fn,G⟩⟩ J15 d
 try dsimp only
 refine ag fun _ A0=>WS fun _ A1=>rP 5 [] (mc 1 U I) ?_
 refine RK A1<|bO U (aO fun Ck=>?_) (aN fun Ck=>?_)
 ·refine bM<|ab<|ab<|aF<|KK Ag<|ag fun _ A2=>WS fun _ A3=>rP 1 [] I ?_
  refine RK A3<|ax ?_
  have A:(0≤l.aj.length)∧(l.aj.take 0=m.aj.take 0):=by simp
  refine bP (ι:={z:Nat // (z≤l.aj.length)∧(l.aj.take z=m.aj.take z)}) [2,3] [0,1,2,3,4,5,6,7,8,9] U U (fun z=>[(9,(vI (z.1:Int)))]) (fun z=>[]) (fun _=>rfl) (fun _=>rfl) (fun z=>l.aj.length-z.1) ⟨0,A⟩ (bf U) (aK [0,1,2,3,4,5,6,7,8,9]) ?_
  clear A
  rintro ⟨n,⟨B9,H⟩⟩ J43 w
  try dsimp only
  refine ag fun _ A4=>WS fun _ A5=>rP 5 [] (mc 1 U I) ?_
  refine RK A5<|bO U (aO fun C2=>?_) (aN fun C2=>?_)
  ·refine bM<|ab<|ab<|aF<|KK A2<|WS fun _ A9=>rP 1 [] I ?_
   refine RK A9<|ak<|Q1 hQ U U U ?_
   exact cB (dC (HE D om om om om (jD om G om) (jD om H om))).symm
  refine WK A4<|ag fun _ A6=>ax<|ag fun _ A7=>cS cj 11 kr<|dP 3 [] (mc 1 U I) ?_
  obtain ⟨p,hp⟩:=aA l.aj n om
  have GE:=bH cO.cells hp
  refine dS (IA n U (av 5 U) uv dc om om)<|dS (jL n 0 (cO.cells p) U bV (av 5 U) GE U dc U U)<|dP 3 [] (mc 0 U I) ?_
  obtain ⟨q,hq⟩:=aA m.aj n om
  have GT:=bH cO.cells hq
  refine dS (IA n U (av 9 U) uv dc om om)<|dS (jL n 0 (cO.cells q) U bV (av 9 U) GT U dc U U)<|dS (BI U (Qu _ _ p q))<|cu<|RK A7<|bO U (aW fun AB=>?_) (aX fun AB=>?_)
  ·refine cg<|aJ<|KK A6<|ao<|rP 3 [] I ?_
   refine aC ?_
   have Ba:(vI (((n+1):Nat):Int))=(vI ((n:Int)+1)):=by exact cI om
   refine a_ (w ⟨(n+1),⟨om,iz H hp hq AB⟩⟩ _ _ _ U os (cR.cons U<|cR.cons U<|aU U Ba<|cR.nil _) (aK [0,1,2,3,4,5,6,7,8,9]))
  refine WS fun _ A8=>rP 1 [] I ?_
  refine RK A8<|ak<|Q1 hQ U U U ?_
  exact cB (br (fun e=>by subst e; rw [hp] at hq; cases hq; exact AB rfl)).symm
 refine WK A0<|ag fun _ f=>ax<|ag fun _ g=>mO cj [0,1,2,3,4,5,6,7,8,9] [10,11,12,13] [false,false,false,false,false,false,false,false,false,false] [] [(cy b3 28 (bW.cells (bW.mk (bJ.mk (bj.mk k2A m.bL.length k2C)) m.gl (bj.mk c2A m.aG.length c2C) (bj.mk b2A m.aj.length b2C) m.bU m.ew m.cU))),(cy b2 28 (bW.cells (jx l kA kC cA cC bA bC))),(rd kA l.bL.length 9 (l.bL.map aD.cells)).ro,(rd cA l.aG.length 2 (List.zipWith aT.cells l.aG az)).ro,(iH (bK aT.jU l.aG az)).ro,(rd bA l.aj.length 4 (l.aj.map cO.cells)).ro,(rd k2A m.bL.length 9 (m.bL.map aD.cells)).ro,(rd c2A m.aG.length 2 (List.zipWith aT.cells m.aG az2)).ro,(iH (bK aT.jU m.aG az2)).ro,(rd b2A m.aj.length 4 (m.aj.map cO.cells)).ro] [] kr (aK [0,1,2,3,4,5,6,7,8,9]) (aK [])<|eS U (FA 2 U eD U)<|eS U (L1 (vS cA l.aG.length cC) 1 U bV U U)<|eS U (MV U) ?_
 obtain ⟨x,hx⟩:=aA l.aG i om
 obtain ⟨xa,a⟩:=aA az i om
 have Hi:(List.zipWith aT.cells l.aG az)[i]? =some (aT.cells x xa):=cG hx a
 refine eS U (IA i U (av 3 U) vq dc om om)<|eS U (jL i 0 (dE.cells (dE.mk x.dA (bj.mk xa.1 x.bk.length xa.2))) U bV (av 3 U) Hi U dc U U)<|eS U (FA 2 U eD U)<|eS U (L1 (vS c2A m.aG.length c2C) 0 U bV U U)<|eS U (MV U) ?_
 obtain ⟨y,hy⟩:=aA m.aG i om
 obtain ⟨ya,b⟩:=aA az2 i om
 have IO:(List.zipWith aT.cells m.aG az2)[i]? =some (aT.cells y ya):=cG hy b
 refine eS U (IA i U (av 7 U) vq dc om om)<|eS U (jL i 0 (dE.cells (dE.mk y.dA (bj.mk ya.1 y.bk.length ya.2))) U bV (av 7 U) IO U dc U U)<|eg U<|mG [10,11] kr (iF ?_<|iF ?_<|pL)
 rotate_left 1
 ·refine NO U U [10,12,13] fun T21 AA=>AL U zC fun CB=>RD AA 1 U<|N1 10<|NO U U [12,13] fun T23 V=>AL U zC fun Ci=>RD V 2 U<|N1 12<|NO U U [13] fun T25 W=>e7 U zI U<|RD W 2 U<|N1 13<|NO U U [] fun T26 X=>pV U zI U<|RD X 2 U<|lK<|KK g<|ag fun _ K=>WS fun _ E=>rP 6 [0,1] (mc 0 U (mc 1 U I)) ?_
  refine bS (t:=84) U (aX fun o=>?_) (aW fun o=>?_)
  ·refine bp 8 U<|RK E<|aL U<|WS fun _ L=>rP 1 [] I ?_
   refine RK L<|ak<|Q1 hQ U U U ?_
   exact cB (br (fun e=>by subst e; rw [hx] at hy; cases hy; omega)).symm
  refine rP 8 [0,1] (mc 0 U (mc 1 U I)) ?_
  refine RK E<|cb U (aX fun r=>?_) (aW fun r=>?_)
  ·refine WS fun _ M=>rP 1 [] I ?_
   refine RK M<|ak<|Q1 hQ U U U ?_
   exact cB (br (fun e=>by subst e; rw [hx] at hy; cases hy; omega)).symm
  refine WK K<|WS fun _ N=>rP 1 [] I ?_
  refine RK N<|ax ?_
  have A:(0≤x.bk.length)∧(x.bk.take 0=y.bk.take 0):=by simp
  refine bP (ι:={z:Nat // (z≤x.bk.length)∧(x.bk.take z=y.bk.take z)}) [2,3,5,6,7] [0,1,2,3,4,5,6,7,8,9,10,11] U U (fun z=>[(8,(vI (z.1:Int)))]) (fun z=>[]) (fun _=>rfl) (fun _=>rfl) (fun z=>x.bk.length-z.1) ⟨0,A⟩ (bf U) (aK [0,1,2,3,4,5,6,7,8,9,10,11]) ?_
  clear A
  rintro ⟨k,⟨c,B⟩⟩ J32 J
  try dsimp only
  have Go:=B3.2.2.2 x (aP hx)
  have H1:=h.2.2.2 y (aP hy)
  refine ag fun _ O=>WS fun _ P=>rP 5 [] (mc 0 U I) ?_
  refine RK P<|bO U (aO fun j=>?_) (aN fun j=>?_)
  ·refine bM<|ab<|ab<|aF<|aJ<|KK f<|ao<|rP 3 [] I ?_
   refine aC ?_
   have Z:(vI (((i+1):Nat):Int))=(vI ((i:Int)+1)):=by exact cI om
   refine a_ (d ⟨(i+1),⟨om,iz G hx hy (yL om om om B)⟩⟩ _ _ _ U os (cR.cons U<|cR.cons U<|aU U Z<|cR.nil _) (aK [2,3,4,5,6,7,8,9,10,11]))
  refine WK O<|ag fun _ R=>ax<|ag fun _ S=>cS cj 11 kr<|dP 3 [] (mc 0 U I) ?_
  obtain ⟨z,hz⟩:=aA x.bk k om
  have v:=bH cE.cells hz
  refine dS (IA k U (show g9 _ (rd xa.1 x.bk.length 3 (x.bk.map cE.cells)).holds from (cd 6 U (bB hx a (by simp [aT.jU])))) oo dc om om)<|dS (jL k 0 (cE.cells z) U bV (show g9 _ (rd xa.1 x.bk.length 3 (x.bk.map cE.cells)).holds from (cd 6 U (bB hx a (by simp [aT.jU])))) v U dc U U)<|dP 3 [] (mc 1 U I) ?_
  obtain ⟨u,hu⟩:=aA y.bk k om
  have s:=bH cE.cells hu
  refine dS (IA k U (show g9 _ (rd ya.1 y.bk.length 3 (y.bk.map cE.cells)).holds from (cd 10 U (bB hy b (by simp [aT.jU])))) oo dc om om)<|dS (jL k 0 (cE.cells u) U bV (show g9 _ (rd ya.1 y.bk.length 3 (y.bk.map cE.cells)).holds from (cd 10 U (bB hy b (by simp [aT.jU])))) s U dc U U)<|dS (BI U (KB _ _ z u))<|cu<|RK S<|bO U (aW fun C=>?_) (aX fun C=>?_)
  ·refine cg<|aJ<|KK R<|ao<|rP 3 [] I ?_
   refine aC ?_
   have Y:(vI (((k+1):Nat):Int))=(vI ((k:Int)+1)):=by exact cI om
   refine a_ (J ⟨(k+1),⟨om,iz B hz hu C⟩⟩ _ _ _ U os (cz 5<|aU U Y<|cR.nil _) (aK [0,1,2,3,4,5,6,7,8,9,10,11]))
  refine WS fun _ T=>rP 1 [] I ?_
  refine RK T<|ak<|Q1 hQ U U U ?_
  exact cB (br (fun e=>by subst e; rw [hx] at hy; cases hy; (rw [hz] at hu; cases hu; exact C rfl))).symm
 refine NO U U [11,12,13] fun T21 AA=>AL U zC fun CB=>RD AA 1 U<|N1 11<|NO U U [12,13] fun T23 V=>AL U zC fun Ci=>RD V 2 U<|N1 12<|NO U U [13] fun T25 W=>pV U zI U<|RD W 2 U<|N1 13<|NO U U [] fun T26 X=>e7 U zI U<|RD X 2 U<|lK<|KK g<|ag fun _ K=>WS fun _ E=>rP 6 [0,1] (mc 1 U (mc 0 U I)) ?_
 refine bS (t:=84) U (aX fun o=>?_) (aW fun o=>?_)
 ·refine bp 8 U<|RK E<|aL U<|WS fun _ L=>rP 1 [] I ?_
  refine RK L<|ak<|Q1 hQ U U U ?_
  exact cB (br (fun e=>by subst e; rw [hx] at hy; cases hy; omega)).symm
 refine rP 8 [0,1] (mc 1 U (mc 0 U I)) ?_
 refine RK E<|cb U (aX fun r=>?_) (aW fun r=>?_)
 ·refine WS fun _ M=>rP 1 [] I ?_
  refine RK M<|ak<|Q1 hQ U U U ?_
  exact cB (br (fun e=>by subst e; rw [hx] at hy; cases hy; omega)).symm
 refine WK K<|WS fun _ N=>rP 1 [] I ?_
 refine RK N<|ax ?_
 have A:(0≤x.bk.length)∧(x.bk.take 0=y.bk.take 0):=by simp
 refine bP (ι:={z:Nat // (z≤x.bk.length)∧(x.bk.take z=y.bk.take z)}) [2,3,5,6,7] [0,1,2,3,4,5,6,7,8,9,10,11] U U (fun z=>[(8,(vI (z.1:Int)))]) (fun z=>[]) (fun _=>rfl) (fun _=>rfl) (fun z=>x.bk.length-z.1) ⟨0,A⟩ (bf U) (aK [0,1,2,3,4,5,6,7,8,9,10,11]) ?_
 clear A
 rintro ⟨k,⟨c,B⟩⟩ J32 J
 try dsimp only
 have Go:=B3.2.2.2 x (aP hx)
 have H1:=h.2.2.2 y (aP hy)
 refine ag fun _ O=>WS fun _ P=>rP 5 [] (mc 1 U I) ?_
 refine RK P<|bO U (aO fun j=>?_) (aN fun j=>?_)
 ·refine bM<|ab<|ab<|aF<|aJ<|KK f<|ao<|rP 3 [] I ?_
  refine aC ?_
  have Z:(vI (((i+1):Nat):Int))=(vI ((i:Int)+1)):=by exact cI om
  refine a_ (d ⟨(i+1),⟨om,iz G hx hy (yL om om om B)⟩⟩ _ _ _ U os (cR.cons U<|cR.cons U<|aU U Z<|cR.nil _) (aK [2,3,4,5,6,7,8,9,10,11]))
 refine WK O<|ag fun _ R=>ax<|ag fun _ S=>cS cj 11 kr<|dP 3 [] (mc 1 U I) ?_
 obtain ⟨z,hz⟩:=aA x.bk k om
 have v:=bH cE.cells hz
 refine dS (IA k U (show g9 _ (rd xa.1 x.bk.length 3 (x.bk.map cE.cells)).holds from (cd 6 U (bB hx a (by simp [aT.jU])))) oo dc om om)<|dS (jL k 0 (cE.cells z) U bV (show g9 _ (rd xa.1 x.bk.length 3 (x.bk.map cE.cells)).holds from (cd 6 U (bB hx a (by simp [aT.jU])))) v U dc U U)<|dP 3 [] (mc 0 U I) ?_
 obtain ⟨u,hu⟩:=aA y.bk k om
 have s:=bH cE.cells hu
 refine dS (IA k U (show g9 _ (rd ya.1 y.bk.length 3 (y.bk.map cE.cells)).holds from (cd 10 U (bB hy b (by simp [aT.jU])))) oo dc om om)<|dS (jL k 0 (cE.cells u) U bV (show g9 _ (rd ya.1 y.bk.length 3 (y.bk.map cE.cells)).holds from (cd 10 U (bB hy b (by simp [aT.jU])))) s U dc U U)<|dS (BI U (KB _ _ z u))<|cu<|RK S<|bO U (aW fun C=>?_) (aX fun C=>?_)
 ·refine cg<|aJ<|KK R<|ao<|rP 3 [] I ?_
  refine aC ?_
  have Y:(vI (((k+1):Nat):Int))=(vI ((k:Int)+1)):=by exact cI om
  refine a_ (J ⟨(k+1),⟨om,iz B hz hu C⟩⟩ _ _ _ U os (cz 5<|aU U Y<|cR.nil _) (aK [0,1,2,3,4,5,6,7,8,9,10,11]))
 refine WS fun _ T=>rP 1 [] I ?_
 refine RK T<|ak<|Q1 hQ U U U ?_
 exact cB (br (fun e=>by subst e; rw [hx] at hy; cases hy; (rw [hz] at hu; cases hu; exact C rfl))).symm
end
section
variable {w w':cq}
theorem BM {k:Int}:k∈lY w↔ ∃ i:Nat,k=(i:Int)∧i≤w.n∧lq w (pW w i)=true:=by
 unfold lY iT
 simp only [db,List.mem_filter,List.mem_range]
 constructor
 ·rintro ⟨i,⟨B,A⟩,rfl⟩; exact ⟨i,rfl,om,A⟩
 ·rintro ⟨i,rfl,B,A⟩; exact ⟨i,⟨om,A⟩,rfl⟩
variable {l l':bq} {r r':cQ}
theorem Hf {b:Nat} (hb:b<l.aj.length):fq l r (fQ l b)=fq l r 0:=by rw [mV om]
theorem G4 {b:Nat}:cY (di l r) b=if b<l.aj.length then eH l b else 0:=by
 unfold cY di cp
 split
 ·rename_i h
  simp [h]
 ·rename_i h
  simp [h]
theorem HA {sg:List aH} {i:Nat} (h:i=0):mj sg i=⟨-1,0⟩:=by subst h; rfl
theorem sf {sg:List aH} {i:Nat} {y:aH} (h:0<i) (hy:sg[i-1]? =some y):mj sg i=y:=by unfold mj; rw [if_neg om,hy]; rfl
end
section
/-- where a sled may be after k beams more -/
def lD (w:cq):Nat→Nat→aQ×Int→List (aQ×Int)
 |0,_,p=>[p]
 |k+1,b,p=>(jZ w b).flatMap fun o=>match nt w b p o with
  |some q=>lD w k (b+1) q
  |none=>[]
variable {w:cq}
theorem pO {k b:Nat} {p q:aQ×Int}:q∈lD w (k+1) b p↔ ∃ o∈jZ w b,∃ p',nt w b p o=some p'∧q∈lD w k (b+1) p':=by
 simp only [lD,List.mem_flatMap]
 constructor
 ·rintro ⟨o,ho,h⟩
  cases e:nt w b p o with
  |none=>rw [e] at h; cases h
  |some p'=>rw [e] at h; exact ⟨o,ho,p',e,h⟩
 ·rintro ⟨o,ho,p',e,h⟩
  exact ⟨o,ho,by rw [e]; exact h⟩
theorem z7: ∀ (k b:Nat) (q:aQ×Int),q∈pW w (b+k)↔ ∃ p∈pW w b,q∈lD w k b p:=by
 intro k
 induction k with
 |zero=>
  intro b q
  simp only [Nat.add_zero,lD,cH]
  exact ⟨fun h=>⟨q,h,rfl⟩,fun ⟨p,hp,e⟩=>e▸hp⟩
 |succ k ih=>
  intro b q
  rw [show b+(k+1)=(b+1)+k by omega,ih]
  constructor
  ·rintro ⟨p',hp',h⟩
   obtain ⟨p,hp,o,ho,e⟩:=kG.1 hp'
   exact ⟨p,hp,pO.2 ⟨o,ho,p',e,h⟩⟩
  ·rintro ⟨p,hp,h⟩
   obtain ⟨o,ho,p',e,h'⟩:=pO.1 h
   exact ⟨p',kG.2 ⟨p,hp,o,ho,e⟩,h'⟩
theorem sE {b:Nat} {p q:aQ×Int} {o:Int×ai}:nt w b p o=some q↔max (p.2+cY w b) o.2.Lo≤min o.2.Hi w.gL∧q=(dR p.1 (gF o.1),max (p.2+cY w b) o.2.Lo):=by
 unfold nt
 split
 ·rename_i h
  constructor
  ·intro e; cases e; exact ⟨h,rfl⟩
  ·rintro ⟨_,rfl⟩; rfl
 ·rename_i h
  constructor
  ·intro e; cases e
  ·rintro ⟨h',_⟩; exact absurd h' h
theorem vu {b:Nat} {p q:aQ×Int} {o:Int×ai}:pJ w b p o=some q↔o.2.Lo≤min p.2 o.2.Hi∧q=(dR p.1 (gF o.1),min p.2 o.2.Hi-cY w b):=by
 unfold pJ
 split
 ·rename_i h
  constructor
  ·intro e; cases e; exact ⟨h,rfl⟩
  ·rintro ⟨_,rfl⟩; rfl
 ·rename_i h
  constructor
  ·intro e; cases e
  ·rintro ⟨h',_⟩; exact absurd h' h
theorem He {b:Nat} (hb:b≤w.n):((⟨0,0⟩:aQ),w.gL)∈back w b:=by
 rcases Nat.lt_or_ge b w.n with h|h
 ·exact (ph h).2 (.inl U)
 ·rw [vt h]; simp
theorem nI (t:aQ):dR t ⟨0,0⟩=t:=by cases t; simp [dR]
theorem zD (a o u:aQ):dR (dR a o) u=dR a (dR u o):=by simp only [dR,aQ.mk.injEq]; omega
theorem Fg (hl: ∀ b,0≤cY w b): ∀ (k:Nat) (u:aQ×Int),u∈NW w k→u.2≤w.gL:=by
 intro k
 induction k with
 |zero=>intro u hu; simp only [NW,cH] at hu; subst hu; exact Int.le_refl _
 |succ k ih=>
  intro u hu
  simp only [NW,cm,List.mem_flatMap,List.mem_filterMap] at hu
  rcases hu with rfl|⟨p,hp,o,ho,e⟩
  ·exact Int.le_refl _
  ·obtain ⟨_,rfl⟩:=vu.1 e
   have:=ih p hp
   have:=hl (w.n-(k+1))
   simp only; omega
/-- what follows a passing is told by the way back -/
theorem NI: ∀ (k b:Nat) (p q:aQ×Int),b+k≤w.n→p.2≤w.gL→q∈lD w k b p→ ∃ u∈back w b,p.2≤u.2∧q.1=dR p.1 u.1:=by
 intro k
 induction k with
 |zero=>
  intro b p q hb hp hq
  simp only [lD,cH] at hq
  subst hq
  exact ⟨_,He om,hp,(nI _).symm⟩
 |succ k ih=>
  intro b p q hb hp hq
  obtain ⟨o,ho,p',e,h⟩:=pO.1 hq
  obtain ⟨C,rfl⟩:=sE.1 e
  obtain ⟨u',hu',B,A⟩:=ih (b+1) _ q om (by simp only; omega) h
  simp only at B A
  refine ⟨(dR u'.1 (gF o.1),min u'.2 o.2.Hi-cY w b),(ph om).2 (.inr ⟨u',hu',o,ho,vu.2 ⟨om,U⟩⟩),by simp only; omega,?_⟩
  rw [A,zD]
theorem Jh (hl: ∀ b,0≤cY w b): ∀ (d b:Nat) (p u:aQ×Int),w.n=b+d→p.2≤u.2→u∈back w b→ ∃ k,b+k≤w.n∧ ∃ q∈lD w k b p,q.1=dR p.1 u.1:=by
 intro d
 induction d with
 |zero=>
  intro b p u hd hp hu
  rw [vt om] at hu
  simp only [cH] at hu
  subst hu
  exact ⟨0,om,p,by simp [lD],(nI _).symm⟩
 |succ d ih=>
  intro b p u hd hp hu
  rcases (ph om).1 hu with rfl|⟨u',hu',o,ho,e⟩
  ·exact ⟨0,om,p,by simp [lD],(nI _).symm⟩
  ·obtain ⟨B,rfl⟩:=vu.1 e
   have hn:u'.2≤w.gL:=Fg hl _ _ hu'
   simp only at hp
   obtain ⟨k,hk,q,hq,A⟩:=ih (b+1) (dR p.1 (gF o.1),max (p.2+cY w b) o.2.Lo) u' om (by simp only; omega) hu'
   refine ⟨k+1,om,q,pO.2 ⟨o,ho,_,sE.2 ⟨om,U⟩,hq⟩,?_⟩
   rw [A]; simp only; rw [zD]
end
section
section
variable {l:bq} {r:cQ} {one at_:Int} {d:Nat} {f g m:Int} {rec:Int→Int→Int→Bool} {i:Int}
end
theorem vX {l:bq} {r:cQ} {d:Nat} (hd:d<l.aj.length) {o:Int×ai}:o∈jZ (di l r) d↔o=(-1,⟨r.Start,r.gL⟩)∨ ∃ k,k<r.aa.length∧ ∃ s,r.aa[k]? =some s∧(s.fI=(d:Int)∧(dq l s).Lo≤(dq l s).Hi)∧o=((k:Int),dq l s):=by
 unfold jZ wW
 show o∈(-1,(⟨r.Start,r.gL⟩:ai))::((cM l r.aa r.aa.length)[d]?).getD []↔_
 rw [pt hd,Option.getD_some,cm,tF]
theorem qv {l:bq} {r:cQ} {d:Nat} (hd:d<l.aj.length):cY (di l r) d=eH l d:=by rw [G4,if_pos hd]
theorem v7 {l:bq} {n d:Nat} {y:Int} (h:(cp l n)[d]? =some y):y=eH l d:=by
 unfold cp at h
 rw [f_] at h
 have hd:d<n:=by
  rcases Nat.lt_or_ge d n with q|q
  ·exact q
  ·rw [List.getElem?_eq_none (by simpa using q)] at h; cases h
 rw [List.getElem?_range hd] at h
 exact (Option.some.inj h).symm
end
section
/-- a truth goes on from here -/
def UC (w:cq) (b:Nat) (p:aQ×Int):Prop:= ∃ k,b+k≤w.n∧ ∃ q∈lD w k b p,nk w q.1=true
section
variable {w:cq}
/-- a beam is passed at a time, by a signal -/
def Ll (w:cq) (b:Nat) (s t:Int):Prop:= ∃ p∈pW w b,∃ o∈jZ w b,o.1=s∧(max (p.2+cY w b) o.2.Lo≤t∧t≤min o.2.Hi w.gL)∧UC w (b+1) (dR p.1 (gF o.1),t)
theorem LS (hl: ∀ b,0≤cY w b) {b:Nat} (hb:b<w.n) {s t:Int}:(∃ q∈te w b,q.1=s∧q.2.Lo≤t∧t≤q.2.Hi)↔Ll w b s t:=by
 constructor
 ·rintro ⟨q,hq,hs,C,D⟩
  obtain ⟨o,ho,p,hp,u,hu,e⟩:=jF.1 hq
  obtain ⟨B,A,rfl⟩:=lj.1 e
  simp only [lE] at C D B
  have hn:u.2≤w.gL:=Fg hl _ _ hu
  obtain ⟨k,hk,q,hq',E⟩:=Jh hl (w.n-(b+1)) (b+1) (dR p.1 (gF o.1),t) u om (by simp only; omega) hu
  refine ⟨p,hp,o,ho,hs,⟨om,om⟩,k,hk,q,hq',?_⟩
  rw [E]
  unfold zX at A
  rw [show dR (dR p.1 (gF o.1)) u.1=dR (dR p.1 u.1) (gF o.1) by simp only [dR,aQ.mk.injEq]; omega]
  exact A
 ·rintro ⟨p,hp,o,ho,hs,⟨C,D⟩,k,hk,q,hq,hm⟩
  obtain ⟨u,hu,B,A⟩:=NI k (b+1) _ q hk (by simp only; omega) hq
  simp only at B A
  refine ⟨(o.1,lE w b p u o),jF.2 ⟨o,ho,p,hp,u,hu,lj.2 ⟨by simp only [lE]; omega,?_,U⟩⟩,hs,by simp only [lE]; omega,by simp only [lE]; omega⟩
  unfold zX
  rw [A] at hm
  rw [show dR (dR p.1 u.1) (gF o.1)=dR (dR p.1 (gF o.1)) u.1 by simp only [dR,aQ.mk.injEq]; omega]
  exact hm
end
section
variable {w w':cq} {n:Int} {f g:Int→Int}
end
section
variable {l l':bq} {r r':cQ} {n:Int} {f g:Int→Int}
end
end
section
theorem nG {l:bq} (ht:dB l.bL=true) (h:mH l) {i:Nat} (hi:i<l.aj.length):1≤eH l i∧eH l i≤500000000:=by
 have A:=h.P3 i hi
 have B:=CE ht h.v_ i
 have hf:=h.head.1
 unfold eH o_
 refine ⟨(Int.le_ediv_iff_mul_le om).2 om,?_⟩
 have:(1000*mN l i+l.gl-1)/l.gl≤1000*mN l i+l.gl-1:=Int.ediv_le_self _ om
 omega
end
section
def dN (good:List Int):aQ:=good.foldl (fun t g=>dR t (gF g)) ⟨0,0⟩
theorem oJ {l:List Int} {g:Int}:dN (l++[g])=dR (dN l) (gF g):=by unfold dN; rw [List.foldl_append]; rfl
section
variable {l:bq} {r:cQ} {times good:List Int}
theorem lG {α:Type} {l:List α} {b:Nat} {x:α} (h:l[b]? =some x):l.take (b+1)=l.take b++[x]:=by rw [List.take_add_one,h]; rfl
end
end
section
def hO (hi:Int→Int) (least:Nat→Int) (now:Int):Nat→List Int→List Int×Int
 |_,[]=>([],now)
 |b,x::xs=>((if 0≤x then min (hO hi least now (b+1) xs).2 (hi x) else (hO hi least now (b+1) xs).2)::(hO hi least now (b+1) xs).1,(if 0≤x then min (hO hi least now (b+1) xs).2 (hi x) else (hO hi least now (b+1) xs).2)-least b)
def gN (t:Int):List Int→Int
 |[]=>t
 |x::xs=>gN x xs
def kv (w:cq):Nat→Int→List Int→List Int→Prop
 |_,_,[],[]=>True
 |b,t,x::rs,y::fs=>(∃ o∈jZ w b,o.1=x∧max (t+cY w b) o.2.Lo≤min o.2.Hi w.gL∧y=max (t+cY w b) o.2.Lo)∧kv w (b+1) y rs fs
 |_,_,_,_=>False
section
variable {w:cq} {hi:Int→Int} {least:Nat→Int} {now:Int}
theorem sD: ∀ (b:Nat) (rs:List Int),(hO hi least now b rs).1.length=rs.length
 |_,[]=>rfl
 |b,x::xs=>by simp only [hO,List.length_cons]; rw [sD]
theorem nK: ∀ (t:Int) (fs:List Int) (y:Int),gN t (fs++[y])=y
 |_,[],_=>rfl
 |t,x::fs,y=>nK x fs y
theorem Dj: ∀ (t:Int) (fs:List Int) (y:Int),fs[fs.length-1]? =some y→gN t fs=y
 |t,[],y,h=>by simp at h
 |t,[x],y,h=>by simpa [gN] using h
 |t,x::x2::fs,y,h=>by
  show gN x (x2::fs)=y
  exact Dj x (x2::fs) y (by simpa using h)
theorem uG: ∀ (b:Nat) (rs:List Int) (x:Int) (ss:List Int),(hO hi least now b (rs++x::ss)).1[rs.length]? =some (if 0≤x then min (hO hi least now (b+rs.length+1) ss).2 (hi x) else (hO hi least now (b+rs.length+1) ss).2)
 |b,[],x,ss=>by simp [hO]
 |b,z::rs,x,ss=>by
  have:=uG (b+1) rs x ss
  simp only [List.cons_append,hO,List.length_cons,List.getElem?_cons_succ]
  rw [this,show b+1+rs.length+1=b+(rs.length+1)+1 by omega]
theorem kz: ∀ (b:Nat) (t:Int) (rs fs:List Int),kv w b t rs fs→fs.length=rs.length
 |_,_,[],[],_=>rfl
 |b,t,x::rs,y::fs,h=>by simp [kz _ _ rs fs h.2]
 |_,_,[],_::_,h=>h.elim
 |_,_,_::_,[],h=>h.elim
theorem rZ: ∀ (b:Nat) (t:Int) (rs fs ss gs:List Int),fs.length=rs.length→(kv w b t (rs++ss) (fs++gs)↔kv w b t rs fs∧kv w (b+rs.length) (gN t fs) ss gs)
 |b,t,[],[],ss,gs,_=>by simp [kv,gN]
 |b,t,x::rs,y::fs,ss,gs,h=>by
  have ih:=rZ (b+1) y rs fs ss gs (by simpa using h)
  simp only [List.cons_append,kv,List.length_cons,gN]
  rw [ih,show b+1+rs.length=b+(rs.length+1) by omega,and_assoc]
 |_,_,[],_::_,_,_,h=>by simp at h
 |_,_,_::_,[],_,_,h=>by simp at h
theorem D5 (b:List Int): ∀ t:aQ,b.foldl (fun t g=>dR t (gF g)) t=dR t (dN b):=by
 induction b with
 |nil=>intro t; exact (nI t).symm
 |cons x b ih=>
  intro t
  show b.foldl (fun t g=>dR t (gF g)) (dR t (gF x))=dR t (b.foldl (fun t g=>dR t (gF g)) (dR ⟨0,0⟩ (gF x)))
  rw [ih,ih]; simp only [dR,aQ.mk.injEq]; omega
theorem sB (a b:List Int):dN (a++b)=dR (dN a) (dN b):=by
 show (a++b).foldl _ _=_
 rw [List.foldl_append,D5]; rfl
theorem sb:dN []=(⟨0,0⟩:aQ):=rfl
theorem qx (l:List Int):dR (⟨0,0⟩:aQ) (dN l)=dN l:=by simp [dR]
theorem tq (x:Int) (l:List Int):dN (x::l)=dR (gF x) (dN l):=by
 rw [show x::l=[x]++l from rfl,sB,show dN [x]=gF x from (oJ (l:=[])).trans (by rw [sb]; simp [dR])]
theorem vg: ∀ l:List Int,0≤(dN l).right∧0≤(dN l).fB∧(dN l).right+(dN l).fB=(l.length:Int)
 |[]=>by rw [sb]; simp
 |x::l=>by
  rw [tq]
  have:=vZ x
  have:=vg l
  simp only [dR,List.length_cons]
  omega
/-- chains are what the watch goes through -/
theorem ko: ∀ (k b:Nat) (p q:aQ×Int),q∈lD w k b p↔ ∃ rs fs,rs.length=k∧kv w b p.2 rs fs∧q=(dR p.1 (dN rs),gN p.2 fs):=by
 intro k
 induction k with
 |zero=>
  intro b p q
  simp only [lD,cH]
  constructor
  ·rintro rfl; exact ⟨[],[],rfl,trivial,by rw [sb,nI]; rfl⟩
  ·rintro ⟨rs,fs,A,B,rfl⟩
   have A:=kE A
   subst A
   have:=kE (kz _ _ _ _ B)
   subst this
   rw [sb,nI]; rfl
 |succ k ih=>
  intro b p q
  rw [pO]
  constructor
  ·rintro ⟨o,ho,p',e,h⟩
   obtain ⟨A,rfl⟩:=sE.1 e
   obtain ⟨rs,fs,B,C,rfl⟩:=(ih _ _ _).1 h
   refine ⟨o.1::rs,max (p.2+cY w b) o.2.Lo::fs,by simp [B],⟨⟨o,ho,U,A,U⟩,C⟩,?_⟩
   rw [tq]
   simp only [gN,dR,Prod.mk.injEq,aQ.mk.injEq,and_true]; omega
  ·rintro ⟨rs,fs,A,B,rfl⟩
   cases rs with
   |nil=>simp at A
   |cons x rs=>
    cases fs with
    |nil=>exact B.elim
    |cons y fs=>
     obtain ⟨⟨o,ho,rfl,C,rfl⟩,D⟩:=B
     refine ⟨o,ho,_,sE.2 ⟨C,U⟩,(ih _ _ _).2 ⟨rs,fs,by simpa using A,D,?_⟩⟩
     rw [tq]
     simp only [gN,dR,Prod.mk.injEq,aQ.mk.injEq,and_true]; omega
/-- what the reference's rows of last times know -/
structure H8 (w:cq) (hi:Int→Int) (least:Nat→Int) (now:Int):Prop where
 low: ∀ b,0≤cY w b
 least: ∀ b,b<w.n→least b=cY w b
 now:now=w.gL
 hi: ∀ b o,b<w.n→o∈jZ w b→0≤o.1→o.2.Hi=hi o.1
 none_: ∀ b o,b<w.n→o∈jZ w b→ ¬ 0≤o.1→o.2.Hi=w.gL
theorem yd (h:H8 w hi least now): ∀ (b:Nat) (rs:List Int),b+rs.length≤w.n→(hO hi least now b rs).2≤w.gL
 |_,[],_=>by simp only [hO]; exact Int.le_of_eq h.now
 |b,x::xs,hb=>by
  simp only [List.length_cons] at hb
  have B:=yd h (b+1) xs om
  have A:=h.low b
  rw [← h.least b om] at A
  simp only [hO]
  split<;>omega
theorem sL (h:H8 w hi least now): ∀ (b:Nat) (t:Int) (rs fs:List Int),b+rs.length≤w.n→t≤w.gL→kv w b t rs fs→t≤(hO hi least now b rs).2
 |_,t,[],[],_,ht,_=>by simp only [hO]; rw [h.now]; exact ht
 |b,t,x::rs,y::fs,hb,ht,hc=>by
  simp only [List.length_cons] at hb
  obtain ⟨⟨o,ho,rfl,D,rfl⟩,A⟩:=hc
  have B:=sL h (b+1) _ rs fs om om A
  have C:=h.least b om
  simp only [hO]
  split
  ·rename_i q
   have:=h.hi b o om ho q
   omega
  ·omega
 |_,_,[],_::_,_,_,hc=>hc.elim
 |_,_,_::_,[],_,_,hc=>hc.elim
theorem yg (h:H8 w hi least now): ∀ (b:Nat) (t t':Int) (rs fs:List Int),b+rs.length≤w.n→t≤t'→t'≤(hO hi least now b rs).2→kv w b t rs fs→ ∃ gs,kv w b t' rs gs
 |_,t,_,[],[],_,_,_,_=>⟨[],trivial⟩
 |b,t,t',x::rs,y::fs,hb,ht,he,hc=>by
  simp only [List.length_cons] at hb
  obtain ⟨⟨o,ho,rfl,E,rfl⟩,A⟩:=hc
  have C:=sL h (b+1) _ rs fs om om A
  have D:=h.least b om
  have F:=yd h (b+1) rs om
  simp only [hO] at he
  have B:max (t'+cY w b) o.2.Lo≤min o.2.Hi w.gL∧max (t'+cY w b) o.2.Lo≤(hO hi least now (b+1) rs).2:=by
   split at he
   ·rename_i q
    have:=h.hi b o om ho q
    omega
   ·rename_i q
    have:=h.none_ b o om ho q
    omega
  obtain ⟨gs,hg⟩:=yg h (b+1) _ (max (t'+cY w b) o.2.Lo) rs fs om om B.2 A
  exact ⟨_::gs,⟨o,ho,U,B.1,U⟩,hg⟩
 |_,_,_,[],_::_,_,_,_,hc=>hc.elim
 |_,_,_,_::_,[],_,_,_,hc=>hc.elim
theorem Bp (b:Nat) (t t':Int) (rs fs:List Int) (ht:t'≤t) (hc:kv w b t rs fs): ∃ gs,kv w b t' rs gs:=by
 have A:(dR ⟨0,0⟩ (dN rs),gN t fs)∈lD w rs.length b (⟨0,0⟩,t):=(ko _ _ _ _).2 ⟨rs,fs,rfl,hc,rfl⟩
 clear A
 induction rs generalizing b t t' fs with
 |nil=>exact ⟨[],trivial⟩
 |cons x rs ih=>
  cases fs with
  |nil=>exact hc.elim
  |cons y fs=>
   obtain ⟨⟨o,ho,rfl,C,rfl⟩,B⟩:=hc
   obtain ⟨gs,hg⟩:=ih (b+1) _ (max (t'+cY w b) o.2.Lo) fs om B
   exact ⟨_::gs,⟨o,ho,U,om,U⟩,hg⟩
/-- a way, as it is asked for -/
structure Oe (w:cq) (hi:Int→Int) (least:Nat→Int) (now:Int) (y:du):Prop where
 chain:kv w 0 w.Start y.gp y.jg
 len:y.gp.length≤w.n
 last:y.mo=(hO hi least now 0 y.gp).1
 may:nk w (dN y.gp)=true
theorem Cm {k:Nat}:lq w (pW w k)=true↔ ∃ rs fs,rs.length=k∧kv w 0 w.Start rs fs∧nk w (dN rs)=true:=by
 unfold lq
 rw [List.any_eq_true]
 have e:=fun q=>(z7 (w:=w) k 0 q)
 rw [Nat.zero_add] at e
 constructor
 ·rintro ⟨q,hq,hm⟩
  obtain ⟨p,hp,h⟩:=(e q).1 hq
  simp only [pW,cH] at hp
  subst hp
  obtain ⟨rs,fs,A,B,rfl⟩:=(ko _ _ _ _).1 h
  refine ⟨rs,fs,A,B,?_⟩
  rwa [qx] at hm
 ·rintro ⟨rs,fs,A,B,C⟩
  refine ⟨_,(e _).2 ⟨((⟨0,0⟩:aQ),w.Start),cH.2 U,(ko _ _ _ _).2 ⟨rs,fs,A,B,U⟩⟩,?_⟩
  simp only [qx]; exact C
theorem Lp (h:H8 w hi least now) (hs:w.Start≤w.gL) {b:Nat} (hb:b<w.n) {s t:Int}:Ll w b s t↔ ∃ y,Oe w hi least now y∧ ∃ f e,y.gp[b]? =some s∧y.jg[b]? =some f∧y.mo[b]? =some e∧f≤t∧t≤e:=by
 have ef:=fun q=>(z7 (w:=w) b 0 q)
 rw [Nat.zero_add] at ef
 constructor
 ·rintro ⟨p,hp,o,ho,rfl,⟨C,L⟩,k,hk,q,hq,hm⟩
  obtain ⟨Y,AB,hp⟩:=(ef p).1 hp
  simp only [pW,cH] at AB
  subst AB
  obtain ⟨rs,fs,K,D,rfl⟩:=(ko _ _ _ _).1 hp
  obtain ⟨ss,gs,AA,E,rfl⟩:=(ko _ _ _ _).1 hq
  simp only at C L D E hm
  obtain ⟨gs',J⟩:=Bp (b+1) t (max (gN w.Start fs+cY w b) o.2.Lo) ss gs C E
  have H:=kz _ _ _ _ D
  have T:=kz _ _ _ _ J
  have hc:kv w 0 w.Start (rs++o.1::ss) (fs++max (gN w.Start fs+cY w b) o.2.Lo::gs'):=(rZ _ _ _ _ _ _ H).2 ⟨D,by rw [Nat.zero_add,K]; exact ⟨⟨o,ho,rfl,om,rfl⟩,J⟩⟩
  have he:=sL h (b+1) t ss gs om om E
  have A:=uG (hi:=hi) (least:=least) (now:=now) 0 rs o.1 ss
  rw [Nat.zero_add,K] at A
  refine ⟨⟨rs++o.1::ss,fs++max (gN w.Start fs+cY w b) o.2.Lo::gs',(hO hi least now 0 (rs++o.1::ss)).1⟩,⟨hc,by simp; omega,U,?_⟩,max (gN w.Start fs+cY w b) o.2.Lo,_,?_,?_,A,C,?_⟩
  ·show nk w (dN (rs++o.1::ss))=true
   rw [show rs++o.1::ss=(rs++[o.1])++ss by simp,sB,oJ]
   rwa [qx] at hm
  ·show (rs++o.1::ss)[b]? =some o.1
   rw [List.getElem?_append_right om,K,Nat.sub_self]; rfl
  ·show (fs++_::gs')[b]? =_
   rw [List.getElem?_append_right om,H,K,Nat.sub_self]; rfl
  ·split
   ·rename_i q
    have:=h.hi b o hb ho q
    omega
   ·exact he
 ·rintro ⟨y,hy,f,e,C,L,P,Q,V⟩
  obtain ⟨R,F,La⟩:=y
  obtain ⟨hc,hn,A,hm⟩:=hy
  simp only at C L P hc hn A hm
  have N:=(aZ.1 C).1
  have S:=kz _ _ _ _ hc
  have eR:R=R.take b++s::R.drop (b+1):=by rw [← (aZ.1 C).2]; exact (List.take_append_drop b R).symm.trans (by rw [List.drop_eq_getElem_cons N])
  have M:b<F.length:=by omega
  have eF:F=F.take b++f::F.drop (b+1):=by rw [← (aZ.1 L).2]; exact (List.take_append_drop b F).symm.trans (by rw [List.drop_eq_getElem_cons M])
  rw [eR,eF,rZ _ _ _ _ _ _ (by simp only [List.length_take]; omega)] at hc
  have O:(R.take b).length=b:=by rw [List.length_take]; omega
  rw [O,Nat.zero_add] at hc
  obtain ⟨D,⟨o,ho,rfl,W,rfl⟩,E⟩:=hc
  have B:=uG (hi:=hi) (least:=least) (now:=now) 0 (R.take b) o.1 (R.drop (b+1))
  rw [← eR,O,Nat.zero_add,← A,P] at B
  have B:=Option.some.inj B
  have G:t≤(hO hi least now (b+1) (R.drop (b+1))).2∧t≤min o.2.Hi w.gL:=by
   have X:=yd h (b+1) (R.drop (b+1)) (by rw [List.length_drop]; omega)
   split at B
   ·rename_i q
    have:=h.hi b o hb ho q
    omega
   ·rename_i q
    have:=h.none_ b o hb ho q
    omega
  obtain ⟨gs,J⟩:=yg h (b+1) _ t (R.drop (b+1)) (F.drop (b+1)) (by rw [List.length_drop]; omega) Q G.1 E
  refine ⟨(dR ⟨0,0⟩ (dN (R.take b)),gN w.Start (F.take b)),(ef _).2 ⟨((⟨0,0⟩:aQ),w.Start),cH.2 U,(ko _ _ _ _).2 ⟨_,_,O,D,U⟩⟩,o,ho,U,⟨Q,G.2⟩,(R.drop (b+1)).length,by rw [List.length_drop]; omega,_,(ko _ _ _ _).2 ⟨_,gs,U,J,U⟩,?_⟩
  show nk w (dR (dR (dR ⟨0,0⟩ (dN (R.take b))) (gF o.1)) (dN (R.drop (b+1))))=true
  rw [qx,← oJ,← sB,show R.take b++[o.1]++R.drop (b+1)=R from by rw [List.append_assoc]; exact eR.symm]
  exact hm
end
noncomputable def LK (l:bq) (r:cQ) (x:Int):Int:=match r.aa[x.toNat]? with
 |some s=>(dq l s).Hi
 |none=>0
theorem Ez {l:bq} {r:cQ} {x:Int} {s:aH} (h:r.aa[x.toNat]? =some s):LK l r x=(dq l s).Hi:=by unfold LK; rw [h]
noncomputable def jM (l:bq) (r:cQ) (rs:List Int):List Int:=(hO (LK l r) (eH l) r.gL 0 rs).1
noncomputable def pf (l:bq) (r:cQ) (n:Nat) (t i:Int):Option Int:=
 if i<0 then (if t≤r.gL then some t else none) else match r.aa[i.toNat]? with
  |some s=>if (s.fI=(n:Int)∧(dq l s).Lo≤(dq l s).Hi)∧max t (dq l s).Lo≤min r.gL (dq l s).Hi then some (max t (dq l s).Lo) else none
  |none=>none
noncomputable def iu (l:bq) (r:cQ) (rs fs:List Int):List du:=if (r.aa.length:Int)-(dN rs).right≤l.ew then [⟨rs,fs,jM l r rs⟩] else []
noncomputable def iR (l:bq) (r:cQ):Nat→List Int→List Int→List du
 |0,rs,fs=>if l.cU<(dN rs).fB then [] else iu l r rs fs
 |k+1,rs,fs=>if l.cU<(dN rs).fB then [] else iu l r rs fs++(List.range (r.aa.length+1)).flatMap fun (j:Nat)=>match pf l r rs.length (gN r.Start fs+eH l rs.length) ((j:Int)-1) with
  |some t=>iR l r k (rs++[(j:Int)-1]) (fs++[t])
  |none=>[]
noncomputable def DV (l:bq) (r:cQ) (k:Nat) (rs fs:List Int) (j:Nat):List du:=iu l r rs fs++(List.range j).flatMap fun (j:Nat)=>match pf l r rs.length (gN r.Start fs+eH l rs.length) ((j:Int)-1) with
 |some t=>iR l r k (rs++[(j:Int)-1]) (fs++[t])
 |none=>[]
noncomputable def iU (l:bq) (r:cQ) (k:Nat) (rs fs:List Int) (j:Nat):List du:=(List.range j).flatMap fun (j:Nat)=>match pf l r rs.length (gN r.Start fs+eH l rs.length) ((j:Int)-1) with
 |some t=>iR l r k (rs++[(j:Int)-1]) (fs++[t])
 |none=>[]
section
variable {l:bq} {r:cQ} {k j:Nat} {rs fs:List Int} {t:Int}
theorem sr:DV l r k rs fs j=iu l r rs fs++iU l r k rs fs j:=rfl
theorem nJ (h:pf l r rs.length (gN r.Start fs+eH l rs.length) ((j:Int)-1)=some t):iU l r k rs fs (j+1)=iU l r k rs fs j++iR l r k (rs++[(j:Int)-1]) (fs++[t]):=by
 unfold iU; rw [List.range_succ,List.flatMap_append]; simp [h]
theorem rp (h:pf l r rs.length (gN r.Start fs+eH l rs.length) ((j:Int)-1)=none):iU l r k rs fs (j+1)=iU l r k rs fs j:=by
 unfold iU; rw [List.range_succ,List.flatMap_append]; simp [h]
theorem og (h:l.cU<(dN rs).fB):iR l r k rs fs=[]:=by cases k<;>exact if_pos h
theorem ot (h: ¬ l.cU<(dN rs).fB):iR l r 0 rs fs=iu l r rs fs:=if_neg h
theorem nU (h: ¬ l.cU<(dN rs).fB):iR l r (k+1) rs fs=DV l r k rs fs (r.aa.length+1):=if_neg h
theorem CJ {n:Nat} (hn:n<l.aj.length) (hl:0≤eH l n) (ht:r.Start≤t) {i y:Int} (hi: -1≤i):pf l r n (t+eH l n) i=some y↔ ∃ o∈jZ (di l r) n,o.1=i∧max (t+cY (di l r) n) o.2.Lo≤min o.2.Hi (di l r).gL∧y=max (t+cY (di l r) n) o.2.Lo:=by
 rw [qv hn]
 have hw:(di l r).gL=r.gL:=rfl
 unfold pf
 constructor
 ·intro h
  split at h
  ·rename_i B
   split at h
   ·cases h
    exact ⟨(-1,⟨r.Start,r.gL⟩),(vX hn).2 (.inl U),by simp only; omega,by simp only; omega,by simp only; omega⟩
   ·cases h
  ·rename_i B
   split at h
   ·rename_i s hs
    split at h
    ·rename_i q
     cases h
     exact ⟨((i.toNat:Nat),dq l s),(vX hn).2 (.inr ⟨i.toNat,(aZ.1 hs).1,s,hs,q.1,U⟩),by simp only; omega,by simp only; omega,U⟩
    ·cases h
   ·cases h
 ·rintro ⟨o,ho,rfl,A,rfl⟩
  rcases (vX hn).1 ho with rfl|⟨k,hk,s,hs,q,rfl⟩
  ·simp only at A ⊢
   rw [if_pos om,if_pos om]
   congr 1; omega
  ·simp only at A ⊢
   rw [if_neg om,Int.toNat_natCast,hs]
   simp only
   rw [if_pos ⟨q,om⟩]
theorem Kr (hl: ∀ n,n<l.aj.length→0≤eH l n): ∀ (k:Nat) (rs fs:List Int) (y:du),rs.length+k=l.aj.length→fs.length=rs.length→r.Start≤gN r.Start fs→
 (y∈iR l r k rs fs↔ ∃ ss gs,kv (di l r) rs.length (gN r.Start fs) ss gs∧ss.length≤k∧y=⟨rs++ss,fs++gs,jM l r (rs++ss)⟩∧nk (di l r) (dN (rs++ss))=true):=by
 have D: ∀ (rs fs:List Int) (y:du),¬ l.cU<(dN rs).fB→(y∈iu l r rs fs↔y=⟨rs++[],fs++[],jM l r (rs++[])⟩∧nk (di l r) (dN (rs++[]))=true):=by
  intro rs fs y hm
  unfold iu
  rw [List.append_nil,List.append_nil]
  have e:nk (di l r) (dN rs)=true↔(r.aa.length:Int)-(dN rs).right≤l.ew:=by
   unfold nk
   rw [decide_eq_true_eq]
   exact ⟨fun q=>q.2,fun q=>⟨by have:(di l r).cU=l.cU:=rfl; omega,q⟩⟩
  split
  ·rename_i q
   rw [cH]
   exact ⟨fun h=>⟨h,e.2 q⟩,fun h=>h.1⟩
  ·rename_i q
   exact ⟨fun h=>(by cases h),fun h=>absurd (e.1 h.2) q⟩
 have miss: ∀ (rs ss:List Int),l.cU<(dN rs).fB→ ¬ nk (di l r) (dN (rs++ss))=true:=by
  intro rs ss h q
  unfold nk at q
  have:=(of_decide_eq_true q).1
  rw [sB] at this
  have C:=vg ss
  simp only [dR] at this
  have:(di l r).cU=l.cU:=rfl
  omega
 intro k
 induction k with
 |zero=>
  intro rs fs y hn hf hs
  by_cases hm:l.cU<(dN rs).fB
  ·rw [og hm]
   exact ⟨fun h=>(by cases h),fun ⟨ss,gs,_,_,_,q⟩=>absurd q (miss rs ss hm)⟩
  ·rw [ot hm,D _ _ _ hm]
   constructor
   ·rintro ⟨B,C⟩; exact ⟨[],[],trivial,sm,B,C⟩
   ·rintro ⟨ss,gs,B,C,E,F⟩
    have e:=kE (Nat.le_zero.1 C)
    subst e
    have e:=kE (kz _ _ _ _ B)
    subst e
    exact ⟨E,F⟩
 |succ k ih=>
  intro rs fs y hn hf hs
  by_cases hm:l.cU<(dN rs).fB
  ·rw [og hm]
   exact ⟨fun h=>(by cases h),fun ⟨ss,gs,_,_,_,q⟩=>absurd q (miss rs ss hm)⟩
  ·rw [nU hm]
   unfold DV
   rw [gQ,D _ _ _ hm,List.mem_flatMap]
   have A: ∀ (x y:Int),(rs++[x]).length+k=l.aj.length∧(fs++[y]).length=(rs++[x]).length:=fun x y=>by simp; omega
   constructor
   ·rintro (⟨B,C⟩|⟨j,hj,h⟩)
    ·exact ⟨[],[],trivial,sm,B,C⟩
    ·cases e:pf l r rs.length (gN r.Start fs+eH l rs.length) ((j:Int)-1) with
     |none=>rw [e] at h; cases h
     |some t=>
      rw [e] at h
      simp only at h
      obtain ⟨o,ho,B,C,E⟩:=(CJ om (hl _ om) hs om).1 e
      have G:r.Start≤t:=by
       have:=hl rs.length om
       rw [qv om] at E
       omega
      obtain ⟨ss,gs,F,J,H,AA⟩:=(ih _ _ y (A _ t).1 (A _ t).2 (by rw [nK]; exact G)).1 h
      rw [nK,List.length_append] at F
      refine ⟨((j:Int)-1)::ss,t::gs,⟨⟨o,ho,B,C,E⟩,F⟩,by simp; omega,by simpa using H,by simpa using AA⟩
   ·rintro ⟨ss,gs,B,C,E,F⟩
    cases ss with
    |nil=>
     have e:=kE (kz _ _ _ _ B)
     subst e
     exact .inl ⟨E,F⟩
    |cons x ss=>
     cases gs with
     |nil=>exact B.elim
     |cons t gs=>
      obtain ⟨⟨o,ho,rfl,J,H⟩,AA⟩:=B
      right
      have hx: -1≤o.1∧o.1<(r.aa.length:Int):=by
       rcases (vX om).1 ho with rfl|⟨k,hk,s,hs,q,rfl⟩
       ·simp only; omega
       ·simp only; omega
      have G:r.Start≤t:=by
       have:=hl rs.length om
       rw [qv om] at H
       omega
      have K:((o.1+1).toNat:Int)-1=o.1:=by omega
      refine ⟨(o.1+1).toNat,List.mem_range.2 om,?_⟩
      rw [K,(CJ om (hl _ om) hs om).2 ⟨o,ho,rfl,J,H⟩]
      simp only
      refine (ih _ _ y (A _ t).1 (A _ t).2 (by rw [nK]; exact G)).2 ⟨ss,gs,?_,?_,?_,?_⟩
      ·rw [nK,List.length_append]; exact AA
      ·simp only [List.length_cons] at C; omega
      ·simpa using E
      ·simpa using F
end
theorem zb {l:bq} {r:cQ} {rs fs:List Int} (h:(r.aa.length:Int)-(dN rs).right≤l.ew):iu l r rs fs=[⟨rs,fs,jM l r rs⟩]:=if_pos h
theorem yn {l:bq} {r:cQ} {rs fs:List Int} (h: ¬ (r.aa.length:Int)-(dN rs).right≤l.ew):iu l r rs fs=[]:=if_neg h
noncomputable def fh (l:bq) (r:cQ) (i:Nat):List ai:=(r.aa.take i).map (dq l)
noncomputable def fK (l:bq) (r:cQ) (i:Nat):List Bool:=(r.aa.take i).map fun s=>decide ((dq l s).Lo≤(dq l s).Hi)
section
variable {l:bq} {r:cQ} {i n:Nat} {s:aH} {rs:List Int}
theorem Ev (h:r.aa[i]? =some s):fh l r (i+1)=fh l r i++[dq l s]:=by unfold fh; rw [List.take_add_one,h,List.map_append]; rfl
theorem D_ (h:r.aa[i]? =some s):fK l r (i+1)=fK l r i++[decide ((dq l s).Lo≤(dq l s).Hi)]:=by unfold fK; rw [List.take_add_one,h,List.map_append]; rfl
theorem r8 (h:i≤r.aa.length):(fh l r i).length=i:=by unfold fh; rw [List.length_map,List.length_take]; omega
theorem vr (h:i≤r.aa.length):(fK l r i).length=i:=by unfold fK; rw [List.length_map,List.length_take]; omega
theorem Ln {k:Nat} {z:ai} (hs:r.aa[k]? =some s) (hz:(fh l r r.aa.length)[k]? =some z):z=dq l s:=by
 unfold fh at hz
 rw [List.take_length,f_,hs] at hz
 exact (Option.some.inj hz).symm
theorem Jp {k:Nat} {z:ai} (hz:(fh l r r.aa.length)[k]? =some z): ∃ s,r.aa[k]? =some s∧z=dq l s:=by
 unfold fh at hz
 rw [List.take_length,f_] at hz
 cases h:r.aa[k]? with
 |none=>rw [h] at hz; cases hz
 |some s=>rw [h] at hz; exact ⟨s,rfl,(Option.some.inj hz).symm⟩
theorem Ce {k:Nat} {z:Bool} (hs:r.aa[k]? =some s) (hz:(fK l r r.aa.length)[k]? =some z):z=true↔(dq l s).Lo≤(dq l s).Hi:=by
 unfold fK at hz
 rw [List.take_length,f_,hs] at hz
 rw [← Option.some.inj hz]
 exact decide_eq_true_iff
theorem w9 (l:bq) (s:aH):(0≤(dq l s).Lo∧(dq l s).Lo≤86400001)∧ -1≤(dq l s).Hi∧(dq l s).Hi≤86400000:=by
 have A:=jk (p:=iB (qz l s) s.Read) (n:=86400001)
 have B:=jk (p:=iE (qz l s) s.Read) (n:=86400001)
 unfold dq B5
 simp only
 omega
/-- the last times from a beam on -/
noncomputable def j9 (l:bq) (r:cQ) (rs:List Int) (j:Nat):List Int×Int:=hO (LK l r) (eH l) r.gL j (rs.drop j)
noncomputable def j_ (l:bq) (r:cQ) (rs:List Int) (j:Nat):List Int:=List.replicate j 0++(j9 l r rs j).1
noncomputable def uf (l:bq) (r:cQ) (rs:List Int) (j:Nat) (x:Int):Int:=if 0≤x then min (j9 l r rs j).2 (LK l r x) else (j9 l r rs j).2
theorem wa:j9 l r rs rs.length=([],r.gL):=by unfold j9; rw [List.drop_length]; rfl
theorem HK:j_ l r rs rs.length=List.replicate rs.length 0:=by unfold j_; rw [wa]; simp
theorem Eg:j_ l r rs 0=jM l r rs:=by unfold j_ j9 jM; simp
theorem qa {j:Nat} {x:Int} (hj:0<j) (hx:rs[j-1]? =some x):j9 l r rs (j-1)=(uf l r rs j x::(j9 l r rs j).1,uf l r rs j x-eH l (j-1)):=by
 unfold j9 uf
 have hb:=(aZ.1 hx).1
 rw [List.drop_eq_getElem_cons hb,(aZ.1 hx).2,show j-1+1=j by omega]
 simp only [hO]
 rw [show j-1+1=j by omega]
 rfl
theorem GI {j:Nat} (h:j≤rs.length):(j_ l r rs j).length=rs.length:=by unfold j_ j9; rw [List.length_append,List.length_replicate,sD,List.length_drop]; omega
theorem zw {j:Nat} {x:Int} (hj:0<j) (hx:rs[j-1]? =some x):(j_ l r rs j).set (j-1) (uf l r rs j x)=j_ l r rs (j-1):=by
 unfold j_
 rw [qa hj hx]
 simp only
 obtain ⟨k,rfl⟩: ∃ k,j=k+1:=⟨j-1,om⟩
 rw [Nat.add_sub_cancel,List.replicate_succ',List.append_assoc,List.set_append_right _ _ sm,List.length_replicate,Nat.sub_self]
 rfl
theorem FC (hr:0≤r.gL∧r.gL≤86400000) (hl: ∀ b,b<rs.length→0≤eH l b∧eH l b≤500000000) (hrs: ∀ x∈rs,0≤x→x<(r.aa.length:Int)): ∀ (d j:Nat),j+d=rs.length→(-1-500000000*(d:Int))≤(j9 l r rs j).2∧(j9 l r rs j).2≤86400000
 |0,j,h=>by
  obtain rfl:j=rs.length:=by omega
  rw [wa]; simp only; omega
 |d+1,j,h=>by
  have ih:=FC hr hl hrs d (j+1) om
  have hx:rs[j+1-1]? =some (rs[j]'om):=by rw [Nat.add_sub_cancel]; exact fZ _
  have e:=qa (l:=l) (r:=r) (j:=j+1) om hx
  rw [Nat.add_sub_cancel] at e
  rw [e]
  simp only
  have A:=hl j om
  unfold uf
  split
  ·rename_i q
   have B:=hrs _ (List.getElem_mem (by omega:j<rs.length)) q
   obtain ⟨s,hs⟩: ∃ s,r.aa[(rs[j]'om).toNat]? =some s:=⟨r.aa[(rs[j]'om).toNat]'om,fZ _⟩
   rw [Ez hs]
   have C:=w9 l s
   omega
  ·omega
theorem Ja {t i:Int} (hi:i<0):(t≤r.gL→pf l r n t i=some t)∧(¬ t≤r.gL→pf l r n t i=none):=by
 unfold pf; rw [if_pos hi]; exact ⟨fun h=>if_pos h,fun h=>if_neg h⟩
theorem Ic {t i:Int} (hi: ¬ i<0) (hs:r.aa[i.toNat]? =some s) (hb:s.fI=(n:Int)) (hw:(dq l s).Lo≤(dq l s).Hi):(max t (dq l s).Lo≤min r.gL (dq l s).Hi→pf l r n t i=some (max t (dq l s).Lo))∧(¬ max t (dq l s).Lo≤min r.gL (dq l s).Hi→pf l r n t i=none):=by
 unfold pf; rw [if_neg hi,hs]
 exact ⟨fun h=>if_pos ⟨⟨hb,hw⟩,h⟩,fun h=>if_neg fun q=>h q.2⟩
theorem xH {t i:Int} (hi: ¬ i<0) (hs:r.aa[i.toNat]? =some s) (hb: ¬ (s.fI=(n:Int)∧(dq l s).Lo≤(dq l s).Hi)):pf l r n t i=none:=by
 unfold pf; rw [if_neg hi,hs]
 exact if_neg fun q=>hb q.1
theorem uw {x:Int} (hx:rs[i]? =some x):(dN (rs.take (i+1))).right=(dN (rs.take i)).right+(if 0≤x then 1 else 0):=by
 rw [lG hx,oJ]
 unfold gF
 simp only [dR]
 by_cases h:x<0
 ·rw [if_pos h,if_neg om]
 ·rw [if_neg h,if_pos om]
end
theorem xL {l:bq} {r:cQ} {rs fs:List Int}:(iu l r rs fs).length≤1:=by unfold iu; split<;>simp
theorem xg {l:bq} {r:cQ} (hr:r.aa.length≤10): ∀ (k:Nat) (rs fs:List Int),(iR l r k rs fs).length≤12^(k+1)
 |0,rs,fs=>by
  unfold iR
  split
  ·simp
  ·have:=xL (l:=l) (r:=r) (rs:=rs) (fs:=fs); omega
 |k+1,rs,fs=>by
  unfold iR
  split
  ·simp
  ·rw [List.length_append]
   have B:=xL (l:=l) (r:=r) (rs:=rs) (fs:=fs)
   have A: ∀ j,(iU l r k rs fs j).length≤j*12^(k+1):=by
    intro j
    induction j with
    |zero=>simp [iU]
    |succ j ih=>
     cases e:pf l r rs.length (gN r.Start fs+eH l rs.length) ((j:Int)-1) with
     |none=>rw [rp e,Nat.succ_mul]; exact Nat.le_trans ih (Nat.le_add_right _ _)
     |some t=>rw [nJ e,List.length_append,Nat.succ_mul]; exact Nat.add_le_add ih (xg hr k (rs++[(j:Int)-1]) (fs++[t]))
   have C:=A (r.aa.length+1)
   have D:(r.aa.length+1)*12^(k+1)≤11*12^(k+1):=Nat.mul_le_mul_right _ om
   have E:0<12^(k+1):=Nat.pow_pos dc
   have F:12^(k+1+1)=12*12^(k+1):=by rw [Nat.pow_succ,Nat.mul_comm]
   show (iu l r rs fs).length+(iU l r k rs fs (r.aa.length+1)).length≤_
   omega
theorem K9 {l:bq} {r:cQ} (hr:r.aa.length≤10) {k j:Nat} {rs fs:List Int} (hk:k≤5) (hj:j≤11):(iU l r k rs fs j).length≤40000000:=by
 have A: ∀ j,(iU l r k rs fs j).length≤j*12^(k+1):=by
  intro j
  induction j with
  |zero=>simp [iU]
  |succ j ih=>
   cases e:pf l r rs.length (gN r.Start fs+eH l rs.length) ((j:Int)-1) with
   |none=>rw [rp e,Nat.succ_mul]; exact Nat.le_trans ih (Nat.le_add_right _ _)
   |some t=>rw [nJ e,List.length_append,Nat.succ_mul]; exact Nat.add_le_add ih (xg hr k (rs++[(j:Int)-1]) (fs++[t]))
 have C:=A j
 have B:12^(k+1)≤12^6:=Nat.pow_le_pow_right dc om
 have D:j*12^(k+1)≤11*12^6:=Nat.mul_le_mul hj B
 omega
theorem vx {l:bq} {r:cQ} (hr:r.aa.length≤10) {k:Nat} {rs fs:List Int} (hk:k≤6):(iR l r k rs fs).length≤40000000:=by
 have A:=xg hr k rs fs (l:=l)
 have B:12^(k+1)≤12^7:=Nat.pow_le_pow_right dc om
 omega
noncomputable def kO (l:bq) (r:cQ):List du:=iR l r l.aj.length [] []
section
variable {l:bq} {r:cQ}
theorem l6:(di l r).n=l.aj.length:=dy
theorem N9 (hle:e_ l=0) (hr:fW l r):H8 (di l r) (LK l r) (eH l) r.gL:=by
 obtain ⟨ht,B⟩:=dw hle
 refine ⟨fun b=>((mT ht B hr).cY b).1,fun b hb=>(qv (by rw [l6] at hb; exact hb)).symm,U,fun b o hb ho A=>?_,fun b o hb ho A=>?_⟩
 ·rw [l6] at hb
  rcases (vX hb).1 ho with rfl|⟨k,hk,s,hs,q,rfl⟩
  ·simp only at A; omega
  ·exact (Ez (by simpa using hs)).symm
 ·rw [l6] at hb
  rcases (vX hb).1 ho with rfl|⟨k,hk,s,hs,q,rfl⟩
  ·rfl
  ·simp only at A; omega
theorem p_ (hle:e_ l=0) (hr:fW l r) {y:du}:y∈kO l r↔Oe (di l r) (LK l r) (eH l) r.gL y:=by
 obtain ⟨ht,D⟩:=dw hle
 have hl: ∀ n,n<l.aj.length→0≤eH l n:=fun n hn=>by have:=nG ht D (i:=n) hn; omega
 unfold kO
 rw [Kr hl _ _ _ _ sm rfl (Int.le_refl _)]
 constructor
 ·rintro ⟨ss,gs,B,A,rfl,C⟩
  exact ⟨B,by rw [l6]; exact A,U,C⟩
 ·rintro ⟨B,A,E,C⟩
  rw [l6] at A
  exact ⟨y.gp,y.jg,B,A,by rw [List.nil_append,List.nil_append]; unfold jM; rw [← E],C⟩
theorem yv (hle:e_ l=0) (hr:fW l r) {k:Nat} (hk:k≤l.aj.length):((kO l r).any fun y=>decide (y.gp.length=k))=lq (di l r) (pW (di l r) k):=by
 rw [Bool.eq_iff_iff,Cm,List.any_eq_true]
 constructor
 ·rintro ⟨y,hy,e⟩
  have h:=(p_ hle hr).1 hy
  exact ⟨y.gp,y.jg,of_decide_eq_true e,h.chain,h.may⟩
 ·rintro ⟨rs,fs,e,A,B⟩
  exact ⟨⟨rs,fs,(hO (LK l r) (eH l) r.gL 0 rs).1⟩,(p_ hle hr).2 ⟨A,by rw [l6]; simp only; omega,U,B⟩,dC e⟩
theorem fY (hle:e_ l=0) (hr:fW l r):kO l r=[]↔lY (di l r)=[]:=by
 constructor
 ·intro h
  apply List.eq_nil_iff_forall_not_mem.2
  intro x hx
  obtain ⟨k,rfl,hk,hm⟩:=BM.1 hx
  rw [l6] at hk
  rw [← yv hle hr hk,h] at hm
  cases hm
 ·intro h
  apply List.eq_nil_iff_forall_not_mem.2
  intro y hy
  have hw:=(p_ hle hr).1 hy
  have:(y.gp.length:Int)∈lY (di l r):=BM.2 ⟨y.gp.length,rfl,hw.len,Cm.2 ⟨_,_,rfl,hw.chain,hw.may⟩⟩
  rw [h] at this; cases this
/-- the times at a beam, by all ways -/
def jt (b:Nat) (ws:List du):List (Int×ai):=ws.filterMap fun y=>match y.gp[b]?,y.jg[b]?,y.mo[b]? with
 |some s,some f,some e=>some (s,⟨f,e⟩)
 |_,_,_=>none
theorem nT {b:Nat} {ws:List du} {q:Int×ai}:q∈jt b ws↔ ∃ y∈ws,y.gp[b]? =some q.1∧y.jg[b]? =some q.2.Lo∧y.mo[b]? =some q.2.Hi:=by
 unfold jt
 rw [List.mem_filterMap]
 constructor
 ·rintro ⟨y,hy,h⟩
  cases e1:y.gp[b]? with
  |none=>rw [e1] at h; cases h
  |some s=>
   cases e2:y.jg[b]? with
   |none=>rw [e1,e2] at h; cases h
   |some f=>
    cases e3:y.mo[b]? with
    |none=>rw [e1,e2,e3] at h; cases h
    |some e=>
     rw [e1,e2,e3] at h; cases h
     exact ⟨y,hy,e1,e2,e3⟩
 ·rintro ⟨y,hy,A,B,C⟩
  exact ⟨y,hy,by rw [A,B,C]⟩
theorem yO {b:Nat} {ws:List du} {y:du} (h:y.gp.length≤b):jt b (ws++[y])=jt b ws:=by
 unfold jt; rw [List.filterMap_append]; simp [List.getElem?_eq_none h]
theorem qC {b:Nat} {ws:List du} {y:du} {s f e:Int} (h1:y.gp[b]? =some s) (h2:y.jg[b]? =some f) (h3:y.mo[b]? =some e):jt b (ws++[y])=jt b ws++[(s,⟨f,e⟩)]:=by
 unfold jt; rw [List.filterMap_append]; simp [h1,h2,h3]
theorem IE (hle:e_ l=0) (hr:fW l r) {y:du} (hy:y∈kO l r):y.jg.length=y.gp.length∧y.mo.length=y.gp.length∧y.gp.length≤l.aj.length:=by
 have h:=(p_ hle hr).1 hy
 exact ⟨kz _ _ _ _ h.chain,by rw [h.last,sD],by have:=h.len; rwa [l6] at this⟩
theorem uZ (hle:e_ l=0) (hr:fW l r) {b:Nat} (hb:b<l.aj.length) {s t:Int}:(∃ q∈te (di l r) b,q.1=s∧q.2.Lo≤t∧t≤q.2.Hi)↔ ∃ q∈jt b (kO l r),q.1=s∧q.2.Lo≤t∧t≤q.2.Hi:=by
 have hh:=N9 hle hr
 rw [LS hh.low (by rw [l6]; exact hb),Lp hh hr.time.2.1 (by rw [l6]; exact hb)]
 constructor
 ·rintro ⟨y,hy,f,e,A,B,C,D,E⟩
  exact ⟨(s,⟨f,e⟩),nT.2 ⟨y,(p_ hle hr).2 hy,A,B,C⟩,U,D,E⟩
 ·rintro ⟨q,hq,rfl,D,E⟩
  obtain ⟨y,hy,A,B,C⟩:=nT.1 hq
  exact ⟨y,(p_ hle hr).1 hy,_,_,A,B,C,D,E⟩
/-- a way's span is none that is empty -/
theorem w8 (hle:e_ l=0) (hr:fW l r) {b:Nat} {q:Int×ai} (hq:q∈jt b (kO l r)):q.2.Lo≤q.2.Hi:=by
 have hh:=N9 hle hr
 obtain ⟨y,hy,C,D,H⟩:=nT.1 hq
 obtain ⟨hc,hn,B,hm⟩:=(p_ hle hr).1 hy
 obtain ⟨R,F,La⟩:=y
 simp only at C D H hc hn B
 have G:=(aZ.1 C).1
 have E:=(aZ.1 D).1
 have L:=kz _ _ _ _ hc
 have eR:R=R.take b++q.1::R.drop (b+1):=by rw [← (aZ.1 C).2]; exact (List.take_append_drop b R).symm.trans (by rw [List.drop_eq_getElem_cons G])
 have eF:F=F.take b++q.2.Lo::F.drop (b+1):=by rw [← (aZ.1 D).2]; exact (List.take_append_drop b F).symm.trans (by rw [List.drop_eq_getElem_cons E])
 rw [eR,eF,rZ _ _ _ _ _ _ (by simp only [List.length_take]; omega)] at hc
 have AA:(R.take b).length=b:=by rw [List.length_take]; omega
 rw [AA,Nat.zero_add] at hc
 obtain ⟨M,⟨o,ho,K,N,O⟩,J⟩:=hc
 have A:=uG (hi:=LK l r) (least:=eH l) (now:=r.gL) 0 (R.take b) q.1 (R.drop (b+1))
 rw [← eR,AA,Nat.zero_add,← B,H] at A
 have A:=Option.some.inj A
 have he:=sL hh (b+1) q.2.Lo (R.drop (b+1)) (F.drop (b+1)) (by rw [List.length_drop]; omega) om J
 rw [← K] at A
 split at A
 ·rename_i z
  have:=hh.hi b o om ho z
  omega
 ·omega
theorem CQ {a b:List (Int×ai)} {h k:ai} (ha:kM a h) (hb:kM b k) (hab: ∀ x∈b,(∃ y∈a,y.2.Lo≤x.2.Lo)∧ ∃ y∈a,x.2.Hi≤y.2.Hi) (hba: ∀ x∈a,(∃ y∈b,y.2.Lo≤x.2.Lo)∧ ∃ y∈b,x.2.Hi≤y.2.Hi):h=k:=by
 rcases ha with ⟨rfl,rfl⟩|ha
 ·rcases hb with ⟨rfl,rfl⟩|hb
  ·rfl
  ·obtain ⟨x,hx,_⟩:=hb.lo
   obtain ⟨⟨y,hy,_⟩,_⟩:=hab x hx
   cases hy
 ·rcases hb with ⟨rfl,rfl⟩|hb
  ·obtain ⟨x,hx,_⟩:=ha.lo
   obtain ⟨⟨y,hy,_⟩,_⟩:=hba x hx
   cases hy
  ·obtain ⟨M,E,AA⟩:=ha.lo
   obtain ⟨N,F,V⟩:=ha.hi
   obtain ⟨O,G,W⟩:=hb.lo
   obtain ⟨P,H,X⟩:=hb.hi
   obtain ⟨⟨AB,A,Y⟩,_⟩:=hba M E
   obtain ⟨_,J,B,Z⟩:=hba N F
   obtain ⟨⟨K,C,c⟩,_⟩:=hab O G
   obtain ⟨_,L,D,d⟩:=hab P H
   have Q:=hb.all AB A
   have R:=hb.all J B
   have S:=ha.all K C
   have T:=ha.all L D
   apply ai.ext
   ·omega
   ·omega
theorem Ku (hle:e_ l=0) (hr:fW l r) {b:Nat} (hb:b<l.aj.length) {h:ai} (hh:kM (jt b (kO l r)) h):h=n7 l r b:=by
 have hk:=vy (l:=te (di l r) b) (fun q hq=>oK hq)
 refine CQ hh hk (fun x hx=>?_) (fun x hx=>?_)
 ·have hle':=oK hx
  obtain ⟨y,hy,_,A,C⟩:=(uZ hle hr hb (s:=x.1) (t:=x.2.Lo)).1 ⟨x,hx,rfl,Int.le_refl _,hle'⟩
  obtain ⟨z,hz,_,D,B⟩:=(uZ hle hr hb (s:=x.1) (t:=x.2.Hi)).1 ⟨x,hx,rfl,hle',Int.le_refl _⟩
  exact ⟨⟨y,hy,A⟩,z,hz,B⟩
 ·have hle':=w8 hle hr hx
  obtain ⟨y,hy,_,A,C⟩:=(uZ hle hr hb (s:=x.1) (t:=x.2.Lo)).2 ⟨x,hx,rfl,Int.le_refl _,hle'⟩
  obtain ⟨z,hz,_,D,B⟩:=(uZ hle hr hb (s:=x.1) (t:=x.2.Hi)).2 ⟨x,hx,rfl,hle',Int.le_refl _⟩
  exact ⟨⟨y,hy,A⟩,z,hz,B⟩
end
def qg (ws:List du) (b:Nat):Int:=if yH (jt b ws)=nv then 6 else 0
def p8 (ws:List du) (b:Nat):ai:=if yH (jt b ws)=nv then ⟨0,0⟩ else yH (jt b ws)
theorem Nf {l:List (Int×ai)} {h:ai} (hh:kM l h) (hl: ∀ q∈l,q.2.Lo≤q.2.Hi):yH l=h:=
 CQ (vy hl) hh (fun x hx=>⟨⟨x,hx,Int.le_refl _⟩,x,hx,Int.le_refl _⟩) (fun x hx=>⟨⟨x,hx,Int.le_refl _⟩,x,hx,Int.le_refl _⟩)
theorem EH {ws:List du} {b:Nat} (h:jt b ws=[]):qg ws b=6∧p8 ws b=⟨0,0⟩:=by
 unfold qg p8; rw [h]; exact ⟨if_pos rfl,if_pos rfl⟩
theorem Ek {ws:List du} {b:Nat} {o:ai} (hl: ∀ q∈jt b ws,q.2.Lo≤q.2.Hi) (h:o2 (jt b ws) o):qg ws b=0∧p8 ws b=o:=by
 have e:=Nf (.inr h) hl
 unfold qg p8; rw [e]; exact ⟨if_neg h.ne,if_neg h.ne⟩
/-- what was found until now -/
def n_ (b:Nat) (ws:List du) (fd:Bool) (o:ai):Prop:=(fd=false∧jt b ws=[])∨(fd=true∧o2 (jt b ws) o)
theorem Hb {b:Nat} {o:ai}:n_ b [] false o:= .inl ⟨rfl,rfl⟩
theorem Bz {q:Int×ai} (hq:q.2.Lo≤q.2.Hi):o2 [q] q.2:=⟨hq,⟨q,sm,rfl⟩,⟨q,sm,rfl⟩,fun x hx=>by simp at hx; subst hx; exact ⟨Int.le_refl _,Int.le_refl _⟩⟩
theorem AF {l:List (Int×ai)} {h:ai} {q:Int×ai} (hh:o2 l h) (hq:q.2.Lo≤q.2.Hi):o2 (l++[q]) ⟨min q.2.Lo h.Lo,max q.2.Hi h.Hi⟩:=by
 have:=vp (.inr hh) hq
 unfold ng at this
 rw [if_neg hh.ne] at this
 rcases this with ⟨e,_⟩|this
 ·simp at e
 ·exact this
theorem DW {b:Nat} {ws:List du} {fd:Bool} {o:ai} {y:du} (h:n_ b ws fd o) (hy:y.gp.length≤b):n_ b (ws++[y]) fd o:=by
 unfold n_; rw [yO hy]; exact h
theorem BA {b:Nat} {ws:List du} {fd:Bool} {o:ai} {y:du} {s f e:Int} (h:n_ b ws fd o) (hf:fd=false) (h1:y.gp[b]? =some s) (h2:y.jg[b]? =some f) (h3:y.mo[b]? =some e) (hle:f≤e):n_ b (ws++[y]) true ⟨f,e⟩:=by
 rcases h with ⟨_,q⟩|⟨q,_⟩
 ·right
  rw [qC h1 h2 h3,q]
  exact ⟨U,Bz hle⟩
 ·rw [q] at hf; cases hf
theorem DI {b:Nat} {ws:List du} {fd:Bool} {o:ai} {y:du} {s f e:Int} (h:n_ b ws fd o) (hf:fd=true) (h1:y.gp[b]? =some s) (h2:y.jg[b]? =some f) (h3:y.mo[b]? =some e) (hle:f≤e):n_ b (ws++[y]) true ⟨min f o.Lo,max e o.Hi⟩:=by
 rcases h with ⟨q,_⟩|⟨_,q⟩
 ·rw [q] at hf; cases hf
 ·right
  rw [qC h1 h2 h3]
  exact ⟨U,AF q hle⟩
theorem z6 {b:Nat} {ws:List du} {fd:Bool} {o:ai} (h:n_ b ws fd o) (hl: ∀ q∈jt b ws,q.2.Lo≤q.2.Hi):(fd=false→qg ws b=6∧p8 ws b=⟨0,0⟩)∧(fd=true→qg ws b=0∧p8 ws b=o):=by
 rcases h with ⟨q,h⟩|⟨q,h⟩
 ·exact ⟨fun _=>EH h,fun e=>(by rw [q] at e; cases e)⟩
 ·exact ⟨fun e=>(by rw [q] at e; cases e),fun _=>Ek hl h⟩
section
variable {l:bq} {r:cQ}
theorem pH (he:fq l r 0=0) {b:Nat} (hb:b<l.aj.length):qg (kO l r) b=eA l r b∧p8 (kO l r) b=dD l r b:=by
 obtain ⟨A,hr,_,_⟩:=iD he
 have h:=Ku A hr hb (vy fun q hq=>w8 A hr hq)
 have ho:fq l r (fQ l b)=0:=by rw [Hf hb]; exact he
 unfold qg p8
 rw [h]
 by_cases e:n7 l r b=nv
 ·rw [if_pos e,if_pos e,(rz ho e).1,(rz ho e).2]; exact ⟨rfl,rfl⟩
 ·rw [if_neg e,if_neg e,(rJ ho e).1,(rJ ho e).2]; exact ⟨rfl,rfl⟩
theorem Ph (hle:e_ l=0) (hr:fW l r) {y:du} (hy:y∈kO l r) {b:Nat} {f e:Int} (hb:b<y.gp.length) (h2:y.jg[b]? =some f) (h3:y.mo[b]? =some e):f≤e:=
 w8 hle hr (q:=(y.gp[b],⟨f,e⟩)) (nT.2 ⟨y,hy,fZ _,h2,h3⟩)
theorem BD:fq l r (fQ l l.bU)=fq l r 0:=by
 by_cases h:e_ l=0
 ·obtain ⟨_,A⟩:=dw h
  have hh:=A.head
  unfold eL at hh
  rw [mV om]
 ·rw [iQ h,iQ h]
theorem we (h: ¬ fq l r 0=0):eA l r l.bU=fq l r 0:=by
 have:=(dK (b:=l.bU) (by rw [BD]; exact h)).1
 rw [this,BD]
/-- rows of times that are those of ways -/
structure LZ (ws:List du):Prop where
 lens: ∀ y∈ws,y.jg.length=y.gp.length∧y.mo.length=y.gp.length∧y.gp.length≤6
 le: ∀ y∈ws,∀ (b:Nat) f e,b<y.gp.length→y.jg[b]? =some f→y.mo[b]? =some e→f≤e
 num:ws.length≤40000000
theorem LZ.Fk {ws:List du} (h:LZ ws) {b:Nat}: ∀ q∈jt b ws,q.2.Lo≤q.2.Hi:=fun q hq=>by
 obtain ⟨y,hy,A,B,C⟩:=nT.1 hq
 exact h.le y hy b _ _ (aZ.1 A).1 B C
theorem D8 (hle:e_ l=0) (hr:fW l r):LZ (kO l r):=by
 obtain ⟨ht,B⟩:=dw hle
 have hh:=B.head
 unfold eL at hh
 refine ⟨fun y hy=>?_,fun y hy b f e hb A C=>Ph hle hr hy hb A C,vx hr.len om⟩
 obtain ⟨D,A,C⟩:=IE hle hr hy
 exact ⟨D,A,om⟩
/-- is a number of beams told -/
def Pk (ws:List du) (n:Nat):Bool:=ws.any fun y=>decide (y.gp.length=n)
theorem uC {ws:List du} {n:Nat} {y:du}:Pk (ws++[y]) n=(Pk ws n||decide (y.gp.length=n)):=by unfold Pk; rw [List.any_append]; simp
end
end
section
open Go.RowKit
structure JQ (S:BS) (w0:World) (X:ay) (C0:List ay) (w:World) (S':BS):Prop where
 st:St S w0 (X::C0) w
 w_: ∀ b,S'.w b↔ ∃ A∈C0,A.wf b
theorem Eh {A B:ay} (h:Dm A B):Dm A.ro B:=fun b C D=>⟨fun h=>h,(h b C D).2⟩
theorem CY {E:fH} {c:Code} {Q:dv} {D:iw} {L:dF} {C C0:List ay} {X:ay} (i:Nat) (hn:decide (i::(List.range C.length).filter fun k=>k != i).Nodup=true) (hC:kS C (i::(List.range C.length).filter fun k=>k != i)=X::C0)
 (h: ∀ w S',JQ E.S E.w0 X C0 w S'→WJ ⟨E.P,E.r,E.n,S',w⟩ c Q D L (X.ro::C0)):WJ E c Q D L C:=fun a w hf hs=>by
 have F:=St.kS _ hn hC hs
 obtain ⟨G,H⟩:=List.pairwise_cons.1 F.sep
 refine h w ⟨fun b=> ∃ A∈C0,A.wf b,fun _=>True⟩ ⟨F,fun b=>Iff.rfl⟩ a w hf ⟨dZ.refl _ _,fun A hA=>?_,List.Pairwise.cons (fun B hB=>Eh (G B hB)) H,fun A hA b hb=>?_,fun A hA b hb=> .inr trivial⟩
 ·rcases cm.1 hA with rfl|hA
  ·exact F.holds X (cr ..)
  ·exact F.holds A (dH _ hA)
 ·rcases cm.1 hA with rfl|hA
  ·exact hb.elim
  ·exact .inr ⟨A,hA,hb⟩
theorem AM {E:fH} {S':BS} {w:World} {K:Act→World→Prop} {D:iw} {L:dF} {C0 C1 C2:List ay} {X:ay} (hz:JQ E.S E.w0 X C0 w S') (is:List Nat) (hn:decide is.Nodup=true) (hC:kS C2 is=C1) (hwr:C1.all (·.wr)=true)
 (h:KJ E K D L (X::C1)):KJ ⟨E.P,E.r,E.n,S',w⟩ K D L C2:=fun a w' hf hs=>by
 have F:=St.kS is hn hC hs
 have C:=hz.st
 obtain ⟨J,M⟩:=List.pairwise_cons.1 C.sep
 have AA: ∀ b,X.fO b→ ¬ S'.w b:=fun b hb hw=>by
  obtain ⟨A,hA,hw⟩:=(hz.w_ b).1 hw
  exact (J A hA b hb (A.k9 b hw)).2 hw
 have G: ∀ b,S'.w b→E.w0.heap.size≤b∨E.S.w b:=fun b hb=>by
  obtain ⟨A,hA,hw⟩:=(hz.w_ b).1 hb
  exact C.own A (dH _ hA) b hw
 have H: ∀ A∈C1,∀ b,A.fO b→w.heap.size≤b∨S'.w b:=fun A hA b hb=>F.own A hA b (A.whole (c_.1 hwr A hA) b hb)
 refine h a w' hf ⟨?_,fun A hA=>?_,List.Pairwise.cons (fun B hB b hb hb'=>?_) F.sep,fun A hA b hb=>?_,fun A hA b hb=>?_⟩
 ·refine ⟨F.keeps.os.trans C.keeps.os,F.keeps.tape.trans C.keeps.tape,F.keeps.output.trans C.keeps.output,Nat.le_trans C.keeps.size F.keeps.size,fun k hk hn'=>?_⟩
  refine (F.keeps.block k (Nat.lt_of_lt_of_le hk C.keeps.size) fun hw=>?_).trans (C.keeps.block k hk hn')
  rcases G k hw with q|q
  ·omega
  ·exact hn' q
 ·rcases cm.1 hA with rfl|hA
  ·have hh:=C.holds A (cr ..)
   exact A.px w w' (fun b hb=>F.keeps.block b (A.lt w hh b hb) (AA b hb)) hh
  ·exact F.holds A hA
 ·exfalso
  have hl:=X.lt w (C.holds X (cr ..)) b hb
  rcases H B hB b hb' with q|q
  ·omega
  ·exact AA b hb q
 ·rcases cm.1 hA with rfl|hA
  ·exact C.own A (cr ..) b hb
  ·rcases F.own A hA b hb with q|q
   ·exact .inl (Nat.le_trans C.keeps.size q)
   ·exact G b q
 ·rcases cm.1 hA with rfl|hA
  ·exact C.seen A (cr ..) b hb
  ·rcases H A hA b hb with q|q
   ·exact .inl (Nat.le_trans C.keeps.size q)
   ·obtain ⟨B,hB,hw⟩:=(hz.w_ b).1 q
    exact C.seen B (dH _ hB) b (B.k9 b hw)
/-- put back, as it was -/
theorem GP {M A:Type} {f:M→A→List ay} {S:BS} {w0 w:World} {C:List ay} {ms:List M} {asl:List A} {k:Nat} {m:M} {a:A} {X:ay} (hm:ms[k]? =some m) (ha:asl[k]? =some a) (hf:f m a=[X]) (h:St S w0 (X::bQ (gU f ms asl k)::C) w):St S w0 (bQ (bK f ms asl)::C) w:=by
 have B:St S w0 (bQ (gU f ms asl k)::X::C) w:=h.perm (List.Perm.swap _ _ _)
 have D:St S w0 ((f m a++gU f ms asl k)++C) w:=by
  rw [hf]
  exact B.iN.perm (List.perm_middle (a:=X) (l₁:=gU f ms asl k) (l₂:=C))
 exact mx (mD hm ha).symm D.tied
theorem K7 {E:fH} {K:Act→World→Prop} {D:iw} {L:dF} {C C1:List ay} {M A:Type} {f:M→A→List ay} {ms:List M} {asl:List A} {k:Nat} {m:M} {a:A} {X:ay} (i j:Nat) (hm:ms[k]? =some m) (ha:asl[k]? =some a) (hf:f m a=[X])
 (hn:decide (j::i::(List.range C.length).filter fun k=>k != i&&k != j).Nodup=true) (hC:kS C (j::i::(List.range C.length).filter fun k=>k != i&&k != j)=X::bQ (gU f ms asl k)::C1)
 (h:KJ E K D L (bQ (bK f ms asl)::C1)):KJ E K D L C:=fun a w hf' hs=>h a w hf' (GP hm ha hf (St.kS _ hn hC hs))
theorem zh {M A:Type} {f:M→A→List ay} {ms:List M} {asl:List A} {m:M} {a:A} {X:ay} (hl:ms.length=asl.length) (hf:f m a=[X]):bK f ms asl++[X]=bK f (ms++[m]) (asl++[a]):=by
 rw [jJ hl,← hf]; simp [bK]
theorem zq {E:fH} {K:Act→World→Prop} {D:iw} {L:dF} {C C1:List ay} {M A:Type} {f:M→A→List ay} {ms:List M} {asl:List A} {m:M} {a:A} {X:ay} (i j:Nat) (hf:f m a=[X])
 (hn:decide (j::i::(List.range C.length).filter fun k=>k != i&&k != j).Nodup=true) (hC:kS C (j::i::(List.range C.length).filter fun k=>k != i&&k != j)=X::bQ (bK f ms asl)::C1)
 (h:KJ E K D L (bQ (bK f (m::ms) (a::asl))::C1)):KJ E K D L C:=fun b w hf' hs=>by
 have B:=St.kS _ hn hC hs
 have F:St E.S E.w0 (bQ (bK f ms asl)::X::C1) w:=B.perm (List.Perm.swap _ _ _)
 have G:St E.S E.w0 (bK f (m::ms) (a::asl)++C1) w:=by
  show St E.S E.w0 ((f m a++bK f ms asl)++C1) w
  rw [hf]
  exact F.iN.perm (List.perm_middle (a:=X) (l₁:=bK f ms asl) (l₂:=C1))
 exact h b w hf' G.tied
end
section
open Go.RowKit
abbrev mI (r:Nat):ay:=ju r (.deferred (some []))
theorem Nl (rs:List Nat):(bQ (rs.map mI)).wr=true:=by
 show (rs.map mI).all (·.wr)=true
 rw [c_]
 intro X hX
 obtain ⟨r,_,rfl⟩:=db.1 hX
 rfl
theorem wX {E:fH} {c:Code} {Q:dv} {D:iw} {L:dF} {C:List ay} {ι:Type} (Di:ι→iw) (Li:ι→dF) (Ci:ι→List ay) (μ:ι→Nat) (x0:ι)
 (hD:D=Di x0) (h0:cR L (Li x0)) (hC: ∀ w,St E.S E.w0 C w→St E.S E.w0 (Ci x0) w)
 (round: ∀ x (J:Act→World→Prop),(∀ y D' L' C',D'=Di y→μ y<μ x→cR L' (Li y)→(∀ w,St E.S E.w0 C' w→St E.S E.w0 (Ci y) w)→KJ E J D' L' C')→WJ E c (Exit.then J Q) (Di x) (Li x) (Ci x)):WJ E (.loop c) Q D L C:=by
 intro a w hf hs
 subst hD
 have H: ∃ x,Fr E.n (Di x) (Li x) a∧St E.S E.w0 (Ci x) w:=⟨x0,hf.sub h0,hC w hs⟩
 clear hf hs
 have key: ∀ (m:Nat) (a:Act) (w:World),(∃ x,μ x=m∧Fr E.n (Di x) (Li x) a∧St E.S E.w0 (Ci x) w)→(Code.loop c).wpIn (Fw E.r) 0 E.P Q a w:=by
  intro m a w hx
  refine wpIn_loop (fun a w=> ∃ x,Fr E.n (Di x) (Li x) a∧St E.S E.w0 (Ci x) w) (fun a w=>leastOf fun k=> ∃ x,μ x=k∧Fr E.n (Di x) (Li x) a∧St E.S E.w0 (Ci x) w) (by obtain ⟨x,_,h⟩:=hx; exact ⟨x,h⟩) ?_
  intro a w hx
  have F: ∃ k,∃ x,μ x=k∧Fr E.n (Di x) (Li x) a∧St E.S E.w0 (Ci x) w:=by obtain ⟨x,h⟩:=hx; exact ⟨_,x,rfl,h⟩
  obtain ⟨x,K,AA,M⟩:=(leastOf_spec F).1
  refine round x _ ?_ a w AA M
  intro y D' L' C' hD G A B a' w' hf' hs'
  subst hD
  refine ⟨⟨y,hf'.sub A,B _ hs'⟩,?_⟩
  rw [← K]
  exact Nat.lt_of_le_of_lt ((leastOf_spec ⟨_,y,U,hf'.sub A,B _ hs'⟩).2 _ ⟨y,U,hf'.sub A,B _ hs'⟩) G
 obtain ⟨x,h⟩:=H
 exact key _ a w ⟨x,U,h⟩
theorem St.U8 {S:BS} {w0 w:World} {C X:List ay} {A:ay} (h:St S w0 (A::bQ X::C) w):St S w0 (bQ (A::X)::C) w:=by
 have B:St S w0 (bQ X::A::C) w:=h.perm (List.Perm.swap _ _ _)
 have D:St S w0 ((A::X)++C) w:=B.iN.perm (List.perm_middle (a:=A) (l₁:=X) (l₂:=C))
 exact D.tied
theorem Kx {E:fH} {K:Act→World→Prop} {D:iw} {L:dF} {C C1 X:List ay} {A:ay} (i j:Nat) (hn:decide (j::i::(List.range C.length).filter fun k=>k != i&&k != j).Nodup=true) (hC:kS C (j::i::(List.range C.length).filter fun k=>k != i&&k != j)=A::bQ X::C1)
 (h:KJ E K D L (bQ (A::X)::C1)):KJ E K D L C:=fun a w hf hs=>h a w hf ((St.kS _ hn hC hs).U8)
theorem Eu {E:fH} {K:Act→World→Prop} {D:iw} {L:dF} {C:List ay} (h:KJ E K D L (bQ []::C)):KJ E K D L C:=fun a w hf hs=>h a w hf hs.PE
theorem QD {E:fH} {K:Act→World→Prop} {D:iw} {L:dF} (C1 C2:List ay) (h:KJ E K D L (bQ C1::C2)):KJ E K D L (C1++C2):=fun a w hf hs=>h a w hf (St.tied hs)
theorem L6 {E:fH} {fn:Func} {R:Ending→World→Prop} {D:iw} {L:dF} {C C1:List ay} {rs:List Nat} (i:Nat) (hn:decide (i::(List.range C.length).filter fun k=>k != i).Nodup=true) (hC:kS C (i::(List.range C.length).filter fun k=>k != i)=bQ (rs.map mI)::C1)
 (h:LJ E fn R D L C1):LJ E fn R (rs.map jY++D) L C:=by
 have key: ∀ rs:List Nat,LJ E fn R (rs.map jY++D) L (bQ (rs.map mI)::C1):=by
  intro rs
  induction rs with
  |nil=>exact fun a w hf hs=>h a w hf (hs.take (List.sublist_cons_self _ _))
  |cons r rs ih=>
   have A:LJ E fn R (jY r::(rs.map jY++D)) L (mI r::bQ (rs.map mI)::C1):=rh 0 rfl rfl (fun a w hf hs=>ih a w hf (hs.take (List.sublist_cons_self _ _)))
   intro a w hf hs
   refine A a w hf ?_
   have B:St E.S E.w0 ((mI r::rs.map mI)++C1) w:=St.iN (C1:=mI r::rs.map mI) hs
   have F:St E.S E.w0 (rs.map mI++(mI r::C1)) w:=B.perm (List.perm_middle (a:=mI r) (l₁:=rs.map mI) (l₂:=C1)).symm
   exact F.tied.perm (List.Perm.swap _ _ _)
 exact fun a w hf hs=>key rs a w hf (St.kS _ hn hC hs)
theorem Iy {E:fH} {fn:Func} {R:Ending→World→Prop} {L:dF} {C C1:List ay} {rs:List Nat} (i:Nat) (hn:decide (i::(List.range C.length).filter fun k=>k != i).Nodup=true) (hC:kS C (i::(List.range C.length).filter fun k=>k != i)=bQ (rs.map mI)::C1)
 (h:LJ E fn R [] L C1):LJ E fn R (rs.map jY) L C:=by
 have:=L6 (D:=[]) i hn hC h
 rwa [List.append_nil] at this
end
section
open Go.RowKit
/-- a row is taken that was made before; an operation -/
inductive gf where
 |take (i:Nat)
 |op (j:Nat)
def gf.ix:gf→Nat
 | .take i=>i
 | .op j=>j
def Cz (dO:Nat→Nat):List gf→List Nat
 |[]=>[]
 | .take i::s=>dO i::Cz dO s
 | .op _::s=>Cz dO s
theorem uW {dO:Nat→Nat} {i:Nat}: ∀ {s:List gf},gf.take i∈s→dO i∈Cz dO s
 | .take k::s,h=>by
  rcases cm.1 h with e|h
  ·cases e; exact cr ..
  ·exact dH _ (uW h)
 | .op k::s,h=>by
  rcases cm.1 h with e|h
  ·cases e
  ·exact uW (s:=s) h
def rB (m:Array Nat) (dO:Nat→Nat) (x y:gf):Bool:=x.ix != y.ix&&(match y with | .op j=>jc m x.ix j| .take i=>match x with | .take k=>dO k != dO i| .op _=>true)
def TS (m:Array Nat) (dO:Nat→Nat):List gf→Bool
 |[]=>true
 |x::s=>s.all (rB m dO x)&&TS m dO s
theorem Fu {m:Array Nat} {dO:Nat→Nat}: ∀ {s:List gf},TS m dO s=true→s.Pairwise fun x y=>rB m dO x y=true
 |[],_=>List.Pairwise.nil
 |x::s,h=>by
  simp only [TS,dk] at h
  exact List.Pairwise.cons (fun y hy=>c_.1 h.1 y hy) (Fu h.2)
/-- what is known of the slots B is known in L -/
def BN (B L:dF):Prop:= ∀ t v,B.lookup t=some v→L.lookup t=some v
theorem Af {B L:dF} (h:B.map (fun p=>L.lookup p.1)=B.map (fun p=>some p.2)):BN B L:=by
 induction B with
 |nil=>intro t v h; simp at h
 |cons p B ih=>
  obtain ⟨k,u⟩:=p
  simp only [List.map_cons,List.cons.injEq] at h
  intro t v hl
  by_cases e:t=k
  ·subst e
   simp only [List.lookup,beq_self_eq_true,Option.some.injEq] at hl
   rw [h.1,hl]
  ·have:(t==k)=false:=by simpa using e
   simp only [List.lookup,this] at hl
   exact ih h.2 t v hl
theorem ou {L Y:dF} {t:Nat}:(L++Y).lookup t=match L.lookup t with |some v=>some v|none=>Y.lookup t:=by
 induction L with
 |nil=>rfl
 |cons p L ih=>
  obtain ⟨k,u⟩:=p
  by_cases e:t==k
  ·simp [List.lookup,e]
  ·have:(t==k)=false:=by simpa using e
   simp only [List.cons_append,List.lookup,this,ih]
theorem BN.app {B L Y:dF} (h:BN B L):BN B (L++Y):=fun t v ht=>by rw [ou,h t v ht]
theorem Px {B L:dF} (h:BN B L) {x:Operand} {v:Value} (hv:ev B x=some v):ev L x=some v:=by
 cases x<;>simp only [ev] at hv ⊢ <;>first|exact h _ _ hv|exact hv
theorem Fh {B L:dF} (h:BN B L): ∀ {xs:List Operand} {vs:List Value},evs B xs=some vs→evs L xs=some vs
 |[],vs,hv=>hv
 |x::xs,vs,hv=>by
  simp only [evs] at hv ⊢
  cases e1:ev B x with
  |none=>rw [e1] at hv; simp at hv
  |some v=>
   cases e2:evs B xs with
   |none=>rw [e1,e2] at hv; simp at hv
   |some us=>
    rw [e1,e2] at hv
    rw [Px h e1,Fh h e2]; exact hv
section
variable (E:fH) (ops:Array Oper) (D:List Deferred) (C':List ay) (K0:Act→World→Prop) (B:List (Nat×Value)) (dO:Nat→Nat) (VO:Nat→Nat→Value) (AO:Nat→Nat→ay)
def CH:List gf→dF→List ay→Prop
 |[],L,C=>KJ E K0 D L C
 | .take i::s,L,C=> ∀ b,CH s ((dO i,VO i b)::L) (AO i b::C)
 | .op j::s,L,C=> ∀ o,ops[j]? =some o→ ∀ (Y:dF) (X:List ay) (K:Act→World→Prop),(∀ L' C'',(∀ w,St E.S E.w0 C'' w→St E.S E.w0 C' w)→((Cz dO s).all fun d=>(L'.lookup d).isNone)=true→B.map (fun p=>L'.lookup p.1)=B.map (fun p=>some p.2)→CH s L' C''→KJ E K D (L'++Y) (C''++X))→RJ E ops (NQ K) [o] D (L++Y) (C++X)
/-- a row that is made at any time -/
def Rr (i:Nat):Prop:= ∀ o,ops[i]? =some o→ ∀ (L:dF) (C:List ay) (K:Act→World→Prop),BN B L→(∀ w,St E.S E.w0 C w→St E.S E.w0 C' w)→(∀ b,KJ E K D ((dO i,VO i b)::L) (AO i b::C))→RJ E ops (NQ K) [o] D L C
end
section
variable {E:fH} {ops:Array Oper} {D:List Deferred} {C' C1:List ay} {K0:Act→World→Prop} {B:List (Nat×Value)} {dO:Nat→Nat} {VO:Nat→Nat→Value} {AO:Nat→Nat→ay}
theorem MG {Q:dv} {rest:List Oper} {L L2:dF} {C C2:List ay} (hL: ∀ a,Fr E.n D L a→Fr E.n D L2 a) (hC: ∀ w,St E.S E.w0 C w→St E.S E.w0 C2 w) (h:RJ E ops Q rest D L2 C2):RJ E ops Q rest D L C:=fun a w hf hs=>h a w (hL a hf) (hC w hs)
theorem Ft {K:Act→World→Prop} {L L2:dF} {C C2:List ay} (hL: ∀ a,Fr E.n D L a→Fr E.n D L2 a) (hC: ∀ w,St E.S E.w0 C w→St E.S E.w0 C2 w) (h:KJ E K D L2 C2):KJ E K D L C:=fun a w hf hs=>h a w (hL a hf) (hC w hs)
theorem F0 {n:Nat} {L L2:dF} (h: ∀ t v,L2.lookup t=some v→L.lookup t=some v) (a:Act) (hf:Fr n D L a):Fr n D L2 a:=⟨hf.defers,hf.size,fun t v ht=>hf.at_ t v (h t v ht)⟩
theorem EA: ∀ (T0 s':List gf) (dn:List (Nat×Nat)) (L Y:dF) (C:List ay),(∀ x∈T0,∃ i b,x= .take i∧(i,b)∈dn)→(T0++s').Pairwise (fun x y=>rB (qR ops) dO x y=true)→(dn.map (·.1)).Nodup→(∀ p∈dn,gf.take p.1∈T0++s')→(∀ p∈dn,Y.lookup (dO p.1)=some (VO p.1 p.2))→(∀ i,gf.take i∈T0++s'→L.lookup (dO i)=none)→
 CH E ops D C' K0 B dO VO AO (T0++s') L C→ ∃ (dn':List (Nat×Nat)) (L':dF) (C2:List ay),CH E ops D C' K0 B dO VO AO s' L' C2∧(dn'.map (·.1)).Nodup∧(∀ p,p∈dn'↔p∈dn∧gf.take p.1∈s')∧(∀ t v,(L'++Y).lookup t=some v→(L++Y).lookup t=some v)∧(∀ i,gf.take i∈s'→L'.lookup (dO i)=none)∧(∀ w,St E.S E.w0 (C++dn.map fun p=>AO p.1 p.2) w→St E.S E.w0 (C2++dn'.map fun p=>AO p.1 p.2) w)
 |[],s',dn,L,Y,C,_,_,hn,hm,_,hl,h=>⟨dn,L,C,h,hn,fun p=>⟨fun q=>⟨q,hm p q⟩,fun q=>q.1⟩,fun t v q=>q,hl,fun w q=>q⟩
 |x::T0,s',dn,L,Y,C,ht,hp,hn,hm,hy,hl,h=>by
  obtain ⟨i,b,rfl,hb⟩:=ht x (cr ..)
  obtain ⟨J,P⟩:=List.pairwise_cons.1 hp
  have AB: ∀ y∈T0++s',i≠y.ix:=fun y hy e=>by
   have:=J y hy
   simp only [rB,dk,bne_iff_ne,gf.ix] at this
   exact this.1 e
  have N: ∀ k,gf.take k∈T0++s'→dO k≠dO i:=fun k hk e=>by
   have:=J _ hk
   simp only [rB,dk,bne_iff_ne] at this
   exact this.2 e.symm
  have K:dn.Perm ((i,b)::dn.erase (i,b)):=List.perm_cons_erase hb
  have H:((dn.erase (i,b)).map (·.1)).Nodup∧i ∉ (dn.erase (i,b)).map (·.1):=by
   have:=(K.map (·.1)).nodup_iff.1 hn
   exact ⟨(List.nodup_cons.1 this).2,(List.nodup_cons.1 this).1⟩
  have A: ∀ p∈dn.erase (i,b),p∈dn∧p.1≠i:=fun p hp=>⟨List.mem_of_mem_erase hp,fun e=>by have q:=List.mem_map_of_mem (f:=fun p:Nat×Nat=>p.1) hp; simp only [e] at q; exact H.2 q⟩
  have O:L.lookup (dO i)=none:=hl i (cr ..)
  obtain ⟨dn',L',C2,R,T,AA,V,W,X⟩:=EA T0 s' (dn.erase (i,b)) ((dO i,VO i b)::L) Y (AO i b::C) (fun x hx=>by
   obtain ⟨k,c,rfl,hk⟩:=ht x (dH _ hx)
   refine ⟨k,c,U,?_⟩
   have F:k≠i:=fun e=>AB _ (List.mem_append_left _ hx) e.symm
   exact (List.mem_erase_of_ne (fun e=>F (congrArg Prod.fst e))).2 hk) P H.1 (fun p hp=>by
   obtain ⟨M,G⟩:=A p hp
   rcases cm.1 (hm p M) with e|e
   ·injection e with e; exact absurd e G
   ·exact e) (fun p hp=>hy p (A p hp).1) (fun k hk=>by
   have:(dO k==dO i)=false:=by simpa using N k hk
   simp only [List.lookup,this]
   exact hl k (dH _ hk)) (h b)
  refine ⟨dn',L',C2,R,T,fun p=>?_,fun t v hv=>?_,W,fun w hw=>X w ?_⟩
  ·rw [AA]
   constructor
   ·rintro ⟨M,G⟩; exact ⟨(A p M).1,G⟩
   ·rintro ⟨M,G⟩
    have F:p.1≠i:=fun e=>AB _ (List.mem_append_right _ G) e.symm
    exact ⟨(List.mem_erase_of_ne (fun e=>F (congrArg Prod.fst e))).2 M,G⟩
  ·have:=V t v hv
   rw [ou] at this ⊢
   by_cases e:t=dO i
   ·subst e
    simp only [List.lookup,beq_self_eq_true] at this
    rw [O]; simp only
    rw [hy _ hb]; exact this
   ·have Q:(t==dO i)=false:=by simpa using e
    simp only [List.lookup,Q] at this
    exact this
  ·refine hw.perm ?_
   show (C++dn.map fun p=>AO p.1 p.2).Perm (AO i b::(C++(dn.erase (i,b)).map fun p=>AO p.1 p.2))
   refine ((K.map fun p:Nat×Nat=>AO p.1 p.2).append_left C).trans ?_
   exact List.perm_middle
theorem CW: ∀ (s:List gf) (j:Nat),gf.op j∈s→ ∃ T0 k s',s=T0++gf.op k::s'∧ ∀ x∈T0,∃ i,x=gf.take i
 | .take i::s,j,h=>by
  rcases cm.1 h with e|h
  ·cases e
  ·obtain ⟨T0,k,s',rfl,A⟩:=CW s j h
   exact ⟨.take i::T0,k,s',U,fun x hx=>by
    rcases cm.1 hx with rfl|hx
    ·exact ⟨i,U⟩
    ·exact A x hx⟩
 | .op k::s,j,_=>⟨[],k,s,rfl,fun x hx=>by cases hx⟩
def k8 (s:List gf) (dn:List (Nat×Nat)):List Nat:=(s.map gf.ix).filter fun i=> !(dn.map (·.1)).contains i
theorem r_ {s:List gf} {dn:List (Nat×Nat)} {i:Nat}:i∈k8 s dn↔(∃ x∈s,x.ix=i)∧ ∀ p∈dn,p.1≠i:=by
 unfold k8
 rw [List.mem_filter,db]
 refine and_congr Iff.rfl ?_
 rw [Bool.not_eq_true',← Bool.not_eq_true,List.contains_iff_mem,db]
 constructor
 ·intro h p hp e; exact h ⟨p,hp,e⟩
 ·rintro h ⟨p,hp,e⟩; exact h p hp e
theorem ry (hal: ∀ i,Rr E ops D C' B dO VO AO i∨True): ∀ (n:Nat) (s:List gf) (dn:List (Nat×Nat)) (L Y:dF) (C:List ay),(∀ i,gf.take i∈s→Rr E ops D C' B dO VO AO i)→s.Pairwise (fun x y=>rB (qR ops) dO x y=true)→(k8 s dn).length=n→(dn.map (·.1)).Nodup→(∀ p∈dn,gf.take p.1∈s)→(∀ p∈dn,Y.lookup (dO p.1)=some (VO p.1 p.2))→(∀ i,gf.take i∈s→L.lookup (dO i)=none)→BN B L→
 (∀ w,St E.S E.w0 C w→St E.S E.w0 C' w)→CH E ops D C' K0 B dO VO AO s L C→TN E ops D C' C1 (fun L C=>KJ E K0 D L C) [] n (k8 s dn) (L++Y) (C++dn.map fun p=>AO p.1 p.2)
 |0,s,dn,L,Y,C,_,hp,hlen,hn,hm,hy,hl,hB,hC,h=>by
  have hr:k8 s dn=[]:=kE hlen
  have Q: ∀ x∈s,∃ i b,x=gf.take i∧(i,b)∈dn:=fun x hx=>by
   have hx':x.ix ∉ k8 s dn:=by rw [hr]; exact List.not_mem_nil
   rw [r_] at hx'
   have: ∃ p∈dn,p.1=x.ix:=by
    apply Classical.byContradiction
    intro q
    exact hx' ⟨⟨x,hx,U⟩,fun p hp e=>q ⟨p,hp,e⟩⟩
   obtain ⟨p,T,AA⟩:=this
   have ht:=hm p T
   rcases List.mem_iff_getElem.1 hx with ⟨a,ha,ea⟩
   rcases List.mem_iff_getElem.1 ht with ⟨c,hc,ec⟩
   have d:a=c:=by
    rcases Nat.lt_trichotomy a c with q|q|q
    ·have:=eZ.1 hp a c ha hc q
     simp only [rB,dk,bne_iff_ne,ea,ec] at this
     exact absurd AA.symm this.1
    ·exact q
    ·have:=eZ.1 hp c a hc ha q
     simp only [rB,dk,bne_iff_ne,ea,ec] at this
     exact absurd AA this.1
   subst d
   exact ⟨p.1,p.2,by rw [← ea,ec],T⟩
  obtain ⟨dn',L',C2,V,J,O,W,h5,X⟩:=EA s [] dn L Y C Q (by simpa using hp) hn (by simpa using hm) hy (by simpa using hl) (by simpa using h)
  show KJ E K0 D _ _
  have hd:dn'=[]:=List.eq_nil_iff_forall_not_mem.2 fun p hp=>by have:=((O p).1 hp).2; cases this
  subst hd
  refine Ft (L2:=L') (C2:=C2) (fun a hf=>F0 (fun t v ht=>W t v (by rw [ou,ht])) a hf) (fun w hw=>by have:=X w hw; simpa using this) V
 |n+1,s,dn,L,Y,C,hal',hp,hlen,hn,hm,hy,hl,hB,hC,h=>by
  intro i hi o ho K hK
  obtain ⟨G,m⟩:=List.mem_filter.1 hi
  obtain ⟨⟨x,hx,rfl⟩,H⟩:=r_.1 G
  have A: ∀ k∈k8 s dn,jc (qR ops) k x.ix=false:=fun k hk=>by
   have:=c_.1 m k hk
   simpa using this
  cases x with
  |take i=>
   simp only [gf.ix] at H A ho hK G ⊢
   refine hal' i hx o ho _ _ K hB.app (fun w hw=>hC w (hw.take (List.sublist_append_left _ _))) fun b=>?_
   have l:=hl i hx
   have AB:(k8 s dn).filter (· != i)=k8 s ((i,b)::dn):=by
    unfold k8
    rw [List.filter_filter]
    apply List.filter_congr
    intro k _
    simp only [List.map_cons,List.contains_cons,Bool.not_or]
    rfl
   have N:(k8 s dn).Nodup:=by
    unfold k8
    refine List.Nodup.sublist List.filter_sublist<|List.pairwise_map.2 (hp.imp fun {a c} q=>?_)
    simp only [rB,dk,bne_iff_ne] at q
    exact q.1
   have M: ∀ k,gf.take k∈s→k≠i→dO k≠dO i:=fun k hk AC e=>by
    rcases List.mem_iff_getElem.1 hx with ⟨a,ha,ea⟩
    rcases List.mem_iff_getElem.1 hk with ⟨c,hc,ec⟩
    rcases Nat.lt_trichotomy a c with q|q|q
    ·have:=eZ.1 hp a c ha hc q
     simp only [rB,dk,bne_iff_ne,ea,ec] at this
     exact this.2 e.symm
    ·subst q; rw [ea] at ec; cases ec; exact AC rfl
    ·have:=eZ.1 hp c a hc ha q
     simp only [rB,dk,bne_iff_ne,ea,ec] at this
     exact this.2 e
   refine Ft (L2:=L++((dO i,VO i b)::Y)) (C2:=C++((i,b)::dn).map fun p=>AO p.1 p.2) (fun a hf=>F0 (fun t v ht=>?_) a hf) (fun w hw=>hw.perm (List.perm_middle).symm) (hK _ _ (fun w hw=>hC w (hw.take (List.sublist_append_left _ _))) (fun q=>by cases q) ?_)
   ·rw [ou] at ht
    by_cases e:t=dO i
    ·subst e
     rw [l] at ht
     simp only [List.lookup,beq_self_eq_true] at ht ⊢
     exact ht
    ·have e2:(t==dO i)=false:=by simpa using e
     simp only [List.lookup,e2] at ht ⊢
     rw [ou]; exact ht
   ·rw [AB]
    refine ry hal n s ((i,b)::dn) L ((dO i,VO i b)::Y) C hal' hp ?_ (List.nodup_cons.2 ⟨fun q=>?_,hn⟩) (fun p hp'=>?_) (fun p hp'=>?_) hl hB hC h
    ·rw [← AB,← List.Nodup.erase_eq_filter N,List.length_erase_of_mem G,hlen]; rfl
    ·obtain ⟨p,hp',e⟩:=db.1 q
     exact H p hp' e
    ·rcases cm.1 hp' with rfl|hp'
     ·exact hx
     ·exact hm p hp'
    ·rcases cm.1 hp' with rfl|hp'
     ·simp [List.lookup]
     ·have:(dO p.1==dO i)=false:=by simpa using M p.1 (hm p hp') (H p hp')
      simp only [List.lookup,this]
      exact hy p hp'
  |op j=>
   simp only [gf.ix] at H A ho hK G ⊢
   obtain ⟨T0,k,s',rfl,hT⟩:=CW s j hx
   obtain ⟨q1,q2,q3⟩:=List.pairwise_append.1 hp
   obtain ⟨q4,q5⟩:=List.pairwise_cons.1 q2
   have R: ∀ k',gf.op k'∈T0++gf.op k::s'→k'∈k8 (T0++gf.op k::s') dn:=fun k' hk'=>by
    refine r_.2 ⟨⟨_,hk',U⟩,fun p hp' e=>?_⟩
    have ht:=hm p hp'
    rcases List.mem_iff_getElem.1 hk' with ⟨a,ha,ea⟩
    rcases List.mem_iff_getElem.1 ht with ⟨c,hc,ec⟩
    rcases Nat.lt_trichotomy a c with q|q|q
    ·have:=eZ.1 hp a c ha hc q
     simp only [rB,dk,bne_iff_ne,ea,ec,gf.ix] at this
     exact this.1 e.symm
    ·subst q; rw [ea] at ec; cases ec
    ·have:=eZ.1 hp c a hc ha q
     simp only [rB,dk,bne_iff_ne,ea,ec,gf.ix] at this
     exact this.1 e
   have AU:k=j:=by
    apply Classical.byContradiction
    intro Ag
    have hj':gf.op j∈s':=by
     rcases gQ.1 hx with q|q
     ·obtain ⟨i,e⟩:=hT _ q; cases e
     ·rcases cm.1 q with e|q
      ·injection e with e; exact absurd e.symm Ag
      ·exact q
    have:=q4 _ hj'
    simp only [rB,dk,gf.ix] at this
    have J:=A k (R k sm)
    rw [this.2] at J; cases J
   subst AU
   have F: ∀ x∈T0,∃ i b,x=gf.take i∧(i,b)∈dn:=fun x hx'=>by
    obtain ⟨i,rfl⟩:=hT x hx'
    apply Classical.byContradiction
    intro q
    have r:i∈k8 (T0++gf.op k::s') dn:=r_.2 ⟨⟨_,List.mem_append_left _ hx',rfl⟩,fun p hp' e=>q ⟨i,p.2,rfl,by rw [← e]; exact hp'⟩⟩
    have:=q3 _ hx' _ (cr ..)
    simp only [rB,dk,gf.ix] at this
    have J:=A i r
    rw [this.2] at J; cases J
   obtain ⟨dn',L',C2,V,J,O,W,h5,X⟩:=EA T0 (gf.op k::s') dn L Y C F hp hn hm hy hl h
   refine MG (fun a hf=>F0 W a hf) X (V o ho Y (dn'.map fun p=>AO p.1 p.2) K fun L3 C3 P Ax Z g=>?_)
   have AB:(k8 (T0++gf.op k::s') dn).filter (· != k)=k8 s' dn':=by
    unfold k8
    rw [List.map_append,List.filter_append,List.map_cons,List.filter_append]
    have e1:(List.map gf.ix T0).filter (fun i=> !(dn.map (·.1)).contains i)=[]:=by
     apply List.filter_eq_nil_iff.2
     intro z hz
     obtain ⟨x,hx',rfl⟩:=db.1 hz
     obtain ⟨i,b,rfl,hb⟩:=F x hx'
     simp only [gf.ix,Bool.not_eq_true',Bool.not_eq_false,List.contains_iff_mem]
     exact List.mem_map_of_mem (f:=(·.1)) hb
    rw [e1]
    simp only [List.filter_nil,List.nil_append]
    have u:k ∉ dn.map (·.1):=fun q=>by
     obtain ⟨p,hp',e⟩:=db.1 q
     exact H p hp' e
    rw [List.filter_cons_of_pos (by simpa [gf.ix] using u),List.filter_cons_of_neg (by simp [gf.ix]),List.filter_filter]
    apply List.filter_congr
    intro z hz
    obtain ⟨y,hy',rfl⟩:=db.1 hz
    have A0:y.ix≠k:=fun e=>by
     have:=q4 y hy'
     simp only [rB,dk,bne_iff_ne,gf.ix] at this
     exact this.1 e.symm
    rw [Bool.eq_iff_iff]
    simp only [dk,bne_iff_ne,Bool.not_eq_true',← Bool.not_eq_true,List.contains_iff_mem]
    constructor
    ·rintro ⟨_,hq⟩ hc
     obtain ⟨p,hp',e⟩:=db.1 hc
     exact hq (by rw [← e]; exact List.mem_map_of_mem (f:=(·.1)) ((O p).1 hp').1)
    ·intro hq
     refine ⟨A0,fun hc=>?_⟩
     obtain ⟨p,hp',e⟩:=db.1 hc
     apply hq
     rw [← e]
     refine List.mem_map_of_mem (f:=(·.1)) ((O p).2 ⟨hp',?_⟩)
     have ht:=hm p hp'
     rcases gQ.1 ht with ht|ht
     ·exfalso
      have:=q3 _ ht _ (dH _ hy')
      simp only [rB,dk,bne_iff_ne,gf.ix] at this
      exact this.1 e
     ·exact ht
   have N:(k8 (T0++gf.op k::s') dn).Nodup:=by
    unfold k8
    refine List.Nodup.sublist List.filter_sublist<|List.pairwise_map.2 (hp.imp fun {a c} q=>?_)
    simp only [rB,dk,bne_iff_ne] at q
    exact q.1
   refine hK _ _ (fun w hw=>P w (hw.take (List.sublist_append_left _ _))) (fun q=>by cases q) ?_
   rw [AB]
   have hdn': ∀ p∈dn',gf.take p.1∈s':=fun p hp'=>by
    rcases cm.1 ((O p).1 hp').2 with e|e
    ·cases e
    ·exact e
   refine ry hal n s' dn' L3 Y C3 (fun i hi=>hal' i (by simp [hi])) q5 ?_ J hdn' (fun p hp'=>hy p ((O p).1 hp').1) (fun i hi=>?_) (Af Z) P g
   ·rw [← AB,← List.Nodup.erase_eq_filter N,List.length_erase_of_mem G,hlen]; rfl
   ·have:=c_.1 Ax _ (uW hi)
    simpa using this
/-- the rows, at any time; the others, one after the other -/
theorem Nh {tb rem:List Nat} {L:dF} {C:List ay} (s:List gf) (B:dF) (dO:Nat→Nat) (VO:Nat→Nat→Value) (AO:Nat→Nat→ay) {n:Nat} (htb:tb=[]) (hr:s.map gf.ix=rem) (hn:rem.length=n) (hp:TS (qR ops) dO s=true) (hl:((Cz dO s).all fun d=>(L.lookup d).isNone)=true) (hB:B.map (fun p=>L.lookup p.1)=B.map (fun p=>some p.2)) (hC: ∀ w,St E.S E.w0 C w→St E.S E.w0 C' w)
 (hal: ∀ i,gf.take i∈s→Rr E ops D C' B dO VO AO i) (h:CH E ops D C' K0 B dO VO AO s L C):TN E ops D C' C1 (fun L C=>KJ E K0 D L C) tb n rem L C:=by
 subst htb hr
 have e:k8 s []=s.map gf.ix:=by unfold k8; simp
 have:=ry (C1:=C1) (fun i=> .inr trivial) n s [] L [] C hal (Fu hp) (by rw [e]; exact hn) List.nodup_nil (fun p hp=>by cases hp) (fun p hp=>by cases hp) (fun i hi=>by
  have:=c_.1 hl _ (uW hi)
  simpa using this) (Af hB) hC h
 simpa [e] using this
theorem QF {p:Nat→Prop}: ∀ i,gf.take i∈([]:List gf)→p i:=fun i h=>by cases h
theorem yJ {p:Nat→Prop} {j:Nat} {s:List gf} (h: ∀ i,gf.take i∈s→p i): ∀ i,gf.take i∈gf.op j::s→p i:=fun i hi=>by
 rcases cm.1 hi with e|hi
 ·cases e
 ·exact h i hi
theorem w4 {p:Nat→Prop} {j:Nat} {s:List gf} (hj:p j) (h: ∀ i,gf.take i∈s→p i): ∀ i,gf.take i∈gf.take j::s→p i:=fun i hi=>by
 rcases cm.1 hi with e|hi
 ·cases e; exact hj
 ·exact h i hi
end
section
variable {E:fH} {ops:Array Oper} {D:List Deferred} {C':List ay} {B:List (Nat×Value)} {dO:Nat→Nat} {VO:Nat→Nat→Value} {AO:Nat→Nat→ay}
variable {d:Nat} {ty:TypeId} {ps:String} {af:Array Edge}
theorem Ik {i t e sz:Nat} (ho:ops[i]? =some ⟨some d,.buildSlice t 0 #[],ty,ps,af,none⟩) (ht:tE E.P t=some (e,sz)) (hd:Nat.blt d E.n=true) (h1:dO i=d) (h2: ∀ b,VO i b= .slice (some ⟨b,0,none⟩) 0 0) (h3: ∀ b,AO i b=cy b e []):Rr E ops D C' B dO VO AO i:=fun o ho' L C K hB _ hk=>by
 rw [ho] at ho'; cases ho'
 exact lH U ht hd fun b=>aC (by have:=hk b; rw [h1,h2,h3] at this; exact this)
theorem Oo {i t e sz n:Nat} {xs:List Operand} {vs:List Value} {cs zs:List Value} (ho:ops[i]? =some ⟨some d,.buildSlice t n ((xs.zipIdx.map fun p=>(p.2,p.1)).toArray),ty,ps,af,none⟩) (ht:tE E.P t=some (e,sz)) (hz:tZ E.P e=some zs) (hx:evs B xs=some vs) (hn:xs.length=n) (hp:Nat.blt 0 (n*sz)=true) (hb:Nat.ble (n*sz) 16777216=true) (hv: ∀ v∈vs,v.cells.size=sz)
 (hc:(vs.map (·.cells.toList)).flatten=cs) (hd:Nat.blt d E.n=true) (h1:dO i=d) (h2: ∀ b,VO i b= .slice (some ⟨b,0,none⟩) n n) (h3: ∀ b,AO i b=cy b e cs):Rr E ops D C' B dO VO AO i:=fun o ho' L C K hB _ hk=>by
 rw [ho] at ho'; cases ho'
 exact e9 U ht hz (Fh hB hx) hn hp hb hv hc hd fun b=>aC (by have:=hk b; rw [h1,h2,h3] at this; exact this)
end
section
variable {E:fH} {ops:Array Oper} {D:List Deferred} {C':List ay} {K0:Act→World→Prop} {B:List (Nat×Value)} {dO:Nat→Nat} {VO:Nat→Nat→Value} {AO:Nat→Nat→ay}
theorem xd {j:Nat} {s:List gf} {L:dF} {C:List ay} {o:Oper} (ho:ops[j]? =some o)
 (h: ∀ (Y:dF) (X:List ay) (K:Act→World→Prop),(∀ L' C'',(∀ w,St E.S E.w0 C'' w→St E.S E.w0 C' w)→((Cz dO s).all fun d=>(L'.lookup d).isNone)=true→B.map (fun p=>L'.lookup p.1)=B.map (fun p=>some p.2)→CH E ops D C' K0 B dO VO AO s L' C''→KJ E K D (L'++Y) (C''++X))→RJ E ops (NQ K) [o] D (L++Y) (C++X)):CH E ops D C' K0 B dO VO AO (.op j::s) L C:=fun o' ho'=>by
 rw [ho] at ho'; cases ho'
 exact h
theorem tO {s:List gf} {L Y:dF} {C X:List ay} {K:Act→World→Prop} (hT: ∀ L' C'',(∀ w,St E.S E.w0 C'' w→St E.S E.w0 C' w)→((Cz dO s).all fun d=>(L'.lookup d).isNone)=true→B.map (fun p=>L'.lookup p.1)=B.map (fun p=>some p.2)→CH E ops D C' K0 B dO VO AO s L' C''→KJ E K D (L'++Y) (C''++X)) (nL nC:Nat)
 (hL:L.take nL++Y=L) (hC:C.take nC++X=C) (h1: ∀ w,St E.S E.w0 (C.take nC) w→St E.S E.w0 C' w) (h2:((Cz dO s).all fun d=>((L.take nL).lookup d).isNone)=true) (h3:B.map (fun p=>(L.take nL).lookup p.1)=B.map (fun p=>some p.2)) (h:CH E ops D C' K0 B dO VO AO s (L.take nL) (C.take nC)):RJ E ops (NQ K) [] D L C:=by
 have:=hT _ _ h1 h2 h3 h
 rw [hL,hC] at this
 exact aC this
theorem QO {c:Code} {Q:dv} {L L':dF} {C:List ay} (h:L'.map (fun p=>L.lookup p.1)=L'.map (fun p=>some p.2)) (k:WJ E c Q D L' C):WJ E c Q D L C:=fun a w hf hs=>k a w (F0 (Af h) a hf) hs
theorem xI: ∀ {C:List ay} {i:Nat} {A:ay},C[i]? =some A→C.Perm (A::C.eraseIdx i)
 |[],i,A,h=>by simp at h
 |x::C,0,A,h=>by
  simp at h; subst h
  exact List.Perm.refl _
 |x::C,i+1,A,h=>((xI (C:=C) (i:=i) (by simpa using h)).cons x).trans (List.Perm.swap _ _ _)
theorem St.front {S:BS} {w0 w:World} {C:List ay} {A:ay} (i:Nat) (hi:C[i]? =some A) (h:St S w0 C w):St S w0 (A::C.eraseIdx i) w:=h.perm (xI hi)
theorem E5 {K:Act→World→Prop} {L:dF} {C:List ay} {A:ay} (i:Nat) (hi:C[i]? =some A) (h:KJ E K D L (A::C.eraseIdx i)):KJ E K D L C:=fun a w hf hs=>h a w hf (hs.front i hi)
theorem sh {Q:dv} {rest:List Oper} {L:dF} {C:List ay} {A:ay} (i:Nat) (hi:C[i]? =some A) (h:RJ E ops Q rest D L (A::C.eraseIdx i)):RJ E ops Q rest D L C:=fun a w hf hs=>h a w hf (hs.front i hi)
end
end
section
open Go.RowKit
theorem BF (l:List du) (az:List kZ): ∀ v∈(List.zipWith du.cells l az).flatten,v.oneCell'=true:=by
 induction l generalizing az with
 |nil=>intro v hv; simp at hv
 |cons x l ih=>
  cases az with
  |nil=>intro v hv; simp at hv
  |cons a az=>
   intro v hv
   simp only [List.zipWith_cons_cons,List.flatten_cons,gQ] at hv
   rcases hv with hv|hv
   ·simp only [du.cells,xT.cells,cm,List.not_mem_nil,or_false] at hv
    rcases hv with rfl|rfl|rfl<;>rfl
   ·exact ih az v hv
theorem Fy: ∀ (m:du) (a:kZ) (w:World),(∀ X∈du.owns m a,X.holds w)→ ∀ X∈du.jU m a,X.holds w:=fun m a w h X hX=>by
 simp only [du.jU,cm,List.not_mem_nil,or_false] at hX
 have A:=n9 (h (own a.1.1 a.1.2 mu 1 (m.gp.map iC)) (by simp [du.owns]))
 have B:=n9 (h (own a.2.1.1 a.2.1.2 mu 1 (m.jg.map iC)) (by simp [du.owns]))
 have C:=n9 (h (own a.2.2.1 a.2.2.2 mu 1 (m.mo.map iC)) (by simp [du.owns]))
 rcases hX with rfl|rfl|rfl
 ·simpa using A
 ·simpa using B
 ·simpa using C
theorem qe: ∀ (l:List du) (az:List kZ),(bK du.owns l az).all (·.wr)=true
 |[],_=>rfl
 |_::_,[]=>rfl
 |x::l,a::az=>by
  simp only [bK,List.all_append,dk]
  exact ⟨U,qe l az⟩
theorem JK (l:List du) (az:List kZ):(bQ (bK du.owns l az)).wr=true:=qe l az
theorem IL {l m:List du} {az bz:List kZ} (h:az.length=l.length):List.zipWith du.cells (l++m) (az++bz)=List.zipWith du.cells l az++List.zipWith du.cells m bz:=List.zipWith_append h.symm
theorem m6 {l:List du} {az:List kZ} (h:az.length=l.length):(List.zipWith du.cells l az).length=l.length:=by rw [List.length_zipWith]; omega
/-- what is read of a thing that is tied, and frozen -/
theorem qo {C L:List ay} {a:OA} {c e sz n:Nat} {es:List (List Value)} (i:Nat) (hC:C[i]? =some (bQ L).ro) (hm:own a c e sz es∈L) (hn:es.length=n):g9 C (rd a n sz es).holds:=fun w hw=>by
 subst hn
 exact n9 ((show (bQ L).holds w from (hw _ (aP hC):(bQ L).ro.holds w)).1 _ hm)
section
variable {E:fH} {ops:Array Oper} {Q:dv} {rest:List Oper} {D:List Deferred} {L:List (Nat×Value)} {C C1:List ay}
theorem St.O4 {S:BS} {w0 w:World} {X C:List ay} {A:ay} (h:St S w0 (bQ (X++[A])::C) w):St S w0 (A::bQ X::C) w:=by
 have B:=h.iN
 have D:St S w0 (X++(A::C)) w:=by simpa using B
 exact D.tied.perm (List.Perm.swap _ _ _)
theorem St.merge {S:BS} {w0 w:World} {X Y C:List ay} (h:St S w0 (bQ X::bQ Y::C) w):St S w0 (bQ (X++Y)::C) w:=by
 have A:St S w0 (bQ Y::(X++C)) w:=(h.iN).perm (List.perm_middle (a:=bQ Y) (l₁:=X) (l₂:=C))
 have B:St S w0 (Y++(X++C)) w:=A.iN
 have D:St S w0 ((X++Y)++C) w:=B.perm (by rw [← List.append_assoc]; exact List.perm_append_comm.append_right _)
 exact D.tied
end
section
variable {E:fH} {ops:Array Oper} {Q:dv} {rest:List Oper} {D:List Deferred} {L:List (Nat×Value)} {C:List ay}
theorem AB {A:ay} {X X':List ay} (e:X++[A]=X') (h:RJ E ops Q rest D L (bQ X'::C)):RJ E ops Q rest D L (A::bQ X::C):=fun a w hf hs=>h a w hf (hs.tie e)
theorem ze {X:List ay} {A:ay} (h:RJ E ops Q rest D L (A::bQ X::C)):RJ E ops Q rest D L (bQ (X++[A])::C):=fun a w hf hs=>h a w hf hs.O4
theorem IB {K:Act→World→Prop} {ms ns:List du} {az bz:List kZ} (hl:az.length=ms.length) (h:KJ E K D L (bQ (bK du.owns (ms++ns) (az++bz))::C)):KJ E K D L (bQ (bK du.owns ms az)::bQ (bK du.owns ns bz)::C):=fun a w hf hs=>h a w hf (by rw [jJ hl.symm]; exact hs.merge)
end
/-- the head of the ways: the way that ends here, if it may -/
def yk (l:bq) (r:cQ) (rs fs:List Int) (ra fa:RA) (hz:List kZ) (LA:List ay):Prop:=
 ((r.aa.length:Int)-(dN rs).right≤l.ew∧ ∃ la:RA,hz=[(ra,fa,la)]∧LA=[own la.1 la.2 mu 1 ((jM l r rs).map iC)])∨(¬ (r.aa.length:Int)-(dN rs).right≤l.ew∧hz=[]∧LA=[])
theorem yk.len {l:bq} {r:cQ} {rs fs:List Int} {ra fa:RA} {hz:List kZ} {LA:List ay} (h:yk l r rs fs ra fa hz LA):hz.length=(iu l r rs fs).length:=by
 unfold iu
 rcases h with ⟨q,la,rfl,rfl⟩|⟨q,rfl,rfl⟩
 ·rw [if_pos q]; rfl
 ·rw [if_neg q]; rfl
theorem yk.wr {l:bq} {r:cQ} {rs fs:List Int} {ra fa:RA} {hz:List kZ} {LA:List ay} (h:yk l r rs fs ra fa hz LA):LA.all (·.wr)=true:=by
 rcases h with ⟨q,la,rfl,rfl⟩|⟨q,rfl,rfl⟩<;>rfl
theorem I3 {S:BS} {w0 w:World} {l:bq} {r:cQ} {rs fs:List Int} {ra fa:RA} {hz az:List kZ} {LA:List ay} {R:List du} {A:ay} (hh:yk l r rs fs ra fa hz LA)
 (h:St S w0 [bQ [own ra.1 ra.2 mu 1 (rs.map iC),own fa.1 fa.2 mu 1 (fs.map iC)],A,bQ LA,bQ (bK du.owns R az)] w):St S w0 [bQ (bK du.owns (iu l r rs fs++R) (hz++az)++[A])] w:=by
 rw [jJ hh.len.symm]
 have D:St S w0 [own ra.1 ra.2 mu 1 (rs.map iC),own fa.1 fa.2 mu 1 (fs.map iC),A,bQ LA,bQ (bK du.owns R az)] w:=h.iN
 rcases hh with ⟨q,la,rfl,rfl⟩|⟨q,rfl,rfl⟩
 ·unfold iu
  rw [if_pos q]
  have B:=(St.kS [3,0,1,2,4] rfl rfl D).iN
  have E:=(St.kS [4,1,2,0,3] rfl rfl B).iN
  have C:St S w0 (((bK du.owns [(⟨rs,fs,jM l r rs⟩:du)] [(ra,fa,la)]++bK du.owns R az)++[A])++[]) w:=by
   rw [List.append_nil]
   refine E.perm ?_
   show (bK du.owns R az++(bK du.owns [(⟨rs,fs,jM l r rs⟩:du)] [(ra,fa,la)]++[A])).Perm _
   rw [← List.append_assoc]
   exact List.perm_append_comm.append_right _
  exact C.tied
 ·unfold iu
  rw [if_neg q]
  have B:=(St.kS [4,2] rfl rfl D).iN
  have C:St S w0 (((bK du.owns [] []++bK du.owns R az)++[A])++[]) w:=by
   rw [List.append_nil]; exact B
  exact C.tied
theorem H2 {E:fH} {K:Act→World→Prop} {D:iw} {L:dF} {l:bq} {r:cQ} {rs fs:List Int} {ra fa:RA} {hz az z:List kZ} {LA:List ay} {R W:List du} {A A':ay} (hh:yk l r rs fs ra fa hz LA) (hW:iu l r rs fs++R=W) (hz':hz++az=z) (hA:A=A')
 (h:KJ E K D L [bQ (bK du.owns W z++[A'])]):KJ E K D L [bQ [own ra.1 ra.2 mu 1 (rs.map iC),own fa.1 fa.2 mu 1 (fs.map iC)],A,bQ LA,bQ (bK du.owns R az)]:=fun a w hf hs=>h a w hf (by subst hW hz' hA; exact I3 hh hs)
theorem Pe {E:fH} {K:Act→World→Prop} {D:iw} {L:dF} {X A:ay} {W:List du} (h:KJ E K D L [bQ (bK du.owns W []++[A])]):KJ E K D L [X,A]:=fun a w hf hs=>h a w hf (by
 have B:St E.S E.w0 [A] w:=St.kS [1] rfl rfl hs
 have C:St E.S E.w0 (([]++[A])++[]) w:=B
 have e:bK du.owns W []=[]:=by cases W<;>rfl
 rw [e]
 exact C.tied)
theorem G7 {E:fH} {K:Act→World→Prop} {D:iw} {L:dF} {C:List ay} (e sz:Nat) (k:KJ E K D L (own none 0 e sz []::C)):KJ E K D L C:=fun a w hf hs=>k a w hf (hs.uu e sz)
end
section
open Go.RowKit
theorem Gf (fs:List FM) (fb:List Nat):(bQ (bK ny fs fb)).wr=true:=by
 show (bK ny fs fb).all (·.wr)=true
 rw [c_]
 intro X hX
 obtain ⟨k,m,a,_,_,h⟩:=ku hX
 simp only [ny,cH] at h
 subst h; rfl
theorem OB (fs:List TM) (fb:List Nat):(bQ (bK p6 fs fb)).wr=true:=by
 show (bK p6 fs fb).all (·.wr)=true
 rw [c_]
 intro X hX
 obtain ⟨k,m,a,_,_,h⟩:=ku hX
 simp only [p6,cH] at h
 subst h; rfl
end
section
def dJ (bl:List Nat) (n:Nat):List (Option Nat):=bl.map some++List.replicate (n-bl.length) none
def iI (bl:List Nat) (n:Nat):List (Option Nat):=List.replicate (n-bl.length) none++bl.map some
theorem nH {bl:List Nat} {n:Nat} (h:bl.length≤n):(dJ bl n).length=n:=by simp [dJ]; omega
theorem zB {bl:List Nat} {n:Nat} (h:bl.length≤n):(iI bl n).length=n:=by simp [iI]; omega
theorem vk {n:Nat}:List.replicate n none=dJ [] n:=by simp [dJ]
theorem GD {n:Nat}:List.replicate n none=iI [] n:=by simp [iI]
theorem zS {bl:List Nat} {n:Nat} (h:bl.length=n):dJ bl n=bl.map some:=by simp [dJ,h]
theorem Gr {bl:List Nat} {n:Nat} (h:bl.length=n):iI bl n=bl.map some:=by simp [iI,h]
theorem m_ {bl:List Nat} {n k g:Nat} (h:bl[k]? =some g):(dJ bl n)[k]? =some (some g):=by
 have hk:=(aZ.1 h).1
 unfold dJ
 rw [List.getElem?_append_left (by simpa using hk),f_,h]; rfl
theorem uj {bl:List Nat} {n k i g:Nat} (h:bl[i]? =some g) (hk:k=n-bl.length+i):(iI bl n)[k]? =some (some g):=by
 subst hk
 unfold iI
 rw [List.getElem?_append_right sm,f_,List.length_replicate,Nat.add_sub_cancel_left,h]; rfl
theorem sw {bl:List Nat} {n k g:Nat} (hk:k=bl.length) (h:bl.length<n):(dJ bl n).set k (some g)=dJ (bl++[g]) n:=by
 subst hk
 unfold dJ
 rw [List.set_append_right _ _ sm]
 have e:n-bl.length=(n-(bl++[g]).length)+1:=by simp; omega
 rw [e,List.replicate_succ]
 simp
theorem Hc {bl:List Nat} {n k g:Nat} (hk:k+1+bl.length=n):(iI bl n).set k (some g)=iI (g::bl) n:=by
 unfold iI
 have e:n-bl.length=k+1:=by omega
 have A:n-(g::bl).length=k:=by simp; omega
 rw [e,A,List.set_append_left _ _ sm,List.replicate_succ',List.set_append_right _ _ sm]
 simp
theorem qO {l:List (Option Nat)} {k g:Nat} (h:l[k]? =some (some g)):(l.map oC)[k]? =some (oC (some g)):=by rw [f_,h]; rfl
theorem Ai {α:Type} {l:List α} {x:α} {k:Nat} (h:k=l.length):(l++[x])[k]? =some x:=by subst h; simp
theorem Ii {α:Type} {l:List α} {x y:α} {k:Nat} (h:l[k]? =some y):(l++[x])[k]? =some y:=by rw [List.getElem?_append_left (aZ.1 h).1]; exact h
structure qM (w:cq) (fs:List FM):Prop where
 all: ∀ (b:Nat) m,fs[b]? =some m→ug m (pW w b)∧(m.map (·.1)).Nodup
structure iP (w:cq) (k:Nat) (bs:List FM):Prop where
 all: ∀ (i:Nat) m,bs[i]? =some m→wj m (back w (k+i))∧(m.map (·.1)).Nodup
variable {w:cq} {b:Nat} {mb m left:List (aQ×Int)} {o:Int×ai} {os:List (Int×ai)} {p:aQ×Int}
theorem qM.first:qM w [[(⟨0,0⟩,w.Start)]]:=⟨fun b m h=>by
 match b with
 |0=>simp at h; subst h; exact ⟨GG,sm⟩
 |n+1=>simp at h⟩
theorem qM.add {fs:List FM} (h:qM w fs) (hl:fs.length=b+1) (hmb:fs[b]? =some mb) (hm:xU w b m) (hd:kj w b mb m left) (h0:left=[]):qM w (fs++[m]):=⟨fun i x hx=>by
 rcases Nat.lt_or_ge i fs.length with q|q
 ·rw [List.getElem?_append_left q] at hx; exact h.all i x hx
 ·rw [List.getElem?_append_right q] at hx
  have hi:i-fs.length=0:=by
   rcases Nat.eq_zero_or_pos (i-fs.length) with z|z
   ·exact z
   ·rw [List.getElem?_eq_none (by simp; omega)] at hx; cases hx
  rw [hi] at hx
  simp at hx; subst hx
  obtain rfl:i=b+1:=by omega
  have A:=h.all b mb hmb
  exact ⟨KI A.2 A.1 hm.snd (hd.fin h0),hm.keys⟩⟩
theorem qM.ok {fs:List FM} (h:qM w fs) (hl:fs.length=w.n+1):wm w fs:=⟨hl,fun b m hm=>(h.all b m hm).1,fun b m hm=>(h.all b m hm).2⟩
theorem iP.none_:iP w b []:=⟨fun i m h=>by simp at h⟩
theorem iP.last (hb:w.n≤b):iP w b [[(⟨0,0⟩,w.gL)]]:=⟨fun i m h=>by
 match i with
 |0=>simp at h; subst h; exact ⟨JL om,sm⟩
 |n+1=>simp at h⟩
theorem iP.add {bs:List FM} (h:iP w (b+1) bs) (hb:b<w.n) (hmb:bs[0]? =some mb) (hm:wN w b m) (hd:jW w b mb m left) (h0:left=[]):iP w b (m::bs):=⟨fun i x hx=>by
 match i with
 |0=>
  simp at hx; subst hx
  have A:=h.all 0 mb hmb
  exact ⟨Kc hb A.2 A.1 hm.snd hm.zero (hd.fin h0),hm.keys⟩
 |n+1=>
  have:=h.all n x (by simpa using hx)
  rw [show b+1+n=b+(n+1) by omega] at this
  exact this⟩
theorem iP.ok {bs:List FM} (h:iP w 0 bs) (hl:bs.length=w.n+1):tP w bs:=⟨hl,fun b m hm=>by have:=(h.all b m hm).1; rwa [Nat.zero_add] at this,fun b m hm=>(h.all b m hm).2⟩
/-- on the way through one entry's options -/
structure oi (w:cq) (b:Nat) (mb left m:List (aQ×Int)) (p:aQ×Int) (os:List (Int×ai)):Prop where
 on:xU w b m
 u3:kj w b mb m left
 done:jG w b m p os
structure nV (w:cq) (b:Nat) (mb left m:List (aQ×Int)) (p:aQ×Int) (os:List (Int×ai)):Prop where
 on:wN w b m
 u3:jW w b mb m left
 done:jA w b m p os
theorem oi.start (h:xU w b m) (h2:kj w b mb m left):oi w b mb left m p []:=⟨h,h2,fun o ho=>by cases ho⟩
theorem nV.start (h:wN w b m) (h2:jW w b mb m left):nV w b mb left m p []:=⟨h,h2,fun o ho=>by cases ho⟩
theorem Gp {q:aQ×Int} (h:(m.lookup q.1).isSome=false∨q.2<(m.lookup q.1).getD 0):pU m q=eC m q.1 q.2:=by
 unfold pU
 cases e:m.lookup q.1 with
 |none=>rfl
 |some v=>rw [e] at h; simp at h; simp only; rw [if_pos h]
theorem Em {q:aQ×Int} (h:(m.lookup q.1).isSome=true) (h2: ¬ q.2<(m.lookup q.1).getD 0):pU m q=m:=by
 unfold pU
 cases e:m.lookup q.1 with
 |none=>rw [e] at h; cases h
 |some v=>rw [e] at h2; simp only [Option.getD_some] at h2; simp only; rw [if_neg h2]
theorem GM {q:aQ×Int} (h:(m.lookup q.1).isSome=false∨(m.lookup q.1).getD 0<q.2):pM m q=eC m q.1 q.2:=by
 unfold pM
 cases e:m.lookup q.1 with
 |none=>rfl
 |some v=>rw [e] at h; simp at h; simp only; rw [if_pos h]
theorem DD {q:aQ×Int} (h:(m.lookup q.1).isSome=true) (h2: ¬ (m.lookup q.1).getD 0<q.2):pM m q=m:=by
 unfold pM
 cases e:m.lookup q.1 with
 |none=>rw [e] at h; cases h
 |some v=>rw [e] at h2; simp only [Option.getD_some] at h2; simp only; rw [if_neg h2]
theorem AI {t:aQ} {v y:Int} (hy:w.qJ[b]? =some y) (h:max (v+y) o.2.Lo≤min o.2.Hi w.gL):nt w b (t,v) o=some (dR t (gF o.1),max (v+y) o.2.Lo):=by
 have e:=oe hy
 subst e
 exact K1 h
theorem Lc {t:aQ} {v y:Int} (hy:w.qJ[b]? =some y) (h: ¬ max (v+y) o.2.Lo≤min o.2.Hi w.gL):nt w b (t,v) o=none:=by
 have e:=oe hy
 subst e
 exact Ny h
theorem Bc {t:aQ} {v y:Int} (hy:w.qJ[b]? =some y) (h:o.2.Lo≤min v o.2.Hi):pJ w b (t,v) o=some (dR t (gF o.1),min v o.2.Hi-y):=by
 have e:=oe hy
 subst e
 exact JB h
theorem oi.set {q:aQ×Int} (h:oi w b mb left m p os) (hp:p∈pW w b) (ho:o∈jZ w b) (he:nt w b p o=some q) (hs:(m.lookup q.1).isSome=false∨q.2<(m.lookup q.1).getD 0):oi w b mb left (eC m q.1 q.2) p (os++[o]):=by
 rw [← Gp hs]
 exact ⟨h.on.add hp ho he,h.u3.lower wE,h.done.JJ he⟩
theorem oi.px {q:aQ×Int} (h:oi w b mb left m p os) (he:nt w b p o=some q) (hs:(m.lookup q.1).isSome=true) (h2: ¬ q.2<(m.lookup q.1).getD 0):oi w b mb left m p (os++[o]):=by
 have:=h.done.JJ he
 rw [Em hs h2] at this
 exact ⟨h.on,h.u3,this⟩
theorem oi.skip (h:oi w b mb left m p os) (he:nt w b p o=none):oi w b mb left m p (os++[o]):=⟨h.on,h.u3,h.done.none_ he⟩
theorem nV.set {q:aQ×Int} (hb:b<w.n) (h:nV w b mb left m p os) (hp:p∈back w (b+1)) (ho:o∈jZ w b) (he:pJ w b p o=some q) (hs:(m.lookup q.1).isSome=false∨(m.lookup q.1).getD 0<q.2):nV w b mb left (eC m q.1 q.2) p (os++[o]):=by
 rw [← GM hs]
 exact ⟨h.on.add hb hp ho he,h.u3.upper rm,h.done.JJ he⟩
theorem nV.px {q:aQ×Int} (h:nV w b mb left m p os) (he:pJ w b p o=some q) (hs:(m.lookup q.1).isSome=true) (h2: ¬ (m.lookup q.1).getD 0<q.2):nV w b mb left m p (os++[o]):=by
 have:=h.done.JJ he
 rw [DD hs h2] at this
 exact ⟨h.on,h.u3,this⟩
theorem nV.skip (h:nV w b mb left m p os) (he:pJ w b p o=none):nV w b mb left m p (os++[o]):=⟨h.on,h.u3,h.done.none_ he⟩
theorem oi.next {t:aQ} {v:Int} (hn:(left.map (·.1)).Nodup) (hm:(t,v)∈left) (h:oi w b mb left m (t,v) os) (ho: ∀ o∈jZ w b,o∈os):kj w b mb m (fz left t):=h.u3.next hn hm h.done ho
theorem nV.next {t:aQ} {v:Int} (hn:(left.map (·.1)).Nodup) (hm:(t,v)∈left) (h:nV w b mb left m (t,v) os) (ho: ∀ o∈jZ w b,o∈os):jW w b mb m (fz left t):=h.u3.next hn hm h.done ho
theorem qM.mem {fs:List FM} (h:qM w fs) (hm:fs[b]? =some mb) (hp:p∈mb):p∈pW w b:=(h.all b mb hm).1.1 _ _ ((fR (h.all b mb hm).2).1 hp)
theorem iP.U1 {bs:List FM} {k:Nat} (h:iP w k bs) (hk:k=b+1) (hm:bs[0]? =some mb) (hp:p∈mb):p∈back w (b+1):=by
 subst hk
 exact (h.all 0 mb hm).1.1 _ _ ((fR (h.all 0 mb hm).2).1 hp)
theorem iP.end_ {bs:List FM} {k j:Nat} (h:iP w k bs) (hj:bs.length=0) (hk:j=b) (hb:w.n≤b):iP w j ([(⟨0,0⟩,w.gL)]::bs):=by
 subst hk
 rw [kE hj]
 exact iP.last hb
theorem iP.more {bs:List FM} {k j:Nat} (h:iP w k bs) (hk:k=b+1) (hj:j=b) (hb:b<w.n) (hmb:bs[0]? =some mb) (hm:wN w b m) (hd:jW w b mb m left) (h0:left=[]):iP w j (m::bs):=by
 subst hk hj
 exact h.add hb hmb hm hd h0
end
section
open Go.RowKit
theorem jH {a:OA} {c e sz n:Nat} {es:List (List Value)} (h:es.length=n):Kq (own a c e sz es) (rd a n sz es):=by subst h; exact Ns
theorem q7 {L:List ay}:Kq (bQ L) (iH L):=⟨fun w h=>h.1,fun b h=>h⟩
theorem FP {b:Nat} {fb:List Nat} {g:Nat} (h:fb.length=b):bK p6 (List.replicate b ([]:TM)) fb++[kx iV g (cT j5 [])]=bK p6 (List.replicate (b+1) ([]:TM)) (fb++[g]):=by
 rw [List.replicate_succ']
 exact zh (by rw [List.length_replicate]; exact h.symm) U
theorem Tv {α:Type} {ms:List α} {fb:List Nat} {n:Nat} (h:fb.length=n) (h2:ms.length=n):List.map oC (dJ fb n)=List.zipWith gK ms fb:=by
 rw [zS h]; exact (AQ om).symm
theorem ox {l:bq} {r:cQ} {i:Nat} {x:aH} (hx:r.aa[i]? =some x) (h: ¬ jB l r.aa i x): ¬ fW l r:=fun q=>h (q.sig i x hx)
end
section
open Go.RowKit
theorem p7 (a:ai) (l:List ai) (lA:OA) (lC:Nat) (ha:l_ a) (hl: ∀ z∈l,l_ z) (hlen:l.length≤4):
 dG Tryz.prog 171 [(vA (ai.cells a)),(vS lA l.length lC)] [(rd lA l.length 2 (l.map ai.cells))] (vA (ai.cells (k7 a l))):=by
 refine bG kr Tryz.func171 U U fun AA Q hQ hN=>?_
 try dsimp only
 refine WS fun _ AB=>dV U fun R=>AL U eh fun T=>RK AB<|ag fun _ J=>WS fun _ K=>rP 3 [] I ?_
 refine RK K<|ax ?_
 have A:(0≤l.length):=by exact Nat.zero_le _
 refine bP (ι:={z:Nat // (z≤l.length)}) [2,4,7,8] [0,2] U U (fun z=>[(9,(vI (z.1:Int)))]) (fun z=>[(cy R 38 (ai.cells (k7 a (l.take z.1))))]) (fun _=>rfl) (fun _=>rfl) (fun z=>l.length-z.1) ⟨0,A⟩ (bf U) (aK [0,2,1]) ?_
 clear A
 rintro ⟨i,N⟩ J6 H
 try dsimp only
 refine WS fun _ L=>rP 1 [] I ?_
 refine RK L<|ag fun _ M=>bO U (aO fun S=>?_) (aN fun S=>?_)
 ·refine bM<|ab<|ab<|aF<|KK J<|ag fun _ D=>?_
  have G:(ai.cells (k7 a (l.take i)))=(ai.cells (k7 a l)):=by rw [Ki om]
  rw [G]
  refine ao<|rP 1 [] (mc 2 U I) ?_
  refine e7 U cW U<|RK D<|ak ?_
  exact Bf hQ [0] (mc 0 U I) U U
 refine WK M<|ag fun _ B=>ax<|WS fun _ C=>?_
 obtain ⟨x,hx⟩:=aA l i om
 have O:=bH ai.cells hx
 refine rS (IA i U (av 1 U) lF dc om om)<|rS (jL i 0 (ai.cells x) U bV (av 1 U) O U dc U U)<|AL U eh fun P=>e7 U cW U<|RK C<|ao ?_
 have hb:=OV ha hl i
 have hz:=hl x (aP hx)
 unfold l_ at hz
 refine rP 10 [0,1,0,1] (mc 3 U (mc 0 U I)) ?_
 refine rS (SX (bE (xs:=[(0,.tmp 17),(1,.tmp 22)]) (cs:=(ai.cells (ai.mk (((k7 a (l.take i)).Lo)+x.Lo) (((k7 a (l.take i)).Hi)+x.Hi)))) U U (bD g6 U)) U U)<|Qh U cW U<|aC<|aJ<|KK B ?_
 have E:(ai.cells (ai.mk (((k7 a (l.take i)).Lo)+x.Lo) (((k7 a (l.take i)).Hi)+x.Hi)))=(ai.cells (k7 a (l.take (i+1)))):=by rw [zH hx]; rfl
 rw [E]
 refine ao<|rP 2 [] I ?_
 refine aC ?_
 have F:(vI ((i+1):Int))=(vI ((i:Int)+1)):=by exact cI om
 refine a_ (H ⟨(i+1),(by first|omega|(simp only []; omega))⟩ _ _ _ U os (cz 4<|aU U F<|cR.nil _) (aK [1,2,3]))
theorem Fb (ts:List aD) (tsA:OA) (tsC:Nat) (hlen:ts.length≤1000000) (hside: ∀ x∈ts,0≤x.ja∧x.ja≤255):
 dG Tryz.prog 168 [(vA (bJ.cells (bJ.mk (bj.mk tsA ts.length tsC))))] [(rd tsA ts.length 9 (ts.map aD.cells))] (vT [(vA (eN.cells (eN.mk (bJ.mk (bj.mk tsA ts.length tsC))))),(vI (if dB ts=true then 0 else 10))]):=by
 refine bG kr Tryz.func168 U U fun E Q hQ hN=>?_
 try dsimp only
 refine WS fun _ A=>dV U fun C=>AL U JT fun D=>bp 1 U<|RK A<|ag fun _ B=>cS cj 4 kr<|kf 1 [] (mc 1 U I) U<|dS (SX (bE (xs:=[(0,.tmp 4)]) (cs:=(eN.cells (eN.mk (bJ.mk (bj.mk tsA ts.length tsC))))) U U (bD Sx U)) U U)<|kf 1 [] (mc 1 U I) U<|dS (CL (C9 ts tsA tsC hlen hside) (aY [2]) U)<|cu<|e7 U JS U<|rP 1 [] I ?_
 refine RK B<|ak ?_
 exact mh hQ [0] (mc 0 U I) U U
theorem Mo (f:Int) (tsA:OA) (tsN tsC:Nat):
 lR Tryz.prog 198 [(vA (eN.cells (eN.mk (bJ.mk (bj.mk tsA tsN tsC))))),(vI f)] [] (fun (x:Nat×Nat)=>(Value.func (.func 216) [].toArray [(Value.pointer (some ⟨x.1,0,none⟩)),(Value.pointer (some ⟨x.2,0,none⟩))].toArray)) (fun (x:Nat×Nat)=>True) (fun (x:Nat×Nat)=>[(cy x.1 3 [(vI f)]),(cy x.2 251 (eN.cells (eN.mk (bJ.mk (bj.mk tsA tsN tsC)))))]):=by
 refine dL kr Tryz.func198 U U fun E Q hQ hN=>?_
 try dsimp only
 refine WS fun _ A=>dV U fun C=>wV U U fun D=>bp 1 U<|RK A<|WS fun _ B=>rS (FU U)<|rP 1 [] I ?_
 refine RK B<|ak<|LX hQ (D,C) [0,1] [] I U U U U ?_
 trivial
theorem HM (ts:List aD) (tsA:OA) (tsC:Nat) (f:Int) (g1 g2:Nat) (hst: ∀ x∈ts,bY x) (hlen:ts.length≤12) (hf:0≤f∧f≤ts.length):
 Mz Tryz.prog 216 [] [(vP g1),(vP g2)] [(rd tsA ts.length 9 (ts.map aD.cells)),(cy g1 3 [(vI f)]),(cy g2 251 (eN.cells (eN.mk (bJ.mk (bj.mk tsA ts.length tsC)))))] (uQ ts f.toNat):=by
 refine Fx kr Tryz.func216 U U fun l J Z A0 p Q hY g d hQ hN=>?_
 try dsimp only
 refine WS fun _ h=>AL U eh fun n=>AL U eh fun o=>RK h<|WS fun _ i=>rP 2 [] (mr 4 U I) ?_
 refine RK i<|ax ?_
 have P:(0≤ts.length-f.toNat)∧(J 0 A0)∧(Fo A0 p A0):=by exact ⟨Nat.zero_le _,g,d⟩
 have m:(vI (f+(0:Int)))=(vI f):=by exact cI om
 refine bP (ι:={z:Nat×ay // (z.1≤ts.length-f.toNat)∧(J z.1 z.2)∧(Fo A0 p z.2)}) [0,1,2,4,5] [3,4,5] U U (fun z=>[(6,(vI (f+(z.1.1:Int))))]) (fun z=>[(cy o 38 (ai.cells (gS ts f.toNat z.1.1))),(cy n 38 (ai.cells (eV ts f.toNat z.1.1))),z.1.2]) (fun _=>rfl) (fun _=>rfl) (fun z=>ts.length-f.toNat-z.1.1) ⟨(0,A0),P⟩ (aU U m<|cR.nil _) (aK [3,4,5,0,1,2]) ?_
 clear P
 rintro ⟨⟨k,A⟩,⟨W,R,S⟩⟩ J6 V
 try dsimp only at W R S
 try dsimp only
 refine ag fun _ j=>WS fun _ X=>rP 3 [0,1] (mc 4 U (mc 3 U I)) ?_
 refine E4 5 hY R S U U U (zn om) U U (fun B9 C B=>?_) (fun B9 C B=>?_)
 rotate_left 1
 ·refine rP 8 [] I ?_
  refine RK X<|bT U<|bM<|ab<|ab<|aF ?_
  refine hN _ _ _ (j4 (vs:=[]) trivial fun w hs=>OD 5 U C B hs)
 refine rP 8 [] (mr 2 U I) ?_
 refine RK X<|bO U (aO fun c=>?_) (aN fun c=>?_)
 ·refine bM<|ab<|ab<|aF ?_
  refine hN _ _ _ (j4 (vs:=[]) trivial fun w hs=>Sv 5 U (by rw [uR]; have e:ts.length-f.toNat+1=k+1:=om; rw [e]; exact C) B hs)
 refine WK j<|ag fun _ M=>ax<|mO cj [0,1,2,3,4,5,6,7,10,11,12,13,14,15,16,17] [8,9,18,19,20,21] [true,false,false,false,false,false,false,false,true,false,false,false,false,false,false,false] [8,9,18] [(rd tsA ts.length 9 (ts.map aD.cells)).ro,(cy g1 3 [(vI f)]).ro,(cy g2 251 (eN.cells (eN.mk (bJ.mk (bj.mk tsA ts.length tsC))))).ro,B9] [(rd tsA ts.length 9 (ts.map aD.cells)).ro,(cy g1 3 [(vI f)]).ro,(cy g2 251 (eN.cells (eN.mk (bJ.mk (bj.mk tsA ts.length tsC))))).ro,(cy o 38 (ai.cells (gS ts f.toNat k))),(cy n 38 (ai.cells (eV ts f.toNat k))),B9] kr (aK [0,1,2,5]) (aK [0,1,2,3,4,5])<|fS U (LW 4 U bV U U)<|eS U (FA 0 U eD U)<|eS U (FA 0 U eD U)<|eS U (IQ (vS tsA ts.length tsC) 2 U bV U U)<|eS U (MV U) ?_
 obtain ⟨x,hx⟩:=aA ts (f.toNat+k) om
 have a:=bH aD.cells hx
 refine eS U (IA (f.toNat+k) U (av 0 U) wL dc om om) ?_
 have L:=hst x (aP hx)
 refine eS U (nQ (((f.toNat+k)*9)+1) U (av 0 U) (Nat.mul_pos om dc) eD U)<|eS U (jL (f.toNat+k) 1 (ai.cells x.jR) U bV (av 0 U) a U dc U U)<|fS U (LW 3 U bV U U)<|eS U (FA 0 U eD U)<|eS U (FA 0 U eD U)<|eS U (IQ (vS tsA ts.length tsC) 2 U bV U U)<|eS U (MV U)<|eS U (IA (f.toNat+k) U (av 0 U) wL dc om om)<|eS U (nQ (((f.toNat+k)*9)+3) U (av 0 U) (Nat.mul_pos om dc) eD U)<|eS U (jL (f.toNat+k) 3 (ai.cells x.kQ) U bV (av 0 U) a U dc U U)<|eg U<|mG [8,18] kr (iF ?_<|iF ?_<|pL)
 rotate_left 1
 ·refine wv (rem':=[8,9,19,20,21]) U kr fun T14 N=>e9 (xs:=[.tmp 39]) (cs:=(ai.cells x.kQ)) U lF eh U U U U (by simp [Value.cells,ai.bI]) U U fun T=>aC (N _ _ (aK [1,2,3,6]) (aK [1,2,3,4,5,6]) ?_)
  refine N1 8<|wv (rem':=[9,19,20,21]) U kr fun T16 D=>e9 (xs:=[.tmp 29]) (cs:=(ai.cells x.jR)) U lF eh U U U U (by simp [Value.cells,ai.bI]) U U fun AA=>aC (D _ _ (aK [2,3,4,7]) (aK [2,3,4,5,6,7]) ?_)
  refine N1 9<|wv (rem':=[19,20,21]) U kr fun T18 O=>?_
  refine rS (CL (dG.eq (p7 (eV ts f.toNat k) ([x.jR]) (some ⟨AA,0,none⟩) 1 (by exact rH hst om) (by intro z hz; simp only [cH] at hz; subst hz; exact vR L) sm) nY) (aw (bo 0 rfl rfl (by simp [ai.bI]) rfl)<|aS) rfl) ?_
  refine aC (O _ _ (aK [2,3,4,7]) (aK [2,3,4,5,6,7]) ?_)
  refine N1 19<|NO U U [20,21] fun T19 E=>?_
  refine rS (CL (dG.eq (p7 (gS ts f.toNat k) ([x.kQ]) (some ⟨T,0,none⟩) 1 (by exact xQ hst om) (by intro z hz; simp only [cH] at hz; subst hz; exact vL L) sm) nY) (aw (bo 1 rfl rfl (by simp [ai.bI]) rfl)<|aS) rfl) ?_
  refine aC (E _ _ (aK [2,3,4,7]) ?_)
  refine N1 20<|NO U U [21] fun T20 F=>Rx U cW U<|aC (F _ _ (aK [2,3,4,7]) ?_)
  refine N1 21<|NO U U [] fun T21 G=>HY U cW U<|aC (G _ _ (aK [2,3,4,7]) ?_)
  refine lK<|aJ<|KK M ?_
  have H:(ai.cells (mW (eV ts f.toNat k) x.jR))=(ai.cells (eV ts f.toNat (k+1))):=by rw [qw hx]
  rw [H]
  have AB:(ai.cells (mW (gS ts f.toNat k) x.kQ))=(ai.cells (gS ts f.toNat (k+1))):=by rw [qi hx]
  rw [AB]
  refine ao<|rP 3 [] I ?_
  refine aC ?_
  have K:(vI (f+(((k+1):Nat):Int)))=(vI ((f+(k:Int))+1)):=by exact cI om
  refine a_ (V ⟨((k+1),B9),⟨om,C,B⟩⟩ _ _ _ U os (cz 5<|aU U K<|cR.nil _) (aK [2,3,4,5,6,7]))
 refine wv (rem':=[9,18,19,20,21]) U kr fun T14 N=>e9 (xs:=[.tmp 29]) (cs:=(ai.cells x.jR)) U lF eh U U U U (by simp [Value.cells,ai.bI]) U U fun T=>aC (N _ _ (aK [1,2,3,6]) (aK [1,2,3,4,5,6]) ?_)
 refine mG [9,18] kr (iF ?_<|iF ?_<|pL)
 rotate_left 1
 ·refine wv (rem':=[9,19,20,21]) U kr fun T16 D=>e9 (xs:=[.tmp 39]) (cs:=(ai.cells x.kQ)) U lF eh U U U U (by simp [Value.cells,ai.bI]) U U fun AA=>aC (D _ _ (aK [2,3,4,7]) (aK [2,3,4,5,6,7]) ?_)
  refine N1 9<|wv (rem':=[19,20,21]) U kr fun T18 O=>?_
  refine rS (CL (dG.eq (p7 (eV ts f.toNat k) ([x.jR]) (some ⟨T,0,none⟩) 1 (by exact rH hst om) (by intro z hz; simp only [cH] at hz; subst hz; exact vR L) sm) nY) (aw (bo 1 rfl rfl (by simp [ai.bI]) rfl)<|aS) rfl) ?_
  refine aC (O _ _ (aK [2,3,4,7]) (aK [2,3,4,5,6,7]) ?_)
  refine N1 19<|NO U U [20,21] fun T19 E=>?_
  refine rS (CL (dG.eq (p7 (gS ts f.toNat k) ([x.kQ]) (some ⟨AA,0,none⟩) 1 (by exact xQ hst om) (by intro z hz; simp only [cH] at hz; subst hz; exact vL L) sm) nY) (aw (bo 0 rfl rfl (by simp [ai.bI]) rfl)<|aS) rfl) ?_
  refine aC (E _ _ (aK [2,3,4,7]) ?_)
  refine N1 20<|NO U U [21] fun T20 F=>Rx U cW U<|aC (F _ _ (aK [2,3,4,7]) ?_)
  refine N1 21<|NO U U [] fun T21 G=>HY U cW U<|aC (G _ _ (aK [2,3,4,7]) ?_)
  refine lK<|aJ<|KK M ?_
  have H:(ai.cells (mW (eV ts f.toNat k) x.jR))=(ai.cells (eV ts f.toNat (k+1))):=by rw [qw hx]
  rw [H]
  have AB:(ai.cells (mW (gS ts f.toNat k) x.kQ))=(ai.cells (gS ts f.toNat (k+1))):=by rw [qi hx]
  rw [AB]
  refine ao<|rP 3 [] I ?_
  refine aC ?_
  have K:(vI (f+(((k+1):Nat):Int)))=(vI ((f+(k:Int))+1)):=by exact cI om
  refine a_ (V ⟨((k+1),B9),⟨om,C,B⟩⟩ _ _ _ U os (cz 5<|aU U K<|cR.nil _) (aK [2,3,4,5,6,7]))
 refine wv (rem':=[18,19,20,21]) U kr fun T16 D=>?_
 refine rS (CL (dG.eq (p7 (eV ts f.toNat k) ([x.jR]) (some ⟨T,0,none⟩) 1 (by exact rH hst om) (by intro z hz; simp only [cH] at hz; subst hz; exact vR L) sm) nY) (aw (bo 0 rfl rfl (by simp [ai.bI]) rfl)<|aS) rfl) ?_
 refine aC (D _ _ (aK [1,2,3,6]) (aK [1,2,3,4,5,6]) ?_)
 refine N1 18<|wv (rem':=[19,20,21]) U kr fun T17 Y=>e9 (xs:=[.tmp 39]) (cs:=(ai.cells x.kQ)) U lF eh U U U U (by simp [Value.cells,ai.bI]) U U fun b=>aC (Y _ _ (aK [2,3,4,7]) (aK [2,3,4,5,6,7]) ?_)
 refine N1 19<|NO U U [20,21] fun T19 E=>?_
 refine rS (CL (dG.eq (p7 (gS ts f.toNat k) ([x.kQ]) (some ⟨b,0,none⟩) 1 (by exact xQ hst om) (by intro z hz; simp only [cH] at hz; subst hz; exact vL L) sm) nY) (aw (bo 0 rfl rfl (by simp [ai.bI]) rfl)<|aS) rfl) ?_
 refine aC (E _ _ (aK [2,3,4,7]) ?_)
 refine N1 20<|NO U U [21] fun T20 F=>Rx U cW U<|aC (F _ _ (aK [2,3,4,7]) ?_)
 refine N1 21<|NO U U [] fun T21 G=>HY U cW U<|aC (G _ _ (aK [2,3,4,7]) ?_)
 refine lK<|aJ<|KK M ?_
 have H:(ai.cells (mW (eV ts f.toNat k) x.jR))=(ai.cells (eV ts f.toNat (k+1))):=by rw [qw hx]
 rw [H]
 have AB:(ai.cells (mW (gS ts f.toNat k) x.kQ))=(ai.cells (gS ts f.toNat (k+1))):=by rw [qi hx]
 rw [AB]
 refine ao<|rP 3 [] I ?_
 refine aC ?_
 have K:(vI (f+(((k+1):Nat):Int)))=(vI ((f+(k:Int))+1)):=by exact cI om
 refine a_ (V ⟨((k+1),B9),⟨om,C,B⟩⟩ _ _ _ U os (cz 5<|aU U K<|cR.nil _) (aK [2,3,4,5,6,7]))
theorem JP (ts:List aD) (tsA:OA) (tsC:Nat) (f t:Int) (hst: ∀ x∈ts,bY x) (hlen:ts.length≤12) (hf:0≤f∧f≤t∧t≤ts.length):
 dG Tryz.prog 170 [(vA (eN.cells (eN.mk (bJ.mk (bj.mk tsA ts.length tsC))))),(vI f),(vI t)] [(rd tsA ts.length 9 (ts.map aD.cells))] (vT [(vA (ai.cells (eV ts f.toNat (t-f).toNat))),(vA (ai.cells (gS ts f.toNat (t-f).toNat)))]):=by
 refine bG kr Tryz.func170 U U fun w0 Q hQ hN=>?_
 try dsimp only
 refine WS fun _ M=>dV U fun a=>wV U U fun b=>wV U U fun d=>AL U eh fun e=>AL U eh fun g=>RK M<|ag fun _ AA=>WS fun _ V=>rP 2 [0,1] (mc 4 U (mc 3 U I)) ?_
 refine cX (Mo f tsA ts.length tsC) (aS) U fun u n=>?_
 obtain ⟨B,C⟩:=u
 try dsimp only
 refine RK V<|ax<|jv 7 U (by exact fun _ h=>h) ?_
 refine F4 (L0:=[(3,(vP a)),(4,(vP b)),(5,(vP d)),(6,(vP e)),(7,(vP g))]) (F:=[(rd tsA ts.length 9 (ts.map aD.cells)).ro,(cy B 3 [(vI f)]),(cy C 251 (eN.cells (eN.mk (bJ.mk (bj.mk tsA ts.length tsC)))))]) (xs:=(uQ ts f.toNat)) (fun k (y:ai×ai×Int)=>(k≤(t-f).toNat)∧(y.2.2=f+(k:Int))) (fun k y=>[(cy g 38 (ai.cells y.2.1)),(cy e 38 (ai.cells y.1)),(cy d 3 [(vI t)]),(cy b 3 [(vI y.2.2)]),(cy a 251 (eN.cells (eN.mk (bJ.mk (bj.mk tsA ts.length tsC))))),(rd tsA ts.length 9 (ts.map aD.cells)).ro]) (fun c (z:Unit)=>(c= .exit 0)) (fun _ z=>[(cy g 38 (ai.cells (gS ts f.toNat (t-f).toNat))),(cy e 38 (ai.cells (eV ts f.toNat (t-f).toNat))),(cy d 3 [(vI t)]),(cy b 3 [(vI t)]),(cy a 251 (eN.cells (eN.mk (bJ.mk (bj.mk tsA ts.length tsC))))),(rd tsA ts.length 9 (ts.map aD.cells)).ro]) [3,4,5,6,7,8] [0,1,2] (hZ,hZ,f) U U (HM ts tsA tsC f B C (by first|assumption|omega|(simp; done)) (by first|assumption|omega|(simp; done)) om) U U U (by exact ⟨Nat.zero_le _,sm⟩) (by simp only [List.forall_mem_cons,List.not_mem_nil,false_imp_iff,implies_true,and_true]; exact ⟨⟨_,sm,(dM (b_ _))⟩,⟨_,sm,(b_ _)⟩,⟨_,sm,(b_ _)⟩⟩) (by exact Ef) U (bf U) ?_ ?_ ?_ ?_
 rotate_left 1
 ·rintro q ⟨v,z2,m⟩ J
  obtain ⟨A,K⟩:=J
  try dsimp only at A K
  try dsimp only
  exfalso; rw [uR] at A; omega
 ·rintro r id _ Y
  have hc:=Y
  cases hc
  try dsimp only
  refine aF<|KK AA<|ag fun _ D=>dp cj [2,3] [] [] [0,1,2,3,4,5,6,7,8,9] [] U U U U U<|eS U (LW 5 U bV U U)<|eS U (LW 4 U bV U U)<|eg U<|cf U fun T30 E=>HY U cW U<|aC (E _ _ (aK [0,1,2,3,4,5,6,7,8,9]) ?_)
  refine cf U fun T31 G=>QL U cW U<|aC (G _ _ (aK [0,1,2,3,4,5,6,7,8,9]) ?_)
  refine e8 U<|KK D<|ak<|hQ _ _ _ (rh 0 U U<|j4 (vs:=[(vA (ai.cells (eV ts f.toNat (t-f).toNat))),(vA (ai.cells (gS ts f.toNat (t-f).toNat)))]) ⟨⟨_,U,.inl ⟨_,_,bV,qt (vs:=(ai.cells (eV ts f.toNat (t-f).toNat))) 5 U U,U,U⟩⟩,⟨_,U,.inl ⟨_,_,bV,qt (vs:=(ai.cells (gS ts f.toNat (t-f).toNat))) 4 U U,U,U⟩⟩,trivial⟩ fun w hs=>Cs ?_ hs)
  show (vT [(vA (ai.cells (eV ts f.toNat (t-f).toNat))),(vA (ai.cells (gS ts f.toNat (t-f).toNat)))])=(vT [(vA (ai.cells (eV ts f.toNat (t-f).toNat))),(vA (ai.cells (gS ts f.toNat (t-f).toNat)))])
  clear hs w hQ hN G T31 E T30 D V AA M
  rfl
 ·rintro s _ Z
  cases Z
 rintro k x ⟨v,z2,m⟩ l ra rb S w1 K13 Qr14 hx AB N H L j
 obtain ⟨hk,rfl⟩:=G5 hx
 obtain ⟨A,K⟩:=AB
 try dsimp only at A K
 try dsimp only
 refine WS fun _ O=>AL U eh fun o=>e7 U cW U<|RK O<|ao<|AL U eh fun p=>e7 U cW U<|aC<|j6 (fun _ _ h=>h) (aK [2,0,1,3,4,5,6,7,8])<|a_ (N _ _ ?_)
 refine ax<|ag fun _ P=>ag fun _ R=>dp cj [2,3] [] [] [0,1,2,5,6,7,8] [] U U U U U<|eS U (LW 2 U bV U U)<|eS U (LW 1 U bV U U)<|eg U<|cf U fun T21 W=>QL U cW U<|aC (W _ _ (aK [0,1,2,5,6,7,8]) ?_)
 refine cf U fun T22 X=>Qh U cW U<|aC (X _ _ (aK [0,1,2,5,6,7,8]) ?_)
 refine e8 U<|KK R<|WS fun _ T=>rP 3 [0,1] (mc 6 U (mc 5 U I)) ?_
 refine RK T<|cb U (aN fun i=>?_) (aO fun i=>?_)
 ·refine bM<|ab<|fF U ?_
  rw [show m=t from by omega]
  obtain rfl:k=(t-f).toNat:=by omega
  exact L _ () _ _ (by exact U) (aK [0,3,4,5,6,7,8])
 refine WK P<|ao<|rP 2 [] (mc 6 U I) ?_
 refine VH U En U U<|aC<|aJ ?_
 exact H ((eV ts f.toNat k),(gS ts f.toNat k),(m+1)) _ _ (by refine ⟨om,?_⟩; dsimp only; omega) (aK [0,3,4,5,6,7,8])
end
section
open Go.RowKit
theorem Gn (i:Int) (s:dg) (ts:List aD) (tsA:OA) (tsC g1:Nat) (hst: ∀ x∈ts,bY x) (hlen:ts.length≤12):
 dG Tryz.prog 197 [(vI i),(vA (dg.cells s)),(vP g1)] [(rd tsA ts.length 9 (ts.map aD.cells)),(cy g1 251 (eN.cells (eN.mk (bJ.mk (bj.mk tsA ts.length tsC)))))] (vB (!(decide (fT ts s)))):=by
 refine bG kr Tryz.func197 U U fun AA Q hQ hN=>?_
 try dsimp only
 refine WS fun _ C=>dV U fun G=>rP 1 [] I ?_
 refine RK C<|ag fun _ A=>mO cj [0,1,2,3,4,5,6] [7,8,9,10,11,12,13,14,15,16,17,18,19,20,21,22,23,24,25,26] [false,false,false,false,false,false,false] [] [(cy G 135 (dg.cells s)),(rd tsA ts.length 9 (ts.map aD.cells)).ro,(cy g1 251 (eN.cells (eN.mk (bJ.mk (bj.mk tsA ts.length tsC))))).ro] [] kr (aK [0,1,2]) (aK [])<|eS U (FA 0 U eD U)<|eS U (FA 0 U eD U)<|eS U (IQ (vS tsA ts.length tsC) 2 U bV U U)<|eS U (LN U QE)<|eS U (BI U (yE ⟨om,om⟩))<|eS U (FA 0 U eD U)<|eS U (L1 (vI s.bw) 0 U bV U U)<|eg U<|N1 7<|NO U U [8,9,10,11,12,13,14,15,16,17,18,19,20,21,22,23,24,25,26] fun T4 D=>e9 (xs:=[.tmp 12]) (cs:=[(vI s.bw)]) U dI kR U U U U (by simp [Value.cells]) U U fun H=>RD D 1 U<|P6 [14,15,16,17,18,19,20,21,22,23,24,25,26,27,28,29,30,31,5] kr kr U _ U U (aK [1,2,3]) ?_
 refine dS (CL (dG.eq (pD 0 ((ts.length:Int)-1) ([s.bw]) (some ⟨H,0,none⟩) 1 (by (simp; done))) cK) (aw (bo 0 U U (by simp [bX]) U)<|aS) U) ?_
 refine dP 2 [] I ?_
 refine ic (t:=16) U (aX fun B=>?_) (aW fun B=>?_)
 ·refine kI 9 U<|dP 7 [] I ?_
  refine cu<|RK A<|ak<|Q1 hQ U U U ?_
  (refine cB ?_; rw [br (Dc om)]; rfl)
 refine kI 1 U<|dS (LP (ai.cells s.l9) 1 U bV U U U)<|dP 5 [0,1] (mr 3 U (mc 1 U I)) ?_
 obtain ⟨x,hx⟩:=aA ts ((s.bw).toNat) om
 have E:=bH aD.cells hx
 refine dS (IA ((s.bw).toNat) U (av 2 U) wL dc om om)<|dS (nQ ((((s.bw).toNat)*9)+1) U (av 2 U) (Nat.mul_pos om dc) eD U) ?_
 have F:=(hst x (aP hx)).2.1
 simp only [eu] at F
 refine dS (nQ ((((s.bw).toNat)*9)+1) U (av 2 U) (Nat.mul_pos om dc) eD U)<|dS (gv ((s.bw).toNat) 1 (vI x.jR.Lo) U bV (av 2 U) E U dc U)<|kI 1 U<|dS (CL (w5 s.l9 0 (x.jR.Lo-1)) (aS) U)<|dP 3 [] I ?_
 refine cu<|RK A<|ak<|Q1 hQ U U U ?_
 exact congrArg (fun b=>vB (!b)) (gT.2 (B4 om hx).symm)
theorem DP (l:List dg) (lA:OA) (lC:Nat) (f:Value) (p:Int→dg→Bool) (X:ay) (hf: ∀ x0 x1,(∃ k:Nat,x0=(k:Int)∧l[k]? =some x1)→Dy Tryz.prog f [.int .i64 x0,.agg (dg.cells x1).toArray] [X] (.bool (p x0 x1))) (hlen:l.length≤1000000):
 lR Tryz.prog 196 [(vS lA l.length lC),f] [(rd lA l.length 3 (l.map dg.cells)),X] (fun (x:(OA)×Nat)=>(vS x.1 ((K_ (fun jj yy=>p (jj:Int) yy) l).length) x.2)) (fun (x:(OA)×Nat)=>True) (fun (x:(OA)×Nat)=>[(own x.1 x.2 3 1 ((K_ (fun jj yy=>p (jj:Int) yy) l).map iC))]):=by
 refine dL kr Tryz.func196 U U fun W Q hQ hN=>?_
 try dsimp only
 refine WS fun _ L=>bp 1 U<|RK L<|WS fun _ M=>bp 1 U<|RK M<|ag fun _ N=>WS fun _ O=>rP 3 [] I ?_
 refine RK O<|ax<|fu 3 1 ?_
 have A:(0≤l.length):=by exact Nat.zero_le _
 refine bP (ι:={z:Nat×(OA)×Nat // (z.1≤l.length)}) [0,1,8,9] [1,2] U U (fun z=>[(5,(vS z.1.2.1 ((tQ (fun jj yy=>p (jj:Int) yy) l z.1.1).length) z.1.2.2)),(10,(vI (z.1.1:Int)))]) (fun z=>[(own z.1.2.1 z.1.2.2 3 1 ((tQ (fun jj yy=>p (jj:Int) yy) l z.1.1).map iC))]) (fun _=>rfl) (fun _=>rfl) (fun z=>l.length-z.1.1) ⟨(0,none,0),A⟩ (bf U) (aK [1,2,0]) ?_
 clear A
 rintro ⟨⟨i,a,c⟩,B⟩ J5 C
 try dsimp only at B
 try dsimp only
 refine WS fun _ P=>rP 1 [] I ?_
 refine RK P<|ag fun _ R=>bO U (aO fun V=>?_) (aN fun V=>?_)
 ·refine bM<|ab<|ab<|aF<|KK N<|WS fun _ F=>?_
  rw [LR (p:=fun (i:Nat) x=>p (i:Int) x) (show i=l.length by omega)]
  refine rP 2 [] I ?_
  refine RK F<|ak<|LX hQ (a,c) [2] [] I U U U U ?_
  trivial
 refine WK R<|ag fun _ G=>ax<|WS fun _ D=>rP 1 [] I ?_
 obtain ⟨x,hx⟩:=aA l i om
 have S:=bH dg.cells hx
 refine rS (IA i U (av 0 U) H3 dc om om)<|rS (jL i 0 (dg.cells x) U bV (av 0 U) S U dc U U)<|AL U F8 fun T=>bp 1 U<|e7 U Ow U<|RK D<|WS fun _ E=>rP 3 [] (mc 0 U I) ?_
 refine rS (SX (pX U U U (hf (i:Int) x ⟨i,U,hx⟩) (aY [2])) U U)<|RK E<|bO U (fun hp=>?_) (fun hp=>?_)
 ·refine cg<|aJ<|KK G<|ao ?_
  rw [← LU (p:=fun (i:Nat) x=>p (i:Int) x) hx hp]
  refine rP 2 [] I ?_
  refine aC ?_
  have AB:(vI (((i+1):Nat):Int))=(vI ((i:Int)+1)):=by exact cI om
  refine a_ (C ⟨((i+1),a,c),(by first|omega|(simp only []; omega))⟩ _ _ _ U os (cz 5<|aU U AB<|cR.nil _) (aK [1,2,3]))
 refine ao<|rP 2 [] I ?_
 refine e9 (xs:=[.tmp 20]) (cs:=[(vI (i:Int))]) U dI kR U U U U (by simp [Value.cells]) U U fun AA=>?_
 refine cP (es2:=(List.map iC (tQ (fun jj yy=>p (jj:Int) yy) l (i+1)))) (m':=(tQ (fun jj yy=>p (jj:Int) yy) l (i+1)).length) 4 U U U pg U U sm (bo (es:=List.map iC [(i:Int)]) 0 U U (by simp [bX]) U) (jN _) (by have:=CV (p:=fun (i:Nat) x=>p (i:Int) x) (l:=l) (n:=i); simp; omega) (by have:=CV (p:=fun (i:Nat) x=>p (i:Int) x) (l:=l) (n:=i); simp only [maxLen]; omega) (by rw [KQ hx hp]; simp) sm U fun J K=>?_
 try dsimp only
 refine bp 1 U<|aC<|aJ<|KK G<|ao<|rP 2 [] I ?_
 refine aC ?_
 have H:(vI (((i+1):Nat):Int))=(vI ((i:Int)+1)):=by exact cI om
 refine a_ (C ⟨((i+1),J,K),(by first|omega|(simp only []; omega))⟩ _ _ _ U os (cz 5<|aU U H<|cR.nil _) (aK [2,3,4]))
theorem Ch (ts:List aD) (tsA:OA) (tsC:Nat) (l:List dg) (lA:OA) (lC:Nat) (hst: ∀ x∈ts,bY x) (hlen:ts.length≤12) (hl:l.length≤4):
 dG Tryz.prog 169 [(vA (eN.cells (eN.mk (bJ.mk (bj.mk tsA ts.length tsC))))),(vS lA l.length lC)] [(rd tsA ts.length 9 (ts.map aD.cells)),(rd lA l.length 3 (l.map dg.cells))] (vB (decide (∀ s∈l,fT ts s))):=by
 refine bG kr Tryz.func169 U U fun J Q hQ hN=>?_
 try dsimp only
 refine WS fun _ B=>dV U fun A=>bp 1 U<|RK B<|WS fun _ C=>rP 1 [] I ?_
 refine rS (FU U) ?_
 refine cX (DP l lA lC (Value.func (.func 197) [].toArray [(vP A)].toArray) (fun E D=>(!(decide (fT ts D)))) (iH [(rd tsA ts.length 9 (ts.map aD.cells)),(cy A 251 (eN.cells (eN.mk (bJ.mk (bj.mk tsA ts.length tsC)))))]) (by intro E D _; exact lp (fi:=[]) (ca:=[(vP A)]) (j8 (Gn E D ts tsA tsC A (by first|assumption|omega) (by first|assumption|omega)) (aY [0,1]))) om) (eG 2 U U<|aw (j7 (aY [1,0]))<|aS) U fun G F=>?_
 obtain ⟨H,AA⟩:=G
 try dsimp only
 refine rP 3 [] I ?_
 refine RK C<|ak<|Q1 hQ U U U ?_
 exact congrArg Value.bool (decide_eq_decide.2 (by rw [show ∀ n:Nat,((n:Int)=0)↔n=0 from fun n=>by omega,Gx]; simp only [Bool.not_eq_false',decide_eq_true_eq]; exact ⟨fun h s hs=>by obtain ⟨k,hk⟩:=List.getElem?_of_mem hs; exact h k s hk,fun h k s hk=>h s (List.mem_of_getElem? hk)⟩))
theorem DB (z:ai) (hz:l_ z):
 dG Tryz.prog 199 [(vA (ai.cells z))] [] (vA (ai.cells (oE z))):=by
 unfold l_ at hz
 refine bG kr Tryz.func199 U U fun E Q hQ hN=>?_
 try dsimp only
 refine WS fun _ A=>dV U fun C=>AL U eh fun D=>RK A<|WS fun _ B=>dY 2 [] (mc 1 U I) U<|rS (NG U ⟨om,om⟩)<|rP 2 [] (mc 1 U I) ?_
 refine rS (NG U ⟨om,om⟩)<|rS (SX (bE (xs:=[(0,.tmp 5),(1,.tmp 8)]) (cs:=(ai.cells (ai.mk (-z.Hi) (-z.Lo)))) U U (bD g6 U)) U U)<|e7 U cW U<|RK B<|ak ?_
 exact Bf hQ [0] (mc 0 U I) U U
theorem RC (ts:List aD) (tsA:OA) (tsC:Nat) (s:dg) (hlen:ts.length≤1000000) (hside: ∀ x∈ts,0≤x.ja∧x.ja≤255):
 dG Tryz.prog 141 [(vA (bJ.cells (bJ.mk (bj.mk tsA ts.length tsC)))),(vA (dg.cells s))] [(rd tsA ts.length 9 (ts.map aD.cells))] (vT [(vA (ai.cells (P0 ts s))),(vI (E_ ts s))]):=by
 refine bG kr Tryz.func141 U U fun Z Q hQ hN=>?_
 try dsimp only
 refine WS fun _ K=>dV U fun V=>dV U fun W=>AL U eh fun X=>bp 1 U<|RK K<|WS fun _ L=>dY 1 [] (mc 2 U I) U<|rS (CL (Fb ts tsA tsC hlen hside) (aY [3]) U)<|bp 3 U<|AL U JT fun Y=>e7 U JS U<|bp 1 U<|RK L<|ag fun _ M=>WS fun _ N=>rP 2 [] I ?_
 refine RK N<|cb U (aX fun he=>?_) (aW fun he=>?_)
 ·refine WS fun _ O=>rS (SX (bE (xs:=[]) (cs:=(ai.cells (ai.mk 0 0))) U U (bD g6 U)) U U)<|bp 1 U<|pV U cW U<|rP 1 [] I ?_
  refine RK O<|ak<|mh hQ [0] (mc 1 U I) U ?_
  (have e:=Ie (s:=s) (zd he).1; rw [e.1,e.2,(zd he).2]<;>rfl)
 refine WK M<|ag fun _ C=>WS fun _ D=>?_
 have B:=DN he
 have H:=kq B
 have R:=lv B
 refine rP 2 [0,1] (mc 0 U (mc 2 U I)) ?_
 refine e9 (xs:=[.tmp 20]) (cs:=(dg.cells s)) U H3 F8 U U U U (by simp [Value.cells,dg.bI]) U U fun AB=>?_
 refine rS (CL (dG.eq (Ch ts tsA tsC ([s]) (some ⟨AB,0,none⟩) 1 asm asm (by (simp; done))) EF) (eG 5 U U<|aw (bo 0 U U (by simp [dg.bI]) U)<|aS) U) ?_
 refine rP 1 [] I ?_
 refine RK D<|cb U (aX fun A=>?_) (aW fun A=>?_)
 ·refine WS fun _ E=>rS (SX (bE (xs:=[]) (cs:=(ai.cells (ai.mk 0 0))) U U (bD g6 U)) U U)<|CT U cW U<|rP 1 [] I ?_
  refine RK E<|ak<|mh hQ [0] (mc 2 U I) U ?_
  (have e:=Ko B A; rw [e.1,e.2]<;>rfl)
 refine WK C<|WS fun _ F=>?_
 have AA:=A.1
 have P:=rQ H A
 refine dY 3 [0,1] (mc 1 U (mc 3 U I)) U<|rS (CL (JP ts tsA tsC 0 s.bw asm asm om) (aY [5]) U)<|bp 3 U<|AL U eh fun S=>AL U eh fun T=>pV U cW U<|e7 U cW U<|RK F<|WS fun _ G=>rP 2 [] (mc 1 U I) ?_
 refine rS (LP (ai.cells s.l9) 5 U bV U U U)<|e9 (xs:=[.tmp 34]) (cs:=(ai.cells s.l9)) U lF eh U U U U (by simp [Value.cells,ai.bI]) U U fun J=>?_
 refine rS (CL (dG.eq (p7 (eV ts (0:Int).toNat (s.bw-0).toNat) ([s.l9]) (some ⟨J,0,none⟩) 1 (by exact rH H om) (by intro z hz; simp only [cH] at hz; subst hz; exact P) sm) nY) (aw (bo 0 rfl rfl (by simp [ai.bI]) rfl)<|aS) rfl) ?_
 refine HY U cW U<|rP 1 [] I ?_
 refine RK G<|ak<|mh hQ [0] (mc 5 U I) U ?_
 (have e:=ym B A; rw [e.1,e.2]; unfold LH; rw [show (s.bw-0).toNat=s.bw.toNat by rw [Int.sub_zero]]<;>rfl)
theorem NH (ts:List aD) (tsA:OA) (tsC:Nat) (p:dg) (q:dg) (hlen:ts.length≤1000000) (hside: ∀ x∈ts,0≤x.ja∧x.ja≤255):
 dG Tryz.prog 172 [(vA (bJ.cells (bJ.mk (bj.mk tsA ts.length tsC)))),(vA (dg.cells p)),(vA (dg.cells q))] [(rd tsA ts.length 9 (ts.map aD.cells))] (vT [(vA (ai.cells (ly ts p q))),(vI (mM ts p q))]):=by
 refine bG kr Tryz.func172 U U fun w Q hQ hN=>?_
 try dsimp only
 refine WS fun _ c=>dV U fun r=>dV U fun s=>dV U fun t=>AL U eh fun u=>bp 1 U<|RK c<|WS fun _ d=>dY 1 [] (mc 3 U I) U<|rS (CL (Fb ts tsA tsC hlen hside) (aY [4]) U)<|bp 3 U<|AL U JT fun v=>e7 U JS U<|bp 1 U<|RK d<|ag fun _ g=>WS fun _ h=>rP 2 [] I ?_
 refine RK h<|cb U (aX fun he=>?_) (aW fun he=>?_)
 ·refine WS fun _ G=>rS (SX (bE (xs:=[]) (cs:=(ai.cells (ai.mk 0 0))) U U (bD g6 U)) U U)<|bp 1 U<|pV U cW U<|rP 1 [] I ?_
  refine RK G<|ak<|mh hQ [0] (mc 1 U I) U ?_
  (have e:=vn (a:=p) (b:=q) (zd he).1; rw [e.1,e.2,(zd he).2]<;>rfl)
 refine WK g<|ag fun _ H=>WS fun _ AB=>?_
 have A:=DN he
 have F:=kq A
 have j:=lv A
 refine rP 3 [0,1,2] (mc 0 U (mc 3 U (mc 2 U I))) ?_
 refine e9 (xs:=[.tmp 22,.tmp 23]) (cs:=((dg.cells p)++(dg.cells q))) U H3 F8 U U U U (by simp [Value.cells,dg.bI]) U U fun X=>?_
 refine rS (CL (dG.eq (Ch ts tsA tsC ([p,q]) (some ⟨X,0,none⟩) 2 asm asm (by (simp; done))) DK) (eG 6 U U<|aw (bo 0 U U (by simp [dg.bI]) U)<|aS) U) ?_
 refine rP 1 [] I ?_
 refine RK AB<|cb U (aX fun D=>?_) (aW fun D=>?_)
 ·refine WS fun _ J=>rS (SX (bE (xs:=[]) (cs:=(ai.cells (ai.mk 0 0))) U U (bD g6 U)) U U)<|CT U cW U<|rP 1 [] I ?_
  refine RK J<|ak<|mh hQ [0] (mc 2 U I) U ?_
  (have e:=pj A D; rw [e.1,e.2]<;>rfl)
 refine WK H<|WS fun _ K=>?_
 obtain ⟨hp,hq⟩:=D
 have n:=hp.1
 have o:=hq.1
 have i:=rQ F hp
 have W:=rQ F hq
 have V:=Az i
 have B:=rH F (f:=(min p.bw q.bw).toNat) (k:=(max p.bw q.bw-min p.bw q.bw).toNat) om
 refine dY 5 [0,1,2] (mc 1 U (mc 4 U (mc 3 U I))) U<|rS (MN U)<|dY 4 [0,1] (mc 4 U (mc 3 U I)) U<|rS (MX U)<|rS (CL (JP ts tsA tsC (min p.bw q.bw) (max p.bw q.bw) asm asm om) (aY [6]) U)<|bp 3 U<|AL U eh fun l=>AL U eh fun m=>pV U cW U<|e7 U cW U<|RK K<|ag fun _ C=>WS fun _ L=>rP 5 [0,1] (mc 5 U (mc 6 U I)) ?_
 refine RK L<|bO U (aO fun E=>?_) (aN fun E=>?_)
 ·refine WK C<|ag fun _ N=>dp cj [6,7,8] [] [] [0,1,2,3,5,6,7,8] [] U U U U U<|eS U (LW 1 U bV U U)<|eS U (FA 1 U eD U)<|eS U (LP (ai.cells q.l9) 4 U bV U U U)<|eS U (FA 1 U eD U)<|eS U (LP (ai.cells p.l9) 5 U bV U U U)<|eS U (CL (DB p.l9 asm) (aS) U)<|eS U (AG U)<|eg U<|cf U fun T26 S=>e9 (xs:=[.tmp 52,.tmp 55]) (cs:=((ai.cells q.l9)++(ai.cells (oE p.l9)))) U lF eh U U U U (by simp [Value.cells,ai.bI]) U U fun Z=>aC (S _ _ (aK [1,2,3,4,6,7,8,9]) ?_)
  refine cf U fun T28 T=>?_
  refine rS (CL (dG.eq (p7 (eV ts (min p.bw q.bw).toNat ((max p.bw q.bw)-(min p.bw q.bw)).toNat) ([q.l9,(oE p.l9)]) (some ⟨Z,0,none⟩) 2 (by first|exact B|exact Az B) (by intro z hz; simp only [cm,List.not_mem_nil,or_false] at hz; rcases hz with rfl|rfl; exact W; exact V) sm) BK) (aw (bo 0 rfl rfl (by simp [ai.bI]) rfl)<|aS) rfl) ?_
  refine aC (T _ _ (aK [1,2,3,4,6,7,8,9]) ?_)
  refine cf U fun T29 AA=>HY U cW U<|aC (AA _ _ (aK [1,2,3,4,6,7,8,9]) ?_)
  refine e8 U<|KK N<|ak<|mh hQ [0] (mc 5 U I) U ?_
  (have e:=l0 A ⟨hp,hq⟩; rw [e.1,e.2]; unfold kl xn; rw [if_neg E]<;>rfl)
 refine ao<|rP 1 [] (mc 1 U I) ?_
 refine rS (CL (DB (eV ts (min p.bw q.bw).toNat ((max p.bw q.bw)-(min p.bw q.bw)).toNat) asm) (aS) U)<|pV U cW U<|RK C<|ag fun _ M=>dp cj [6,7,8] [] [] [0,1,2,3,5,6,7,8] [] U U U U U<|eS U (LW 1 U bV U U)<|eS U (FA 1 U eD U)<|eS U (LP (ai.cells q.l9) 4 U bV U U U)<|eS U (FA 1 U eD U)<|eS U (LP (ai.cells p.l9) 5 U bV U U U)<|eS U (CL (DB p.l9 asm) (aS) U)<|eS U (AG U)<|eg U<|cf U fun T21 O=>e9 (xs:=[.tmp 52,.tmp 55]) (cs:=((ai.cells q.l9)++(ai.cells (oE p.l9)))) U lF eh U U U U (by simp [Value.cells,ai.bI]) U U fun Y=>aC (O _ _ (aK [1,2,3,4,6,7,8,9]) ?_)
 refine cf U fun T23 P=>?_
 refine rS (CL (dG.eq (p7 (oE (eV ts (min p.bw q.bw).toNat ((max p.bw q.bw)-(min p.bw q.bw)).toNat)) ([q.l9,(oE p.l9)]) (some ⟨Y,0,none⟩) 2 (by first|exact B|exact Az B) (by intro z hz; simp only [cm,List.not_mem_nil,or_false] at hz; rcases hz with rfl|rfl; exact W; exact V) sm) BK) (aw (bo 0 rfl rfl (by simp [ai.bI]) rfl)<|aS) rfl) ?_
 refine aC (P _ _ (aK [1,2,3,4,6,7,8,9]) ?_)
 refine cf U fun T24 R=>HY U cW U<|aC (R _ _ (aK [1,2,3,4,6,7,8,9]) ?_)
 refine e8 U<|KK M<|ak<|mh hQ [0] (mc 5 U I) U ?_
 (have e:=l0 A ⟨hp,hq⟩; rw [e.1,e.2]; unfold kl xn; rw [if_pos E]<;>rfl)
theorem sJ (ts:List aD) (tsA:OA) (tsC:Nat) (s:dg) (hst: ∀ x∈ts,bY x) (hlen:ts.length≤12):
 dG Tryz.prog 158 [(vA (bJ.cells (bJ.mk (bj.mk tsA ts.length tsC)))),(vA (dg.cells s))] [(rd tsA ts.length 9 (ts.map aD.cells))] (vB (decide (fT ts s))):=by
 refine bG kr Tryz.func158 U U fun H Q hQ hN=>?_
 try dsimp only
 refine WS fun _ C=>dV U fun F=>dV U fun G=>bp 1 U<|RK C<|ag fun _ A=>cS cj 22 kr<|kf 6 [0,1] (mc 0 U (mc 1 U I)) U<|dS (CL (pw s.bw 0 ((ts.length:Int)-1)) (aS) U)<|dP 1 [] I ?_
 refine jm (t:=12) U (aO fun B=>?_) (aN fun B=>?_)
 ·refine kI 8 U<|dP 6 [] I ?_
  refine cu<|RK A<|ak<|Q1 hQ U U U ?_
  (refine cB ?_; rw [br (Dc om)])
 refine kI 1 U<|dS (LP (ai.cells s.l9) 0 U bV U U U)<|dP 4 [0,1] (mc 1 U (mc 0 U I)) ?_
 obtain ⟨x,hx⟩:=aA ts ((s.bw).toNat) om
 have D:=bH aD.cells hx
 refine dS (IA ((s.bw).toNat) U (av 2 U) wL dc om om)<|dS (nQ ((((s.bw).toNat)*9)+1) U (av 2 U) (Nat.mul_pos om dc) eD U) ?_
 have E:=(hst x (aP hx)).2.1
 simp only [eu] at E
 refine dS (nQ ((((s.bw).toNat)*9)+1) U (av 2 U) (Nat.mul_pos om dc) eD U)<|dS (gv ((s.bw).toNat) 1 (vI x.jR.Lo) U bV (av 2 U) D U dc U)<|kI 1 U<|dS (CL (qj s.l9 0 (x.jR.Lo-1)) (aS) U)<|dP 2 [] I ?_
 refine cu<|RK A<|ak<|Q1 hQ U U U ?_
 exact cB (gT.2 (B4 om hx).symm)
theorem Bb (ts:List aD) (tsA:OA) (tsC:Nat) (f t:Int) (hst: ∀ x∈ts,bY x) (hlen:ts.length≤12) (hf:0≤f∧f≤t∧t≤ts.length):
 dG Tryz.prog 215 [(vA (bJ.cells (bJ.mk (bj.mk tsA ts.length tsC)))),(vI f),(vI t)] [(rd tsA ts.length 9 (ts.map aD.cells))] (vT [(vA (ai.cells (eV ts f.toNat (t-f).toNat))),(vA (ai.cells (gS ts f.toNat (t-f).toNat)))]):=by
 refine bG kr Tryz.func215 U U fun i Q hQ hN=>?_
 try dsimp only
 refine WS fun _ R=>dV U fun e=>AL U eh fun g=>AL U eh fun h=>RK R<|WS fun _ S=>AL U eh fun a=>AL U eh fun b=>RK S<|ag fun _ T=>WS fun _ AA=>rP 2 [] I ?_
 refine RK AA<|ax ?_
 have A:(0≤(t-f).toNat):=by exact Nat.zero_le _
 have K:(vI (f+(0:Int)))=(vI f):=by exact cI om
 refine bP (ι:={z:Nat // (z≤(t-f).toNat)}) [1,2,3,6,7,8,9] [2,3,4,5] U U (fun z=>[(10,(vI (f+(z.1:Int))))]) (fun z=>[(cy b 38 (ai.cells (gS ts f.toNat z.1))),(cy a 38 (ai.cells (eV ts f.toNat z.1)))]) (fun _=>rfl) (fun _=>rfl) (fun z=>(t-f).toNat-z.1) ⟨0,A⟩ (aU U K<|cR.nil _) (aK [2,3,4,5,0,1]) ?_
 clear A
 rintro ⟨k,V⟩ J11 B
 try dsimp only
 refine ag fun _ C=>WS fun _ D=>rP 3 [] I ?_
 refine RK D<|bO U (aO fun P=>?_) (aN fun P=>?_)
 ·refine bM<|ab<|ab<|aF<|KK T<|ag fun _ H=>dp cj [2,3] [] [] [2,3,4,5] [] U U U U U<|eS U (LW 3 U bV U U)<|eS U (LW 2 U bV U U)<|eg U<|cf U fun T23 AB=>pV U cW U<|aC (AB _ _ (aK [2,3,4,5]) ?_)
  refine cf U fun T24 J=>e7 U cW U<|aC (J _ _ (aK [2,3,4,5]) ?_)
  refine e8 U<|KK H<|ak<|mh hQ [0,1] (mc 1 U (mc 0 U I)) U ?_
  obtain rfl:k=(t-f).toNat:=om; rfl
 refine WK C<|ag fun _ E=>ax<|WS fun _ F=>rP 3 [] (mc 2 U I) ?_
 obtain ⟨x,hx⟩:=aA ts (f.toNat+k) om
 have Y:=bH aD.cells hx
 refine rS (IA (f.toNat+k) U (av 3 U) wL dc om om)<|rS (jL (f.toNat+k) 0 (aD.cells x) U bV (av 3 U) Y U dc U U)<|AL U Lg fun Z=>e7 U IC U<|RK F<|WS fun _ G=>?_
 have O:=hst x (aP hx)
 have d:=mR hst f.toNat k
 have c:=EY hst f.toNat k
 have W:=O.2.1
 have X:=O.2.2.1
 simp only [eu] at W X
 refine dY 12 [0,1,0,1] (mc 6 U (mc 0 U I)) U<|rS (SX (bE (xs:=[(0,.tmp 28),(1,.tmp 34)]) (cs:=(ai.cells (ai.mk (((eV ts f.toNat k).Lo)+x.jR.Lo) (((eV ts f.toNat k).Hi)+x.jR.Hi)))) U U (bD g6 U)) U U)<|Rx U cW U<|RK G<|ao<|rP 12 [0,1,0,1] (mc 5 U (mc 0 U I)) ?_
 refine rS (SX (bE (xs:=[(0,.tmp 41),(1,.tmp 47)]) (cs:=(ai.cells (ai.mk (((gS ts f.toNat k).Lo)+x.kQ.Lo) (((gS ts f.toNat k).Hi)+x.kQ.Hi)))) U U (bD g6 U)) U U)<|HY U cW U<|aC<|aJ<|KK E ?_
 have L:(ai.cells (ai.mk (((eV ts f.toNat k).Lo)+x.jR.Lo) (((eV ts f.toNat k).Hi)+x.jR.Hi)))=(ai.cells (eV ts f.toNat (k+1))):=by rw [qw hx]; rfl
 rw [L]
 have M:(ai.cells (ai.mk (((gS ts f.toNat k).Lo)+x.kQ.Lo) (((gS ts f.toNat k).Hi)+x.kQ.Hi)))=(ai.cells (gS ts f.toNat (k+1))):=by rw [qi hx]; rfl
 rw [M]
 refine ao<|rP 3 [] I ?_
 refine aC ?_
 have N:(vI (f+(((k+1):Nat):Int)))=(vI ((f+(k:Int))+1)):=by exact cI om
 refine a_ (B ⟨(k+1),(by first|omega|(simp only []; omega))⟩ _ _ _ U os (cz 7<|aU U N<|cR.nil _) (aK [1,2,3,4,5,6]))
end
end Go.Proofs.YtkaenmjhfajbkaaGreatDoor
