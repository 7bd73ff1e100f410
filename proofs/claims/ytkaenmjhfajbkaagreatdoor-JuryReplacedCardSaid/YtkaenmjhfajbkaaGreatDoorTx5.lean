/-
 The statement juryReplaced_said, part 5 of 9: JRep, JHits, JMem, SeqO, JSeq, JTop, Twin, Fresh, JPut, JMor, JFeeL, JPutL, Async, NJoin, ExL, Rep, ExJ, Win6, JWin, JAlv, DrawB, MapD, Bits, BoolC, RaceR, B1, B4, B2, B3, B5, B6, Rc1, Frozen, MarkD, Marks, Follow, OpenM, V2, V1.
 Conditions: none.
-/
import Derived.Test.YtkaenmjhfajbkaaGreatDoorTx1
import Derived.Test.YtkaenmjhfajbkaaGreatDoorTx2
import Derived.Test.YtkaenmjhfajbkaaGreatDoorTx3
import Derived.Test.YtkaenmjhfajbkaaGreatDoorTx4
import Derived.KernelRfl
namespace Go.Proofs.YtkaenmjhfajbkaaGreatDoor
set_option maxRecDepth 100000
set_option maxHeartbeats 4000000
set_option linter.unusedVariables false
section
def g9 (H:List (List ak)) (h i:Int) (d:ak):List (List ak):=match H[h.toNat]? with
 |some ht=>H.set h.toNat (ht.set i.toNat d)
 |none=>H
def jS (r:eD) (h i:Int) (d:ak):eD:=⟨r.ao,r.aV,r.bV,r.j9,g9 r.av h i d⟩
section
variable {H:List (List ak)} {h i x y:Int} {d e:ak} {ht:List ak} {r:eD}
theorem qq (hh:H[h.toNat]? =some ht):g9 H h i d=H.set h.toNat (ht.set i.toNat d):=by unfold g9; rw [hh]
theorem pz:(g9 H h i d).length=H.length:=by unfold g9; split; rw [List.length_set]; rfl
/-- the cell, and all others -/
theorem zo (hc:(H[h.toNat]?).bind (·[i.toNat]?)=some e):((g9 H h i d)[h.toNat]?).bind (·[i.toNat]?)=some d:=by
 cases hh:H[h.toNat]? with
 |none=>rw [hh] at hc; cases hc
 |some ht=>
  rw [hh] at hc
  rw [qq hh,List.getElem?_set_self (bf.1 hh).1]
  show (ht.set i.toNat d)[i.toNat]? =some d
  exact List.getElem?_set_self (bf.1 hc).1
theorem xO {a b:Nat} (hn: ¬ (a=h.toNat∧b=i.toNat)):((g9 H h i d)[a]?).bind (·[b]?)=(H[a]?).bind (·[b]?):=by
 cases hh:H[h.toNat]? with
 |none=>unfold g9; rw [hh]
 |some ht=>
  rw [qq hh,List.getElem?_set]
  by_cases c:h.toNat=a
  ·subst c
   rw [if_pos rfl,if_pos (bf.1 hh).1,hh]
   show (ht.set i.toNat d)[b]? =ht[b]?
   rw [List.getElem?_set_ne (fun q=>hn ⟨rfl,q.symm⟩)]
  ·rw [if_neg c]
theorem zK (hc:(H[h.toNat]?).bind (·[i.toNat]?)=some d):g9 H h i d=H:=by
 cases hh:H[h.toNat]? with
 |none=>rw [hh] at hc; cases hc
 |some ht=>
  rw [hh] at hc
  obtain ⟨hl,A⟩:=bf.1 hh
  obtain ⟨C,B⟩:=bf.1 (show ht[i.toNat]? =some d from hc)
  rw [qq hh,← B,List.set_getElem_self,← A,List.set_getElem_self]
theorem Ho (hc:(r.av[h.toNat]?).bind (·[i.toNat]?)=some d):jS r h i d=r:=by unfold jS; rw [zK hc]
/-- the times of all others -/
theorem xx (he:gf r=0) (he':gf (jS r h i d)=0) (hn: ¬ (x.toNat=h.toNat∧y.toNat=i.toNat)):lD (jS r h i d) x y=lD r x y∧jA (jS r h i d) x y=jA r x y:=by
 have hl:(jS r h i d).av.length=r.av.length:=pz
 have hs:mD (jS r h i d) y↔mD r y:=Iff.rfl
 have hc:((jS r h i d).av[x.toNat]?).bind (·[y.toNat]?)=(r.av[x.toNat]?).bind (·[y.toNat]?):=xO hn
 have e:lD (jS r h i d) x y=lD r x y:=by
  unfold lD
  rw [if_pos he,if_pos he',hl,hc]
  by_cases q:(0≤x∧x≤(r.av.length:Int)-1)∧mD r y
  ·rw [if_pos q,if_pos (show (0≤x∧x≤(r.av.length:Int)-1)∧mD (jS r h i d) y from q)]
  ·rw [if_neg q,if_neg (show ¬ ((0≤x∧x≤(r.av.length:Int)-1)∧mD (jS r h i d) y) from q)]
 refine ⟨e,?_⟩
 unfold jA
 rw [e,hc]; rfl
/-- and its own -/
theorem Ag (he':gf (jS r h i d)=0) (hi:(0≤h∧h≤(r.av.length:Int)-1)∧mD r i) (hc:(r.av[h.toNat]?).bind (·[i.toNat]?)=some e):(d.Out=true→lD (jS r h i d) h i=6)∧(d.Out=false→lD (jS r h i d) h i=0∧jA (jS r h i d) h i=fX r.ao d):=by
 have hl:(jS r h i d).av.length=r.av.length:=pz
 have A:((jS r h i d).av[h.toNat]?).bind (·[i.toNat]?)=some d:=zo hc
 have hi':(0≤h∧h≤((jS r h i d).av.length:Int)-1)∧mD (jS r h i d) i:=by rw [hl]; exact hi
 constructor<;>intro q
 ·unfold lD; rw [if_pos he',if_pos hi',A]; simp [q]
 ·have t:lD (jS r h i d) h i=0:=by unfold lD; rw [if_pos he',if_pos hi',A]; simp [q]
  exact ⟨t,by unfold jA; rw [if_pos t,A]; rfl⟩
end
end
section
/-- the places of which something is so; from the k-th on, all of them -/
def iu (P:Nat→Bool) (n k:Nat):List (Int×Bool):=((List.range n).filter fun q=>decide (k≤q)||P q).map fun (q:Nat)=>((q:Int),true)
section
variable {P:Nat→Bool} {n k q:Nat}
theorem xe {p:Int×Bool}:p∈iu P n k↔ ∃ q:Nat,q<n∧(k≤q∨P q=true)∧p=((q:Int),true):=by
 unfold iu
 simp only [db,List.mem_filter,List.mem_range,Bool.or_eq_true,decide_eq_true_eq]
 constructor
 ·rintro ⟨q,⟨A,B⟩,rfl⟩; exact ⟨q,A,B,rfl⟩
 ·rintro ⟨q,A,B,rfl⟩; exact ⟨q,⟨A,B⟩,rfl⟩
theorem Hp:((iu P n k).map (·.1)).Nodup:=by
 unfold iu
 rw [List.map_map,List.nodup_iff_pairwise_ne,List.pairwise_map]
 have h:(List.range n).Pairwise (· ≠ ·):=by rw [← List.nodup_iff_pairwise_ne]; exact List.nodup_range
 exact (h.sublist List.filter_sublist).imp fun {a b} A e=>A (by have B:(a:Int)=(b:Int):=e; omega)
theorem Iq:eB (iu P n 0) (n:Int) true=iu P (n+1) 0:=by
 have A:(iu P n 0).lookup (n:Int)=none:=iB.2 fun p hp e=>by
  obtain ⟨q,B,_,rfl⟩:=xe.1 hp
  simp only at e; omega
 unfold eB
 rw [A]
 show iu P n 0++[((n:Int),true)]=_
 unfold iu
 rw [List.range_succ,List.filter_append,List.map_append]
 simp
theorem Iw (h:P k=false):fz (iu P n k) (k:Int)=iu P n (k+1):=by
 unfold fz iu
 rw [List.filter_map,List.filter_filter]
 congr 1
 apply List.filter_congr
 intro q _
 by_cases e:q=k
 ·subst e; simp [h]
 ·have A:decide ((q:Int)=(k:Int))=false:=bj I
  have B:decide (k≤q)=decide (k+1≤q):=gU.2 I
  simp only [Function.comp_def,A,B,Bool.not_false,Bool.true_and]
theorem Hb (h:P k=true):iu P n k=iu P n (k+1):=by
 unfold iu
 congr 1
 apply List.filter_congr
 intro q _
 by_cases e:q=k
 ·subst e; simp [h]
 ·have A:decide (k≤q)=decide (k+1≤q):=gU.2 I
  rw [A]
theorem zi (hq:q<n):((iu P n n).lookup (q:Int)).getD false=P q:=by
 cases h:P q with
 |true=>
  have:((q:Int),true)∈iu P n n:=xe.2 ⟨q,hq,.inr h,rfl⟩
  rw [(lB Hp).1 this]; rfl
 |false=>
  have:(iu P n n).lookup (q:Int)=none:=iB.2 fun p hp e=>by
   obtain ⟨u,B,A,rfl⟩:=xe.1 hp
   simp only at e
   obtain rfl:u=q:=by omega
   rcases A with A|A
   ·omega
   ·rw [h] at A; cases A
  rw [this]; rfl
end
end
section
open Go.RowKit
structure gX (j:cS) (az:List RA) (ha:List cD):Prop where
 race:iF j.Race az ha
 nf:j.aS.length≤1000000
 np:j.aJ.length≤1000000
 kind: ∀ f∈j.aS,0≤f.Kind∧f.Kind≤255
structure sB (j:cS) (az:List RA) (ha:List cD):Prop where
 race:u3 j.Race az ha
 nf:j.aS.length≤9223372036854775807
 np:j.aJ.length≤9223372036854775807
 kind: ∀ f∈j.aS,0≤f.Kind∧f.Kind≤255
def qo (j:cS):Prop:=(lT j.Race∨10<(j.aS.length:Int))∨15<(j.aJ.length:Int)
noncomputable instance (j:cS):Decidable (qo j):=Classical.propDecidable _
theorem Fa {j:cS} (h: ¬ qo j): ¬ lT j.Race∧(j.aS.length:Int)≤10∧(j.aJ.length:Int)≤15:=by
 unfold qo at h
 have A: ¬ lT j.Race:=fun q=>h (.inl (.inl q))
 have B: ¬ 10<(j.aS.length:Int):=fun q=>h (.inl (.inr q))
 have C: ¬ 15<(j.aJ.length:Int):=fun q=>h (.inr q)
 exact ⟨A,I,I⟩
theorem sB.small {j:cS} {az:List RA} {ha:List cD} (h:sB j az ha) (hg: ¬ qo j):gX j az ha:=by
 have A:=Fa hg
 exact ⟨h.race.small A.1,I,I,h.kind⟩
def oY (fin:Int) (f:aZ):Prop:=(1≤f.Kind∧f.Kind≤3)∧(0≤f.mN∧f.mN≤f.To∧f.To≤86400000)∧0≤f.ig∧f.ig≤(if f.Kind=1 then 0 else fin)
instance (fin:Int) (f:aZ):Decidable (oY fin f):=by unfold oY; infer_instance
theorem Mf {P:Nat→Bool} {n i:Nat} (h: ¬ 0<((mh P n).length:Int)) (hi:i<n):P i=false:=by
 cases e:P i with
 |false=>rfl
 |true=>
  have:(i:Int)∈mh P n:=DQ.2 ⟨i,hi,rfl,e⟩
  have:=List.length_pos_of_mem this
  omega
theorem L7 {P:Nat→Bool} {n:Nat} (h:0<((mh P n).length:Int)): ∃ i,i<n∧P i=true:=by
 obtain ⟨x,hx⟩:=List.exists_mem_of_length_pos (l:=mh P n) I
 obtain ⟨i,A,_,B⟩:=DQ.1 hx
 exact ⟨i,A,B⟩
def ir {α:Type} (l:List α) (p:Int→α→Bool) (i:Nat):Bool:=(l[i]?).any (p (i:Int))
theorem sw {α:Type} {l:List α} {p:Int→α→Bool} {i:Nat} {x:α} (h:l[i]? =some x):ir l p i=p (i:Int) x:=by unfold ir; rw [h]; rfl
section
variable {fin:Int} {f:aZ} {j:cS}
theorem uy (hk:f.Kind=1):oY fin f↔(0≤f.mN∧f.mN≤f.To∧f.To≤86400000)∧0≤f.ig∧f.ig≤0:=by
 unfold oY; rw [if_pos hk]; omega
theorem uP (hk: ¬ f.Kind=1):oY fin f↔(1≤f.Kind∧f.Kind≤3)∧(0≤f.mN∧f.mN≤f.To∧f.To≤86400000)∧0≤f.ig∧f.ig≤fin:=by
 unfold oY; rw [if_neg hk]
theorem Du (h:0<((mh (ir j.aS fun _ f=>decide (¬ oY j.Race.ao.cf f)) j.aS.length).length:Int)): ¬ pV j:=fun q=>by
 obtain ⟨i,hi,hb⟩:=L7 h
 have hx:j.aS[i]? =some (j.aS[i]'hi):=fV hi
 rw [sw hx] at hb
 exact (of_decide_eq_true hb) (q.fault _ (aM hx))
theorem CB (h: ¬ 0<((mh (ir j.aS fun _ f=>decide (¬ oY j.Race.ao.cf f)) j.aS.length).length:Int)): ∀ f∈j.aS,e7 j.Race.ao f:=fun f hf=>by
 obtain ⟨i,hi⟩:=List.mem_iff_getElem?.1 hf
 have hb:=Mf h (bf.1 hi).1
 rw [sw hi] at hb
 exact Decidable.of_not_not (of_decide_eq_false hb)
theorem Ba {b:Bool} {p q:Prop} (h1:b=false) (h2: ¬ p) (h3: ¬ q): ¬ (b=true∨p∨q):=by
 rintro (h|h|h)
 ·rw [h1] at h; cases h
 ·exact h2 h
 ·exact h3 h
end
section
variable {l:bH} {r:c_} {b:Int} {f:aZ} {d:ak} {a c:zA}
theorem G6 (h:b<0):cQ l r b=⟨r.Start,r.Start,true,false⟩:=if_pos h
theorem BE (h: ¬ b<0) (e: ¬ dW l r b=0):cQ l r b=⟨86400000,86400000,false,true⟩:=by unfold cQ; rw [if_neg h,if_neg e]
theorem zc (h: ¬ b<0) (e:dW l r b=0) (q:uo l r b=true):cQ l r b=⟨(dN l r b).Lo,(dN l r b).Hi,true,false⟩:=by unfold cQ; rw [if_neg h,if_pos e,q]; rfl
theorem wV (h: ¬ b<0) (e:dW l r b=0) (q:uo l r b=false):cQ l r b=⟨(dN l r b).Lo,86400000,false,false⟩:=by unfold cQ; rw [if_neg h,if_pos e,q]; rfl
theorem vn (h:dW l r b=0) (hb:0≤b):fu l r 0=0:=by
 by_cases e:fu l r (ke l b)=0
 ·by_cases c:0≤b∧b≤(l.ab.length:Int)-1
  ·rw [uW c] at e; exact e
  ·rw [show ke l b=2 from if_neg c] at e
   have:=(jh e).2.2.1
   omega
 ·rw [(mB e).1] at h; exact absurd h e
theorem CP (h:fu l r 0=0):uo l r b=decide (b<qg (kl l r)):=by
 have hm:=N_ (yY h)
 unfold uo
 rw [Bool.eq_iff_iff,df,decide_eq_true_iff]
 constructor
 ·intro q; exact of_decide_eq_true (q _ hm.1)
 ·intro q x hx
  have:=hm.2 x hx
  exact cO I
theorem Md (hb:0≤b):(0≤(cQ l r b).Lo∧(cQ l r b).Lo≤86400000)∧0≤(cQ l r b).Hi∧(cQ l r b).Hi≤86400000:=by
 by_cases e:dW l r b=0
 ·have A:=uB e
  cases q:uo l r b with
  |true=>rw [zc I e q]; simp only; omega
  |false=>rw [wV I e q]; simp only; omega
 ·rw [BE I e]; simp only; omega
theorem jK (hk:f.Kind=1) (hr:nZ d):hG l f d=nO f (cQ l d.aY (-1)) (cQ l d.aY l.cf):=by
 unfold hG yU Q7; rw [if_pos hr,if_pos hk,if_pos hk]
theorem jI (hk:f.Kind=2) (hr:nZ d):hG l f d=nO f (cQ l d.aY (f.ig-1)) (cQ l d.aY f.ig):=by
 unfold hG yU Q7; rw [if_pos hr,if_neg I,if_pos hk,if_neg I]
theorem jH (hk:f.Kind=3) (hr:nZ d):hG l f d=nO f (cQ l d.aY f.ig) (cQ l d.aY f.ig):=by
 unfold hG yU Q7; rw [if_pos hr,if_neg I,if_neg I,if_neg I]
theorem g6 (h:a.never=true∨f.To<a.Lo∨c.Hi<f.mN):nO f a c=0:=if_pos h
theorem pq (h: ¬ (a.never=true∨f.To<a.Lo∨c.Hi<f.mN)) (q:a.each=true) (s:uX f a c):nO f a c=2:=by unfold nO; rw [if_neg h,if_pos ⟨q,s⟩]
theorem jM (h: ¬ (a.never=true∨f.To<a.Lo∨c.Hi<f.mN)) (q: ¬ (a.each=true∧uX f a c)):nO f a c=1:=by unfold nO; rw [if_neg h,if_neg q]
theorem oM (hk: ¬ f.Kind=3):uX f a c↔a.Hi≤f.To∧f.mN≤c.Lo:=by unfold uX; rw [if_neg hk]
theorem Ac (hk:f.Kind=3):uX f a c↔ai.mk (max a.Lo f.mN) (min a.Hi f.To)=ai.mk a.Lo a.Hi:=by
 unfold uX; rw [if_pos hk]
 constructor
 ·intro q; congr 1<;>omega
 ·intro q; injection q with A B; omega
end
section
variable {j:cS} {p:br} {d:ak} {f:aZ}
theorem Qc (hd:qH j p=some d) (h:p.At≤(cQ j.Race.ao d.aY j.Race.ao.cf).Lo+60000*j.iy):mZ j p=0:=by unfold mZ; rw [hd]; exact if_pos h
theorem PF (hd:qH j p=some d) (h: ¬ p.At≤(cQ j.Race.ao d.aY j.Race.ao.cf).Lo+60000*j.iy) (h2:p.At≤(cQ j.Race.ao d.aY j.Race.ao.cf).Hi+60000*j.iy):mZ j p=1:=by unfold mZ; rw [hd]; simp only; rw [if_neg h,if_pos h2]
theorem QD (hd:qH j p=some d) (h: ¬ p.At≤(cQ j.Race.ao d.aY j.Race.ao.cf).Lo+60000*j.iy) (h2: ¬ p.At≤(cQ j.Race.ao d.aY j.Race.ao.cf).Hi+60000*j.iy):mZ j p=2:=by unfold mZ; rw [hd]; simp only; rw [if_neg h,if_neg h2]
theorem Ki (h:mZ j p=2):iD j p=false:=by unfold iD; split<;>simp [h]
theorem LG (hd:qH j p=some d) (hf:j.aS[p.jX.toNat]? =some f) (h: ¬ mZ j p=2):iD j p= !decide (hG j.Race.ao f d=0):=by unfold iD; rw [hd,hf]; simp [h]
end
section
variable {j:cS} {i k:Nat} {p q:br} {f:aZ} {d:ak}
/-- the first faults are right -/
def pd (j:cS) (k:Nat):Prop:= ∀ (i:Nat) f,i<k→j.aS[i]? =some f→e7 j.Race.ao f
theorem CG:pd j 0:=fun i f h=>absurd h (Nat.not_lt_zero _)
theorem qV (h:pd j k) (hf:j.aS[k]? =some f) (ho:e7 j.Race.ao f):pd j (k+1):=fun i g hi hg=>by
 rcases Nat.lt_or_ge i k with c|c
 ·exact h i g c hg
 ·obtain rfl:i=k:=by omega
  rw [hf] at hg; cases hg; exact ho
theorem dQ (h:pd j k) (hk:j.aS.length≤k): ∀ f∈j.aS,e7 j.Race.ao f:=fun f hf=>by
 obtain ⟨i,hi⟩:=List.mem_iff_getElem?.1 hf
 exact h i f (by have:=(bf.1 hi).1; omega) hi
/-- the first protests are right -/
def oD (j:cS) (k:Nat):Prop:= ∀ (i:Nat) p,i<k→j.aJ[i]? =some p→vg j i p
theorem xo:oD j 0:=fun i f h=>absurd h (Nat.not_lt_zero _)
theorem td (h:oD j k) (hp:j.aJ[k]? =some p) (ho:vg j k p):oD j (k+1):=fun i g hi hg=>by
 rcases Nat.lt_or_ge i k with c|c
 ·exact h i g c hg
 ·obtain rfl:i=k:=by omega
  rw [hp] at hg; cases hg; exact ho
/-- the number of the last protest, so far -/
def pN (j:cS) (k:Nat):Int:=match k with
 |0=> -1
 |k+1=>match j.aJ[k]? with
  |some p=>p.Id
  |none=> -1
theorem nM (hp:j.aJ[k]? =some p):pN j (k+1)=p.Id:=by unfold pN; simp only [hp]
theorem Mc (h:oD j k) (hk:k≤j.aJ.length): -1≤pN j k∧pN j k≤9999:=by
 cases k with
 |zero=>exact ⟨by simp [pN],by simp [pN]⟩
 |succ k=>
  obtain ⟨p,hp⟩: ∃ p,j.aJ[k]? =some p:=⟨j.aJ[k]'I,fV _⟩
  have:=(h k p I hp).id
  rw [nM hp]; omega
theorem pC {ht:List ak} (hh:j.Race.av[p.jm.toNat]? =some ht) (hd:ht[p.iQ.toNat]? =some d):qH j p=some d:=by
 unfold qH; rw [hh]; exact hd
theorem Mp (hp:j.aJ[k]? =some p) (hi:pN j k+1≤p.Id∧p.Id≤9999) (h0: -1≤pN j k) (hs:0≤p.iQ∧p.iQ≤(j.Race.aV.length:Int)-1) (hh:0≤p.jm∧p.jm≤(j.Race.av.length:Int)-1) (hf:0≤p.jX∧p.jX≤(j.aS.length:Int)-1) (hd:qH j p=some d) (hr:nZ d) (ha:d.aY.Start≤p.At∧p.At≤86400000):vg j k p:=by
 refine ⟨I,fun q B A=>?_,hs,hh,hf,d,hd,hr,ha⟩
 cases k with
 |zero=>omega
 |succ k=>
  rw [Nat.add_sub_cancel] at A
  rw [nM A] at hi
  omega
/-- one that is wrong -/
theorem rZ (hp:j.aJ[k]? =some p) (h: ¬ vg j k p): ¬ pV j:=fun q=>h (q.ib k p hp)
theorem wS (h:vg j k p) (hk:k≤j.aJ.length):pN j k+1≤p.Id:=by
 cases k with
 |zero=>have:=h.id; show-1+1≤p.Id; omega
 |succ k=>
  obtain ⟨q,hq⟩: ∃ q,j.aJ[k]? =some q:=⟨j.aJ[k]'I,fV _⟩
  have:=h.up q I (by rw [Nat.add_sub_cancel]; exact hq)
  rw [nM hq]; omega
end
def oV (l:List aZ) (f:aZ):Int:=match l.findIdx? (fun x=>decide (x=f)) with
 |some i=>(i:Int)
 |none=> -1
section
variable {l:List aZ} {f g x:aZ} {i:Nat}
theorem N3 (hx:l[i]? =some x) (h:x=f) (hb: ∀ (q:Nat) y,q<i→l[q]? =some y→y≠f):oV l f=(i:Int):=by
 unfold oV
 have:l.findIdx? (fun x=>decide (x=f))=some i:=by
  rw [List.findIdx?_eq_some_iff_getElem]
  obtain ⟨hi,e⟩:=bf.1 hx
  refine ⟨hi,by rw [e]; simp [h],fun q hq=>?_⟩
  have:=hb q (l[q]'I) hq (fV _)
  simpa using this
 rw [this]
theorem Nl (hb: ∀ (q:Nat) y,q<i→l[q]? =some y→y≠f) (hi:l.length≤i):oV l f= -1:=by
 unfold oV
 have:l.findIdx? (fun x=>decide (x=f))=none:=by
  rw [List.findIdx?_eq_none_iff]
  intro y hy
  obtain ⟨q,hq⟩:=List.mem_iff_getElem?.1 hy
  have:=hb q y (by have:=(bf.1 hq).1; omega) hq
  simpa using this
 rw [this]
theorem B2 (hf:f∈l): ∃ i:Nat,oV l f=(i:Int)∧l[i]? =some f:=by
 unfold oV
 cases h:l.findIdx? (fun x=>decide (x=f)) with
 |none=>
  rw [List.findIdx?_eq_none_iff] at h
  have:=h f hf
  simp at this
 |some i=>
  rw [List.findIdx?_eq_some_iff_getElem] at h
  obtain ⟨hi,e,_⟩:=h
  exact ⟨i,U,by rw [fV hi]; simpa using e⟩
theorem JO (hf:f∈l) (hg:g∈l) (h:oV l f=oV l g):f=g:=by
 obtain ⟨i,C,A⟩:=B2 hf
 obtain ⟨k,D,B⟩:=B2 hg
 have:i=k:=by omega
 subst this
 exact Option.some.inj (A.symm.trans B)
end
end
section
open Go.RowKit
abbrev VL (C:List aA) (i j:Nat):List Nat:=i::j::(List.range C.length).filter fun k=>k != i&&k != j
def UC {σ:Type} (w0:World) (P:Program) (l:Nat) (step:σ→List Value→aA→σ→Prop) (J:σ→aA→Prop) (Z:aA→Prop):Prop:=
 ∀ k x R k' A w,step k x R k'→J k A→w0.heap.size≤w.heap.size→(bM [A,R]).holds w→YieldAt (Fw none) 0 P l x.toArray w fun e w'=>
  (e= .returned (.bool true)∧ ∃ B,J k' B∧Mv (bM [A,R]) B w w')∨(e= .returned (.bool false)∧ ∃ B,Z B∧Mv (bM [A,R]) B w w')
structure Pb {σ:Type} (P:Program) (f:FuncId) (fi ca:List Value) (Cp:List aA) (s0:σ) (step:σ→List Value→aA→σ→Prop) (fin:σ→Prop):Prop where
 go:tL P f=true
 run: ∀ (l:Nat) (J:σ→aA→Prop) (Z:aA→Prop) (A0:aA) (w:World),UC w P l step J Z→J s0 A0→A0.holds w→(∀ A∈Cp,A.holds w)→(∀ A∈Cp,Db A0 A.ro)→
  Calls P f (fi++Value.func (.yield l) #[] #[]::ca).toArray w (B1 J Z fin A0 w)
theorem M8 {σ:Type} {P:Program} {f:FuncId} {fn:Func} {c:Code} {fi ca:List Value} {Cp:List aA} {s0:σ} {step:σ→List Value→aA→σ→Prop} {fin:σ→Prop} (hgo:tL P f=true) (hf:P.funcs[f]? =some fn) (hb:fn.body=some c) (hn:Nat.ble (fi.length+ca.length+1) fn.ntmps=true)
 (h: ∀ (l:Nat) (J:σ→aA→Prop) (Z:aA→Prop) (A0:aA) (w0:World) (Q:dj),UC w0 P l step J Z→J s0 A0→Fo A0 w0 A0→
  (∀ D L C,LJ ⟨P,none,fn.ntmps,⟨A0.wf,fun _=>True⟩,w0⟩ fn (B1 J Z fin A0 w0) D L C→KJ ⟨P,none,fn.ntmps,⟨A0.wf,fun _=>True⟩,w0⟩ (Q .ret) D L C)→
  (∀ D L C,LJ ⟨P,none,fn.ntmps,⟨A0.wf,fun _=>True⟩,w0⟩ fn (B1 J Z fin A0 w0) D L C→KJ ⟨P,none,fn.ntmps,⟨A0.wf,fun _=>True⟩,w0⟩ (Q .normal) D L C)→
  WJ ⟨P,none,fn.ntmps,⟨A0.wf,fun _=>True⟩,w0⟩ c Q [] (O2 (fi++Value.func (.yield l) #[] #[]::ca)) (A0::Cp.map aA.ro)):Pb P f fi ca Cp s0 step fin:=by
 refine ⟨hgo,fun l J Z A0 w hY hJ hA F E=>?_⟩
 refine zX hf hb (by simpa [Nat.add_assoc] using hn) (h l J Z A0 w · hY hJ (fun b hb=> .inl hb)) ?_
 have G:=rN F
 refine ⟨dV.refl _ _,fun A hA'=>?_,List.Pairwise.cons (fun B hB=>?_) G.sep,fun A hA' b hb=>?_,fun _ _ _ _=> .inr trivial⟩
 ·rcases b_.1 hA' with rfl|hA'
  ·exact hA
  ·exact G.holds A hA'
 ·obtain ⟨B',hB',rfl⟩:=db.1 hB
  exact E B' hB'
 ·rcases b_.1 hA' with rfl|hA'
  ·exact .inr hb
  ·obtain ⟨B',hB',rfl⟩:=db.1 hA'
   exact hb.elim
section
variable {E:fh} {ops:Array Oper} {Q:dj} {rest:List Oper} {D:List Deferred} {L:List (Nat×Value)} {C:List aA}
variable {d:Nat} {ty:TypeId} {ps:String} {af:Array Edge} {g:Option (Nat×Bool)}
/-- a call of yield -/
theorem KB {σ:Type} {fop:Operand} {xs:Array Operand} {ts:Array TypeId} {l:Nat} {k k':σ} {vs:List Value} {step:σ→List Value→aA→σ→Prop} {J:σ→aA→Prop} {Z:aA→Prop} {A0 A R:aA} {C1:List aA} (i j:Nat) (hS:E.S=⟨A0.wf,fun _=>True⟩) (hY:UC E.w0 E.P l step J Z) (hJ:J k A) (hF:Fo A0 E.w0 A) (hg:j_ ops L g=true) (hf:ev L fop=some (.func (.yield l) #[] #[]))
 (hx:evs L xs.toList=some vs) (hk:step k vs R k') (hR:R.wr=true) (hn:decide (VL C i j).Nodup=true) (hC:l0 C (VL C i j)=some (A::R::C1)) (hd:Nat.blt d E.n=true)
 (k1: ∀ B,J k' B→Fo A0 E.w0 B→RJ E ops Q rest D ((d,.bool true)::L) (B::C1))
 (k2: ∀ B,Z B→Fo A0 E.w0 B→RJ E ops Q rest D ((d,.bool false)::L) (B::C1)):
 RJ E ops Q (⟨some d,.call {callee:= .value fop,args:=xs,argTypes:=ts},ty,ps,af,g⟩::rest) D L C:=by
 intro a w F N
 have AA:St E.S E.w0 ([A,R]++C1) w:=St.j5 _ hn (j4 hC) N
 have hs:=AA.tied
 have hd':d<E.n:=by rw [← Nat.blt_eq]; exact hd
 unfold s_
 rw [if_pos (eG F hg)]
 have O:xs.map a.eval=vs.toArray:=by
  have:=F.evs hx
  apply Array.ext'
  simp [this]
 obtain ⟨fn,tmps,assign,body,hy,hr⟩:=hY k vs R k' A w hk hJ hs.keeps.size (hs.holds _ bY)
 have H:(execOp a.eval ⟨some d,.call {callee:= .value fop,args:=xs,argTypes:=ts},ty,ps,af,g⟩).run E.P w= .ok (.round l fn tmps assign body) w:=by
  simp [execOp,resolve,F.ev hf,Deferred.ofValue,invoke,O,hy]
 refine ⟨fun _ _=>trivial,?_⟩
 rw [Oper.semAt_eq _ _ _ sm,H]
 refine ⟨fun h=>by simp at h,?_⟩
 have G: ∀ (B:aA) (w':World),Mv (bM [A,R]) B w w'→Fo A0 E.w0 B:=fun B w' m b hb=>by
  rcases m.fg b hb with ⟨X,hX,K⟩|K
  ·rcases b_.1 hX with rfl|hX
   ·exact hF b K
   ·rw [cE] at hX; subst hX
    rcases AA.own X sm b (X.whole hR b K) with M|M
    ·exact .inr M
    ·rw [hS] at M; exact .inl (A0.kO b M)
  ·exact .inr (Nat.le_trans hs.keeps.size K)
 have hr':RoundIn (Fw E.r) 0 E.P l fn tmps assign body w _:=hr
 refine hr'.mono fun e w' he=>?_
 rcases he with ⟨rfl,B,hB,m⟩|⟨rfl,B,hB,m⟩
 ·exact k1 B hB (G B w' m) _ _ (F.put hd' _) (hs.mv 0 U m)
 ·exact k2 B hB (G B w' m) _ _ (F.put hd' _) (hs.mv 0 U m)
end
theorem JI {σ:Type} {E:fh} {Q:dj} {D:g_} {L L0:dq} {C F:List aA} {g:Operand} {ps:Array Tmp} {assign body:Code} {f:FuncId} {fi ca:List Value} {Cp:List aA} {s0:σ} {step:σ→List Value→aA→σ→Prop} {fin_:σ→Prop} {ι κ:Type}
 (inv:σ→ι→Prop) (Ci:σ→ι→List aA) (invx:Code→κ→Prop) (Cx:Code→κ→List aA) (isJ isF:List Nat) (y0:ι)
 (hr:E.r=none) (hg:ev L g=some (.func (.func f) fi.toArray ca.toArray)) (hs:Pb E.P f fi ca Cp s0 step fin_)
 (hnd:decide (isJ++isF).Nodup=true) (hJ:j5 C isJ=Ci s0 y0) (hF:j5 C isF=F) (h0:inv s0 y0) (hCp: ∀ A∈Cp,∃ B∈F,H0 B A)
 (hps: ∀ k x R k',step k x R k'→x.length=ps.size) (hpn:ps.toList.all (fun t=>Nat.blt t E.n)=true) (hL:dp L L0)
 (round: ∀ (k:σ) (x:List Value) (R:aA) (k':σ) (y:ι) (l:Nat) (ra rb:Loop) (S:BS) (w0:World) (K:Act→World→Prop) (Qr:dj),E.w0.heap.size≤w0.heap.size→step k x R k'→inv k y→
  (∀ L' C',WJ ⟨E.P,some l,E.n,S,w0⟩ body Qr [] L' (ji l (.loop rb)::C')→KJ ⟨E.P,some l,E.n,S,w0⟩ K [] L' (ji l (.loop ra)::C'))→
  (∀ y' L' C',inv k' y'→(∀ w,St S w0 C' w→St S w0 (ji l (.loop rb)::Ci k' y') w)→KJ ⟨E.P,some l,E.n,S,w0⟩ (Qr .normal) [] L' C')→
  (∀ id z L' C',invx (.exit id) z→(∀ w,St S w0 C' w→St S w0 (ji l (.loop rb)::Cx (.exit id) z) w)→KJ ⟨E.P,some l,E.n,S,w0⟩ (Qr (.exit id)) [] L' C')→
  (∀ z L' C',invx .ret z→(∀ w,St S w0 C' w→St S w0 (ji l (.loop rb)::Cx .ret z) w)→KJ ⟨E.P,some l,E.n,S,w0⟩ (Qr .ret) [] L' C')→
  WJ ⟨E.P,some l,E.n,S,w0⟩ assign (Exit.then K (fun _ _ _=>False)) [] (yP ps.toList x L0) (ji l (.loop ra)::(Ci k y++[R])))
 (fin: ∀ r s y,fin_ s→inv s y→KJ E (Q .normal) (jU r::D) L0 (ji r (.deferred (some []))::(F++Ci s y)))
 (finx: ∀ r id z,invx (.exit id) z→KJ E (Q (.exit id)) (jU r::D) L0 (ji r (.deferred (some []))::(F++Cx (.exit id) z)))
 (finr: ∀ r z,invx .ret z→KJ E (Q .ret) (jU r::D) L0 (ji r (.deferred (some []))::(F++Cx .ret z))):WJ E (.rangeFunc g ps assign body) Q D L C:=by
 intro a w hf u
 refine wpIn_rangeFunc fun fn _=>?_
 show ∃ l jU w₁ d w₁' f args w₂,(Instr.enterLoop fn a.tmps ps assign body E.r).run E.P w= .ok (l,jU) w₁∧_
 rw [hr]
 obtain ⟨rec,G⟩: ∃ rec:LoopState→Option Code→Loop,rec=fun st pe=>{state:=st,pending:=pe,fn,tmps:=a.tmps,params:=ps,assign,body,defers:=w.heap.size}:=⟨_,rfl⟩
 obtain ⟨W1,T⟩: ∃ W1,(w.alloc (.deferred (some []))).alloc (.loop (rec .ready none))=W1:=⟨_,rfl⟩
 have A3:a.eval g= .func (.func f) fi.toArray ca.toArray:=hf.ev hg
 have q:(Instr.enterLoop fn a.tmps ps assign body none).run E.P w= .ok (w.heap.size+1,[jU w.heap.size]) W1:=by
  rw [← T,G]; exact run_enterLoop_outer _ _ _ _ _
 -- the state with the record and the block
 have AC:St E.S E.w0 ((ji (w.heap.size+1) (.loop (rec .ready none))::Ci s0 y0)++(ji w.heap.size (.deferred (some []))::F)) W1:=by
  have Y:St E.S E.w0 (Ci s0 y0++F) w:=St.j5 (isJ++isF) hnd (by have Y:=hJ; have o:=hF; unfold Go.Proofs.YtkaenmjhfajbkaaGreatDoor.j5 at Y o ⊢; rw [List.filterMap_append,Y,o]) u
  have hn:LZ w W1 [ji (w.heap.size+1) (.loop (rec .ready none)),ji w.heap.size (.deferred (some []))]:=by
   refine ⟨fun A hA=>?_,fun A hA b hb=>?_,?_⟩
   ·rcases b_.1 hA with rfl|hA
    ·show W1.heap[w.heap.size+1]? =_
     rw [← T]; have:=World.alloc_heap_new (w.alloc (.deferred (some []))) (.loop (rec .ready none)); rwa [World.size_alloc] at this
    ·simp only [cE] at hA; subst hA
     show W1.heap[w.heap.size]? =_
     rw [← T]; exact (Below.heap_alloc _ _ _ sm).trans (World.alloc_heap_new w _)
   ·rcases b_.1 hA with rfl|hA
    ·have:b=w.heap.size+1:=hb
     omega
    ·simp only [cE] at hA; subst hA
     have:b=w.heap.size:=hb
     omega
   ·refine List.Pairwise.cons (fun B hB b Y o=>?_) (List.pairwise_singleton _ _)
    simp only [cE] at hB; subst hB
    have X:b=w.heap.size+1:=Y
    have O:b=w.heap.size:=o
    omega
  have hk:dV no w W1:=by rw [← T]; exact (dV.alloc no w _).trans (dV.alloc no _ _)
  have o:=Y.grow hk hn
  refine o.perm ?_
  simp only [List.cons_append,List.nil_append]
  exact List.Perm.cons _ (List.perm_middle.symm)
 have i:=AC.tied
 obtain ⟨H,A8⟩:=List.pairwise_cons.1 i.sep
 have A1:=i.holds _ (bY ..)
 let J:σ→aA→Prop:=fun k A=> ∃ y,inv k y∧A=bM (ji (w.heap.size+1) (.loop (rec .ready none))::Ci k y)
 let Z:aA→Prop:=fun A=> ∃ c z,(c= .ret∨ ∃ id,c= .exit id)∧invx c z∧A=bM (ji (w.heap.size+1) (.loop (rec .done (some c)))::Cx c z)
 refine ⟨w.heap.size+1,[jU w.heap.size],W1,{target:= .fn (.func f) ca.toArray,args:=fi.toArray++ #[.func (.yield (w.heap.size+1)) #[] #[]]},W1,f,
  (fi++Value.func (.yield (w.heap.size+1)) #[] #[]::ca).toArray,W1,q,?_,fun _ _=>trivial,?_,fun h=>by simp at h,?_⟩
 ·simp only [resolve,A3]
  simp [Deferred.ofValue,Act.eval]
 ·have:fi.toArray++ #[Value.func (.yield (w.heap.size+1)) #[] #[]]++ca.toArray=(fi++Value.func (.yield (w.heap.size+1)) #[] #[]::ca).toArray:=by simp
  simp [invoke,nk hs.go]
 ·refine (pE E.r (hs.run (w.heap.size+1) J Z _ W1 ?_ ⟨y0,h0,U⟩ A1 ?_ ?_)).mono ?_
  ·-- a round
   rintro k x R k' A W hx ⟨y,hy,rfl⟩ A2 hA
   have hl:W.heap[w.heap.size+1]? =some (.loop (rec .ready none)):=(hA.1 _ (bY ..)).1 _ (bY ..)
   have AO:=run_yield (P:=E.P) (args:=x.toArray) hl (by rw [G]; simpa using hps k x R k' hx)
   rw [G] at AO
   refine ⟨fn,_,assign,body,AO,roundIn_of_wpIn trivial ?_⟩
   let A:aA:=bM [bM (ji (w.heap.size+1) (.loop (rec .ready none))::Ci k y),R]
   have A4:Fr E.n [] (yP ps.toList x L0) {tmps:=(ps.zip x.toArray).foldl (fun tmps (t,a)=>tmps.setIfInBounds t a) a.tmps,defers:=[]}:=by
    have Y:=D9 ps.toList x L0 a.tmps (fun t ht=>by have:=df.1 hpn t ht; rwa [Nat.blt_eq] at this) ⟨rfl,hf.size,fun t v hv=>hf.at_ t v (hL t v hv)⟩
    rw [← Array.foldl_toList]
    simpa using Y
   have p: ∀ (c:Option Code) (b:Bool),({rec .busy none with state:=if b then .ready else .done,pending:=c}:Loop)=rec (if b then .ready else .done) c:=fun c b=>by rw [G]
   have AA: ∀ (c:Option Code) (N:World) (C':List aA) (S:BS),St S W (ji (w.heap.size+1) (.loop (rec .busy none))::C') N→
    ∃ M,(Instr.endRound (w.heap.size+1) c).run E.P N= .ok (.bool c.isNone) M∧St S W (ji (w.heap.size+1) (.loop (rec (if c.isNone then .ready else .done) c))::C') M:=fun c N C' S H=>by
    have AB:N.heap[w.heap.size+1]? =some (.loop (rec .busy none)):=H.holds _ (bY ..)
    refine ⟨_,run_endRound c AB,?_⟩
    have:=H.y_ (b:=w.heap.size+1) (A':=ji (w.heap.size+1) (.loop (rec (if c.isNone then .ready else .done) c))) 0 rfl rfl rfl (hO _) (fun _ h=>h) (World.putObj_heap_same (eu AB))
    rw [p]
    exact this
   refine round k x R k' y (w.heap.size+1) (rec .ready none) (rec .busy none) ⟨A.wf,A.fg⟩ W _ (roundPost E.P (w.heap.size+1) (fun e w'=>(e= .returned (.bool true)∧ ∃ B,J k' B∧Mv A B W w')∨(e= .returned (.bool false)∧ ∃ B,Z B∧Mv A B W w'))) (Nat.le_trans (Nat.le_trans u.keeps.size (by rw [← T]; simp; omega)) A2) hx hy ?_ ?_ ?_ ?_ _ _ A4 (by have:=(St.AK hA).iz; simpa using this)
   ·intro L' C' hW a1 N j H
    have AB:N.heap[w.heap.size+1]? =some (.loop (rec .ready none)):=H.holds _ (bY ..)
    refine ⟨_,run_beginRound AB (by rw [G]),hW _ _ j ?_⟩
    have:=H.y_ (b:=w.heap.size+1) (A':=ji (w.heap.size+1) (.loop (rec .busy none))) 0 rfl rfl rfl (hO _) (fun _ h=>h) (World.putObj_heap_same (eu AB))
    have e:({rec .ready none with state:= .busy}:Loop)=rec .busy none:=by rw [G]
    rw [e]; exact this
   ·intro y' L' C' hy' hC' a1 N j H
    obtain ⟨M,X,O⟩:=AA none N _ _ (hC' _ H)
    exact ⟨_,M,X,.inl ⟨U,_,⟨y',hy',U⟩,Mv.of O⟩⟩
   ·intro id z L' C' hz hC' a1 N j H
    obtain ⟨M,X,O⟩:=AA (some (.exit id)) N _ _ (hC' _ H)
    exact ⟨_,M,X,.inr ⟨U,_,⟨_,z,.inr ⟨id,U⟩,hz,U⟩,Mv.of O⟩⟩
   ·intro z L' C' hz hC' a1 N j H
    obtain ⟨M,X,O⟩:=AA (some .ret) N _ _ (hC' _ H)
    exact ⟨_,M,X,.inr ⟨U,_,⟨_,z,.inl U,hz,U⟩,Mv.of O⟩⟩
  ·intro A hA
   obtain ⟨B,hB,hc⟩:=hCp A hA
   exact hc.holds _ (i.holds B (dh _ (dh _ hB)))
  ·intro A hA b hb hb'
   obtain ⟨B,hB,hc⟩:=hCp A hA
   exact ⟨(H B (dh _ hB) b hb (hc.fg b hb')).1,fun h=>h⟩
  ·rintro e w' ⟨v,rfl,hh⟩
   have V:Fr E.n (jU w.heap.size::D) L0 {a with defers:=[jU w.heap.size]++a.defers}:=⟨by simp [hf.defers],hf.size,fun t v hv=>hf.at_ t v (hL t v hv)⟩
   have hleave: ∀ (st:LoopState) (c:Option Code) (C':List aA),st≠ .busy→Mv (bM (ji (w.heap.size+1) (.loop (rec .ready none))::Ci s0 y0)) (bM (ji (w.heap.size+1) (.loop (rec st c))::C')) W1 w'→
    ∃ M,(Instr.endLoop (w.heap.size+1)).run E.P w'= .ok c M∧St E.S E.w0 (ji w.heap.size (.deferred (some []))::(F++C')) M:=fun st c C' A6 m=>by
    have Y:=(i.mv 0 rfl m).iz
    have h1':St E.S E.w0 ((ji (w.heap.size+1) (.loop (rec st c))::C')++(ji w.heap.size (.deferred (some []))::F)) w':=Y
    have AB:w'.heap[w.heap.size+1]? =some (.loop (rec st c)):=h1'.holds (ji (w.heap.size+1) (.loop (rec st c))) sm
    refine ⟨_,by have:=run_endLoop (P:=E.P) AB (by rw [G]; exact A6); rw [this,G],?_⟩
    have o:=h1'.y_ (b:=w.heap.size+1) (A':=ji (w.heap.size+1) (.loop {rec st c with state:= .exhausted})) 0 rfl rfl rfl (hO _) (fun _ h=>h) (World.putObj_heap_same (eu AB))
    have h3:St E.S E.w0 (C'++(ji w.heap.size (.deferred (some []))::F)) _:=o.take (List.sublist_cons_self _ _)
    rw [G] at h3
    refine h3.perm ?_
    exact (List.perm_append_comm).trans sm
   rcases hh with ⟨s,B,A5,⟨y,hy,rfl⟩,m⟩|⟨B,⟨c,z,hc,hz,rfl⟩,m⟩
   ·obtain ⟨M,X,O⟩:=hleave .ready none _ sm m
    exact ⟨none,M,X,fin w.heap.size s y A5 hy _ _ V O⟩
   ·obtain ⟨M,X,O⟩:=hleave .done (some c) _ sm m
    refine ⟨some c,M,X,?_⟩
    rcases hc with rfl|⟨id,rfl⟩
    ·exact wpIn_ret (finr w.heap.size z hz _ _ V O)
    ·exact wpIn_exit (finx w.heap.size id z hz _ _ V O)
end
section
open Go.RowKit
/-- the faults that a map of places says -/
def lP (fs:List aZ) (m:List (Int×Bool)) (f:aZ):Prop:=(List.lookup (oV fs f) m).getD false=true
/-- what comes next: the row of a heat, in memory of its own -/
def Jb (G:List (List Int)) (k:Nat) (x:List Value) (R:aA) (k':Nat):Prop:= ∃ (a:OA) (c:Nat) (row:List Int),G[k]? =some row∧x=[vS a row.length c]∧R=own a c OI 1 (row.map iC)∧k'=k+1
section
variable {l:bH} {fs:List aZ} {m:List (Int×Bool)} {d:ak} {h:List ak} {j:cS} {F G:aZ→Prop} {k n q:Nat} {f f0:aZ}
noncomputable def lG (l:bH) (fs:List aZ) (m:List (Int×Bool)) (h:List ak) (s:Nat):Bool:=(h[s]?).any fun d=> @decide (Lg l (lP fs m) fs d) (Classical.propDecidable _)
theorem Mo:(fs.any fun f=>((List.lookup (oV fs f) m).getD false)&& !decide (hG l f d=0))= @decide (Lg l (lP fs m) fs d) (Classical.propDecidable _):=by
 rw [Bool.eq_iff_iff,List.any_eq_true,@decide_eq_true_iff _ (Classical.propDecidable _)]
 constructor
 ·rintro ⟨f,hf,hb⟩
  rw [di,Bool.not_eq_true',decide_eq_false_iff_not] at hb
  exact ⟨f,hf,hb.1,hb.2⟩
 ·rintro ⟨f,hf,A,B⟩
  exact ⟨f,hf,by rw [di,Bool.not_eq_true',decide_eq_false_iff_not]; exact ⟨A,B⟩⟩
theorem F6 (hd:h[q]? =some d):lG l fs m h q=(fs.any fun f=>((List.lookup (oV fs f) m).getD false)&& !decide (hG l f d=0)):=by
 unfold lG; rw [hd,Mo]; rfl
theorem Js {ht:List ak} (hh:j.Race.av[k]? =some ht):(hU j (lP j.aS m))[k]? =some (mh (lG j.Race.ao j.aS m ht) ht.length):=F4 hh
/-- only who is told, of faults of the row -/
theorem B0 (h: ∀ f∈j.aS,(F f↔G f)):hU j F=hU j G:=by
 unfold hU
 apply List.map_congr_left
 intro x _
 exact Hv h
end
def wB (fs:List aZ) (gs:List aZ):List (Int×Bool):=gs.foldl (fun m f=>eB m (oV fs f) true) []
section
variable {fs gs:List aZ} {f g:aZ} {m:List (Int×Bool)}
theorem F_ {x y:Int}:(List.lookup y (eB m x true)).getD false=true↔y=x∨(List.lookup y m).getD false=true:=by
 rw [lI]
 by_cases e:y=x
 ·rw [if_pos e]; simp [e]
 ·rw [if_neg e]; simp [e]
theorem E3: ∀ {gs:List aZ} {m:List (Int×Bool)} {y:Int},(List.lookup y (gs.foldl (fun m f=>eB m (oV fs f) true) m)).getD false=true↔(∃ g∈gs,y=oV fs g)∨(List.lookup y m).getD false=true
 |[],m,y=>by simp
 |g::gs,m,y=>by
  rw [List.foldl_cons,E3 (gs:=gs),F_]
  constructor
  ·rintro (⟨u,A,B⟩|h|h)
   ·exact .inl ⟨u,dh _ A,B⟩
   ·exact .inl ⟨g,bY,h⟩
   ·exact .inr h
  ·rintro (⟨u,A,B⟩|h)
   ·rcases b_.1 A with rfl|A
    ·exact .inr (.inl B)
    ·exact .inl ⟨u,A,B⟩
   ·exact .inr (.inr h)
theorem SL (hg: ∀ g∈gs,g∈fs) (hf:f∈fs):lP fs (wB fs gs) f↔f∈gs:=by
 unfold lP wB
 rw [E3]
 constructor
 ·rintro (⟨g,A,B⟩|h)
  ·rw [JO hf (hg g A) B]; exact A
  ·simp at h
 ·intro h; exact .inl ⟨f,h,rfl⟩
theorem GU:wB fs (gs++[g])=eB (wB fs gs) (oV fs g) true:=by unfold wB; rw [List.foldl_append]; rfl
end
noncomputable def Gd (j:cS) (t:Nat):List aZ:=((iM j).take t).filterMap fun i=>(j.aJ[i.toNat]?).bind fun p=>j.aS[p.jX.toNat]?
section
variable {j:cS} {t:Nat} {i:Int} {p:br} {f g:aZ}
theorem Iu (hi:(iM j)[t]? =some i) (hp:j.aJ[i.toNat]? =some p) (hf:j.aS[p.jX.toNat]? =some f):Gd j (t+1)=Gd j t++[f]:=by
 unfold Gd
 rw [List.take_add_one,hi,List.filterMap_append]
 simp [hp,hf]
theorem Mw: ∀ g∈Gd j t,g∈j.aS:=fun g h=>by
 obtain ⟨i,_,A⟩:=List.mem_filterMap.1 h
 cases e:j.aJ[i.toNat]? with
 |none=>rw [e] at A; cases A
 |some p=>rw [e] at A; exact aM A
theorem M0 (ht:(iM j).length≤t):f∈Gd j t↔oz j f:=by
 unfold Gd
 rw [List.take_of_length_le ht,List.mem_filterMap]
 constructor
 ·rintro ⟨x,hx,h⟩
  obtain ⟨i,_,rfl,p,hp,hg⟩:=tx.1 hx
  rw [Int.toNat_natCast,hp] at h
  exact ⟨i,p,hp,hg,h⟩
 ·rintro ⟨i,p,hp,hg,hf⟩
  exact ⟨(i:Int),tx.2 ⟨i,(bf.1 hp).1,U,p,hp,hg⟩,by rw [Int.toNat_natCast,hp]; exact hf⟩
theorem D3 (ht:(iM j).length≤t):hU j (lP j.aS (wB j.aS (Gd j t)))=fF j:=
 B0 fun f hf=>(SL Mw hf).trans (M0 ht)
theorem GB (hi:(iM j)[t]? =some i): ∃ k:Nat,i=(k:Int)∧k<j.aJ.length:=by
 obtain ⟨k,A,B,_⟩:=tx.1 (aM hi)
 exact ⟨k,B,A⟩
theorem w9:(iM j).length≤j.aJ.length:=qv
end
end
section
open Go.RowKit
theorem xP {α:Type} {l:List α} {k:Nat} {x:α} (h:l[k]? =some x):l.take (k+1)=l.take k++[x]:=by rw [List.take_add_one,h]; rfl
theorem Eg {a b:Int} (h1: -60000≤a∧a≤60000) (h2:0≤b∧b≤100000): -9223372036854775808≤a*b∧a*b≤9223372036854775807:=by
 have A:=Int.mul_le_mul_of_nonneg_right h1.1 h2.1
 have B:=Int.mul_le_mul_of_nonneg_right h1.2 h2.1
 omega
def mG (j:cS) (k h s:Int):Prop:=(0≤k∧k≤(j.aS.length:Int)-1)∧(0≤h∧h≤(j.Race.av.length:Int)-1)∧0≤s∧s≤(j.Race.aV.length:Int)-1
instance (j:cS) (k h s:Int):Decidable (mG j k h s):=by unfold mG; infer_instance
noncomputable def o0 (j:cS) (k h s:Int):Int:=if dG j=0 then (if mG j k h s then 0 else 2) else dG j
noncomputable def qb (j:cS) (k h s:Int):Int:=if dG j=0∧mG j k h s then (match j.aS[k.toNat]?,(j.Race.av[h.toNat]?).bind (·[s.toNat]?) with
 |some f,some d=>hG j.Race.ao f d
 |_,_=>0) else 0
noncomputable def uS (j:cS) (i:Int):Int:=if dG j=0 then (if 0≤i∧i≤(j.aJ.length:Int)-1 then 0 else 2) else dG j
noncomputable def v7 (j:cS) (i:Int):Int:=if dG j=0∧(0≤i∧i≤(j.aJ.length:Int)-1) then (match j.aJ[i.toNat]? with
 |some p=>mZ j p
 |none=>0) else 0
noncomputable def kE (j:cS):List Int:=if dG j=0 then iM j else []
noncomputable def dD (j:cS):List (List Int):=if dG j=0 then fF j else []
noncomputable def z5 (j:cS):Int:=if dG j=0 then zk j else 0
noncomputable def Al (j:cS):Int:=if dG j=0 then Ft j else 0
noncomputable def Ar (j:cS) (s:Int) (p:br):Bool:=decide (p.iQ=s)&& !iD j p
noncomputable def rr (j:cS) (s:Int):Int:=if dG j=0 then (if 0≤s∧s≤(j.Race.aV.length:Int)-1 then 0 else 2) else dG j
noncomputable def tv (j:cS) (s:Int):Int:=if dG j=0∧(0≤s∧s≤(j.Race.aV.length:Int)-1) then D1 j s else 0
section
variable {j:cS} {k h s i:Int} {f:aZ} {ht:List ak} {d:ak} {p:br}
theorem G2 (e: ¬ dG j=0):qb j k h s=0∧o0 j k h s=dG j:=⟨if_neg fun q=>e q.1,if_neg e⟩
theorem vO (e:dG j=0) (n: ¬ mG j k h s):qb j k h s=0∧o0 j k h s=2:=⟨if_neg fun q=>n q.2,by unfold o0; rw [if_pos e,if_neg n]⟩
theorem uZ (e:dG j=0) (n:mG j k h s) (hf:j.aS[k.toNat]? =some f) (hh:j.Race.av[h.toNat]? =some ht) (hd:ht[s.toNat]? =some d):qb j k h s=hG j.Race.ao f d∧o0 j k h s=0:=
 ⟨by unfold qb; rw [if_pos ⟨e,n⟩,hf,hh,Option.bind_some,hd],by unfold o0; rw [if_pos e,if_pos n]⟩
theorem ID (e: ¬ dG j=0):v7 j i=0∧uS j i=dG j:=⟨if_neg fun q=>e q.1,if_neg e⟩
theorem Ly (e:dG j=0) (n: ¬ (0≤i∧i≤(j.aJ.length:Int)-1)):v7 j i=0∧uS j i=2:=⟨if_neg fun q=>n q.2,by unfold uS; rw [if_pos e,if_neg n]⟩
theorem Am (e:dG j=0) (n:0≤i∧i≤(j.aJ.length:Int)-1) (hp:j.aJ[i.toNat]? =some p):v7 j i=mZ j p∧uS j i=0:=
 ⟨by unfold v7; rw [if_pos ⟨e,n⟩,hp],by unfold uS; rw [if_pos e,if_pos n]⟩
theorem xC (e: ¬ dG j=0):kE j=[]:=if_neg e
theorem qj (e:dG j=0):kE j=iM j:=if_pos e
theorem wv (e: ¬ dG j=0):dD j=[]:=if_neg e
theorem jz (e:dG j=0):dD j=fF j:=if_pos e
theorem Hw (e: ¬ dG j=0):z5 j=0∧Al j=0:=⟨if_neg e,if_neg e⟩
theorem xU (e:dG j=0):z5 j=zk j∧Al j=Ft j:=⟨if_pos e,if_pos e⟩
theorem No (e: ¬ p.iQ=s):Ar j s p=false:=by unfold Ar; rw [bj e]; rfl
theorem Kr (e:p.iQ=s):Ar j s p= !iD j p:=by unfold Ar; rw [cO e]; rfl
theorem JY {P:Nat→Bool} {n:Nat}:(mh P n).length=(List.range n).countP P:=by unfold mh; rw [List.length_map,List.countP_eq_length_filter]
theorem Hf (e: ¬ dG j=0):tv j s=0∧rr j s=dG j:=⟨if_neg fun q=>e q.1,if_neg e⟩
theorem GD (e:dG j=0) (n: ¬ (0≤s∧s≤(j.Race.aV.length:Int)-1)):tv j s=0∧rr j s=2:=⟨if_neg fun q=>n q.2,by unfold rr; rw [if_pos e,if_neg n]⟩
theorem Lq (e:dG j=0) (n:0≤s∧s≤(j.Race.aV.length:Int)-1):tv j s= -((mh (ir j.aJ fun _ p=>Ar j s p) j.aJ.length).length:Int)*j.Dj∧rr j s=0:=
 ⟨by unfold tv; rw [if_pos ⟨e,n⟩,JY]; rfl,by unfold rr; rw [if_pos e,if_pos n]⟩
end
end
section
open Go.RowKit
theorem Dq (l:List ax) (az:List RA): ∀ v∈(List.zipWith ax.cells l az).flatten,v.oneCell'=true:=by
 induction l generalizing az with
 |nil=>intro v hv; simp at hv
 |cons x l ih=>
  cases az with
  |nil=>intro v hv; simp at hv
  |cons a az=>
   intro v hv
   rw [List.zipWith_cons_cons,List.flatten_cons,gH] at hv
   rcases hv with hv|hv
   ·simp [ax.cells,dk.cells] at hv
    rcases hv with rfl|rfl<;>rfl
   ·exact ih az v hv
theorem iO {l:List ax} {az:List RA} (h:az.length=l.length):(List.zipWith ax.cells l az).length=l.length:=by simp [h]
theorem qm {l:List ax} {bz:List RA}:(bM (bg ax.owns l bz)).wr=true:=by
 show (bg ax.owns l bz).all (·.wr)=true
 rw [df]
 intro X hX
 obtain ⟨k,m,a,_,_,h⟩:=jx hX
 simp only [ax.owns,cE] at h
 subst h; rfl
/-- what is known of new rows -/
def qE (l:List ax) (bz:List RA):Prop:= ∀ (k:Nat) m (a:RA),l[k]? =some m→bz[k]? =some a→m.bB.length≤a.2
theorem Kg {l:List ax} {bz:List RA} {i:Nat} {x:ax} {nw:RA} (h:qE l bz) (hb:bz.length=i) (hx:l[i]? =some x) (hc:x.bB.length≤nw.2):qE l (bz++[nw]):=fun k m a hm ha=>by
 by_cases e:k<bz.length
 ·rw [List.getElem?_append_left e] at ha
  exact h k m a hm ha
 ·rw [List.getElem?_append_right I] at ha
  have hk:k-bz.length=0:=by
   rcases Nat.eq_zero_or_pos (k-bz.length) with A|A
   ·exact A
   ·rw [List.getElem?_eq_none (by simp; omega)] at ha; cases ha
  rw [hk] at ha
  simp at ha
  have:k=i:=by omega
  subst this
  rw [hx] at hm; cases hm
  subst ha; exact hc
theorem jL: ∀ (m:ax) (a:RA) (w:World),(∀ X∈ax.owns m a,X.holds w)→ ∀ X∈ax.e_ m a,X.holds w:=fun m a w h X hX=>by
 simp only [ax.e_,cE] at hX
 subst hX
 have:=ob (h _ (cE.2 rfl))
 simpa using this
theorem ej.I0 {l:bH} {az bz:List RA} (h:ej l az) (hb:bz.length=l.aj.length) (hc:qE l.aj bz):ej l bz:=⟨h.rW,h.side,h.sG,hb,h.se,fun k m a hm ha=>⟨hc k m a hm ha,by
 obtain ⟨A,B⟩: ∃ A,az[k]? =some A:=⟨az[k]'(by rw [h.ly]; exact (bf.1 hm).1),fV _⟩
 exact (h.Q0 k m A hm B).2⟩⟩
theorem w4 {x y:ax} {k:Nat} (h1:x.dw=y.dw) (h2:(x.bB.length:Int)=(y.bB.length:Int)) (hk:x.bB.length≤k) (h:x.bB.take k=y.bB.take k):x=y:=by
 cases x; cases y
 simp only [ax.mk.injEq] at *
 rw [List.take_of_length_le hk,List.take_of_length_le I] at h
 exact ⟨h1,h⟩
theorem hE {l m:bH} (h1:l.aO=m.aO) (h2:l.h_=m.h_) (h3:l.cf=m.cf) (h4:l.fJ=m.fJ) (h5:l.dC=m.dC) (h6:l.aj=m.aj) (h7:l.ab=m.ab):l=m:=by
 cases l; cases m; simp_all
section
variable {E:fh} {ops:Array Oper} {Q:dj} {rest:List Oper} {D:List Deferred} {L:List (Nat×Value)} {C:List aA}
end
end
section
open Go.RowKit
def pG (m:ak) (a:RA):List aA:=[own a.1 a.2 Ch 2 (m.aY.aa.map aF.cells)]
def jF (m:List ak) (a:cD):List aA:=own a.1.1 a.1.2 Cc 7 (List.zipWith ak.cells m a.2)::bg pG m a.2
theorem O_: ∀ (m:ak) (a:RA) (w:World),(∀ X∈pG m a,X.holds w)→ ∀ X∈ak.e_ m a,X.holds w:=fun m a w h X hX=>by
 simp only [ak.e_,cE] at hX
 subst hX
 have:=ob (h _ (cE.2 rfl))
 simpa using this
theorem q_ {m:List ak} {asl:List RA} (h:asl.length=m.length):(List.zipWith ak.cells m asl).length=m.length:=by simp [h]
theorem gr {m:List (List ak)} {asl:List cD} (h:asl.length=m.length):(List.zipWith bW m asl).length=m.length:=by simp [h]
theorem M7 {m:List ak} {asl:List RA}:(bg pG m asl).all (·.wr)=true:=by
 rw [df]
 intro X hX
 obtain ⟨k,d,a,_,_,h⟩:=jx hX
 simp only [pG,cE] at h
 subst h; rfl
theorem xy {m:List (List ak)} {asl:List cD}:(bM (bg jF m asl)).wr=true:=by
 show (bg jF m asl).all (·.wr)=true
 rw [df]
 intro X hX
 obtain ⟨k,d,a,_,_,h⟩:=jx hX
 rcases b_.1 h with rfl|h
 ·rfl
 ·exact df.1 M7 X h
theorem NR (l:List ak) (az:List RA): ∀ v∈(List.zipWith ak.cells l az).flatten,v.oneCell'=true:=by
 induction l generalizing az with
 |nil=>intro v hv; simp at hv
 |cons x l ih=>
  cases az with
  |nil=>intro v hv; simp at hv
  |cons a az=>
   intro v hv
   rw [List.zipWith_cons_cons,List.flatten_cons,gH] at hv
   rcases hv with hv|hv
   ·simp [ak.cells,aG.cells,cL.cells,ai.cells] at hv
    rcases hv with rfl|rfl|rfl|rfl|rfl|rfl|rfl<;>rfl
   ·exact ih az v hv
theorem GF (l:List (List ak)) (az:List cD): ∀ v∈(List.zipWith bW l az).flatten,v.oneCell'=true:=by
 induction l generalizing az with
 |nil=>intro v hv; simp at hv
 |cons x l ih=>
  cases az with
  |nil=>intro v hv; simp at hv
  |cons a az=>
   intro v hv
   rw [List.zipWith_cons_cons,List.flatten_cons,gH] at hv
   rcases hv with hv|hv
   ·simp [bW] at hv; subst hv; rfl
   ·exact ih az v hv
/-- every heat has as many places as descents -/
def sQ (H:List (List ak)) (hz:List cD):Prop:=hz.length=H.length∧ ∀ (k:Nat) h (a:cD),H[k]? =some h→hz[k]? =some a→a.2.length=h.length
theorem EJ {a:OA} {c e sz n:Nat} {es:List (List Value)} {w:World} (h:(own a c e sz es).holds w) (hn:es.length=n):(rd a n sz es).holds w:=by subst hn; exact ob h
theorem jO {C:List aA} {H:List (List ak)} {hz:List cD} (i:Nat) (hC:C[i]? =some (bM (bg jF H hz))) (hh:sQ H hz):fY C (dE (bg er H hz)).holds:=fun w hw X hX=>by
 have hb:=hw _ (aM hC)
 obtain ⟨k,m,a,A,B,D⟩:=jx hX
 rcases b_.1 D with rfl|D
 ·exact EJ (hb.1 _ (a_ A B bY)) (q_ (hh.2 k m a A B))
 ·obtain ⟨q,d,b,E,F,G⟩:=jx D
  exact O_ d b w (fun Y hY=>hb.1 Y (a_ A B (dh _ (a_ E F hY)))) X G
section
variable {α:Type}
def kT (bz az:List α) (i:Nat):List α:=bz++az.drop i
variable {bz az:List α} {i:Nat} {a b:α}
theorem iZ (hb:bz.length=i) (hi:i≤az.length):(kT bz az i).length=az.length:=by simp [kT,hb]; omega
theorem w8 (h:az.length≤i):kT bz az i=bz:=by unfold kT; rw [List.drop_eq_nil_of_le h,List.append_nil]
theorem Ay (hb:bz.length=i) (h:az[i]? =some a):(kT bz az i)[i]? =some a:=by
 unfold kT
 rw [List.getElem?_append_right I,hb,Nat.sub_self,List.getElem?_drop]
 simpa using h
theorem Le (hb:bz.length=i):(kT (bz++[b]) az (i+1))[i]? =some b:=by
 unfold kT
 rw [List.getElem?_append_left (by simp; omega),List.getElem?_append_right I,hb,Nat.sub_self]; rfl
theorem IH (hb:bz.length=i) (h:az[i]? =some a):(kT bz az i).set i b=kT (bz++[b]) az (i+1):=by
 unfold kT
 have hi:=(bf.1 h).1
 rw [List.set_append_right _ _ I,hb,Nat.sub_self,List.drop_eq_getElem_cons hi,List.set_cons_zero]
 simp
theorem yI {M β:Type} {c:M→α→β} {l:List M} {x:M} (hx:l[i]? =some x) (hb:bz.length=i) (h:az[i]? =some a):(List.zipWith c l (kT bz az i)).set i (c x b)=List.zipWith c l (kT (bz++[b]) az (i+1)):=by
 rw [xQ,IH hb h]
 congr 1
 obtain ⟨hi,rfl⟩:=bf.1 hx
 exact List.set_getElem_self hi
theorem tg {M:Type} {f:M→α→List aA} {l:List M} {x:M} (hx:l[i]? =some x) (hb:bz.length=i):bg f (l.take i) bz++f x b=bg f (l.take (i+1)) (bz++[b]):=by
 have hi:=(bf.1 hx).1
 rw [List.take_add_one,hx,Option.toList_some,ko (by rw [List.length_take,hb]; omega)]
 simp [bg]
end
theorem C8: ∀ {l:List (List ak)} {u v:List cD},u.map (·.1)=v.map (·.1)→List.zipWith bW l u=List.zipWith bW l v
 |[],u,v,_=>by simp
 |x::l,[],[],_=>rfl
 |x::l,[],b::v,h=>by simp at h
 |x::l,a::u,[],h=>by simp at h
 |x::l,a::u,b::v,h=>by
  simp only [List.map_cons,List.cons.injEq] at h
  rw [List.zipWith_cons_cons,List.zipWith_cons_cons,C8 h.2]
  have e:bW x a=bW x b:=by simp only [bW,h.1]
  rw [e]
theorem KL {l:List (List ak)} {hz ha:List cD} {p:RA} {x y:List RA} {i:Nat}:List.zipWith bW l (kT (hz++[(p,x)]) ha i)=List.zipWith bW l (kT (hz++[(p,y)]) ha i):=C8 (by simp [kT])
theorem Ni {H:List (List ak)} {hz:List cD} {i:Nat} {x:List ak} {b:cD} (hx:H[i]? =some x) (h: ∀ (k:Nat) y (a:cD),H[k]? =some y→hz[k]? =some a→a.2.length=y.length) (hb:hz.length=i) (hl:b.2.length=x.length): ∀ (k:Nat) y (a:cD),H[k]? =some y→(hz++[b])[k]? =some a→a.2.length=y.length:=fun k y a hy ha=>by
 by_cases e:k<hz.length
 ·rw [List.getElem?_append_left e] at ha
  exact h k y a hy ha
 ·rw [List.getElem?_append_right I] at ha
  have hk:k-hz.length=0:=by
   rcases Nat.eq_zero_or_pos (k-hz.length) with A|A
   ·exact A
   ·rw [List.getElem?_eq_none (by simp; omega)] at ha; cases ha
  rw [hk] at ha
  simp at ha
  have:k=i:=by omega
  subst this
  rw [hx] at hy; cases hy
  subst ha; exact hl
theorem Fh {S:BS} {w0 w:World} {C:List aA} {A:aA} {Y Z:List aA} (h:St S w0 (A::bM Y::bM Z::C) w):St S w0 (bM (Z++A::Y)::C) w:=by
 have D:St S w0 (bM Y::A::bM Z::C) w:=h.perm (List.Perm.swap _ _ _)
 have E:St S w0 (Y++(A::bM Z::C)) w:=D.iz
 have F:St S w0 (bM Z::(A::Y)++C) w:=E.perm (by
  have B:(Y++(A::bM Z::C)).Perm ((A::bM Z::C)++Y):=List.perm_append_comm
  refine B.trans ?_
  show (A::bM Z::(C++Y)).Perm (bM Z::A::(Y++C))
  exact (List.Perm.swap _ _ _).trans (((List.perm_append_comm (l₁:=C) (l₂:=Y)).cons A).cons _))
 have G:St S w0 (Z++((A::Y)++C)) w:=F.iz
 have H:St S w0 ((Z++A::Y)++C) w:=by simpa using G
 exact H.tied
theorem Gf {S:BS} {w0 w:World} {C:List aA} {A:aA} {Y Z:List aA} (h:St S w0 (bM (A::Y++Z)::C) w):St S w0 (A::bM Y::bM Z::C) w:=by
 have D:St S w0 ((A::Y++Z)++C) w:=h.iz
 have E:St S w0 (Z++(A::(Y++C))) w:=D.perm (by
  show (A::(Y++Z)++C).Perm (Z++(A::(Y++C)))
  have B:(A::(Y++Z)++C).Perm (A::(Z++(Y++C))):=by
   show (A::((Y++Z)++C)).Perm _
   refine List.Perm.cons A ?_
   rw [← List.append_assoc]
   exact List.perm_append_comm.append_right C
  exact B.trans (List.perm_middle (a:=A) (l₁:=Z) (l₂:=Y++C)).symm)
 have F:=E.tied
 have G:St S w0 (Y++(A::bM Z::C)) w:=F.perm (by
  show (bM Z::A::(Y++C)).Perm (Y++(A::bM Z::C))
  have B:(Y++(A::bM Z::C)).Perm (A::bM Z::(Y++C)):=by
   have:=List.perm_append_comm (l₁:=Y) (l₂:=A::bM Z::C)
   refine this.trans ?_
   show (A::bM Z::(C++Y)).Perm _
   exact (List.perm_append_comm.cons _).cons _
  exact (B.trans (List.Perm.swap _ _ _)).symm)
 have H:=G.tied
 exact H.perm (List.Perm.swap _ _ _)
theorem yv {H:List (List ak)} {hz:List cD} {k:Nat} {h:List ak} {a:cD} (hh:H[k]? =some h) (ha:hz[k]? =some a):(bg jF H hz).Perm (own a.1.1 a.1.2 Cc 7 (List.zipWith ak.cells h a.2)::bg pG h a.2++gN jF H hz k):=l7 hh ha
theorem QA {E:fh} {K:Act→World→Prop} {D:g_} {L:dq} {C:List aA} {a:OA} {c e sz:Nat} {es:List (List Value)} (i:Nat) (hC:C[i]? =some (own a c e sz es)) (k:es.length≤c→KJ E K D L C):KJ E K D L C:=fun act w hf hs=>k (Nc (hs.holds _ (aM hC))) act w hf hs
abbrev Mb (C:List aA) (i j k:Nat):List Nat:=k::j::i::(List.range C.length).filter fun q=>q != i&&q != j&&q != k
section
variable {E:fh} {ops:Array Oper} {Q:dj} {rest:List Oper} {D:List Deferred} {L:List (Nat×Value)} {C C1:List aA} {K:Act→World→Prop}
variable {H:List (List ak)} {hz:List cD} {h h':List ak} {a a':cD} {k:Nat} {X:aA} {Y Z Z':List aA}
/-- i: the others, j: what hangs on the row, q: the row -/
theorem QR (i j q:Nat) (hn:decide (Mb C i j q).Nodup=true) (hC:l0 C (Mb C i j q)=some (X::bM Y::bM Z::C1)) (e:Z++X::Y=Z') (hk:KJ E K D L (bM Z'::C1)):KJ E K D L C:=fun a w hf hs=>by
 subst e; exact hk a w hf (Fh (St.j5 _ hn (j4 hC) hs))
theorem QM {c:Code} (i:Nat) (hh:H[k]? =some h) (ha:hz[k]? =some a) (hn:decide (SS C i).Nodup=true) (hC:l0 C (SS C i)=some (bM (bg jF H hz)::C1))
 (hk:WJ E c Q D L (own a.1.1 a.1.2 Cc 7 (List.zipWith ak.cells h a.2)::bM (bg pG h a.2)::bM (gN jF H hz k)::C1)):WJ E c Q D L C:=fun act w hf hs=>
 hk act w hf (Gf (l9 (yv hh ha) (St.j5 _ hn (j4 hC) hs)))
theorem Ii {S:BS} {w0 w:World} (hk:k<H.length) (hk2:k<hz.length) (hs:St S w0 (own a'.1.1 a'.1.2 Cc 7 (List.zipWith ak.cells h' a'.2)::bM (bg pG h' a'.2)::bM (gN jF H hz k)::C) w):St S w0 (bM (bg jF (H.set k h') (hz.set k a'))::C) w:=by
 have B:=Fh hs
 refine l9 ?_ B
 have A:=yv (H:=H.set k h') (hz:=hz.set k a') (List.getElem?_set_self hk) (List.getElem?_set_self hk2)
 rw [yl] at A
 exact (List.perm_append_comm).trans A.symm
end
theorem HF {H:List (List ak)} {hz:List cD} {k:Nat} {h h':List ak} {a:cD} {bs:List RA} (hh:H[k]? =some h) (ha:hz[k]? =some a) (hl:h'.length=h.length):List.zipWith bW (H.set k h') (hz.set k (a.1,bs))=List.zipWith bW H hz:=by
 rw [← xQ]
 have e:bW h' (a.1,bs)=bW h a:=by simp only [bW,hl]
 rw [e]
 have hz':=cv (f:=bW) hh ha
 obtain ⟨hi,A⟩:=bf.1 hz'
 rw [← A]
 exact List.set_getElem_self hi
theorem pD {d e:ak}:d=e↔d.Out=e.Out∧d.cJ=e.cJ∧d.Time=e.Time∧d.aY.Start=e.aY.Start∧d.aY.gj=e.aY.gj∧d.aY.aa=e.aY.aa:=by
 obtain ⟨a,b,c,⟨x,y,z⟩⟩:=d
 obtain ⟨A,B,C,⟨D,E,F⟩⟩:=e
 simp only [ak.mk.injEq,c_.mk.injEq]
theorem lv {r q:eD} (h1:r.ao=q.ao) (h2:r.aV=q.aV) (h3:r.bV=q.bV) (h4:r.j9=q.j9) (h5:r.av=q.av):r=q:=by
 cases r; cases q; simp_all
theorem iF.I0 {r:eD} {az bz:List RA} {ha hz:List cD} (h:iF r az ha) (hb:bz.length=r.ao.aj.length) (hc:qE r.ao.aj bz) (hh:sQ r.av hz):iF r bz hz:=⟨h.line.I0 hb hc,h.g7,h.draw,h.g8,hh.1,fun k x a hx ha'=>by
 obtain ⟨A,C⟩: ∃ A,ha[k]? =some A:=⟨ha[k]'(by rw [h.has]; exact (bf.1 hx).1),fV _⟩
 have B:=h.ek k x A hx C
 exact ⟨B.len,hh.2 k x a hx ha',B.sig⟩⟩
end
section
open Go.RowKit
noncomputable def lF (j:cS) (h i:Int) (d:ak):Int:=
 if dG j=0 then (if (0≤h∧h≤(j.Race.av.length:Int)-1)∧mD j.Race i then (if i∈(fF j)[h.toNat]?.getD [] then (if gf (jS j.Race h i d)=0 then 0 else 60) else 8) else 2) else dG j
section
variable {j:cS} {h i:Int} {d e:ak} {row:List Int} {r:eD} {H:List (List ak)} {k:Nat} {y:List ak} {hz:List cD} {hza:cD} {ht:List ak} {x:RA}
theorem H9 (q: ¬ dG j=0):lF j h i d=dG j:=if_neg q
theorem Cv (q:dG j=0) (n: ¬ ((0≤h∧h≤(j.Race.av.length:Int)-1)∧0≤i∧i≤(j.Race.aV.length:Int)-1)):lF j h i d=2:=by unfold lF; rw [if_pos q,if_neg (by exact n)]
theorem yG (q:dG j=0) (n:(0≤h∧h≤(j.Race.av.length:Int)-1)∧0≤i∧i≤(j.Race.aV.length:Int)-1) (hr:(fF j)[h.toNat]? =some row):lF j h i d=if i∈row then (if gf (jS j.Race h i d)=0 then 0 else 60) else 8:=by
 unfold lF; rw [if_pos q,if_pos (by exact n),hr]; rfl
theorem FF (q:dG j=0) (n:(0≤h∧h≤(j.Race.av.length:Int)-1)∧0≤i∧i≤(j.Race.aV.length:Int)-1) (hr:(fF j)[h.toNat]? =some row) (hn: ¬ i∈row):lF j h i d=8:=by rw [yG q n hr,if_neg hn]
theorem zz (q:dG j=0) (n:(0≤h∧h≤(j.Race.av.length:Int)-1)∧0≤i∧i≤(j.Race.aV.length:Int)-1) (hr:(fF j)[h.toNat]? =some row) (hm:i∈row) (he: ¬ gf (jS j.Race h i d)=0):lF j h i d=60:=by rw [yG q n hr,if_pos hm,if_neg he]
theorem Av (q:dG j=0) (n:(0≤h∧h≤(j.Race.av.length:Int)-1)∧0≤i∧i≤(j.Race.aV.length:Int)-1) (hr:(fF j)[h.toNat]? =some row) (hm:i∈row) (he:gf (jS j.Race h i d)=0):lF j h i d=0:=by rw [yG q n hr,if_pos hm,if_pos he]
theorem Jg (hy:(g9 H h i d)[k]? =some y): ∃ x,H[k]? =some x∧y.length=x.length∧ ∀ e∈y,e∈x∨e=d:=by
 cases hh:H[h.toNat]? with
 |none=>unfold g9 at hy; rw [hh] at hy; exact ⟨y,hy,rfl,fun e he=> .inl he⟩
 |some ht=>
  rw [qq hh,List.getElem?_set] at hy
  split at hy
  ·rename_i e
   rw [if_pos (bf.1 hh).1] at hy
   cases hy
   exact ⟨ht,by rw [← e]; exact hh,by rw [List.length_set],fun e he=>List.mem_or_eq_of_mem_set he⟩
  ·exact ⟨y,hy,U,fun e he=> .inl he⟩
theorem QT (hh:sQ H hz) (h1:H[h.toNat]? =some ht) (h2:hz[h.toNat]? =some hza):sQ (g9 H h i d) (hz.set h.toNat (hza.1,hza.2.set i.toNat x)):=by
 refine ⟨by rw [List.length_set,pz]; exact hh.1,fun k y a hy ha=>?_⟩
 rw [qq h1] at hy
 rw [List.getElem?_set] at hy ha
 by_cases e:h.toNat=k
 ·rw [if_pos e,if_pos (bf.1 h1).1] at hy
  rw [if_pos e,if_pos (bf.1 h2).1] at ha
  cases hy; cases ha
  simp only [List.length_set]
  exact hh.2 _ _ _ h1 h2
 ·rw [if_neg e] at hy ha
  exact hh.2 k y a hy ha
theorem iF.put {az bz:List RA} {ha:List cD} (hin:iF r az ha) (hb:bz.length=r.ao.aj.length) (hc:qE r.ao.aj bz) (hh:sQ (g9 r.av h i d) hz) (hd:d.aY.aa.length≤1000000):iF (jS r h i d) bz hz:=⟨hin.line.I0 hb hc,hin.g7,hin.draw,by
 show (g9 r.av h i d).length≤1000000
 rw [pz]; exact hin.g8,hh.1,fun k y a hy ha'=>by
 obtain ⟨x,hx,hl,hm⟩:=Jg hy
 obtain ⟨b,hb⟩: ∃ b,ha[k]? =some b:=⟨ha[k]'(by rw [hin.has]; exact (bf.1 hx).1),fV _⟩
 have A:=hin.ek k x b hx hb
 refine ⟨by rw [hl]; exact A.len,hh.2 k y a hy ha',fun e he=>?_⟩
 rcases hm e he with q|rfl
 ·exact A.sig e q
 ·exact hd⟩
theorem HB (q:dG j=0) (h0:0≤h∧h≤(j.Race.av.length:Int)-1): ∃ row,(fF j)[h.toNat]? =some row:=by
 have hl:h.toNat<(fF j).length:=by unfold fF hU; rw [List.length_map]; omega
 exact ⟨_,fV hl⟩
end
section
variable {E:fh} {Q:dj} {D:List Deferred} {L:List (Nat×Value)} {C C1:List aA} {c:Code}
variable {h:List ak} {bs:List RA} {i:Nat} {d d':ak} {b b':RA}
theorem MK {S:BS} {w0 w:World} {C:List aA} (hd:h[i]? =some d) (hb:bs[i]? =some b) (hs:St S w0 (own b'.1 b'.2 Ch 2 (d'.aY.aa.map aF.cells)::bM (bg pG h bs)::C) w):St S w0 (bM (bg pG (h.set i d') (bs.set i b'))::C) w:=by
 have hs:=hs.perm (List.Perm.swap _ _ _)
 have A:=(l9 (l7 hd hb) hs).iz
 have B:St S w0 (gN pG h bs i++(own b'.1 b'.2 Ch 2 (d'.aY.aa.map aF.cells)::C)) w:=St.take (by simpa using A) (List.sublist_append_right (pG d b) _)
 have D:St S w0 ((own b'.1 b'.2 Ch 2 (d'.aY.aa.map aF.cells)::gN pG h bs i)++C) w:=B.perm List.perm_middle
 have E:St S w0 ((pG d' b'++gN pG (h.set i d') (bs.set i b') i)++C) w:=by
  rw [yl]; exact D
 exact l9 (l7 (List.getElem?_set_self (bf.1 hd).1) (List.getElem?_set_self (bf.1 hb).1)).symm E.tied
/-- i: what hangs on the row, j: the new one -/
theorem QC (p j:Nat) (hd:h[i]? =some d) (hb:bs[i]? =some b) (hn:decide (Gi C p j).Nodup=true) (hC:l0 C (Gi C p j)=some (own b'.1 b'.2 Ch 2 (d'.aY.aa.map aF.cells)::bM (bg pG h bs)::C1))
 (hk:WJ E c Q D L (bM (bg pG (h.set i d') (bs.set i b'))::C1)):WJ E c Q D L C:=fun a w hf hs=>hk a w hf (MK hd hb (St.j5 _ hn (j4 hC) hs))
theorem N4 {H:List (List ak)} {hz:List cD} {h':List ak} {a':cD} {k:Nat} (i j q:Nat) (hk:k<H.length) (hk2:k<hz.length) (hn:decide (Mb C i j q).Nodup=true) (hC:l0 C (Mb C i j q)=some (own a'.1.1 a'.1.2 Cc 7 (List.zipWith ak.cells h' a'.2)::bM (bg pG h' a'.2)::bM (gN jF H hz k)::C1))
 (hr:WJ E c Q D L (bM (bg jF (H.set k h') (hz.set k a'))::C1)):WJ E c Q D L C:=fun act w hf hs=>hr act w hf (Ii hk hk2 (St.j5 _ hn (j4 hC) hs))
end
end
section
section
variable {j x:cS} {n s:Int} {h k:Nat} {a b:List Int} {f f':aZ} {ht:List ak} {d:ak}
theorem sN (e:dG j=0):(dD j).length=j.Race.av.length:=by
 rw [jz e]; exact x5
theorem MA (e:dG j=0) (ha:(dD j)[h]? =some a): ∃ ht,j.Race.av[h]? =some ht∧a.length≤ht.length:=by
 rw [jz e] at ha
 unfold fF at ha
 have hl:=(bf.1 ha).1
 rw [x5] at hl
 have hh:j.Race.av[h]? =some (j.Race.av[h]'hl):=fV _
 rw [F4 hh] at ha
 cases ha
 exact ⟨_,hh,qv⟩
end
end
section
section
variable {j:cS} {m n i:Nat} {p:br} {s:Int}
theorem uc (e:dG j=0): ∀ l∈dD j,l.length≤1000000:=fun l hl=>by
 obtain ⟨h,hh⟩:=List.getElem?_of_mem hl
 obtain ⟨ht,A,B⟩:=MA e hh
 have C:=((d_ (eA e).1).2.ek ht (aM A)).1
 have D:=(d_ (eA e).1).2.num
 omega
end
end
section
open Go.RowKit
section
variable {j:cS} {h i:Int} {d e d0:ak} {row:List Int} {r:eD} {H:List (List ak)} {x y:Nat} {ht hu:List ak} {hz:List cD}
theorem Mz (ho:fD r) (n:(0≤h∧h≤(r.av.length:Int)-1)∧mD r i): ∃ ht,r.av[h.toNat]? =some ht∧ ∃ d0,ht[i.toNat]? =some d0:=by
 obtain ⟨D,B⟩:=n
 unfold mD at B
 have A:r.av[h.toNat]? =some (r.av[h.toNat]'I):=fV _
 have C:=(ho.ek _ (aM A)).1
 exact ⟨_,A,_,fV (show i.toNat<_ by omega)⟩
theorem DL (q:dG j=0) (n:(0≤h∧h≤(j.Race.av.length:Int)-1)∧mD j.Race i) (hr:(dD j)[h.toNat]? =some row):(i∈row∧gf (jS j.Race h i d)=0∧lF j h i d=0)∨(i∈row∧ ¬ gf (jS j.Race h i d)=0∧lF j h i d=60)∨(¬ i∈row∧lF j h i d=8):=by
 rw [jz q] at hr
 by_cases hm:i∈row
 ·by_cases hx:gf (jS j.Race h i d)=0
  ·exact .inl ⟨hm,hx,Av q n hr hm hx⟩
  ·exact .inr (.inl ⟨hm,hx,zz q n hr hm hx⟩)
 ·exact .inr (.inr ⟨hm,FF q n hr hm⟩)
theorem sL (q:dG j=0) (n:(0≤h∧h≤(j.Race.av.length:Int)-1)∧mD j.Race i) (hr:(dD j)[h.toNat]? =some row) (hm:i∈row) (h1:j.Race.av[h.toNat]? =some ht) (h2:ht[i.toNat]? =some d0):lF j h i d0=0:=by
 rw [jz q] at hr
 exact Av q n hr hm (by rw [Ho (by rw [h1]; exact h2)]; exact (eA q).1)
theorem ET (h1:H[h.toNat]? =some ht) (h2:ht[i.toNat]? =some d0):g9 H h i d0=H:=zK (by rw [h1]; exact h2)
theorem Lc (q:dG j=0) (n:0≤h∧h≤(j.Race.av.length:Int)-1): ∃ row,(dD j)[h.toNat]? =some row:=by rw [jz q]; exact HB q n
/-- other cells are as before -/
theorem Ht (h1:(g9 H h i d)[x]? =some hu) (h2:hu[y]? =some e) (h3:H[x]? =some ht) (h4:ht[y]? =some d0) (hn: ¬ (x=h.toNat∧y=i.toNat)):e=d0:=by
 have:=xO (H:=H) (d:=d) hn
 rw [h1,h3] at this
 exact Option.some.inj (h2.symm.trans ((show hu[y]? =ht[y]? from this).trans h4))
/-- and this one is the new one -/
theorem AQ (h1:(g9 H h i d)[h.toNat]? =some hu) (h2:hu[i.toNat]? =some e) (h3:H[h.toNat]? =some ht) (h4:ht[i.toNat]? =some d0):e=d:=by
 have:=zo (H:=H) (h:=h) (i:=i) (d:=d) (e:=d0) (by rw [h3]; exact h4)
 rw [h1] at this
 exact Option.some.inj (h2.symm.trans this)
theorem ru (ho:fD (jS r h i d)) (h1:(g9 r.av h i d)[x]? =some hu):hu.length=r.aV.length:=(ho.ek hu (aM h1)).1
end
theorem MF {P:Program} {f:FuncId} {args:List Value} {Cp:List aA} {β:Type} {V:β→Value} {V':Bool×Int×β→Value} {p:β→Prop} {q:Bool×Int×β→Prop} {N:β→List aA} (h:nG P f args Cp (fun x:Bool×Int×β=>bif x.1 then V x.2.2 else V' x) (fun x=>(x.1=true→p x.2.2)∧(x.1=false→q x)) (fun x=>bif x.1 then N x.2.2 else [])) (hn: ∀ x,¬ q x):nG P f args Cp V p N:=
 ⟨h.go,fun w hw=>(h.run w hw).mono fun e w' ⟨⟨b,ec,y⟩,B,A,C,D⟩=>by
  cases b with
  |false=>exact absurd (A.2 rfl) (hn _)
  |true=>exact ⟨y,B,A.1 rfl,C,D⟩⟩
theorem KA {a:OA} {c e sz n:Nat} {es:List (List Value)} (hn:es.length=n):(∀ w,(own a c e sz es).holds w→(rd a n sz es).holds w)∧(∀ b,(rd a n sz es).fg b→(own a c e sz es).fg b)∧ ∀ b,(rd a n sz es).wf b→(own a c e sz es).wf b:=
 ⟨fun w h=>EJ h hn,fun b h=>h.2,fun b h=>h.elim⟩
theorem Hd {H:List (List ak)} {hz:List cD} (hh:sQ H hz):(∀ w,(bM (bg jF H hz)).holds w→(dE (bg er H hz)).holds w)∧(∀ b,(dE (bg er H hz)).fg b→(bM (bg jF H hz)).fg b)∧ ∀ b,(dE (bg er H hz)).wf b→(bM (bg jF H hz)).wf b:=
 ⟨fun w h=>jO (C:=[bM (bg jF H hz)]) 0 rfl hh w (fun A hA=>by rw [cE.1 hA]; exact h),fun b ⟨X,hX,hb⟩=>by
  obtain ⟨k,m,a,D,E,B⟩:=jx hX
  rcases b_.1 B with rfl|B
  ·exact ⟨_,a_ D E bY,hb.2⟩
  ·obtain ⟨q,d,J,G,AA,F⟩:=jx B
   simp only [ak.e_,cE] at F
   subst F
   exact ⟨_,a_ D E (dh _ (a_ G AA (cE.2 U))),hb.2⟩,fun b h=>h.elim⟩
theorem Ij {E:fh} {Q:dj} {D:g_} {L:dq} {C C':List aA} {c:Code} {A B:aA} (i:Nat) (hC:C[i]? =some A) (hh:(∀ w,A.holds w→B.holds w)∧(∀ b,B.fg b→A.fg b)∧ ∀ b,B.wf b→A.wf b) (hC':LK C i B=some C') (h:WJ E c Q D L C'):WJ E c Q D L C:=fun a w hf hs=>h a w hf ((AU hC')▸hs.imp i hC hh.1 hh.2.1 hh.2.2)
end
section
open Go.RowKit
/-- a row is taken that was made before; an operation -/
inductive fZ where
 |take (i:Nat)
 |op (j:Nat)
def fZ.ix:fZ→Nat
 | .take i=>i
 | .op j=>j
def Bm (dO:Nat→Nat):List fZ→List Nat
 |[]=>[]
 | .take i::s=>dO i::Bm dO s
 | .op _::s=>Bm dO s
theorem uK {dO:Nat→Nat} {i:Nat}: ∀ {s:List fZ},fZ.take i∈s→dO i∈Bm dO s
 | .take k::s,h=>by
  rcases b_.1 h with e|h
  ·cases e; exact bY ..
  ·exact dh _ (uK h)
 | .op k::s,h=>by
  rcases b_.1 h with e|h
  ·cases e
  ·exact uK (s:=s) h
def rB (m:Array Nat) (dO:Nat→Nat) (x y:fZ):Bool:=x.ix != y.ix&&(match y with | .op j=>iR m x.ix j| .take i=>match x with | .take k=>dO k != dO i| .op _=>true)
def Ua (m:Array Nat) (dO:Nat→Nat):List fZ→Bool
 |[]=>true
 |x::s=>s.all (rB m dO x)&&Ua m dO s
theorem ER {m:Array Nat} {dO:Nat→Nat}: ∀ {s:List fZ},Ua m dO s=true→s.Pairwise fun x y=>rB m dO x y=true
 |[],_=>List.Pairwise.nil
 |x::s,h=>by
  simp only [Ua,di] at h
  exact List.Pairwise.cons (fun y hy=>df.1 h.1 y hy) (ER h.2)
/-- what is known of the slots B is known in L -/
def B7 (B L:dq):Prop:= ∀ t v,B.lookup t=some v→L.lookup t=some v
theorem wQ {B L:dq} (h:B.map (fun p=>L.lookup p.1)=B.map (fun p=>some p.2)):B7 B L:=by
 induction B with
 |nil=>intro t v h; simp at h
 |cons p B ih=>
  obtain ⟨k,u⟩:=p
  simp only [List.map_cons,List.cons.injEq] at h
  intro t v hl
  by_cases e:t=k
  ·subst e
   simp only [List.lookup,beq_self_eq_true,Option.some.injEq] at hl
   rw [h.1,hl]
  ·have:(t==k)=false:=by simpa using e
   simp only [List.lookup,this] at hl
   exact ih h.2 t v hl
theorem oi {L Y:dq} {t:Nat}:(L++Y).lookup t=match L.lookup t with |some v=>some v|none=>Y.lookup t:=by
 induction L with
 |nil=>rfl
 |cons p L ih=>
  obtain ⟨k,u⟩:=p
  by_cases e:t==k
  ·simp [List.lookup,e]
  ·have:(t==k)=false:=by simpa using e
   simp only [List.cons_append,List.lookup,this,ih]
theorem B7.app {B L Y:dq} (h:B7 B L):B7 B (L++Y):=fun t v ht=>by rw [oi,h t v ht]
theorem QW {B L:dq} (h:B7 B L) {x:Operand} {v:Value} (hv:ev B x=some v):ev L x=some v:=by
 cases x<;>simp only [ev] at hv ⊢ <;>first|exact h _ _ hv|exact hv
theorem E0 {B L:dq} (h:B7 B L): ∀ {xs:List Operand} {vs:List Value},evs B xs=some vs→evs L xs=some vs
 |[],vs,hv=>hv
 |x::xs,vs,hv=>by
  simp only [evs] at hv ⊢
  cases e1:ev B x with
  |none=>rw [e1] at hv; simp at hv
  |some v=>
   cases e2:evs B xs with
   |none=>rw [e1,e2] at hv; simp at hv
   |some us=>
    rw [e1,e2] at hv
    rw [QW h e1,E0 h e2]; exact hv
section
variable (E:fh) (ops:Array Oper) (D:List Deferred) (C':List aA) (K0:Act→World→Prop) (B:List (Nat×Value)) (dO:Nat→Nat) (VO:Nat→Nat→Value) (AO:Nat→Nat→aA)
def CH:List fZ→dq→List aA→Prop
 |[],L,C=>KJ E K0 D L C
 | .take i::s,L,C=> ∀ b,CH s ((dO i,VO i b)::L) (AO i b::C)
 | .op j::s,L,C=> ∀ o,ops[j]? =some o→ ∀ (Y:dq) (X:List aA) (K:Act→World→Prop),(∀ L' C'',(∀ w,St E.S E.w0 C'' w→St E.S E.w0 C' w)→((Bm dO s).all fun d=>(L'.lookup d).isNone)=true→B.map (fun p=>L'.lookup p.1)=B.map (fun p=>some p.2)→CH s L' C''→KJ E K D (L'++Y) (C''++X))→RJ E ops (NQ K) [o] D (L++Y) (C++X)
/-- a row that is made at any time -/
def TK (i:Nat):Prop:= ∀ o,ops[i]? =some o→ ∀ (L:dq) (C:List aA) (K:Act→World→Prop),B7 B L→(∀ w,St E.S E.w0 C w→St E.S E.w0 C' w)→(∀ b,KJ E K D ((dO i,VO i b)::L) (AO i b::C))→RJ E ops (NQ K) [o] D L C
end
section
variable {E:fh} {ops:Array Oper} {D:List Deferred} {C' C1:List aA} {K0:Act→World→Prop} {B:List (Nat×Value)} {dO:Nat→Nat} {VO:Nat→Nat→Value} {AO:Nat→Nat→aA}
theorem Fj {Q:dj} {rest:List Oper} {L L2:dq} {C C2:List aA} (hL: ∀ a,Fr E.n D L a→Fr E.n D L2 a) (hC: ∀ w,St E.S E.w0 C w→St E.S E.w0 C2 w) (h:RJ E ops Q rest D L2 C2):RJ E ops Q rest D L C:=fun a w hf hs=>h a w (hL a hf) (hC w hs)
theorem z_ {K:Act→World→Prop} {L L2:dq} {C C2:List aA} (hL: ∀ a,Fr E.n D L a→Fr E.n D L2 a) (hC: ∀ w,St E.S E.w0 C w→St E.S E.w0 C2 w) (h:KJ E K D L2 C2):KJ E K D L C:=fun a w hf hs=>h a w (hL a hf) (hC w hs)
theorem BJ {n:Nat} {L L2:dq} (h: ∀ t v,L2.lookup t=some v→L.lookup t=some v) (a:Act) (hf:Fr n D L a):Fr n D L2 a:=⟨hf.defers,hf.size,fun t v ht=>hf.at_ t v (h t v ht)⟩
theorem EC: ∀ (T0 s':List fZ) (dn:List (Nat×Nat)) (L Y:dq) (C:List aA),(∀ x∈T0,∃ i b,x= .take i∧(i,b)∈dn)→(T0++s').Pairwise (fun x y=>rB (qA ops) dO x y=true)→(dn.map (·.1)).Nodup→(∀ p∈dn,fZ.take p.1∈T0++s')→(∀ p∈dn,Y.lookup (dO p.1)=some (VO p.1 p.2))→(∀ i,fZ.take i∈T0++s'→L.lookup (dO i)=none)→
 CH E ops D C' K0 B dO VO AO (T0++s') L C→ ∃ (dn':List (Nat×Nat)) (L':dq) (C2:List aA),CH E ops D C' K0 B dO VO AO s' L' C2∧(dn'.map (·.1)).Nodup∧(∀ p,p∈dn'↔p∈dn∧fZ.take p.1∈s')∧(∀ t v,(L'++Y).lookup t=some v→(L++Y).lookup t=some v)∧(∀ i,fZ.take i∈s'→L'.lookup (dO i)=none)∧(∀ w,St E.S E.w0 (C++dn.map fun p=>AO p.1 p.2) w→St E.S E.w0 (C2++dn'.map fun p=>AO p.1 p.2) w)
 |[],s',dn,L,Y,C,_,_,hn,hm,_,hl,h=>⟨dn,L,C,h,hn,fun p=>⟨fun q=>⟨q,hm p q⟩,fun q=>q.1⟩,fun t v q=>q,hl,fun w q=>q⟩
 |x::T0,s',dn,L,Y,C,ht,hp,hn,hm,hy,hl,h=>by
  obtain ⟨i,b,rfl,hb⟩:=ht x (bY ..)
  obtain ⟨J,P⟩:=List.pairwise_cons.1 hp
  have AB: ∀ y∈T0++s',i≠y.ix:=fun y hy e=>by
   have:=J y hy
   simp only [rB,di,bne_iff_ne,fZ.ix] at this
   exact this.1 e
  have N: ∀ k,fZ.take k∈T0++s'→dO k≠dO i:=fun k hk e=>by
   have:=J _ hk
   simp only [rB,di,bne_iff_ne] at this
   exact this.2 e.symm
  have K:dn.Perm ((i,b)::dn.erase (i,b)):=List.perm_cons_erase hb
  have H:((dn.erase (i,b)).map (·.1)).Nodup∧i ∉ (dn.erase (i,b)).map (·.1):=by
   have:=(K.map (·.1)).nodup_iff.1 hn
   exact ⟨(List.nodup_cons.1 this).2,(List.nodup_cons.1 this).1⟩
  have A: ∀ p∈dn.erase (i,b),p∈dn∧p.1≠i:=fun p hp=>⟨List.mem_of_mem_erase hp,fun e=>by have q:=List.mem_map_of_mem (f:=fun p:Nat×Nat=>p.1) hp; simp only [e] at q; exact H.2 q⟩
  have O:L.lookup (dO i)=none:=hl i (bY ..)
  obtain ⟨dn',L',C2,R,T,AA,V,W,X⟩:=EC T0 s' (dn.erase (i,b)) ((dO i,VO i b)::L) Y (AO i b::C) (fun x hx=>by
   obtain ⟨k,c,rfl,hk⟩:=ht x (dh _ hx)
   refine ⟨k,c,U,?_⟩
   have F:k≠i:=fun e=>AB _ (List.mem_append_left _ hx) e.symm
   exact (List.mem_erase_of_ne (fun e=>F (congrArg Prod.fst e))).2 hk) P H.1 (fun p hp=>by
   obtain ⟨M,G⟩:=A p hp
   rcases b_.1 (hm p M) with e|e
   ·injection e with e; exact absurd e G
   ·exact e) (fun p hp=>hy p (A p hp).1) (fun k hk=>by
   have:(dO k==dO i)=false:=by simpa using N k hk
   simp only [List.lookup,this]
   exact hl k (dh _ hk)) (h b)
  refine ⟨dn',L',C2,R,T,fun p=>?_,fun t v hv=>?_,W,fun w hw=>X w ?_⟩
  ·rw [AA]
   constructor
   ·rintro ⟨M,G⟩; exact ⟨(A p M).1,G⟩
   ·rintro ⟨M,G⟩
    have F:p.1≠i:=fun e=>AB _ (List.mem_append_right _ G) e.symm
    exact ⟨(List.mem_erase_of_ne (fun e=>F (congrArg Prod.fst e))).2 M,G⟩
  ·have:=V t v hv
   rw [oi] at this ⊢
   by_cases e:t=dO i
   ·subst e
    simp only [List.lookup,beq_self_eq_true] at this
    rw [O]; simp only
    rw [hy _ hb]; exact this
   ·have Q:(t==dO i)=false:=by simpa using e
    simp only [List.lookup,Q] at this
    exact this
  ·refine hw.perm ?_
   show (C++dn.map fun p=>AO p.1 p.2).Perm (AO i b::(C++(dn.erase (i,b)).map fun p=>AO p.1 p.2))
   refine ((K.map fun p:Nat×Nat=>AO p.1 p.2).append_left C).trans ?_
   exact List.perm_middle
theorem Bk: ∀ (s:List fZ) (j:Nat),fZ.op j∈s→ ∃ T0 k s',s=T0++fZ.op k::s'∧ ∀ x∈T0,∃ i,x=fZ.take i
 | .take i::s,j,h=>by
  rcases b_.1 h with e|h
  ·cases e
  ·obtain ⟨T0,k,s',rfl,A⟩:=Bk s j h
   exact ⟨.take i::T0,k,s',U,fun x hx=>by
    rcases b_.1 hx with rfl|hx
    ·exact ⟨i,U⟩
    ·exact A x hx⟩
 | .op k::s,j,_=>⟨[],k,s,rfl,fun x hx=>by cases hx⟩
def kW (s:List fZ) (dn:List (Nat×Nat)):List Nat:=(s.map fZ.ix).filter fun i=> !(dn.map (·.1)).contains i
theorem sH {s:List fZ} {dn:List (Nat×Nat)} {i:Nat}:i∈kW s dn↔(∃ x∈s,x.ix=i)∧ ∀ p∈dn,p.1≠i:=by
 unfold kW
 rw [List.mem_filter,db]
 refine and_congr Iff.rfl ?_
 rw [Bool.not_eq_true',← Bool.not_eq_true,List.contains_iff_mem,db]
 constructor
 ·intro h p hp e; exact h ⟨p,hp,e⟩
 ·rintro h ⟨p,hp,e⟩; exact h p hp e
theorem rR (hal: ∀ i,TK E ops D C' B dO VO AO i∨True): ∀ (n:Nat) (s:List fZ) (dn:List (Nat×Nat)) (L Y:dq) (C:List aA),(∀ i,fZ.take i∈s→TK E ops D C' B dO VO AO i)→s.Pairwise (fun x y=>rB (qA ops) dO x y=true)→(kW s dn).length=n→(dn.map (·.1)).Nodup→(∀ p∈dn,fZ.take p.1∈s)→(∀ p∈dn,Y.lookup (dO p.1)=some (VO p.1 p.2))→(∀ i,fZ.take i∈s→L.lookup (dO i)=none)→B7 B L→
 (∀ w,St E.S E.w0 C w→St E.S E.w0 C' w)→CH E ops D C' K0 B dO VO AO s L C→TN E ops D C' C1 (fun L C=>KJ E K0 D L C) [] n (kW s dn) (L++Y) (C++dn.map fun p=>AO p.1 p.2)
 |0,s,dn,L,Y,C,_,hp,hlen,hn,hm,hy,hl,hB,hC,h=>by
  have hr:kW s dn=[]:=kx hlen
  have Q: ∀ x∈s,∃ i b,x=fZ.take i∧(i,b)∈dn:=fun x hx=>by
   have hx':x.ix ∉ kW s dn:=by rw [hr]; exact List.not_mem_nil
   rw [sH] at hx'
   have: ∃ p∈dn,p.1=x.ix:=by
    apply Classical.byContradiction
    intro q
    exact hx' ⟨⟨x,hx,U⟩,fun p hp e=>q ⟨p,hp,e⟩⟩
   obtain ⟨p,T,AA⟩:=this
   have ht:=hm p T
   rcases List.mem_iff_getElem.1 hx with ⟨a,ha,ea⟩
   rcases List.mem_iff_getElem.1 ht with ⟨c,hc,ec⟩
   have d:a=c:=by
    rcases Nat.lt_trichotomy a c with q|q|q
    ·have:=e9.1 hp a c ha hc q
     simp only [rB,di,bne_iff_ne,ea,ec] at this
     exact absurd AA.symm this.1
    ·exact q
    ·have:=e9.1 hp c a hc ha q
     simp only [rB,di,bne_iff_ne,ea,ec] at this
     exact absurd AA this.1
   subst d
   exact ⟨p.1,p.2,by rw [← ea,ec],T⟩
  obtain ⟨dn',L',C2,V,J,O,W,h5,X⟩:=EC s [] dn L Y C Q (by simpa using hp) hn (by simpa using hm) hy (by simpa using hl) (by simpa using h)
  show KJ E K0 D _ _
  have hd:dn'=[]:=List.eq_nil_iff_forall_not_mem.2 fun p hp=>by have:=((O p).1 hp).2; cases this
  subst hd
  refine z_ (L2:=L') (C2:=C2) (fun a hf=>BJ (fun t v ht=>W t v (by rw [oi,ht])) a hf) (fun w hw=>by have:=X w hw; simpa using this) V
 |n+1,s,dn,L,Y,C,hal',hp,hlen,hn,hm,hy,hl,hB,hC,h=>by
  intro i hi o ho K hK
  obtain ⟨G,m⟩:=List.mem_filter.1 hi
  obtain ⟨⟨x,hx,rfl⟩,H⟩:=sH.1 G
  have A: ∀ k∈kW s dn,iR (qA ops) k x.ix=false:=fun k hk=>by
   have:=df.1 m k hk
   simpa using this
  cases x with
  |take i=>
   simp only [fZ.ix] at H A ho hK G ⊢
   refine hal' i hx o ho _ _ K hB.app (fun w hw=>hC w (hw.take (List.sublist_append_left _ _))) fun b=>?_
   have l:=hl i hx
   have AB:(kW s dn).filter (· != i)=kW s ((i,b)::dn):=by
    unfold kW
    rw [List.filter_filter]
    apply List.filter_congr
    intro k _
    simp only [List.map_cons,List.contains_cons,Bool.not_or]
    rfl
   have N:(kW s dn).Nodup:=by
    unfold kW
    refine List.Nodup.sublist List.filter_sublist<|List.pairwise_map.2 (hp.imp fun {a c} q=>?_)
    simp only [rB,di,bne_iff_ne] at q
    exact q.1
   have M: ∀ k,fZ.take k∈s→k≠i→dO k≠dO i:=fun k hk AC e=>by
    rcases List.mem_iff_getElem.1 hx with ⟨a,ha,ea⟩
    rcases List.mem_iff_getElem.1 hk with ⟨c,hc,ec⟩
    rcases Nat.lt_trichotomy a c with q|q|q
    ·have:=e9.1 hp a c ha hc q
     simp only [rB,di,bne_iff_ne,ea,ec] at this
     exact this.2 e.symm
    ·subst q; rw [ea] at ec; cases ec; exact AC rfl
    ·have:=e9.1 hp c a hc ha q
     simp only [rB,di,bne_iff_ne,ea,ec] at this
     exact this.2 e
   refine z_ (L2:=L++((dO i,VO i b)::Y)) (C2:=C++((i,b)::dn).map fun p=>AO p.1 p.2) (fun a hf=>BJ (fun t v ht=>?_) a hf) (fun w hw=>hw.perm (List.perm_middle).symm) (hK _ _ (fun w hw=>hC w (hw.take (List.sublist_append_left _ _))) (fun q=>by cases q) ?_)
   ·rw [oi] at ht
    by_cases e:t=dO i
    ·subst e
     rw [l] at ht
     simp only [List.lookup,beq_self_eq_true] at ht ⊢
     exact ht
    ·have e2:(t==dO i)=false:=by simpa using e
     simp only [List.lookup,e2] at ht ⊢
     rw [oi]; exact ht
   ·rw [AB]
    refine rR hal n s ((i,b)::dn) L ((dO i,VO i b)::Y) C hal' hp ?_ (List.nodup_cons.2 ⟨fun q=>?_,hn⟩) (fun p hp'=>?_) (fun p hp'=>?_) hl hB hC h
    ·rw [← AB,← List.Nodup.erase_eq_filter N,List.length_erase_of_mem G,hlen]; rfl
    ·obtain ⟨p,hp',e⟩:=db.1 q
     exact H p hp' e
    ·rcases b_.1 hp' with rfl|hp'
     ·exact hx
     ·exact hm p hp'
    ·rcases b_.1 hp' with rfl|hp'
     ·simp [List.lookup]
     ·have:(dO p.1==dO i)=false:=by simpa using M p.1 (hm p hp') (H p hp')
      simp only [List.lookup,this]
      exact hy p hp'
  |op j=>
   simp only [fZ.ix] at H A ho hK G ⊢
   obtain ⟨T0,k,s',rfl,hT⟩:=Bk s j hx
   obtain ⟨q1,q2,q3⟩:=List.pairwise_append.1 hp
   obtain ⟨q4,q5⟩:=List.pairwise_cons.1 q2
   have R: ∀ k',fZ.op k'∈T0++fZ.op k::s'→k'∈kW (T0++fZ.op k::s') dn:=fun k' hk'=>by
    refine sH.2 ⟨⟨_,hk',U⟩,fun p hp' e=>?_⟩
    have ht:=hm p hp'
    rcases List.mem_iff_getElem.1 hk' with ⟨a,ha,ea⟩
    rcases List.mem_iff_getElem.1 ht with ⟨c,hc,ec⟩
    rcases Nat.lt_trichotomy a c with q|q|q
    ·have:=e9.1 hp a c ha hc q
     simp only [rB,di,bne_iff_ne,ea,ec,fZ.ix] at this
     exact this.1 e.symm
    ·subst q; rw [ea] at ec; cases ec
    ·have:=e9.1 hp c a hc ha q
     simp only [rB,di,bne_iff_ne,ea,ec,fZ.ix] at this
     exact this.1 e
   have AK:k=j:=by
    apply Classical.byContradiction
    intro A0
    have hj':fZ.op j∈s':=by
     rcases gH.1 hx with q|q
     ·obtain ⟨i,e⟩:=hT _ q; cases e
     ·rcases b_.1 q with e|q
      ·injection e with e; exact absurd e.symm A0
      ·exact q
    have:=q4 _ hj'
    simp only [rB,di,fZ.ix] at this
    have J:=A k (R k sm)
    rw [this.2] at J; cases J
   subst AK
   have F: ∀ x∈T0,∃ i b,x=fZ.take i∧(i,b)∈dn:=fun x hx'=>by
    obtain ⟨i,rfl⟩:=hT x hx'
    apply Classical.byContradiction
    intro q
    have r:i∈kW (T0++fZ.op k::s') dn:=sH.2 ⟨⟨_,List.mem_append_left _ hx',rfl⟩,fun p hp' e=>q ⟨i,p.2,rfl,by rw [← e]; exact hp'⟩⟩
    have:=q3 _ hx' _ (bY ..)
    simp only [rB,di,fZ.ix] at this
    have J:=A i r
    rw [this.2] at J; cases J
   obtain ⟨dn',L',C2,V,J,O,W,h5,X⟩:=EC T0 (fZ.op k::s') dn L Y C F hp hn hm hy hl h
   refine Fj (fun a hf=>BJ W a hf) X (V o ho Y (dn'.map fun p=>AO p.1 p.2) K fun L3 C3 P A1 Z g=>?_)
   have AB:(kW (T0++fZ.op k::s') dn).filter (· != k)=kW s' dn':=by
    unfold kW
    rw [List.map_append,List.filter_append,List.map_cons,List.filter_append]
    have e1:(List.map fZ.ix T0).filter (fun i=> !(dn.map (·.1)).contains i)=[]:=by
     apply List.filter_eq_nil_iff.2
     intro z hz
     obtain ⟨x,hx',rfl⟩:=db.1 hz
     obtain ⟨i,b,rfl,hb⟩:=F x hx'
     simp only [fZ.ix,Bool.not_eq_true',Bool.not_eq_false,List.contains_iff_mem]
     exact List.mem_map_of_mem (f:=(·.1)) hb
    rw [e1]
    simp only [List.filter_nil,List.nil_append]
    have u:k ∉ dn.map (·.1):=fun q=>by
     obtain ⟨p,hp',e⟩:=db.1 q
     exact H p hp' e
    rw [List.filter_cons_of_pos (by simpa [fZ.ix] using u),List.filter_cons_of_neg (by simp [fZ.ix]),List.filter_filter]
    apply List.filter_congr
    intro z hz
    obtain ⟨y,hy',rfl⟩:=db.1 hz
    have A2:y.ix≠k:=fun e=>by
     have:=q4 y hy'
     simp only [rB,di,bne_iff_ne,fZ.ix] at this
     exact this.1 e.symm
    rw [Bool.eq_iff_iff]
    simp only [di,bne_iff_ne,Bool.not_eq_true',← Bool.not_eq_true,List.contains_iff_mem]
    constructor
    ·rintro ⟨_,hq⟩ hc
     obtain ⟨p,hp',e⟩:=db.1 hc
     exact hq (by rw [← e]; exact List.mem_map_of_mem (f:=(·.1)) ((O p).1 hp').1)
    ·intro hq
     refine ⟨A2,fun hc=>?_⟩
     obtain ⟨p,hp',e⟩:=db.1 hc
     apply hq
     rw [← e]
     refine List.mem_map_of_mem (f:=(·.1)) ((O p).2 ⟨hp',?_⟩)
     have ht:=hm p hp'
     rcases gH.1 ht with ht|ht
     ·exfalso
      have:=q3 _ ht _ (dh _ hy')
      simp only [rB,di,bne_iff_ne,fZ.ix] at this
      exact this.1 e
     ·exact ht
   have N:(kW (T0++fZ.op k::s') dn).Nodup:=by
    unfold kW
    refine List.Nodup.sublist List.filter_sublist<|List.pairwise_map.2 (hp.imp fun {a c} q=>?_)
    simp only [rB,di,bne_iff_ne] at q
    exact q.1
   refine hK _ _ (fun w hw=>P w (hw.take (List.sublist_append_left _ _))) (fun q=>by cases q) ?_
   rw [AB]
   have hdn': ∀ p∈dn',fZ.take p.1∈s':=fun p hp'=>by
    rcases b_.1 ((O p).1 hp').2 with e|e
    ·cases e
    ·exact e
   refine rR hal n s' dn' L3 Y C3 (fun i hi=>hal' i (by simp [hi])) q5 ?_ J hdn' (fun p hp'=>hy p ((O p).1 hp').1) (fun i hi=>?_) (wQ Z) P g
   ·rw [← AB,← List.Nodup.erase_eq_filter N,List.length_erase_of_mem G,hlen]; rfl
   ·have:=df.1 A1 _ (uK hi)
    simpa using this
/-- the rows, at any time; the others, one after the other -/
theorem E8 {tb rem:List Nat} {L:dq} {C:List aA} (s:List fZ) (B:dq) (dO:Nat→Nat) (VO:Nat→Nat→Value) (AO:Nat→Nat→aA) {n:Nat} (htb:tb=[]) (hr:s.map fZ.ix=rem) (hn:rem.length=n) (hp:Ua (qA ops) dO s=true) (hl:((Bm dO s).all fun d=>(L.lookup d).isNone)=true) (hB:B.map (fun p=>L.lookup p.1)=B.map (fun p=>some p.2)) (hC: ∀ w,St E.S E.w0 C w→St E.S E.w0 C' w)
 (hal: ∀ i,fZ.take i∈s→TK E ops D C' B dO VO AO i) (h:CH E ops D C' K0 B dO VO AO s L C):TN E ops D C' C1 (fun L C=>KJ E K0 D L C) tb n rem L C:=by
 subst htb hr
 have e:kW s []=s.map fZ.ix:=by unfold kW; simp
 have:=rR (C1:=C1) (fun i=> .inr trivial) n s [] L [] C hal (ER hp) (by rw [e]; exact hn) List.nodup_nil (fun p hp=>by cases hp) (fun p hp=>by cases hp) (fun i hi=>by
  have:=df.1 hl _ (uK hi)
  simpa using this) (wQ hB) hC h
 simpa [e] using this
theorem Jr {p:Nat→Prop}: ∀ i,fZ.take i∈([]:List fZ)→p i:=fun i h=>by cases h
theorem qT {p:Nat→Prop} {j:Nat} {s:List fZ} (h: ∀ i,fZ.take i∈s→p i): ∀ i,fZ.take i∈fZ.op j::s→p i:=fun i hi=>by
 rcases b_.1 hi with e|hi
 ·cases e
 ·exact h i hi
theorem mH {p:Nat→Prop} {j:Nat} {s:List fZ} (hj:p j) (h: ∀ i,fZ.take i∈s→p i): ∀ i,fZ.take i∈fZ.take j::s→p i:=fun i hi=>by
 rcases b_.1 hi with e|hi
 ·cases e; exact hj
 ·exact h i hi
end
section
variable {E:fh} {ops:Array Oper} {D:List Deferred} {C':List aA} {B:List (Nat×Value)} {dO:Nat→Nat} {VO:Nat→Nat→Value} {AO:Nat→Nat→aA}
variable {d:Nat} {ty:TypeId} {ps:String} {af:Array Edge}
theorem IS {i t e sz:Nat} (ho:ops[i]? =some ⟨some d,.buildSlice t 0 #[],ty,ps,af,none⟩) (ht:tE E.P t=some (e,sz)) (hd:Nat.blt d E.n=true) (h1:dO i=d) (h2: ∀ b,VO i b= .slice (some ⟨b,0,none⟩) 0 0) (h3: ∀ b,AO i b=cz b e []):TK E ops D C' B dO VO AO i:=fun o ho' L C K hB _ hk=>by
 rw [ho] at ho'; cases ho'
 exact ui U ht hd fun b=>aK (by have:=hk b; rw [h1,h2,h3] at this; exact this)
theorem wb {i t e sz n:Nat} {xs:List Operand} {vs:List Value} {cs zs:List Value} (ho:ops[i]? =some ⟨some d,.buildSlice t n ((xs.zipIdx.map fun p=>(p.2,p.1)).toArray),ty,ps,af,none⟩) (ht:tE E.P t=some (e,sz)) (hz:tZ E.P e=some zs) (hx:evs B xs=some vs) (hn:xs.length=n) (hp:Nat.blt 0 (n*sz)=true) (hb:Nat.ble (n*sz) 16777216=true) (hv: ∀ v∈vs,v.cells.size=sz)
 (hc:(vs.map (·.cells.toList)).flatten=cs) (hd:Nat.blt d E.n=true) (h1:dO i=d) (h2: ∀ b,VO i b= .slice (some ⟨b,0,none⟩) n n) (h3: ∀ b,AO i b=cz b e cs):TK E ops D C' B dO VO AO i:=fun o ho' L C K hB _ hk=>by
 rw [ho] at ho'; cases ho'
 exact ew U ht hz (E0 hB hx) hn hp hb hv hc hd fun b=>aK (by have:=hk b; rw [h1,h2,h3] at this; exact this)
end
section
variable {E:fh} {ops:Array Oper} {D:List Deferred} {C':List aA} {K0:Act→World→Prop} {B:List (Nat×Value)} {dO:Nat→Nat} {VO:Nat→Nat→Value} {AO:Nat→Nat→aA}
theorem rM {j:Nat} {s:List fZ} {L:dq} {C:List aA} {o:Oper} (ho:ops[j]? =some o)
 (h: ∀ (Y:dq) (X:List aA) (K:Act→World→Prop),(∀ L' C'',(∀ w,St E.S E.w0 C'' w→St E.S E.w0 C' w)→((Bm dO s).all fun d=>(L'.lookup d).isNone)=true→B.map (fun p=>L'.lookup p.1)=B.map (fun p=>some p.2)→CH E ops D C' K0 B dO VO AO s L' C''→KJ E K D (L'++Y) (C''++X))→RJ E ops (NQ K) [o] D (L++Y) (C++X)):CH E ops D C' K0 B dO VO AO (.op j::s) L C:=fun o' ho'=>by
 rw [ho] at ho'; cases ho'
 exact h
theorem nY {s:List fZ} {L Y:dq} {C X:List aA} {K:Act→World→Prop} (hT: ∀ L' C'',(∀ w,St E.S E.w0 C'' w→St E.S E.w0 C' w)→((Bm dO s).all fun d=>(L'.lookup d).isNone)=true→B.map (fun p=>L'.lookup p.1)=B.map (fun p=>some p.2)→CH E ops D C' K0 B dO VO AO s L' C''→KJ E K D (L'++Y) (C''++X)) (nL nC:Nat)
 (hL:L.take nL++Y=L) (hC:C.take nC++X=C) (h1: ∀ w,St E.S E.w0 (C.take nC) w→St E.S E.w0 C' w) (h2:((Bm dO s).all fun d=>((L.take nL).lookup d).isNone)=true) (h3:B.map (fun p=>(L.take nL).lookup p.1)=B.map (fun p=>some p.2)) (h:CH E ops D C' K0 B dO VO AO s (L.take nL) (C.take nC)):RJ E ops (NQ K) [] D L C:=by
 have:=hT _ _ h1 h2 h3 h
 rw [hL,hC] at this
 exact aK this
theorem OO {c:Code} {Q:dj} {L L':dq} {C:List aA} (h:L'.map (fun p=>L.lookup p.1)=L'.map (fun p=>some p.2)) (k:WJ E c Q D L' C):WJ E c Q D L C:=fun a w hf hs=>k a w (BJ (wQ h) a hf) hs
theorem yg: ∀ {C:List aA} {i:Nat} {A:aA},C[i]? =some A→C.Perm (A::C.eraseIdx i)
 |[],i,A,h=>by simp at h
 |x::C,0,A,h=>by
  simp at h; subst h
  exact List.Perm.refl _
 |x::C,i+1,A,h=>((yg (C:=C) (i:=i) (by simpa using h)).cons x).trans (List.Perm.swap _ _ _)
theorem St.front {S:BS} {w0 w:World} {C:List aA} {A:aA} (i:Nat) (hi:C[i]? =some A) (h:St S w0 C w):St S w0 (A::C.eraseIdx i) w:=h.perm (yg hi)
theorem ES {K:Act→World→Prop} {L:dq} {C:List aA} {A:aA} (i:Nat) (hi:C[i]? =some A) (h:KJ E K D L (A::C.eraseIdx i)):KJ E K D L C:=fun a w hf hs=>h a w hf (hs.front i hi)
theorem sb {Q:dj} {rest:List Oper} {L:dq} {C:List aA} {A:aA} (i:Nat) (hi:C[i]? =some A) (h:RJ E ops Q rest D L (A::C.eraseIdx i)):RJ E ops Q rest D L C:=fun a w hf hs=>h a w hf (hs.front i hi)
end
end
section
open Go.RowKit
section
variable {E:fh} {ops:Array Oper} {D:List Deferred} {C' C1:List aA} {tb:List Nat}
theorem Jc {V:Type} {F:dq→List aA→Prop} (P:V→Prop) (fL:V→dq) (fC:V→List aA) (n:Nat) (rest:List Nat) {m:Nat} {rem:List Nat} {L:dq} {C:List aA} (h1:(∀ v,P v→TN E ops D C' C1 F tb n rest (fL v) (fC v))→TN E ops D C' C1 F tb m rem L C) (h2: ∀ v,P v→TN E ops D C' C1 F tb n rest (fL v) (fC v)):TN E ops D C' C1 F tb m rem L C:=h1 h2
theorem Tl {F:dq→List aA→Prop} {rem':List Nat} {n i:Nat} {L:dq} {C:List aA} {o:Oper} (ho:ops[i]? =some o)
 (h: ∀ K:Act→World→Prop,(∀ L' C'',(∀ w,St E.S E.w0 C'' w→St E.S E.w0 C' w)→TN E ops D C' C1 F tb n rem' L' C''→KJ E K D L' C'')→RJ E ops (NQ K) [o] D L C) (hm:((i::rem').filter fun k=>(i::rem').all fun j=> !iR (qA ops) j k)=[i]:=by kernel_rfl) (hr:(i::rem').filter (· != i)=rem':=by kernel_rfl) (ht:tb.contains i=false:=by rfl):TN E ops D C' C1 F tb (n+1) (i::rem') L C:=
 fp [i] hm (cK (dT ho hr ht h) gV)
theorem PV {K0:Act→World→Prop} {n:Nat} {rem:List Nat} {L L2:dq} {C C2:List aA} (hL: ∀ a,Fr E.n D L a→Fr E.n D L2 a) (hC: ∀ w,St E.S E.w0 C w→St E.S E.w0 C2 w) (h:TN E ops D C' C1 (fun L C=>KJ E K0 D L C) tb n rem L2 C2):TN E ops D C' C1 (fun L C=>KJ E K0 D L C) tb n rem L C:=by
 cases n with
 |zero=>exact z_ hL hC h
 |succ n=>exact fun i hi o ho K hK=>Fj hL hC (h i hi o ho K hK)
theorem gZ {V:Type} {P:V→Prop} {fL:V→dq} {fC:V→List aA} {K0:Act→World→Prop} {n:Nat} {rem rest:List Nat} {L:dq} {C:List aA} (hJ: ∀ v,P v→TN E ops D C' C1 (fun L C=>KJ E K0 D L C) tb n rest (fL v) (fC v)) (v:V) (hp:P v) (ix:List Nat) (hL:(fL v).map (fun p=>L.lookup p.1)=(fL v).map (fun p=>some p.2)) (hn:decide ix.Nodup=true) (hC:l0 C ix=some (fC v)) (hr:rem=rest:=by kernel_rfl):TN E ops D C' C1 (fun L C=>KJ E K0 D L C) tb n rem L C:=hr▸
 PV (fun a hf=>BJ (wQ hL) a hf) (fun w hs=>St.j5 _ hn (j4 hC) hs) (hJ v hp)
end
theorem CD {E:fh} {id:Nat} {ops:Array Oper} {Q:dj} {D:g_} {L:dq} {C:List aA} (hm:E.P.follows .mixedOrders=true) (T i1:List Nat) {C':List aA} {free:List Nat} {feb:List Bool} (h1:l0 C i1=some C') (hf:free=Tn ops.size T) (hfe:feb=Ud free.length [])
 (h:qM E ops D C' [] (fun L'=>TN E ops D C' [] (fun L C=>KJ E (Q .normal) D L C) [] T.length T L' C) feb (eW ops free) L) (hc:FN ops free T feb []=true:=by kernel_rfl) (n1:decide i1.Nodup=true:=by rfl):WJ E (.region id ops true) Q D L C:=
 k6 hm free T feb [] C' [] hc (NA i1 h1 n1) (NA [] rfl rfl) h
section
end
end
section
set_option maxRecDepth 20000
def Tf:au:=⟨1,⟨10000,10200⟩,⟨0,0⟩,⟨0,0⟩,0,0⟩
def yQ:ax:=⟨100,[⟨0,⟨0,2⟩⟩,⟨100000,⟨5,6⟩⟩]⟩
def Q4 (o:Int):bK:=⟨⟨0,⟨o,o⟩⟩,0⟩
def oj (f:Int):bH:=⟨[Tf],2000,[yQ],[Q4 1000,Q4 4000,Q4 9000],1,f,1⟩
def ml:c_:=⟨10000,20000,[⟨0,10600⟩,⟨0,11000⟩,⟨1,12600⟩]⟩
theorem I3:du [Tf]=true:=by decide
theorem w7:fy yQ:=by
 have hi: ∀ (i:Nat) (x:ct),yQ.bB[i]? =some x→i=0∧x=⟨0,⟨0,2⟩⟩∨i=1∧x=⟨100000,⟨5,6⟩⟩:=fun i x h=>by
  match i with
  |0=>left; simp [yQ] at h; exact ⟨rfl,h.symm⟩
  |1=>right; simp [yQ] at h; exact ⟨rfl,h.symm⟩
  |n+2=>simp [yQ] at h
 refine ⟨dc,dc,fun i x hx=>?_,fun i k x o hx hk ho=>?_⟩
 ·rcases hi i x hx with ⟨rfl,rfl⟩|⟨rfl,rfl⟩<;>(unfold fT; decide)
 ·rcases hi i x hx with ⟨rfl,rfl⟩|⟨rfl,rfl⟩
  ·omega
  ·rcases hi k o ho with ⟨rfl,rfl⟩|⟨rfl,rfl⟩
   ·unfold nK; decide
   ·omega
theorem AZ {o:Int} (h:0≤o∧o<10000):fP [Tf] ⟨0,⟨o,o⟩⟩:=⟨sm,Tf,rfl,by show o≤o∧0≤o∧o≤10000-1; omega⟩
theorem Nq {f:Int} (hf:0≤f∧f≤3):lR (oj f):=by
 refine ⟨?_,fun c hc=>?_,fun b hb=>?_,fun i hi=>?_⟩
 ·unfold eZ; simp [oj]; omega
 ·simp [oj] at hc; subst hc; exact w7
 ·simp [oj] at hb
  rcases hb with rfl|rfl|rfl
  ·exact ⟨AZ I,by simp [Q4,oj]⟩
  ·exact ⟨AZ I,by simp [Q4,oj]⟩
  ·exact ⟨AZ I,by simp [Q4,oj]⟩
 ·have A:i<3:=hi
  have:i=0∨i=1∨i=2:=by omega
  rcases this with rfl|rfl|rfl
  ·show (1:Int)≤lH (oj 0) 0; decide
  ·show (1:Int)≤lH (oj 0) 1; decide
  ·show (1:Int)≤lH (oj 0) 2; decide
def ic:bH:=oj 1
theorem OZ:eT ic=0:=xV I3 (Nq I)
theorem LB {r x:Int} (h0:0<x) (h1:x≤86400000) (hy:gI yQ r x=true) (hn:gI yQ r (x-1)=false):fO (gI yQ r) 86400001=x:=
 zH I I hy fun z hz A=>by
  cases e:gI yQ r z with
  |false=>rfl
  |true=>
   unfold gI at e hn
   have:=(oO w7 hz (show z≤x-1 by omega) I).2
   have B:=of_decide_eq_true e
   have C:=of_decide_eq_false hn
   omega
theorem Jm {r x:Int} (h0:0<x) (h1:x≤86400000) (hy:gJ yQ r x=true) (hn:gJ yQ r (x-1)=false):fO (gJ yQ r) 86400001=x:=
 zH I I hy fun z hz A=>by
  cases e:gJ yQ r z with
  |false=>rfl
  |true=>
   unfold gJ at e hn
   have:=(oO w7 hz (show z≤x-1 by omega) I).1
   have B:=of_decide_eq_true e
   have C:=of_decide_eq_false hn
   omega
theorem TB:rF yQ 10600=⟨10596,10602⟩:=by unfold rF; rw [LB (x:=10596) I I dc dc,Jm (x:=10603) I I dc dc]; rfl
theorem RN:rF yQ 11000=⟨10996,11002⟩:=by unfold rF; rw [LB (x:=10996) I I dc dc,Jm (x:=11003) I I dc dc]; rfl
theorem R_:rF yQ 12600=⟨12596,12602⟩:=by unfold rF; rw [LB (x:=12596) I I dc dc,Jm (x:=12603) I I dc dc]; rfl
def Tg (f:Int):cr:=⟨10000,20000,[500,1500,2500],[[(0,⟨10596,10602⟩),(1,⟨10996,11002⟩)],[(2,⟨12596,12602⟩)],[]],1,f,3⟩
theorem TH (f:Int):cV (oj f) ⟨0,10600⟩=⟨10596,10602⟩:=TB
theorem Td (f:Int):cV (oj f) ⟨0,11000⟩=⟨10996,11002⟩:=RN
theorem Ry (f:Int):cV (oj f) ⟨1,12600⟩=⟨12596,12602⟩:=R_
theorem IC (f:Int):cN (oj f) ml.aa 3=[[(0,⟨10596,10602⟩),(1,⟨10996,11002⟩)],[(2,⟨12596,12602⟩)],[]]:=by
 have o: ∀ b:Nat,lf (oj f) ml.aa 3 b=(nS (oj f) ml.aa b 0).toList++((nS (oj f) ml.aa b 1).toList++(nS (oj f) ml.aa b 2).toList):=fun b=>by
  rw [lz,lz,lz]; simp [lf]
 have A: ∀ b:Nat,nS (oj f) ml.aa b 0=if (0:Int)=(b:Int) then some (0,⟨10596,10602⟩) else none:=fun b=>by
  show (if (0:Int)=(b:Int)∧(cV (oj f) ⟨0,10600⟩).Lo≤(cV (oj f) ⟨0,10600⟩).Hi then some ((0:Int),cV (oj f) ⟨0,10600⟩) else none)=_
  rw [TH]; by_cases h:(0:Int)=(b:Int)
  ·rw [if_pos h,if_pos ⟨h,dc⟩]<;>rfl
  ·rw [if_neg h,if_neg fun q=>h q.1]
 have B: ∀ b:Nat,nS (oj f) ml.aa b 1=if (0:Int)=(b:Int) then some (1,⟨10996,11002⟩) else none:=fun b=>by
  show (if (0:Int)=(b:Int)∧(cV (oj f) ⟨0,11000⟩).Lo≤(cV (oj f) ⟨0,11000⟩).Hi then some ((1:Int),cV (oj f) ⟨0,11000⟩) else none)=_
  rw [Td]; by_cases h:(0:Int)=(b:Int)
  ·rw [if_pos h,if_pos ⟨h,dc⟩]<;>rfl
  ·rw [if_neg h,if_neg fun q=>h q.1]
 have C: ∀ b:Nat,nS (oj f) ml.aa b 2=if (1:Int)=(b:Int) then some (2,⟨12596,12602⟩) else none:=fun b=>by
  show (if (1:Int)=(b:Int)∧(cV (oj f) ⟨1,12600⟩).Lo≤(cV (oj f) ⟨1,12600⟩).Hi then some ((2:Int),cV (oj f) ⟨1,12600⟩) else none)=_
  rw [Ry]; by_cases h:(1:Int)=(b:Int)
  ·rw [if_pos h,if_pos ⟨h,dc⟩]<;>rfl
  ·rw [if_neg h,if_neg fun q=>h q.1]
 show [lf (oj f) ml.aa 3 0,lf (oj f) ml.aa 3 1,lf (oj f) ml.aa 3 2]=_
 rw [o,o,o,A,A,A,B,B,B,C,C,C]
 rfl
theorem Bn (f:Int):dx (oj f) ml=Tg f:=by
 unfold dx Tg
 rw [show ml.aa.length=3 from rfl,IC]
 rfl
theorem Nu (f:Int):fQ (oj f) ml:=by
 refine ⟨dc,dc,fun i s hs=>?_⟩
 match i with
 |0=>simp [ml] at hs; subst hs; unfold iT jw; simp [oj,kQ]
 |1=>simp [ml] at hs; subst hs; unfold iT jw; simp [oj,kQ,ml]
 |2=>simp [ml] at hs; subst hs; unfold iT jw; simp [oj,kQ,ml]
 |n+3=>simp [ml] at hs
theorem Cz:l3 (dx ic ml)=[2,3]:=by rw [show dx ic ml=Tg 1 from Bn 1]; decide
theorem CQ:fu ic ml 0=0:=rT OZ (Nu 1) rfl (by rw [Cz]; decide)
theorem Ln:kl ic ml=[2,3]:=by rw [vi CQ,Cz]
theorem Ji {b:Nat} (hb:b<3):fu ic ml (ke ic b)=0:=by rw [uW (by show 0≤(b:Int)∧(b:Int)≤3-1; omega)]; exact CQ
theorem Fm {b:Nat} {z:ai} (hb:b<3) (hz:wc (q6 (Tg 1) b)=z) (hn:z≠mX):dW ic ml b=0∧dN ic ml b=z:=by
 have e:mU ic ml b=z:=by unfold mU; rw [show dx ic ml=Tg 1 from Bn 1]; exact hz
 have h:=ot (Ji hb) (by rw [e]; exact hn)
 exact ⟨h.1,h.2.trans e⟩
theorem BO:dW ic ml 0=0∧dN ic ml 0=⟨10596,11002⟩:=Fm (b:=0) I dc dc
theorem ry:dW ic ml 1=0∧dN ic ml 1=⟨12596,12602⟩:=Fm (b:=1) I dc dc
theorem Po:dW ic ml ic.cf=0∧AF ic ml=⟨2596,2602⟩:=by
 refine ⟨ry.1,?_⟩
 rw [AB (l:=ic) (r:=ml) ry.1]
 rw [show dN ic ml ic.cf=⟨12596,12602⟩ from ry.2]
 rfl
theorem Ru (f:Int) {a:OA} {c:Nat} (hc:2≤c):ej (oj f) [(a,c)]:=by
 refine ⟨by simp [oj],?_,by simp [oj],U,by simp [oj],fun k m a' hm ha=>?_⟩
 ·intro x hx; simp [oj] at hx; subst hx; simp [Tf]
 ·match k with
  |0=>simp [oj] at hm ha; subst hm; subst ha; simp [yQ]; exact hc
  |n+1=>simp at ha
end
section
open Go.RowKit
def Ic (t:ai):ak:=⟨false,true,t,⟨0,0,[]⟩⟩
section
variable {r:eD} {h i:Int} {t:ai} {ht:List ak} {d:ak}
end
section
variable {E:fh} {Q:dj} {D:List Deferred} {L:List (Nat×Value)} {C C1:List aA} {c:Code}
variable {H:List (List ak)} {hz:List cD} {h h':List ak} {a a':cD} {k:Nat} {bs:List RA} {i:Nat} {d d':ak} {b:RA}
end
end
section
set_option maxRecDepth 20000
def nj (x y:Int):ak:=Ic ⟨x,y⟩
def o8:ak:=⟨false,false,eQ,ml⟩
def qL:eD:=⟨ic,[4,7,9],[2,0,1],2,[[o8,nj 2600 2600,nj 2580 2609],[nj 2555 2559,nj 2540 2549,nj 2570 2575]]⟩
def ep:cS:=⟨qL,[⟨1,0,12600,13000⟩,⟨2,1,11003,11100⟩,⟨3,0,10700,10900⟩,⟨1,0,13000,14000⟩],[⟨2,0,0,0,72596⟩,⟨5,0,0,1,72603⟩,⟨6,0,0,3,20000⟩],1,500⟩
theorem AS {l:bH} {x y:Int} (h:mj ⟨x,y⟩):iW l (nj x y):=by rw [tY ⟨rfl,rfl⟩]; exact ⟨h,rfl,rfl,rfl⟩
theorem Kz:fD qL:=by
 refine ⟨dc,dc,dc,fun i x hx=>?_,dc,fun h hh=>?_⟩
 ·match i with
  |0=>simp [qL] at hx; subst hx; exact ⟨dc,fun y h=>absurd h dc⟩
  |1=>simp [qL] at hx; subst hx; exact ⟨dc,fun y _ h=>by simp [qL] at h; omega⟩
  |2=>simp [qL] at hx; subst hx; exact ⟨dc,fun y _ h=>by simp [qL] at h; omega⟩
  |n+3=>simp [qL] at hx
 ·simp only [qL,b_,List.not_mem_nil,or_false] at hh
  rcases hh with rfl|rfl
  ·refine ⟨U,fun d hd=>?_⟩
   simp only [b_,List.not_mem_nil,or_false] at hd
   rcases hd with rfl|rfl|rfl
   ·rw [ur ⟨rfl,rfl⟩]; exact ⟨Po.1,rfl⟩
   ·exact AS dc
   ·exact AS dc
  ·refine ⟨U,fun d hd=>?_⟩
   simp only [b_,List.not_mem_nil,or_false] at hd
   rcases hd with rfl|rfl|rfl<;>exact AS dc
theorem Qg:gf qL=0:=by unfold gf; rw [if_pos (show eT qL.ao=0 from OZ),if_pos Kz]
theorem Qm:pV ep:=by
 refine ⟨dc,fun f hf=>?_,dc,dc,dc,fun i p hp=>?_⟩
 ·simp only [ep,b_,List.not_mem_nil,or_false] at hf
  rcases hf with rfl|rfl|rfl|rfl<;>decide
 ·match i with
  |0=>simp [ep] at hp; subst hp; exact ⟨dc,fun q h=>absurd h dc,dc,dc,dc,o8,rfl,dc⟩
  |1=>simp [ep] at hp; subst hp; exact ⟨dc,fun q _ h=>by simp [ep] at h; subst h; decide,dc,dc,dc,o8,rfl,dc⟩
  |2=>simp [ep] at hp; subst hp; exact ⟨dc,fun q _ h=>by simp [ep] at h; subst h; decide,dc,dc,dc,o8,rfl,dc⟩
  |n+3=>simp [ep] at hp
theorem ov:dG ep=0:=yJ Qg Qm
theorem CX {b:Int} (h:b<2):uo ic ml b=true:=by
 unfold uo; rw [Ln]; simp; omega
theorem OD (h:(-1:Int)<0):cQ ic ml (-1)=⟨10000,10000,true,false⟩:=if_pos h
theorem Qi:cQ ic ml 0=⟨10596,11002,true,false⟩:=by
 unfold cQ; rw [if_neg dc,if_pos BO.1,BO.2,CX dc]; rfl
theorem Aq:cQ ic ml 1=⟨12596,12602,true,false⟩:=by
 unfold cQ; rw [if_neg dc,if_pos ry.1,ry.2,CX dc]; rfl
theorem Ir {f:aZ} {a b:zA} (ha:cQ ic ml (yU f)=a) (hb:cQ ic ml (Q7 ic f)=b):hG ic f o8=nO f a b:=by
 unfold hG
 rw [if_pos (by decide:nZ o8)]
 show nO f (cQ ic ml (yU f)) (cQ ic ml (Q7 ic f))=_
 rw [ha,hb]
theorem El:hG ic ⟨1,0,12600,13000⟩ o8=1:=(Ir (f:=⟨1,0,12600,13000⟩) (show cQ ic ml (-1)=_ from OD dc) (show cQ ic ml (1)=_ from Aq)).trans dc
theorem QV:hG ic ⟨2,1,11003,11100⟩ o8=2:=(Ir (f:=⟨2,1,11003,11100⟩) (show cQ ic ml (0)=_ from Qi) (show cQ ic ml (1)=_ from Aq)).trans dc
theorem Lf:hG ic ⟨1,0,13000,14000⟩ o8=0:=(Ir (f:=⟨1,0,13000,14000⟩) (show cQ ic ml (-1)=_ from OD dc) (show cQ ic ml (1)=_ from Aq)).trans dc
theorem O9 {f:aZ} {x y:Int}:hG ic f (nj x y)=0:=sh (by simp [nj,Ic,nZ])
theorem Ce {p:br} (hd:qH ep p=some o8):mZ ep p=if p.At≤72596 then 0 else if p.At≤72602 then 1 else 2:=by
 unfold mZ
 rw [hd]
 simp only
 have e:cQ ep.Race.ao o8.aY ep.Race.ao.cf=⟨12596,12602,true,false⟩:=Aq
 rw [e]; rfl
theorem Lr:mZ ep ⟨2,0,0,0,72596⟩=0:=(Ce rfl).trans dc
theorem K2:mZ ep ⟨5,0,0,1,72603⟩=2:=(Ce rfl).trans dc
theorem JM {p:br} {f:aZ} (hd:qH ep p=some o8) (hf:ep.aS[p.jX.toNat]? =some f):iD ep p=(decide (mZ ep p≠2)&&decide (hG ic f o8≠0)):=by
 unfold iD; rw [hd,hf]; rfl
theorem DE:iD ep ⟨2,0,0,0,72596⟩=true:=by rw [JM (f:=⟨1,0,12600,13000⟩) rfl rfl,Lr,El]; rfl
theorem KZ:iD ep ⟨5,0,0,1,72603⟩=false:=by rw [JM (f:=⟨2,1,11003,11100⟩) rfl rfl,K2]; rfl
theorem IY:iD ep ⟨6,0,0,3,20000⟩=false:=by rw [JM (f:=⟨1,0,13000,14000⟩) rfl rfl,Lf]; simp
theorem xg:iM ep=[0]:=by
 unfold iM um
 show mh (fun i=>(ep.aJ[i]?).any (iD ep)) 3=[0]
 rw [sY (by show iD ep ⟨6,0,0,3,20000⟩=false; exact IY),sY (by show iD ep ⟨5,0,0,1,72603⟩=false; exact KZ),wW (by show iD ep ⟨2,0,0,0,72596⟩=true; exact DE)]
 rfl
theorem Ns:Lg ic (oz ep) ep.aS o8:=⟨⟨1,0,12600,13000⟩,by simp [ep],⟨0,⟨2,0,0,0,72596⟩,rfl,DE,rfl⟩,by rw [El]; decide⟩
theorem uM {x y:Int}: ¬ Lg ic (oz ep) ep.aS (nj x y):=fun ⟨f,_,_,h⟩=>h O9
theorem Mu:fF ep=[[0],[]]:=by
 have A:xJ ic (oz ep) ep.aS [o8,nj 2600 2600,nj 2580 2609] 3=[0]:=by
  unfold xJ
  rw [sY (by simp [uM]),sY (by simp [uM]),wW (by simp [Ns])]; rfl
 have B:xJ ic (oz ep) ep.aS [nj 2555 2559,nj 2540 2549,nj 2570 2575] 3=[]:=by
  unfold xJ
  rw [sY (by simp [uM]),sY (by simp [uM]),sY (by simp [uM])]; rfl
 show [xJ ic (oz ep) ep.aS [o8,nj 2600 2600,nj 2580 2609] 3,xJ ic (oz ep) ep.aS [nj 2555 2559,nj 2540 2549,nj 2570 2575] 3]=_
 rw [A,B]
theorem BL:zk ep=500∧Ft ep=1000:=by
 have h:zk ep=500:=by unfold zk; rw [xg]; rfl
 exact ⟨h,by unfold Ft; rw [h]; rfl⟩
theorem Hc:D1 ep 0= -1000:=by
 have h:Ja ep 0 3=2:=by
  unfold Ja
  rw [show List.range 3=[0,1,2] from rfl]
  simp only [List.countP_cons,List.countP_nil]
  rw [show (ep.aJ[0]?)=some ⟨2,0,0,0,72596⟩ from rfl,show (ep.aJ[1]?)=some ⟨5,0,0,1,72603⟩ from rfl,show (ep.aJ[2]?)=some ⟨6,0,0,3,20000⟩ from rfl]
  simp only [Option.any_some,DE,KZ,IY]
  decide
 unfold D1
 rw [show ep.aJ.length=3 from rfl,h]; rfl
end
section
open Go.RowKit
section
variable {E:fh} {ops:Array Oper} {Q:dj} {rest:List Oper} {D:List Deferred} {L:List (Nat×Value)} {C C1:List aA}
end
theorem yc {C:List aA}: ∀ {a b:List Nat} {X Y:List aA},l0 C a=some X→l0 C b=some Y→l0 C (a++b)=some (X++Y)
 |[],b,X,Y,h,h2=>by cases h; exact h2
 |i::a,b,X,Y,h,h2=>by
  unfold l0 at h
  split at h
  ·rename_i A hA
   split at h
   ·rename_i l hl
    cases h
    have ih:=yc hl h2
    show (match C[i]? with
     |some A=>match l0 C (a++b) with
      |some l=>some (A::l)
      |none=>none
     |none=>none)=_
    rw [hA,ih]; rfl
   ·cases h
  ·cases h
theorem Gr {E:fh} {ops:Array Oper} {Q:dj} {rest:List Oper} {D:g_} {L:dq} {C C1:List aA} (X:List aA) (i1 i2:List Nat) (h1:l0 C i1=some X) (h2:l0 C i2=some C1) (h:RJ E ops Q rest D L (bM X::C1)) (hn:decide (i1++i2).Nodup=true:=by rfl):RJ E ops Q rest D L C:=fun a w hf hs=>h a w hf (St.tied (St.j5 _ hn (j4 (yc h1 h2)) hs))
theorem Px {E:fh} {c:Code} {Q:dj} {D:g_} {L:dq} {C C1:List aA} (ix:List Nat) (hC:l0 C ix=some C1) (h:WJ E c Q D L C1) (hn:decide ix.Nodup=true:=by rfl):WJ E c Q D L C:=fun a w hf hs=>h a w hf (St.j5 _ hn (j4 hC) hs)
theorem AP {E:fh} {ops:Array Oper} {Q:dj} {rest:List Oper} {D:g_} {L:dq} {C C1:List aA} (ix:List Nat) (hn:decide ix.Nodup=true) (hC:l0 C ix=some C1) (h:RJ E ops Q rest D L C1):RJ E ops Q rest D L C:=fun a w hf hs=>h a w hf (St.j5 _ hn (j4 hC) hs)
theorem rK {M A B:Type} {f:M→A→List B} {n:Nat} (h: ∀ m a,(f m a).length=n): ∀ {ms:List M} {asl:List A},∀ x∈List.zipWith f ms asl,x.length=n
 |[],asl,x,hx=>by simp at hx
 |m::ms,[],x,hx=>by simp at hx
 |m::ms,a::asl,x,hx=>by
  rw [List.zipWith_cons_cons] at hx
  rcases b_.1 hx with rfl|hx
  ·exact h m a
  ·exact rK h x hx
theorem FC (m:ak) (a:RA):(ak.cells m a).length=7:=rfl
theorem IW (m:List ak) (a:cD):(bW m a).length=1:=rfl
theorem PO (m:List Int) (a:RA):(tw m a).length=1:=rfl
end
section
open Go.RowKit
theorem F9 {E:fh} {c:Code} {Q:dj} {D:g_} {L:dq} {C C1:List aA} (X:List aA) (i1 i2:List Nat) (h1:l0 C i1=some X) (h2:l0 C i2=some C1) (h:WJ E c Q D L (bM X::C1)) (hn:decide (i1++i2).Nodup=true:=by rfl):WJ E c Q D L C:=fun a w hf hs=>h a w hf (St.tied (St.j5 _ hn (j4 (yc h1 h2)) hs))
def K_:List ak:=[o8,nj 2600 2600,nj 2580 2609]
def Sm:List ak:=[nj 2555 2559,nj 2540 2549,nj 2570 2575]
theorem Kx {p q s t u v x y:RA}:sQ qL.av [(p,[s,t,u]),(q,[v,x,y])]:=⟨rfl,fun k h a hk ha=>by
 match k with
 |0=>simp [qL] at hk ha; subst hk; subst ha; rfl
 |1=>simp [qL] at hk ha; subst hk; subst ha; rfl
 |n+2=>simp at ha⟩
theorem NB {bz:List RA} {hz:List cD} (h:ej ic bz) (hh:sQ qL.av hz):iF qL bz hz:=⟨h,dc,dc,dc,hh.1,fun k x a hx ha=>by
 have hm:=aM hx
 have hs:=hh.2 k x a hx ha
 simp only [qL,b_,List.not_mem_nil,or_false] at hm
 rcases hm with rfl|rfl
 ·exact ⟨dc,hs,dc⟩
 ·exact ⟨dc,hs,dc⟩⟩
theorem Qw {bz:List RA} {hz:List cD} (h:ej ic bz) (hh:sQ qL.av hz):gX ep bz hz:=⟨NB h hh,dc,dc,dc⟩
end
section
open Go.RowKit
theorem P1:o0 ep 0 0 0=0∧qb ep 0 0 0=1:=by
 have e:=uZ (j:=ep) (k:=0) (h:=0) (s:=0) (f:=⟨1,0,12600,13000⟩) (ht:=K_) (d:=o8) ov dc rfl rfl rfl
 exact ⟨e.2,e.1.trans El⟩
theorem Pa:o0 ep 1 0 0=0∧qb ep 1 0 0=2:=by
 have e:=uZ (j:=ep) (k:=1) (h:=0) (s:=0) (f:=⟨2,1,11003,11100⟩) (ht:=K_) (d:=o8) ov dc rfl rfl rfl
 exact ⟨e.2,e.1.trans QV⟩
theorem PY:o0 ep 3 0 0=0∧qb ep 3 0 0=0:=by
 have e:=uZ (j:=ep) (k:=3) (h:=0) (s:=0) (f:=⟨1,0,13000,14000⟩) (ht:=K_) (d:=o8) ov dc rfl rfl rfl
 exact ⟨e.2,e.1.trans Lf⟩
theorem PZ:uS ep 0=0∧v7 ep 0=0:=by
 have e:=Am (j:=ep) (i:=0) (p:=⟨2,0,0,0,72596⟩) ov dc rfl
 exact ⟨e.2,e.1.trans Lr⟩
theorem P5:uS ep 1=0∧v7 ep 1=2:=by
 have e:=Am (j:=ep) (i:=1) (p:=⟨5,0,0,1,72603⟩) ov dc rfl
 exact ⟨e.2,e.1.trans K2⟩
theorem Oa:kE ep=[0]:=(qj ov).trans xg
theorem Iy:dD ep=[[0],[]]:=(jz ov).trans Mu
theorem OL:z5 ep=500∧Al ep=1000:=⟨(xU ov).1.trans BL.1,(xU ov).2.trans BL.2⟩
theorem O3:rr ep 0=0∧tv ep 0= -1000:=⟨by unfold rr; rw [if_pos ov,if_pos dc],by unfold tv; rw [if_pos ⟨ov,dc⟩]; exact Hc⟩
end
section
theorem TN.sub {E:fh} {ops:Array Oper} {Q:dj} {D:g_} {C' C1 C:List aA} {tb rem:List Nat}: ∀ {n:Nat} {L L':dq},dp L L'→TN E ops D C' C1 (fun L C=>KJ E (Q .normal) D L C) tb n rem L' C→TN E ops D C' C1 (fun L C=>KJ E (Q .normal) D L C) tb n rem L C:=by
 intro n
 cases n with
 |zero=>intro L L' hs h; exact jB hs (fun _ h=>h) h
 |succ n=>intro L L' hs h i hi o ho K hK; exact OJ hs (fun _ h=>h) (h i hi o ho K hK)
theorem L_ {E:fh} {ops:Array Oper} {Q:dj} {D:g_} {C' C1 C:List aA} {bs:List Bool} {os:List Oper} {L:dq} {tb rem:List Nat} {n:Nat} {t:Nat} {b:Bool} (h:L.lookup t=some (.bool b))
 (h1:b=true→qM E ops D C' C1 (fun L'=>TN E ops D C' C1 (fun L C=>KJ E (Q .normal) D L C) tb n rem L' C) bs os ((t,.bool true)::L)) (h2:b=false→qM E ops D C' C1 (fun L'=>TN E ops D C' C1 (fun L C=>KJ E (Q .normal) D L C) tb n rem L' C) bs os ((t,.bool false)::L)):
 qM E ops D C' C1 (fun L'=>TN E ops D C' C1 (fun L C=>KJ E (Q .normal) D L C) tb n rem L' C) bs os L:=by
 have A: ∀ v:Bool,b=v→dp L ((t,.bool v)::L):=fun v hv=>dp.cons (hv▸h) (fun _ _ h=>h)
 cases b
 ·exact qM.mono (fun _ _=>TN.sub) (A _ U) (h2 U)
 ·exact qM.mono (fun _ _=>TN.sub) (A _ U) (h1 U)
theorem SV {E:fh} {ops:Array Oper} {Q:dj} {D:List Deferred} {L:List (Nat×Value)} {C1 C2 C:List aA} {t n:Nat} {b:Bool} {bs:List Bool} {os:List Oper} {tb rem:List Nat} (h:L.lookup t=some (.bool b)) (h2:b=false→qM E ops D C2 C1 (fun L2=>TN E ops D C2 C1 (fun L C=>KJ E (Q .normal) D L C) tb n rem L2 C) bs os ((t,.bool false)::L)) (h1:b=true→qM E ops D C2 C1 (fun L2=>TN E ops D C2 C1 (fun L C=>KJ E (Q .normal) D L C) tb n rem L2 C) bs os ((t,.bool true)::L)):qM E ops D C2 C1 (fun L2=>TN E ops D C2 C1 (fun L C=>KJ E (Q .normal) D L C) tb n rem L2 C) bs os L:=L_ h h1 h2
end
section
open Go.RowKit
section
variable {K:Type} [DecidableEq K] {kV:K→Value}
variable {E:fh} {ops:Array Oper} {Q:dj} {rest:List Oper} {D:List Deferred} {L:List (Nat×Value)} {C:List aA}
variable {ty:TypeId} {ps:String} {af:Array Edge} {g:Option (Nat×Bool)}
theorem tG {t kt et:TypeId} {xm xk:Operand} {ts:Array TypeId} {b:Nat} {x:K} {m m':List (K×Value)} {C':List aA} (i:Nat) (hg:j_ ops L g=true) (hm:ev L xm=some (.map (some b))) (hk:ev L xk=some (kV x)) (hts:ts[0]? =some t)
 (ht:E.P.underlying t=some (.map kt et)) (hkt:vR E.P kt kV) (hC:C[i]? =some (ku kV b m)) (hm':fz m x=m') (hC':C.set i (ku kV b m')=C') (k:RJ E ops Q rest D L C'):
 RJ E ops Q (⟨none,.call {callee:= .builtin .delete,args:= #[xm,xk],argTypes:=ts},ty,ps,af,g⟩::rest) D L C:=by
 subst hm' hC'
 intro a w A hs
 unfold s_
 rw [if_pos (eG A hg)]
 obtain ⟨es,c,he,hi⟩:=hs.holds _ (aM hC)
 have B:(getObj b).run E.P w= .ok (.map es c) w:=MapKept.run_getObj_map he
 rcases pf (P:=E.P) (w:=w) (x:=x) hkt hi with ⟨F,G⟩|⟨j,AA,F,G,H⟩
 ·refine jf (v:= .tuple #[]) (w':={w with heap:=w.heap.setIfInBounds b (.map es c)}) sm ?_ ?_
  ·simp [execOp,resolve,invoke,builtin,A.ev hm,A.ev hk,Builtin.delete_,hts,run_underlying ht,B,jg hkt,F,MapKept.run_setObj_map _ he]
  ·refine k _ _ ⟨A.defers,A.size,A.at_⟩ (hs.y_ (b:=b) i hC U U (ny _) (fun _ h=>h) ⟨_,_,pL he,?_⟩)
   rw [Dt G]; exact hi
 ·refine jf (v:= .tuple #[]) (w':={w with heap:=w.heap.setIfInBounds b (.map (es.eraseIdxIfInBounds j) c)}) sm ?_ ?_
  ·simp [execOp,resolve,invoke,builtin,A.ev hm,A.ev hk,Builtin.delete_,hts,run_underlying ht,B,jg hkt,F,MapKept.run_setObj_map _ he]
  ·exact k _ _ ⟨A.defers,A.size,A.at_⟩ (hs.y_ (b:=b) i hC U U (ny _) (fun _ h=>h) ⟨_,_,pL he,hi.del G⟩)
end
end
section
open Go.RowKit
section
variable {P:Program} {t:TypeId} {x y:Operand}
theorem qY {e:TypeId} {a:OA} {n c:Nat} (ht:P.underlying t=some (.slice e)):gY P .eql t x y (.slice a n c) (.slice none 0 0) (.bool (decide (a=none))):=fun w=>by
 have A:(Op.equal t (.slice a n c) (.slice none 0 0)).run P w= .ok (decide (a=none)) w:=by
  unfold Op.equal
  show (Op.equalIn (9999+1) t (.slice a n c) (.slice none 0 0)).run P w=_
  unfold Op.equalIn
  cases a<;>simp [run_underlying ht]
 have B:eqGuard .eql t x y (.slice a n c) (.slice none 0 0)=pure ():=rfl
 rw [B]
 show (Sem.run P (do let b ← Op.equal t (.slice a n c) (.slice none 0 0); pure (vB b)) w)=_
 simp [A]
end
section
variable {E:fh} {ops:Array Oper} {Q:dj} {rest:List Oper} {D:List Deferred} {L:List (Nat×Value)} {C:List aA}
variable {dst:Option Tmp} {d:Nat} {ty:TypeId} {ps:String} {af:Array Edge} {g:Option (Nat×Bool)}
/-- a row that lies nowhere is empty -/
theorem mK {a:OA} {n sz:Nat} {es:List (List Value)} (hR:fY C (rd a n sz es).holds) (ha:a=none) (hz:0<sz) (k:es=[]→RJ E ops Q rest D L C):RJ E ops Q rest D L C:=fun act w hf hs=>by
 refine k ?_ act w hf hs
 obtain ⟨F,G,B⟩:=hs.has hR
 rcases Nat.eq_zero_or_pos (n*sz) with h|h
 ·have:n=0:=by
   rcases Nat.mul_eq_zero.1 h with h|h
   ·exact h
   ·omega
  exact kx I
 ·obtain ⟨ad,A,_⟩:=B h
  rw [ha] at A; cases A
theorem NF {A:aA} (i:Nat) (h:C[i]? =some A.ro):fY C A.holds:=fun w hw=>by
 have B:=hw A.ro (aM h)
 exact B
end
end
section
open Go.RowKit
def qC (b:Bool):List Value:=[.bool b]
@[simp] theorem AD (b:Bool):(qC b).length=1:=rfl
theorem Hq (l:List Bool): ∀ v∈(l.map qC).flatten,v.oneCell'=true:=mP (fun s=>rfl) l
end
section
def l_ (r:eD) (i:Nat):Prop:= ∀ (j:Nat) x,j<i→r.av[j]? =some x→ ¬ pJ x
def nz (x:List ak) (i:Nat):Prop:= ∀ (j:Nat) d,j<i→x[j]? =some d→ ¬ 15<(d.aY.aa.length:Int)
section
variable {r:eD} {i:Nat} {x:List ak} {d:ak}
theorem BC:l_ r 0:=fun j x hj=>absurd hj (Nat.not_lt_zero _)
theorem Cm (h:l_ r i) (hx:r.av[i]? =some x) (ho: ¬ pJ x):l_ r (i+1):=fun j y hj hy=>by
 rcases Nat.lt_or_ge j i with q|q
 ·exact h j y q hy
 ·obtain rfl:j=i:=by omega
  rw [hx] at hy; cases hy; exact ho
theorem Bv:nz x 0:=fun j x hj=>absurd hj (Nat.not_lt_zero _)
theorem Cl (h:nz x i) (hx:x[i]? =some d) (ho: ¬ 15<(d.aY.aa.length:Int)):nz x (i+1):=fun j y hj hy=>by
 rcases Nat.lt_or_ge j i with q|q
 ·exact h j y q hy
 ·obtain rfl:j=i:=by omega
  rw [hx] at hy; cases hy; exact ho
theorem D8 (hl: ¬ 8<(x.length:Int)) (h:nz x i) (hi:x.length≤i): ¬ pJ x:=by
 rintro (q|⟨d,hd,q⟩)
 ·exact hl q
 ·obtain ⟨j,hj⟩:=List.getElem?_of_mem hd
  exact h j d (by have:=(bf.1 hj).1; omega) hj q
theorem Gz (h1: ¬ mm r.ao) (h2: ¬ 8<(r.aV.length:Int)∧ ¬ 8<(r.bV.length:Int)∧ ¬ 5<(r.av.length:Int)) (h:l_ r i) (hi:r.av.length≤i): ¬ lT r:=by
 rintro ((q|q)|⟨x,hx,q⟩)
 ·exact h1 q
 ·omega
 ·obtain ⟨j,hj⟩:=List.getElem?_of_mem hx
  exact h j x (by have:=(bf.1 hj).1; omega) hj q
theorem p6 (h:mm r.ao∨8<(r.aV.length:Int)∨8<(r.bV.length:Int)∨5<(r.av.length:Int)):lT r:= .inl h
theorem Bz (hx:r.av[i]? =some x) (h:8<(x.length:Int)):lT r:= .inr ⟨x,aM hx,.inl h⟩
theorem EH {j:Nat} (hx:r.av[i]? =some x) (hd:x[j]? =some d) (h:15<(d.aY.aa.length:Int)):lT r:= .inr ⟨x,aM hx,.inr ⟨d,aM hd,h⟩⟩
end
noncomputable def o_ (l:bH) (d:ak):ai:=if d.Out=true then eQ else fX l d
theorem JN {l:bH} {d:ak} (h:iW l d):o_ l d=fX l d:=by
 unfold o_
 split
 ·rename_i q
  rw [FV q]
  rw [rO q] at h
  exact h.2.1.symm
 ·rfl
theorem Ao {l:bH} {d:ak} (h:d.Out=true):o_ l d=eQ:=if_pos h
theorem FW {l:bH} {d:ak} (h:d.Out=false∧d.cJ=true):o_ l d=d.Time:=by unfold o_; rw [if_neg (by rw [h.1]; decide),Aw h]
theorem Fl {l:bH} {d:ak} (h:d.Out=false∧d.cJ=false):o_ l d=AF l d.aY:=by unfold o_; rw [if_neg (by rw [h.1]; decide),Fk h]
def SZ (r:eD) (j:Nat):Prop:= ∀ x,r.aV[j]? =some x→(0≤x∧x≤9999)∧ ∀ y,0<j→r.aV[j-1]? =some y→y<x
def IQ (r:eD) (j:Nat):Prop:= ∀ x,r.bV[j]? =some x→(0≤x∧x≤(r.aV.length:Int)-1)∧ ∀ (k:Nat) y,k<j→r.bV[k]? =some y→y≠x
def yq (r:eD) (i:Nat):Prop:= ∀ j,j<i→SZ r j∧IQ r j
section
variable {r:eD} {i k:Nat} {x:Int}
theorem JS:yq r 0:=fun j hj=>absurd hj (Nat.not_lt_zero _)
theorem Ca (h:yq r i) (h1:SZ r i) (h2:IQ r i):yq r (i+1):=fun j hj=>by
 rcases Nat.lt_or_ge j i with q|q
 ·exact h j q
 ·obtain rfl:j=i:=by omega
  exact ⟨h1,h2⟩
theorem xp {l:List Int} {u v:Int} (h: ∀ (q:Nat) y,q<k→l[q]? =some y→y≠v) (hx:l[k]? =some u) (hne: ¬ u=v): ∀ (q:Nat) y,q<k+1→l[q]? =some y→y≠v:=fun q y hq hy=>by
 rcases Nat.lt_or_ge q k with c|c
 ·exact h q y c hy
 ·obtain rfl:q=k:=by omega
  rw [hx] at hy; cases hy; exact hne
theorem Kv (hl:r.bV.length=r.aV.length) (h:yq r r.aV.length):r.bV.Perm (Gv r.aV.length):=by
 have nd:r.bV.Nodup:=by
  rw [List.nodup_iff_pairwise_ne,e9]
  intro a b ha hb A
  exact ((h b I).2 _ (fV hb)).2 a _ A (fV ha)
 have hm: ∀ x∈r.bV,x∈Gv r.aV.length:=fun x hx=>by
  obtain ⟨j,hj⟩:=List.getElem?_of_mem hx
  have:=((h j (by have:=(bf.1 hj).1; omega)).2 x hj).1
  exact db.2 ⟨x.toNat,List.mem_range.2 I,I⟩
 have ndu:(Gv r.aV.length).Nodup:=by
  unfold Gv
  rw [List.nodup_iff_pairwise_ne,List.pairwise_map]
  exact List.pairwise_lt_range.imp fun h=>by omega
 have e:nH r.bV=(Gv r.aV.length).filter fun x=>decide (x∈r.bV):=by
  refine HC tS ((xS _).filter _) (mg.nodup_iff.2 nd) (ndu.filter _) fun x=>?_
  rw [mg.mem_iff,List.mem_filter,decide_eq_true_eq]
  exact ⟨fun q=>⟨hm x q,q⟩,fun q=>q.2⟩
 have B:=congrArg List.length e
 rw [uV,hl] at B
 have C:(Gv r.aV.length).filter (fun x=>decide (x∈r.bV))=Gv r.aV.length:=List.filter_sublist.eq_of_length (by rw [← B]; simp)
 rw [C] at e
 rw [← e]; exact mg.symm
theorem GZ {n:Nat} (h1:1≤(r.aV.length:Int)∧(r.aV.length:Int)≤5) (h2:r.bV.length=r.aV.length) (h3:0≤r.j9∧r.j9≤5) (h4:1≤(r.av.length:Int)∧(r.av.length:Int)≤3)
 (hn:n=r.aV.length) (h6:yq r n) (h7:kz r i) (hi:r.av.length≤i):fD r:=by
 subst hn
 refine ⟨h1,h3,h4,fun k x hx=>(h6 k (bf.1 hx).1).1 x hx,Kv h2 h6,fun h hh=>?_⟩
 obtain ⟨j,hj⟩:=List.getElem?_of_mem hh
 exact h7 j h (by have:=(bf.1 hj).1; omega) hj
theorem fD.Kw (h:fD r) (hx:r.bV[i]? =some x):0≤x∧x≤(r.aV.length:Int)-1:=by
 obtain ⟨k,hk,rfl⟩:=db.1 (h.draw.mem_iff.1 (aM hx))
 have:=List.mem_range.1 hk
 omega
theorem fD.Qh (h:fD r):r.bV.Nodup:=by
 refine h.draw.nodup_iff.2 ?_
 rw [List.nodup_iff_pairwise_ne,List.pairwise_map]
 exact List.pairwise_lt_range.imp fun h=>by omega
theorem fD.O8 (h:fD r) {u v:Int} (hki:k<i) (hu:r.bV[k]? =some u) (hv:r.bV[i]? =some v): ¬ u=v:=by
 have A:=h.Qh
 rw [List.nodup_iff_pairwise_ne,e9] at A
 obtain ⟨a,ea⟩:=bf.1 hu
 obtain ⟨b,eb⟩:=bf.1 hv
 subst ea eb
 exact A k i a b hki
end
section
variable {r:eD} {i k n:Nat} {s:ai} {l:bH} {hs:List (List ak)}
end
section
variable {r:eD} {i x:Int} {own s:ai} {k:Nat} {ys zs:List Int}
end
section
variable {B:List Bool} {P Q:Int→Prop} {k x:Nat} {m:Ct} {i y a b:Int} {ys:List Int}
end
end
section
open Go.RowKit
theorem o2 (n lo hi:Int):
 dB Tryz.prog 155 [(vI n),(vI lo),(vI hi)] [] (vB (decide (lo≤n∧n≤hi))):=by
 refine bJ kr Tryz.func155 U U fun D Q hQ hN=>?_
 try dsimp only
 refine WS fun _ B=>bI 1 U<|RK B<|WS fun _ A=>rP 4 [] mn ?_
 refine bT (t:=10) U (aT fun C=>?_) (aU fun C=>?_)
 ·refine rP 5 [] mn ?_
  refine RK A<|ar<|Q1 hQ U U U ?_
  exact cB (gU.2 I)
 refine rP 5 [] mn ?_
 refine RK A<|ar<|Q1 hQ U U U ?_
 exact cB (bj I).symm
theorem pW (s:ai) (lo hi:Int):
 dB Tryz.prog 156 [(vA (ai.cells s)),(vI lo),(vI hi)] [] (vB (decide (s.Lo≤s.Hi∧lo≤s.Lo∧s.Hi≤hi))):=by
 refine bJ kr Tryz.func156 U U fun E Q hQ hN=>?_
 try dsimp only
 refine WS fun _ B=>eJ U fun D=>bI 1 U<|RK B<|WS fun _ A=>eV 5 [] (mc 0 U mn) U<|rS (CL (o2 s.Lo lo s.Hi) (aL) U)<|rP 1 [] mn ?_
 refine cG (t:=13) U (aU fun C=>?_) (aT fun C=>?_)
 ·refine rP 6 [] mn ?_
  refine RK A<|ar<|Q1 hQ U U U ?_
  exact cB (bj I).symm
 refine rP 6 [] (mc 0 U mn) ?_
 refine RK A<|ar<|Q1 hQ U U U ?_
 exact cB (gU.2 I)
theorem Nv (t:List au) (tA:OA) (tC:Nat):
 dB Tryz.prog 100 [(vA (bL.cells (bL.mk (bE.mk tA t.length tC))))] [(rd tA t.length 9 (t.map au.cells))] (vB (decide (20<(t.length:Int)))):=by
 refine bJ kr Tryz.func100 U U fun D Q hQ hN=>?_
 try dsimp only
 refine WS fun _ A=>eJ U fun C=>bI 1 U<|RK A<|WS fun _ B=>rP 5 [] (mc 0 U mn) ?_
 refine RK B<|ar ?_
 exact Q1 hQ U U U U
theorem Mi (l:List Int) (lA:OA) (lC:Nat) (f:Value) (p:Int→Bool) (X:aA) (hf: ∀ x0,x0∈l→D4 Tryz.prog f [.int .i64 x0] [X] (.bool (p x0))) (hlen:l.length≤1000000):
 dB Tryz.prog 104 [(vS lA l.length lC),f] [(rd lA l.length 1 (l.map iC)),X] (vI (sU p l)):=by
 refine bJ kr Tryz.func104 U U fun R Q hQ hN=>?_
 try dsimp only
 refine WS fun _ G=>bI 1 U<|RK G<|aq fun _ H=>WS fun _ AA=>rP 3 [] mn ?_
 refine RK AA<|aH ?_
 have B:(0≤l.length)∧((l.take 0).any p=false):=by simp
 refine bS (ι:={z:Nat // (z≤l.length)∧((l.take z).any p=false)}) [0,1,7] [0,1] U U (fun z=>[(8,(vI (z.1:Int)))]) (fun z=>[]) (fun _=>rfl) (fun _=>rfl) (fun z=>l.length-z.1) ⟨0,B⟩ (bD U) (aR [0,1]) ?_
 clear B
 rintro ⟨i,⟨N,A⟩⟩ J4 F
 try dsimp only
 refine WS fun _ J=>rP 1 [] mn ?_
 refine RK J<|aq fun _ K=>bR U (aU fun P=>?_) (aT fun P=>?_)
 ·refine bQ<|ag<|ag<|aI<|KK H<|WS fun _ E=>rP 1 [] mn ?_
  refine RK E<|ar<|Q1 hQ U U U ?_
  exact cI (qe I A).symm
 refine WK K<|aq fun _ L=>aH<|WS fun _ M=>bI 2 U<|RK M<|WS fun _ C=>rP 3 [] mn ?_
 obtain ⟨x,hx⟩:=aC l i I
 have O:=bO iC hx
 refine rS (IA i U (ay 0 U) dy dc I I)<|rS (gD i 0 (vI x) U bU (ay 0 U) O U dc U)<|rS (SX (qi U U U (hf x (aM hx)) (bo [1])) U U)<|RK C<|ck U (fun hp=>?_) (fun hp=>?_)
 ·refine WS fun _ D=>rP 2 [] mn ?_
  refine RK D<|ar<|Q1 hQ U U U ?_
  exact cI (uY hx hp A).symm
 refine cj<|aP<|KK L<|aw<|rP 2 [] mn ?_
 refine aK ?_
 refine bu (F ⟨(i+1),⟨I,ug hx A hp⟩⟩ _ _ _ U os (bD U) (aR [0,1]))
theorem qd (l:List Int) (lA:OA) (lC:Nat) (f:Value) (p:Int→Bool) (X:aA) (hf: ∀ x0,x0∈l→D4 Tryz.prog f [.int .i64 x0] [X] (.bool (p x0))) (hlen:l.length≤1000000):
 dB Tryz.prog 76 [(vS lA l.length lC),f] [(rd lA l.length 1 (l.map iC)),X] (vB (l.any p)):=by
 refine bJ kr Tryz.func76 U U fun C Q hQ hN=>?_
 try dsimp only
 refine WS fun _ A=>bI 1 U<|RK A<|WS fun _ B=>bI 2 U<|rS (CL (Mi l lA lC f p X (by exact hf) hlen) (bo [0,1]) U)<|rP 2 [] mn ?_
 refine RK B<|ar<|Q1 hQ U U U ?_
 exact cB sI
theorem HO (n lo hi:Int) (g1 g2:Nat):
 dB Tryz.prog 163 [(vI n),(vP g1),(vP g2)] [(cz g1 3 [(vI lo)]),(cz g2 3 [(vI hi)])] (vB (decide (n<lo∨hi<n))):=by
 refine bJ kr Tryz.func163 U U fun D Q hQ hN=>?_
 try dsimp only
 refine WS fun _ B=>bI 1 U<|RK B<|WS fun _ A=>rP 4 [] (mr 0 U mn) ?_
 refine bT (t:=8) U (aT fun C=>?_) (aU fun C=>?_)
 ·refine rP 5 [] mn ?_
  refine RK A<|ar<|Q1 hQ U U U ?_
  exact cB (cO I).symm
 refine rP 5 [] (mr 1 U mn) ?_
 refine RK A<|ar<|Q1 hQ U U U ?_
 exact cB (gU.2 I)
theorem px (lo hi:Int) (l:List Int) (lA:OA) (lC:Nat) (hlen:l.length≤1000000):
 dB Tryz.prog 130 [(vI lo),(vI hi),(vS lA l.length lC)] [(rd lA l.length 1 (l.map iC))] (vB (o5 lo hi l)):=by
 refine bJ kr Tryz.func130 U U fun F Q hQ hN=>?_
 try dsimp only
 refine WS fun _ D=>wM U U fun A=>wM U U fun B=>bI 1 U<|RK D<|WS fun _ E=>rP 1 [] mn ?_
 refine rS (FU U) ?_
 refine rS (CL (qd l lA lC (Value.func (.func 163) [].toArray [(vP A),(vP B)].toArray) (fun C=>(decide (C<lo∨hi<C))) (dE [(cz A 3 [(vI lo)]),(cz B 3 [(vI hi)])]) (by intro C _; exact k7 (fi:=[]) (ca:=[(vP A),(vP B)]) (j1 (HO C lo hi A B) (bo [0,1]))) hlen) (dM 2 U U<|aD (jZ (bo [1,0]))<|aL) U) ?_
 refine rP 2 [] mn ?_
 refine RK E<|ar ?_
 exact Q1 hQ U U U U
theorem wJ (s:ai) (lo hi:Int):
 dB Tryz.prog 131 [(vA (ai.cells s)),(vI lo),(vI hi)] [] (vB (decide (s.Lo≤s.Hi∧lo≤s.Lo∧s.Hi≤hi))):=by
 refine bJ kr Tryz.func131 U U fun F Q hQ hN=>?_
 try dsimp only
 refine WS fun _ B=>eJ U fun E=>bI 1 U<|RK B<|WS fun _ A=>rP 6 [] (mc 0 U mn) ?_
 refine ew (xs:=[.tmp 10,.tmp 12]) (cs:=[(vI s.Lo),(vI s.Hi)]) U dy j7 U U U U (by simp [Value.cells]) U U fun C=>?_
 refine rS (CL (dB.eq (px lo hi ([s.Lo,s.Hi]) (some ⟨C,0,none⟩) 2 (by (simp; done))) pw) (aD (bx 0 U U (by simp [bP]) U)<|aL) U) ?_
 refine rP 1 [] mn ?_
 refine cG (t:=15) U (aU fun D=>?_) (aT fun D=>?_)
 ·refine rP 7 [] mn ?_
  refine RK A<|ar<|Q1 hQ U U U ?_
  exact cB (bj I).symm
 refine rP 7 [] (mc 1 U mn) ?_
 refine RK A<|ar<|Q1 hQ U U U ?_
 exact cB (gU.2 I)
theorem wL (ts:List au) (tsA:OA) (tsC:Nat) (hlen:ts.length≤1000000):
 dB Tryz.prog 126 [(vA (bL.cells (bL.mk (bE.mk tsA ts.length tsC))))] [(rd tsA ts.length 9 (ts.map au.cells))] (vB (du ts)):=by
 refine bJ kr Tryz.func126 U U fun w0 Q hQ hN=>?_
 try dsimp only
 refine WS fun _ Di=>eJ U fun b2=>bI 1 U<|RK Di<|aq fun _ Dj=>WS fun _ Do=>eV 3 [] (mc 0 U mn) U<|rS (CL (o2 (ts.length:Int) 1 12) (aL) U)<|rP 1 [] mn ?_
 refine RK Do<|ck U (aX fun h5=>?_) (aW fun h5=>?_)
 ·refine WS fun _ EQ=>rP 1 [] mn ?_
  refine RK EQ<|ar<|Q1 hQ U U U ?_
  exact cB (ox I).symm
 refine WK Dj<|aq fun _ Eq=>WS fun _ FQ=>rP 1 [] mn ?_
 refine RK FQ<|aH ?_
 have E:(0≤ts.length)∧(eY (-1) ts=eY (gK ts 0) (ts.drop 0))∧(-1≤gK ts 0):=by (refine ⟨I,rfl,by simp [gK]⟩)
 refine bS (ι:={z:Nat // (z≤ts.length)∧(eY (-1) ts=eY (gK ts z) (ts.drop z))∧(-1≤gK ts z)}) [1] [0,1] U U (fun z=>[(3,(vI (z.1:Int)))]) (fun z=>[]) (fun _=>rfl) (fun _=>rfl) (fun z=>ts.length-z.1) ⟨0,E⟩ (bD U) (aR [0,1]) ?_
 clear E
 rintro ⟨i,⟨FS,A,Fd⟩⟩ J9 D
 try dsimp only
 have hz:i=0→gK ts i= -1:=CN
 refine aq fun _ K=>WS fun _ L=>rP 5 [] (mc 0 U mn) ?_
 refine RK L<|bR U (aU fun v=>?_) (aT fun v=>?_)
 ·refine bQ<|ag<|ag<|aI<|KK Eq<|WS fun _ u=>rP 1 [] mn ?_
  refine RK u<|ar<|Q1 hQ U U U ?_
  exact cB (wh A I I).symm
 refine WK K<|aq fun _ C=>aH<|WS fun _ M=>rP 3 [] (mc 0 U mn) ?_
 obtain ⟨x,hx⟩:=aC ts i I
 have Fn:=bO au.cells hx
 refine rS (IA i U (ay 1 U) wG dc I I)<|rS (jD i 0 (au.cells x) U bU (ay 1 U) Fn U dc U U)<|AL U E2 fun GT=>eN U IG U<|RK M<|aq fun _ F=>aq fun _ B=>cW cg 38 kr<|kv 2 [] (mc 0 U mn) U<|dS (CL (o2 x.Id 0 9999) (aL) U)<|dP 2 [] mn ?_
 refine gP (t:=26) U (aX fun w=>?_) (aW fun w=>?_)
 ·refine kR 11 U<|kR 22 U<|cx<|RK B<|aN U<|WS fun _ N=>rP 1 [] mn ?_
  refine RK N<|ar<|Q1 hQ U U U ?_
  exact cB (dZ A hx (by simp only [bZ,ei]; omega)).symm
 refine dP 3 [] mn ?_
 refine hP (t:=29) U (aU fun AC=>?_) (aT fun AC=>?_)
 ·refine kR 8 U<|kR 6 U<|dS (LP (ai.cells x.jJ) 0 U bU U U U)<|dS (CL (pW x.jJ 1 30000) (aL) U)<|dP 3 [] mn ?_
  refine gP (t:=48) U (aX fun B3=>?_) (aW fun B3=>?_)
  ·refine kR 11 U<|cx<|RK B<|aN U<|WS fun _ e=>rP 1 [] mn ?_
   refine RK e<|ar<|Q1 hQ U U U ?_
   exact cB (dZ A hx (by simp only [bZ,ei]; omega)).symm
  refine kR 1 U<|dS (LP (ai.cells x.kK) 0 U bU U U U)<|dS (CL (pW x.kK 0 5000) (aL) U)<|dP 3 [] mn ?_
  refine gP (t:=54) U (aX fun B9=>?_) (aW fun B9=>?_)
  ·refine kR 5 U<|cx<|RK B<|aN U<|WS fun _ f=>rP 1 [] mn ?_
   refine RK f<|ar<|Q1 hQ U U U ?_
   exact cB (dZ A hx (by simp only [bZ,ei]; omega)).symm
  refine kv 2 [] (mc 0 U mn) U<|dS (CL (o2 x.yF 0 5000) (aL) U)<|dP 2 [] mn ?_
  refine cx<|RK B<|ck U (aX fun CC=>?_) (aW fun CC=>?_)
  ·refine WS fun _ g=>rP 1 [] mn ?_
   refine RK g<|ar<|Q1 hQ U U U ?_
   exact cB (dZ A hx (by simp only [bZ,ei]; omega)).symm
  refine WK F<|WS fun _ h=>eV 2 [] (mc 0 U mn) U<|RK h<|aH<|WS fun _ j=>rS (BI U m8)<|rP 1 [] mn ?_
  refine RK j<|ck U (aT fun Ci=>?_) (aU fun Ci=>?_)
  ·refine WS fun _ AB=>rP 5 [] (mc 0 U mn) ?_
   refine bT (t:=68) U (aX fun Ck=>?_) (aW fun Ck=>?_)
   ·refine bI 5 U<|RK AB<|aN U<|WS fun _ k=>rP 1 [] mn ?_
    refine RK k<|ar<|Q1 hQ U U U ?_
    exact cB (dZ A hx (by simp only [bZ,ei]; omega)).symm
   refine rP 5 [] (mc 0 U mn) ?_
   refine RK AB<|bR U (aW fun Cp=>?_) (aX fun Cp=>?_)
   ·refine cj<|aP<|aP<|KK C<|aw<|rP 3 [] mn ?_
    refine aK ?_
    refine bu (D ⟨(i+1),⟨I,hZ A hx (by simp only [bZ,ei]; omega),by rw [gE hx]; omega⟩⟩ _ _ _ U os (bD U) (aR [1,2]))
   refine WS fun _ l=>rP 1 [] mn ?_
   refine RK l<|ar<|Q1 hQ U U U ?_
   exact cB (dZ A hx (by simp only [bZ,ei]; omega)).symm
  refine aq fun _ J=>WS fun _ m=>rS (BI U m8)<|rP 1 [] mn ?_
  refine RK m<|ck U (aT fun Cx=>?_) (aU fun Cx=>?_)
  ·refine WK J<|bR U (aU fun C0=>?_) (aT fun C0=>?_)
   ·refine WS fun _ p=>rP 1 [] mn ?_
    refine RK p<|ar<|Q1 hQ U U U ?_
    exact cB (ox I).symm
   refine WS fun _ n=>bI 1 U<|rS (LP (ai.cells x.dY) 0 U bU U U U)<|rS (CL (pW x.dY 500 20000) (aL) U)<|rP 1 [] mn ?_
   refine RK n<|bR U (aW fun C1=>?_) (aX fun C1=>?_)
   ·refine cj<|aP<|aP<|KK C<|aw<|rP 3 [] mn ?_
    refine aK ?_
    refine bu (D ⟨(i+1),⟨I,hZ A hx (by simp only [bZ,ei]; omega),by rw [gE hx]; omega⟩⟩ _ _ _ U os (bD U) (aR [1,2]))
   refine WS fun _ o=>rP 1 [] mn ?_
   refine RK o<|ar<|Q1 hQ U U U ?_
   exact cB (dZ A hx (by simp only [bZ,ei]; omega)).symm
  refine aw<|rS (BI U m8)<|rP 1 [] mn ?_
  refine RK J<|bR U (aU fun C2=>?_) (aT fun C2=>?_)
  ·refine WS fun _ s=>rP 1 [] mn ?_
   refine RK s<|ar<|Q1 hQ U U U ?_
   exact cB (dZ A hx (by simp only [bZ,ei]; omega)).symm
  refine WS fun _ q=>bI 1 U<|rS (LP (ai.cells x.dY) 0 U bU U U U)<|rS (CL (pW x.dY 500 20000) (aL) U)<|rP 1 [] mn ?_
  refine RK q<|bR U (aW fun C3=>?_) (aX fun C3=>?_)
  ·refine cj<|aP<|aP<|KK C<|aw<|rP 3 [] mn ?_
   refine aK ?_
   refine bu (D ⟨(i+1),⟨I,hZ A hx (by simp only [bZ,ei]; omega),by rw [gE hx]; omega⟩⟩ _ _ _ U os (bD U) (aR [1,2]))
  refine WS fun _ r=>rP 1 [] mn ?_
  refine RK r<|ar<|Q1 hQ U U U ?_
  exact cB (dZ A hx (by simp only [bZ,ei]; omega)).symm
 refine dP 6 [0,1] (mc 0 U (mc 1 U mn)) ?_
 obtain ⟨y,hy⟩:=aC ts (i-1) I
 have GE:=bO au.cells hy
 refine dS (IA (i-1) U (ay 2 U) wG dc I I)<|dS (pO ((i-1)*9) U (ay 2 U) (Nat.mul_pos I dc) eU U) ?_
 have Hi:=Eh I hy
 refine dS (gD (i-1) 0 (vI y.Id) U bU (ay 2 U) GE U dc U)<|dP 4 [] mn ?_
 refine gP (t:=42) U (aT fun AK=>?_) (aU fun AK=>?_)
 ·refine kR 17 U<|cx<|RK B<|aN U<|WS fun _ O=>rP 1 [] mn ?_
  refine RK O<|ar<|Q1 hQ U U U ?_
  exact cB (dZ A hx (by simp only [bZ,ei]; omega)).symm
 refine kR 1 U<|dS (LP (ai.cells x.jJ) 0 U bU U U U)<|dS (CL (pW x.jJ 1 30000) (aL) U)<|dP 3 [] mn ?_
 refine gP (t:=48) U (aX fun AO=>?_) (aW fun AO=>?_)
 ·refine kR 11 U<|cx<|RK B<|aN U<|WS fun _ P=>rP 1 [] mn ?_
  refine RK P<|ar<|Q1 hQ U U U ?_
  exact cB (dZ A hx (by simp only [bZ,ei]; omega)).symm
 refine kR 1 U<|dS (LP (ai.cells x.kK) 0 U bU U U U)<|dS (CL (pW x.kK 0 5000) (aL) U)<|dP 3 [] mn ?_
 refine gP (t:=54) U (aX fun A0=>?_) (aW fun A0=>?_)
 ·refine kR 5 U<|cx<|RK B<|aN U<|WS fun _ R=>rP 1 [] mn ?_
  refine RK R<|ar<|Q1 hQ U U U ?_
  exact cB (dZ A hx (by simp only [bZ,ei]; omega)).symm
 refine kv 2 [] (mc 0 U mn) U<|dS (CL (o2 x.yF 0 5000) (aL) U)<|dP 2 [] mn ?_
 refine cx<|RK B<|ck U (aX fun A1=>?_) (aW fun A1=>?_)
 ·refine WS fun _ S=>rP 1 [] mn ?_
  refine RK S<|ar<|Q1 hQ U U U ?_
  exact cB (dZ A hx (by simp only [bZ,ei]; omega)).symm
 refine WK F<|WS fun _ T=>eV 2 [] (mc 0 U mn) U<|RK T<|aH<|WS fun _ AA=>rS (BI U m8)<|rP 1 [] mn ?_
 refine RK AA<|ck U (aT fun A2=>?_) (aU fun A2=>?_)
 ·refine WS fun _ G=>rP 5 [] (mc 0 U mn) ?_
  refine bT (t:=68) U (aX fun A3=>?_) (aW fun A3=>?_)
  ·refine bI 5 U<|RK G<|aN U<|WS fun _ V=>rP 1 [] mn ?_
   refine RK V<|ar<|Q1 hQ U U U ?_
   exact cB (dZ A hx (by simp only [bZ,ei]; omega)).symm
  refine rP 5 [] (mc 0 U mn) ?_
  refine RK G<|bR U (aW fun A4=>?_) (aX fun A4=>?_)
  ·refine cj<|aP<|aP<|KK C<|aw<|rP 3 [] mn ?_
   refine aK ?_
   refine bu (D ⟨(i+1),⟨I,hZ A hx (by simp only [bZ,ei]; omega),by rw [gE hx]; omega⟩⟩ _ _ _ U os (bD U) (aR [1,2]))
  refine WS fun _ W=>rP 1 [] mn ?_
  refine RK W<|ar<|Q1 hQ U U U ?_
  exact cB (dZ A hx (by simp only [bZ,ei]; omega)).symm
 refine aq fun _ H=>WS fun _ X=>rS (BI U m8)<|rP 1 [] mn ?_
 refine RK X<|ck U (aT fun A5=>?_) (aU fun A5=>?_)
 ·refine WK H<|bR U (aU fun A6=>?_) (aT fun A6=>?_)
  ·refine WS fun _ a=>rP 1 [] mn ?_
   refine RK a<|ar<|Q1 hQ U U U ?_
   exact cB (ox I).symm
  refine WS fun _ Y=>bI 1 U<|rS (LP (ai.cells x.dY) 0 U bU U U U)<|rS (CL (pW x.dY 500 20000) (aL) U)<|rP 1 [] mn ?_
  refine RK Y<|bR U (aW fun A7=>?_) (aX fun A7=>?_)
  ·refine cj<|aP<|aP<|KK C<|aw<|rP 3 [] mn ?_
   refine aK ?_
   refine bu (D ⟨(i+1),⟨I,hZ A hx (by simp only [bZ,ei]; omega),by rw [gE hx]; omega⟩⟩ _ _ _ U os (bD U) (aR [1,2]))
  refine WS fun _ Z=>rP 1 [] mn ?_
  refine RK Z<|ar<|Q1 hQ U U U ?_
  exact cB (dZ A hx (by simp only [bZ,ei]; omega)).symm
 refine aw<|rS (BI U m8)<|rP 1 [] mn ?_
 refine RK H<|bR U (aU fun A8=>?_) (aT fun A8=>?_)
 ·refine WS fun _ d=>rP 1 [] mn ?_
  refine RK d<|ar<|Q1 hQ U U U ?_
  exact cB (dZ A hx (by simp only [bZ,ei]; omega)).symm
 refine WS fun _ b=>bI 1 U<|rS (LP (ai.cells x.dY) 0 U bU U U U)<|rS (CL (pW x.dY 500 20000) (aL) U)<|rP 1 [] mn ?_
 refine RK b<|bR U (aW fun A9=>?_) (aX fun A9=>?_)
 ·refine cj<|aP<|aP<|KK C<|aw<|rP 3 [] mn ?_
  refine aK ?_
  refine bu (D ⟨(i+1),⟨I,hZ A hx (by simp only [bZ,ei]; omega),by rw [gE hx]; omega⟩⟩ _ _ _ U os (bD U) (aR [1,2]))
 refine WS fun _ c=>rP 1 [] mn ?_
 refine RK c<|ar<|Q1 hQ U U U ?_
 exact cB (dZ A hx (by simp only [bZ,ei]; omega)).symm
theorem Bw (ts:List au) (tsA:OA) (tsC:Nat) (hlen:ts.length≤1000000) (hside: ∀ x∈ts,0≤x.iU∧x.iU≤255):
 dB Tryz.prog 107 [(vA (bL.cells (bL.mk (bE.mk tsA ts.length tsC))))] [(rd tsA ts.length 9 (ts.map au.cells))] (vI (if du ts=true then 0 else 10)):=by
 refine bJ kr Tryz.func107 U U fun w0 Q hQ hN=>?_
 try dsimp only
 refine WS fun _ v=>eJ U fun b2=>bI 1 U<|RK v<|AW U<|aq fun _ w=>WS fun _ y=>rP 3 [] (mc 0 U mn) ?_
 refine ew (xs:=[.tmp 11]) (cs:=[(vI (ts.length:Int))]) U dy j7 U U U U (by simp [Value.cells]) U U fun b5=>?_
 refine rS (CL (dB.eq (px 1 12 ([(ts.length:Int)]) (some ⟨b5,0,none⟩) 1 (by (simp; done))) cy) (aD (bx 0 U U (by simp [bP]) U)<|aL) U) ?_
 refine rP 1 [] mn ?_
 refine RK y<|ck U (aX fun h6=>?_) (aW fun h6=>?_)
 ·refine WS fun _ AC=>rP 1 [] mn ?_
  refine RK AC<|ar<|Q1 hQ U U U ?_
  exact cI (if_neg (by rw [ox I]; decide)).symm
 refine WK w<|WS fun _ AK=>bI 1 U<|RK AK<|WS fun _ AO=>bI 1 U<|RK AO<|aq fun _ J=>Ab<|KK J<|aq fun _ B=>WS fun _ K=>rP 4 [] (mc 1 U mn) ?_
 refine RK K<|aH ?_
 have D:(0≤ts.length)∧(eY (-1) ts=eY (gK ts 0) (ts.drop 0))∧(-1≤gK ts 0)∧(gK ts 0≤9999):=by (refine ⟨I,rfl,by simp [gK],by simp [gK]⟩)
 refine bS (ι:={z:Nat // (z≤ts.length)∧(eY (-1) ts=eY (gK ts z) (ts.drop z))∧(-1≤gK ts z)∧(gK ts z≤9999)}) [1,4,16,17] [1,2] U U (fun z=>[(3,(vI (gK ts z.1))),(18,(vI (z.1:Int)))]) (fun z=>[]) (fun _=>rfl) (fun _=>rfl) (fun z=>ts.length-z.1) ⟨0,D⟩ (bD U) (aR [1,2]) ?_
 clear D
 rintro ⟨i,⟨A0,A,A1,A2⟩⟩ J13 E
 try dsimp only
 refine WS fun _ L=>rP 1 [] mn ?_
 refine RK L<|aq fun _ M=>bR U (aU fun k=>?_) (aT fun k=>?_)
 ·refine bQ<|ag<|ag<|aI<|KK B<|WS fun _ O=>rP 2 [] mn ?_
  refine RK O<|ar<|Q1 hQ U U U ?_
  exact cI (if_pos (wh A I I)).symm
 refine WK M<|aq fun _ F=>aH<|WS fun _ N=>?_
 obtain ⟨x,hx⟩:=aC ts i I
 have A3:=bO au.cells hx
 refine rS (IA i U (ay 1 U) wG dc I I) ?_
 have A7:=hside x (aM hx)
 refine rS (jD i 0 (au.cells x) U bU (ay 1 U) A3 U dc U U)<|AL U E2 fun A4=>eN U IG U<|RK N ?_
 refine nq (ι:=Unit) [1,3,4,6,16,17,18] [0,1,2] U U (fun z=>[(7,(vB (decide (x.iU=0∧x.dY.Lo=0∧x.dY.Hi=0))))]) (fun z=>[]) (fun _=>rfl) (fun _=>rfl) ?_ fun K20 G=>?_
 ·intro _
  try dsimp only
  refine nq (ι:=Unit) [1,3,4,6,7,16,17,18] [0,1,2] U U (fun z=>[(8,(vB (decide ((1≤x.iU∧x.iU≤2)∧x.dY.Lo≤x.dY.Hi∧500≤x.dY.Lo∧x.dY.Hi≤20000))))]) (fun z=>[]) (fun _=>rfl) (fun _=>rfl) ?_ fun K21 H=>?_
  ·intro _
   try dsimp only
   refine aq fun _ AB=>WS fun _ C=>rP 4 [] (mc 0 U mn) ?_
   refine ew (xs:=[.tmp 44]) (cs:=[(vI x.Id)]) U dy j7 U U U U (by simp [Value.cells]) U U fun h=>?_
   refine rS (CL (dB.eq (px ((gK ts i)+1) 9999 ([x.Id]) (some ⟨h,0,none⟩) 1 (by (simp; done))) cy) (aD (bx 0 U U (by simp [bP]) U)<|aL) U) ?_
   refine rP 2 [] mn ?_
   refine bT (t:=48) U (aX fun o=>?_) (aW fun o=>?_)
   ·refine bI 26 U<|RK C<|aN U<|WS fun _ P=>bI 1 U<|RK P<|bQ<|ag<|fG U<|ag<|ag<|aI<|KK B<|WS fun _ R=>rP 2 [] mn ?_
    refine RK R<|ar<|Q1 hQ U U U ?_
    exact cI (if_neg (by rw [dZ A hx (by simp only [bZ,ei]; omega)]; decide)).symm
   refine bI 1 U<|rS (LP (ai.cells x.jJ) 1 U bU U U U)<|rS (CL (wJ x.jJ 1 30000) (aL) U)<|rP 3 [] mn ?_
   refine bT (t:=54) U (aX fun p=>?_) (aW fun p=>?_)
   ·refine bI 20 U<|RK C<|aN U<|WS fun _ S=>bI 1 U<|RK S<|bQ<|ag<|fG U<|ag<|ag<|aI<|KK B<|WS fun _ T=>rP 2 [] mn ?_
    refine RK T<|ar<|Q1 hQ U U U ?_
    exact cI (if_neg (by rw [dZ A hx (by simp only [bZ,ei]; omega)]; decide)).symm
   refine bI 1 U<|rS (LP (ai.cells x.kK) 1 U bU U U U)<|rS (CL (wJ x.kK 0 5000) (aL) U)<|rP 3 [] mn ?_
   refine bT (t:=60) U (aX fun q=>?_) (aW fun q=>?_)
   ·refine bI 14 U<|RK C<|aN U<|WS fun _ AA=>bI 1 U<|RK AA<|bQ<|ag<|fG U<|ag<|ag<|aI<|KK B<|WS fun _ V=>rP 2 [] mn ?_
    refine RK V<|ar<|Q1 hQ U U U ?_
    exact cI (if_neg (by rw [dZ A hx (by simp only [bZ,ei]; omega)]; decide)).symm
   refine rP 2 [] (mc 1 U mn) ?_
   refine ew (xs:=[.tmp 62]) (cs:=[(vI x.yF)]) U dy j7 U U U U (by simp [Value.cells]) U U fun j=>?_
   refine rS (CL (dB.eq (px 0 5000 ([x.yF]) (some ⟨j,0,none⟩) 1 (by (simp; done))) cy) (aD (bx 0 U U (by simp [bP]) U)<|aL) U) ?_
   refine rP 3 [] mn ?_
   refine bT (t:=67) U (aX fun r=>?_) (aW fun r=>?_)
   ·refine bI 7 U<|RK C<|aN U<|WS fun _ W=>bI 1 U<|RK W<|bQ<|ag<|fG U<|ag<|ag<|aI<|KK B<|WS fun _ X=>rP 2 [] mn ?_
    refine RK X<|ar<|Q1 hQ U U U ?_
    exact cI (if_neg (by rw [dZ A hx (by simp only [bZ,ei]; omega)]; decide)).symm
   refine rP 3 [] mn ?_
   refine cG (t:=70) U (aW fun s=>?_) (aX fun s=>?_)
   ·refine bI 4 U<|RK C<|cq U<|WK AB<|aw<|eV 3 [] (mc 2 U mn) U<|aK<|aP<|KK F<|aw<|rP 2 [] mn ?_
    refine aK ?_
    have f:(vI (gK ts (i+1)))=(vI x.Id):=by rw [gE hx]
    refine bu (E ⟨(i+1),⟨I,hZ A hx (by simp only [bZ,ei]; omega),by rw [gE hx]; omega,by rw [gE hx]; omega⟩⟩ _ _ _ U os (cP 4<|bw U f<|bD U) (aR [3,4]))
   refine rP 4 [] mn ?_
   refine RK C<|bR U (aW fun u=>?_) (aX fun u=>?_)
   ·refine WK AB<|aw<|eV 3 [] (mc 2 U mn) U<|aK<|aP<|KK F<|aw<|rP 2 [] mn ?_
    refine aK ?_
    have e:(vI (gK ts (i+1)))=(vI x.Id):=by rw [gE hx]
    refine bu (E ⟨(i+1),⟨I,hZ A hx (by simp only [bZ,ei]; omega),by rw [gE hx]; omega,by rw [gE hx]; omega⟩⟩ _ _ _ U os (cP 4<|bw U e<|bD U) (aR [3,4]))
   refine WS fun _ Y=>bI 1 U<|RK Y<|bQ<|ag<|fG U<|ag<|ag<|aI<|KK B<|WS fun _ Z=>rP 2 [] mn ?_
   refine RK Z<|ar<|Q1 hQ U U U ?_
   exact cI (if_neg (by rw [dZ A hx (by simp only [bZ,ei]; omega)]; decide)).symm
  refine aw<|rP 2 [] (mc 0 U mn) ?_
  refine rS (SX (oG (m:=x.iU) U U HU qn (lE (by first|assumption|omega))) U U)<|ew (xs:=[.tmp 33]) (cs:=[(vI x.iU)]) U dy j7 U U U U (by simp [Value.cells]) U U fun g=>?_
  refine rS (CL (dB.eq (px 1 2 ([x.iU]) (some ⟨g,0,none⟩) 1 (by (simp; done))) cy) (aD (bx 0 U U (by simp [bP]) U)<|aL) U) ?_
  refine rP 1 [] mn ?_
  refine cG (t:=36) U (aU fun n=>?_) (aT fun n=>?_)
  ·refine rP 5 [] mn ?_
   refine aK ?_
   have d:(decide ((1≤x.iU∧x.iU≤2)∧x.dY.Lo≤x.dY.Hi∧500≤x.dY.Lo∧x.dY.Hi≤20000))=false:=bj I
   refine bu (jB (cP 8<|n8 U d<|dp.nil _) (aR [1,2,3]) (H ()))
  refine bI 1 U<|rS (LP (ai.cells x.dY) 1 U bU U U U)<|rS (CL (wJ x.dY 500 20000) (aL) U)<|rP 2 [] mn ?_
  refine aK ?_
  have c:(decide ((1≤x.iU∧x.iU≤2)∧x.dY.Lo≤x.dY.Hi∧500≤x.dY.Lo∧x.dY.Hi≤20000))=(decide (x.dY.Lo≤x.dY.Hi∧500≤x.dY.Lo∧x.dY.Hi≤20000)):=gU.2 I
  refine bu (jB (cP 8<|n8 U c<|dp.nil _) (aR [1,2,3]) (H ()))
 refine aw<|eV 2 [] (mc 0 U mn) U<|rS (BI U m8)<|rP 1 [] mn ?_
 refine cG (t:=25) U (aU fun l=>?_) (aT fun l=>?_)
 ·refine rP 6 [] mn ?_
  refine aK ?_
  have b:(decide (x.iU=0∧x.dY.Lo=0∧x.dY.Hi=0))=false:=bj I
  refine bu (jB (cP 7<|n8 U b<|dp.nil _) (aR [0,1,2]) (G ()))
 refine bI 1 U<|rS (LP (ai.cells x.dY) 0 U bU U U U)<|rS (SX (bp (xs:=[]) (cs:=(ai.cells (ai.mk 0 0))) U U (bq gM U)) U U)<|rS (BI U (tU _ _ x.dY (ai.mk 0 0)))<|rP 2 [] mn ?_
 refine aK ?_
 have a:(decide (x.iU=0∧x.dY.Lo=0∧x.dY.Hi=0))=(decide (x.dY=(ai.mk 0 0))):=gU.2 (by (simp only [ai.ext_iff] at *; omega))
 refine bu (jB (cP 7<|n8 U a<|dp.nil _) (aR [0,1,2]) (G ()))
theorem QF (la:List au) (laA:OA) (laC:Nat) (lb:List au) (lbA:OA) (lbC:Nat) (h1:la.length≤1000000) (h2:lb.length≤1000000):
 dB Tryz.prog 87 [(vA (bL.cells (bL.mk (bE.mk laA la.length laC)))),(vA (bL.cells (bL.mk (bE.mk lbA lb.length lbC))))] [(rd laA la.length 9 (la.map au.cells)),(rd lbA lb.length 9 (lb.map au.cells))] (vB (decide (la=lb))):=by
 refine bJ kr Tryz.func87 U U fun X Q hQ hN=>?_
 try dsimp only
 refine WS fun _ L=>eJ U fun V=>eJ U fun W=>bI 1 U<|RK L<|aq fun _ M=>WS fun _ N=>rP 7 [0,1] (mc 1 U (mc 0 U mn)) ?_
 refine RK N<|ck U (aX fun hl=>?_) (aW fun hl=>?_)
 ·refine WS fun _ O=>rP 1 [] mn ?_
  refine RK O<|ar<|Q1 hQ U U U ?_
  exact cB (bj (fun e=>by subst e; omega)).symm
 refine WK M<|aq fun _ P=>WS fun _ R=>rP 1 [] mn ?_
 refine RK R<|aH ?_
 have A:(0≤la.length)∧(la.take 0=lb.take 0):=by simp
 refine bS (ι:={z:Nat // (z≤la.length)∧(la.take z=lb.take z)}) [2,3] [0,1,2,3] U U (fun z=>[(5,(vI (z.1:Int)))]) (fun z=>[]) (fun _=>rfl) (fun _=>rfl) (fun z=>la.length-z.1) ⟨0,A⟩ (bD U) (aR [0,1,2,3]) ?_
 clear A
 rintro ⟨i,⟨S,B⟩⟩ J9 K
 try dsimp only
 refine aq fun _ C=>WS fun _ D=>rP 5 [] (mc 1 U mn) ?_
 refine RK D<|bR U (aU fun J=>?_) (aT fun J=>?_)
 ·refine bQ<|ag<|ag<|aI<|KK P<|WS fun _ H=>rP 1 [] mn ?_
  refine RK H<|ar<|Q1 hQ U U U ?_
  exact cB (cO (cR I B I)).symm
 refine WK C<|aq fun _ E=>aH<|aq fun _ F=>cW cg 11 kr<|dP 3 [] (mc 1 U mn) ?_
 obtain ⟨x,hx⟩:=aC la i I
 have T:=bO au.cells hx
 refine dS (IA i U (ay 2 U) wG dc I I)<|dS (jD i 0 (au.cells x) U bU (ay 2 U) T U dc U U)<|dP 3 [] (mc 0 U mn) ?_
 obtain ⟨y,hy⟩:=aC lb i I
 have AA:=bO au.cells hy
 refine dS (IA i U (ay 3 U) wG dc I I)<|dS (jD i 0 (au.cells y) U bU (ay 3 U) AA U dc U U)<|dS (BI U (O7 _ _ x y))<|cx<|RK F<|ck U (aX fun h=>?_) (aW fun h=>?_)
 ·refine WS fun _ G=>rP 1 [] mn ?_
  refine RK G<|ar<|Q1 hQ U U U ?_
  exact cB (bj (og hx hy h)).symm
 refine cj<|aP<|KK E<|aw<|rP 3 [] mn ?_
 refine aK ?_
 have AB:(vI (((i+1):Nat):Int))=(vI ((i:Int)+1)):=by exact cI I
 refine bu (K ⟨(i+1),⟨I,iX B hx hy h⟩⟩ _ _ _ U os (dp.cons U<|dp.cons U<|bw U AB<|dp.nil _) (aR [0,1,2,3]))
theorem En (la:List Int) (laA:OA) (laC:Nat) (lb:List Int) (lbA:OA) (lbC:Nat) (h1:la.length≤1000000) (h2:lb.length≤1000000):
 dB Tryz.prog 12 [(vS laA la.length laC),(vS lbA lb.length lbC)] [(rd laA la.length 1 (la.map iC)),(rd lbA lb.length 1 (lb.map iC))] (vB (decide (la=lb))):=by
 refine bJ kr Tryz.func12 U U fun V Q hQ hN=>?_
 try dsimp only
 refine WS fun _ J=>bI 1 U<|RK J<|aq fun _ K=>WS fun _ L=>rP 5 [] mn ?_
 refine RK L<|ck U (aX fun hl=>?_) (aW fun hl=>?_)
 ·refine WS fun _ M=>rP 1 [] mn ?_
  refine RK M<|ar<|Q1 hQ U U U ?_
  exact cB (bj (fun e=>by subst e; omega)).symm
 refine WK K<|aq fun _ N=>WS fun _ O=>rP 1 [] mn ?_
 refine RK O<|aH ?_
 have A:(0≤la.length)∧(la.take 0=lb.take 0):=by simp
 refine bS (ι:={z:Nat // (z≤la.length)∧(la.take z=lb.take z)}) [0,1] [0,1] U U (fun z=>[(5,(vI (z.1:Int)))]) (fun z=>[]) (fun _=>rfl) (fun _=>rfl) (fun z=>la.length-z.1) ⟨0,A⟩ (bD U) (aR [0,1]) ?_
 clear A
 rintro ⟨i,⟨S,B⟩⟩ J7 AB
 try dsimp only
 refine aq fun _ P=>WS fun _ R=>rP 4 [] mn ?_
 refine RK R<|bR U (aU fun H=>?_) (aT fun H=>?_)
 ·refine bQ<|ag<|ag<|aI<|KK N<|WS fun _ F=>rP 1 [] mn ?_
  refine RK F<|ar<|Q1 hQ U U U ?_
  exact cB (cO (cR I B I)).symm
 refine WK P<|aq fun _ C=>aH<|aq fun _ D=>cW cg 9 kr<|dP 2 [] mn ?_
 obtain ⟨x,hx⟩:=aC la i I
 have T:=bO iC hx
 refine dS (IA i U (ay 0 U) dy dc I I)<|dS (gD i 0 (vI x) U bU (ay 0 U) T U dc U)<|dP 2 [] mn ?_
 obtain ⟨y,hy⟩:=aC lb i I
 have AA:=bO iC hy
 refine dS (IA i U (ay 1 U) dy dc I I)<|dS (gD i 0 (vI y) U bU (ay 1 U) AA U dc U)<|dP 1 [] mn ?_
 refine cx<|RK D<|ck U (aX fun h=>?_) (aW fun h=>?_)
 ·refine WS fun _ E=>rP 1 [] mn ?_
  refine RK E<|ar<|Q1 hQ U U U ?_
  exact cB (bj (og hx hy h)).symm
 refine cj<|aP<|KK C<|aw<|rP 3 [] mn ?_
 refine aK ?_
 have G:(vI (((i+1):Nat):Int))=(vI ((i:Int)+1)):=by exact cI I
 refine bu (AB ⟨(i+1),⟨I,iX B hx hy h⟩⟩ _ _ _ U os (dp.cons U<|dp.cons U<|bw U G<|dp.nil _) (aR [0,1]))
end
section
open Go.RowKit
theorem J0 (n lo hi:Int) (g1 g2:Nat):
 dB Tryz.prog 164 [(vI n),(vP g1),(vP g2)] [(cz g1 3 [(vI lo)]),(cz g2 3 [(vI hi)])] (vB (decide (n<lo∨hi<n))):=by
 refine bJ kr Tryz.func164 U U fun D Q hQ hN=>?_
 try dsimp only
 refine WS fun _ B=>bI 1 U<|RK B<|WS fun _ A=>rP 4 [] (mr 0 U mn) ?_
 refine bT (t:=8) U (aT fun C=>?_) (aU fun C=>?_)
 ·refine rP 5 [] mn ?_
  refine RK A<|ar<|Q1 hQ U U U ?_
  exact cB (cO I).symm
 refine rP 5 [] (mr 1 U mn) ?_
 refine RK A<|ar<|Q1 hQ U U U ?_
 exact cB (gU.2 I)
theorem ik (lo hi:Int) (l:List Int) (lA:OA) (lC:Nat) (hlen:l.length≤1000000):
 dB Tryz.prog 133 [(vI lo),(vI hi),(vS lA l.length lC)] [(rd lA l.length 1 (l.map iC))] (vB (o5 lo hi l)):=by
 refine bJ kr Tryz.func133 U U fun F Q hQ hN=>?_
 try dsimp only
 refine WS fun _ D=>wM U U fun A=>wM U U fun B=>bI 1 U<|RK D<|WS fun _ E=>rP 1 [] mn ?_
 refine rS (FU U) ?_
 refine rS (CL (qd l lA lC (Value.func (.func 164) [].toArray [(vP A),(vP B)].toArray) (fun C=>(decide (C<lo∨hi<C))) (dE [(cz A 3 [(vI lo)]),(cz B 3 [(vI hi)])]) (by intro C _; exact k7 (fi:=[]) (ca:=[(vP A),(vP B)]) (j1 (J0 C lo hi A B) (bo [0,1]))) hlen) (dM 2 U U<|aD (jZ (bo [1,0]))<|aL) U) ?_
 refine rP 2 [] mn ?_
 refine RK E<|ar ?_
 exact Q1 hQ U U U U
theorem Vv (n d:Int) (hd:2≤d):
 dB Tryz.prog 166 [(vI n),(vI d)] [] (vI (Tv n d)):=by
 refine bJ kr Tryz.func166 U U fun C Q hQ hN=>?_
 try dsimp only
 refine WS fun _ A=>bI 1 U<|RK A<|WS fun _ B=>bI 2 U<|rS (BI U PB)<|rS (BI U Lh)<|bI 1 U<|rS (BI U (Qa I (PJ (Tj _) hd)))<|rP 1 [] mn ?_
 refine RK B<|ar ?_
 exact Q1 hQ U U U U
theorem JD (n d:Int) (hd:1≤d∧d≤1000000) (hn:0≤n∧n≤1000000000000000):
 dB Tryz.prog 166 [(vI n),(vI d)] [] (vI (o1 n d)):=by
 refine bJ kr Tryz.func166 U U fun C Q hQ hN=>?_
 try dsimp only
 refine WS fun _ A=>bI 1 U<|RK A<|WS fun _ B=>bI 5 U<|rS (BI U (uj I I I))<|rP 1 [] mn ?_
 refine RK B<|ar ?_
 exact Q1 hQ U U U U
theorem E9 (c:ax) (sA:OA) (sC:Nat) (at_:Int) (hc:fy c) (ha:0≤at_∧at_≤90000000):
 dB Tryz.prog 208 [(vA (dk.cells (dk.mk c.dw (bE.mk sA c.bB.length sC)))),(vI at_)] [(rd sA c.bB.length 3 (c.bB.map ct.cells))] (vA (ai.cells (iI c at_))):=by
 have X:=hc.len
 have J:=hc.s7
 refine bJ kr Tryz.func208 U U fun e Q hQ hN=>?_
 try dsimp only
 refine WS fun _ M=>eJ U fun b=>AL U dU fun d=>RK M<|WS fun _ N=>rS (SX (bp (xs:=[(0,.const (vI (-1099511627776))),(1,.const (vI 1099511627776))]) (cs:=(ai.cells (ai.mk (-1099511627776) 1099511627776))) U U (bq gM U)) U U)<|AL U dU fun W=>eN U cT U<|RK N<|aq fun _ O=>aq fun _ P=>?_
 have R:(ai.cells (ai.mk (-1099511627776) 1099511627776))=(ai.cells (gO c at_ 0)):=by rfl
 rw [R]
 refine aw<|rP 4 [] (mc 2 U mn) ?_
 refine RK P<|aH ?_
 have A:(0≤c.bB.length):=by exact Nat.zero_le _
 refine bS (ι:={z:Nat // (z≤c.bB.length)}) [1,2,4,5,11,12] [1,2,3] U U (fun z=>[(13,(vI (z.1:Int)))]) (fun z=>[(cz W 38 (ai.cells (gO c at_ z.1)))]) (fun _=>rfl) (fun _=>rfl) (fun z=>c.bB.length-z.1) ⟨0,A⟩ (bD U) (aR [1,2,3,0]) ?_
 clear A
 rintro ⟨i,S⟩ J9 L
 try dsimp only
 refine WS fun _ B=>rP 1 [] mn ?_
 refine RK B<|aq fun _ C=>bR U (aU fun K=>?_) (aT fun K=>?_)
 ·refine bQ<|ag<|ag<|aI<|KK O<|WS fun _ G=>rP 1 [] (mc 3 U mn) ?_
  refine eN U cT U<|RK G<|ar<|Dg hQ [0] (mc 0 U mn) U ?_
  rw [nV (show c.bB.length≤i by omega)]
 refine WK C<|aq fun _ D=>aH<|WS fun _ E=>?_
 obtain ⟨x,hx⟩:=aC c.bB i I
 have AA:=bO ct.cells hx
 refine rS (IA i U (ay 2 U) nR dc I I)<|rS (jD i 0 (ct.cells x) U bU (ay 2 U) AA U dc U U)<|AL U sV fun V=>eN U uq U<|RK E<|WS fun _ F=>rP 5 [0,1] (mc 2 U (mc 0 U mn)) ?_
 have T:=hc.vx hx
 have Z:=BP hc ha i
 have Y:=EV J ha (show 0≤x.At∧x.At≤90000000 by omega)
 refine eV 5 [] (mc 0 U mn) U<|rS (MX U)<|rS (BI U (uT ⟨I,I⟩))<|rS (CL (JD (c.dw*(max (at_-x.At) (x.At-at_))) 1000000 I I) (aL) U)<|bI 1 U<|RK F<|aw<|rP 6 [0,1] (mc 4 U (mc 0 U mn)) ?_
 have a:0≤o1 (c.dw*max (at_-x.At) (x.At-at_)) 1000000∧o1 (c.dw*max (at_-x.At) (x.At-at_)) 1000000≤90001:=vd J ha T.1
 refine bI 1 U<|rS (MX U)<|rP 7 [0,1] (mc 4 U (mc 0 U mn)) ?_
 refine rS (MN U)<|rS (SX (bp (xs:=[(0,.tmp 37),(1,.tmp 45)]) (cs:=(ai.cells (ai.mk (max ((gO c at_ i).Lo) (x.eg.Lo-(o1 (c.dw*(max (at_-x.At) (x.At-at_))) 1000000))) (min ((gO c at_ i).Hi) (x.eg.Hi+(o1 (c.dw*(max (at_-x.At) (x.At-at_))) 1000000)))))) U U (bq gM U)) U U)<|Q5 U cT U<|aK<|aP<|KK D ?_
 have H:(ai.cells (ai.mk (max ((gO c at_ i).Lo) (x.eg.Lo-(o1 (c.dw*(max (at_-x.At) (x.At-at_))) 1000000))) (min ((gO c at_ i).Hi) (x.eg.Hi+(o1 (c.dw*(max (at_-x.At) (x.At-at_))) 1000000)))))=(ai.cells (gO c at_ (i+1))):=by rw [kb hx]; rfl
 rw [H]
 refine aw<|rP 2 [] mn ?_
 refine aK ?_
 have AB:(vI (((i+1):Nat):Int))=(vI ((i:Int)+1)):=by exact cI I
 refine bu (L ⟨(i+1),(by first|omega|(simp only []; omega))⟩ _ _ _ U os (cP 6<|bw U AB<|dp.nil _) (aR [1,2,3,4]))
theorem Qd (c:ax) (sA:OA) (sC:Nat) (hlen:c.bB.length≤1000000) (hcap:c.bB.length≤sC):
 dB Tryz.prog 137 [(vA (dk.cells (dk.mk c.dw (bE.mk sA c.bB.length sC))))] [(rd sA c.bB.length 3 (c.bB.map ct.cells))] (vB (decide (fy c))):=by
 refine bJ kr Tryz.func137 U U fun w0 Q hQ hN=>?_
 try dsimp only
 refine WS fun _ B3=>eJ U fun b2=>bI 1 U<|RK B3<|AW U<|aq fun _ B9=>WS fun _ q=>rP 2 [] (mc 0 U mn) ?_
 refine ew (xs:=[.tmp 11]) (cs:=[(vI c.dw)]) U dy j7 U U U U (by simp [Value.cells]) U U fun b5=>?_
 refine rS (CL (dB.eq (ik 0 1000 ([c.dw]) (some ⟨b5,0,none⟩) 1 (by (simp; done))) cy) (aD (bx 0 U U (by simp [bP]) U)<|aL) U) ?_
 refine rP 2 [] mn ?_
 refine bT (t:=15) U (aX fun AB=>?_) (aW fun AB=>?_)
 ·refine bI 7 U<|RK q<|aN U<|WS fun _ CC=>rP 1 [] mn ?_
  refine RK CC<|ar<|Q1 hQ U U U ?_
  exact cB (bj fun h=>AB h.s7).symm
 refine rP 3 [] (mc 1 U mn) ?_
 refine ew (xs:=[.tmp 18]) (cs:=[(vI (c.bB.length:Int))]) U dy j7 U U U U (by simp [Value.cells]) U U fun b7=>?_
 refine rS (CL (dB.eq (ik 1 5 ([(c.bB.length:Int)]) (some ⟨b7,0,none⟩) 1 (by (simp; done))) cy) (aD (bx 0 U U (by simp [bP]) U)<|aL) U) ?_
 refine rP 2 [] mn ?_
 refine RK q<|ck U (aX fun O=>?_) (aW fun O=>?_)
 ·refine WS fun _ Ci=>rP 1 [] mn ?_
  refine RK Ci<|ar<|Q1 hQ U U U ?_
  exact cB (bj fun h=>O (by have:=h.len; omega)).symm
 refine WK B9<|WS fun _ Ck=>bI 1 U<|RK Ck<|WS fun _ R=>bI 1 U<|RK R<|aq fun _ S=>Ab<|KK S<|aq fun _ K=>WS fun _ T=>rP 4 [] (mc 2 U mn) ?_
 refine RK T<|aH ?_
 have B:(0≤c.bB.length)∧(tj c 0):=by exact ⟨Nat.zero_le _,Gs⟩
 have r:(vI (kI c 0))=(vI (-1)):=by rw [gW rfl]
 refine bS (ι:={z:Nat // (z≤c.bB.length)∧(tj c z)}) [1,2,4,24,25] [2,3] U U (fun z=>[(3,(vI (kI c z.1))),(26,(vI (z.1:Int)))]) (fun z=>[]) (fun _=>rfl) (fun _=>rfl) (fun z=>c.bB.length-z.1) ⟨0,B⟩ (bw U r<|bD U) (aR [2,3]) ?_
 clear B
 rintro ⟨i,⟨L,C⟩⟩ J15 P
 try dsimp only
 have Dj: -1≤kI c i∧kI c i≤86400000:=QB L C
 refine WS fun _ AA=>rP 1 [] mn ?_
 refine RK AA<|aq fun _ V=>bR U (aU fun A5=>?_) (aT fun A5=>?_)
 ·refine bQ<|ag<|ag<|aI<|KK K<|WS fun _ f=>rP 2 [] mn ?_
  refine RK f<|ar<|Q1 hQ U U U ?_
  exact cB (cO (Gn AB I (by have e:i=c.bB.length:=I; rw [← e]; exact C))).symm
 refine WK V<|aq fun _ W=>aH<|WS fun _ X=>rP 1 [] mn ?_
 obtain ⟨x,hx⟩:=aC c.bB i I
 have C0:=bO ct.cells hx
 refine rS (IA i U (ay 1 U) nR dc I I)<|rS (jD i 0 (ct.cells x) U bU (ay 1 U) C0 U dc U U)<|AL U sV fun C1=>rP 1 [] mn ?_
 refine eN U uq U<|RK X ?_
 refine nq (ι:=Unit) [1,2,3,5,6,24,25,26] [0,1,2] U U (fun z=>[(4,(vB (decide (fT c i x))))]) (fun z=>[]) (fun _=>rfl) (fun _=>rfl) ?_ fun K22 G=>?_
 ·intro _
  try dsimp only
  refine aq fun _ Y=>WS fun _ Z=>eV 3 [] (mc 1 U mn) U<|rS (V1 i U nR I I)<|rP 2 [] mn ?_
  refine RK Z<|aH ?_
  have B:(0≤i)∧((decide (fT c i x))=(decide (mC c i x 0))):=by exact ⟨Nat.zero_le _,gU.2 Dy.symm⟩
  refine bS (ι:={z:Nat×Bool // (z.1≤i)∧(z.2=(decide (mC c i x z.1)))}) [1,2,3,5,6,24,25,26,59,60] [0,1,2] U U (fun z=>[(4,(vB z.1.2)),(61,(vI (z.1.1:Int)))]) (fun z=>[]) (fun _=>rfl) (fun _=>rfl) (fun z=>i-z.1.1) ⟨(0,(decide (fT c i x))),B⟩ (bD U) (aR [0,1,2]) ?_
  clear B
  rintro ⟨⟨k,b⟩,⟨M,A⟩⟩ J25 F
  try dsimp only at M A
  try dsimp only
  refine WS fun _ a=>rP 1 [] mn ?_
  refine RK a<|aq fun _ d=>bR U (aU fun A7=>?_) (aT fun A7=>?_)
  ·refine bQ<|ag<|ag<|aI<|KK Y<|aq fun _ m=>WS fun _ n=>rP 2 [] mn ?_
   refine RK n<|ck U (fun D=>?_) (fun D=>?_)
   ·rw [Bool.not_eq_true'] at D
    refine bQ<|ag<|fG U<|ag<|ag<|aI<|KK K<|WS fun _ p=>rP 2 [] mn ?_
    refine RK p<|ar<|Q1 hQ U U U ?_
    exact cB (by have e:k=i:=I; rw [e] at A; rw [D] at A ⊢; exact (bj (IK hx (of_decide_eq_false A.symm))).symm)
   rw [Bool.not_eq_false'] at D
   refine WK m<|aw<|eV 3 [] (mc 0 U mn) U<|aK<|aP<|KK W<|aw<|rP 2 [] mn ?_
   refine aK ?_
   have AO:(vB true)=(vB b):=by exact cB D.symm
   have A0:(vI (kI c (i+1)))=(vI x.At):=by rw [oH hx]
   have A1:(vI (((i+1):Nat):Int))=(vI ((i:Int)+1)):=by exact cI I
   refine bu (P ⟨(i+1),⟨I,Hu C hx (by have e:k=i:=I; rw [e] at A; exact of_decide_eq_true (A.symm.trans D))⟩⟩ _ _ _ U os (dp.cons U<|dp.cons U<|bw U AO<|dp.cons U<|dp.cons U<|bw U A0<|bw U A1<|dp.nil _) (aR [1,2]))
  refine WK d<|aq fun _ H=>aH<|WS fun _ g=>?_
  obtain ⟨o,ho⟩:=aC c.bB k I
  have Cp:=bO ct.cells ho
  refine rS (V0 k U (ay 2 U) nR dc I I I)<|rS (jD k 0 (ct.cells o) U bU (ay 2 U) Cp U dc U U)<|AL U sV fun C2=>eN U uq U<|RK g<|WS fun _ l=>eV 6 [0,1,2] (mc 2 U (mc 1 U (mc 0 U mn))) U<|rS (BI U Lh)<|rS (BI U P3)<|rS (CL (Vv (Bb (c.dw*(Bb (x.At-o.At)))) 1000000 I) (aL) U)<|bI 1 U<|RK l<|aw<|rP 2 [] mn ?_
  refine cG (t:=75) U (fun J=>?_) (fun J=>?_)
  ·refine bI 6 U<|bI 16 U<|aK<|aP<|KK H<|aw<|rP 2 [] mn ?_
   refine aK ?_
   have AK:(vI (((k+1):Nat):Int))=(vI ((k:Int)+1)):=by exact cI I
   refine bu (F ⟨((k+1),false),⟨I,by exact (bj fun h=>by have h2:=((tq ho).1 h).1; rw [A] at J; exact absurd (cO h2) (by rw [J]; decide)).symm⟩⟩ _ _ _ U os (cP 11<|bw U AK<|dp.nil _) (aR [1,2,3]))
  refine rP 6 [0,1] (mc 1 U (mc 0 U mn)) ?_
  have A2:mC c i x k:=of_decide_eq_true (A.symm.trans J)
  obtain ⟨Cx,Do,EQ⟩:=vw (fun j y hj hy=>(C j y hj hy).1) hx A2.1 I ho
  have N:=MS AB Cx
  refine rP 5 [] mn ?_
  refine cG (t:=86) U (aU fun E=>?_) (aT fun E=>?_)
  ·refine bI 11 U<|aK<|aP<|KK H<|aw<|rP 2 [] mn ?_
   refine aK ?_
   have AC:(vI (((k+1):Nat):Int))=(vI ((k:Int)+1)):=by exact cI I
   refine bu (F ⟨((k+1),false),⟨I,by exact (bj fun h=>by have h2:=((tq ho).1 h).2; rw [N] at E; exact E h2.1).symm⟩⟩ _ _ _ U os (cP 11<|bw U AC<|dp.nil _) (aR [1,2,3]))
  refine eV 11 [0,1] (mc 0 U (mc 1 U mn)) U<|aK<|aP<|KK H<|aw<|rP 2 [] mn ?_
  refine aK ?_
  have w:(vI (((k+1):Nat):Int))=(vI ((k:Int)+1)):=by exact cI I
  refine bu (F ⟨((k+1),(decide ((o.eg.Lo-x.eg.Hi)≤(Tv (Bb (c.dw*(Bb (x.At-o.At)))) 1000000)))),⟨I,by exact gU.2 (by rw [tq ho,N]; rw [N] at E; exact ⟨fun h=>⟨A2,E,h⟩,fun h=>h.2.2⟩)⟩⟩ _ _ _ U os (cP 11<|bw U w<|dp.nil _) (aR [1,2,3]))
 refine aw<|rP 4 [] (mc 0 U mn) ?_
 refine ew (xs:=[.tmp 34]) (cs:=[(vI x.At)]) U dy j7 U U U U (by simp [Value.cells]) U U fun A3=>?_
 refine rS (CL (dB.eq (ik ((kI c i)+1) 86400000 ([x.At]) (some ⟨A3,0,none⟩) 1 (by (simp; done))) cy) (aD (bx 0 U U (by simp [bP]) U)<|aL) U) ?_
 refine rP 1 [] mn ?_
 refine cG (t:=37) U (aU fun A8=>?_) (aT fun A8=>?_)
 ·refine rP 19 [] mn ?_
  refine aK ?_
  have v:(decide (fT c i x))=false:=bj (by unfold fT; omega)
  refine bu (jB (cP 8<|n8 U v<|dp.nil _) (aR [1,2,3]) (G ()))
 refine rP 6 [] (mc 1 U mn) ?_
 refine ew (xs:=[.tmp 40,.tmp 43]) (cs:=[(vI x.eg.Lo),(vI x.eg.Hi)]) U dy j7 U U U U (by simp [Value.cells]) U U fun A4=>?_
 refine rS (CL (dB.eq (ik (-10000) 10000 ([x.eg.Lo,x.eg.Hi]) (some ⟨A4,0,none⟩) 2 (by (simp; done))) pw) (aD (bx 0 U U (by simp [bP]) U)<|aL) U) ?_
 refine rP 2 [] mn ?_
 refine cG (t:=47) U (aU fun A9=>?_) (aT fun A9=>?_)
 ·refine rP 9 [] mn ?_
  refine aK ?_
  have u:(decide (fT c i x))=false:=bj (by unfold fT; omega)
  refine bu (jB (cP 8<|n8 U u<|dp.nil _) (aR [2,3,4]) (G ()))
 refine rP 9 [] (mc 2 U mn) ?_
 refine aK ?_
 have s:(decide (fT c i x))=(decide (x.eg.Lo≤x.eg.Hi)):=gU.2 (by unfold fT; omega)
 refine bu (jB (cP 8<|n8 U s<|dp.nil _) (aR [2,3,4]) (G ()))
theorem RW (ms:List ax) (az:List RA) (k:Nat) (m:ax) (a:RA) (hm:ms[k]? =some m) (ha:az[k]? =some a) (hc:m.bB.length≤a.2∧m.bB.length≤1000000):
 dB Tryz.prog 136 [(vA (dk.cells (dk.mk m.dw (bE.mk a.1 m.bB.length a.2))))] [(dE (bg ax.e_ ms az))] (vB (!(decide (fy m)))):=by
 obtain ⟨C,D⟩:=hc
 refine bJ kr Tryz.func136 U U fun F Q hQ hN=>?_
 try dsimp only
 refine WS fun _ A=>eJ U fun E=>bI 1 U<|RK A<|WS fun _ B=>eV 1 [] (mc 0 U mn) U<|rS (CL (Qd m a.1 a.2 asm asm) (aD (show fY _ (rd a.1 m.bB.length 3 (m.bB.map ct.cells)).holds from (bX 1 U (a_ hm ha (by simp [ax.e_]))))<|aL) U)<|rP 2 [] mn ?_
 refine RK B<|ar ?_
 exact Q1 hQ U U U U
theorem G9 (l:List ax) (az:List RA) (lA:OA) (lC:Nat) (f:Value) (p:ax→Bool) (X:aA) (hf: ∀ (k:Nat) m a,l[k]? =some m→az[k]? =some a→D4 Tryz.prog f [.agg (ax.cells m a).toArray] [X] (.bool (p m))) (hlen:l.length≤1000000) (has:az.length=l.length):
 dB Tryz.prog 165 [(vS lA l.length lC),f] [(rd lA l.length 2 (List.zipWith ax.cells l az)),(dE (bg ax.e_ l az)),X] (vI (sU p l)):=by
 refine bJ kr Tryz.func165 U U fun T Q hQ hN=>?_
 try dsimp only
 refine WS fun _ AA=>bI 1 U<|RK AA<|aq fun _ J=>WS fun _ K=>rP 3 [] mn ?_
 refine RK K<|aH ?_
 have B:(0≤l.length)∧((l.take 0).any p=false):=by simp
 refine bS (ι:={z:Nat // (z≤l.length)∧((l.take z).any p=false)}) [0,1,7] [0,1,2] U U (fun z=>[(8,(vI (z.1:Int)))]) (fun z=>[]) (fun _=>rfl) (fun _=>rfl) (fun z=>l.length-z.1) ⟨0,B⟩ (bD U) (aR [0,1,2]) ?_
 clear B
 rintro ⟨i,⟨P,A⟩⟩ J4 H
 try dsimp only
 refine WS fun _ L=>rP 1 [] mn ?_
 refine RK L<|aq fun _ M=>bR U (aU fun S=>?_) (aT fun S=>?_)
 ·refine bQ<|ag<|ag<|aI<|KK J<|WS fun _ E=>rP 1 [] mn ?_
  refine RK E<|ar<|Q1 hQ U U U ?_
  exact cI (qe I A).symm
 refine WK M<|aq fun _ N=>aH<|WS fun _ O=>bI 2 U<|RK O<|WS fun _ C=>rP 3 [] mn ?_
 obtain ⟨x,hx⟩:=aC l i I
 obtain ⟨xa,G⟩:=aC az i I
 have R:(List.zipWith ax.cells l az)[i]? =some (ax.cells x xa):=cv hx G
 refine rS (IA i U (ay 0 U) yf dc I I)<|rS (jD i 0 (dk.cells (dk.mk x.dw (bE.mk xa.1 x.bB.length xa.2))) U bU (ay 0 U) R U dc U U)<|rS (SX (qi U U U (hf i x xa hx G) (bo [2])) U U)<|RK C<|ck U (fun hp=>?_) (fun hp=>?_)
 ·refine WS fun _ D=>rP 2 [] mn ?_
  refine RK D<|ar<|Q1 hQ U U U ?_
  exact cI (uY hx hp A).symm
 refine cj<|aP<|KK N<|aw<|rP 2 [] mn ?_
 refine aK ?_
 have F:(vI (((i+1):Nat):Int))=(vI ((i:Int)+1)):=by exact cI I
 refine bu (H ⟨(i+1),⟨I,ug hx A hp⟩⟩ _ _ _ U os (cP 3<|bw U F<|dp.nil _) (aR [0,1,2]))
theorem Ai (l:List ax) (az:List RA) (lA:OA) (lC:Nat) (f:Value) (p:ax→Bool) (X:aA) (hf: ∀ (k:Nat) m a,l[k]? =some m→az[k]? =some a→D4 Tryz.prog f [.agg (ax.cells m a).toArray] [X] (.bool (p m))) (hlen:l.length≤1000000) (has:az.length=l.length):
 dB Tryz.prog 135 [(vS lA l.length lC),f] [(rd lA l.length 2 (List.zipWith ax.cells l az)),(dE (bg ax.e_ l az)),X] (vB (l.any p)):=by
 refine bJ kr Tryz.func135 U U fun C Q hQ hN=>?_
 try dsimp only
 refine WS fun _ A=>bI 1 U<|RK A<|WS fun _ B=>bI 2 U<|rS (CL (G9 l az lA lC f p X (by exact hf) hlen has) (Qb 0 1 2 U U U U U U) U)<|rP 2 [] mn ?_
 refine RK B<|ar<|Q1 hQ U U U ?_
 exact cB sI
theorem HH (l:List bK) (lA:OA) (lC:Nat) (f:Value) (p:bK→Bool) (X:aA) (hf: ∀ x0,x0∈l→D4 Tryz.prog f [.agg (bK.cells x0).toArray] [X] (.bool (p x0))) (hlen:l.length≤1000000):
 dB Tryz.prog 167 [(vS lA l.length lC),f] [(rd lA l.length 4 (l.map bK.cells)),X] (vI (sU p l)):=by
 refine bJ kr Tryz.func167 U U fun S Q hQ hN=>?_
 try dsimp only
 refine WS fun _ H=>bI 1 U<|RK H<|aq fun _ AA=>WS fun _ J=>rP 3 [] mn ?_
 refine RK J<|aH ?_
 have B:(0≤l.length)∧((l.take 0).any p=false):=by simp
 refine bS (ι:={z:Nat // (z≤l.length)∧((l.take z).any p=false)}) [0,1,7] [0,1] U U (fun z=>[(8,(vI (z.1:Int)))]) (fun z=>[]) (fun _=>rfl) (fun _=>rfl) (fun z=>l.length-z.1) ⟨0,B⟩ (bD U) (aR [0,1]) ?_
 clear B
 rintro ⟨i,⟨O,A⟩⟩ J4 G
 try dsimp only
 refine WS fun _ K=>rP 1 [] mn ?_
 refine RK K<|aq fun _ L=>bR U (aU fun R=>?_) (aT fun R=>?_)
 ·refine bQ<|ag<|ag<|aI<|KK AA<|WS fun _ E=>rP 1 [] mn ?_
  refine RK E<|ar<|Q1 hQ U U U ?_
  exact cI (qe I A).symm
 refine WK L<|aq fun _ M=>aH<|WS fun _ N=>bI 2 U<|RK N<|WS fun _ C=>rP 3 [] mn ?_
 obtain ⟨x,hx⟩:=aC l i I
 have P:=bO bK.cells hx
 refine rS (IA i U (ay 0 U) uE dc I I)<|rS (jD i 0 (bK.cells x) U bU (ay 0 U) P U dc U U)<|rS (SX (qi U U U (hf x (aM hx)) (bo [1])) U U)<|RK C<|ck U (fun hp=>?_) (fun hp=>?_)
 ·refine WS fun _ D=>rP 2 [] mn ?_
  refine RK D<|ar<|Q1 hQ U U U ?_
  exact cI (uY hx hp A).symm
 refine cj<|aP<|KK M<|aw<|rP 2 [] mn ?_
 refine aK ?_
 have F:(vI (((i+1):Nat):Int))=(vI ((i:Int)+1)):=by exact cI I
 refine bu (G ⟨(i+1),⟨I,ug hx A hp⟩⟩ _ _ _ U os (cP 3<|bw U F<|dp.nil _) (aR [0,1]))
theorem Au (l:List bK) (lA:OA) (lC:Nat) (f:Value) (p:bK→Bool) (X:aA) (hf: ∀ x0,x0∈l→D4 Tryz.prog f [.agg (bK.cells x0).toArray] [X] (.bool (p x0))) (hlen:l.length≤1000000):
 dB Tryz.prog 139 [(vS lA l.length lC),f] [(rd lA l.length 4 (l.map bK.cells)),X] (vB (l.any p)):=by
 refine bJ kr Tryz.func139 U U fun C Q hQ hN=>?_
 try dsimp only
 refine WS fun _ A=>bI 1 U<|RK A<|WS fun _ B=>bI 2 U<|rS (CL (HH l lA lC f p X (by exact hf) hlen) (bo [0,1]) U)<|rP 2 [] mn ?_
 refine RK B<|ar<|Q1 hQ U U U ?_
 exact cB sI
end
section
open Go.RowKit
theorem p7 (a:ai) (l:List ai) (lA:OA) (lC:Nat) (ha:lZ a) (hl: ∀ z∈l,lZ z) (hlen:l.length≤4):
 dB Tryz.prog 171 [(vA (ai.cells a)),(vS lA l.length lC)] [(rd lA l.length 2 (l.map ai.cells))] (vA (ai.cells (kS a l))):=by
 refine bJ kr Tryz.func171 U U fun AA Q hQ hN=>?_
 try dsimp only
 refine WS fun _ AB=>eJ U fun R=>AL U dU fun T=>RK AB<|aq fun _ J=>WS fun _ K=>rP 3 [] mn ?_
 refine RK K<|aH ?_
 have A:(0≤l.length):=by exact Nat.zero_le _
 refine bS (ι:={z:Nat // (z≤l.length)}) [2,4,7,8] [0,2] U U (fun z=>[(9,(vI (z.1:Int)))]) (fun z=>[(cz R 38 (ai.cells (kS a (l.take z.1))))]) (fun _=>rfl) (fun _=>rfl) (fun z=>l.length-z.1) ⟨0,A⟩ (bD U) (aR [0,2,1]) ?_
 clear A
 rintro ⟨i,N⟩ J6 H
 try dsimp only
 refine WS fun _ L=>rP 1 [] mn ?_
 refine RK L<|aq fun _ M=>bR U (aU fun S=>?_) (aT fun S=>?_)
 ·refine bQ<|ag<|ag<|aI<|KK J<|aq fun _ D=>?_
  have G:(ai.cells (kS a (l.take i)))=(ai.cells (kS a l)):=by rw [LF I]
  rw [G]
  refine aw<|rP 1 [] (mc 2 U mn) ?_
  refine eN U cT U<|RK D<|ar ?_
  exact Dg hQ [0] (mc 0 U mn) U U
 refine WK M<|aq fun _ B=>aH<|WS fun _ C=>?_
 obtain ⟨x,hx⟩:=aC l i I
 have O:=bO ai.cells hx
 refine rS (IA i U (ay 1 U) kX dc I I)<|rS (jD i 0 (ai.cells x) U bU (ay 1 U) O U dc U U)<|AL U dU fun P=>eN U cT U<|RK C<|aw ?_
 have hb:=Pc ha hl i
 have hz:=hl x (aM hx)
 unfold lZ at hz
 refine rP 10 [0,1,0,1] (mc 3 U (mc 0 U mn)) ?_
 refine rS (SX (bp (xs:=[(0,.tmp 17),(1,.tmp 22)]) (cs:=(ai.cells (ai.mk (((kS a (l.take i)).Lo)+x.Lo) (((kS a (l.take i)).Hi)+x.Hi)))) U U (bq gM U)) U U)<|RG U cT U<|aK<|aP<|KK B ?_
 have E:(ai.cells (ai.mk (((kS a (l.take i)).Lo)+x.Lo) (((kS a (l.take i)).Hi)+x.Hi)))=(ai.cells (kS a (l.take (i+1)))):=by rw [zg hx]; rfl
 rw [E]
 refine aw<|rP 2 [] mn ?_
 refine aK ?_
 have F:(vI ((i+1):Int))=(vI ((i:Int)+1)):=by exact cI I
 refine bu (H ⟨(i+1),(by first|omega|(simp only []; omega))⟩ _ _ _ U os (cP 4<|bw U F<|dp.nil _) (aR [1,2,3]))
theorem Fg (ts:List au) (tsA:OA) (tsC:Nat) (hlen:ts.length≤1000000) (hside: ∀ x∈ts,0≤x.iU∧x.iU≤255):
 dB Tryz.prog 168 [(vA (bL.cells (bL.mk (bE.mk tsA ts.length tsC))))] [(rd tsA ts.length 9 (ts.map au.cells))] (vT [(vA (eM.cells (eM.mk (bL.mk (bE.mk tsA ts.length tsC))))),(vI (if du ts=true then 0 else 10))]):=by
 refine bJ kr Tryz.func168 U U fun E Q hQ hN=>?_
 try dsimp only
 refine WS fun _ A=>eJ U fun C=>AL U JZ fun D=>bI 1 U<|RK A<|aq fun _ B=>cW cg 4 kr<|kv 1 [] (mc 1 U mn) U<|dS (SX (bp (xs:=[(0,.tmp 4)]) (cs:=(eM.cells (eM.mk (bL.mk (bE.mk tsA ts.length tsC))))) U U (bq Tm U)) U U)<|kv 1 [] (mc 1 U mn) U<|dS (CL (Bw ts tsA tsC hlen hside) (bo [2]) U)<|cx<|eN U Kp U<|rP 1 [] mn ?_
 refine RK B<|ar ?_
 exact l5 hQ [0] (mc 0 U mn) U U
theorem Mx (f:Int) (tsA:OA) (tsN tsC:Nat):
 nG Tryz.prog 198 [(vA (eM.cells (eM.mk (bL.mk (bE.mk tsA tsN tsC))))),(vI f)] [] (fun (x:Nat×Nat)=>(Value.func (.func 216) [].toArray [(Value.pointer (some ⟨x.1,0,none⟩)),(Value.pointer (some ⟨x.2,0,none⟩))].toArray)) (fun (x:Nat×Nat)=>True) (fun (x:Nat×Nat)=>[(cz x.1 3 [(vI f)]),(cz x.2 251 (eM.cells (eM.mk (bL.mk (bE.mk tsA tsN tsC)))))]):=by
 refine eO kr Tryz.func198 U U fun E Q hQ hN=>?_
 try dsimp only
 refine WS fun _ A=>eJ U fun C=>wM U U fun D=>bI 1 U<|RK A<|WS fun _ B=>rS (FU U)<|rP 1 [] mn ?_
 refine RK B<|ar<|LX hQ (D,C) [0,1] [] mn U U U U ?_
 trivial
theorem G5 (ts:List au) (tsA:OA) (tsC:Nat) (f:Int) (g1 g2:Nat) (hst: ∀ x∈ts,bZ x) (hlen:ts.length≤12) (hf:0≤f∧f≤ts.length):
 NM Tryz.prog 216 [] [(vP g1),(vP g2)] [(rd tsA ts.length 9 (ts.map au.cells)),(cz g1 3 [(vI f)]),(cz g2 251 (eM.cells (eM.mk (bL.mk (bE.mk tsA ts.length tsC)))))] (ux ts f.toNat):=by
 refine EY kr Tryz.func216 U U fun l J Z A0 p Q hY g d hQ hN=>?_
 try dsimp only
 refine WS fun _ h=>AL U dU fun n=>AL U dU fun o=>RK h<|WS fun _ i=>rP 2 [] (mr 4 U mn) ?_
 refine RK i<|aH ?_
 have P:(0≤ts.length-f.toNat)∧(J 0 A0)∧(Fo A0 p A0):=by exact ⟨Nat.zero_le _,g,d⟩
 have m:(vI (f+(0:Int)))=(vI f):=by exact cI I
 refine bS (ι:={z:Nat×aA // (z.1≤ts.length-f.toNat)∧(J z.1 z.2)∧(Fo A0 p z.2)}) [0,1,2,4,5] [3,4,5] U U (fun z=>[(6,(vI (f+(z.1.1:Int))))]) (fun z=>[(cz o 38 (ai.cells (gL ts f.toNat z.1.1))),(cz n 38 (ai.cells (eP ts f.toNat z.1.1))),z.1.2]) (fun _=>rfl) (fun _=>rfl) (fun z=>ts.length-f.toNat-z.1.1) ⟨(0,A0),P⟩ (bw U m<|dp.nil _) (aR [3,4,5,0,1,2]) ?_
 clear P
 rintro ⟨⟨k,A⟩,⟨W,R,S⟩⟩ J6 V
 try dsimp only at W R S
 try dsimp only
 refine aq fun _ j=>WS fun _ X=>rP 3 [0,1] (mc 4 U (mc 3 U mn)) ?_
 refine Fy 5 hY R S U U U (zq I) U U (fun B9 C B=>?_) (fun B9 C B=>?_)
 rotate_left 1
 ·refine rP 8 [] mn ?_
  refine RK X<|cq U<|bQ<|ag<|ag<|aI ?_
  refine hN _ _ _ (j0 (vs:=[]) trivial fun w hs=>Ou 5 U C B hs)
 refine rP 8 [] (mr 2 U mn) ?_
 refine RK X<|bR U (aU fun c=>?_) (aT fun c=>?_)
 ·refine bQ<|ag<|ag<|aI ?_
  refine hN _ _ _ (j0 (vs:=[]) trivial fun w hs=>RX 5 U (by rw [uN]; have e:ts.length-f.toNat+1=k+1:=I; rw [e]; exact C) B hs)
 refine WK j<|aq fun _ M=>aH<|k6 cg [0,1,2,3,4,5,6,7,10,11,12,13,14,15,16,17] [8,9,18,19,20,21] [true,false,false,false,false,false,false,false,true,false,false,false,false,false,false,false] [8,9,18] [(rd tsA ts.length 9 (ts.map au.cells)).ro,(cz g1 3 [(vI f)]).ro,(cz g2 251 (eM.cells (eM.mk (bL.mk (bE.mk tsA ts.length tsC))))).ro,B9] [(rd tsA ts.length 9 (ts.map au.cells)).ro,(cz g1 3 [(vI f)]).ro,(cz g2 251 (eM.cells (eM.mk (bL.mk (bE.mk tsA ts.length tsC))))).ro,(cz o 38 (ai.cells (gL ts f.toNat k))),(cz n 38 (ai.cells (eP ts f.toNat k))),B9] kr (aR [0,1,2,5]) (aR [0,1,2,3,4,5])<|fS U (LW 4 U bU U U)<|eS U (FA 0 U eU U)<|eS U (FA 0 U eU U)<|eS U (IE (vS tsA ts.length tsC) 2 U bU U U)<|eS U (MV U) ?_
 obtain ⟨x,hx⟩:=aC ts (f.toNat+k) I
 have a:=bO au.cells hx
 refine eS U (IA (f.toNat+k) U (ay 0 U) wG dc I I) ?_
 have L:=hst x (aM hx)
 refine eS U (pO (((f.toNat+k)*9)+1) U (ay 0 U) (Nat.mul_pos I dc) eU U)<|eS U (jD (f.toNat+k) 1 (ai.cells x.jJ) U bU (ay 0 U) a U dc U U)<|fS U (LW 3 U bU U U)<|eS U (FA 0 U eU U)<|eS U (FA 0 U eU U)<|eS U (IE (vS tsA ts.length tsC) 2 U bU U U)<|eS U (MV U)<|eS U (IA (f.toNat+k) U (ay 0 U) wG dc I I)<|eS U (pO (((f.toNat+k)*9)+3) U (ay 0 U) (Nat.mul_pos I dc) eU U)<|eS U (jD (f.toNat+k) 3 (ai.cells x.kK) U bU (ay 0 U) a U dc U U)<|eo U<|fp [8,18] kr (cK ?_<|cK ?_<|gV)
 rotate_left 1
 ·refine we (rem':=[8,9,19,20,21]) U kr fun T14 N=>ew (xs:=[.tmp 39]) (cs:=(ai.cells x.kK)) U kX dU U U U U (by simp [Value.cells,ai.bk]) U U fun T=>aK (N _ _ (aR [1,2,3,6]) (aR [1,2,3,4,5,6]) ?_)
  refine N1 8<|we (rem':=[9,19,20,21]) U kr fun T16 D=>ew (xs:=[.tmp 29]) (cs:=(ai.cells x.jJ)) U kX dU U U U U (by simp [Value.cells,ai.bk]) U U fun AA=>aK (D _ _ (aR [2,3,4,7]) (aR [2,3,4,5,6,7]) ?_)
  refine N1 9<|we (rem':=[19,20,21]) U kr fun T18 O=>?_
  refine rS (CL (dB.eq (p7 (eP ts f.toNat k) ([x.jJ]) (some ⟨AA,0,none⟩) 1 (by exact qU hst I) (by intro z hz; simp only [cE] at hz; subst hz; exact vX L) sm) n_) (aD (bx 0 rfl rfl (by simp [ai.bk]) rfl)<|aL) rfl) ?_
  refine aK (O _ _ (aR [2,3,4,7]) (aR [2,3,4,5,6,7]) ?_)
  refine N1 19<|NO U U [20,21] fun T19 E=>?_
  refine rS (CL (dB.eq (p7 (gL ts f.toNat k) ([x.kK]) (some ⟨T,0,none⟩) 1 (by exact wX hst I) (by intro z hz; simp only [cE] at hz; subst hz; exact vo L) sm) n_) (aD (bx 1 rfl rfl (by simp [ai.bk]) rfl)<|aL) rfl) ?_
  refine aK (E _ _ (aR [2,3,4,7]) ?_)
  refine N1 20<|NO U U [21] fun T20 F=>PA U cT U<|aK (F _ _ (aR [2,3,4,7]) ?_)
  refine N1 21<|NO U U [] fun T21 G=>G1 U cT U<|aK (G _ _ (aR [2,3,4,7]) ?_)
  refine kG<|aP<|KK M ?_
  have H:(ai.cells (mV (eP ts f.toNat k) x.jJ))=(ai.cells (eP ts f.toNat (k+1))):=by rw [pQ hx]
  rw [H]
  have AB:(ai.cells (mV (gL ts f.toNat k) x.kK))=(ai.cells (gL ts f.toNat (k+1))):=by rw [pP hx]
  rw [AB]
  refine aw<|rP 3 [] mn ?_
  refine aK ?_
  have K:(vI (f+(((k+1):Nat):Int)))=(vI ((f+(k:Int))+1)):=by exact cI I
  refine bu (V ⟨((k+1),B9),⟨I,C,B⟩⟩ _ _ _ U os (cP 5<|bw U K<|dp.nil _) (aR [2,3,4,5,6,7]))
 refine we (rem':=[9,18,19,20,21]) U kr fun T14 N=>ew (xs:=[.tmp 29]) (cs:=(ai.cells x.jJ)) U kX dU U U U U (by simp [Value.cells,ai.bk]) U U fun T=>aK (N _ _ (aR [1,2,3,6]) (aR [1,2,3,4,5,6]) ?_)
 refine fp [9,18] kr (cK ?_<|cK ?_<|gV)
 rotate_left 1
 ·refine we (rem':=[9,19,20,21]) U kr fun T16 D=>ew (xs:=[.tmp 39]) (cs:=(ai.cells x.kK)) U kX dU U U U U (by simp [Value.cells,ai.bk]) U U fun AA=>aK (D _ _ (aR [2,3,4,7]) (aR [2,3,4,5,6,7]) ?_)
  refine N1 9<|we (rem':=[19,20,21]) U kr fun T18 O=>?_
  refine rS (CL (dB.eq (p7 (eP ts f.toNat k) ([x.jJ]) (some ⟨T,0,none⟩) 1 (by exact qU hst I) (by intro z hz; simp only [cE] at hz; subst hz; exact vX L) sm) n_) (aD (bx 1 rfl rfl (by simp [ai.bk]) rfl)<|aL) rfl) ?_
  refine aK (O _ _ (aR [2,3,4,7]) (aR [2,3,4,5,6,7]) ?_)
  refine N1 19<|NO U U [20,21] fun T19 E=>?_
  refine rS (CL (dB.eq (p7 (gL ts f.toNat k) ([x.kK]) (some ⟨AA,0,none⟩) 1 (by exact wX hst I) (by intro z hz; simp only [cE] at hz; subst hz; exact vo L) sm) n_) (aD (bx 0 rfl rfl (by simp [ai.bk]) rfl)<|aL) rfl) ?_
  refine aK (E _ _ (aR [2,3,4,7]) ?_)
  refine N1 20<|NO U U [21] fun T20 F=>PA U cT U<|aK (F _ _ (aR [2,3,4,7]) ?_)
  refine N1 21<|NO U U [] fun T21 G=>G1 U cT U<|aK (G _ _ (aR [2,3,4,7]) ?_)
  refine kG<|aP<|KK M ?_
  have H:(ai.cells (mV (eP ts f.toNat k) x.jJ))=(ai.cells (eP ts f.toNat (k+1))):=by rw [pQ hx]
  rw [H]
  have AB:(ai.cells (mV (gL ts f.toNat k) x.kK))=(ai.cells (gL ts f.toNat (k+1))):=by rw [pP hx]
  rw [AB]
  refine aw<|rP 3 [] mn ?_
  refine aK ?_
  have K:(vI (f+(((k+1):Nat):Int)))=(vI ((f+(k:Int))+1)):=by exact cI I
  refine bu (V ⟨((k+1),B9),⟨I,C,B⟩⟩ _ _ _ U os (cP 5<|bw U K<|dp.nil _) (aR [2,3,4,5,6,7]))
 refine we (rem':=[18,19,20,21]) U kr fun T16 D=>?_
 refine rS (CL (dB.eq (p7 (eP ts f.toNat k) ([x.jJ]) (some ⟨T,0,none⟩) 1 (by exact qU hst I) (by intro z hz; simp only [cE] at hz; subst hz; exact vX L) sm) n_) (aD (bx 0 rfl rfl (by simp [ai.bk]) rfl)<|aL) rfl) ?_
 refine aK (D _ _ (aR [1,2,3,6]) (aR [1,2,3,4,5,6]) ?_)
 refine N1 18<|we (rem':=[19,20,21]) U kr fun T17 Y=>ew (xs:=[.tmp 39]) (cs:=(ai.cells x.kK)) U kX dU U U U U (by simp [Value.cells,ai.bk]) U U fun b=>aK (Y _ _ (aR [2,3,4,7]) (aR [2,3,4,5,6,7]) ?_)
 refine N1 19<|NO U U [20,21] fun T19 E=>?_
 refine rS (CL (dB.eq (p7 (gL ts f.toNat k) ([x.kK]) (some ⟨b,0,none⟩) 1 (by exact wX hst I) (by intro z hz; simp only [cE] at hz; subst hz; exact vo L) sm) n_) (aD (bx 0 rfl rfl (by simp [ai.bk]) rfl)<|aL) rfl) ?_
 refine aK (E _ _ (aR [2,3,4,7]) ?_)
 refine N1 20<|NO U U [21] fun T20 F=>PA U cT U<|aK (F _ _ (aR [2,3,4,7]) ?_)
 refine N1 21<|NO U U [] fun T21 G=>G1 U cT U<|aK (G _ _ (aR [2,3,4,7]) ?_)
 refine kG<|aP<|KK M ?_
 have H:(ai.cells (mV (eP ts f.toNat k) x.jJ))=(ai.cells (eP ts f.toNat (k+1))):=by rw [pQ hx]
 rw [H]
 have AB:(ai.cells (mV (gL ts f.toNat k) x.kK))=(ai.cells (gL ts f.toNat (k+1))):=by rw [pP hx]
 rw [AB]
 refine aw<|rP 3 [] mn ?_
 refine aK ?_
 have K:(vI (f+(((k+1):Nat):Int)))=(vI ((f+(k:Int))+1)):=by exact cI I
 refine bu (V ⟨((k+1),B9),⟨I,C,B⟩⟩ _ _ _ U os (cP 5<|bw U K<|dp.nil _) (aR [2,3,4,5,6,7]))
theorem Lt (ts:List au) (tsA:OA) (tsC:Nat) (f t:Int) (hst: ∀ x∈ts,bZ x) (hlen:ts.length≤12) (hf:0≤f∧f≤t∧t≤ts.length):
 dB Tryz.prog 170 [(vA (eM.cells (eM.mk (bL.mk (bE.mk tsA ts.length tsC))))),(vI f),(vI t)] [(rd tsA ts.length 9 (ts.map au.cells))] (vT [(vA (ai.cells (eP ts f.toNat (t-f).toNat))),(vA (ai.cells (gL ts f.toNat (t-f).toNat)))]):=by
 refine bJ kr Tryz.func170 U U fun w0 Q hQ hN=>?_
 try dsimp only
 refine WS fun _ M=>eJ U fun a=>wM U U fun b=>wM U U fun d=>AL U dU fun e=>AL U dU fun g=>RK M<|aq fun _ AA=>WS fun _ V=>rP 2 [0,1] (mc 4 U (mc 3 U mn)) ?_
 refine cX (Mx f tsA ts.length tsC) (aL) U fun u n=>?_
 obtain ⟨B,C⟩:=u
 try dsimp only
 refine RK V<|aH<|jl 7 U (by exact fun _ h=>h) ?_
 refine FI (L0:=[(3,(vP a)),(4,(vP b)),(5,(vP d)),(6,(vP e)),(7,(vP g))]) (F:=[(rd tsA ts.length 9 (ts.map au.cells)).ro,(cz B 3 [(vI f)]),(cz C 251 (eM.cells (eM.mk (bL.mk (bE.mk tsA ts.length tsC)))))]) (xs:=(ux ts f.toNat)) (fun k (y:ai×ai×Int)=>(k≤(t-f).toNat)∧(y.2.2=f+(k:Int))) (fun k y=>[(cz g 38 (ai.cells y.2.1)),(cz e 38 (ai.cells y.1)),(cz d 3 [(vI t)]),(cz b 3 [(vI y.2.2)]),(cz a 251 (eM.cells (eM.mk (bL.mk (bE.mk tsA ts.length tsC))))),(rd tsA ts.length 9 (ts.map au.cells)).ro]) (fun c (z:Unit)=>(c= .exit 0)) (fun _ z=>[(cz g 38 (ai.cells (gL ts f.toNat (t-f).toNat))),(cz e 38 (ai.cells (eP ts f.toNat (t-f).toNat))),(cz d 3 [(vI t)]),(cz b 3 [(vI t)]),(cz a 251 (eM.cells (eM.mk (bL.mk (bE.mk tsA ts.length tsC))))),(rd tsA ts.length 9 (ts.map au.cells)).ro]) [3,4,5,6,7,8] [0,1,2] (eQ,eQ,f) U U (G5 ts tsA tsC f B C (by first|assumption|omega|(simp; done)) (by first|assumption|omega|(simp; done)) I) U U U (by exact ⟨Nat.zero_le _,sm⟩) (by simp only [List.forall_mem_cons,List.not_mem_nil,false_imp_iff,implies_true,and_true]; exact ⟨⟨_,sm,(dI (cb _))⟩,⟨_,sm,(cb _)⟩,⟨_,sm,(cb _)⟩⟩) (by exact EF) U (bD U) ?_ ?_ ?_ ?_
 rotate_left 1
 ·rintro q ⟨v,z2,m⟩ J
  obtain ⟨A,K⟩:=J
  try dsimp only at A K
  try dsimp only
  exfalso; rw [uN] at A; omega
 ·rintro r id _ Y
  have hc:=Y
  cases hc
  try dsimp only
  refine aI<|KK AA<|aq fun _ D=>dH cg [2,3] [] [] [0,1,2,3,4,5,6,7,8,9] [] U U U U U<|eS U (LW 5 U bU U U)<|eS U (LW 4 U bU U U)<|eo U<|cp U fun T30 E=>G1 U cT U<|aK (E _ _ (aR [0,1,2,3,4,5,6,7,8,9]) ?_)
  refine cp U fun T31 G=>Q5 U cT U<|aK (G _ _ (aR [0,1,2,3,4,5,6,7,8,9]) ?_)
  refine fK U<|KK D<|ar<|hQ _ _ _ (rj 0 U U<|j0 (vs:=[(vA (ai.cells (eP ts f.toNat (t-f).toNat))),(vA (ai.cells (gL ts f.toNat (t-f).toNat)))]) ⟨⟨_,U,.inl ⟨_,_,bU,pZ (vs:=(ai.cells (eP ts f.toNat (t-f).toNat))) 5 U U,U,U⟩⟩,⟨_,U,.inl ⟨_,_,bU,pZ (vs:=(ai.cells (gL ts f.toNat (t-f).toNat))) 4 U U,U,U⟩⟩,trivial⟩ fun w hs=>Co ?_ hs)
  show (vT [(vA (ai.cells (eP ts f.toNat (t-f).toNat))),(vA (ai.cells (gL ts f.toNat (t-f).toNat)))])=(vT [(vA (ai.cells (eP ts f.toNat (t-f).toNat))),(vA (ai.cells (gL ts f.toNat (t-f).toNat)))])
  clear hs w hQ hN G T31 E T30 D V AA M
  rfl
 ·rintro s _ Z
  cases Z
 rintro k x ⟨v,z2,m⟩ l ra rb S w1 K13 Qr14 hx AB N H L j
 obtain ⟨hk,rfl⟩:=GH hx
 obtain ⟨A,K⟩:=AB
 try dsimp only at A K
 try dsimp only
 refine WS fun _ O=>AL U dU fun o=>eN U cT U<|RK O<|aw<|AL U dU fun p=>eN U cT U<|aK<|jB (fun _ _ h=>h) (aR [2,0,1,3,4,5,6,7,8])<|bu (N _ _ ?_)
 refine aH<|aq fun _ P=>aq fun _ R=>dH cg [2,3] [] [] [0,1,2,5,6,7,8] [] U U U U U<|eS U (LW 2 U bU U U)<|eS U (LW 1 U bU U U)<|eo U<|cp U fun T21 W=>Q5 U cT U<|aK (W _ _ (aR [0,1,2,5,6,7,8]) ?_)
 refine cp U fun T22 X=>RG U cT U<|aK (X _ _ (aR [0,1,2,5,6,7,8]) ?_)
 refine fK U<|KK R<|WS fun _ T=>rP 3 [0,1] (mc 6 U (mc 5 U mn)) ?_
 refine RK T<|ck U (aT fun i=>?_) (aU fun i=>?_)
 ·refine bQ<|ag<|fG U ?_
  rw [show m=t from by omega]
  obtain rfl:k=(t-f).toNat:=by omega
  exact L _ () _ _ (by exact U) (aR [0,3,4,5,6,7,8])
 refine WK P<|aw<|rP 2 [] (mc 6 U mn) ?_
 refine VS U FT U U<|aK<|aP ?_
 exact H ((eP ts f.toNat k),(gL ts f.toNat k),(m+1)) _ _ (by refine ⟨I,?_⟩; dsimp only; omega) (aR [0,3,4,5,6,7,8])
end
section
open Go.RowKit
theorem Gx (i:Int) (s:cH) (ts:List au) (tsA:OA) (tsC g1:Nat) (hst: ∀ x∈ts,bZ x) (hlen:ts.length≤12):
 dB Tryz.prog 197 [(vI i),(vA (cH.cells s)),(vP g1)] [(rd tsA ts.length 9 (ts.map au.cells)),(cz g1 251 (eM.cells (eM.mk (bL.mk (bE.mk tsA ts.length tsC)))))] (vB (!(decide (fP ts s)))):=by
 refine bJ kr Tryz.func197 U U fun AA Q hQ hN=>?_
 try dsimp only
 refine WS fun _ C=>eJ U fun G=>rP 1 [] mn ?_
 refine RK C<|aq fun _ A=>k6 cg [0,1,2,3,4,5,6] [7,8,9,10,11,12,13,14,15,16,17,18,19,20,21,22,23,24,25,26] [false,false,false,false,false,false,false] [] [(cz G 135 (cH.cells s)),(rd tsA ts.length 9 (ts.map au.cells)).ro,(cz g1 251 (eM.cells (eM.mk (bL.mk (bE.mk tsA ts.length tsC))))).ro] [] kr (aR [0,1,2]) (aR [])<|eS U (FA 0 U eU U)<|eS U (FA 0 U eU U)<|eS U (IE (vS tsA ts.length tsC) 2 U bU U U)<|eS U (LN U Pd)<|eS U (BI U (xj ⟨I,I⟩))<|eS U (FA 0 U eU U)<|eS U (L1 (vI s.bG) 0 U bU U U)<|eo U<|N1 7<|NO U U [8,9,10,11,12,13,14,15,16,17,18,19,20,21,22,23,24,25,26] fun T4 D=>ew (xs:=[.tmp 12]) (cs:=[(vI s.bG)]) U dy j7 U U U U (by simp [Value.cells]) U U fun H=>RD D 1 U<|P6 [14,15,16,17,18,19,20,21,22,23,24,25,26,27,28,29,30,31,5] kr kr U _ U U (aR [1,2,3]) ?_
 refine dS (CL (dB.eq (px 0 ((ts.length:Int)-1) ([s.bG]) (some ⟨H,0,none⟩) 1 (by (simp; done))) cy) (aD (bx 0 U U (by simp [bP]) U)<|aL) U) ?_
 refine dP 2 [] mn ?_
 refine gP (t:=16) U (aX fun B=>?_) (aW fun B=>?_)
 ·refine kR 9 U<|dP 7 [] mn ?_
  refine cx<|RK A<|ar<|Q1 hQ U U U ?_
  (refine cB ?_; rw [bj (Bj I)]; rfl)
 refine kR 1 U<|dS (LP (ai.cells s.lX) 1 U bU U U U)<|dP 5 [0,1] (mr 3 U (mc 1 U mn)) ?_
 obtain ⟨x,hx⟩:=aC ts ((s.bG).toNat) I
 have E:=bO au.cells hx
 refine dS (IA ((s.bG).toNat) U (ay 2 U) wG dc I I)<|dS (pO ((((s.bG).toNat)*9)+1) U (ay 2 U) (Nat.mul_pos I dc) eU U) ?_
 have F:=(hst x (aM hx)).2.1
 simp only [ei] at F
 refine dS (pO ((((s.bG).toNat)*9)+1) U (ay 2 U) (Nat.mul_pos I dc) eU U)<|dS (gD ((s.bG).toNat) 1 (vI x.jJ.Lo) U bU (ay 2 U) E U dc U)<|kR 1 U<|dS (CL (wJ s.lX 0 (x.jJ.Lo-1)) (aL) U)<|dP 3 [] mn ?_
 refine cx<|RK A<|ar<|Q1 hQ U U U ?_
 exact congrArg (fun b=>vB (!b)) (gU.2 (C7 I hx).symm)
theorem Ez (l:List cH) (lA:OA) (lC:Nat) (f:Value) (p:Int→cH→Bool) (X:aA) (hf: ∀ x0 x1,(∃ k:Nat,x0=(k:Int)∧l[k]? =some x1)→D4 Tryz.prog f [.int .i64 x0,.agg (cH.cells x1).toArray] [X] (.bool (p x0 x1))) (hlen:l.length≤1000000):
 nG Tryz.prog 196 [(vS lA l.length lC),f] [(rd lA l.length 3 (l.map cH.cells)),X] (fun (x:(OA)×Nat)=>(vS x.1 ((JQ (fun jj yy=>p (jj:Int) yy) l).length) x.2)) (fun (x:(OA)×Nat)=>True) (fun (x:(OA)×Nat)=>[(own x.1 x.2 3 1 ((JQ (fun jj yy=>p (jj:Int) yy) l).map iC))]):=by
 refine eO kr Tryz.func196 U U fun W Q hQ hN=>?_
 try dsimp only
 refine WS fun _ L=>bI 1 U<|RK L<|WS fun _ M=>bI 1 U<|RK M<|aq fun _ N=>WS fun _ O=>rP 3 [] mn ?_
 refine RK O<|aH<|eX 3 1 ?_
 have A:(0≤l.length):=by exact Nat.zero_le _
 refine bS (ι:={z:Nat×(OA)×Nat // (z.1≤l.length)}) [0,1,8,9] [1,2] U U (fun z=>[(5,(vS z.1.2.1 ((tM (fun jj yy=>p (jj:Int) yy) l z.1.1).length) z.1.2.2)),(10,(vI (z.1.1:Int)))]) (fun z=>[(own z.1.2.1 z.1.2.2 3 1 ((tM (fun jj yy=>p (jj:Int) yy) l z.1.1).map iC))]) (fun _=>rfl) (fun _=>rfl) (fun z=>l.length-z.1.1) ⟨(0,none,0),A⟩ (bD U) (aR [1,2,0]) ?_
 clear A
 rintro ⟨⟨i,a,c⟩,B⟩ J5 C
 try dsimp only at B
 try dsimp only
 refine WS fun _ P=>rP 1 [] mn ?_
 refine RK P<|aq fun _ R=>bR U (aU fun V=>?_) (aT fun V=>?_)
 ·refine bQ<|ag<|ag<|aI<|KK N<|WS fun _ F=>?_
  rw [NU (p:=fun (i:Nat) x=>p (i:Int) x) (show i=l.length by omega)]
  refine rP 2 [] mn ?_
  refine RK F<|ar<|LX hQ (a,c) [2] [] mn U U U U ?_
  trivial
 refine WK R<|aq fun _ G=>aH<|WS fun _ D=>rP 1 [] mn ?_
 obtain ⟨x,hx⟩:=aC l i I
 have S:=bO cH.cells hx
 refine rS (IA i U (ay 0 U) IL dc I I)<|rS (jD i 0 (cH.cells x) U bU (ay 0 U) S U dc U U)<|AL U Fs fun T=>bI 1 U<|eN U OK U<|RK D<|WS fun _ E=>rP 3 [] (mc 0 U mn) ?_
 refine rS (SX (qi U U U (hf (i:Int) x ⟨i,U,hx⟩) (bo [2])) U U)<|RK E<|bR U (fun hp=>?_) (fun hp=>?_)
 ·refine cj<|aP<|KK G<|aw ?_
  rw [← MY (p:=fun (i:Nat) x=>p (i:Int) x) hx hp]
  refine rP 2 [] mn ?_
  refine aK ?_
  have AB:(vI (((i+1):Nat):Int))=(vI ((i:Int)+1)):=by exact cI I
  refine bu (C ⟨((i+1),a,c),(by first|omega|(simp only []; omega))⟩ _ _ _ U os (cP 5<|bw U AB<|dp.nil _) (aR [1,2,3]))
 refine aw<|rP 2 [] mn ?_
 refine ew (xs:=[.tmp 20]) (cs:=[(vI (i:Int))]) U dy j7 U U U U (by simp [Value.cells]) U U fun AA=>?_
 refine ed (es2:=(List.map iC (tM (fun jj yy=>p (jj:Int) yy) l (i+1)))) (m':=(tM (fun jj yy=>p (jj:Int) yy) l (i+1)).length) 4 U U U te U U sm (bx (es:=List.map iC [(i:Int)]) 0 U U (by simp [bP]) U) (lU _) (by have:=C4 (p:=fun (i:Nat) x=>p (i:Int) x) (l:=l) (n:=i); simp; omega) (by have:=C4 (p:=fun (i:Nat) x=>p (i:Int) x) (l:=l) (n:=i); simp only [maxLen]; omega) (by rw [Jt hx hp]; simp) sm U fun J K=>?_
 try dsimp only
 refine bI 1 U<|aK<|aP<|KK G<|aw<|rP 2 [] mn ?_
 refine aK ?_
 have H:(vI (((i+1):Nat):Int))=(vI ((i:Int)+1)):=by exact cI I
 refine bu (C ⟨((i+1),J,K),(by first|omega|(simp only []; omega))⟩ _ _ _ U os (cP 5<|bw U H<|dp.nil _) (aR [2,3,4]))
theorem BM (ts:List au) (tsA:OA) (tsC:Nat) (l:List cH) (lA:OA) (lC:Nat) (hst: ∀ x∈ts,bZ x) (hlen:ts.length≤12) (hl:l.length≤4):
 dB Tryz.prog 169 [(vA (eM.cells (eM.mk (bL.mk (bE.mk tsA ts.length tsC))))),(vS lA l.length lC)] [(rd tsA ts.length 9 (ts.map au.cells)),(rd lA l.length 3 (l.map cH.cells))] (vB (decide (∀ s∈l,fP ts s))):=by
 refine bJ kr Tryz.func169 U U fun J Q hQ hN=>?_
 try dsimp only
 refine WS fun _ B=>eJ U fun A=>bI 1 U<|RK B<|WS fun _ C=>rP 1 [] mn ?_
 refine rS (FU U) ?_
 refine cX (Ez l lA lC (Value.func (.func 197) [].toArray [(vP A)].toArray) (fun E D=>(!(decide (fP ts D)))) (dE [(rd tsA ts.length 9 (ts.map au.cells)),(cz A 251 (eM.cells (eM.mk (bL.mk (bE.mk tsA ts.length tsC)))))]) (by intro E D _; exact k7 (fi:=[]) (ca:=[(vP A)]) (j1 (Gx E D ts tsA tsC A (by first|assumption|omega) (by first|assumption|omega)) (bo [0,1]))) I) (dM 2 U U<|aD (jZ (bo [1,0]))<|aL) U fun G F=>?_
 obtain ⟨H,AA⟩:=G
 try dsimp only
 refine rP 3 [] mn ?_
 refine RK C<|ar<|Q1 hQ U U U ?_
 exact congrArg Value.bool (decide_eq_decide.2 (by rw [show ∀ n:Nat,((n:Int)=0)↔n=0 from fun n=>by omega,Gm]; simp only [Bool.not_eq_false',decide_eq_true_eq]; exact ⟨fun h s hs=>by obtain ⟨k,hk⟩:=List.getElem?_of_mem hs; exact h k s hk,fun h k s hk=>h s (List.mem_of_getElem? hk)⟩))
theorem DN (z:ai) (hz:lZ z):
 dB Tryz.prog 199 [(vA (ai.cells z))] [] (vA (ai.cells (oy z))):=by
 unfold lZ at hz
 refine bJ kr Tryz.func199 U U fun E Q hQ hN=>?_
 try dsimp only
 refine WS fun _ A=>eJ U fun C=>AL U dU fun D=>RK A<|WS fun _ B=>eV 2 [] (mc 1 U mn) U<|rS (NG U ⟨I,I⟩)<|rP 2 [] (mc 1 U mn) ?_
 refine rS (NG U ⟨I,I⟩)<|rS (SX (bp (xs:=[(0,.tmp 5),(1,.tmp 8)]) (cs:=(ai.cells (ai.mk (-z.Hi) (-z.Lo)))) U U (bq gM U)) U U)<|eN U cT U<|RK B<|ar ?_
 exact Dg hQ [0] (mc 0 U mn) U U
theorem Sg (ts:List au) (tsA:OA) (tsC:Nat) (s:cH) (hlen:ts.length≤1000000) (hside: ∀ x∈ts,0≤x.iU∧x.iU≤255):
 dB Tryz.prog 141 [(vA (bL.cells (bL.mk (bE.mk tsA ts.length tsC)))),(vA (cH.cells s))] [(rd tsA ts.length 9 (ts.map au.cells))] (vT [(vA (ai.cells (PH ts s))),(vI (FE ts s))]):=by
 refine bJ kr Tryz.func141 U U fun Z Q hQ hN=>?_
 try dsimp only
 refine WS fun _ K=>eJ U fun V=>eJ U fun W=>AL U dU fun X=>bI 1 U<|RK K<|WS fun _ L=>eV 1 [] (mc 2 U mn) U<|rS (CL (Fg ts tsA tsC hlen hside) (bo [3]) U)<|bI 3 U<|AL U JZ fun Y=>eN U Kp U<|bI 1 U<|RK L<|aq fun _ M=>WS fun _ N=>rP 2 [] mn ?_
 refine RK N<|ck U (aX fun he=>?_) (aW fun he=>?_)
 ·refine WS fun _ O=>rS (SX (bp (xs:=[]) (cs:=(ai.cells (ai.mk 0 0))) U U (bq gM U)) U U)<|bI 1 U<|qN U cT U<|rP 1 [] mn ?_
  refine RK O<|ar<|l5 hQ [0] (mc 1 U mn) U ?_
  (have e:=IT (s:=s) (zM he).1; rw [e.1,e.2,(zM he).2]<;>rfl)
 refine WK M<|aq fun _ C=>WS fun _ D=>?_
 have B:=Dn he
 have H:=ki B
 have R:=lh B
 refine rP 2 [0,1] (mc 0 U (mc 2 U mn)) ?_
 refine ew (xs:=[.tmp 20]) (cs:=(cH.cells s)) U IL Fs U U U U (by simp [Value.cells,cH.bk]) U U fun AB=>?_
 refine rS (CL (dB.eq (BM ts tsA tsC ([s]) (some ⟨AB,0,none⟩) 1 asm asm (by (simp; done))) DP) (dM 5 U U<|aD (bx 0 U U (by simp [cH.bk]) U)<|aL) U) ?_
 refine rP 1 [] mn ?_
 refine RK D<|ck U (aX fun A=>?_) (aW fun A=>?_)
 ·refine WS fun _ E=>rS (SX (bp (xs:=[]) (cs:=(ai.cells (ai.mk 0 0))) U U (bq gM U)) U U)<|GM U cT U<|rP 1 [] mn ?_
  refine RK E<|ar<|l5 hQ [0] (mc 2 U mn) U ?_
  (have e:=H8 B A; rw [e.1,e.2]<;>rfl)
 refine WK C<|WS fun _ F=>?_
 have AA:=A.1
 have P:=rh H A
 refine eV 3 [0,1] (mc 1 U (mc 3 U mn)) U<|rS (CL (Lt ts tsA tsC 0 s.bG asm asm I) (bo [5]) U)<|bI 3 U<|AL U dU fun S=>AL U dU fun T=>qN U cT U<|eN U cT U<|RK F<|WS fun _ G=>rP 2 [] (mc 1 U mn) ?_
 refine rS (LP (ai.cells s.lX) 5 U bU U U U)<|ew (xs:=[.tmp 34]) (cs:=(ai.cells s.lX)) U kX dU U U U U (by simp [Value.cells,ai.bk]) U U fun J=>?_
 refine rS (CL (dB.eq (p7 (eP ts (0:Int).toNat (s.bG-0).toNat) ([s.lX]) (some ⟨J,0,none⟩) 1 (by exact qU H I) (by intro z hz; simp only [cE] at hz; subst hz; exact P) sm) n_) (aD (bx 0 rfl rfl (by simp [ai.bk]) rfl)<|aL) rfl) ?_
 refine G1 U cT U<|rP 1 [] mn ?_
 refine RK G<|ar<|l5 hQ [0] (mc 5 U mn) U ?_
 (have e:=xw B A; rw [e.1,e.2]; unfold L4; rw [show (s.bG-0).toNat=s.bG.toNat by rw [Int.sub_zero]]<;>rfl)
theorem MC (ts:List au) (tsA:OA) (tsC:Nat) (p:cH) (q:cH) (hlen:ts.length≤1000000) (hside: ∀ x∈ts,0≤x.iU∧x.iU≤255):
 dB Tryz.prog 172 [(vA (bL.cells (bL.mk (bE.mk tsA ts.length tsC)))),(vA (cH.cells p)),(vA (cH.cells q))] [(rd tsA ts.length 9 (ts.map au.cells))] (vT [(vA (ai.cells (lg ts p q))),(vI (mu ts p q))]):=by
 refine bJ kr Tryz.func172 U U fun w Q hQ hN=>?_
 try dsimp only
 refine WS fun _ c=>eJ U fun r=>eJ U fun s=>eJ U fun t=>AL U dU fun u=>bI 1 U<|RK c<|WS fun _ d=>eV 1 [] (mc 3 U mn) U<|rS (CL (Fg ts tsA tsC hlen hside) (bo [4]) U)<|bI 3 U<|AL U JZ fun v=>eN U Kp U<|bI 1 U<|RK d<|aq fun _ g=>WS fun _ h=>rP 2 [] mn ?_
 refine RK h<|ck U (aX fun he=>?_) (aW fun he=>?_)
 ·refine WS fun _ G=>rS (SX (bp (xs:=[]) (cs:=(ai.cells (ai.mk 0 0))) U U (bq gM U)) U U)<|bI 1 U<|qN U cT U<|rP 1 [] mn ?_
  refine RK G<|ar<|l5 hQ [0] (mc 1 U mn) U ?_
  (have e:=vM (a:=p) (b:=q) (zM he).1; rw [e.1,e.2,(zM he).2]<;>rfl)
 refine WK g<|aq fun _ H=>WS fun _ AB=>?_
 have A:=Dn he
 have F:=ki A
 have j:=lh A
 refine rP 3 [0,1,2] (mc 0 U (mc 3 U (mc 2 U mn))) ?_
 refine ew (xs:=[.tmp 22,.tmp 23]) (cs:=((cH.cells p)++(cH.cells q))) U IL Fs U U U U (by simp [Value.cells,cH.bk]) U U fun X=>?_
 refine rS (CL (dB.eq (BM ts tsA tsC ([p,q]) (some ⟨X,0,none⟩) 2 asm asm (by (simp; done))) Et) (dM 6 U U<|aD (bx 0 U U (by simp [cH.bk]) U)<|aL) U) ?_
 refine rP 1 [] mn ?_
 refine RK AB<|ck U (aX fun D=>?_) (aW fun D=>?_)
 ·refine WS fun _ J=>rS (SX (bp (xs:=[]) (cs:=(ai.cells (ai.mk 0 0))) U U (bq gM U)) U U)<|GM U cT U<|rP 1 [] mn ?_
  refine RK J<|ar<|l5 hQ [0] (mc 2 U mn) U ?_
  (have e:=o3 A D; rw [e.1,e.2]<;>rfl)
 refine WK H<|WS fun _ K=>?_
 obtain ⟨hp,hq⟩:=D
 have n:=hp.1
 have o:=hq.1
 have i:=rh F hp
 have W:=rh F hq
 have V:=Ae i
 have B:=qU F (f:=(min p.bG q.bG).toNat) (k:=(max p.bG q.bG-min p.bG q.bG).toNat) I
 refine eV 5 [0,1,2] (mc 1 U (mc 4 U (mc 3 U mn))) U<|rS (MN U)<|eV 4 [0,1] (mc 4 U (mc 3 U mn)) U<|rS (MX U)<|rS (CL (Lt ts tsA tsC (min p.bG q.bG) (max p.bG q.bG) asm asm I) (bo [6]) U)<|bI 3 U<|AL U dU fun l=>AL U dU fun m=>qN U cT U<|eN U cT U<|RK K<|aq fun _ C=>WS fun _ L=>rP 5 [0,1] (mc 5 U (mc 6 U mn)) ?_
 refine RK L<|bR U (aU fun E=>?_) (aT fun E=>?_)
 ·refine WK C<|aq fun _ N=>dH cg [6,7,8] [] [] [0,1,2,3,5,6,7,8] [] U U U U U<|eS U (LW 1 U bU U U)<|eS U (FA 1 U eU U)<|eS U (LP (ai.cells q.lX) 4 U bU U U U)<|eS U (FA 1 U eU U)<|eS U (LP (ai.cells p.lX) 5 U bU U U U)<|eS U (CL (DN p.lX asm) (aL) U)<|eS U (AG U)<|eo U<|cp U fun T26 S=>ew (xs:=[.tmp 52,.tmp 55]) (cs:=((ai.cells q.lX)++(ai.cells (oy p.lX)))) U kX dU U U U U (by simp [Value.cells,ai.bk]) U U fun Z=>aK (S _ _ (aR [1,2,3,4,6,7,8,9]) ?_)
  refine cp U fun T28 T=>?_
  refine rS (CL (dB.eq (p7 (eP ts (min p.bG q.bG).toNat ((max p.bG q.bG)-(min p.bG q.bG)).toNat) ([q.lX,(oy p.lX)]) (some ⟨Z,0,none⟩) 2 (by first|exact B|exact Ae B) (by intro z hz; simp only [b_,List.not_mem_nil,or_false] at hz; rcases hz with rfl|rfl; exact W; exact V) sm) CS) (aD (bx 0 rfl rfl (by simp [ai.bk]) rfl)<|aL) rfl) ?_
  refine aK (T _ _ (aR [1,2,3,4,6,7,8,9]) ?_)
  refine cp U fun T29 AA=>G1 U cT U<|aK (AA _ _ (aR [1,2,3,4,6,7,8,9]) ?_)
  refine fK U<|KK N<|ar<|l5 hQ [0] (mc 5 U mn) U ?_
  (have e:=lV A ⟨hp,hq⟩; rw [e.1,e.2]; unfold kf xW; rw [if_neg E]<;>rfl)
 refine aw<|rP 1 [] (mc 1 U mn) ?_
 refine rS (CL (DN (eP ts (min p.bG q.bG).toNat ((max p.bG q.bG)-(min p.bG q.bG)).toNat) asm) (aL) U)<|qN U cT U<|RK C<|aq fun _ M=>dH cg [6,7,8] [] [] [0,1,2,3,5,6,7,8] [] U U U U U<|eS U (LW 1 U bU U U)<|eS U (FA 1 U eU U)<|eS U (LP (ai.cells q.lX) 4 U bU U U U)<|eS U (FA 1 U eU U)<|eS U (LP (ai.cells p.lX) 5 U bU U U U)<|eS U (CL (DN p.lX asm) (aL) U)<|eS U (AG U)<|eo U<|cp U fun T21 O=>ew (xs:=[.tmp 52,.tmp 55]) (cs:=((ai.cells q.lX)++(ai.cells (oy p.lX)))) U kX dU U U U U (by simp [Value.cells,ai.bk]) U U fun Y=>aK (O _ _ (aR [1,2,3,4,6,7,8,9]) ?_)
 refine cp U fun T23 P=>?_
 refine rS (CL (dB.eq (p7 (oy (eP ts (min p.bG q.bG).toNat ((max p.bG q.bG)-(min p.bG q.bG)).toNat)) ([q.lX,(oy p.lX)]) (some ⟨Y,0,none⟩) 2 (by first|exact B|exact Ae B) (by intro z hz; simp only [b_,List.not_mem_nil,or_false] at hz; rcases hz with rfl|rfl; exact W; exact V) sm) CS) (aD (bx 0 rfl rfl (by simp [ai.bk]) rfl)<|aL) rfl) ?_
 refine aK (P _ _ (aR [1,2,3,4,6,7,8,9]) ?_)
 refine cp U fun T24 R=>G1 U cT U<|aK (R _ _ (aR [1,2,3,4,6,7,8,9]) ?_)
 refine fK U<|KK M<|ar<|l5 hQ [0] (mc 5 U mn) U ?_
 (have e:=lV A ⟨hp,hq⟩; rw [e.1,e.2]; unfold kf xW; rw [if_pos E]<;>rfl)
theorem r8 (ts:List au) (tsA:OA) (tsC:Nat) (s:cH) (hst: ∀ x∈ts,bZ x) (hlen:ts.length≤12):
 dB Tryz.prog 158 [(vA (bL.cells (bL.mk (bE.mk tsA ts.length tsC)))),(vA (cH.cells s))] [(rd tsA ts.length 9 (ts.map au.cells))] (vB (decide (fP ts s))):=by
 refine bJ kr Tryz.func158 U U fun H Q hQ hN=>?_
 try dsimp only
 refine WS fun _ C=>eJ U fun F=>eJ U fun G=>bI 1 U<|RK C<|aq fun _ A=>cW cg 22 kr<|kv 6 [0,1] (mc 0 U (mc 1 U mn)) U<|dS (CL (o2 s.bG 0 ((ts.length:Int)-1)) (aL) U)<|dP 1 [] mn ?_
 refine hP (t:=12) U (aU fun B=>?_) (aT fun B=>?_)
 ·refine kR 8 U<|dP 6 [] mn ?_
  refine cx<|RK A<|ar<|Q1 hQ U U U ?_
  (refine cB ?_; rw [bj (Bj I)])
 refine kR 1 U<|dS (LP (ai.cells s.lX) 0 U bU U U U)<|dP 4 [0,1] (mc 1 U (mc 0 U mn)) ?_
 obtain ⟨x,hx⟩:=aC ts ((s.bG).toNat) I
 have D:=bO au.cells hx
 refine dS (IA ((s.bG).toNat) U (ay 2 U) wG dc I I)<|dS (pO ((((s.bG).toNat)*9)+1) U (ay 2 U) (Nat.mul_pos I dc) eU U) ?_
 have E:=(hst x (aM hx)).2.1
 simp only [ei] at E
 refine dS (pO ((((s.bG).toNat)*9)+1) U (ay 2 U) (Nat.mul_pos I dc) eU U)<|dS (gD ((s.bG).toNat) 1 (vI x.jJ.Lo) U bU (ay 2 U) D U dc U)<|kR 1 U<|dS (CL (pW s.lX 0 (x.jJ.Lo-1)) (aL) U)<|dP 2 [] mn ?_
 refine cx<|RK A<|ar<|Q1 hQ U U U ?_
 exact cB (gU.2 (C7 I hx).symm)
theorem z9 (ts:List au) (tsA:OA) (tsC:Nat) (f t:Int) (hst: ∀ x∈ts,bZ x) (hlen:ts.length≤12) (hf:0≤f∧f≤t∧t≤ts.length):
 dB Tryz.prog 215 [(vA (bL.cells (bL.mk (bE.mk tsA ts.length tsC)))),(vI f),(vI t)] [(rd tsA ts.length 9 (ts.map au.cells))] (vT [(vA (ai.cells (eP ts f.toNat (t-f).toNat))),(vA (ai.cells (gL ts f.toNat (t-f).toNat)))]):=by
 refine bJ kr Tryz.func215 U U fun i Q hQ hN=>?_
 try dsimp only
 refine WS fun _ R=>eJ U fun e=>AL U dU fun g=>AL U dU fun h=>RK R<|WS fun _ S=>AL U dU fun a=>AL U dU fun b=>RK S<|aq fun _ T=>WS fun _ AA=>rP 2 [] mn ?_
 refine RK AA<|aH ?_
 have A:(0≤(t-f).toNat):=by exact Nat.zero_le _
 have K:(vI (f+(0:Int)))=(vI f):=by exact cI I
 refine bS (ι:={z:Nat // (z≤(t-f).toNat)}) [1,2,3,6,7,8,9] [2,3,4,5] U U (fun z=>[(10,(vI (f+(z.1:Int))))]) (fun z=>[(cz b 38 (ai.cells (gL ts f.toNat z.1))),(cz a 38 (ai.cells (eP ts f.toNat z.1)))]) (fun _=>rfl) (fun _=>rfl) (fun z=>(t-f).toNat-z.1) ⟨0,A⟩ (bw U K<|dp.nil _) (aR [2,3,4,5,0,1]) ?_
 clear A
 rintro ⟨k,V⟩ J11 B
 try dsimp only
 refine aq fun _ C=>WS fun _ D=>rP 3 [] mn ?_
 refine RK D<|bR U (aU fun P=>?_) (aT fun P=>?_)
 ·refine bQ<|ag<|ag<|aI<|KK T<|aq fun _ H=>dH cg [2,3] [] [] [2,3,4,5] [] U U U U U<|eS U (LW 3 U bU U U)<|eS U (LW 2 U bU U U)<|eo U<|cp U fun T23 AB=>qN U cT U<|aK (AB _ _ (aR [2,3,4,5]) ?_)
  refine cp U fun T24 J=>eN U cT U<|aK (J _ _ (aR [2,3,4,5]) ?_)
  refine fK U<|KK H<|ar<|l5 hQ [0,1] (mc 1 U (mc 0 U mn)) U ?_
  obtain rfl:k=(t-f).toNat:=I; rfl
 refine WK C<|aq fun _ E=>aH<|WS fun _ F=>rP 3 [] (mc 2 U mn) ?_
 obtain ⟨x,hx⟩:=aC ts (f.toNat+k) I
 have Y:=bO au.cells hx
 refine rS (IA (f.toNat+k) U (ay 3 U) wG dc I I)<|rS (jD (f.toNat+k) 0 (au.cells x) U bU (ay 3 U) Y U dc U U)<|AL U E2 fun Z=>eN U IG U<|RK F<|WS fun _ G=>?_
 have O:=hst x (aM hx)
 have d:=mE hst f.toNat k
 have c:=Fb hst f.toNat k
 have W:=O.2.1
 have X:=O.2.2.1
 simp only [ei] at W X
 refine eV 12 [0,1,0,1] (mc 6 U (mc 0 U mn)) U<|rS (SX (bp (xs:=[(0,.tmp 28),(1,.tmp 34)]) (cs:=(ai.cells (ai.mk (((eP ts f.toNat k).Lo)+x.jJ.Lo) (((eP ts f.toNat k).Hi)+x.jJ.Hi)))) U U (bq gM U)) U U)<|PA U cT U<|RK G<|aw<|rP 12 [0,1,0,1] (mc 5 U (mc 0 U mn)) ?_
 refine rS (SX (bp (xs:=[(0,.tmp 41),(1,.tmp 47)]) (cs:=(ai.cells (ai.mk (((gL ts f.toNat k).Lo)+x.kK.Lo) (((gL ts f.toNat k).Hi)+x.kK.Hi)))) U U (bq gM U)) U U)<|G1 U cT U<|aK<|aP<|KK E ?_
 have L:(ai.cells (ai.mk (((eP ts f.toNat k).Lo)+x.jJ.Lo) (((eP ts f.toNat k).Hi)+x.jJ.Hi)))=(ai.cells (eP ts f.toNat (k+1))):=by rw [pQ hx]; rfl
 rw [L]
 have M:(ai.cells (ai.mk (((gL ts f.toNat k).Lo)+x.kK.Lo) (((gL ts f.toNat k).Hi)+x.kK.Hi)))=(ai.cells (gL ts f.toNat (k+1))):=by rw [pP hx]; rfl
 rw [M]
 refine aw<|rP 3 [] mn ?_
 refine aK ?_
 have N:(vI (f+(((k+1):Nat):Int)))=(vI ((f+(k:Int))+1)):=by exact cI I
 refine bu (B ⟨(k+1),(by first|omega|(simp only []; omega))⟩ _ _ _ U os (cP 7<|bw U N<|dp.nil _) (aR [1,2,3,4,5,6]))
end
section
open Go.RowKit
theorem PX (l:bH) (kA:OA) (kC:Nat) (az:List RA) (cA:OA) (cC:Nat) (bA:OA) (bC:Nat) (hin:ej l az):
 dB Tryz.prog 132 [(vA (cm.cells (jR l kA kC cA cC bA bC)))] [(rd kA l.aO.length 9 (l.aO.map au.cells)),(rd cA l.aj.length 2 (List.zipWith ax.cells l.aj az)),(dE (bg ax.e_ l.aj az)),(rd bA l.ab.length 4 (l.ab.map bK.cells))] (vB (decide (eZ l))):=by
 have R:=hin.rW
 have P:=hin.sG
 have N:=hin.ly
 have O:=hin.se
 refine bJ kr Tryz.func132 U U fun T Q hQ hN=>?_
 try dsimp only
 refine WS fun _ G=>eJ U fun S=>bI 1 U<|RK G<|WS fun _ A=>rP 2 [] (mc 0 U mn) ?_
 refine ew (xs:=[.tmp 4]) (cs:=[(vI l.h_)]) U dy j7 U U U U (by simp [Value.cells]) U U fun H=>?_
 refine rS (CL (dB.eq (ik 1 5000 ([l.h_]) (some ⟨H,0,none⟩) 1 (by (simp; done))) cy) (aD (bx 0 U U (by simp [bP]) U)<|aL) U) ?_
 refine rP 1 [] mn ?_
 refine cG (t:=7) U (aU fun K=>?_) (aT fun K=>?_)
 ·refine rP 36 [] mn ?_
  refine RK A<|ar<|Q1 hQ U U U ?_
  exact cB (bj (by unfold eZ; omega)).symm
 refine rP 3 [] (mc 1 U mn) ?_
 refine ew (xs:=[.tmp 10]) (cs:=[(vI (l.aj.length:Int))]) U dy j7 U U U U (by simp [Value.cells]) U U fun AA=>?_
 refine rS (CL (dB.eq (ik 1 4 ([(l.aj.length:Int)]) (some ⟨AA,0,none⟩) 1 (by (simp; done))) cy) (aD (bx 0 U U (by simp [bP]) U)<|aL) U) ?_
 refine rP 2 [] mn ?_
 refine cG (t:=14) U (aU fun L=>?_) (aT fun L=>?_)
 ·refine rP 29 [] mn ?_
  refine RK A<|ar<|Q1 hQ U U U ?_
  exact cB (bj (by unfold eZ; omega)).symm
 refine rP 3 [] (mc 2 U mn) ?_
 refine ew (xs:=[.tmp 17]) (cs:=[(vI (l.ab.length:Int))]) U dy j7 U U U U (by simp [Value.cells]) U U fun J=>?_
 refine rS (CL (dB.eq (ik 1 6 ([(l.ab.length:Int)]) (some ⟨J,0,none⟩) 1 (by (simp; done))) cy) (aD (bx 0 U U (by simp [bP]) U)<|aL) U) ?_
 refine rP 2 [] mn ?_
 refine cG (t:=21) U (aU fun M=>?_) (aT fun M=>?_)
 ·refine rP 22 [] mn ?_
  refine RK A<|ar<|Q1 hQ U U U ?_
  exact cB (bj (by unfold eZ; omega)).symm
 refine rP 6 [] (mc 3 U mn) ?_
 refine ew (xs:=[.tmp 27]) (cs:=[(vI l.cf)]) U dy j7 U U U U (by simp [Value.cells]) U U fun B=>?_
 refine rS (CL (dB.eq (ik 0 ((l.ab.length:Int)-1) ([l.cf]) (some ⟨B,0,none⟩) 1 (by (simp; done))) cy) (aD (bx 0 U U (by simp [bP]) U)<|aL) U) ?_
 refine rP 2 [] mn ?_
 refine cG (t:=31) U (aU fun E=>?_) (aT fun E=>?_)
 ·refine rP 12 [] mn ?_
  refine RK A<|ar<|Q1 hQ U U U ?_
  exact cB (bj (by unfold eZ; omega)).symm
 refine rP 2 [] (mc 4 U mn) ?_
 refine ew (xs:=[.tmp 33]) (cs:=[(vI l.fJ)]) U dy j7 U U U U (by simp [Value.cells]) U U fun C=>?_
 refine rS (CL (dB.eq (ik 0 3 ([l.fJ]) (some ⟨C,0,none⟩) 1 (by (simp; done))) cy) (aD (bx 0 U U (by simp [bP]) U)<|aL) U) ?_
 refine rP 2 [] mn ?_
 refine cG (t:=37) U (aU fun F=>?_) (aT fun F=>?_)
 ·refine rP 6 [] mn ?_
  refine RK A<|ar<|Q1 hQ U U U ?_
  exact cB (bj (by unfold eZ; omega)).symm
 refine rP 2 [] (mc 5 U mn) ?_
 refine ew (xs:=[.tmp 39]) (cs:=[(vI l.dC)]) U dy j7 U U U U (by simp [Value.cells]) U U fun D=>?_
 refine rS (CL (dB.eq (ik 0 3 ([l.dC]) (some ⟨D,0,none⟩) 1 (by (simp; done))) cy) (aD (bx 0 U U (by simp [bP]) U)<|aL) U) ?_
 refine rP 2 [] mn ?_
 refine RK A<|ar<|Q1 hQ U U U ?_
 exact cB (gU.2 (by unfold eZ; omega))
theorem P2 (l:bH) (kA:OA) (kC:Nat) (az:List RA) (cA:OA) (cC:Nat) (bA:OA) (bC:Nat) (hin:ej l az):
 dB Tryz.prog 134 [(vA (cm.cells (jR l kA kC cA cC bA bC)))] [(rd kA l.aO.length 9 (l.aO.map au.cells)),(rd cA l.aj.length 2 (List.zipWith ax.cells l.aj az)),(dE (bg ax.e_ l.aj az)),(rd bA l.ab.length 4 (l.ab.map bK.cells))] (vB (decide (∀ c∈l.aj,fy c))):=by
 have H:=hin.rW
 have G:=hin.sG
 have E:=hin.ly
 have F:=hin.se
 refine bJ kr Tryz.func134 U U fun K Q hQ hN=>?_
 try dsimp only
 refine WS fun _ C=>eJ U fun J=>bI 1 U<|RK C<|WS fun _ D=>rP 2 [] (mc 0 U mn) ?_
 refine rS (CL (Ai l.aj az cA cC (Value.func (.func 136) [].toArray [].toArray) (fun m=>(!(decide (fy m)))) (dE (bg ax.e_ l.aj az)) (by intro AA m a B A; exact k7 (fi:=[]) (ca:=[]) (RW l.aj az AA m a (by exact B) (by exact A) (by exact hin.Q0 _ _ _ B A))) asm asm) (Qb 2 3 3 U U U U U U) U) ?_
 refine rP 2 [] mn ?_
 refine RK D<|ar<|Q1 hQ U U U ?_
 exact cB (by rw [Bool.eq_iff_iff,decide_eq_true_eq]; exact Ec)
theorem Pq (b:bK) (l:bH) (kA:OA) (kC:Nat) (az:List RA) (cA:OA) (cC:Nat) (bA:OA) (bC g1:Nat) (hin:ej l az) (htr:du l.aO=true):
 dB Tryz.prog 140 [(vA (bK.cells b)),(vP g1)] [(rd kA l.aO.length 9 (l.aO.map au.cells)),(rd cA l.aj.length 2 (List.zipWith ax.cells l.aj az)),(dE (bg ax.e_ l.aj az)),(rd bA l.ab.length 4 (l.ab.map bK.cells)),(cz g1 28 (cm.cells (jR l kA kC cA cC bA bC)))] (vB (!(decide (kp l b)))):=by
 have J:=hin.rW
 have H:=hin.sG
 have F:=hin.ly
 have G:=hin.se
 have AA:=hin.side
 refine bJ kr Tryz.func140 U U fun M Q hQ hN=>?_
 try dsimp only
 refine WS fun _ C=>eJ U fun K=>bI 1 U<|RK C<|WS fun _ D=>bI 1 U<|rS (VV (bL.cells (bL.mk (bE.mk kA l.aO.length kC))) 5 U bU U U U)<|bI 1 U<|rS (LP (cH.cells b.lp) 0 U bU U U U)<|rS (CL (Sg l.aO kA kC b.lp asm asm) (bo [1]) U)<|bI 3 U<|AL U dU fun L=>eN U cT U<|bI 1 U<|RK D<|WS fun _ B=>rP 3 [] mn ?_
 refine bT (t:=16) U (aX fun A=>?_) (aW fun A=>?_)
 ·refine rP 11 [] mn ?_
  refine RK B<|ar<|Q1 hQ U U U ?_
  (refine cB ?_; rw [bj (fun h:kp l b=>A ((Fe htr).2 h.1))]; rfl)
 refine rP 6 [0,1] (mr 6 U (mc 1 U mn)) ?_
 refine ew (xs:=[.tmp 22]) (cs:=[(vI b.jG)]) U dy j7 U U U U (by simp [Value.cells]) U U fun E=>?_
 refine rS (CL (dB.eq (ik 0 ((l.aj.length:Int)-1) ([b.jG]) (some ⟨E,0,none⟩) 1 (by (simp; done))) cy) (aD (bx 0 U U (by simp [bP]) U)<|aL) U) ?_
 refine rP 3 [] mn ?_
 refine RK B<|ar<|Q1 hQ U U U ?_
 (refine cB ?_; refine congrArg Bool.not (gU.2 ⟨fun h=>⟨(Fe htr).1 A,I,I⟩,fun h=>by have:=h.2; omega⟩))
theorem Pv (l:bH) (kA:OA) (kC:Nat) (az:List RA) (cA:OA) (cC:Nat) (bA:OA) (bC:Nat) (hin:ej l az) (htr:du l.aO=true):
 dB Tryz.prog 138 [(vA (cm.cells (jR l kA kC cA cC bA bC)))] [(rd kA l.aO.length 9 (l.aO.map au.cells)),(rd cA l.aj.length 2 (List.zipWith ax.cells l.aj az)),(dE (bg ax.e_ l.aj az)),(rd bA l.ab.length 4 (l.ab.map bK.cells))] (vB (decide (∀ b∈l.ab,kp l b))):=by
 have H:=hin.rW
 have G:=hin.sG
 have E:=hin.ly
 have F:=hin.se
 refine bJ kr Tryz.func138 U U fun AA Q hQ hN=>?_
 try dsimp only
 refine WS fun _ B=>eJ U fun A=>bI 1 U<|RK B<|WS fun _ C=>rP 2 [] (mc 0 U mn) ?_
 refine rS (FU U) ?_
 refine rS (CL (Au l.ab bA bC (Value.func (.func 140) [].toArray [(vP A)].toArray) (fun D=>(!(decide (kp l D)))) (dE [(rd kA l.aO.length 9 (l.aO.map au.cells)),(rd cA l.aj.length 2 (List.zipWith ax.cells l.aj az)),(dE (bg ax.e_ l.aj az)),(rd bA l.ab.length 4 (l.ab.map bK.cells)),(cz A 28 (cm.cells (jR l kA kC cA cC bA bC)))]) (by intro D _; exact k7 (fi:=[]) (ca:=[(vP A)]) (j1 (Pq D l kA kC az cA cC bA bC A (by first|assumption|omega) (by first|assumption|omega)) (bo [0,1,2,3,4]))) asm) (dM 4 U U<|aD (jZ (bo [1,2,3,4,0]))<|aL) U) ?_
 refine rP 2 [] mn ?_
 refine RK C<|ar<|Q1 hQ U U U ?_
 exact cB (by rw [Bool.eq_iff_iff,decide_eq_true_eq]; exact Gq)
theorem Jd (l:bH) (kA:OA) (kC:Nat) (az:List RA) (cA:OA) (cC:Nat) (bA:OA) (bC:Nat) (n:Int) (hin:ej l az) (htr:du l.aO=true) (hbk: ∀ b∈l.ab,kp l b) (hn:0≤n∧n<(l.ab.length:Int)):
 dB Tryz.prog 143 [(vA (cm.cells (jR l kA kC cA cC bA bC))),(vI n)] [(rd kA l.aO.length 9 (l.aO.map au.cells)),(rd cA l.aj.length 2 (List.zipWith ax.cells l.aj az)),(dE (bg ax.e_ l.aj az)),(rd bA l.ab.length 4 (l.ab.map bK.cells))] (vI (lH l n.toNat)):=by
 have P:=hin.rW
 have N:=hin.sG
 have L:=hin.ly
 have M:=hin.se
 have O:=hin.side
 refine bJ kr Tryz.func143 U U fun AA Q hQ hN=>?_
 try dsimp only
 refine WS fun _ E=>eJ U fun R=>bI 1 U<|RK E<|WS fun _ F=>rP 3 [] (mc 0 U mn) ?_
 obtain ⟨x,hx⟩:=aC l.ab ((n).toNat) I
 have J:=bO bK.cells hx
 refine rS (IA ((n).toNat) U (ay 4 U) uE dc I I)<|rS (pO (((n).toNat)*4) U (ay 4 U) (Nat.mul_pos I dc) eU U)<|rS (jD ((n).toNat) 0 (cH.cells x.lp) U bU (ay 4 U) J U dc U U)<|AL U Fs fun S=>eN U OK U<|RK F<|WS fun _ G=>bI 1 U<|rS (LP (bL.cells (bL.mk (bE.mk kA l.aO.length kC))) 1 U bU U U U)<|eV 1 [] (mc 0 U mn) U<|rS (CL (Sg l.aO kA kC x.lp asm asm) (bo [2]) U)<|bI 3 U<|AL U dU fun T=>eN U cT U<|bI 1 U<|RK G<|aq fun _ C=>WS fun _ H=>rP 2 [] mn ?_
 refine RK H<|bR U (aU fun D=>?_) (aT fun D=>?_)
 ·refine WK C<|WS fun _ B=>rP 3 [] (mc 0 U mn) ?_
  refine RK B<|ar<|Q1 hQ U U U ?_
  (refine congrArg (Value.int .i64) ?_; rw [show n.toNat=0 by omega] at hx ⊢; rw [zx hx,(xw htr (hbk _ (List.mem_of_getElem? hx)).1).2])
 refine dH cg [14] [] [] [1,2,3,4,5,6] [] U U U U U<|eS U (FA 0 U eU U)<|eS U (LP (bL.cells (bL.mk (bE.mk kA l.aO.length kC))) 1 U bU U U U)<|eS U (FA 3 U eU U)<|eS U (L1 (vS bA l.ab.length bC) 1 U bU U U)<|eS U (MV U)<|eS U (BI U (xj ⟨I,I⟩)) ?_
 obtain ⟨y,hy⟩:=aC l.ab (((n-1)).toNat) I
 have K:=bO bK.cells hy
 refine eS U (IA (((n-1)).toNat) U (ay 5 U) uE dc I I)<|eS U (pO ((((n-1)).toNat)*4) U (ay 5 U) (Nat.mul_pos I dc) eU U)<|eS U (jD (((n-1)).toNat) 0 (cH.cells y.lp) U bU (ay 5 U) K U dc U U)<|eS U (LW 0 U bU U U)<|eS U (CL (MC l.aO kA kC y.lp x.lp asm asm) (bo [2]) U)<|eS U (MV U)<|eS U (EX U)<|eS U (EX U)<|eo U<|cp U fun T9 AB=>eN U cT U<|aK (AB _ _ (aR [1,2,3,4,5,6]) ?_)
 refine fK U<|KK C<|WS fun _ A=>rP 3 [] (mc 0 U mn) ?_
 refine RK A<|ar<|Q1 hQ U U U ?_
 (refine congrArg (Value.int .i64) ?_; rw [CE I hx (by rw [show n.toNat-1=(n-1).toNat by omega]; exact hy),(lV htr ⟨(hbk _ (List.mem_of_getElem? hy)).1,(hbk _ (List.mem_of_getElem? hx)).1⟩).2])
theorem Pw (l:bH) (kA:OA) (kC:Nat) (az:List RA) (cA:OA) (cC:Nat) (bA:OA) (bC:Nat) (hin:ej l az) (htr:du l.aO=true) (hbk: ∀ b∈l.ab,kp l b):
 dB Tryz.prog 142 [(vA (cm.cells (jR l kA kC cA cC bA bC)))] [(rd kA l.aO.length 9 (l.aO.map au.cells)),(rd cA l.aj.length 2 (List.zipWith ax.cells l.aj az)),(dE (bg ax.e_ l.aj az)),(rd bA l.ab.length 4 (l.ab.map bK.cells))] (vB (decide (∀ i,i<l.ab.length→1≤lH l i))):=by
 have V:=hin.rW
 have AA:=hin.sG
 have S:=hin.ly
 have T:=hin.se
 refine bJ kr Tryz.func142 U U fun X Q hQ hN=>?_
 try dsimp only
 refine WS fun _ J=>eJ U fun W=>bI 1 U<|RK J<|aq fun _ K=>WS fun _ L=>rP 4 [] (mc 0 U mn) ?_
 refine RK L<|aH ?_
 have A:(0≤l.ab.length)∧(∀ j,j<0→1≤lH l j):=by exact ⟨Nat.zero_le _,fun j hj=>absurd hj (Nat.not_lt_zero _)⟩
 refine bS (ι:={z:Nat // (z≤l.ab.length)∧(∀ j,j<z→1≤lH l j)}) [1,6] [0,1,2,3,4] U U (fun z=>[(7,(vI (z.1:Int)))]) (fun z=>[]) (fun _=>rfl) (fun _=>rfl) (fun z=>l.ab.length-z.1) ⟨0,A⟩ (bD U) (aR [0,1,2,3,4]) ?_
 clear A
 rintro ⟨i,⟨P,B⟩⟩ J5 AB
 try dsimp only
 refine WS fun _ M=>rP 1 [] mn ?_
 refine RK M<|aq fun _ N=>bR U (aU fun R=>?_) (aT fun R=>?_)
 ·refine bQ<|ag<|ag<|aI<|KK K<|WS fun _ G=>rP 1 [] mn ?_
  refine RK G<|ar<|Q1 hQ U U U ?_
  exact cB (cO (fun j hj=>B j I)).symm
 refine WK N<|aq fun _ O=>aH<|WS fun _ D=>bI 2 U<|RK D<|WS fun _ E=>eV 2 [] (mc 0 U mn) U<|rS (CL (Jd l kA kC az cA cC bA bC (i:Int) hin htr hbk I) (bo [1,2,3,4]) U)<|rP 1 [] mn ?_
 refine RK E<|ck U (aT fun C=>?_) (aU fun C=>?_)
 ·refine WS fun _ F=>rP 1 [] mn ?_
  refine RK F<|ar<|Q1 hQ U U U ?_
  exact cB (bj (fun h=>by have:=h i I; simp only [Int.toNat_natCast] at C; omega)).symm
 refine cj<|aP<|KK O<|aw<|rP 2 [] mn ?_
 refine aK ?_
 have H:(vI (((i+1):Nat):Int))=(vI ((i:Int)+1)):=by exact cI I
 refine bu (AB ⟨(i+1),⟨I,fun j hj=>by rcases Nat.lt_or_ge j i with q|q; exact B j q; (obtain rfl:j=i:=by omega); simp only [Int.toNat_natCast] at C; omega⟩⟩ _ _ _ rfl os (dp.cons rfl<|dp.cons rfl<|bw rfl H<|dp.nil _) (aR [0,1,2,3,4]))
end
section
open Go.RowKit
theorem QJ:
 dB Tryz.prog 108 [] [] (vA ((hH.cells (hH.mk (Value.func (.func 132) [].toArray [].toArray)))++(hH.cells (hH.mk (Value.func (.func 134) [].toArray [].toArray)))++(hH.cells (hH.mk (Value.func (.func 138) [].toArray [].toArray)))++(hH.cells (hH.mk (Value.func (.func 142) [].toArray [].toArray))))):=by
 refine bJ kr Tryz.func108 U U fun D Q hQ hN=>?_
 try dsimp only
 refine WS fun _ A=>AL U Tc fun C=>RK A<|WS fun _ B=>rS (SX (bp (xs:=[(0,.func 132)]) (cs:=(hH.cells (hH.mk (Value.func (.func 132) [].toArray [].toArray)))) U U (bq FD U)) U U)<|rS (SX (bp (xs:=[(0,.func 134)]) (cs:=(hH.cells (hH.mk (Value.func (.func 134) [].toArray [].toArray)))) U U (bq FD U)) U U)<|rS (SX (bp (xs:=[(0,.func 138)]) (cs:=(hH.cells (hH.mk (Value.func (.func 138) [].toArray [].toArray)))) U U (bq FD U)) U U)<|rS (SX (bp (xs:=[(0,.func 142)]) (cs:=(hH.cells (hH.mk (Value.func (.func 142) [].toArray [].toArray)))) U U (bq FD U)) U U)<|rS (SX (bp (xs:=[(0,.tmp 1),(1,.tmp 2),(2,.tmp 3),(3,.tmp 4)]) (cs:=((hH.cells (hH.mk (Value.func (.func 132) [].toArray [].toArray)))++(hH.cells (hH.mk (Value.func (.func 134) [].toArray [].toArray)))++(hH.cells (hH.mk (Value.func (.func 138) [].toArray [].toArray)))++(hH.cells (hH.mk (Value.func (.func 142) [].toArray [].toArray))))) U U (bq S7 U)) U U)<|eN U Ro U<|RK B<|ar ?_
 exact Dg hQ [0] (mc 0 U mn) U U
theorem wY (l:bH) (kA:OA) (kC:Nat) (az:List RA) (cA:OA) (cC:Nat) (bA:OA) (bC:Nat) (hin:ej l az):
 dB Tryz.prog 88 [(vA (cm.cells (jR l kA kC cA cC bA bC)))] [(rd kA l.aO.length 9 (l.aO.map au.cells)),(rd cA l.aj.length 2 (List.zipWith ax.cells l.aj az)),(dE (bg ax.e_ l.aj az)),(rd bA l.ab.length 4 (l.ab.map bK.cells))] (vI (eT l)):=by
 have A2:=hin.rW
 have A0:=hin.sG
 have AK:=hin.ly
 have AO:=hin.se
 have A1:=hin.side
 refine bJ kr Tryz.func88 U U fun w0 Q hQ hN=>?_
 try dsimp only
 refine WS fun _ m=>eJ U fun b2=>bI 1 U<|RK m<|aq fun _ n=>WS fun _ o=>bI 1 U<|rS (LP (bL.cells (bL.mk (bE.mk kA l.aO.length kC))) 0 U bU U U U)<|rS (CL (Bw l.aO kA kC asm asm) (bo [1]) U)<|bI 1 U<|RK o<|WS fun _ p=>rP 2 [] mn ?_
 refine RK p<|ck U (aX fun B=>?_) (aW fun B=>?_)
 ·refine WS fun _ q=>rP 2 [] mn ?_
  refine RK q<|ar<|Q1 hQ U U U ?_
  (refine cI ?_; rw [(zM B).2,ze (zM B).1])
 refine WK n<|aq fun _ s=>WS fun _ t=>?_
 have A:=Dn B
 refine rS (CL QJ (aL) U)<|bI 1 U<|RK t<|aH<|rG 5<|kZ fun R9 u=>WS fun _ C=>rS (SX (fM (r:= .bool true) U U U qI) U U)<|RK C<|aq fun _ D=>aN U<|WK D<|aq fun _ E=>aH<|WS fun _ F=>rS (SX (uJ (vs:=(hH.cells (hH.mk (Value.func (.func 132) [].toArray [].toArray)))) 0 U U U Ff bU U dc U) U U)<|AL U FG fun x=>eN U FP U<|RK F<|WS fun _ G=>eV 3 [0,1] (mc 0 U (mc 1 U mn)) U<|rS (CL (PX l kA kC az cA cC bA bC hin) (bo [2,3,4,5]) U)<|rP 1 [] mn ?_
 refine RK G<|ck U (aX fun g=>?_) (aW fun g=>?_)
 ·refine WS fun _ H=>rP 1 [] mn ?_
  refine RK H<|ar<|Q1 hQ U U U ?_
  exact cI (rq A fun h=>absurd h.head asm).symm
 refine cj<|aP<|KK E<|aw<|rS (SX (fM (r:= .int .i64 1) U U U (oP ⟨dc,dc⟩)) U U)<|bI 1 U<|RK u<|kZ fun R18 d=>WS fun _ AB=>rS (SX (fM (r:= .bool true) U U U qI) U U)<|RK AB<|aq fun _ J=>aN U<|WK J<|aq fun _ K=>aH<|WS fun _ L=>rS (SX (uJ (vs:=(hH.cells (hH.mk (Value.func (.func 134) [].toArray [].toArray)))) 1 U U U Ff bU U dc U) U U)<|AL U FG fun y=>eN U FP U<|RK L<|WS fun _ M=>eV 3 [0,1] (mc 0 U (mc 2 U mn)) U<|rS (CL (P2 l kA kC az cA cC bA bC hin) (bo [3,4,5,6]) U)<|rP 1 [] mn ?_
 refine RK M<|ck U (aX fun i=>?_) (aW fun i=>?_)
 ·refine WS fun _ N=>rP 1 [] mn ?_
  refine RK N<|ar<|Q1 hQ U U U ?_
  exact cI (rq A fun h=>absurd h.clock asm).symm
 refine cj<|aP<|KK K<|aw<|rS (SX (fM (r:= .int .i64 2) U U U (oP ⟨dc,dc⟩)) U U)<|bI 1 U<|RK d<|kZ fun R27 e=>WS fun _ O=>rS (SX (fM (r:= .bool true) U U U qI) U U)<|RK O<|aq fun _ P=>aN U<|WK P<|aq fun _ R=>aH<|WS fun _ S=>rS (SX (uJ (vs:=(hH.cells (hH.mk (Value.func (.func 138) [].toArray [].toArray)))) 2 U U U Ff bU U dc U) U U)<|AL U FG fun z=>eN U FP U<|RK S<|WS fun _ T=>eV 3 [0,1] (mc 0 U (mc 3 U mn)) U<|rS (CL (Pv l kA kC az cA cC bA bC hin asm) (bo [4,5,6,7]) U)<|rP 1 [] mn ?_
 refine RK T<|ck U (aX fun j=>?_) (aW fun j=>?_)
 ·refine WS fun _ AA=>rP 1 [] mn ?_
  refine RK AA<|ar<|Q1 hQ U U U ?_
  exact cI (rq A fun h=>absurd h.vl asm).symm
 refine cj<|aP<|KK R<|aw<|rS (SX (fM (r:= .int .i64 3) U U U (oP ⟨dc,dc⟩)) U U)<|bI 1 U<|RK e<|kZ fun R36 f=>WS fun _ V=>rS (SX (fM (r:= .bool true) U U U qI) U U)<|RK V<|aq fun _ W=>aN U<|WK W<|aq fun _ X=>aH<|WS fun _ Y=>rS (SX (uJ (vs:=(hH.cells (hH.mk (Value.func (.func 142) [].toArray [].toArray)))) 3 U U U Ff bU U dc U) U U)<|AL U FG fun AC=>eN U FP U<|RK Y<|WS fun _ Z=>eV 3 [0,1] (mc 0 U (mc 4 U mn)) U<|rS (CL (Pw l kA kC az cA cC bA bC hin asm asm) (bo [5,6,7,8]) U)<|rP 1 [] mn ?_
 refine RK Z<|ck U (aX fun k=>?_) (aW fun k=>?_)
 ·refine WS fun _ a=>rP 1 [] mn ?_
  refine RK a<|ar<|Q1 hQ U U U ?_
  exact cI (rq A fun h=>absurd h.Ps asm).symm
 refine cj<|aP<|KK X<|aw<|rS (SX (fM (r:= .int .i64 4) U U U (oP ⟨dc,dc⟩)) U U)<|bI 1 U<|RK f<|kZ fun R45 w=>WS fun _ b=>rS (SX (fM (r:= .bool false) U U U qI) U U)<|RK b<|aq fun _ v=>cq U<|bQ<|ag<|ag<|aI<|KK s<|WS fun _ c=>rP 1 [] mn ?_
 refine RK c<|ar<|Q1 hQ U U U ?_
 exact cI (xV A (yS asm asm asm asm)).symm
theorem Cn (lo hi:Int) (f:Value) (p:Int→Bool) (X:aA) (r:Int) (hf: ∀ x0,0≤x0∧x0<hi→D4 Tryz.prog f [.int .i64 x0] [X] (.bool (p x0))) (hb:0≤lo∧lo≤r∧r≤hi∧hi≤100000000) (hno: ∀ x,lo≤x→x<r→p x=false) (hyes: ∀ x,r≤x→x<hi→p x=true):
 dB Tryz.prog 206 [(vI lo),(vI hi),f] [X] (vI r):=by
 refine bJ kr Tryz.func206 U U fun N Q hQ hN=>?_
 try dsimp only
 refine WS fun _ F=>rP 1 [] mn ?_
 refine RK F<|aq fun _ G=>aH ?_
 have A:(lo≤lo∧lo≤r)∧(r≤hi∧hi≤hi):=by omega
 refine bS (ι:={z:Int×Int // (lo≤z.1∧z.1≤r)∧(r≤z.2∧z.2≤hi)}) [2] [0] U U (fun z=>[(0,(vI z.1.1)),(1,(vI z.1.2))]) (fun z=>[]) (fun _=>rfl) (fun _=>rfl) (fun z=>(z.1.2-z.1.1).toNat) ⟨(lo,hi),A⟩ (bD U) (aR [0]) ?_
 clear A
 rintro ⟨⟨a,b⟩,⟨B,C⟩⟩ J3 D
 try dsimp only at B C
 try dsimp only
 refine aq fun _ H=>WS fun _ AA=>rP 3 [] mn ?_
 refine RK AA<|bR U (aU fun M=>?_) (aT fun M=>?_)
 ·refine bQ<|ag<|ag<|aI<|KK G<|WS fun _ L=>rP 2 [] mn ?_
  refine RK L<|ar<|Q1 hQ U U U ?_
  exact cI I
 refine WK H<|aH<|WS fun _ J=>bI 4 U<|rS (BI U (uj I I I))<|bI 2 U<|RK J<|WS fun _ K=>rP 2 [] mn ?_
 refine rS (SX (qi U U U (hf (a+((b-a)/2)) I) (bo [0])) U U)<|RK K<|ck U (fun hp=>?_) (fun hp=>?_)
 ·refine aw<|rP 2 [] mn ?_
  refine aK<|aP ?_
  refine bu (D ⟨(a,(a+((b-a)/2))),(by dsimp only; rcases Int.lt_or_le (a+(b-a)/2) r with q|q; (have E:=hno _ I q; (rw [E] at hp; cases hp)); (have E:=hyes _ q I; (refine ⟨⟨I,I⟩,I,I⟩)))⟩ _ _ _ rfl (by simp only []; omega) (bD rfl) (aR [0]))
 refine aw<|rP 3 [] mn ?_
 refine aK<|aP ?_
 refine bu (D ⟨(((a+((b-a)/2))+1),b),(by dsimp only; rcases Int.lt_or_le (a+(b-a)/2) r with q|q; (have E:=hno _ I q; (refine ⟨⟨I,I⟩,I,I⟩)); (have E:=hyes _ q I; (rw [E] at hp; cases hp)))⟩ _ _ _ rfl (by simp only []; omega) (bD rfl) (aR [0]))
theorem JT (u:Int) (c:ax) (sA:OA) (sC g1:Nat) (s:aF) (g2:Nat) (hc:fy c) (hu:0≤u∧u≤90000000):
 dB Tryz.prog 207 [(vI u),(vP g1),(vP g2)] [(rd sA c.bB.length 3 (c.bB.map ct.cells)),(cz g1 133 (dk.cells (dk.mk c.dw (bE.mk sA c.bB.length sC)))),(cz g2 113 (aF.cells s))] (vB (decide (s.Read≤u+(iI c u).Hi))):=by
 have C:=rl hc hu
 refine bJ kr Tryz.func207 U U fun D Q hQ hN=>?_
 try dsimp only
 refine WS fun _ A=>bI 1 U<|RK A<|aq fun _ B=>cW cg 10 kr<|kv 3 [] (mr 1 U mn) U<|dS (CL (E9 c sA sC u hc hu) (bo [0]) U)<|dS (SX (sK (v:=(vI ((iI c u).Hi))) U U eU KY U) U U)<|dP 5 [] (mr 2 U mn) ?_
 refine cx<|RK B<|ar ?_
 exact Q1 hQ U U U U
theorem KS (u:Int) (c:ax) (sA:OA) (sC g1:Nat) (s:aF) (g2:Nat) (hc:fy c) (hu:0≤u∧u≤90000000):
 dB Tryz.prog 209 [(vI u),(vP g1),(vP g2)] [(rd sA c.bB.length 3 (c.bB.map ct.cells)),(cz g1 133 (dk.cells (dk.mk c.dw (bE.mk sA c.bB.length sC)))),(cz g2 113 (aF.cells s))] (vB (decide (s.Read<u+(iI c u).Lo))):=by
 have C:=rl hc hu
 refine bJ kr Tryz.func209 U U fun D Q hQ hN=>?_
 try dsimp only
 refine WS fun _ A=>bI 1 U<|RK A<|aq fun _ B=>cW cg 10 kr<|kv 3 [] (mr 1 U mn) U<|dS (CL (E9 c sA sC u hc hu) (bo [0]) U)<|dS (SX (sK (v:=(vI ((iI c u).Lo))) U U eU Jx U) U U)<|dP 5 [] (mr 2 U mn) ?_
 refine cx<|RK B<|ar ?_
 exact Q1 hQ U U U U
theorem An (l:bH) (kA:OA) (kC:Nat) (az:List RA) (cA:OA) (cC:Nat) (bA:OA) (bC:Nat) (s:aF) (hin:ej l az) (hok:lR l) (hs:(0≤s.fH∧s.fH≤(l.ab.length:Int)-1)∧0≤s.Read∧s.Read≤86400000):
 dB Tryz.prog 184 [(vA (cm.cells (jR l kA kC cA cC bA bC))),(vA (aF.cells s))] [(rd kA l.aO.length 9 (l.aO.map au.cells)),(rd cA l.aj.length 2 (List.zipWith ax.cells l.aj az)),(dE (bg ax.e_ l.aj az)),(rd bA l.ab.length 4 (l.ab.map bK.cells))] (vA (ai.cells (cV l s))):=by
 have V:=hin.rW
 have S:=hin.sG
 have P:=hin.ly
 have R:=hin.se
 refine bJ kr Tryz.func184 U U fun Z Q hQ hN=>?_
 try dsimp only
 refine WS fun _ AB=>eJ U fun X=>eJ U fun D=>AL U dU fun Y=>RK AB<|aq fun _ J=>dH cg [11,12] [] [] [0,1,2,3,4,5,6] [] U U U U U<|eS U (FA 2 U eU U)<|eS U (L1 (vS cA l.aj.length cC) 2 U bU U U)<|eS U (FA 3 U eU U)<|eS U (L1 (vS bA l.ab.length bC) 2 U bU U U)<|eS U (FA 0 U eU U)<|eS U (L1 (vI s.fH) 1 U bU U U) ?_
 obtain ⟨y,hy⟩:=aC l.ab ((s.fH).toNat) I
 have O:=bO bK.cells hy
 refine eS U (IA ((s.fH).toNat) U (ay 6 U) uE dc I I)<|eS U (pO ((((s.fH).toNat)*4)+3) U (ay 6 U) (Nat.mul_pos I dc) eU U)<|eS U (gD ((s.fH).toNat) 3 (vI y.jG) U bU (ay 6 U) O U dc U) ?_
 have W:=(hok.vl _ (aM hy)).2
 obtain ⟨x,hx⟩:=aC l.aj ((y.jG).toNat) I
 obtain ⟨xa,F⟩:=aC az ((y.jG).toNat) I
 have N:(List.zipWith ax.cells l.aj az)[(y.jG).toNat]? =some (ax.cells x xa):=cv hx F
 refine eS U (IA ((y.jG).toNat) U (ay 4 U) yf dc I I)<|eS U (jD ((y.jG).toNat) 0 (dk.cells (dk.mk x.dw (bE.mk xa.1 x.bB.length xa.2))) U bU (ay 4 U) N U dc U U)<|eo U<|cp U fun T6 L=>AL U xA fun E=>aK (L _ _ (aR [1,2,3,4,5,6,7]) ?_)
 refine cp U fun T8 M=>eN U zd U<|aK (M _ _ (aR [1,2,3,4,5,6,7]) ?_)
 refine fK U<|KK J<|WS fun _ K=>?_
 have A:=hok.clock _ (aM hx)
 have AA:=iK (p:=gI x s.Read) (n:=86400001)
 have T:=iK (p:=gJ x s.Read) (n:=86400001)
 refine rS (FU U) ?_
 refine rS (CL (Cn 0 86400001 (Value.func (.func 207) [].toArray [(vP E),(vP D)].toArray) (fun B=>(decide (s.Read≤B+(iI x B).Hi))) (dE [(rd xa.1 x.bB.length 3 (x.bB.map ct.cells)),(cz E 133 (dk.cells (dk.mk x.dw (bE.mk xa.1 x.bB.length xa.2)))),(cz D 113 (aF.cells s))]) (fO (gI x s.Read) 86400001) (by intro B _; exact k7 (fi:=[]) (ca:=[(vP E),(vP D)]) (j1 (JT B x xa.1 xa.2 E s D (by first|assumption|omega) (by first|assumption|omega)) (Qb 0 1 2 U U U U U U))) I (by intro z G hz; exact (lu A G I).1 hz) (by intro z hz H; exact (lu A I H).2.1 hz)) (aD (jZ (aD (show fY _ (rd xa.1 x.bB.length 3 (x.bB.map ct.cells)).holds from (bX 6 U (a_ hx F (by simp [ax.e_]))))<|dM 0 U U<|dM 2 U U<|aL))<|aL) U) ?_
 refine rS (FU U) ?_
 refine rS (CL (Cn 0 86400001 (Value.func (.func 209) [].toArray [(vP E),(vP D)].toArray) (fun C=>(decide (s.Read<C+(iI x C).Lo))) (dE [(rd xa.1 x.bB.length 3 (x.bB.map ct.cells)),(cz E 133 (dk.cells (dk.mk x.dw (bE.mk xa.1 x.bB.length xa.2)))),(cz D 113 (aF.cells s))]) (fO (gJ x s.Read) 86400001) (by intro C _; exact k7 (fi:=[]) (ca:=[(vP E),(vP D)]) (j1 (KS C x xa.1 xa.2 E s D (by first|assumption|omega) (by first|assumption|omega)) (Qb 0 1 2 U U U U U U))) I (by intro z G hz; exact (lu A G I).2.2.1 hz) (by intro z hz H; exact (lu A I H).2.2.2 hz)) (aD (jZ (aD (show fY _ (rd xa.1 x.bB.length 3 (x.bB.map ct.cells)).holds from (bX 6 U (a_ hx F (by simp [ax.e_]))))<|dM 0 U U<|dM 2 U U<|aL))<|aL) U) ?_
 refine rP 1 [] mn ?_
 refine rS (SX (bp (xs:=[(0,.tmp 18),(1,.tmp 21)]) (cs:=(ai.cells (ai.mk (fO (gI x s.Read) 86400001) ((fO (gJ x s.Read) 86400001)-1)))) U U (bq gM U)) U U)<|qN U cT U<|RK K<|ar<|Dg hQ [0] (mc 1 U mn) U ?_
 unfold cV rF; rw [xb hy hx]
end
section
open Go.RowKit
theorem J_ (n lo hi:Int) (g1 g2:Nat):
 dB Tryz.prog 93 [(vI n),(vP g1),(vP g2)] [(cz g1 3 [(vI lo)]),(cz g2 3 [(vI hi)])] (vB (decide (n<lo∨hi<n))):=by
 refine bJ kr Tryz.func93 U U fun D Q hQ hN=>?_
 try dsimp only
 refine WS fun _ B=>bI 1 U<|RK B<|WS fun _ A=>rP 4 [] (mr 0 U mn) ?_
 refine bT (t:=8) U (aT fun C=>?_) (aU fun C=>?_)
 ·refine rP 5 [] mn ?_
  refine RK A<|ar<|Q1 hQ U U U ?_
  exact cB (cO I).symm
 refine rP 5 [] (mr 1 U mn) ?_
 refine RK A<|ar<|Q1 hQ U U U ?_
 exact cB (gU.2 I)
theorem p_ (lo hi:Int) (l:List Int) (lA:OA) (lC:Nat) (hlen:l.length≤1000000):
 dB Tryz.prog 59 [(vI lo),(vI hi),(vS lA l.length lC)] [(rd lA l.length 1 (l.map iC))] (vB (o5 lo hi l)):=by
 refine bJ kr Tryz.func59 U U fun F Q hQ hN=>?_
 try dsimp only
 refine WS fun _ D=>wM U U fun A=>wM U U fun B=>bI 1 U<|RK D<|WS fun _ E=>rP 1 [] mn ?_
 refine rS (FU U) ?_
 refine rS (CL (qd l lA lC (Value.func (.func 93) [].toArray [(vP A),(vP B)].toArray) (fun C=>(decide (C<lo∨hi<C))) (dE [(cz A 3 [(vI lo)]),(cz B 3 [(vI hi)])]) (by intro C _; exact k7 (fi:=[]) (ca:=[(vP A),(vP B)]) (j1 (J_ C lo hi A B) (bo [0,1]))) hlen) (dM 2 U U<|aD (jZ (bo [1,0]))<|aL) U) ?_
 refine rP 2 [] mn ?_
 refine RK E<|ar ?_
 exact Q1 hQ U U U U
theorem N8 (s:ai):
 dB Tryz.prog 242 [(vA (ai.cells s))] [] (vB (decide (mj s))):=by
 refine bJ kr Tryz.func242 U U fun F Q hQ hN=>?_
 try dsimp only
 refine WS fun _ B=>eJ U fun E=>bI 1 U<|RK B<|WS fun _ A=>rP 4 [] (mc 0 U mn) ?_
 refine ew (xs:=[.tmp 4,.tmp 6]) (cs:=[(vI s.Lo),(vI s.Hi)]) U dy j7 U U U U (by simp [Value.cells]) U U fun C=>?_
 refine rS (CL (dB.eq (p_ 1 600000 ([s.Lo,s.Hi]) (some ⟨C,0,none⟩) 2 (by (simp; done))) pw) (aD (bx 0 U U (by simp [bP]) U)<|aL) U) ?_
 refine rP 1 [] mn ?_
 refine cG (t:=9) U (aU fun D=>?_) (aT fun D=>?_)
 ·refine rP 7 [] mn ?_
  refine RK A<|ar<|Q1 hQ U U U ?_
  simp only [mj]
  exact cB (bj I).symm
 refine rP 7 [] (mc 1 U mn) ?_
 refine RK A<|ar<|Q1 hQ U U U ?_
 simp only [mj]
 exact cB (gU.2 I)
theorem IM (d:ak) (sgA:OA) (sgC:Nat):
 dB Tryz.prog 239 [(vA (aG.cells (aG.mk d.Out d.cJ d.Time (iN d.aY sgA sgC))))] [(rd sgA d.aY.aa.length 2 (d.aY.aa.map aF.cells))] (vB (decide (ng d.aY))):=by
 refine bJ kr Tryz.func239 U U fun F Q hQ hN=>?_
 try dsimp only
 refine WS fun _ B=>eJ U fun E=>bI 1 U<|RK B<|WS fun _ A=>rP 5 [] (mc 0 U mn) ?_
 refine cG (t:=7) U (aU fun C=>?_) (aT fun C=>?_)
 ·refine rP 13 [] mn ?_
  refine RK A<|ar<|Q1 hQ U U U ?_
  simp only [ng]
  exact cB (bj I).symm
 refine rP 6 [] (mc 0 U mn) ?_
 refine cG (t:=13) U (aU fun D=>?_) (aT fun D=>?_)
 ·refine rP 7 [] mn ?_
  refine RK A<|ar<|Q1 hQ U U U ?_
  simp only [ng]
  exact cB (bj I).symm
 refine rP 7 [] (mc 0 U mn) ?_
 refine RK A<|ar<|Q1 hQ U U U ?_
 simp only [ng]
 exact cB (gU.2 I)
theorem Rm (d:ak) (sgA:OA) (sgC:Nat):
 dB Tryz.prog 237 [(vA (aG.cells (aG.mk d.Out d.cJ d.Time (iN d.aY sgA sgC))))] [(rd sgA d.aY.aa.length 2 (d.aY.aa.map aF.cells))] (vB d.Out):=by
 refine bJ kr Tryz.func237 U U fun D Q hQ hN=>?_
 try dsimp only
 refine WS fun _ A=>eJ U fun C=>bI 1 U<|RK A<|WS fun _ B=>rP 3 [] (mc 0 U mn) ?_
 refine RK B<|ar<|Q1 hQ U U U ?_
 rfl
theorem Q9 (d:ak) (sgA:OA) (sgC:Nat):
 dB Tryz.prog 240 [(vA (aG.cells (aG.mk d.Out d.cJ d.Time (iN d.aY sgA sgC))))] [(rd sgA d.aY.aa.length 2 (d.aY.aa.map aF.cells))] (vB d.cJ):=by
 refine bJ kr Tryz.func240 U U fun D Q hQ hN=>?_
 try dsimp only
 refine WS fun _ A=>eJ U fun C=>bI 1 U<|RK A<|WS fun _ B=>rP 3 [] (mc 0 U mn) ?_
 refine RK B<|ar<|Q1 hQ U U U ?_
 rfl
theorem Q_ (d:ak) (sgA:OA) (sgC:Nat):
 dB Tryz.prog 243 [(vA (aG.cells (aG.mk d.Out d.cJ d.Time (iN d.aY sgA sgC))))] [(rd sgA d.aY.aa.length 2 (d.aY.aa.map aF.cells))] (vB true):=by
 refine bJ kr Tryz.func243 U U fun D Q hQ hN=>?_
 try dsimp only
 refine WS fun _ A=>eJ U fun C=>bI 1 U<|RK A<|WS fun _ B=>rP 1 [] mn ?_
 refine RK B<|ar<|Q1 hQ U U U ?_
 rfl
end
section
open Go.RowKit
structure HY (S:BS) (w0:World) (X:aA) (C0:List aA) (w:World) (S':BS):Prop where
 st:St S w0 (X::C0) w
 w_: ∀ b,S'.w b↔ ∃ A∈C0,A.wf b
theorem Em {A B:aA} (h:Db A B):Db A.ro B:=fun b C D=>⟨fun h=>h,(h b C D).2⟩
theorem BF {E:fh} {c:Code} {Q:dj} {D:g_} {L:dq} {C C0:List aA} {X:aA} (i:Nat) (hn:decide (i::(List.range C.length).filter fun k=>k != i).Nodup=true) (hC:j5 C (i::(List.range C.length).filter fun k=>k != i)=X::C0)
 (h: ∀ w S',HY E.S E.w0 X C0 w S'→WJ ⟨E.P,E.r,E.n,S',w⟩ c Q D L (X.ro::C0)):WJ E c Q D L C:=fun a w hf hs=>by
 have F:=St.j5 _ hn hC hs
 obtain ⟨G,H⟩:=List.pairwise_cons.1 F.sep
 refine h w ⟨fun b=> ∃ A∈C0,A.wf b,fun _=>True⟩ ⟨F,fun b=>Iff.rfl⟩ a w hf ⟨dV.refl _ _,fun A hA=>?_,List.Pairwise.cons (fun B hB=>Em (G B hB)) H,fun A hA b hb=>?_,fun A hA b hb=> .inr trivial⟩
 ·rcases b_.1 hA with rfl|hA
  ·exact F.holds X (bY ..)
  ·exact F.holds A (dh _ hA)
 ·rcases b_.1 hA with rfl|hA
  ·exact hb.elim
  ·exact .inr ⟨A,hA,hb⟩
theorem z8 {E:fh} {S':BS} {w:World} {K:Act→World→Prop} {D:g_} {L:dq} {C0 C1 C2:List aA} {X:aA} (hz:HY E.S E.w0 X C0 w S') (is:List Nat) (hn:decide is.Nodup=true) (hC:j5 C2 is=C1) (hwr:C1.all (·.wr)=true)
 (h:KJ E K D L (X::C1)):KJ ⟨E.P,E.r,E.n,S',w⟩ K D L C2:=fun a w' hf hs=>by
 have F:=St.j5 is hn hC hs
 have C:=hz.st
 obtain ⟨J,M⟩:=List.pairwise_cons.1 C.sep
 have AA: ∀ b,X.fg b→ ¬ S'.w b:=fun b hb hw=>by
  obtain ⟨A,hA,hw⟩:=(hz.w_ b).1 hw
  exact (J A hA b hb (A.kO b hw)).2 hw
 have G: ∀ b,S'.w b→E.w0.heap.size≤b∨E.S.w b:=fun b hb=>by
  obtain ⟨A,hA,hw⟩:=(hz.w_ b).1 hb
  exact C.own A (dh _ hA) b hw
 have H: ∀ A∈C1,∀ b,A.fg b→w.heap.size≤b∨S'.w b:=fun A hA b hb=>F.own A hA b (A.whole (df.1 hwr A hA) b hb)
 refine h a w' hf ⟨?_,fun A hA=>?_,List.Pairwise.cons (fun B hB b hb hb'=>?_) F.sep,fun A hA b hb=>?_,fun A hA b hb=>?_⟩
 ·refine ⟨F.keeps.os.trans C.keeps.os,F.keeps.tape.trans C.keeps.tape,F.keeps.output.trans C.keeps.output,Nat.le_trans C.keeps.size F.keeps.size,fun k hk hn'=>?_⟩
  refine (F.keeps.block k (Nat.lt_of_lt_of_le hk C.keeps.size) fun hw=>?_).trans (C.keeps.block k hk hn')
  rcases G k hw with q|q
  ·omega
  ·exact hn' q
 ·rcases b_.1 hA with rfl|hA
  ·have hh:=C.holds A (bY ..)
   exact A.pI w w' (fun b hb=>F.keeps.block b (A.lt w hh b hb) (AA b hb)) hh
  ·exact F.holds A hA
 ·exfalso
  have hl:=X.lt w (C.holds X (bY ..)) b hb
  rcases H B hB b hb' with q|q
  ·omega
  ·exact AA b hb q
 ·rcases b_.1 hA with rfl|hA
  ·exact C.own A (bY ..) b hb
  ·rcases F.own A hA b hb with q|q
   ·exact .inl (Nat.le_trans C.keeps.size q)
   ·exact G b q
 ·rcases b_.1 hA with rfl|hA
  ·exact C.seen A (bY ..) b hb
  ·rcases H A hA b hb with q|q
   ·exact .inl (Nat.le_trans C.keeps.size q)
   ·obtain ⟨B,hB,hw⟩:=(hz.w_ b).1 q
    exact C.seen B (dh _ hB) b (B.kO b hw)
/-- put back, as it was -/
theorem HL {M A:Type} {f:M→A→List aA} {S:BS} {w0 w:World} {C:List aA} {ms:List M} {asl:List A} {k:Nat} {m:M} {a:A} {X:aA} (hm:ms[k]? =some m) (ha:asl[k]? =some a) (hf:f m a=[X]) (h:St S w0 (X::bM (gN f ms asl k)::C) w):St S w0 (bM (bg f ms asl)::C) w:=by
 have B:St S w0 (bM (gN f ms asl k)::X::C) w:=h.perm (List.Perm.swap _ _ _)
 have D:St S w0 ((f m a++gN f ms asl k)++C) w:=by
  rw [hf]
  exact B.iz.perm (List.perm_middle (a:=X) (l₁:=gN f ms asl k) (l₂:=C))
 exact l9 (l7 hm ha).symm D.tied
theorem LH {E:fh} {K:Act→World→Prop} {D:g_} {L:dq} {C C1:List aA} {M A:Type} {f:M→A→List aA} {ms:List M} {asl:List A} {k:Nat} {m:M} {a:A} {X:aA} (i j:Nat) (hm:ms[k]? =some m) (ha:asl[k]? =some a) (hf:f m a=[X])
 (hn:decide (j::i::(List.range C.length).filter fun k=>k != i&&k != j).Nodup=true) (hC:j5 C (j::i::(List.range C.length).filter fun k=>k != i&&k != j)=X::bM (gN f ms asl k)::C1)
 (h:KJ E K D L (bM (bg f ms asl)::C1)):KJ E K D L C:=fun a w hf' hs=>h a w hf' (HL hm ha hf (St.j5 _ hn hC hs))
theorem za {M A:Type} {f:M→A→List aA} {ms:List M} {asl:List A} {m:M} {a:A} {X:aA} (hl:ms.length=asl.length) (hf:f m a=[X]):bg f ms asl++[X]=bg f (ms++[m]) (asl++[a]):=by
 rw [ko hl,← hf]; simp [bg]
theorem zU {E:fh} {K:Act→World→Prop} {D:g_} {L:dq} {C C1:List aA} {M A:Type} {f:M→A→List aA} {ms:List M} {asl:List A} {m:M} {a:A} {X:aA} (i j:Nat) (hf:f m a=[X])
 (hn:decide (j::i::(List.range C.length).filter fun k=>k != i&&k != j).Nodup=true) (hC:j5 C (j::i::(List.range C.length).filter fun k=>k != i&&k != j)=X::bM (bg f ms asl)::C1)
 (h:KJ E K D L (bM (bg f (m::ms) (a::asl))::C1)):KJ E K D L C:=fun b w hf' hs=>by
 have B:=St.j5 _ hn hC hs
 have F:St E.S E.w0 (bM (bg f ms asl)::X::C1) w:=B.perm (List.Perm.swap _ _ _)
 have G:St E.S E.w0 (bg f (m::ms) (a::asl)++C1) w:=by
  show St E.S E.w0 ((f m a++bg f ms asl)++C1) w
  rw [hf]
  exact F.iz.perm (List.perm_middle (a:=X) (l₁:=bg f ms asl) (l₂:=C1))
 exact h b w hf' G.tied
end
section
open Go.RowKit
abbrev mq (r:Nat):aA:=ji r (.deferred (some []))
theorem M_ (rs:List Nat):(bM (rs.map mq)).wr=true:=by
 show (rs.map mq).all (·.wr)=true
 rw [df]
 intro X hX
 obtain ⟨r,_,rfl⟩:=db.1 hX
 rfl
theorem wR {E:fh} {c:Code} {Q:dj} {D:g_} {L:dq} {C:List aA} {ι:Type} (Di:ι→g_) (Li:ι→dq) (Ci:ι→List aA) (μ:ι→Nat) (x0:ι)
 (hD:D=Di x0) (h0:dp L (Li x0)) (hC: ∀ w,St E.S E.w0 C w→St E.S E.w0 (Ci x0) w)
 (round: ∀ x (J:Act→World→Prop),(∀ y D' L' C',D'=Di y→μ y<μ x→dp L' (Li y)→(∀ w,St E.S E.w0 C' w→St E.S E.w0 (Ci y) w)→KJ E J D' L' C')→WJ E c (Exit.then J Q) (Di x) (Li x) (Ci x)):WJ E (.loop c) Q D L C:=by
 intro a w hf hs
 subst hD
 have H: ∃ x,Fr E.n (Di x) (Li x) a∧St E.S E.w0 (Ci x) w:=⟨x0,hf.sub h0,hC w hs⟩
 clear hf hs
 have key: ∀ (m:Nat) (a:Act) (w:World),(∃ x,μ x=m∧Fr E.n (Di x) (Li x) a∧St E.S E.w0 (Ci x) w)→(Code.loop c).wpIn (Fw E.r) 0 E.P Q a w:=by
  intro m a w hx
  refine wpIn_loop (fun a w=> ∃ x,Fr E.n (Di x) (Li x) a∧St E.S E.w0 (Ci x) w) (fun a w=>leastOf fun k=> ∃ x,μ x=k∧Fr E.n (Di x) (Li x) a∧St E.S E.w0 (Ci x) w) (by obtain ⟨x,_,h⟩:=hx; exact ⟨x,h⟩) ?_
  intro a w hx
  have F: ∃ k,∃ x,μ x=k∧Fr E.n (Di x) (Li x) a∧St E.S E.w0 (Ci x) w:=by obtain ⟨x,h⟩:=hx; exact ⟨_,x,rfl,h⟩
  obtain ⟨x,K,AA,M⟩:=(leastOf_spec F).1
  refine round x _ ?_ a w AA M
  intro y D' L' C' hD G A B a' w' hf' hs'
  subst hD
  refine ⟨⟨y,hf'.sub A,B _ hs'⟩,?_⟩
  rw [← K]
  exact Nat.lt_of_le_of_lt ((leastOf_spec ⟨_,y,U,hf'.sub A,B _ hs'⟩).2 _ ⟨y,U,hf'.sub A,B _ hs'⟩) G
 obtain ⟨x,h⟩:=H
 exact key _ a w ⟨x,U,h⟩
theorem St.VC {S:BS} {w0 w:World} {C X:List aA} {A:aA} (h:St S w0 (A::bM X::C) w):St S w0 (bM (A::X)::C) w:=by
 have B:St S w0 (bM X::A::C) w:=h.perm (List.Perm.swap _ _ _)
 have D:St S w0 ((A::X)++C) w:=B.iz.perm (List.perm_middle (a:=A) (l₁:=X) (l₂:=C))
 exact D.tied
theorem Lj {E:fh} {K:Act→World→Prop} {D:g_} {L:dq} {C C1 X:List aA} {A:aA} (i j:Nat) (hn:decide (j::i::(List.range C.length).filter fun k=>k != i&&k != j).Nodup=true) (hC:j5 C (j::i::(List.range C.length).filter fun k=>k != i&&k != j)=A::bM X::C1)
 (h:KJ E K D L (bM (A::X)::C1)):KJ E K D L C:=fun a w hf hs=>h a w hf ((St.j5 _ hn hC hs).VC)
theorem Ey {E:fh} {K:Act→World→Prop} {D:g_} {L:dq} {C:List aA} (h:KJ E K D L (bM []::C)):KJ E K D L C:=fun a w hf hs=>h a w hf hs.Qx
theorem QN {E:fh} {K:Act→World→Prop} {D:g_} {L:dq} (C1 C2:List aA) (h:KJ E K D L (bM C1::C2)):KJ E K D L (C1++C2):=fun a w hf hs=>h a w hf (St.tied hs)
theorem Mj {E:fh} {fn:Func} {R:Ending→World→Prop} {D:g_} {L:dq} {C C1:List aA} {rs:List Nat} (i:Nat) (hn:decide (i::(List.range C.length).filter fun k=>k != i).Nodup=true) (hC:j5 C (i::(List.range C.length).filter fun k=>k != i)=bM (rs.map mq)::C1)
 (h:LJ E fn R D L C1):LJ E fn R (rs.map jU++D) L C:=by
 have key: ∀ rs:List Nat,LJ E fn R (rs.map jU++D) L (bM (rs.map mq)::C1):=by
  intro rs
  induction rs with
  |nil=>exact fun a w hf hs=>h a w hf (hs.take (List.sublist_cons_self _ _))
  |cons r rs ih=>
   have A:LJ E fn R (jU r::(rs.map jU++D)) L (mq r::bM (rs.map mq)::C1):=rj 0 rfl rfl (fun a w hf hs=>ih a w hf (hs.take (List.sublist_cons_self _ _)))
   intro a w hf hs
   refine A a w hf ?_
   have B:St E.S E.w0 ((mq r::rs.map mq)++C1) w:=St.iz (C1:=mq r::rs.map mq) hs
   have F:St E.S E.w0 (rs.map mq++(mq r::C1)) w:=B.perm (List.perm_middle (a:=mq r) (l₁:=rs.map mq) (l₂:=C1)).symm
   exact F.tied.perm (List.Perm.swap _ _ _)
 exact fun a w hf hs=>key rs a w hf (St.j5 _ hn hC hs)
theorem JH {E:fh} {fn:Func} {R:Ending→World→Prop} {L:dq} {C C1:List aA} {rs:List Nat} (i:Nat) (hn:decide (i::(List.range C.length).filter fun k=>k != i).Nodup=true) (hC:j5 C (i::(List.range C.length).filter fun k=>k != i)=bM (rs.map mq)::C1)
 (h:LJ E fn R [] L C1):LJ E fn R (rs.map jU) L C:=by
 have:=Mj (D:=[]) i hn hC h
 rwa [List.append_nil] at this
end
section
open Go.RowKit
theorem EU (fs:List FM) (fb:List Nat):(bM (bg m_ fs fb)).wr=true:=by
 show (bg m_ fs fb).all (·.wr)=true
 rw [df]
 intro X hX
 obtain ⟨k,m,a,_,_,h⟩:=jx hX
 simp only [m_,cE] at h
 subst h; rfl
theorem Oc (fs:List TM) (fb:List Nat):(bM (bg pS fs fb)).wr=true:=by
 show (bg pS fs fb).all (·.wr)=true
 rw [df]
 intro X hX
 obtain ⟨k,m,a,_,_,h⟩:=jx hX
 simp only [pS,cE] at h
 subst h; rfl
end
section
def dF (bl:List Nat) (n:Nat):List (Option Nat):=bl.map some++List.replicate (n-bl.length) none
def iv (bl:List Nat) (n:Nat):List (Option Nat):=List.replicate (n-bl.length) none++bl.map some
theorem nE {bl:List Nat} {n:Nat} (h:bl.length≤n):(dF bl n).length=n:=by simp [dF]; omega
theorem yW {bl:List Nat} {n:Nat} (h:bl.length≤n):(iv bl n).length=n:=by simp [iv]; omega
theorem vL {n:Nat}:List.replicate n none=dF [] n:=by simp [dF]
theorem Hm {n:Nat}:List.replicate n none=iv [] n:=by simp [iv]
theorem zn {bl:List Nat} {n:Nat} (h:bl.length=n):dF bl n=bl.map some:=by simp [dF,h]
theorem Hs {bl:List Nat} {n:Nat} (h:bl.length=n):iv bl n=bl.map some:=by simp [iv,h]
theorem mQ {bl:List Nat} {n k g:Nat} (h:bl[k]? =some g):(dF bl n)[k]? =some (some g):=by
 have hk:=(bf.1 h).1
 unfold dF
 rw [List.getElem?_append_left (by simpa using hk),gn,h]; rfl
theorem uG {bl:List Nat} {n k i g:Nat} (h:bl[i]? =some g) (hk:k=n-bl.length+i):(iv bl n)[k]? =some (some g):=by
 subst hk
 unfold iv
 rw [List.getElem?_append_right sm,gn,List.length_replicate,Nat.add_sub_cancel_left,h]; rfl
theorem r_ {bl:List Nat} {n k g:Nat} (hk:k=bl.length) (h:bl.length<n):(dF bl n).set k (some g)=dF (bl++[g]) n:=by
 subst hk
 unfold dF
 rw [List.set_append_right _ _ sm]
 have e:n-bl.length=(n-(bl++[g]).length)+1:=by simp; omega
 rw [e,List.replicate_succ]
 simp
theorem HA {bl:List Nat} {n k g:Nat} (hk:k+1+bl.length=n):(iv bl n).set k (some g)=iv (g::bl) n:=by
 unfold iv
 have e:n-bl.length=k+1:=by omega
 have A:n-(g::bl).length=k:=by simp; omega
 rw [e,A,List.set_append_left _ _ sm,List.replicate_succ',List.set_append_right _ _ sm]
 simp
theorem qD {l:List (Option Nat)} {k g:Nat} (h:l[k]? =some (some g)):(l.map oC)[k]? =some (oC (some g)):=by rw [gn,h]; rfl
theorem AA {α:Type} {l:List α} {x:α} {k:Nat} (h:k=l.length):(l++[x])[k]? =some x:=by subst h; simp
theorem Lx {α:Type} {l:List α} {x y:α} {k:Nat} (h:l[k]? =some y):(l++[x])[k]? =some y:=by rw [List.getElem?_append_left (bf.1 h).1]; exact h
structure qz (w:cr) (fs:List FM):Prop where
 all: ∀ (b:Nat) m,fs[b]? =some m→uf m (qx w b)∧(m.map (·.1)).Nodup
structure iw (w:cr) (k:Nat) (bs:List FM):Prop where
 all: ∀ (i:Nat) m,bs[i]? =some m→vZ m (back w (k+i))∧(m.map (·.1)).Nodup
variable {w:cr} {b:Nat} {mb m left:List (aQ×Int)} {o:Int×ai} {os:List (Int×ai)} {p:aQ×Int}
theorem qz.first:qz w [[(⟨0,0⟩,w.Start)]]:=⟨fun b m h=>by
 match b with
 |0=>simp at h; subst h; exact ⟨HE,sm⟩
 |n+1=>simp at h⟩
theorem qz.add {fs:List FM} (h:qz w fs) (hl:fs.length=b+1) (hmb:fs[b]? =some mb) (hm:yD w b m) (hd:km w b mb m left) (h0:left=[]):qz w (fs++[m]):=⟨fun i x hx=>by
 rcases Nat.lt_or_ge i fs.length with q|q
 ·rw [List.getElem?_append_left q] at hx; exact h.all i x hx
 ·rw [List.getElem?_append_right q] at hx
  have hi:i-fs.length=0:=by
   rcases Nat.eq_zero_or_pos (i-fs.length) with z|z
   ·exact z
   ·rw [List.getElem?_eq_none (by simp; omega)] at hx; cases hx
  rw [hi] at hx
  simp at hx; subst hx
  obtain rfl:i=b+1:=by omega
  have A:=h.all b mb hmb
  exact ⟨Jo A.2 A.1 hm.snd (hd.fin h0),hm.keys⟩⟩
theorem qz.ok {fs:List FM} (h:qz w fs) (hl:fs.length=w.n+1):wg w fs:=⟨hl,fun b m hm=>(h.all b m hm).1,fun b m hm=>(h.all b m hm).2⟩
theorem iw.none_:iw w b []:=⟨fun i m h=>by simp at h⟩
theorem iw.last (hb:w.n≤b):iw w b [[(⟨0,0⟩,w.gj)]]:=⟨fun i m h=>by
 match i with
 |0=>simp at h; subst h; exact ⟨Jn I,sm⟩
 |n+1=>simp at h⟩
theorem iw.add {bs:List FM} (h:iw w (b+1) bs) (hb:b<w.n) (hmb:bs[0]? =some mb) (hm:wy w b m) (hd:jQ w b mb m left) (h0:left=[]):iw w b (m::bs):=⟨fun i x hx=>by
 match i with
 |0=>
  simp at hx; subst hx
  have A:=h.all 0 mb hmb
  exact ⟨Ig hb A.2 A.1 hm.snd hm.zero (hd.fin h0),hm.keys⟩
 |n+1=>
  have:=h.all n x (by simpa using hx)
  rw [show b+1+n=b+(n+1) by omega] at this
  exact this⟩
theorem iw.ok {bs:List FM} (h:iw w 0 bs) (hl:bs.length=w.n+1):tO w bs:=⟨hl,fun b m hm=>by have:=(h.all b m hm).1; rwa [Nat.zero_add] at this,fun b m hm=>(h.all b m hm).2⟩
/-- on the way through one entry's options -/
structure oe (w:cr) (b:Nat) (mb left m:List (aQ×Int)) (p:aQ×Int) (os:List (Int×ai)):Prop where
 on:yD w b m
 uU:km w b mb m left
 done:jt w b m p os
structure nJ (w:cr) (b:Nat) (mb left m:List (aQ×Int)) (p:aQ×Int) (os:List (Int×ai)):Prop where
 on:wy w b m
 uU:jQ w b mb m left
 done:jo w b m p os
theorem oe.start (h:yD w b m) (h2:km w b mb m left):oe w b mb left m p []:=⟨h,h2,fun o ho=>by cases ho⟩
theorem nJ.start (h:wy w b m) (h2:jQ w b mb m left):nJ w b mb left m p []:=⟨h,h2,fun o ho=>by cases ho⟩
theorem Hl {q:aQ×Int} (h:(m.lookup q.1).isSome=false∨q.2<(m.lookup q.1).getD 0):pM m q=eB m q.1 q.2:=by
 unfold pM
 cases e:m.lookup q.1 with
 |none=>rfl
 |some v=>rw [e] at h; simp at h; simp only; rw [if_pos h]
theorem Ds {q:aQ×Int} (h:(m.lookup q.1).isSome=true) (h2: ¬ q.2<(m.lookup q.1).getD 0):pM m q=m:=by
 unfold pM
 cases e:m.lookup q.1 with
 |none=>rw [e] at h; cases h
 |some v=>rw [e] at h2; simp only [Option.getD_some] at h2; simp only; rw [if_neg h2]
theorem HI {q:aQ×Int} (h:(m.lookup q.1).isSome=false∨(m.lookup q.1).getD 0<q.2):pg m q=eB m q.1 q.2:=by
 unfold pg
 cases e:m.lookup q.1 with
 |none=>rfl
 |some v=>rw [e] at h; simp at h; simp only; rw [if_pos h]
theorem Es {q:aQ×Int} (h:(m.lookup q.1).isSome=true) (h2: ¬ (m.lookup q.1).getD 0<q.2):pg m q=m:=by
 unfold pg
 cases e:m.lookup q.1 with
 |none=>rw [e] at h; cases h
 |some v=>rw [e] at h2; simp only [Option.getD_some] at h2; simp only; rw [if_neg h2]
theorem Az {t:aQ} {v y:Int} (hy:w.qB[b]? =some y) (h:max (v+y) o.2.Lo≤min o.2.Hi w.gj):m6 w b (t,v) o=some (dL t (gl o.1),max (v+y) o.2.Lo):=by
 have e:=od hy
 subst e
 exact Jw h
theorem Lv {t:aQ} {v y:Int} (hy:w.qB[b]? =some y) (h: ¬ max (v+y) o.2.Lo≤min o.2.Hi w.gj):m6 w b (t,v) o=none:=by
 have e:=od hy
 subst e
 exact MU h
theorem Af {t:aQ} {v y:Int} (hy:w.qB[b]? =some y) (h:o.2.Lo≤min v o.2.Hi):pA w b (t,v) o=some (dL t (gl o.1),min v o.2.Hi-y):=by
 have e:=od hy
 subst e
 exact Il h
theorem oe.set {q:aQ×Int} (h:oe w b mb left m p os) (hp:p∈qx w b) (ho:o∈jV w b) (he:m6 w b p o=some q) (hs:(m.lookup q.1).isSome=false∨q.2<(m.lookup q.1).getD 0):oe w b mb left (eB m q.1 q.2) p (os++[o]):=by
 rw [← Hl hs]
 exact ⟨h.on.add hp ho he,h.uU.lower wk,h.done.Kl he⟩
theorem oe.pI {q:aQ×Int} (h:oe w b mb left m p os) (he:m6 w b p o=some q) (hs:(m.lookup q.1).isSome=true) (h2: ¬ q.2<(m.lookup q.1).getD 0):oe w b mb left m p (os++[o]):=by
 have:=h.done.Kl he
 rw [Ds hs h2] at this
 exact ⟨h.on,h.uU,this⟩
theorem oe.skip (h:oe w b mb left m p os) (he:m6 w b p o=none):oe w b mb left m p (os++[o]):=⟨h.on,h.uU,h.done.none_ he⟩
theorem nJ.set {q:aQ×Int} (hb:b<w.n) (h:nJ w b mb left m p os) (hp:p∈back w (b+1)) (ho:o∈jV w b) (he:pA w b p o=some q) (hs:(m.lookup q.1).isSome=false∨(m.lookup q.1).getD 0<q.2):nJ w b mb left (eB m q.1 q.2) p (os++[o]):=by
 rw [← HI hs]
 exact ⟨h.on.add hb hp ho he,h.uU.upper rz,h.done.Kl he⟩
theorem nJ.pI {q:aQ×Int} (h:nJ w b mb left m p os) (he:pA w b p o=some q) (hs:(m.lookup q.1).isSome=true) (h2: ¬ (m.lookup q.1).getD 0<q.2):nJ w b mb left m p (os++[o]):=by
 have:=h.done.Kl he
 rw [Es hs h2] at this
 exact ⟨h.on,h.uU,this⟩
theorem nJ.skip (h:nJ w b mb left m p os) (he:pA w b p o=none):nJ w b mb left m p (os++[o]):=⟨h.on,h.uU,h.done.none_ he⟩
theorem oe.next {t:aQ} {v:Int} (hn:(left.map (·.1)).Nodup) (hm:(t,v)∈left) (h:oe w b mb left m (t,v) os) (ho: ∀ o∈jV w b,o∈os):km w b mb m (fz left t):=h.uU.next hn hm h.done ho
theorem nJ.next {t:aQ} {v:Int} (hn:(left.map (·.1)).Nodup) (hm:(t,v)∈left) (h:nJ w b mb left m (t,v) os) (ho: ∀ o∈jV w b,o∈os):jQ w b mb m (fz left t):=h.uU.next hn hm h.done ho
theorem qz.mem {fs:List FM} (h:qz w fs) (hm:fs[b]? =some mb) (hp:p∈mb):p∈qx w b:=(h.all b mb hm).1.1 _ _ ((fU (h.all b mb hm).2).1 hp)
theorem iw.UN {bs:List FM} {k:Nat} (h:iw w k bs) (hk:k=b+1) (hm:bs[0]? =some mb) (hp:p∈mb):p∈back w (b+1):=by
 subst hk
 exact (h.all 0 mb hm).1.1 _ _ ((fU (h.all 0 mb hm).2).1 hp)
theorem iw.end_ {bs:List FM} {k j:Nat} (h:iw w k bs) (hj:bs.length=0) (hk:j=b) (hb:w.n≤b):iw w j ([(⟨0,0⟩,w.gj)]::bs):=by
 subst hk
 rw [kx hj]
 exact iw.last hb
theorem iw.more {bs:List FM} {k j:Nat} (h:iw w k bs) (hk:k=b+1) (hj:j=b) (hb:b<w.n) (hmb:bs[0]? =some mb) (hm:wy w b m) (hd:jQ w b mb m left) (h0:left=[]):iw w j (m::bs):=by
 subst hk hj
 exact h.add hb hmb hm hd h0
end
section
open Go.RowKit
theorem jr {a:OA} {c e sz n:Nat} {es:List (List Value)} (h:es.length=n):H0 (own a c e sz es) (rd a n sz es):=by subst h; exact N0
theorem rL {L:List aA}:H0 (bM L) (dE L):=⟨fun w h=>h.1,fun b h=>h⟩
theorem E4 {b:Nat} {fb:List Nat} {g:Nat} (h:fb.length=b):bg pS (List.replicate b ([]:TM)) fb++[ku iV g (cU jW [])]=bg pS (List.replicate (b+1) ([]:TM)) (fb++[g]):=by
 rw [List.replicate_succ']
 exact za (by rw [List.length_replicate]; exact h.symm) U
theorem Tb {α:Type} {ms:List α} {fb:List Nat} {n:Nat} (h:fb.length=n) (h2:ms.length=n):List.map oC (dF fb n)=List.zipWith gF ms fb:=by
 rw [zn h]; exact (Ap I).symm
theorem oN {l:bH} {r:c_} {i:Nat} {x:aF} (hx:r.aa[i]? =some x) (h: ¬ iT l r.aa i x): ¬ fQ l r:=fun q=>h (q.sig i x hx)
end
section
open Go.RowKit
theorem tI (ln:cm) (ri:cL) (e:List Int) (tms:List TM) (e_A:OA) (e_C:Nat) (tb:List Nat) (t_A:OA) (t_C:Nat) (fA:OA) (fN fC:Nat) (bA:OA) (bN bC:Nat) (gw b:Nat) (g1 g2:Nat) (hb:b<tms.length) (htb:tb.length=tms.length):
 Mg Tryz.prog 210 [] [(vP g1),(vP g2)] [(rd e_A e.length 1 (e.map iC)),(rd t_A tms.length 1 (List.zipWith gF tms tb)),(dE (bg pS tms tb)),(cz gw 276 (cd.cells (cd.mk ln ri (bE.mk e_A e.length e_C) (bE.mk t_A tms.length t_C) (bE.mk fA fN fC) (bE.mk bA bN bC)))),(cz g1 228 [(vP gw)]),(cz g2 3 [(vI (b:Int))])] ([]:List (Int×ai)) (fun ys x ys'=> ∃ o,o∈jV (cZ ln ri e tms) b∧x=Ot o∧ys'=ys++[o]) (fun ys=> ∀ o∈jV (cZ ln ri e tms) b,o∈ys):=by
 refine FZ kr Tryz.func210 U U fun l J Z A0 d Q hY V AA hQ hN=>?_
 try dsimp only
 refine aq fun _ X=>aq fun _ R=>cW cg 12 kr<|kv 2 [] (mr 5 U mn) U<|dS (SX (cw U U) U U)<|kv 4 [0,1] (mr 4 U (mr 5 U mn)) U<|dS (SX (cw U U) U U)<|dP 3 [] (mr 4 U mn) ?_
 refine dS (SX (bp (xs:=[(0,.tmp 11),(1,.tmp 16)]) (cs:=(ai.cells (ai.mk ri.Start ri.gj))) U U (bq gM U)) U U)<|cx<|yj (k:=([]:List (Int×ai))) (k':=(([]:List (Int×ai))++[((-1),(ai.mk ri.Start ri.gj))])) 0 (by first|exact hsz|exact Nat.le_refl _) hY V AA U U U (by exact ⟨(-1,⟨ri.Start,ri.gj⟩),bY ..,U,U⟩) U U (fun B3 N M=>?_) (fun B3 N M=>?_)
 rotate_left 1
 ·refine rP 1 [] mn ?_
  refine RK R<|aN U<|ar ?_
  refine hQ _ _ _ (j0 (vs:=[]) trivial fun w hs=>F0 0 U N M hs)
 refine bI 1 U<|RK R<|cq U<|WK X<|aq fun _ Y=>cW cg 7 kr<|kv 1 [] (mr 5 U mn) U<|dS (SX (cw U U) U U)<|dP 3 [0,1] (mr 4 U (mr 6 U mn)) ?_
 obtain ⟨x,hx⟩:=aC tms b I
 obtain ⟨xa,L⟩:=aC tb b I
 have a:(List.zipWith gF tms tb)[b]? =some (gF x xa):=cv hx L
 refine dS (IA b U (ay 2 U) yH dc I I)<|dS (gD b 0 (Value.map (some xa)) U bU (ay 2 U) a U dc U)<|cx<|qa (kV:=iV) (m:=cU jW x) 3 U U sX U ⟨⟨(ku iV xa (cU jW x)),(a_ hx L (by simp [pS])),U⟩,fun h=>h⟩ (show fY _ (ku iV xa (cU jW x)).holds from bX 3 U (a_ hx L (by simp [pS]))) U fun j=>?_
 try dsimp only
 refine RK Y<|aH ?_
 have G:(∀ o∈x,o∈x∨o∈(([]:List (Int×ai))++[((-1),(ai.mk ri.Start ri.gj))]))∧(∀ o∈x,o∈x)∧(J (([]:List (Int×ai))++[((-1),(ai.mk ri.Start ri.gj))]) B3)∧(Fo A0 d B3)∧((-1,(⟨ri.Start,ri.gj⟩:ai))∈(([]:List (Int×ai))++[((-1),(ai.mk ri.Start ri.gj))])):=by exact ⟨fun o ho=> .inl ho,fun o ho=>ho,asm,asm,sm⟩
 refine bS (ι:={z:TM×(List (Int×ai))×aA // (∀ o∈x,o∈z.1∨o∈z.2.1)∧(∀ o∈z.1,o∈x)∧(J z.2.1 z.2.2)∧(Fo A0 d z.2.2)∧((-1,(⟨ri.Start,ri.gj⟩:ai))∈z.2.1)}) [0,1,2,27] [2,3,4,6,7] U U (fun z=>[]) (fun z=>[(Dh iV j xa (cU jW x) (cU jW z.1.1) none),z.1.2.2]) (fun _=>rfl) (fun _=>rfl) (fun z=>z.1.1.length) ⟨(x,(([]:List (Int×ai))++[((-1),(ai.mk ri.Start ri.gj))]),B3),G⟩ (dp.nil _) (aR [2,3,4,6,7,0,1]) ?_
 clear G
 rintro ⟨⟨left,ys,A⟩,⟨B,C,D,E,F⟩⟩ J8 W
 try dsimp only at B C D E F
 try dsimp only
 refine WS fun _ S=>oR (iJ qn).inj (f:=jW) 5 U U U U (fun T=>?_) (fun i z hm hn=>?_)
 ·refine rP 1 [] mn ?_
  refine RK S<|aq fun _ c=>cq U<|bQ<|ag<|ag<|aI ?_
  refine hN _ _ _ (j0 (vs:=[]) trivial fun w hs=>PG 6 U (by exact GS hx B T F) D E hs)
 try dsimp only
 refine bI 1 U<|RK S<|aq fun _ O=>aN U<|WK O<|aH<|WS fun _ P=>rS (SX (oE 5 U U U) U U)<|bI 2 U<|AL U dU fun g=>bI 1 U<|eN U cT U<|RK P<|WS fun _ K=>rP 3 [] (mc 0 U mn) ?_
 refine yj (k:=ys) (k':=(ys++[(i,z)])) 7 (by first|exact hsz|exact Nat.le_refl _) hY D E U U U (by exact ⟨(i,z),(xN hx).2 (.inr (C _ hm)),U,U⟩) U U (fun B15 AB H=>?_) (fun B15 AB H=>?_)
 rotate_left 1
 ·refine rP 1 [] mn ?_
  refine RK K<|aN U<|ar ?_
  refine hQ _ _ _ (j0 (vs:=[]) trivial fun w hs=>F0 7 U AB H hs)
 refine rP 1 [] mn ?_
 refine RK K<|cq U<|cj<|aP<|re 6 U o6 U ?_
 refine bu (W ⟨((fz left i),(ys++[(i,z)]),B15),⟨HQ hn hm B,mW C,asm,asm,by simp [F]⟩⟩ _ _ _ U (mY hm) (bD U) (aR [1,2,3,4,5,6,7]))
theorem vU (gw b:Nat):
 nG Tryz.prog 187 [(vP gw),(vI (b:Int))] [] (fun (x:Nat×Nat)=>(Value.func (.func 210) [].toArray [(Value.pointer (some ⟨x.1,0,none⟩)),(Value.pointer (some ⟨x.2,0,none⟩))].toArray)) (fun (x:Nat×Nat)=>True) (fun (x:Nat×Nat)=>[(cz x.1 228 [(vP gw)]),(cz x.2 3 [(vI (b:Int))])]):=by
 refine eO kr Tryz.func187 U U fun E Q hQ hN=>?_
 try dsimp only
 refine WS fun _ A=>wM U U fun C=>wM U U fun D=>bI 1 U<|RK A<|WS fun _ B=>rS (FU U)<|rP 1 [] mn ?_
 refine RK B<|ar<|LX hQ (C,D) [1,0] [] mn U U U U ?_
 trivial
theorem Kh (gw b:Nat):
 nG Tryz.prog 149 [(vP gw),(vI (b:Int))] [] (fun (x:Nat×Nat)=>(Value.func (.func 186) [].toArray [(Value.pointer (some ⟨x.1,0,none⟩)),(Value.pointer (some ⟨x.2,0,none⟩))].toArray)) (fun (x:Nat×Nat)=>True) (fun (x:Nat×Nat)=>[(cz x.1 228 [(vP gw)]),(cz x.2 3 [(vI (b:Int))])]):=by
 refine eO kr Tryz.func149 U U fun E Q hQ hN=>?_
 try dsimp only
 refine WS fun _ A=>wM U U fun C=>wM U U fun D=>bI 1 U<|RK A<|WS fun _ B=>rS (FU U)<|rP 1 [] mn ?_
 refine RK B<|ar<|LX hQ (C,D) [1,0] [] mn U U U U ?_
 trivial
end
section
open Go.RowKit
theorem ph:vR Tryz.prog 281 eH:=NW Oe (fun x y w=>QH 9998 x y w) (fun x y h=>by cases x; cases y; simp [aQ.cells] at h; simp [h]) (fun x=>by simp [aQ.cells,Instr.sameBits]) (fun x w=>⟨_,rfl,fun p hp=>by
 simp only [b_,List.not_mem_nil,or_false] at hp
 rcases hp with rfl|rfl
 ·exact ⟨⟨_,dK bU U w⟩,_,qn⟩
 ·exact ⟨⟨_,dK bU U w⟩,_,qn⟩⟩)
theorem KM (s:Int):
 dB Tryz.prog 190 [(vI s)] [] (vA (aQ.cells (gl s))):=by
 refine bJ kr Tryz.func190 U U fun H Q hQ hN=>?_
 try dsimp only
 refine WS fun _ B=>AL U uI fun G=>RK B<|aq fun _ C=>WS fun _ D=>rP 2 [] mn ?_
 refine RK D<|ck U (aT fun A=>?_) (aU fun A=>?_)
 ·refine WS fun _ E=>rS (SX (bp (xs:=[(1,.const (vI 1))]) (cs:=(aQ.cells (aQ.mk 0 1))) U U (bq Cu U)) U U)<|eN U sZ U<|RK E<|ar<|Dg hQ [0] (mc 0 U mn) U ?_
  unfold gl; first|rw [if_pos A]|rw [if_neg A]
 refine WK C<|WS fun _ F=>rS (SX (bp (xs:=[(0,.const (vI 1))]) (cs:=(aQ.cells (aQ.mk 1 0))) U U (bq Cu U)) U U)<|eN U sZ U<|RK F<|ar<|Dg hQ [0] (mc 0 U mn) U ?_
 unfold gl; first|rw [if_pos A]|rw [if_neg A]
theorem wK (x:aQ) (y:aQ) (hx:(0≤x.right∧x.right≤1000)∧0≤x.fB∧x.fB≤1000) (hy:(0≤y.right∧y.right≤1000)∧0≤y.fB∧y.fB≤1000):
 dB Tryz.prog 189 [(vA (aQ.cells x)),(vA (aQ.cells y))] [] (vA (aQ.cells (dL x y))):=by
 refine bJ kr Tryz.func189 U U fun F Q hQ hN=>?_
 try dsimp only
 refine WS fun _ A=>eJ U fun C=>eJ U fun D=>AL U uI fun E=>RK A<|WS fun _ B=>rP 10 [0,1,0,1] (mc 2 U (mc 1 U mn)) ?_
 refine rS (SX (bp (xs:=[(0,.tmp 9),(1,.tmp 14)]) (cs:=(aQ.cells (aQ.mk (x.right+y.right) (x.fB+y.fB)))) U U (bq Cu U)) U U)<|eN U sZ U<|RK B<|ar ?_
 exact Dg hQ [0] (mc 0 U mn) U U
theorem Ox (ln:cm) (ri:cL) (e:List Int) (tms:List TM) (e_A:OA) (e_C:Nat) (tb:List Nat) (t_A:OA) (t_C:Nat) (fs:List FM) (bs:List FM) (fb:List Nat) (f_A:OA) (f_C:Nat) (bb:List Nat) (b_A:OA) (b_C gw:Nat) (x:aQ) (hx:(0≤x.right∧x.right≤1000)∧0≤x.fB∧x.fB≤1000) (hn:ri.aa.n≤1000):
 dB Tryz.prog 188 [(vP gw),(vA (aQ.cells x))] [(rd e_A e.length 1 (e.map iC)),(rd t_A tms.length 1 (List.zipWith gF tms tb)),(dE (bg pS tms tb)),(rd f_A fs.length 1 (List.zipWith gF fs fb)),(dE (bg m_ fs fb)),(rd b_A bs.length 1 (List.zipWith gF bs bb)),(dE (bg m_ bs bb)),(cz gw 276 (cd.cells (cd.mk ln ri (bE.mk e_A e.length e_C) (bE.mk t_A tms.length t_C) (bE.mk f_A fs.length f_C) (bE.mk b_A bs.length b_C))))] (vB (m0 (cZ ln ri e tms) x)):=by
 refine bJ kr Tryz.func188 U U fun E Q hQ hN=>?_
 try dsimp only
 refine WS fun _ C=>eJ U fun D=>bI 1 U<|RK C<|aq fun _ B=>cW cg 26 kr<|kv 3 [] (mc 0 U mn) U<|dS (SX (cw U U) U U)<|dP 5 [] (mr 8 U mn) ?_
 refine hP (t:=13) U (aU fun A=>?_) (aT fun A=>?_)
 ·refine dP 17 [] mn ?_
  refine cx<|RK B<|ar<|Q1 hQ U U U ?_
  exact cB (bj (fun h=>A h.1)).symm
 refine kR 1 U<|dS (SX (cw U U) U U)<|kv 8 [0,1] (mr 8 U (mc 0 U mn)) U<|dS (SX (cw U U) U U)<|dP 6 [] (mr 8 U mn) ?_
 refine cx<|RK B<|ar<|Q1 hQ U U U ?_
 exact cB (gU.2 ⟨fun h=>⟨A,h⟩,fun h=>h.2⟩)
end
end Go.Proofs.YtkaenmjhfajbkaaGreatDoor
