/-
 The statement juryTrue_said, part 5 of 8: Told, Clear, JTrue, JHits, JMem, SeqO, RankP, NestS, Grp, JSeq, JTop, JMor, JFeeL, JAll, JAllL, JTruL, Twin, Fresh, JTruM, MapD, ExL, Rep, ExJ, Win6, JWin, JAlv, B1, B10, Frozen, MarkD, Marks, Follow, OpenM, Z1, Rx4, Jla, DrawB, Bits, BoolC, RaceR, Async, AsyncV, Jw1, IdxK, Jw2, S1, V1, V3.
 Conditions: none.
-/
import Derived.Test.YtfhghdbminmhnaaGreatDoorTy1
import Derived.Test.YtfhghdbminmhnaaGreatDoorTy2
import Derived.Test.YtfhghdbminmhnaaGreatDoorTy3
import Derived.Test.YtfhghdbminmhnaaGreatDoorTy4
import Derived.KernelRfl
namespace Go.Proofs.YtfhghdbminmhnaaGreatDoor
set_option maxRecDepth 100000
set_option maxHeartbeats 4000000
set_option linter.unusedVariables false
section
theorem IQ {c:au} (h:eP c) {rd t:Int} (ht:0≤t∧t≤86400000):((gr c t).Lo≤rd-t∧rd-t≤(gr c t).Hi)↔((oG c rd).Lo≤t∧t≤(oG c rd).Hi):=by
 obtain ⟨C,D,E,F⟩:=km h (r:=rd) ht.1 om
 unfold oG
 simp only
 constructor
 ·rintro ⟨a,b⟩
  refine ⟨?_,?_⟩
  ·rcases Int.lt_or_le t (fz (fX c rd) 86400001) with q|q
   ·have:=C q
    unfold fX at this
    have:=of_decide_eq_false this
    omega
   ·exact q
  ·rcases Int.lt_or_le t (fz (fY c rd) 86400001) with q|q
   ·omega
   ·have:=F q
    unfold fY at this
    have:=of_decide_eq_true this
    omega
 ·rintro ⟨a,b⟩
  have A:=D a
  have B:=E om
  unfold fX at A
  unfold fY at B
  have A:=of_decide_eq_true A
  have B:=of_decide_eq_false B
  omega
theorem Sb (a b:Int) (ha:0≤a) (hb:0<b):0≤a % b∧a % b<b:=⟨Int.emod_nonneg _ (Int.ne_of_gt hb),Int.emod_lt_of_pos _ hb⟩
theorem mo {l:bp} (ht:dB l.aS=true) (h:lF l) {i:Nat} (hi:i<l.aa.length):1≤cZ l i∧cZ l i≤500000000:=by
 have A:=h.Oy i hi
 have B:=zq ht h.re i
 have hf:=h.head.1
 unfold cZ mZ
 refine ⟨(Int.le_ediv_iff_mul_le om).2 om,?_⟩
 have:(1000*lg l i+l.hZ-1)/l.hZ≤1000*lg l i+l.hZ-1:=Int.ediv_le_self _ om
 omega
end
section
def db (good:List Int):aN:=good.foldl (fun t g=>dM t (fV g)) ⟨0,0⟩
theorem iU {l:List Int} {g:Int}:db (l++[g])=dM (db l) (fV g):=by unfold db; rw [List.foldl_append]; rfl
def rm (r:bT) (times:List Int) (b:Nat):Int:=if b=0 then r.Start else (times[b-1]?).getD 0
theorem qu {r:bT} {times:List Int} {b:Nat} {t:Int} (h:times[b]? =some t):rm r times (b+1)=t:=by unfold rm; rw [if_neg om,Nat.add_sub_cancel,h]; rfl
structure gZ (l:bp) (r:bT) (times good:List Int):Prop where
 kH:er l r
 len:good.length=times.length
 le:times.length≤l.aa.length
 step: ∀ (b:Nat) t,times[b]? =some t→rm r times b+cZ l b≤t∧t≤r.gh
 sig: ∀ (b:Nat) t g,times[b]? =some t→good[b]? =some g→g= -1∨ ∃ (k:Nat) (s:aA),g=(k:Int)∧r.ab[k]? =some s∧s.fE=(b:Int)∧(cG l s).Lo≤t∧t≤(cG l s).Hi
 Du:(db good).e7≤l.dq
 Uh:(r.ab.length:Int)-(db good).right≤l.fO
section
variable {l:bp} {r:bT} {times good:List Int}
theorem gZ.low (h:gZ l r times good) (hl:dg l=0): ∀ b,0≤cO (cQ l r) b:=fun b=>by
 obtain ⟨ht,A⟩:=du hl
 exact ((lL ht A h.kH).cO b).1
theorem gZ.least (h:gZ l r times good) {b:Nat} (hb:b<times.length):cO (cQ l r) b=cZ l b:=by
 have:=h.le
 rw [zQ,if_pos om]
theorem gZ.from_ (h:gZ l r times good) (hl:dg l=0): ∀ b:Nat,b≤times.length→r.Start≤rm r times b∧rm r times b≤r.gh:=by
 intro b
 induction b with
 |zero=>intro _; have:=h.kH.time; unfold rm; rw [if_pos rfl]; omega
 |succ b ih=>
  intro hb
  have ht:times[b]? =some (times[b]'om):=fg _
  have B:=ih om
  have C:=h.step b _ ht
  have A:=h.low hl b
  rw [h.least om] at A
  rw [qu ht]
  omega
/-- what comes next, in the truth -/
theorem gZ.opt (h:gZ l r times good) (hl:dg l=0) {b:Nat} {t g:Int} (ht:times[b]? =some t) (hg:good[b]? =some g): ∃ o∈jK (cQ l r) b,o.1=g∧o.2.Lo≤t∧t≤o.2.Hi:=by
 have hb:=(aZ.1 ht).1
 have E:=h.le
 have F:=h.step b t ht
 have G:=h.from_ hl b om
 have B:=h.low hl b
 rw [h.least hb] at B
 rcases h.sig b t g ht hg with rfl|⟨k,s,rfl,hs,A,C,D⟩
 ·exact ⟨(-1,⟨r.Start,r.gh⟩),(rR om).2 (.inl U),U,by simp only; omega,by simp only; omega⟩
 ·exact ⟨((k:Int),cG l s),(rR om).2 (.inr ⟨k,(aZ.1 hs).1,s,hs,⟨A,om⟩,U⟩),U,C,D⟩
theorem mw {α:Type} {l:List α} {b:Nat} {x:α} (h:l[b]? =some x):l.take (b+1)=l.take b++[x]:=by rw [List.take_add_one,h]; rfl
theorem gZ.live (h:gZ l r times good) (hl:dg l=0): ∀ b:Nat,b≤times.length→Wk (cQ l r) b (db (good.take b),rm r times b):=by
 intro b
 induction b with
 |zero=>intro _; exact ⟨r.Start,by simp [pO,db]; rfl,by unfold rm; rw [if_pos rfl]; exact Int.le_refl _⟩
 |succ b ih=>
  intro hb
  have B:=h.len
  have ht:times[b]? =some (times[b]'om):=fg _
  have hg:good[b]? =some (good[b]'om):=fg _
  obtain ⟨v,hv,A⟩:=ih om
  obtain ⟨o,ho,e,C,D⟩:=h.opt hl ht hg
  have E:=h.step b _ ht
  have F:=h.least (b:=b) om
  simp only at A hv
  rw [qu ht,mw hg,iU,← e]
  refine ⟨max (v+cO (cQ l r) b) o.2.Lo,jA.2 ⟨_,hv,o,ho,lj.2 ⟨?_,U⟩⟩,?_⟩
  ·have G:(cQ l r).gh=r.gh:=rfl
   simp only; omega
  ·simp only; omega
theorem gZ.UK (h:gZ l r times good) (hl:dg l=0): ∀ (d b:Nat),b+d=times.length→Gr (cQ l r) b (db (good.take b),rm r times b):=by
 intro d
 induction d with
 |zero=>
  intro b hb
  have hn:(cQ l r).n=l.aa.length:=dh
  have C:=h.len
  have D:=h.le
  refine ⟨0,om,_,by simp [h_]; rfl,?_⟩
  rw [List.take_of_length_le om]
  unfold l8
  have A:=h.Du
  have B:=h.Uh
  exact dN ⟨A,B⟩
 |succ d ih=>
  intro b hb
  have C:=h.len
  have ht:times[b]? =some (times[b]'om):=fg _
  have hg:good[b]? =some (good[b]'om):=fg _
  obtain ⟨o,ho,e,D,A⟩:=h.opt hl ht hg
  have B:=h.step b _ ht
  have E:=h.least (b:=b) om
  have F:(cQ l r).gh=r.gh:=rfl
  have hv:=ih (b+1) om
  rw [qu ht,mw hg,iU,← e] at hv
  exact Hb (k:=1) (jN.2 ⟨o,ho,_,lj.2 ⟨by first|omega|(simp only; omega),U⟩,by simp [h_]; rfl⟩) (Eg hv (by first|omega|(simp only; omega)))
theorem gZ.pass (h:gZ l r times good) (hl:dg l=0) {b:Nat} {t g:Int} (ht:times[b]? =some t) (hg:good[b]? =some g):DR (cQ l r) b g t:=by
 have hb:=(aZ.1 ht).1
 obtain ⟨v,hv,A⟩:=h.live hl b om
 obtain ⟨o,ho,e,B,C⟩:=h.opt hl ht hg
 have D:=h.step b _ ht
 have E:=h.least (b:=b) hb
 have F:(cQ l r).gh=r.gh:=rfl
 have hw:=h.UK hl (times.length-(b+1)) (b+1) om
 rw [qu ht,mw hg,iU,← e] at hw
 simp only at A
 exact ⟨_,hv,o,ho,e,⟨by simp only; omega,om⟩,hw⟩
theorem gZ.num (h:gZ l r times good) (hl:dg l=0):(times.length:Int)∈lQ (cQ l r):=by
 obtain ⟨v,hv,_⟩:=h.live hl times.length (Nat.le_refl _)
 have hn:(cQ l r).n=l.aa.length:=dh
 have B:=h.le
 refine yf.2 ⟨times.length,U,om,?_⟩
 unfold lf
 refine List.any_eq_true.2 ⟨_,hv,?_⟩
 have A:=h.len
 rw [List.take_of_length_le om]
 unfold l8
 exact dN ⟨h.Du,h.Uh⟩
theorem gZ.e (h:gZ l r times good) (hl:dg l=0):eW l r 0=0:=pM hl h.kH rfl fun e=>by have:=h.num hl; rw [e] at this; cases this
theorem gZ.Pm (h:gZ l r times good) (hl:dg l=0) {b:Nat} {t:Int} (ht:times[b]? =some t):dV l r b=0∧(dI l r b).Lo≤t∧t≤(dI l r b).Hi:=by
 have hb:=(aZ.1 ht).1
 have C:=h.len
 have D:=h.le
 have hg:good[b]? =some (good[b]'om):=fg _
 have hn:(cQ l r).n=l.aa.length:=dh
 obtain ⟨q,hq,_,A,B⟩:=(FT (h.low hl) om).2 (h.pass hl ht hg)
 have hh:=Nx (l:=qM (cQ l r) b) (fun q hq=>ny hq) hq
 have ho:eW l r (jT l b)=0:=by rw [zJ om]; exact h.e hl
 have e:=mX ho hh.ne
 refine ⟨e.1,?_⟩
 rw [e.2]
 have:=hh.all q hq
 exact ⟨Int.le_trans this.1 A,Int.le_trans B this.2⟩
end
end
section
/-- a true time lies within what is told -/
structure v9 (l:bp) (r:bT) (b t:Int):Prop where
 some_:(cz l r b).never=false
 lo:(cz l r b).Lo≤t
 hi:t≤(cz l r b).Hi
section
variable {l:bp} {r:bT} {b t i o:Int} {f:aK} {d:ax} {times good:List Int} {j:cK} {p:aY}
theorem xG (h:b<0):v9 l r b r.Start:=by
 have e:cz l r b=⟨r.Start,r.Start,true,false⟩:=if_pos h
 exact ⟨by rw [e],by rw [e]; exact Int.le_refl _,by rw [e]; exact Int.le_refl _⟩
theorem nX (h:gZ l r times good) (hl:dg l=0) {n:Nat} (ht:times[n]? =some t):v9 l r (n:Int) t:=by
 obtain ⟨A,B,C⟩:=h.Pm hl ht
 have D:=rG A
 have e:cz l r (n:Int)=⟨(dI l r n).Lo,if qL l r n=true then (dI l r n).Hi else 86400000,qL l r n,false⟩:=by unfold cz; rw [if_neg om,if_pos A]
 refine ⟨by rw [e],by rw [e]; exact B,?_⟩
 rw [e]
 show t≤if qL l r n=true then _ else _
 split<;>omega
theorem B6 (hd:mg d) (hi:v9 l d.bx (rH f) i) (ho:v9 l d.bx (JT l f) o) (hk:f.Kind=3→i=o):(i≤f.To∧f.iN≤o→ ¬ fF l f d=0)∧(fF l f d=2→i≤f.To∧f.iN≤o):=by
 obtain ⟨B,D,E⟩:=hi
 obtain ⟨F,G,H⟩:=ho
 have e:fF l f d=j9 f (cz l d.bx (rH f)) (cz l d.bx (JT l f)):=if_pos hd
 rw [e]
 generalize cz l d.bx (rH f)=a at *
 generalize cz l d.bx (JT l f)=b at *
 constructor
 ·intro q
  have c: ¬ (a.never=true∨f.To<a.Lo∨b.Hi<f.iN):=by
   rintro (q|q|q)
   ·rw [B] at q; cases q
   ·omega
   ·omega
  have C:j9 f a b=if a.each=true∧rE f a b then 2 else 1:=if_neg c
  rw [C]; split<;>omega
 ·intro q
  unfold j9 at q
  split at q
  ·cases q
  ·split at q
   ·rename_i s
    have A:=s.2
    unfold rE at A
    by_cases k:f.Kind=3
    ·rw [if_pos k] at A; have:=hk k; omega
    ·rw [if_neg k] at A; omega
   ·cases q
theorem DO (hd:n7 j p=some d) (hn:v9 j.Race.ak d.bx j.Race.ak.bO t):(p.At≤t+60000*j.ei→ ¬ jL j p=2)∧(jL j p=0→p.At≤t+60000*j.ei):=by
 obtain ⟨A,B,C⟩:=hn
 unfold jL
 rw [hd]
 simp only
 constructor
 ·intro q e
  split at e
  ·cases e
  ·split at e
   ·cases e
   ·omega
 ·intro e
  split at e
  ·omega
  ·split at e<;>cases e
end
end
section
/-- the places of which something is so; from the k-th on, all of them -/
def ic (P:Nat→Bool) (n k:Nat):List (Int×Bool):=((List.range n).filter fun q=>decide (k≤q)||P q).map fun (q:Nat)=>((q:Int),true)
section
variable {P:Nat→Bool} {n k q:Nat}
theorem xD {p:Int×Bool}:p∈ic P n k↔ ∃ q:Nat,q<n∧(k≤q∨P q=true)∧p=((q:Int),true):=by
 unfold ic
 simp only [cR,List.mem_filter,List.mem_range,Bool.or_eq_true,decide_eq_true_eq]
 constructor
 ·rintro ⟨q,⟨A,B⟩,rfl⟩; exact ⟨q,A,B,rfl⟩
 ·rintro ⟨q,A,B,rfl⟩; exact ⟨q,⟨A,B⟩,rfl⟩
theorem HW:((ic P n k).map (·.1)).Nodup:=by
 unfold ic
 rw [List.map_map,List.nodup_iff_pairwise_ne,List.pairwise_map]
 have h:(List.range n).Pairwise (· ≠ ·):=by rw [← List.nodup_iff_pairwise_ne]; exact List.nodup_range
 exact (h.sublist List.filter_sublist).imp fun {a b} A e=>A (by have B:(a:Int)=(b:Int):=e; omega)
theorem Lv:ew (ic P n 0) (n:Int) true=ic P (n+1) 0:=by
 have A:(ic P n 0).lookup (n:Int)=none:=im.2 fun p hp e=>by
  obtain ⟨q,B,_,rfl⟩:=xD.1 hp
  simp only at e; omega
 unfold ew
 rw [A]
 show ic P n 0++[((n:Int),true)]=_
 unfold ic
 rw [List.range_succ,List.filter_append,List.map_append]
 simp
theorem LU (h:P k=false):fy (ic P n k) (k:Int)=ic P n (k+1):=by
 unfold fy ic
 rw [List.filter_map,List.filter_filter]
 congr 1
 apply List.filter_congr
 intro q _
 by_cases e:q=k
 ·subst e; simp [h]
 ·have A:decide ((q:Int)=(k:Int))=false:=bI om
  have B:decide (k≤q)=decide (k+1≤q):=gR.2 om
  simp only [Function.comp_def,A,B,Bool.not_false,Bool.true_and]
theorem Hn (h:P k=true):ic P n k=ic P n (k+1):=by
 unfold ic
 congr 1
 apply List.filter_congr
 intro q _
 by_cases e:q=k
 ·subst e; simp [h]
 ·have A:decide (k≤q)=decide (k+1≤q):=gR.2 om
  rw [A]
theorem zx (hq:q<n):((ic P n n).lookup (q:Int)).getD false=P q:=by
 cases h:P q with
 |true=>
  have:((q:Int),true)∈ic P n n:=xD.2 ⟨q,hq,.inr h,rfl⟩
  rw [(lk HW).1 this]; rfl
 |false=>
  have:(ic P n n).lookup (q:Int)=none:=im.2 fun p hp e=>by
   obtain ⟨u,B,A,rfl⟩:=xD.1 hp
   simp only at e
   obtain rfl:u=q:=by omega
   rcases A with A|A
   ·omega
   ·rw [h] at A; cases A
  rw [this]; rfl
end
end
section
open Go.RowKit
structure gT (j:cK) (az:List RA) (ha:List c_):Prop where
 race:lS j.Race az ha
 nf:j.aG.length≤1000000
 np:j.aF.length≤1000000
 kind: ∀ f∈j.aG,0≤f.Kind∧f.Kind≤255
structure oN (j:cK) (az:List RA) (ha:List c_):Prop where
 race:uU j.Race az ha
 nf:j.aG.length≤9223372036854775807
 np:j.aF.length≤9223372036854775807
 kind: ∀ f∈j.aG,0≤f.Kind∧f.Kind≤255
def nc (j:cK):Prop:=(mA j.Race∨10<(j.aG.length:Int))∨15<(j.aF.length:Int)
noncomputable instance (j:cK):Decidable (nc j):=Classical.propDecidable _
theorem Fs {j:cK} (h: ¬ nc j): ¬ mA j.Race∧(j.aG.length:Int)≤10∧(j.aF.length:Int)≤15:=by
 unfold nc at h
 have A: ¬ mA j.Race:=fun q=>h (.inl (.inl q))
 have B: ¬ 10<(j.aG.length:Int):=fun q=>h (.inl (.inr q))
 have C: ¬ 15<(j.aF.length:Int):=fun q=>h (.inr q)
 exact ⟨A,om,om⟩
theorem oN.small {j:cK} {az:List RA} {ha:List c_} (h:oN j az ha) (hg: ¬ nc j):gT j az ha:=by
 have A:=Fs hg
 exact ⟨h.race.small A.1,om,om,h.kind⟩
def o2 (fin:Int) (f:aK):Prop:=(1≤f.Kind∧f.Kind≤3)∧(0≤f.iN∧f.iN≤f.To∧f.To≤86400000)∧0≤f.de∧f.de≤(if f.Kind=1 then 0 else fin)
instance (fin:Int) (f:aK):Decidable (o2 fin f):=by unfold o2; infer_instance
theorem NU {P:Nat→Bool} {n i:Nat} (h: ¬ 0<((l0 P n).length:Int)) (hi:i<n):P i=false:=by
 cases e:P i with
 |false=>rfl
 |true=>
  have:(i:Int)∈l0 P n:=Ac.2 ⟨i,hi,rfl,e⟩
  have:=List.length_pos_of_mem this
  omega
theorem Nt {P:Nat→Bool} {n:Nat} (h:0<((l0 P n).length:Int)): ∃ i,i<n∧P i=true:=by
 obtain ⟨x,hx⟩:=List.exists_mem_of_length_pos (l:=l0 P n) om
 obtain ⟨i,A,_,B⟩:=Ac.1 hx
 exact ⟨i,A,B⟩
def ib {α:Type} (l:List α) (p:Int→α→Bool) (i:Nat):Bool:=(l[i]?).any (p (i:Int))
theorem sG {α:Type} {l:List α} {p:Int→α→Bool} {i:Nat} {x:α} (h:l[i]? =some x):ib l p i=p (i:Int) x:=by unfold ib; rw [h]; rfl
section
variable {fin:Int} {f:aK} {j:cK}
theorem uV (hk:f.Kind=1):o2 fin f↔(0≤f.iN∧f.iN≤f.To∧f.To≤86400000)∧0≤f.de∧f.de≤0:=by
 unfold o2; rw [if_pos hk]; omega
theorem uJ (hk: ¬ f.Kind=1):o2 fin f↔(1≤f.Kind∧f.Kind≤3)∧(0≤f.iN∧f.iN≤f.To∧f.To≤86400000)∧0≤f.de∧f.de≤fin:=by
 unfold o2; rw [if_neg hk]
theorem DY (h:0<((l0 (ib j.aG fun _ f=>decide (¬ o2 j.Race.ak.bO f)) j.aG.length).length:Int)): ¬ qj j:=fun q=>by
 obtain ⟨i,hi,hb⟩:=Nt h
 have hx:j.aG[i]? =some (j.aG[i]'hi):=fg hi
 rw [sG hx] at hb
 exact (of_decide_eq_true hb) (q.fault _ (aP hx))
theorem Dh (h: ¬ 0<((l0 (ib j.aG fun _ f=>decide (¬ o2 j.Race.ak.bO f)) j.aG.length).length:Int)): ∀ f∈j.aG,eA j.Race.ak f:=fun f hf=>by
 obtain ⟨i,hi⟩:=List.mem_iff_getElem?.1 hf
 have hb:=NU h (aZ.1 hi).1
 rw [sG hi] at hb
 exact Decidable.of_not_not (of_decide_eq_false hb)
theorem Bi {b:Bool} {p q:Prop} (h1:b=false) (h2: ¬ p) (h3: ¬ q): ¬ (b=true∨p∨q):=by
 rintro (h|h|h)
 ·rw [h1] at h; cases h
 ·exact h2 h
 ·exact h3 h
end
section
variable {l:bp} {r:bT} {b:Int} {f:aK} {d:ax} {a c:yA}
theorem Gl (h:b<0):cz l r b=⟨r.Start,r.Start,true,false⟩:=if_pos h
theorem Cn (h: ¬ b<0) (e: ¬ dV l r b=0):cz l r b=⟨86400000,86400000,false,true⟩:=by unfold cz; rw [if_neg h,if_neg e]
theorem zn (h: ¬ b<0) (e:dV l r b=0) (q:qL l r b=true):cz l r b=⟨(dI l r b).Lo,(dI l r b).Hi,true,false⟩:=by unfold cz; rw [if_neg h,if_pos e,q]; rfl
theorem yv (h: ¬ b<0) (e:dV l r b=0) (q:qL l r b=false):cz l r b=⟨(dI l r b).Lo,86400000,false,false⟩:=by unfold cz; rw [if_neg h,if_pos e,q]; rfl
theorem vm (h:dV l r b=0) (hb:0≤b):eW l r 0=0:=by
 by_cases e:eW l r (jT l b)=0
 ·by_cases c:0≤b∧b≤(l.aa.length:Int)-1
  ·rw [um c] at e; exact e
  ·rw [show jT l b=2 from if_neg c] at e
   have:=(jc e).2.2.1
   omega
 ·rw [(mx e).1] at h; exact absurd h e
theorem Bx (h:eW l r 0=0):qL l r b=decide (b<pT (j2 l r)):=by
 have hm:=Ou (zi h)
 unfold qL
 rw [Bool.eq_iff_iff,cN,decide_eq_true_iff]
 constructor
 ·intro q; exact of_decide_eq_true (q _ hm.1)
 ·intro q x hx
  have:=hm.2 x hx
  exact dN om
theorem Oo (hb:0≤b):(0≤(cz l r b).Lo∧(cz l r b).Lo≤86400000)∧0≤(cz l r b).Hi∧(cz l r b).Hi≤86400000:=by
 by_cases e:dV l r b=0
 ·have A:=rG e
  cases q:qL l r b with
  |true=>rw [zn om e q]; simp only; omega
  |false=>rw [yv om e q]; simp only; omega
 ·rw [Cn om e]; simp only; omega
theorem jH (hk:f.Kind=1) (hr:mg d):fF l f d=j9 f (cz l d.bx (-1)) (cz l d.bx l.bO):=by
 unfold fF rH JT; rw [if_pos hr,if_pos hk,if_pos hk]
theorem jI (hk:f.Kind=2) (hr:mg d):fF l f d=j9 f (cz l d.bx (f.de-1)) (cz l d.bx f.de):=by
 unfold fF rH JT; rw [if_pos hr,if_neg om,if_pos hk,if_neg om]
theorem jJ (hk:f.Kind=3) (hr:mg d):fF l f d=j9 f (cz l d.bx f.de) (cz l d.bx f.de):=by
 unfold fF rH JT; rw [if_pos hr,if_neg om,if_neg om,if_neg om]
theorem gX (h:a.never=true∨f.To<a.Lo∨c.Hi<f.iN):j9 f a c=0:=if_pos h
theorem pJ (h: ¬ (a.never=true∨f.To<a.Lo∨c.Hi<f.iN)) (q:a.each=true) (s:rE f a c):j9 f a c=2:=by unfold j9; rw [if_neg h,if_pos ⟨q,s⟩]
theorem jD (h: ¬ (a.never=true∨f.To<a.Lo∨c.Hi<f.iN)) (q: ¬ (a.each=true∧rE f a c)):j9 f a c=1:=by unfold j9; rw [if_neg h,if_neg q]
theorem oE (hk: ¬ f.Kind=3):rE f a c↔a.Hi≤f.To∧f.iN≤c.Lo:=by unfold rE; rw [if_neg hk]
theorem AQ (hk:f.Kind=3):rE f a c↔ag.mk (max a.Lo f.iN) (min a.Hi f.To)=ag.mk a.Lo a.Hi:=by
 unfold rE; rw [if_pos hk]
 constructor
 ·intro q; congr 1<;>omega
 ·intro q; injection q with A B; omega
end
section
variable {j:cK} {p:aY} {d:ax} {f:aK}
theorem PH (hd:n7 j p=some d) (h:p.At≤(cz j.Race.ak d.bx j.Race.ak.bO).Lo+60000*j.ei):jL j p=0:=by unfold jL; rw [hd]; exact if_pos h
theorem PT (hd:n7 j p=some d) (h: ¬ p.At≤(cz j.Race.ak d.bx j.Race.ak.bO).Lo+60000*j.ei) (h2:p.At≤(cz j.Race.ak d.bx j.Race.ak.bO).Hi+60000*j.ei):jL j p=1:=by unfold jL; rw [hd]; simp only; rw [if_neg h,if_pos h2]
theorem Qs (hd:n7 j p=some d) (h: ¬ p.At≤(cz j.Race.ak d.bx j.Race.ak.bO).Lo+60000*j.ei) (h2: ¬ p.At≤(cz j.Race.ak d.bx j.Race.ak.bO).Hi+60000*j.ei):jL j p=2:=by unfold jL; rw [hd]; simp only; rw [if_neg h,if_neg h2]
theorem Il (h:jL j p=2):hG j p=false:=by unfold hG; split<;>simp [h]
theorem Jd (hd:n7 j p=some d) (hf:j.aG[p.jy.toNat]? =some f) (h: ¬ jL j p=2):hG j p= !decide (fF j.Race.ak f d=0):=by unfold hG; rw [hd,hf]; simp [h]
end
section
variable {j:cK} {i k:Nat} {p q:aY} {f:aK} {d:ax}
/-- the first faults are right -/
def pA (j:cK) (k:Nat):Prop:= ∀ (i:Nat) f,i<k→j.aG[i]? =some f→eA j.Race.ak f
theorem BR:pA j 0:=fun i f h=>absurd h (Nat.not_lt_zero _)
theorem rJ (h:pA j k) (hf:j.aG[k]? =some f) (ho:eA j.Race.ak f):pA j (k+1):=fun i g hi hg=>by
 rcases Nat.lt_or_ge i k with c|c
 ·exact h i g c hg
 ·obtain rfl:i=k:=by omega
  rw [hf] at hg; cases hg; exact ho
theorem dW (h:pA j k) (hk:j.aG.length≤k): ∀ f∈j.aG,eA j.Race.ak f:=fun f hf=>by
 obtain ⟨i,hi⟩:=List.mem_iff_getElem?.1 hf
 exact h i f (by have:=(aZ.1 hi).1; omega) hi
/-- the first protests are right -/
def oW (j:cK) (k:Nat):Prop:= ∀ (i:Nat) p,i<k→j.aF[i]? =some p→vW j i p
theorem xZ:oW j 0:=fun i f h=>absurd h (Nat.not_lt_zero _)
theorem tp (h:oW j k) (hp:j.aF[k]? =some p) (ho:vW j k p):oW j (k+1):=fun i g hi hg=>by
 rcases Nat.lt_or_ge i k with c|c
 ·exact h i g c hg
 ·obtain rfl:i=k:=by omega
  rw [hp] at hg; cases hg; exact ho
/-- the number of the last protest, so far -/
def pR (j:cK) (k:Nat):Int:=match k with
 |0=> -1
 |k+1=>match j.aF[k]? with
  |some p=>p.Id
  |none=> -1
theorem nW (hp:j.aF[k]? =some p):pR j (k+1)=p.Id:=by unfold pR; simp only [hp]
theorem Mk (h:oW j k) (hk:k≤j.aF.length): -1≤pR j k∧pR j k≤9999:=by
 cases k with
 |zero=>exact ⟨by simp [pR],by simp [pR]⟩
 |succ k=>
  obtain ⟨p,hp⟩: ∃ p,j.aF[k]? =some p:=⟨j.aF[k]'om,fg _⟩
  have:=(h k p om hp).id
  rw [nW hp]; omega
theorem pK {ht:List ax} (hh:j.Race.aD[p.jl.toNat]? =some ht) (hd:ht[p.iK.toNat]? =some d):n7 j p=some d:=by
 unfold n7; rw [hh]; exact hd
theorem MT (hp:j.aF[k]? =some p) (hi:pR j k+1≤p.Id∧p.Id≤9999) (h0: -1≤pR j k) (hs:0≤p.iK∧p.iK≤(j.Race.bj.length:Int)-1) (hh:0≤p.jl∧p.jl≤(j.Race.aD.length:Int)-1) (hf:0≤p.jy∧p.jy≤(j.aG.length:Int)-1) (hd:n7 j p=some d) (hr:mg d) (ha:d.bx.Start≤p.At∧p.At≤86400000):vW j k p:=by
 refine ⟨om,fun q B A=>?_,hs,hh,hf,d,hd,hr,ha⟩
 cases k with
 |zero=>omega
 |succ k=>
  rw [Nat.add_sub_cancel] at A
  rw [nW A] at hi
  omega
/-- one that is wrong -/
theorem sE (hp:j.aF[k]? =some p) (h: ¬ vW j k p): ¬ qj j:=fun q=>h (q.hO k p hp)
theorem wT (h:vW j k p) (hk:k≤j.aF.length):pR j k+1≤p.Id:=by
 cases k with
 |zero=>have:=h.id; show-1+1≤p.Id; omega
 |succ k=>
  obtain ⟨q,hq⟩: ∃ q,j.aF[k]? =some q:=⟨j.aF[k]'om,fg _⟩
  have:=h.up q om (by rw [Nat.add_sub_cancel]; exact hq)
  rw [nW hq]; omega
end
def o0 (l:List aK) (f:aK):Int:=match l.findIdx? (fun x=>decide (x=f)) with
 |some i=>(i:Int)
 |none=> -1
section
variable {l:List aK} {f g x:aK} {i:Nat}
theorem MH (hx:l[i]? =some x) (h:x=f) (hb: ∀ (q:Nat) y,q<i→l[q]? =some y→y≠f):o0 l f=(i:Int):=by
 unfold o0
 have:l.findIdx? (fun x=>decide (x=f))=some i:=by
  rw [List.findIdx?_eq_some_iff_getElem]
  obtain ⟨hi,e⟩:=aZ.1 hx
  refine ⟨hi,by rw [e]; simp [h],fun q hq=>?_⟩
  have:=hb q (l[q]'om) hq (fg _)
  simpa using this
 rw [this]
theorem Ng (hb: ∀ (q:Nat) y,q<i→l[q]? =some y→y≠f) (hi:l.length≤i):o0 l f= -1:=by
 unfold o0
 have:l.findIdx? (fun x=>decide (x=f))=none:=by
  rw [List.findIdx?_eq_none_iff]
  intro y hy
  obtain ⟨q,hq⟩:=List.mem_iff_getElem?.1 hy
  have:=hb q y (by have:=(aZ.1 hq).1; omega) hq
  simpa using this
 rw [this]
theorem CB (hf:f∈l): ∃ i:Nat,o0 l f=(i:Int)∧l[i]? =some f:=by
 unfold o0
 cases h:l.findIdx? (fun x=>decide (x=f)) with
 |none=>
  rw [List.findIdx?_eq_none_iff] at h
  have:=h f hf
  simp at this
 |some i=>
  rw [List.findIdx?_eq_some_iff_getElem] at h
  obtain ⟨hi,e,_⟩:=h
  exact ⟨i,U,by rw [fg hi]; simpa using e⟩
theorem Lt (hf:f∈l) (hg:g∈l) (h:o0 l f=o0 l g):f=g:=by
 obtain ⟨i,C,A⟩:=CB hf
 obtain ⟨k,D,B⟩:=CB hg
 have:i=k:=by omega
 subst this
 exact Option.some.inj (A.symm.trans B)
end
end
section
open Go.RowKit
abbrev Ww (C:List ay) (i j:Nat):List Nat:=i::j::(List.range C.length).filter fun k=>k != i&&k != j
def U6 {σ:Type} (w0:World) (P:Program) (l:Nat) (step:σ→List Value→ay→σ→Prop) (J:σ→ay→Prop) (Z:ay→Prop):Prop:=
 ∀ k x R k' A w,step k x R k'→J k A→w0.heap.size≤w.heap.size→(bV [A,R]).holds w→YieldAt (Fw none) 0 P l x.toArray w fun e w'=>
  (e= .returned (.bool true)∧ ∃ B,J k' B∧Mv (bV [A,R]) B w w')∨(e= .returned (.bool false)∧ ∃ B,Z B∧Mv (bV [A,R]) B w w')
structure QK {σ:Type} (P:Program) (f:FuncId) (fi ca:List Value) (Cp:List ay) (s0:σ) (step:σ→List Value→ay→σ→Prop) (fin:σ→Prop):Prop where
 go:sU P f=true
 run: ∀ (l:Nat) (J:σ→ay→Prop) (Z:ay→Prop) (A0:ay) (w:World),U6 w P l step J Z→J s0 A0→A0.holds w→(∀ A∈Cp,A.holds w)→(∀ A∈Cp,Dk A0 A.ro)→
  Calls P f (fi++Value.func (.yield l) #[] #[]::ca).toArray w (B8 J Z fin A0 w)
theorem MI {σ:Type} {P:Program} {f:FuncId} {fn:Func} {c:Code} {fi ca:List Value} {Cp:List ay} {s0:σ} {step:σ→List Value→ay→σ→Prop} {fin:σ→Prop} (hgo:sU P f=true) (hf:P.funcs[f]? =some fn) (hb:fn.body=some c) (hn:Nat.ble (fi.length+ca.length+1) fn.ntmps=true)
 (h: ∀ (l:Nat) (J:σ→ay→Prop) (Z:ay→Prop) (A0:ay) (w0:World) (Q:dv),U6 w0 P l step J Z→J s0 A0→Fo A0 w0 A0→
  (∀ D L C,LJ ⟨P,none,fn.ntmps,⟨A0.wf,fun _=>True⟩,w0⟩ fn (B8 J Z fin A0 w0) D L C→KJ ⟨P,none,fn.ntmps,⟨A0.wf,fun _=>True⟩,w0⟩ (Q .ret) D L C)→
  (∀ D L C,LJ ⟨P,none,fn.ntmps,⟨A0.wf,fun _=>True⟩,w0⟩ fn (B8 J Z fin A0 w0) D L C→KJ ⟨P,none,fn.ntmps,⟨A0.wf,fun _=>True⟩,w0⟩ (Q .normal) D L C)→
  WJ ⟨P,none,fn.ntmps,⟨A0.wf,fun _=>True⟩,w0⟩ c Q [] (OI (fi++Value.func (.yield l) #[] #[]::ca)) (A0::Cp.map ay.ro)):QK P f fi ca Cp s0 step fin:=by
 refine ⟨hgo,fun l J Z A0 w hY hJ hA F E=>?_⟩
 refine AJ hf hb (by simpa [Nat.add_assoc] using hn) (h l J Z A0 w · hY hJ (fun b hb=> .inl hb)) ?_
 have G:=rO F
 refine ⟨dZ.refl _ _,fun A hA'=>?_,List.Pairwise.cons (fun B hB=>?_) G.sep,fun A hA' b hb=>?_,fun _ _ _ _=> .inr trivial⟩
 ·rcases bR.1 hA' with rfl|hA'
  ·exact hA
  ·exact G.holds A hA'
 ·obtain ⟨B',hB',rfl⟩:=cR.1 hB
  exact E B' hB'
 ·rcases bR.1 hA' with rfl|hA'
  ·exact .inr hb
  ·obtain ⟨B',hB',rfl⟩:=cR.1 hA'
   exact hb.elim
section
variable {E:fp} {ops:Array Oper} {Q:dv} {rest:List Oper} {D:List Deferred} {L:List (Nat×Value)} {C:List ay}
variable {d:Nat} {ty:TypeId} {ps:String} {af:Array Edge} {g:Option (Nat×Bool)}
/-- a call of yield -/
theorem Jg {σ:Type} {fop:Operand} {xs:Array Operand} {ts:Array TypeId} {l:Nat} {k k':σ} {vs:List Value} {step:σ→List Value→ay→σ→Prop} {J:σ→ay→Prop} {Z:ay→Prop} {A0 A R:ay} {C1:List ay} (i j:Nat) (hS:E.S=⟨A0.wf,fun _=>True⟩) (hY:U6 E.w0 E.P l step J Z) (hJ:J k A) (hF:Fo A0 E.w0 A) (hg:j1 ops L g=true) (hf:ev L fop=some (.func (.yield l) #[] #[]))
 (hx:evs L xs.toList=some vs) (hk:step k vs R k') (hR:R.wr=true) (hn:decide (Ww C i j).Nodup=true) (hC:oD C (Ww C i j)=some (A::R::C1)) (hd:Nat.blt d E.n=true)
 (k1: ∀ B,J k' B→Fo A0 E.w0 B→RJ E ops Q rest D ((d,.bool true)::L) (B::C1))
 (k2: ∀ B,Z B→Fo A0 E.w0 B→RJ E ops Q rest D ((d,.bool false)::L) (B::C1)):
 RJ E ops Q (⟨some d,.call {callee:= .value fop,args:=xs,argTypes:=ts},ty,ps,af,g⟩::rest) D L C:=by
 intro a w F N
 have AA:St E.S E.w0 ([A,R]++C1) w:=St.j0 _ hn (nv hC) N
 have hs:=AA.tied
 have hd':d<E.n:=by rw [← Nat.blt_eq]; exact hd
 unfold tg
 rw [if_pos (eJ F hg)]
 have O:xs.map a.eval=vs.toArray:=by
  have:=F.evs hx
  apply Array.ext'
  simp [this]
 obtain ⟨fn,tmps,assign,body,hy,hr⟩:=hY k vs R k' A w hk hJ hs.keeps.size (hs.holds _ cx)
 have H:(execOp a.eval ⟨some d,.call {callee:= .value fop,args:=xs,argTypes:=ts},ty,ps,af,g⟩).run E.P w= .ok (.round l fn tmps assign body) w:=by
  simp [execOp,resolve,F.ev hf,Deferred.ofValue,invoke,O,hy]
 refine ⟨fun _ _=>trivial,?_⟩
 rw [Oper.semAt_eq _ _ _ sm,H]
 refine ⟨fun h=>by simp at h,?_⟩
 have G: ∀ (B:ay) (w':World),Mv (bV [A,R]) B w w'→Fo A0 E.w0 B:=fun B w' m b hb=>by
  rcases m.fI b hb with ⟨X,hX,K⟩|K
  ·rcases bR.1 hX with rfl|hX
   ·exact hF b K
   ·rw [cv] at hX; subst hX
    rcases AA.own X sm b (X.whole hR b K) with M|M
    ·exact .inr M
    ·rw [hS] at M; exact .inl (A0.kR b M)
  ·exact .inr (Nat.le_trans hs.keeps.size K)
 have hr':RoundIn (Fw E.r) 0 E.P l fn tmps assign body w _:=hr
 refine hr'.mono fun e w' he=>?_
 rcases he with ⟨rfl,B,hB,m⟩|⟨rfl,B,hB,m⟩
 ·exact k1 B hB (G B w' m) _ _ (F.put hd' _) (hs.mv 0 U m)
 ·exact k2 B hB (G B w' m) _ _ (F.put hd' _) (hs.mv 0 U m)
end
theorem IV {σ:Type} {E:fp} {Q:dv} {D:g8} {L L0:dA} {C F:List ay} {g:Operand} {ps:Array Tmp} {assign body:Code} {f:FuncId} {fi ca:List Value} {Cp:List ay} {s0:σ} {step:σ→List Value→ay→σ→Prop} {fin_:σ→Prop} {ι κ:Type}
 (inv:σ→ι→Prop) (Ci:σ→ι→List ay) (invx:Code→κ→Prop) (Cx:Code→κ→List ay) (isJ isF:List Nat) (y0:ι)
 (hr:E.r=none) (hg:ev L g=some (.func (.func f) fi.toArray ca.toArray)) (hs:QK E.P f fi ca Cp s0 step fin_)
 (hnd:decide (isJ++isF).Nodup=true) (hJ:j0 C isJ=Ci s0 y0) (hF:j0 C isF=F) (h0:inv s0 y0) (hCp: ∀ A∈Cp,∃ B∈F,KN B A)
 (hps: ∀ k x R k',step k x R k'→x.length=ps.size) (hpn:ps.toList.all (fun t=>Nat.blt t E.n)=true) (hL:dG L L0)
 (round: ∀ (k:σ) (x:List Value) (R:ay) (k':σ) (y:ι) (l:Nat) (ra rb:Loop) (S:BS) (w0:World) (K:Act→World→Prop) (Qr:dv),E.w0.heap.size≤w0.heap.size→step k x R k'→inv k y→
  (∀ L' C',WJ ⟨E.P,some l,E.n,S,w0⟩ body Qr [] L' (jg l (.loop rb)::C')→KJ ⟨E.P,some l,E.n,S,w0⟩ K [] L' (jg l (.loop ra)::C'))→
  (∀ y' L' C',inv k' y'→(∀ w,St S w0 C' w→St S w0 (jg l (.loop rb)::Ci k' y') w)→KJ ⟨E.P,some l,E.n,S,w0⟩ (Qr .normal) [] L' C')→
  (∀ id z L' C',invx (.exit id) z→(∀ w,St S w0 C' w→St S w0 (jg l (.loop rb)::Cx (.exit id) z) w)→KJ ⟨E.P,some l,E.n,S,w0⟩ (Qr (.exit id)) [] L' C')→
  (∀ z L' C',invx .ret z→(∀ w,St S w0 C' w→St S w0 (jg l (.loop rb)::Cx .ret z) w)→KJ ⟨E.P,some l,E.n,S,w0⟩ (Qr .ret) [] L' C')→
  WJ ⟨E.P,some l,E.n,S,w0⟩ assign (Exit.then K (fun _ _ _=>False)) [] (yP ps.toList x L0) (jg l (.loop ra)::(Ci k y++[R])))
 (fin: ∀ r s y,fin_ s→inv s y→KJ E (Q .normal) (jR r::D) L0 (jg r (.deferred (some []))::(F++Ci s y)))
 (finx: ∀ r id z,invx (.exit id) z→KJ E (Q (.exit id)) (jR r::D) L0 (jg r (.deferred (some []))::(F++Cx (.exit id) z)))
 (finr: ∀ r z,invx .ret z→KJ E (Q .ret) (jR r::D) L0 (jg r (.deferred (some []))::(F++Cx .ret z))):WJ E (.rangeFunc g ps assign body) Q D L C:=by
 intro a w hf u
 refine wpIn_rangeFunc fun fn _=>?_
 show ∃ l jR w₁ d w₁' f args w₂,(Instr.enterLoop fn a.tmps ps assign body E.r).run E.P w= .ok (l,jR) w₁∧_
 rw [hr]
 obtain ⟨rec,G⟩: ∃ rec:LoopState→Option Code→Loop,rec=fun st pe=>{state:=st,pending:=pe,fn,tmps:=a.tmps,params:=ps,assign,body,defers:=w.heap.size}:=⟨_,rfl⟩
 obtain ⟨W1,T⟩: ∃ W1,(w.alloc (.deferred (some []))).alloc (.loop (rec .ready none))=W1:=⟨_,rfl⟩
 have A2:a.eval g= .func (.func f) fi.toArray ca.toArray:=hf.ev hg
 have q:(Instr.enterLoop fn a.tmps ps assign body none).run E.P w= .ok (w.heap.size+1,[jR w.heap.size]) W1:=by
  rw [← T,G]; exact run_enterLoop_outer _ _ _ _ _
 -- the state with the record and the block
 have AC:St E.S E.w0 ((jg (w.heap.size+1) (.loop (rec .ready none))::Ci s0 y0)++(jg w.heap.size (.deferred (some []))::F)) W1:=by
  have Y:St E.S E.w0 (Ci s0 y0++F) w:=St.j0 (isJ++isF) hnd (by have Y:=hJ; have o:=hF; unfold Go.Proofs.YtfhghdbminmhnaaGreatDoor.j0 at Y o ⊢; rw [List.filterMap_append,Y,o]) u
  have hn:L8 w W1 [jg (w.heap.size+1) (.loop (rec .ready none)),jg w.heap.size (.deferred (some []))]:=by
   refine ⟨fun A hA=>?_,fun A hA b hb=>?_,?_⟩
   ·rcases bR.1 hA with rfl|hA
    ·show W1.heap[w.heap.size+1]? =_
     rw [← T]; have:=World.alloc_heap_new (w.alloc (.deferred (some []))) (.loop (rec .ready none)); rwa [World.size_alloc] at this
    ·simp only [cv] at hA; subst hA
     show W1.heap[w.heap.size]? =_
     rw [← T]; exact (Below.heap_alloc _ _ _ sm).trans (World.alloc_heap_new w _)
   ·rcases bR.1 hA with rfl|hA
    ·have:b=w.heap.size+1:=hb
     omega
    ·simp only [cv] at hA; subst hA
     have:b=w.heap.size:=hb
     omega
   ·refine List.Pairwise.cons (fun B hB b Y o=>?_) (List.pairwise_singleton _ _)
    simp only [cv] at hB; subst hB
    have X:b=w.heap.size+1:=Y
    have O:b=w.heap.size:=o
    omega
  have hk:dZ no w W1:=by rw [← T]; exact (dZ.alloc no w _).trans (dZ.alloc no _ _)
  have o:=Y.grow hk hn
  refine o.perm ?_
  simp only [List.cons_append,List.nil_append]
  exact List.Perm.cons _ (List.perm_middle.symm)
 have i:=AC.tied
 obtain ⟨H,A7⟩:=List.pairwise_cons.1 i.sep
 have A0:=i.holds _ (cx ..)
 let J:σ→ay→Prop:=fun k A=> ∃ y,inv k y∧A=bV (jg (w.heap.size+1) (.loop (rec .ready none))::Ci k y)
 let Z:ay→Prop:=fun A=> ∃ c z,(c= .ret∨ ∃ id,c= .exit id)∧invx c z∧A=bV (jg (w.heap.size+1) (.loop (rec .done (some c)))::Cx c z)
 refine ⟨w.heap.size+1,[jR w.heap.size],W1,{target:= .fn (.func f) ca.toArray,args:=fi.toArray++ #[.func (.yield (w.heap.size+1)) #[] #[]]},W1,f,
  (fi++Value.func (.yield (w.heap.size+1)) #[] #[]::ca).toArray,W1,q,?_,fun _ _=>trivial,?_,fun h=>by simp at h,?_⟩
 ·simp only [resolve,A2]
  simp [Deferred.ofValue,Act.eval]
 ·have:fi.toArray++ #[Value.func (.yield (w.heap.size+1)) #[] #[]]++ca.toArray=(fi++Value.func (.yield (w.heap.size+1)) #[] #[]::ca).toArray:=by simp
  simp [invoke,nE hs.go]
 ·refine (pN E.r (hs.run (w.heap.size+1) J Z _ W1 ?_ ⟨y0,h0,U⟩ A0 ?_ ?_)).mono ?_
  ·-- a round
   rintro k x R k' A W hx ⟨y,hy,rfl⟩ A1 hA
   have hl:W.heap[w.heap.size+1]? =some (.loop (rec .ready none)):=(hA.1 _ (cx ..)).1 _ (cx ..)
   have AO:=run_yield (P:=E.P) (args:=x.toArray) hl (by rw [G]; simpa using hps k x R k' hx)
   rw [G] at AO
   refine ⟨fn,_,assign,body,AO,roundIn_of_wpIn trivial ?_⟩
   let A:ay:=bV [bV (jg (w.heap.size+1) (.loop (rec .ready none))::Ci k y),R]
   have A3:Fr E.n [] (yP ps.toList x L0) {tmps:=(ps.zip x.toArray).foldl (fun tmps (t,a)=>tmps.setIfInBounds t a) a.tmps,defers:=[]}:=by
    have Y:=EM ps.toList x L0 a.tmps (fun t ht=>by have:=cN.1 hpn t ht; rwa [Nat.blt_eq] at this) ⟨rfl,hf.size,fun t v hv=>hf.at_ t v (hL t v hv)⟩
    rw [← Array.foldl_toList]
    simpa using Y
   have p: ∀ (c:Option Code) (b:Bool),({rec .busy none with state:=if b then .ready else .done,pending:=c}:Loop)=rec (if b then .ready else .done) c:=fun c b=>by rw [G]
   have AA: ∀ (c:Option Code) (N:World) (C':List ay) (S:BS),St S W (jg (w.heap.size+1) (.loop (rec .busy none))::C') N→
    ∃ M,(Instr.endRound (w.heap.size+1) c).run E.P N= .ok (.bool c.isNone) M∧St S W (jg (w.heap.size+1) (.loop (rec (if c.isNone then .ready else .done) c))::C') M:=fun c N C' S H=>by
    have AB:N.heap[w.heap.size+1]? =some (.loop (rec .busy none)):=H.holds _ (cx ..)
    refine ⟨_,run_endRound c AB,?_⟩
    have:=H.zw (b:=w.heap.size+1) (A':=jg (w.heap.size+1) (.loop (rec (if c.isNone then .ready else .done) c))) 0 rfl rfl rfl (g4 _) (fun _ h=>h) (World.putObj_heap_same (eu AB))
    rw [p]
    exact this
   refine round k x R k' y (w.heap.size+1) (rec .ready none) (rec .busy none) ⟨A.wf,A.fI⟩ W _ (roundPost E.P (w.heap.size+1) (fun e w'=>(e= .returned (.bool true)∧ ∃ B,J k' B∧Mv A B W w')∨(e= .returned (.bool false)∧ ∃ B,Z B∧Mv A B W w'))) (Nat.le_trans (Nat.le_trans u.keeps.size (by rw [← T]; simp; omega)) A1) hx hy ?_ ?_ ?_ ?_ _ _ A3 (by have:=(St.An hA).iO; simpa using this)
   ·intro L' C' hW a1 N j H
    have AB:N.heap[w.heap.size+1]? =some (.loop (rec .ready none)):=H.holds _ (cx ..)
    refine ⟨_,run_beginRound AB (by rw [G]),hW _ _ j ?_⟩
    have:=H.zw (b:=w.heap.size+1) (A':=jg (w.heap.size+1) (.loop (rec .busy none))) 0 rfl rfl rfl (g4 _) (fun _ h=>h) (World.putObj_heap_same (eu AB))
    have e:({rec .ready none with state:= .busy}:Loop)=rec .busy none:=by rw [G]
    rw [e]; exact this
   ·intro y' L' C' hy' hC' a1 N j H
    obtain ⟨M,X,O⟩:=AA none N _ _ (hC' _ H)
    exact ⟨_,M,X,.inl ⟨U,_,⟨y',hy',U⟩,Mv.of O⟩⟩
   ·intro id z L' C' hz hC' a1 N j H
    obtain ⟨M,X,O⟩:=AA (some (.exit id)) N _ _ (hC' _ H)
    exact ⟨_,M,X,.inr ⟨U,_,⟨_,z,.inr ⟨id,U⟩,hz,U⟩,Mv.of O⟩⟩
   ·intro z L' C' hz hC' a1 N j H
    obtain ⟨M,X,O⟩:=AA (some .ret) N _ _ (hC' _ H)
    exact ⟨_,M,X,.inr ⟨U,_,⟨_,z,.inl U,hz,U⟩,Mv.of O⟩⟩
  ·intro A hA
   obtain ⟨B,hB,hc⟩:=hCp A hA
   exact hc.holds _ (i.holds B (di _ (di _ hB)))
  ·intro A hA b hb hb'
   obtain ⟨B,hB,hc⟩:=hCp A hA
   exact ⟨(H B (di _ hB) b hb (hc.fI b hb')).1,fun h=>h⟩
  ·rintro e w' ⟨v,rfl,hh⟩
   have V:Fr E.n (jR w.heap.size::D) L0 {a with defers:=[jR w.heap.size]++a.defers}:=⟨by simp [hf.defers],hf.size,fun t v hv=>hf.at_ t v (hL t v hv)⟩
   have hleave: ∀ (st:LoopState) (c:Option Code) (C':List ay),st≠ .busy→Mv (bV (jg (w.heap.size+1) (.loop (rec .ready none))::Ci s0 y0)) (bV (jg (w.heap.size+1) (.loop (rec st c))::C')) W1 w'→
    ∃ M,(Instr.endLoop (w.heap.size+1)).run E.P w'= .ok c M∧St E.S E.w0 (jg w.heap.size (.deferred (some []))::(F++C')) M:=fun st c C' A5 m=>by
    have Y:=(i.mv 0 rfl m).iO
    have h1':St E.S E.w0 ((jg (w.heap.size+1) (.loop (rec st c))::C')++(jg w.heap.size (.deferred (some []))::F)) w':=Y
    have AB:w'.heap[w.heap.size+1]? =some (.loop (rec st c)):=h1'.holds (jg (w.heap.size+1) (.loop (rec st c))) sm
    refine ⟨_,by have:=run_endLoop (P:=E.P) AB (by rw [G]; exact A5); rw [this,G],?_⟩
    have o:=h1'.zw (b:=w.heap.size+1) (A':=jg (w.heap.size+1) (.loop {rec st c with state:= .exhausted})) 0 rfl rfl rfl (g4 _) (fun _ h=>h) (World.putObj_heap_same (eu AB))
    have h3:St E.S E.w0 (C'++(jg w.heap.size (.deferred (some []))::F)) _:=o.take (List.sublist_cons_self _ _)
    rw [G] at h3
    refine h3.perm ?_
    exact (List.perm_append_comm).trans sm
   rcases hh with ⟨s,B,A4,⟨y,hy,rfl⟩,m⟩|⟨B,⟨c,z,hc,hz,rfl⟩,m⟩
   ·obtain ⟨M,X,O⟩:=hleave .ready none _ sm m
    exact ⟨none,M,X,fin w.heap.size s y A4 hy _ _ V O⟩
   ·obtain ⟨M,X,O⟩:=hleave .done (some c) _ sm m
    refine ⟨some c,M,X,?_⟩
    rcases hc with rfl|⟨id,rfl⟩
    ·exact wpIn_ret (finr w.heap.size z hz _ _ V O)
    ·exact wpIn_exit (finx w.heap.size id z hz _ _ V O)
end
section
abbrev QO:=List (Int×Bool)
section
variable {m:QO} {P Q:Int→Prop} {k:Int}
end
/-- two rows that go up and have the same numbers, each once -/
theorem HX {a b:List Int} (ha:a.Pairwise (· ≤ ·)) (hb:b.Pairwise (· ≤ ·)) (na:a.Nodup) (nb:b.Nodup) (h: ∀ x,x∈a↔x∈b):a=b:=
 td ((List.perm_ext_iff_of_nodup na nb).2 h) ha hb
section
variable {m left:Bs} {i n x:Int} {y:ag}
end
section
variable {m:Bs} {i:Int} {own:ag} {ys:List Int} {nev ranks:QO} {n a b:Int}
end
section
variable {nw left rk:QO} {N R:Int→Prop} {u:Int} {v:Bool}
end
section
variable {m left:Bs} {i x n:Int} {own y:ag} {ys:List Int}
end
section
variable {r:fu} {h i:Int} {ht:List ax} {d:ax}
end
end
section
open Go.RowKit
/-- a map, or nil -/
def oC (o:Option Nat):List Value:=[Value.map o]
theorem z3 {α:Type}: ∀ {ms:List α} {asl:List Nat},ms.length=asl.length→List.zipWith gv ms asl=(asl.map some).map oC
 |[],[],_=>rfl
 |[],_::_,h=>by simp at h
 |_::_,[],h=>by simp at h
 |x::ms,y::asl,h=>by simp only [List.zipWith_cons_cons,List.map_cons,z3 (ms:=ms) (asl:=asl) (by simpa using h)]; rfl
/-- what stands for all but one -/
def iS {M A:Type} (f:M→A→List ay) (ms:List M) (asl:List A) (k:Nat):List ay:=br f (ms.take k) (asl.take k)++br f (ms.drop (k+1)) (asl.drop (k+1))
theorem sx {M A:Type} {f:M→A→List ay}: ∀ {ms:List M} {asl:List A} {k:Nat} {m:M} {a:A},ms[k]? =some m→asl[k]? =some a→(br f ms asl).Perm (f m a++iS f ms asl k)
 |[],_,k,m,a,h,_=>by simp at h
 |_::_,[],k,m,a,_,h=>by simp at h
 |x::ms,y::asl,0,m,a,h,h2=>by
  simp at h h2; subst h h2
  simp [iS,br]
 |x::ms,y::asl,k+1,m,a,h,h2=>by
  have ih:=sx (f:=f) (ms:=ms) (asl:=asl) (k:=k) (by simpa using h) (by simpa using h2)
  show (f x y++br f ms asl).Perm (f m a++iS f (x::ms) (y::asl) (k+1))
  have e:iS f (x::ms) (y::asl) (k+1)=f x y++iS f ms asl k:=by simp [iS,br,List.append_assoc]
  rw [e]
  refine (ih.append_left (f x y)).trans ?_
  rw [← List.append_assoc,← List.append_assoc]
  exact List.perm_append_comm.append_right _
theorem GI {M A:Type} {f:M→A→List ay} {ms:List M} {asl:List A} {k:Nat} {m':M}:iS f (ms.set k m') asl k=iS f ms asl k:=by
 unfold iS
 rw [List.take_set_of_le (Nat.le_refl k),List.drop_set_of_lt (Nat.lt_succ_self k)]
theorem vX {S:BS} {w0 w:World} {C X Y:List ay} (hp:X.Perm Y) (h:St S w0 (bV X::C) w):St S w0 (bV Y::C) w:=by
 have A:St S w0 (X++C) w:=h.iO
 exact (A.perm (hp.append_right C)).tied
theorem St.out {M A:Type} {f:M→A→List ay} {S:BS} {w0 w:World} {C:List ay} {ms:List M} {asl:List A} {k:Nat} {m:M} {a:A} {X:ay} (hm:ms[k]? =some m) (ha:asl[k]? =some a) (hf:f m a=[X]) (h:St S w0 (bV (br f ms asl)::C) w):St S w0 (X::bV (iS f ms asl k)::C) w:=by
 have B:=(vX (sx hm ha) h).iO
 rw [hf] at B
 have D:St S w0 (iS f ms asl k++(X::C)) w:=B.perm (List.perm_middle (a:=X) (l₁:=iS f ms asl k) (l₂:=C)).symm
 exact D.tied.perm (List.Perm.swap _ _ _)
theorem St.back {M A:Type} {f:M→A→List ay} {S:BS} {w0 w:World} {C:List ay} {ms:List M} {asl:List A} {k:Nat} {m':M} {a:A} {X:ay} (hk:k<ms.length) (ha:asl[k]? =some a) (hf:f m' a=[X]) (h:St S w0 (X::bV (iS f ms asl k)::C) w):St S w0 (bV (br f (ms.set k m') asl)::C) w:=by
 have B:St S w0 (bV (iS f ms asl k)::X::C) w:=h.perm (List.Perm.swap _ _ _)
 have D:=B.iO
 have E:St S w0 ((f m' a++iS f (ms.set k m') asl k)++C) w:=by
  rw [hf,GI]
  exact D.perm (List.perm_middle (a:=X) (l₁:=iS f ms asl k) (l₂:=C))
 exact vX (sx (List.getElem?_set_self hk) ha).symm E.tied
section
variable {E:fp} {ops:Array Oper} {Q:dv} {rest:List Oper} {D:List Deferred} {L:List (Nat×Value)} {C C1:List ay}
variable {M A:Type} {f:M→A→List ay} {ms:List M} {asl:List A} {k:Nat} {m:M} {a:A} {X:ay}
theorem zd {c:Code} (i:Nat) (hm:ms[k]? =some m) (ha:asl[k]? =some a) (hf:f m a=[X]) (hn:decide (i::(List.range C.length).filter fun k=>k != i).Nodup=true) (hC:j0 C (i::(List.range C.length).filter fun k=>k != i)=bV (br f ms asl)::C1)
 (h:WJ E c Q D L (X::bV (iS f ms asl k)::C1)):WJ E c Q D L C:=fun a w hf' hs=>h a w hf' (St.out hm ha hf (St.j0 _ hn hC hs))
theorem Ah {K:Act→World→Prop} (i j:Nat) (hk:k<ms.length) (ha:asl[k]? =some a) (hf:f m a=[X]) (hn:decide (j::i::(List.range C.length).filter fun k=>k != i&&k != j).Nodup=true) (hC:j0 C (j::i::(List.range C.length).filter fun k=>k != i&&k != j)=X::bV (iS f ms asl k)::C1)
 (h:KJ E K D L (bV (br f (ms.set k m) asl)::C1)):KJ E K D L C:=fun a w hf' hs=>h a w hf' (St.back hk ha hf (St.j0 _ hn hC hs))
end
end
section
open Go.RowKit
def uP (l:List Int) (a:RA):List Value:=[vS a.1 l.length a.2]
def L7 (l:List Int) (a:RA):List ay:=[rd a.1 l.length 1 (l.map iC)]
def H6 (l:List Int) (a:RA):List ay:=[own a.1 a.2 O3 1 (l.map iC)]
theorem zk: ∀ (m:List Int) (a:RA) (w:World),(∀ X∈H6 m a,X.holds w)→ ∀ X∈L7 m a,X.holds w:=fun m a w h X hX=>by
 simp only [L7,cv] at hX
 subst hX
 have:=oh (h _ (cv.2 rfl))
 simpa using this
theorem yn {l:List (List Int)} {bz:List RA}:(bV (br H6 l bz)).wr=true:=by
 show (br H6 l bz).all (·.wr)=true
 rw [cN]
 intro X hX
 obtain ⟨k,m,a,_,_,h⟩:=kf hX
 simp only [H6,cv] at h
 subst h; rfl
theorem lH {ls:List (List Int)} {az:List RA} (h:az.length=ls.length):(List.zipWith uP ls az).length=ls.length:=by simp [h]
theorem Nj (l:List (List Int)) (az:List RA): ∀ v∈(List.zipWith uP l az).flatten,v.oneCell'=true:=by
 induction l generalizing az with
 |nil=>intro v hv; simp at hv
 |cons x l ih=>
  cases az with
  |nil=>intro v hv; simp at hv
  |cons a az=>
   intro v hv
   rw [List.zipWith_cons_cons,List.flatten_cons,gu] at hv
   rcases hv with hv|hv
   ·simp [uP] at hv; subst hv; rfl
   ·exact ih az v hv
section
variable {M A:Type} {f:M→A→List ay} {ms:List M} {asl:List A} {k:Nat} {m:M} {a:A} {X:ay}
theorem LD {β:Type} {c:M→A→β}:(List.zipWith c ms asl).set k (c m a)=List.zipWith c (ms.set k m) (asl.set k a):=by
 apply List.ext_getElem?
 intro j
 rw [List.getElem?_set]
 by_cases e:k=j
 ·subst e
  rw [if_pos rfl,List.length_zipWith,List.getElem?_zipWith,List.getElem?_set,List.getElem?_set,if_pos rfl,if_pos rfl]
  by_cases B:k<ms.length
  ·by_cases C:k<asl.length
   ·rw [if_pos om,if_pos B,if_pos C]
   ·rw [if_neg om,if_pos B,if_neg C]
  ·rw [if_neg om,if_neg B]
 ·rw [if_neg e,List.getElem?_zipWith,List.getElem?_zipWith,List.getElem?_set_ne e,List.getElem?_set_ne e]
variable {E:fp} {ops:Array Oper} {Q:dv} {rest:List Oper} {D:List Deferred} {L:List (Nat×Value)} {C C1:List ay}
abbrev M5 (C:List ay) (i j:Nat):List Nat:=j::i::(List.range C.length).filter fun k=>k != i&&k != j
theorem Qd {Y Y':List ay} (i j:Nat) (hn:decide (M5 C i j).Nodup=true) (hC:oD C (M5 C i j)=some (X::bV Y::C1)) (e:Y++[X]=Y') (h:RJ E ops Q rest D L (bV Y'::C1)):RJ E ops Q rest D L C:=fun a w hf hs=>h a w hf ((St.j0 _ hn (nv hC) hs).tie e)
theorem Qi {K:Act→World→Prop} {Y Y':List ay} (i j:Nat) (hn:decide (M5 C i j).Nodup=true) (hC:oD C (M5 C i j)=some (X::bV Y::C1)) (e:Y++[X]=Y') (h:KJ E K D L (bV Y'::C1)):KJ E K D L C:=fun a w hf hs=>h a w hf ((St.j0 _ hn (nv hC) hs).tie e)
end
theorem Er {M A:Type} {f:M→A→List ay} {ms:List M} {asl:List A} {m:M} {a:A} {X:ay} (h:ms.length=asl.length) (hf:f m a=[X]):br f ms asl++[X]=br f (ms++[m]) (asl++[a]):=by
 rw [jx h]; simp [br,hf]
theorem GO {M A β:Type} {f:M→A→β} {ms:List M} {asl:List A} {m:M} {a:A} (h:ms.length=asl.length):List.zipWith f ms asl++List.zipWith f [m] [a]=List.zipWith f (ms++[m]) (asl++[a]):=(List.zipWith_append h).symm
section
variable {f:Int→ag} {L:List Int} {G:List (List Int)} {g:List Int} {x last:Int} {i j:Nat}
end
end
section
open Go.RowKit
/-- the faults that a map of places says -/
def lV (fs:List aK) (m:List (Int×Bool)) (f:aK):Prop:=(List.lookup (o0 fs f) m).getD false=true
/-- what comes next: the row of a heat, in memory of its own -/
def LF (G:List (List Int)) (k:Nat) (x:List Value) (R:ay) (k':Nat):Prop:= ∃ (a:OA) (c:Nat) (row:List Int),G[k]? =some row∧x=[vS a row.length c]∧R=own a c O3 1 (row.map iC)∧k'=k+1
section
variable {l:bp} {fs:List aK} {m:List (Int×Bool)} {d:ax} {h:List ax} {j:cK} {F G:aK→Prop} {k n q:Nat} {f f0:aK}
noncomputable def ly (l:bp) (fs:List aK) (m:List (Int×Bool)) (h:List ax) (s:Nat):Bool:=(h[s]?).any fun d=> @decide (G1 l (lV fs m) fs d) (Classical.propDecidable _)
theorem MC:(fs.any fun f=>((List.lookup (o0 fs f) m).getD false)&& !decide (fF l f d=0))= @decide (G1 l (lV fs m) fs d) (Classical.propDecidable _):=by
 rw [Bool.eq_iff_iff,List.any_eq_true,@decide_eq_true_iff _ (Classical.propDecidable _)]
 constructor
 ·rintro ⟨f,hf,hb⟩
  rw [cE,Bool.not_eq_true',decide_eq_false_iff_not] at hb
  exact ⟨f,hf,hb.1,hb.2⟩
 ·rintro ⟨f,hf,A,B⟩
  exact ⟨f,hf,by rw [cE,Bool.not_eq_true',decide_eq_false_iff_not]; exact ⟨A,B⟩⟩
theorem Fj (hd:h[q]? =some d):ly l fs m h q=(fs.any fun f=>((List.lookup (o0 fs f) m).getD false)&& !decide (fF l f d=0)):=by
 unfold ly; rw [hd,MC]; rfl
theorem LO {ht:List ax} (hh:j.Race.aD[k]? =some ht):(hP j (lV j.aG m))[k]? =some (l0 (ly j.Race.ak j.aG m ht) ht.length):=Ai hh
/-- only who is told, of faults of the row -/
theorem CJ (h: ∀ f∈j.aG,(F f↔G f)):hP j F=hP j G:=by
 unfold hP
 apply List.map_congr_left
 intro x _
 exact Hw h
end
def wM (fs:List aK) (gs:List aK):List (Int×Bool):=gs.foldl (fun m f=>ew m (o0 fs f) true) []
section
variable {fs gs:List aK} {f g:aK} {m:List (Int×Bool)}
theorem HC {x y:Int}:(List.lookup y (ew m x true)).getD false=true↔y=x∨(List.lookup y m).getD false=true:=by
 rw [lP]
 by_cases e:y=x
 ·rw [if_pos e]; simp [e]
 ·rw [if_neg e]; simp [e]
theorem Gg: ∀ {gs:List aK} {m:List (Int×Bool)} {y:Int},(List.lookup y (gs.foldl (fun m f=>ew m (o0 fs f) true) m)).getD false=true↔(∃ g∈gs,y=o0 fs g)∨(List.lookup y m).getD false=true
 |[],m,y=>by simp
 |g::gs,m,y=>by
  rw [List.foldl_cons,Gg (gs:=gs),HC]
  constructor
  ·rintro (⟨u,A,B⟩|h|h)
   ·exact .inl ⟨u,di _ A,B⟩
   ·exact .inl ⟨g,cx,h⟩
   ·exact .inr h
  ·rintro (⟨u,A,B⟩|h)
   ·rcases bR.1 A with rfl|A
    ·exact .inr (.inl B)
    ·exact .inl ⟨u,A,B⟩
   ·exact .inr (.inr h)
theorem RP (hg: ∀ g∈gs,g∈fs) (hf:f∈fs):lV fs (wM fs gs) f↔f∈gs:=by
 unfold lV wM
 rw [Gg]
 constructor
 ·rintro (⟨g,A,B⟩|h)
  ·rw [Lt hf (hg g A) B]; exact A
  ·simp at h
 ·intro h; exact .inl ⟨f,h,rfl⟩
theorem Hl:wM fs (gs++[g])=ew (wM fs gs) (o0 fs g) true:=by unfold wM; rw [List.foldl_append]; rfl
end
noncomputable def Gs (j:cK) (t:Nat):List aK:=((iI j).take t).filterMap fun i=>(j.aF[i.toNat]?).bind fun p=>j.aG[p.jy.toNat]?
section
variable {j:cK} {t:Nat} {i:Int} {p:aY} {f g:aK}
theorem JS (hi:(iI j)[t]? =some i) (hp:j.aF[i.toNat]? =some p) (hf:j.aG[p.jy.toNat]? =some f):Gs j (t+1)=Gs j t++[f]:=by
 unfold Gs
 rw [List.take_add_one,hi,List.filterMap_append]
 simp [hp,hf]
theorem Mu: ∀ g∈Gs j t,g∈j.aG:=fun g h=>by
 obtain ⟨i,_,A⟩:=List.mem_filterMap.1 h
 cases e:j.aF[i.toNat]? with
 |none=>rw [e] at A; cases A
 |some p=>rw [e] at A; exact aP A
theorem N3 (ht:(iI j).length≤t):f∈Gs j t↔nz j f:=by
 unfold Gs
 rw [List.take_of_length_le ht,List.mem_filterMap]
 constructor
 ·rintro ⟨x,hx,h⟩
  obtain ⟨i,_,rfl,p,hp,hg⟩:=tn.1 hx
  rw [Int.toNat_natCast,hp] at h
  exact ⟨i,p,hp,hg,h⟩
 ·rintro ⟨i,p,hp,hg,hf⟩
  exact ⟨(i:Int),tn.2 ⟨i,(aZ.1 hp).1,U,p,hp,hg⟩,by rw [Int.toNat_natCast,hp]; exact hf⟩
theorem EG (ht:(iI j).length≤t):hP j (lV j.aG (wM j.aG (Gs j t)))=jG j:=
 CJ fun f hf=>(RP Mu hf).trans (N3 ht)
theorem HU (hi:(iI j)[t]? =some i): ∃ k:Nat,i=(k:Int)∧k<j.aF.length:=by
 obtain ⟨k,A,B,_⟩:=tn.1 (aP hi)
 exact ⟨k,B,A⟩
theorem xz:(iI j).length≤j.aF.length:=qh
end
end
section
open Go.RowKit
theorem x_ {α:Type} {l:List α} {k:Nat} {x:α} (h:l[k]? =some x):l.take (k+1)=l.take k++[x]:=by rw [List.take_add_one,h]; rfl
theorem DX {a b:Int} (h1: -60000≤a∧a≤60000) (h2:0≤b∧b≤100000): -9223372036854775808≤a*b∧a*b≤9223372036854775807:=by
 have A:=Int.mul_le_mul_of_nonneg_right h1.1 h2.1
 have B:=Int.mul_le_mul_of_nonneg_right h1.2 h2.1
 omega
def lI (j:cK) (k h s:Int):Prop:=(0≤k∧k≤(j.aG.length:Int)-1)∧(0≤h∧h≤(j.Race.aD.length:Int)-1)∧0≤s∧s≤(j.Race.bj.length:Int)-1
instance (j:cK) (k h s:Int):Decidable (lI j k h s):=by unfold lI; infer_instance
noncomputable def m7 (j:cK) (k h s:Int):Int:=if ej j=0 then (if lI j k h s then 0 else 2) else ej j
noncomputable def lG (j:cK) (k h s:Int):Int:=if ej j=0∧lI j k h s then (match j.aG[k.toNat]?,(j.Race.aD[h.toNat]?).bind (·[s.toNat]?) with
 |some f,some d=>fF j.Race.ak f d
 |_,_=>0) else 0
noncomputable def tf (j:cK) (i:Int):Int:=if ej j=0 then (if 0≤i∧i≤(j.aF.length:Int)-1 then 0 else 2) else ej j
noncomputable def qF (j:cK) (i:Int):Int:=if ej j=0∧(0≤i∧i≤(j.aF.length:Int)-1) then (match j.aF[i.toNat]? with
 |some p=>jL j p
 |none=>0) else 0
noncomputable def ki (j:cK):List Int:=if ej j=0 then iI j else []
noncomputable def dH (j:cK):List (List Int):=if ej j=0 then jG j else []
noncomputable def AH (j:cK):Int:=if ej j=0 then zo j else 0
noncomputable def zY (j:cK):Int:=if ej j=0 then Gc j else 0
noncomputable def AA (j:cK) (s:Int) (p:aY):Bool:=decide (p.iK=s)&& !hG j p
noncomputable def rf (j:cK) (s:Int):Int:=if ej j=0 then (if 0≤s∧s≤(j.Race.bj.length:Int)-1 then 0 else 2) else ej j
noncomputable def tR (j:cK) (s:Int):Int:=if ej j=0∧(0≤s∧s≤(j.Race.bj.length:Int)-1) then D7 j s else 0
section
variable {j:cK} {k h s i:Int} {f:aK} {ht:List ax} {d:ax} {p:aY}
theorem GP (e: ¬ ej j=0):lG j k h s=0∧m7 j k h s=ej j:=⟨if_neg fun q=>e q.1,if_neg e⟩
theorem vk (e:ej j=0) (n: ¬ lI j k h s):lG j k h s=0∧m7 j k h s=2:=⟨if_neg fun q=>n q.2,by unfold m7; rw [if_pos e,if_neg n]⟩
theorem q7 (e:ej j=0) (n:lI j k h s) (hf:j.aG[k.toNat]? =some f) (hh:j.Race.aD[h.toNat]? =some ht) (hd:ht[s.toNat]? =some d):lG j k h s=fF j.Race.ak f d∧m7 j k h s=0:=
 ⟨by unfold lG; rw [if_pos ⟨e,n⟩,hf,hh,Option.bind_some,hd],by unfold m7; rw [if_pos e,if_pos n]⟩
theorem IU (e: ¬ ej j=0):qF j i=0∧tf j i=ej j:=⟨if_neg fun q=>e q.1,if_neg e⟩
theorem Kk (e:ej j=0) (n: ¬ (0≤i∧i≤(j.aF.length:Int)-1)):qF j i=0∧tf j i=2:=⟨if_neg fun q=>n q.2,by unfold tf; rw [if_pos e,if_neg n]⟩
theorem wY (e:ej j=0) (n:0≤i∧i≤(j.aF.length:Int)-1) (hp:j.aF[i.toNat]? =some p):qF j i=jL j p∧tf j i=0:=
 ⟨by unfold qF; rw [if_pos ⟨e,n⟩,hp],by unfold tf; rw [if_pos e,if_pos n]⟩
theorem xx (e: ¬ ej j=0):ki j=[]:=if_neg e
theorem qs (e:ej j=0):ki j=iI j:=if_pos e
theorem wG (e: ¬ ej j=0):dH j=[]:=if_neg e
theorem mH (e:ej j=0):dH j=jG j:=if_pos e
theorem Hh (e: ¬ ej j=0):AH j=0∧zY j=0:=⟨if_neg e,if_neg e⟩
theorem xL (e:ej j=0):AH j=zo j∧zY j=Gc j:=⟨if_pos e,if_pos e⟩
theorem Nu (e: ¬ p.iK=s):AA j s p=false:=by unfold AA; rw [bI e]; rfl
theorem H8 (e:p.iK=s):AA j s p= !hG j p:=by unfold AA; rw [dN e]; rfl
theorem Jw {P:Nat→Bool} {n:Nat}:(l0 P n).length=(List.range n).countP P:=by unfold l0; rw [List.length_map,List.countP_eq_length_filter]
theorem HO (e: ¬ ej j=0):tR j s=0∧rf j s=ej j:=⟨if_neg fun q=>e q.1,if_neg e⟩
theorem Gq (e:ej j=0) (n: ¬ (0≤s∧s≤(j.Race.bj.length:Int)-1)):tR j s=0∧rf j s=2:=⟨if_neg fun q=>n q.2,by unfold rf; rw [if_pos e,if_neg n]⟩
theorem KL (e:ej j=0) (n:0≤s∧s≤(j.Race.bj.length:Int)-1):tR j s= -((l0 (ib j.aF fun _ p=>AA j s p) j.aF.length).length:Int)*j.wv∧rf j s=0:=
 ⟨by unfold tR; rw [if_pos ⟨e,n⟩,Jw]; rfl,by unfold rf; rw [if_pos e,if_pos n]⟩
end
end
section
section
variable {j x:cK} {n s:Int} {h k:Nat} {a b:List Int} {f f':aK} {ht:List ax} {d:ax}
theorem ND (e:ej j=0):(dH j).length=j.Race.aD.length:=by
 rw [mH e]; exact Cb
theorem Nl (e:ej j=0) (ha:(dH j)[h]? =some a): ∃ ht,j.Race.aD[h]? =some ht∧a.length≤ht.length:=by
 rw [mH e] at ha
 unfold jG at ha
 have hl:=(aZ.1 ha).1
 rw [Cb] at hl
 have hh:j.Race.aD[h]? =some (j.Race.aD[h]'hl):=fg _
 rw [Ai hh] at ha
 cases ha
 exact ⟨_,hh,qh⟩
theorem GQ {s:Nat} (e:ej j=0) (hf:j.aG[k]? =some f) (hh:j.Race.aD[h]? =some ht) (hd:ht[s]? =some d):m7 j k h s=0∧lG j k h s=fF j.Race.ak f d:=by
 have hs:=((eH (eE e).1).2.gH ht (aP hh)).1
 have A:=(aZ.1 hf).1
 have B:=(aZ.1 hh).1
 have C:=(aZ.1 hd).1
 have:=q7 (k:=(k:Int)) (h:=(h:Int)) (s:=(s:Int)) e (by unfold lI; omega) (by simpa using hf) (by simpa using hh) (by simpa using hd)
 exact ⟨this.2,this.1⟩
end
end
section
section
variable {j:cK} {m n i:Nat} {p:aY} {s:Int}
theorem uT (e:ej j=0): ∀ l∈dH j,l.length≤1000000:=fun l hl=>by
 obtain ⟨h,hh⟩:=List.getElem?_of_mem hl
 obtain ⟨ht,A,B⟩:=Nl e hh
 have C:=((eH (eE e).1).2.gH ht (aP A)).1
 have D:=(eH (eE e).1).2.num
 omega
end
end
section
section
variable {j:cK} {n:Nat} {k:Int} {p:aY} {d:ax}
/-- a protest is granted if its fault may touch its own descent, and it is not too late -/
theorem Hs {f:aK} (hd:n7 j p=some d) (hf:j.aG[p.jy.toNat]? =some f):hG j p=true↔ ¬ fF j.Race.ak f d=0∧ ¬ jL j p=2:=by
 unfold hG
 rw [hd,hf]
 simp only [cE,decide_eq_true_eq,ne_eq]
 exact and_comm
end
end
section
section
variable {P:Nat→Bool} {n q:Nat} {x:Int}
end
noncomputable def Ss (j:cK) (ht:List ax) (s:Nat):Bool:=(ht[s]?).any fun d=> @decide (G1 j.Race.ak (nz j) j.aG d) (Classical.propDecidable _)
section
variable {j:cK} {n q k:Nat} {x y:Int} {p:aY} {d:ax} {f:aK} {ht:List ax} {row:List Int} {h:Nat}
theorem Nf (e:ej j=0) (hh:j.Race.aD[h]? =some ht) (hr:(dH j)[h]? =some row):row=l0 (Ss j ht) ht.length:=by
 rw [mH e] at hr
 unfold jG at hr
 rw [Ai hh] at hr
 cases hr; rfl
end
end
section
def dJ (r:bT):ax:=⟨false,false,gj,r⟩
def RF (q:fu) (r:bT):fu:=⟨q.ak,[1],[0],q.kM,[[dJ r]]⟩
def uD (k:Nat) (at_:Int):aY:=⟨1,0,0,(k:Int),at_⟩
def hU (j:cK) (r:bT) (fs:List aK) (k:Nat) (at_:Int):cK:=⟨RF j.Race r,fs,[uD k at_],j.ei,j.wv⟩
structure U8 (r:bT) (times:List Int) (f:aK) (i:Int):Prop where
 k1:f.Kind=1→i=r.Start
 WI:f.Kind=2→f.de≤0→i=r.Start
 k2:f.Kind=2→0<f.de→times[(f.de-1).toNat]? =some i
 k3:f.Kind=3→times[f.de.toNat]? =some i
structure QY (times:List Int) (fin:Int) (f:aK) (o:Int):Prop where
 k1:f.Kind=1→o=fin
 k2:f.Kind=2→times[f.de.toNat]? =some o
 k3:f.Kind=3→times[f.de.toNat]? =some o
section
variable {j:cK} {l:bp} {r:bT} {times good:List Int} {fs:List aK} {f:aK} {k:Nat} {at_ i o fin:Int} {row:List Int}
theorem M9 (hT:gZ l r times good) (hl:dg l=0) (hf:eA l f) (hi:U8 r times f i):v9 l r (rH f) i:=by
 have hk:=hf.1
 unfold rH
 by_cases B:f.Kind=1
 ·rw [if_pos B,hi.k1 B]; exact xG om
 ·rw [if_neg B]
  by_cases A:f.Kind=2
  ·rw [if_pos A]
   by_cases c:f.de≤0
   ·rw [hi.WI A c]; exact xG om
   ·have h:=nX hT hl (hi.k2 A om)
    rw [show (((f.de-1).toNat:Nat):Int)=f.de-1 by omega] at h; exact h
  ·rw [if_neg A]
   have h:=nX hT hl (hi.k3 om)
   have hw:=hf.2.2
   rw [show (f.de.toNat:Int)=f.de by omega] at h; exact h
theorem I2 (hT:gZ l r times good) (hl:dg l=0) (h0:0≤l.bO) (hf:eA l f) (hfin:times[l.bO.toNat]? =some fin) (ho:QY times fin f o):v9 l r (JT l f) o:=by
 have hk:=hf.1
 have hw:=hf.2.2
 unfold JT
 by_cases A:f.Kind=1
 ·rw [if_pos A,ho.k1 A]
  have h:=nX hT hl hfin
  rw [show (l.bO.toNat:Int)=l.bO by omega] at h; exact h
 ·rw [if_neg A]
  have ht:times[f.de.toNat]? =some o:=by
   by_cases B:f.Kind=2
   ·exact ho.k2 B
   ·exact ho.k3 om
  have h:=nX hT hl ht
  rw [show (f.de.toNat:Int)=f.de by omega] at h; exact h
structure Ts (j:cK) (f:aK) (k:Nat) (at_ i o fin:Int) (T:cK):Prop where
 te:m7 T k 0 0=0
 le:tf T 0=0
 tb:lG T k 0 0≤2
 lb:qF T 0≤2
 rl:(dH T).length=1
 t1:i≤f.To∧f.iN≤o→ ¬ lG T k 0 0=0
 t2:lG T k 0 0=2→i≤f.To∧f.iN≤o
 l1:at_≤fin+60000*j.ei→ ¬ qF T 0=2
 l2:qF T 0=0→at_≤fin+60000*j.ei
 Nr:i≤f.To∧f.iN≤o→at_≤fin+60000*j.ei→ ∀ row,(dH T)[0]? =some row→(0:Int)∈row
theorem Kd (hT:gZ j.Race.ak r times good) (e:ej (hU j r fs k at_)=0) (hf:fs[k]? =some f) (hfin:times[j.Race.ak.bO.toNat]? =some fin) (hi:U8 r times f i) (ho:QY times fin f o):Ts j f k at_ i o fin (hU j r fs k at_):=by
 obtain ⟨K,J⟩:=eE e
 have hl:=(eH K).1
 have hh:=(du hl).2.head
 unfold eU at hh
 have H:0≤(hU j r fs k at_).Race.ak.bO:=by omega
 have H:0≤j.Race.ak.bO:=H
 have C:eA j.Race.ak f:=J.fault f (aP hf)
 have FE:=GQ (h:=0) (s:=0) (ht:=[dJ r]) (d:=dJ r) e (show (hU j r fs k at_).aG[k]? =some f from hf) rfl rfl
 have F:(hU j r fs k at_).aF[0]? =some (uD k at_):=rfl
 have D:=wY (i:=(0:Int)) (p:=uD k at_) e (by simp [hU]) (by simpa using F)
 have hd:mg (dJ r):=⟨rfl,rfl⟩
 have E:n7 (hU j r fs k at_) (uD k at_)=some (dJ r):=rfl
 have M:=M9 hT hl C hi
 have N:=I2 hT hl H C hfin ho
 have AA:f.Kind=3→i=o:=fun q=>by have a:=hi.k3 q; have b:=ho.k3 q; rw [a] at b; cases b; rfl
 have ht:=B6 (l:=j.Race.ak) (d:=dJ r) hd M N AA
 have O:v9 j.Race.ak r j.Race.ak.bO fin:=by
  have h:=nX hT hl hfin
  rw [show (j.Race.ak.bO.toNat:Int)=j.Race.ak.bO by omega] at h; exact h
 have A:=DO (j:=hU j r fs k at_) (p:=uD k at_) E O
 have hv:lG (hU j r fs k at_) k 0 0=fF j.Race.ak f (dJ r):=FE.2
 have B:qF (hU j r fs k at_) 0=jL (hU j r fs k at_) (uD k at_):=D.1
 refine ⟨FE.1,D.2,by rw [hv]; exact LQ.2,by rw [B]; exact Nn.2,by rw [ND e]; rfl,fun q=>by rw [hv]; exact ht.1 q,fun q=>ht.2 (by rw [← hv]; exact q),fun q=>by rw [B]; exact A.1 q,fun q=>A.2 (by rw [← B]; exact q),fun L P row hr=>?_⟩
 have G:=Nf (h:=0) (ht:=[dJ r]) e rfl hr
 rw [G]
 refine Ac.2 ⟨0,Nat.zero_lt_one,U,?_⟩
 unfold Ss
 simp only [List.getElem?_cons_zero,Option.any_some]
 refine @decide_eq_true _ (Classical.propDecidable _) ⟨f,aP hf,⟨0,uD k at_,U,?_,?_⟩,ht.1 L⟩
 ·exact (Hs E (show (hU j r fs k at_).aG[(uD k at_).jy.toNat]? =some f by show fs[(k:Int).toNat]? =some f; rw [Int.toNat_natCast]; exact hf)).2 ⟨ht.1 L,A.1 P⟩
 ·show fs[(k:Int).toNat]? =some f
  rw [Int.toNat_natCast]; exact hf
end
end
section
open Go.RowKit
theorem Ee (l:List au) (az:List RA): ∀ v∈(List.zipWith au.cells l az).flatten,v.oneCell'=true:=by
 induction l generalizing az with
 |nil=>intro v hv; simp at hv
 |cons x l ih=>
  cases az with
  |nil=>intro v hv; simp at hv
  |cons a az=>
   intro v hv
   rw [List.zipWith_cons_cons,List.flatten_cons,gu] at hv
   rcases hv with hv|hv
   ·simp [au.cells,dx.cells] at hv
    rcases hv with rfl|rfl<;>rfl
   ·exact ih az v hv
theorem jm {l:List au} {az:List RA} (h:az.length=l.length):(List.zipWith au.cells l az).length=l.length:=by simp [h]
/-- addresses, of which some are new -/
def sT (bz az:List RA) (i:Nat):List RA:=bz++az.drop i
theorem qY {bz az:List RA} {i:Nat} (hb:bz.length=i) (hi:i≤az.length):(sT bz az i).length=az.length:=by simp [sT,hb]; omega
theorem JM {bz az:List RA} {i:Nat} (h:az.length≤i):sT bz az i=bz:=by unfold sT; rw [List.drop_eq_nil_of_le h,List.append_nil]
theorem F8 {bz az:List RA} {i:Nat} {a:RA} (hb:bz.length=i) (h:az[i]? =some a):(sT bz az i)[i]? =some a:=by
 unfold sT
 rw [List.getElem?_append_right om,hb,Nat.sub_self,List.getElem?_drop]
 simpa using h
theorem KD {bz az:List RA} {i:Nat} {a b:RA} (hb:bz.length=i) (h:az[i]? =some a):(sT bz az i).set i b=sT (bz++[b]) az (i+1):=by
 unfold sT
 have hi:=(aZ.1 h).1
 rw [List.set_append_right _ _ om,hb,Nat.sub_self,List.drop_eq_getElem_cons hi,List.set_cons_zero]
 simp
theorem Om {l:List au} {bz az:List RA} {i:Nat} {x:au} {xa nw:RA} (hx:l[i]? =some x) (hb:bz.length=i) (ha:az[i]? =some xa):
 (List.zipWith au.cells l (sT bz az i)).set i (au.cells x nw)=List.zipWith au.cells l (sT (bz++[nw]) az (i+1)):=by
 rw [← KD hb ha]
 apply List.ext_getElem?
 intro k
 rw [List.getElem?_set]
 by_cases e:i=k
 ·subst e
  have A:=F8 hb ha
  have B:=(aZ.1 A).1
  have C:=(aZ.1 hx).1
  rw [if_pos rfl,List.getElem?_zipWith,hx,List.getElem?_set_self B,if_pos (by simp; omega)]
 ·rw [if_neg e,List.getElem?_zipWith,List.getElem?_zipWith,List.getElem?_set_ne e]
theorem G0 {l:List au} {bz:List RA} {i:Nat} {x:au} {nw:RA} (hx:l[i]? =some x) (hb:bz.length=i):br au.owns (l.take i) bz++au.owns x nw=br au.owns (l.take (i+1)) (bz++[nw]):=by
 have hi:=(aZ.1 hx).1
 rw [List.take_add_one,hx,Option.toList_some,jx (by rw [List.length_take,hb]; omega)]
 simp [br]
theorem nA {l:List au} {bz:List RA}:(bV (br au.owns l bz)).wr=true:=by
 show (br au.owns l bz).all (·.wr)=true
 rw [cN]
 intro X hX
 obtain ⟨k,m,a,_,_,h⟩:=kf hX
 simp only [au.owns,cv] at h
 subst h; rfl
/-- what is known of new rows -/
def ui (l:List au) (bz:List RA):Prop:= ∀ (k:Nat) m (a:RA),l[k]? =some m→bz[k]? =some a→m.bG.length≤a.2
theorem Jq {l:List au} {bz:List RA} {i:Nat} {x:au} {nw:RA} (h:ui l bz) (hb:bz.length=i) (hx:l[i]? =some x) (hc:x.bG.length≤nw.2):ui l (bz++[nw]):=fun k m a hm ha=>by
 by_cases e:k<bz.length
 ·rw [List.getElem?_append_left e] at ha
  exact h k m a hm ha
 ·rw [List.getElem?_append_right om] at ha
  have hk:k-bz.length=0:=by
   rcases Nat.eq_zero_or_pos (k-bz.length) with A|A
   ·exact A
   ·rw [List.getElem?_eq_none (by simp; omega)] at ha; cases ha
  rw [hk] at ha
  simp at ha
  have:k=i:=by omega
  subst this
  rw [hx] at hm; cases hm
  subst ha; exact hc
theorem kJ: ∀ (m:au) (a:RA) (w:World),(∀ X∈au.owns m a,X.holds w)→ ∀ X∈au.gd m a,X.holds w:=fun m a w h X hX=>by
 simp only [au.gd,cv] at hX
 subst hX
 have:=oh (h _ (cv.2 rfl))
 simpa using this
theorem dY.Pr {l:bp} {az bz:List RA} (h:dY l az) (hb:bz.length=l.aj.length) (hc:ui l.aj bz):dY l bz:=⟨h.qS,h.side,h.qW,hb,h.qU,fun k m a hm ha=>⟨hc k m a hm ha,by
 obtain ⟨A,B⟩: ∃ A,az[k]? =some A:=⟨az[k]'(by rw [h.nx]; exact (aZ.1 hm).1),fg _⟩
 exact (h.Re k m A hm B).2⟩⟩
section
variable {E:fp} {ops:Array Oper} {Q:dv} {rest:List Oper} {D:List Deferred} {L:List (Nat×Value)} {C:List ay}
theorem Ty {a:OA} {c e sz:Nat} {es:List (List Value)} (i:Nat) (hC:C[i]? =some (own a c e sz es)) (k:es.length≤c→RJ E ops Q rest D L C):RJ E ops Q rest D L C:=fun act w hf hs=>
 k (MO (hs.holds _ (aP hC))) act w hf hs
end
end
section
open Go.RowKit
def D8 (m:ax) (a:RA):List ay:=[own a.1 a.2 RT 2 (m.bx.ab.map aA.cells)]
def qG (m:List ax) (a:c_):List ay:=own a.1.1 a.1.2 RI 7 (List.zipWith ax.cells m a.2)::br D8 m a.2
theorem Q9: ∀ (m:ax) (a:RA) (w:World),(∀ X∈D8 m a,X.holds w)→ ∀ X∈ax.gd m a,X.holds w:=fun m a w h X hX=>by
 simp only [ax.gd,cv] at hX
 subst hX
 have:=oh (h _ (cv.2 rfl))
 simpa using this
theorem oo {m:List ax} {asl:List RA} (h:asl.length=m.length):(List.zipWith ax.cells m asl).length=m.length:=by simp [h]
theorem ig {m:List (List ax)} {asl:List c_} (h:asl.length=m.length):(List.zipWith cL m asl).length=m.length:=by simp [h]
theorem NM {m:List ax} {asl:List RA}:(br D8 m asl).all (·.wr)=true:=by
 rw [cN]
 intro X hX
 obtain ⟨k,d,a,_,_,h⟩:=kf hX
 simp only [D8,cv] at h
 subst h; rfl
theorem yH {m:List (List ax)} {asl:List c_}:(bV (br qG m asl)).wr=true:=by
 show (br qG m asl).all (·.wr)=true
 rw [cN]
 intro X hX
 obtain ⟨k,d,a,_,_,h⟩:=kf hX
 rcases bR.1 h with rfl|h
 ·rfl
 ·exact cN.1 NM X h
theorem ME (l:List ax) (az:List RA): ∀ v∈(List.zipWith ax.cells l az).flatten,v.oneCell'=true:=by
 induction l generalizing az with
 |nil=>intro v hv; simp at hv
 |cons x l ih=>
  cases az with
  |nil=>intro v hv; simp at hv
  |cons a az=>
   intro v hv
   rw [List.zipWith_cons_cons,List.flatten_cons,gu] at hv
   rcases hv with hv|hv
   ·simp [ax.cells,aM.cells,cb.cells,ag.cells] at hv
    rcases hv with rfl|rfl|rfl|rfl|rfl|rfl|rfl<;>rfl
   ·exact ih az v hv
theorem Gn (l:List (List ax)) (az:List c_): ∀ v∈(List.zipWith cL l az).flatten,v.oneCell'=true:=by
 induction l generalizing az with
 |nil=>intro v hv; simp at hv
 |cons x l ih=>
  cases az with
  |nil=>intro v hv; simp at hv
  |cons a az=>
   intro v hv
   rw [List.zipWith_cons_cons,List.flatten_cons,gu] at hv
   rcases hv with hv|hv
   ·simp [cL] at hv; subst hv; rfl
   ·exact ih az v hv
/-- every heat has as many places as descents -/
def xe (H:List (List ax)) (hz:List c_):Prop:=hz.length=H.length∧ ∀ (k:Nat) h (a:c_),H[k]? =some h→hz[k]? =some a→a.2.length=h.length
theorem M3 {a:OA} {c e sz n:Nat} {es:List (List Value)} {w:World} (h:(own a c e sz es).holds w) (hn:es.length=n):(rd a n sz es).holds w:=by subst hn; exact oh h
theorem jM {C:List ay} {H:List (List ax)} {hz:List c_} (i:Nat) (hC:C[i]? =some (bV (br qG H hz))) (hh:xe H hz):iJ C (dT (br fj H hz)).holds:=fun w hw X hX=>by
 have hb:=hw _ (aP hC)
 obtain ⟨k,m,a,A,B,D⟩:=kf hX
 rcases bR.1 D with rfl|D
 ·exact M3 (hb.1 _ (bQ A B cx)) (oo (hh.2 k m a A B))
 ·obtain ⟨q,d,b,E,F,G⟩:=kf D
  exact Q9 d b w (fun Y hY=>hb.1 Y (bQ A B (di _ (bQ E F hY)))) X G
section
variable {α:Type}
def l6 (bz az:List α) (i:Nat):List α:=bz++az.drop i
variable {bz az:List α} {i:Nat} {a b:α}
theorem iT (hb:bz.length=i) (hi:i≤az.length):(l6 bz az i).length=az.length:=by simp [l6,hb]; omega
theorem Cc (h:az.length≤i):l6 bz az i=bz:=by unfold l6; rw [List.drop_eq_nil_of_le h,List.append_nil]
theorem FP (hb:bz.length=i) (h:az[i]? =some a):(l6 bz az i)[i]? =some a:=by
 unfold l6
 rw [List.getElem?_append_right om,hb,Nat.sub_self,List.getElem?_drop]
 simpa using h
theorem JJ (hb:bz.length=i):(l6 (bz++[b]) az (i+1))[i]? =some b:=by
 unfold l6
 rw [List.getElem?_append_left (by simp; omega),List.getElem?_append_right om,hb,Nat.sub_self]; rfl
theorem IS (hb:bz.length=i) (h:az[i]? =some a):(l6 bz az i).set i b=l6 (bz++[b]) az (i+1):=by
 unfold l6
 have hi:=(aZ.1 h).1
 rw [List.set_append_right _ _ om,hb,Nat.sub_self,List.drop_eq_getElem_cons hi,List.set_cons_zero]
 simp
theorem CX {M β:Type} {c:M→α→β} {l:List M} {x:M} (hx:l[i]? =some x) (hb:bz.length=i) (h:az[i]? =some a):(List.zipWith c l (l6 bz az i)).set i (c x b)=List.zipWith c l (l6 (bz++[b]) az (i+1)):=by
 rw [LD,IS hb h]
 congr 1
 obtain ⟨hi,rfl⟩:=aZ.1 hx
 exact List.set_getElem_self hi
theorem xE {M:Type} {f:M→α→List ay} {l:List M} {x:M} (hx:l[i]? =some x) (hb:bz.length=i):br f (l.take i) bz++f x b=br f (l.take (i+1)) (bz++[b]):=by
 have hi:=(aZ.1 hx).1
 rw [List.take_add_one,hx,Option.toList_some,jx (by rw [List.length_take,hb]; omega)]
 simp [br]
end
theorem C4: ∀ {l:List (List ax)} {u v:List c_},u.map (·.1)=v.map (·.1)→List.zipWith cL l u=List.zipWith cL l v
 |[],u,v,_=>by simp
 |x::l,[],[],_=>rfl
 |x::l,[],b::v,h=>by simp at h
 |x::l,a::u,[],h=>by simp at h
 |x::l,a::u,b::v,h=>by
  simp only [List.map_cons,List.cons.injEq] at h
  rw [List.zipWith_cons_cons,List.zipWith_cons_cons,C4 h.2]
  have e:cL x a=cL x b:=by simp only [cL,h.1]
  rw [e]
theorem Kv {l:List (List ax)} {hz ha:List c_} {p:RA} {x y:List RA} {i:Nat}:List.zipWith cL l (l6 (hz++[(p,x)]) ha i)=List.zipWith cL l (l6 (hz++[(p,y)]) ha i):=C4 (by simp [l6])
theorem Nm {H:List (List ax)} {hz:List c_} {i:Nat} {x:List ax} {b:c_} (hx:H[i]? =some x) (h: ∀ (k:Nat) y (a:c_),H[k]? =some y→hz[k]? =some a→a.2.length=y.length) (hb:hz.length=i) (hl:b.2.length=x.length): ∀ (k:Nat) y (a:c_),H[k]? =some y→(hz++[b])[k]? =some a→a.2.length=y.length:=fun k y a hy ha=>by
 by_cases e:k<hz.length
 ·rw [List.getElem?_append_left e] at ha
  exact h k y a hy ha
 ·rw [List.getElem?_append_right om] at ha
  have hk:k-hz.length=0:=by
   rcases Nat.eq_zero_or_pos (k-hz.length) with A|A
   ·exact A
   ·rw [List.getElem?_eq_none (by simp; omega)] at ha; cases ha
  rw [hk] at ha
  simp at ha
  have:k=i:=by omega
  subst this
  rw [hx] at hy; cases hy
  subst ha; exact hl
theorem MA {S:BS} {w0 w:World} {C:List ay} {A:ay} {Y Z:List ay} (h:St S w0 (A::bV Y::bV Z::C) w):St S w0 (bV (Z++A::Y)::C) w:=by
 have D:St S w0 (bV Y::A::bV Z::C) w:=h.perm (List.Perm.swap _ _ _)
 have E:St S w0 (Y++(A::bV Z::C)) w:=D.iO
 have F:St S w0 (bV Z::(A::Y)++C) w:=E.perm (by
  have B:(Y++(A::bV Z::C)).Perm ((A::bV Z::C)++Y):=List.perm_append_comm
  refine B.trans ?_
  show (A::bV Z::(C++Y)).Perm (bV Z::A::(Y++C))
  exact (List.Perm.swap _ _ _).trans (((List.perm_append_comm (l₁:=C) (l₂:=Y)).cons A).cons _))
 have G:St S w0 (Z++((A::Y)++C)) w:=F.iO
 have H:St S w0 ((Z++A::Y)++C) w:=by simpa using G
 exact H.tied
abbrev Tn (C:List ay) (i j k:Nat):List Nat:=k::j::i::(List.range C.length).filter fun q=>q != i&&q != j&&q != k
section
variable {E:fp} {ops:Array Oper} {Q:dv} {rest:List Oper} {D:List Deferred} {L:List (Nat×Value)} {C C1:List ay} {K:Act→World→Prop}
variable {H:List (List ax)} {hz:List c_} {h h':List ax} {a a':c_} {k:Nat} {X:ay} {Y Z Z':List ay}
/-- i: the others, j: what hangs on the row, q: the row -/
theorem P3 (i j q:Nat) (hn:decide (Tn C i j q).Nodup=true) (hC:oD C (Tn C i j q)=some (X::bV Y::bV Z::C1)) (e:Z++X::Y=Z') (hk:KJ E K D L (bV Z'::C1)):KJ E K D L C:=fun a w hf hs=>by
 subst e; exact hk a w hf (MA (St.j0 _ hn (nv hC) hs))
end
theorem lS.Pr {r:fu} {az bz:List RA} {ha hz:List c_} (h:lS r az ha) (hb:bz.length=r.ak.aj.length) (hc:ui r.ak.aj bz) (hh:xe r.aD hz):lS r bz hz:=⟨h.line.Pr hb hc,h.ir,h.draw,h.iu,hh.1,fun k x a hx ha'=>by
 obtain ⟨A,C⟩: ∃ A,ha[k]? =some A:=⟨ha[k]'(by rw [h.has]; exact (aZ.1 hx).1),fg _⟩
 have B:=h.gH k x A hx C
 exact ⟨B.len,hh.2 k x a hx ha',B.sig⟩⟩
end
section
theorem FD {n:Int} (h:0≤n∧n≤4294967295):IntKind.u32.wrap n=n:=by
 have e:IntKind.u32.wrap n=n % 4294967296:=by simp [IntKind.wrap,IntKind.bits,IntKind.signed]
 rw [e]; omega
theorem I8 {j:cK} {bz:List RA} {a:OA} {x:RA} {r:bT} {fs:List aK} {k:Nat} {at_:Int} (h:dY j.Race.ak bz) (hs:r.ab.length≤1000000) (hf:fs.length≤1000000) (hk: ∀ f∈fs,0≤f.Kind∧f.Kind≤255):oN (hU j r fs k at_) bz [((a,1),[x])]:=by
 refine ⟨⟨⟨by have:=h.qS; show j.Race.ak.aS.length≤_; omega,h.side,by have:=h.qW; show j.Race.ak.aj.length≤_; omega,h.nx,by have:=h.qU; show j.Race.ak.aa.length≤_; omega,fun i m a hm ha=>by have:=h.Re i m a hm ha; omega⟩,by show (1:Nat)≤_; decide,by show (1:Nat)≤_; decide,by show (1:Nat)≤_; decide,U,fun i y a hy ha=>?_⟩,by show fs.length≤_; omega,by show (1:Nat)≤_; decide,hk⟩
 have hy:([[dJ r]]:List (List ax))[i]? =some y:=hy
 cases i with
 |zero=>
  simp only [List.getElem?_cons_zero,Option.some.injEq] at hy ha
  subst hy ha
  refine ⟨by show (1:Nat)≤_; decide,U,fun d hd=>?_⟩
  rw [cv.1 hd]
  show r.ab.length≤_
  omega
 |succ i=>simp at hy
theorem Nv {r:bT} {a:OA} {x:RA}:xe ([[dJ r]]:List (List ax)) [((a,1),[x])]:=⟨rfl,fun k y b hy hb=>by
 cases k with
 |zero=>simp only [List.getElem?_cons_zero,Option.some.injEq] at hy hb; subst hy hb; rfl
 |succ k=>simp at hy⟩
theorem Ls {l:bp} {r:bT} {times good:List Int} {fin:Int} (hT:gZ l r times good) (hl:dg l=0) (h0:0≤l.bO) (hf:times[l.bO.toNat]? =some fin):r.Start≤fin∧fin≤r.gh:=by
 have hk:=(aZ.1 hf).1
 have h:=hT.from_ hl (l.bO.toNat+1) om
 have e:rm r times (l.bO.toNat+1)=fin:=by
  unfold rm
  rw [if_neg om,Nat.add_sub_cancel,hf]; rfl
 rw [e] at h; exact h
theorem Lq {l:List aK} {k:Nat} {f g:aK} (h: ∀ x∈l,0≤x.Kind∧x.Kind≤255) (hf:l[k]? =some f) (hg:g.Kind=f.Kind): ∀ x∈l.set k g,0≤x.Kind∧x.Kind≤255:=fun x hx=>by
 rcases List.mem_or_eq_of_mem_set hx with q|rfl
 ·exact h x q
 ·rw [hg]; exact h f (aP hf)
theorem Ji {l:List aK} {k:Nat} {f f1:aK} {a b:Int} (hk:k<l.length) (h:(l.set k ⟨f.Kind,f.de,a,f.To⟩)[k]? =some f1):f1.iN=a∧(l.set k ⟨f.Kind,f.de,a,f.To⟩).set k ⟨f1.Kind,f1.de,f1.iN,b⟩=l.set k ⟨f.Kind,f.de,a,b⟩:=by
 rw [List.getElem?_set_self hk] at h
 cases h
 exact ⟨U,by rw [List.set_set]⟩
end
section
open Go.RowKit
section
variable {K:Type} [DecidableEq K] {kV:K→Value}
variable {E:fp} {ops:Array Oper} {Q:dv} {rest:List Oper} {D:List Deferred} {L:List (Nat×Value)} {C:List ay}
variable {ty:TypeId} {ps:String} {af:Array Edge} {g:Option (Nat×Bool)}
theorem tj {t kt et:TypeId} {xm xk:Operand} {ts:Array TypeId} {b:Nat} {x:K} {m m':List (K×Value)} {C':List ay} (i:Nat) (hg:j1 ops L g=true) (hm:ev L xm=some (.map (some b))) (hk:ev L xk=some (kV x)) (hts:ts[0]? =some t)
 (ht:E.P.underlying t=some (.map kt et)) (hkt:vu E.P kt kV) (hC:C[i]? =some (kh kV b m)) (hm':fy m x=m') (hC':C.set i (kh kV b m')=C') (k:RJ E ops Q rest D L C'):
 RJ E ops Q (⟨none,.call {callee:= .builtin .delete,args:= #[xm,xk],argTypes:=ts},ty,ps,af,g⟩::rest) D L C:=by
 subst hm' hC'
 intro a w A hs
 unfold tg
 rw [if_pos (eJ A hg)]
 obtain ⟨es,c,he,hi⟩:=hs.holds _ (aP hC)
 have B:(getObj b).run E.P w= .ok (.map es c) w:=MapKept.run_getObj_map he
 rcases pg (P:=E.P) (w:=w) (x:=x) hkt hi with ⟨F,G⟩|⟨j,AA,F,G,H⟩
 ·refine iX (v:= .tuple #[]) (w':={w with heap:=w.heap.setIfInBounds b (.map es c)}) sm ?_ ?_
  ·simp [execOp,resolve,invoke,builtin,A.ev hm,A.ev hk,Builtin.delete_,hts,run_underlying ht,B,jd hkt,F,MapKept.run_setObj_map _ he]
  ·refine k _ _ ⟨A.defers,A.size,A.at_⟩ (hs.zw (b:=b) i hC U U (nJ _) (fun _ h=>h) ⟨_,_,pP he,?_⟩)
   rw [Eu G]; exact hi
 ·refine iX (v:= .tuple #[]) (w':={w with heap:=w.heap.setIfInBounds b (.map (es.eraseIdxIfInBounds j) c)}) sm ?_ ?_
  ·simp [execOp,resolve,invoke,builtin,A.ev hm,A.ev hk,Builtin.delete_,hts,run_underlying ht,B,jd hkt,F,MapKept.run_setObj_map _ he]
  ·exact k _ _ ⟨A.defers,A.size,A.at_⟩ (hs.zw (b:=b) i hC U U (nJ _) (fun _ h=>h) ⟨_,_,pP he,hi.del G⟩)
end
end
section
set_option maxRecDepth 20000
def Tp:ar:=⟨1,⟨10000,10200⟩,⟨0,0⟩,⟨0,0⟩,0,0⟩
def yU:au:=⟨100,[⟨0,⟨0,2⟩⟩,⟨100000,⟨5,6⟩⟩]⟩
def Rh (o:Int):bJ:=⟨⟨0,⟨o,o⟩⟩,0⟩
def oB (f:Int):bp:=⟨[Tp],2000,[yU],[Rh 1000,Rh 4000,Rh 9000],1,f,1⟩
def l7:bT:=⟨10000,20000,[⟨0,10600⟩,⟨0,11000⟩,⟨1,12600⟩]⟩
theorem I3:dB [Tp]=true:=by decide
theorem ym:eP yU:=by
 have hi: ∀ (i:Nat) (x:cM),yU.bG[i]? =some x→i=0∧x=⟨0,⟨0,2⟩⟩∨i=1∧x=⟨100000,⟨5,6⟩⟩:=fun i x h=>by
  match i with
  |0=>left; simp [yU] at h; exact ⟨rfl,h.symm⟩
  |1=>right; simp [yU] at h; exact ⟨rfl,h.symm⟩
  |n+2=>simp [yU] at h
 refine ⟨dc,dc,fun i x hx=>?_,fun i k x o hx hk ho=>?_⟩
 ·rcases hi i x hx with ⟨rfl,rfl⟩|⟨rfl,rfl⟩<;>(unfold fM; decide)
 ·rcases hi i x hx with ⟨rfl,rfl⟩|⟨rfl,rfl⟩
  ·omega
  ·rcases hi k o ho with ⟨rfl,rfl⟩|⟨rfl,rfl⟩
   ·unfold n_; decide
   ·omega
theorem Ba {o:Int} (h:0≤o∧o<10000):fR [Tp] ⟨0,⟨o,o⟩⟩:=⟨sm,Tp,rfl,by show o≤o∧0≤o∧o≤10000-1; omega⟩
theorem M4 {f:Int} (hf:0≤f∧f≤3):lF (oB f):=by
 refine ⟨?_,fun c hc=>?_,fun b hb=>?_,fun i hi=>?_⟩
 ·unfold eU; simp [oB]; omega
 ·simp [oB] at hc; subst hc; exact ym
 ·simp [oB] at hb
  rcases hb with rfl|rfl|rfl
  ·exact ⟨Ba om,by simp [Rh,oB]⟩
  ·exact ⟨Ba om,by simp [Rh,oB]⟩
  ·exact ⟨Ba om,by simp [Rh,oB]⟩
 ·have A:i<3:=hi
  have:i=0∨i=1∨i=2:=by omega
  rcases this with rfl|rfl|rfl
  ·show (1:Int)≤lg (oB 0) 0; decide
  ·show (1:Int)≤lg (oB 0) 1; decide
  ·show (1:Int)≤lg (oB 0) 2; decide
def hH:bp:=oB 1
theorem OK:dg hH=0:=w7 I3 (M4 om)
theorem Kw {r x:Int} (h0:0<x) (h1:x≤86400000) (hy:fX yU r x=true) (hn:fX yU r (x-1)=false):fz (fX yU r) 86400001=x:=
 y_ om om hy fun z hz A=>by
  cases e:fX yU r z with
  |false=>rfl
  |true=>
   unfold fX at e hn
   have:=(oS ym hz (show z≤x-1 by omega) om).2
   have B:=of_decide_eq_true e
   have C:=of_decide_eq_false hn
   omega
theorem Ka {r x:Int} (h0:0<x) (h1:x≤86400000) (hy:fY yU r x=true) (hn:fY yU r (x-1)=false):fz (fY yU r) 86400001=x:=
 y_ om om hy fun z hz A=>by
  cases e:fY yU r z with
  |false=>rfl
  |true=>
   unfold fY at e hn
   have:=(oS ym hz (show z≤x-1 by omega) om).1
   have B:=of_decide_eq_true e
   have C:=of_decide_eq_false hn
   omega
theorem Tx:oG yU 10600=⟨10596,10602⟩:=by unfold oG; rw [Kw (x:=10596) om om dc dc,Ka (x:=10603) om om dc dc]; rfl
theorem Rj:oG yU 11000=⟨10996,11002⟩:=by unfold oG; rw [Kw (x:=10996) om om dc dc,Ka (x:=11003) om om dc dc]; rfl
theorem Si:oG yU 12600=⟨12596,12602⟩:=by unfold oG; rw [Kw (x:=12596) om om dc dc,Ka (x:=12603) om om dc dc]; rfl
def Rm (f:Int):cg:=⟨10000,20000,[500,1500,2500],[[(0,⟨10596,10602⟩),(1,⟨10996,11002⟩)],[(2,⟨12596,12602⟩)],[]],1,f,3⟩
theorem Tc (f:Int):cG (oB f) ⟨0,10600⟩=⟨10596,10602⟩:=Tx
theorem RY (f:Int):cG (oB f) ⟨0,11000⟩=⟨10996,11002⟩:=Rj
theorem Sv (f:Int):cG (oB f) ⟨1,12600⟩=⟨12596,12602⟩:=Si
theorem H9 (f:Int):cP (oB f) l7.ab 3=[[(0,⟨10596,10602⟩),(1,⟨10996,11002⟩)],[(2,⟨12596,12602⟩)],[]]:=by
 have o: ∀ b:Nat,k9 (oB f) l7.ab 3 b=(nY (oB f) l7.ab b 0).toList++((nY (oB f) l7.ab b 1).toList++(nY (oB f) l7.ab b 2).toList):=fun b=>by
  rw [lq,lq,lq]; simp [k9]
 have A: ∀ b:Nat,nY (oB f) l7.ab b 0=if (0:Int)=(b:Int) then some (0,⟨10596,10602⟩) else none:=fun b=>by
  show (if (0:Int)=(b:Int)∧(cG (oB f) ⟨0,10600⟩).Lo≤(cG (oB f) ⟨0,10600⟩).Hi then some ((0:Int),cG (oB f) ⟨0,10600⟩) else none)=_
  rw [Tc]; by_cases h:(0:Int)=(b:Int)
  ·rw [if_pos h,if_pos ⟨h,dc⟩]<;>rfl
  ·rw [if_neg h,if_neg fun q=>h q.1]
 have B: ∀ b:Nat,nY (oB f) l7.ab b 1=if (0:Int)=(b:Int) then some (1,⟨10996,11002⟩) else none:=fun b=>by
  show (if (0:Int)=(b:Int)∧(cG (oB f) ⟨0,11000⟩).Lo≤(cG (oB f) ⟨0,11000⟩).Hi then some ((1:Int),cG (oB f) ⟨0,11000⟩) else none)=_
  rw [RY]; by_cases h:(0:Int)=(b:Int)
  ·rw [if_pos h,if_pos ⟨h,dc⟩]<;>rfl
  ·rw [if_neg h,if_neg fun q=>h q.1]
 have C: ∀ b:Nat,nY (oB f) l7.ab b 2=if (1:Int)=(b:Int) then some (2,⟨12596,12602⟩) else none:=fun b=>by
  show (if (1:Int)=(b:Int)∧(cG (oB f) ⟨1,12600⟩).Lo≤(cG (oB f) ⟨1,12600⟩).Hi then some ((2:Int),cG (oB f) ⟨1,12600⟩) else none)=_
  rw [Sv]; by_cases h:(1:Int)=(b:Int)
  ·rw [if_pos h,if_pos ⟨h,dc⟩]<;>rfl
  ·rw [if_neg h,if_neg fun q=>h q.1]
 show [k9 (oB f) l7.ab 3 0,k9 (oB f) l7.ab 3 1,k9 (oB f) l7.ab 3 2]=_
 rw [o,o,o,A,A,A,B,B,B,C,C,C]
 rfl
theorem B0 (f:Int):cQ (oB f) l7=Rm f:=by
 unfold cQ Rm
 rw [show l7.ab.length=3 from rfl,H9]
 rfl
theorem NK (f:Int):er (oB f) l7:=by
 refine ⟨dc,dc,fun i s hs=>?_⟩
 match i with
 |0=>simp [l7] at hs; subst hs; unfold iM js; simp [oB,kO]
 |1=>simp [l7] at hs; subst hs; unfold iM js; simp [oB,kO,l7]
 |2=>simp [l7] at hs; subst hs; unfold iM js; simp [oB,kO,l7]
 |n+3=>simp [l7] at hs
theorem CW:lQ (cQ hH l7)=[2,3]:=by rw [show cQ hH l7=Rm 1 from B0 1]; decide
theorem BJ:eW hH l7 0=0:=pM OK (NK 1) rfl (by rw [CW]; decide)
theorem Je:j2 hH l7=[2,3]:=by rw [vq BJ,CW]
theorem II {b:Nat} (hb:b<3):eW hH l7 (jT hH b)=0:=by rw [um (by show 0≤(b:Int)∧(b:Int)≤3-1; omega)]; exact BJ
theorem F5 {b:Nat} {z:ag} (hb:b<3) (hz:ud (qM (Rm 1) b)=z) (hn:z≠mS):dV hH l7 b=0∧dI hH l7 b=z:=by
 have e:mU hH l7 b=z:=by unfold mU; rw [show cQ hH l7=Rm 1 from B0 1]; exact hz
 have h:=mX (II hb) (by rw [e]; exact hn)
 exact ⟨h.1,h.2.trans e⟩
theorem BA:dV hH l7 0=0∧dI hH l7 0=⟨10596,11002⟩:=F5 (b:=0) om dc dc
theorem rF:dV hH l7 1=0∧dI hH l7 1=⟨12596,12602⟩:=F5 (b:=1) om dc dc
theorem Qh:dV hH l7 hH.bO=0∧zX hH l7=⟨2596,2602⟩:=by
 refine ⟨rF.1,?_⟩
 rw [zW (l:=hH) (r:=l7) rF.1]
 rw [show dI hH l7 hH.bO=⟨12596,12602⟩ from rF.2]
 rfl
theorem SP (f:Int) {a:OA} {c:Nat} (hc:2≤c):dY (oB f) [(a,c)]:=by
 refine ⟨by simp [oB],?_,by simp [oB],U,by simp [oB],fun k m a' hm ha=>?_⟩
 ·intro x hx; simp [oB] at hx; subst hx; simp [Tp]
 ·match k with
  |0=>simp [oB] at hm ha; subst hm; subst ha; simp [yU]; exact hc
  |n+1=>simp at ha
end
section
open Go.RowKit
def LH (t:ag):ax:=⟨false,true,t,⟨0,0,[]⟩⟩
section
variable {r:fu} {h i:Int} {t:ag} {ht:List ax} {d:ax}
end
section
variable {E:fp} {Q:dv} {D:List Deferred} {L:List (Nat×Value)} {C C1:List ay} {c:Code}
variable {H:List (List ax)} {hz:List c_} {h h':List ax} {a a':c_} {k:Nat} {bs:List RA} {i:Nat} {d d':ax} {b:RA}
end
end
section
set_option maxRecDepth 20000
def nG (x y:Int):ax:=LH ⟨x,y⟩
def o_:ax:=⟨false,false,gj,l7⟩
def qQ:fu:=⟨hH,[4,7,9],[2,0,1],2,[[o_,nG 2600 2600,nG 2580 2609],[nG 2555 2559,nG 2540 2549,nG 2570 2575]]⟩
def eo:cK:=⟨qQ,[⟨1,0,12600,13000⟩,⟨2,1,11003,11100⟩,⟨3,0,10700,10900⟩,⟨1,0,13000,14000⟩],[⟨2,0,0,0,72596⟩,⟨5,0,0,1,72603⟩,⟨6,0,0,3,20000⟩],1,500⟩
theorem Bb {l:bp} {x y:Int} (h:mu ⟨x,y⟩):iP l (nG x y):=by rw [uh ⟨rfl,rfl⟩]; exact ⟨h,rfl,rfl,rfl⟩
theorem Ig:fQ qQ:=by
 refine ⟨dc,dc,dc,fun i x hx=>?_,dc,fun h hh=>?_⟩
 ·match i with
  |0=>simp [qQ] at hx; subst hx; exact ⟨dc,fun y h=>absurd h dc⟩
  |1=>simp [qQ] at hx; subst hx; exact ⟨dc,fun y _ h=>by simp [qQ] at h; omega⟩
  |2=>simp [qQ] at hx; subst hx; exact ⟨dc,fun y _ h=>by simp [qQ] at h; omega⟩
  |n+3=>simp [qQ] at hx
 ·simp only [qQ,bR,List.not_mem_nil,or_false] at hh
  rcases hh with rfl|rfl
  ·refine ⟨U,fun d hd=>?_⟩
   simp only [bR,List.not_mem_nil,or_false] at hd
   rcases hd with rfl|rfl|rfl
   ·rw [uW ⟨rfl,rfl⟩]; exact ⟨Qh.1,rfl⟩
   ·exact Bb dc
   ·exact Bb dc
  ·refine ⟨U,fun d hd=>?_⟩
   simp only [bR,List.not_mem_nil,or_false] at hd
   rcases hd with rfl|rfl|rfl<;>exact Bb dc
theorem P_:jE qQ=0:=by unfold jE; rw [if_pos (show dg qQ.ak=0 from OK),if_pos Ig]
theorem QE:qj eo:=by
 refine ⟨dc,fun f hf=>?_,dc,dc,dc,fun i p hp=>?_⟩
 ·simp only [eo,bR,List.not_mem_nil,or_false] at hf
  rcases hf with rfl|rfl|rfl|rfl<;>decide
 ·match i with
  |0=>simp [eo] at hp; subst hp; exact ⟨dc,fun q h=>absurd h dc,dc,dc,dc,o_,rfl,dc⟩
  |1=>simp [eo] at hp; subst hp; exact ⟨dc,fun q _ h=>by simp [eo] at h; subst h; decide,dc,dc,dc,o_,rfl,dc⟩
  |2=>simp [eo] at hp; subst hp; exact ⟨dc,fun q _ h=>by simp [eo] at h; subst h; decide,dc,dc,dc,o_,rfl,dc⟩
  |n+3=>simp [eo] at hp
theorem oP:ej eo=0:=xQ P_ QE
theorem BY {b:Int} (h:b<2):qL hH l7 b=true:=by
 unfold qL; rw [Je]; simp; omega
theorem OJ (h:(-1:Int)<0):cz hH l7 (-1)=⟨10000,10000,true,false⟩:=if_pos h
theorem Q8:cz hH l7 0=⟨10596,11002,true,false⟩:=by
 unfold cz; rw [if_neg dc,if_pos BA.1,BA.2,BY dc]; rfl
theorem AB:cz hH l7 1=⟨12596,12602,true,false⟩:=by
 unfold cz; rw [if_neg dc,if_pos rF.1,rF.2,BY dc]; rfl
theorem JZ {f:aK} {a b:yA} (ha:cz hH l7 (rH f)=a) (hb:cz hH l7 (JT hH f)=b):fF hH f o_=j9 f a b:=by
 unfold fF
 rw [if_pos (by decide:mg o_)]
 show j9 f (cz hH l7 (rH f)) (cz hH l7 (JT hH f))=_
 rw [ha,hb]
theorem DB:fF hH ⟨1,0,12600,13000⟩ o_=1:=(JZ (f:=⟨1,0,12600,13000⟩) (show cz hH l7 (-1)=_ from OJ dc) (show cz hH l7 (1)=_ from AB)).trans dc
theorem Qo:fF hH ⟨2,1,11003,11100⟩ o_=2:=(JZ (f:=⟨2,1,11003,11100⟩) (show cz hH l7 (0)=_ from Q8) (show cz hH l7 (1)=_ from AB)).trans dc
theorem Ln:fF hH ⟨1,0,13000,14000⟩ o_=0:=(JZ (f:=⟨1,0,13000,14000⟩) (show cz hH l7 (-1)=_ from OJ dc) (show cz hH l7 (1)=_ from AB)).trans dc
theorem Pn {f:aK} {x y:Int}:fF hH f (nG x y)=0:=sv (by simp [nG,LH,mg])
theorem C5 {p:aY} (hd:n7 eo p=some o_):jL eo p=if p.At≤72596 then 0 else if p.At≤72602 then 1 else 2:=by
 unfold jL
 rw [hd]
 simp only
 have e:cz eo.Race.ak o_.bx eo.Race.ak.bO=⟨12596,12602,true,false⟩:=AB
 rw [e]; rfl
theorem LS:jL eo ⟨2,0,0,0,72596⟩=0:=(C5 rfl).trans dc
theorem KC:jL eo ⟨5,0,0,1,72603⟩=2:=(C5 rfl).trans dc
theorem KO {p:aY} {f:aK} (hd:n7 eo p=some o_) (hf:eo.aG[p.jy.toNat]? =some f):hG eo p=(decide (jL eo p≠2)&&decide (fF hH f o_≠0)):=by
 unfold hG; rw [hd,hf]; rfl
theorem Ex:hG eo ⟨2,0,0,0,72596⟩=true:=by rw [KO (f:=⟨1,0,12600,13000⟩) rfl rfl,LS,DB]; rfl
theorem K6:hG eo ⟨5,0,0,1,72603⟩=false:=by rw [KO (f:=⟨2,1,11003,11100⟩) rfl rfl,KC]; rfl
theorem Jb:hG eo ⟨6,0,0,3,20000⟩=false:=by rw [KO (f:=⟨1,0,13000,14000⟩) rfl rfl,Ln]; simp
theorem yx:iI eo=[0]:=by
 unfold iI uc
 show l0 (fun i=>(eo.aF[i]?).any (hG eo)) 3=[0]
 rw [s8 (by show hG eo ⟨6,0,0,3,20000⟩=false; exact Jb),s8 (by show hG eo ⟨5,0,0,1,72603⟩=false; exact K6),yb (by show hG eo ⟨2,0,0,0,72596⟩=true; exact Ex)]
 rfl
theorem MP:G1 hH (nz eo) eo.aG o_:=⟨⟨1,0,12600,13000⟩,by simp [eo],⟨0,⟨2,0,0,0,72596⟩,rfl,Ex,rfl⟩,by rw [DB]; decide⟩
theorem uS {x y:Int}: ¬ G1 hH (nz eo) eo.aG (nG x y):=fun ⟨f,_,_,h⟩=>h Pn
theorem Ml:jG eo=[[0],[]]:=by
 have A:yL hH (nz eo) eo.aG [o_,nG 2600 2600,nG 2580 2609] 3=[0]:=by
  unfold yL
  rw [s8 (by simp [uS]),s8 (by simp [uS]),yb (by simp [MP])]; rfl
 have B:yL hH (nz eo) eo.aG [nG 2555 2559,nG 2540 2549,nG 2570 2575] 3=[]:=by
  unfold yL
  rw [s8 (by simp [uS]),s8 (by simp [uS]),s8 (by simp [uS])]; rfl
 show [yL hH (nz eo) eo.aG [o_,nG 2600 2600,nG 2580 2609] 3,yL hH (nz eo) eo.aG [nG 2555 2559,nG 2540 2549,nG 2570 2575] 3]=_
 rw [A,B]
theorem BD:zo eo=500∧Gc eo=1000:=by
 have h:zo eo=500:=by unfold zo; rw [yx]; rfl
 exact ⟨h,by unfold Gc; rw [h]; rfl⟩
theorem G9:D7 eo 0= -1000:=by
 have h:IG eo 0 3=2:=by
  unfold IG
  rw [show List.range 3=[0,1,2] from rfl]
  simp only [List.countP_cons,List.countP_nil]
  rw [show (eo.aF[0]?)=some ⟨2,0,0,0,72596⟩ from rfl,show (eo.aF[1]?)=some ⟨5,0,0,1,72603⟩ from rfl,show (eo.aF[2]?)=some ⟨6,0,0,3,20000⟩ from rfl]
  simp only [Option.any_some,Ex,K6,Jb]
  decide
 unfold D7
 rw [show eo.aF.length=3 from rfl,h]; rfl
end
section
open Go.RowKit
section
variable {E:fp} {ops:Array Oper} {Q:dv} {rest:List Oper} {D:List Deferred} {L:List (Nat×Value)} {C C1:List ay}
end
theorem yc {C:List ay}: ∀ {a b:List Nat} {X Y:List ay},oD C a=some X→oD C b=some Y→oD C (a++b)=some (X++Y)
 |[],b,X,Y,h,h2=>by cases h; exact h2
 |i::a,b,X,Y,h,h2=>by
  unfold oD at h
  split at h
  ·rename_i A hA
   split at h
   ·rename_i l hl
    cases h
    have ih:=yc hl h2
    show (match C[i]? with
     |some A=>match oD C (a++b) with
      |some l=>some (A::l)
      |none=>none
     |none=>none)=_
    rw [hA,ih]; rfl
   ·cases h
  ·cases h
theorem G5 {E:fp} {ops:Array Oper} {Q:dv} {rest:List Oper} {D:g8} {L:dA} {C C1:List ay} (X:List ay) (i1 i2:List Nat) (h1:oD C i1=some X) (h2:oD C i2=some C1) (h:RJ E ops Q rest D L (bV X::C1)) (hn:decide (i1++i2).Nodup=true:=by rfl):RJ E ops Q rest D L C:=fun a w hf hs=>h a w hf (St.tied (St.j0 _ hn (nv (yc h1 h2)) hs))
theorem Ap {E:fp} {ops:Array Oper} {Q:dv} {rest:List Oper} {D:g8} {L:dA} {C C1:List ay} (ix:List Nat) (hn:decide ix.Nodup=true) (hC:oD C ix=some C1) (h:RJ E ops Q rest D L C1):RJ E ops Q rest D L C:=fun a w hf hs=>h a w hf (St.j0 _ hn (nv hC) hs)
theorem oi {M A B:Type} {f:M→A→List B} {n:Nat} (h: ∀ m a,(f m a).length=n): ∀ {ms:List M} {asl:List A},∀ x∈List.zipWith f ms asl,x.length=n
 |[],asl,x,hx=>by simp at hx
 |m::ms,[],x,hx=>by simp at hx
 |m::ms,a::asl,x,hx=>by
  rw [List.zipWith_cons_cons] at hx
  rcases bR.1 hx with rfl|hx
  ·exact h m a
  ·exact oi h x hx
theorem AF (m:ax) (a:RA):(ax.cells m a).length=7:=rfl
theorem Dg (m:List ax) (a:c_):(cL m a).length=1:=rfl
theorem PJ (m:List Int) (a:RA):(uP m a).length=1:=rfl
end
section
open Go.RowKit
theorem zN {E:fp} {c:Code} {Q:dv} {D:g8} {L:dA} {C C1:List ay} (X:List ay) (i1 i2:List Nat) (h1:oD C i1=some X) (h2:oD C i2=some C1) (h:WJ E c Q D L (bV X::C1)) (hn:decide (i1++i2).Nodup=true:=by rfl):WJ E c Q D L C:=fun a w hf hs=>h a w hf (St.tied (St.j0 _ hn (nv (yc h1 h2)) hs))
def Km:List ax:=[o_,nG 2600 2600,nG 2580 2609]
def So:List ax:=[nG 2555 2559,nG 2540 2549,nG 2570 2575]
theorem Jk {p q s t u v x y:RA}:xe qQ.aD [(p,[s,t,u]),(q,[v,x,y])]:=⟨rfl,fun k h a hk ha=>by
 match k with
 |0=>simp [qQ] at hk ha; subst hk; subst ha; rfl
 |1=>simp [qQ] at hk ha; subst hk; subst ha; rfl
 |n+2=>simp at ha⟩
theorem ML {bz:List RA} {hz:List c_} (h:dY hH bz) (hh:xe qQ.aD hz):lS qQ bz hz:=⟨h,dc,dc,dc,hh.1,fun k x a hx ha=>by
 have hm:=aP hx
 have hs:=hh.2 k x a hx ha
 simp only [qQ,bR,List.not_mem_nil,or_false] at hm
 rcases hm with rfl|rfl
 ·exact ⟨dc,hs,dc⟩
 ·exact ⟨dc,hs,dc⟩⟩
theorem P8 {bz:List RA} {hz:List c_} (h:dY hH bz) (hh:xe qQ.aD hz):gT eo bz hz:=⟨ML h hh,dc,dc,dc⟩
end
section
open Go.RowKit
theorem QU:m7 eo 0 0 0=0∧lG eo 0 0 0=1:=by
 have e:=q7 (j:=eo) (k:=0) (h:=0) (s:=0) (f:=⟨1,0,12600,13000⟩) (ht:=Km) (d:=o_) oP dc rfl rfl rfl
 exact ⟨e.2,e.1.trans DB⟩
theorem PG:m7 eo 1 0 0=0∧lG eo 1 0 0=2:=by
 have e:=q7 (j:=eo) (k:=1) (h:=0) (s:=0) (f:=⟨2,1,11003,11100⟩) (ht:=Km) (d:=o_) oP dc rfl rfl rfl
 exact ⟨e.2,e.1.trans Qo⟩
theorem PZ:m7 eo 3 0 0=0∧lG eo 3 0 0=0:=by
 have e:=q7 (j:=eo) (k:=3) (h:=0) (s:=0) (f:=⟨1,0,13000,14000⟩) (ht:=Km) (d:=o_) oP dc rfl rfl rfl
 exact ⟨e.2,e.1.trans Ln⟩
theorem Qc:tf eo 0=0∧qF eo 0=0:=by
 have e:=wY (j:=eo) (i:=0) (p:=⟨2,0,0,0,72596⟩) oP dc rfl
 exact ⟨e.2,e.1.trans LS⟩
theorem PO:tf eo 1=0∧qF eo 1=2:=by
 have e:=wY (j:=eo) (i:=1) (p:=⟨5,0,0,1,72603⟩) oP dc rfl
 exact ⟨e.2,e.1.trans KC⟩
theorem OH:ki eo=[0]:=(qs oP).trans yx
theorem Ku:dH eo=[[0],[]]:=(mH oP).trans Ml
theorem OT:AH eo=500∧zY eo=1000:=⟨(xL oP).1.trans BD.1,(xL oP).2.trans BD.2⟩
theorem OM:rf eo 0=0∧tR eo 0= -1000:=⟨by unfold rf; rw [if_pos oP,if_pos dc],by unfold tR; rw [if_pos ⟨oP,dc⟩]; exact G9⟩
end
section
open Go.RowKit
theorem pq (n lo hi:Int):
 dL Tryz.prog 131 [(vI n),(vI lo),(vI hi)] [] (vB (decide (lo≤n∧n≤hi))):=by
 refine bH kr Tryz.func131 U U fun D Q hQ hN=>?_
 try dsimp only
 refine WS fun _ B=>bE 1 U<|RK B<|WS fun _ A=>rP 4 [] I ?_
 refine bK (t:=10) U (aU fun C=>?_) (aV fun C=>?_)
 ·refine rP 5 [] I ?_
  refine RK A<|aq<|Q1 hQ U U U ?_
  exact cB (gR.2 om)
 refine rP 5 [] I ?_
 refine RK A<|aq<|Q1 hQ U U U ?_
 exact cB (bI om).symm
theorem qn (s:ag) (lo hi:Int):
 dL Tryz.prog 132 [(vA (ag.cells s)),(vI lo),(vI hi)] [] (vB (decide (s.Lo≤s.Hi∧lo≤s.Lo∧s.Hi≤hi))):=by
 refine bH kr Tryz.func132 U U fun E Q hQ hN=>?_
 try dsimp only
 refine WS fun _ B=>eO U fun D=>bE 1 U<|RK B<|WS fun _ A=>eV 5 [] (mc 0 U I) U<|rS (CL (pq s.Lo lo s.Hi) (aO) U)<|rP 1 [] I ?_
 refine bU (t:=13) U (aV fun C=>?_) (aU fun C=>?_)
 ·refine rP 6 [] I ?_
  refine RK A<|aq<|Q1 hQ U U U ?_
  exact cB (bI om).symm
 refine rP 6 [] (mc 0 U I) ?_
 refine RK A<|aq<|Q1 hQ U U U ?_
 exact cB (gR.2 om)
theorem On (t:List ar) (tA:OA) (tC:Nat):
 dL Tryz.prog 84 [(vA (bP.cells (bP.mk (bD.mk tA t.length tC))))] [(rd tA t.length 9 (t.map ar.cells))] (vB (decide (20<(t.length:Int)))):=by
 refine bH kr Tryz.func84 U U fun D Q hQ hN=>?_
 try dsimp only
 refine WS fun _ A=>eO U fun C=>bE 1 U<|RK A<|WS fun _ B=>rP 5 [] (mc 0 U I) ?_
 refine RK B<|aq ?_
 exact Q1 hQ U U U U
theorem Na (l:List Int) (lA:OA) (lC:Nat) (f:Value) (p:Int→Bool) (X:ay) (hf: ∀ x0,x0∈l→DI Tryz.prog f [.int .i64 x0] [X] (.bool (p x0))) (hlen:l.length≤1000000):
 dL Tryz.prog 71 [(vS lA l.length lC),f] [(rd lA l.length 1 (l.map iC)),X] (vI (sY p l)):=by
 refine bH kr Tryz.func71 U U fun R Q hQ hN=>?_
 try dsimp only
 refine WS fun _ G=>bE 1 U<|RK G<|ao fun _ H=>WS fun _ AA=>rP 3 [] I ?_
 refine RK AA<|aI ?_
 have B:(0≤l.length)∧((l.take 0).any p=false):=by simp
 refine bZ (ι:={z:Nat // (z≤l.length)∧((l.take z).any p=false)}) [0,1,7] [0,1] U U (fun z=>[(8,(vI (z.1:Int)))]) (fun z=>[]) (fun _=>rfl) (fun _=>rfl) (fun z=>l.length-z.1) ⟨0,B⟩ (bu U) (aQ [0,1]) ?_
 clear B
 rintro ⟨i,⟨N,A⟩⟩ J4 F
 try dsimp only
 refine WS fun _ J=>rP 1 [] I ?_
 refine RK J<|ao fun _ K=>bW U (aV fun P=>?_) (aU fun P=>?_)
 ·refine bS<|ai<|ai<|aL<|KK H<|WS fun _ E=>rP 1 [] I ?_
  refine RK E<|aq<|Q1 hQ U U U ?_
  exact cI (ql om A).symm
 refine WK K<|ao fun _ L=>aI<|WS fun _ M=>bE 2 U<|RK M<|WS fun _ C=>rP 3 [] I ?_
 obtain ⟨x,hx⟩:=aJ l i om
 have O:=bM iC hx
 refine rS (IA i U (aB 0 U) dk dc om om)<|rS (gE i 0 (vI x) U b_ (aB 0 U) O U dc U)<|rS (SX (qk U U U (hf x (aP hx)) (bk [1])) U U)<|RK C<|cy U (fun hp=>?_) (fun hp=>?_)
 ·refine WS fun _ D=>rP 2 [] I ?_
  refine RK D<|aq<|Q1 hQ U U U ?_
  exact cI (uu hx hp A).symm
 refine cu<|aR<|KK L<|aw<|rP 2 [] I ?_
 refine aH ?_
 refine bq (F ⟨(i+1),⟨om,ur hx A hp⟩⟩ _ _ _ U os (bu U) (aQ [0,1]))
theorem qt (l:List Int) (lA:OA) (lC:Nat) (f:Value) (p:Int→Bool) (X:ay) (hf: ∀ x0,x0∈l→DI Tryz.prog f [.int .i64 x0] [X] (.bool (p x0))) (hlen:l.length≤1000000):
 dL Tryz.prog 50 [(vS lA l.length lC),f] [(rd lA l.length 1 (l.map iC)),X] (vB (l.any p)):=by
 refine bH kr Tryz.func50 U U fun C Q hQ hN=>?_
 try dsimp only
 refine WS fun _ A=>bE 1 U<|RK A<|WS fun _ B=>bE 2 U<|rS (CL (Na l lA lC f p X (by exact hf) hlen) (bk [0,1]) U)<|rP 2 [] I ?_
 refine RK B<|aq<|Q1 hQ U U U ?_
 exact cB sK
theorem HH (n lo hi:Int) (g1 g2:Nat):
 dL Tryz.prog 113 [(vI n),(vP g1),(vP g2)] [(cp g1 3 [(vI lo)]),(cp g2 3 [(vI hi)])] (vB (decide (n<lo∨hi<n))):=by
 refine bH kr Tryz.func113 U U fun D Q hQ hN=>?_
 try dsimp only
 refine WS fun _ B=>bE 1 U<|RK B<|WS fun _ A=>rP 4 [] (mr 0 U I) ?_
 refine bK (t:=8) U (aU fun C=>?_) (aV fun C=>?_)
 ·refine rP 5 [] I ?_
  refine RK A<|aq<|Q1 hQ U U U ?_
  exact cB (dN om).symm
 refine rP 5 [] (mr 1 U I) ?_
 refine RK A<|aq<|Q1 hQ U U U ?_
 exact cB (gR.2 om)
theorem pj (lo hi:Int) (l:List Int) (lA:OA) (lC:Nat) (hlen:l.length≤1000000):
 dL Tryz.prog 87 [(vI lo),(vI hi),(vS lA l.length lC)] [(rd lA l.length 1 (l.map iC))] (vB (qP lo hi l)):=by
 refine bH kr Tryz.func87 U U fun F Q hQ hN=>?_
 try dsimp only
 refine WS fun _ D=>wR U U fun A=>wR U U fun B=>bE 1 U<|RK D<|WS fun _ E=>rP 1 [] I ?_
 refine rS (FU U) ?_
 refine rS (CL (qt l lA lC (Value.func (.func 113) [].toArray [(vP A),(vP B)].toArray) (fun C=>(decide (C<lo∨hi<C))) (dT [(cp A 3 [(vI lo)]),(cp B 3 [(vI hi)])]) (by intro C _; exact k7 (fi:=[]) (ca:=[(vP A),(vP B)]) (jS (HH C lo hi A B) (bk [0,1]))) hlen) (gJ 2 U U<|aC (jX (bk [1,0]))<|aO) U) ?_
 refine rP 2 [] I ?_
 refine RK E<|aq ?_
 exact Q1 hQ U U U U
theorem wZ (s:ag) (lo hi:Int):
 dL Tryz.prog 88 [(vA (ag.cells s)),(vI lo),(vI hi)] [] (vB (decide (s.Lo≤s.Hi∧lo≤s.Lo∧s.Hi≤hi))):=by
 refine bH kr Tryz.func88 U U fun F Q hQ hN=>?_
 try dsimp only
 refine WS fun _ B=>eO U fun E=>bE 1 U<|RK B<|WS fun _ A=>rP 6 [] (mc 0 U I) ?_
 refine d_ (xs:=[.tmp 10,.tmp 12]) (cs:=[(vI s.Lo),(vI s.Hi)]) U dk jO U U U U (by simp [Value.cells]) U U fun C=>?_
 refine rS (CL (dL.eq (pj lo hi ([s.Lo,s.Hi]) (some ⟨C,0,none⟩) 2 (by (simp; done))) pd) (aC (bo 0 U U (by simp [bL]) U)<|aO) U) ?_
 refine rP 1 [] I ?_
 refine bU (t:=15) U (aV fun D=>?_) (aU fun D=>?_)
 ·refine rP 7 [] I ?_
  refine RK A<|aq<|Q1 hQ U U U ?_
  exact cB (bI om).symm
 refine rP 7 [] (mc 1 U I) ?_
 refine RK A<|aq<|Q1 hQ U U U ?_
 exact cB (gR.2 om)
theorem w5 (ts:List ar) (tsA:OA) (tsC:Nat) (hlen:ts.length≤1000000):
 dL Tryz.prog 109 [(vA (bP.cells (bP.mk (bD.mk tsA ts.length tsC))))] [(rd tsA ts.length 9 (ts.map ar.cells))] (vB (dB ts)):=by
 refine bH kr Tryz.func109 U U fun w0 Q hQ hN=>?_
 try dsimp only
 refine WS fun _ C2=>eO U fun b2=>bE 1 U<|RK C2<|ao fun _ C3=>WS fun _ Di=>eV 3 [] (mc 0 U I) U<|rS (CL (pq (ts.length:Int) 1 12) (aO) U)<|rP 1 [] I ?_
 refine RK Di<|cy U (aX fun h5=>?_) (aW fun h5=>?_)
 ·refine WS fun _ Do=>rP 1 [] I ?_
  refine RK Do<|aq<|Q1 hQ U U U ?_
  exact cB (oJ om).symm
 refine WK C3<|ao fun _ Du=>WS fun _ EQ=>rP 1 [] I ?_
 refine RK EQ<|aI ?_
 have E:(0≤ts.length)∧(eY (-1) ts=eY (gG ts 0) (ts.drop 0))∧(-1≤gG ts 0):=by (refine ⟨om,rfl,by simp [gG]⟩)
 refine bZ (ι:={z:Nat // (z≤ts.length)∧(eY (-1) ts=eY (gG ts z) (ts.drop z))∧(-1≤gG ts z)}) [1] [0,1] U U (fun z=>[(3,(vI (z.1:Int)))]) (fun z=>[]) (fun _=>rfl) (fun _=>rfl) (fun z=>ts.length-z.1) ⟨0,E⟩ (bu U) (aQ [0,1]) ?_
 clear E
 rintro ⟨i,⟨Eq,A,FC⟩⟩ J9 D
 try dsimp only
 have hz:i=0→gG ts i= -1:=Bv
 refine ao fun _ K=>WS fun _ L=>rP 5 [] (mc 0 U I) ?_
 refine RK L<|bW U (aV fun v=>?_) (aU fun v=>?_)
 ·refine bS<|ai<|ai<|aL<|KK Du<|WS fun _ u=>rP 1 [] I ?_
  refine RK u<|aq<|Q1 hQ U U U ?_
  exact cB (we A om om).symm
 refine WK K<|ao fun _ C=>aI<|WS fun _ M=>rP 3 [] (mc 0 U I) ?_
 obtain ⟨x,hx⟩:=aJ ts i om
 have FE:=bM ar.cells hx
 refine rS (IA i U (aB 1 U) yO dc om om)<|rS (lM i 0 (ar.cells x) U b_ (aB 1 U) FE U dc U U)<|AL U E5 fun Fd=>fJ U Jx U<|RK M<|ao fun _ F=>ao fun _ B=>dj cj 38 kr<|lz 2 [] (mc 0 U I) U<|dS (CL (pq x.Id 0 9999) (aO) U)<|dP 2 [] I ?_
 refine g7 (t:=26) U (aX fun w=>?_) (aW fun w=>?_)
 ·refine kE 11 U<|kE 22 U<|cD<|RK B<|aT U<|WS fun _ N=>rP 1 [] I ?_
  refine RK N<|aq<|Q1 hQ U U U ?_
  exact cB (eg A hx (by simp only [bX,ek]; omega)).symm
 refine dP 3 [] I ?_
 refine jB (t:=29) U (aV fun AC=>?_) (aU fun AC=>?_)
 ·refine kE 8 U<|kE 6 U<|dS (LP (ag.cells x.kG) 0 U b_ U U U)<|dS (CL (qn x.kG 1 30000) (aO) U)<|dP 3 [] I ?_
  refine g7 (t:=48) U (aX fun A9=>?_) (aW fun A9=>?_)
  ·refine kE 11 U<|cD<|RK B<|aT U<|WS fun _ e=>rP 1 [] I ?_
   refine RK e<|aq<|Q1 hQ U U U ?_
   exact cB (eg A hx (by simp only [bX,ek]; omega)).symm
  refine kE 1 U<|dS (LP (ag.cells x.mm) 0 U b_ U U U)<|dS (CL (qn x.mm 0 5000) (aO) U)<|dP 3 [] I ?_
  refine g7 (t:=54) U (aX fun Bd=>?_) (aW fun Bd=>?_)
  ·refine kE 5 U<|cD<|RK B<|aT U<|WS fun _ f=>rP 1 [] I ?_
   refine RK f<|aq<|Q1 hQ U U U ?_
   exact cB (eg A hx (by simp only [bX,ek]; omega)).symm
  refine lz 2 [] (mc 0 U I) U<|dS (CL (pq x.zZ 0 5000) (aO) U)<|dP 2 [] I ?_
  refine cD<|RK B<|cy U (aX fun Bo=>?_) (aW fun Bo=>?_)
  ·refine WS fun _ g=>rP 1 [] I ?_
   refine RK g<|aq<|Q1 hQ U U U ?_
   exact cB (eg A hx (by simp only [bX,ek]; omega)).symm
  refine WK F<|WS fun _ h=>eV 2 [] (mc 0 U I) U<|RK h<|aI<|WS fun _ j=>rS (BI U lZ)<|rP 1 [] I ?_
  refine RK j<|cy U (aU fun B3=>?_) (aV fun B3=>?_)
  ·refine WS fun _ AB=>rP 5 [] (mc 0 U I) ?_
   refine bK (t:=68) U (aX fun B9=>?_) (aW fun B9=>?_)
   ·refine bE 5 U<|RK AB<|aT U<|WS fun _ k=>rP 1 [] I ?_
    refine RK k<|aq<|Q1 hQ U U U ?_
    exact cB (eg A hx (by simp only [bX,ek]; omega)).symm
   refine rP 5 [] (mc 0 U I) ?_
   refine RK AB<|bW U (aW fun Ci=>?_) (aX fun Ci=>?_)
   ·refine cu<|aR<|aR<|KK C<|aw<|rP 3 [] I ?_
    refine aH ?_
    refine bq (D ⟨(i+1),⟨om,hE A hx (by simp only [bX,ek]; omega),by rw [gD hx]; omega⟩⟩ _ _ _ U os (bu U) (aQ [1,2]))
   refine WS fun _ l=>rP 1 [] I ?_
   refine RK l<|aq<|Q1 hQ U U U ?_
   exact cB (eg A hx (by simp only [bX,ek]; omega)).symm
  refine ao fun _ J=>WS fun _ m=>rS (BI U lZ)<|rP 1 [] I ?_
  refine RK m<|cy U (aU fun Ck=>?_) (aV fun Ck=>?_)
  ·refine WK J<|bW U (aV fun Cp=>?_) (aU fun Cp=>?_)
   ·refine WS fun _ p=>rP 1 [] I ?_
    refine RK p<|aq<|Q1 hQ U U U ?_
    exact cB (oJ om).symm
   refine WS fun _ n=>bE 1 U<|rS (LP (ag.cells x.eQ) 0 U b_ U U U)<|rS (CL (qn x.eQ 500 20000) (aO) U)<|rP 1 [] I ?_
   refine RK n<|bW U (aW fun Cx=>?_) (aX fun Cx=>?_)
   ·refine cu<|aR<|aR<|KK C<|aw<|rP 3 [] I ?_
    refine aH ?_
    refine bq (D ⟨(i+1),⟨om,hE A hx (by simp only [bX,ek]; omega),by rw [gD hx]; omega⟩⟩ _ _ _ U os (bu U) (aQ [1,2]))
   refine WS fun _ o=>rP 1 [] I ?_
   refine RK o<|aq<|Q1 hQ U U U ?_
   exact cB (eg A hx (by simp only [bX,ek]; omega)).symm
  refine aw<|rS (BI U lZ)<|rP 1 [] I ?_
  refine RK J<|bW U (aV fun C0=>?_) (aU fun C0=>?_)
  ·refine WS fun _ s=>rP 1 [] I ?_
   refine RK s<|aq<|Q1 hQ U U U ?_
   exact cB (eg A hx (by simp only [bX,ek]; omega)).symm
  refine WS fun _ q=>bE 1 U<|rS (LP (ag.cells x.eQ) 0 U b_ U U U)<|rS (CL (qn x.eQ 500 20000) (aO) U)<|rP 1 [] I ?_
  refine RK q<|bW U (aW fun C1=>?_) (aX fun C1=>?_)
  ·refine cu<|aR<|aR<|KK C<|aw<|rP 3 [] I ?_
   refine aH ?_
   refine bq (D ⟨(i+1),⟨om,hE A hx (by simp only [bX,ek]; omega),by rw [gD hx]; omega⟩⟩ _ _ _ U os (bu U) (aQ [1,2]))
  refine WS fun _ r=>rP 1 [] I ?_
  refine RK r<|aq<|Q1 hQ U U U ?_
  exact cB (eg A hx (by simp only [bX,ek]; omega)).symm
 refine dP 6 [0,1] (mc 0 U (mc 1 U I)) ?_
 obtain ⟨y,hy⟩:=aJ ts (i-1) om
 have FS:=bM ar.cells hy
 refine dS (IA (i-1) U (aB 2 U) yO dc om om)<|dS (o6 ((i-1)*9) U (aB 2 U) (Nat.mul_pos om dc) eD U) ?_
 have GE:=Dt om hy
 refine dS (gE (i-1) 0 (vI y.Id) U b_ (aB 2 U) FS U dc U)<|dP 4 [] I ?_
 refine g7 (t:=42) U (aU fun AO=>?_) (aV fun AO=>?_)
 ·refine kE 17 U<|cD<|RK B<|aT U<|WS fun _ O=>rP 1 [] I ?_
  refine RK O<|aq<|Q1 hQ U U U ?_
  exact cB (eg A hx (by simp only [bX,ek]; omega)).symm
 refine kE 1 U<|dS (LP (ag.cells x.kG) 0 U b_ U U U)<|dS (CL (qn x.kG 1 30000) (aO) U)<|dP 3 [] I ?_
 refine g7 (t:=48) U (aX fun Ad=>?_) (aW fun Ad=>?_)
 ·refine kE 11 U<|cD<|RK B<|aT U<|WS fun _ P=>rP 1 [] I ?_
  refine RK P<|aq<|Q1 hQ U U U ?_
  exact cB (eg A hx (by simp only [bX,ek]; omega)).symm
 refine kE 1 U<|dS (LP (ag.cells x.mm) 0 U b_ U U U)<|dS (CL (qn x.mm 0 5000) (aO) U)<|dP 3 [] I ?_
 refine g7 (t:=54) U (aX fun An=>?_) (aW fun An=>?_)
 ·refine kE 5 U<|cD<|RK B<|aT U<|WS fun _ R=>rP 1 [] I ?_
  refine RK R<|aq<|Q1 hQ U U U ?_
  exact cB (eg A hx (by simp only [bX,ek]; omega)).symm
 refine lz 2 [] (mc 0 U I) U<|dS (CL (pq x.zZ 0 5000) (aO) U)<|dP 2 [] I ?_
 refine cD<|RK B<|cy U (aX fun A0=>?_) (aW fun A0=>?_)
 ·refine WS fun _ S=>rP 1 [] I ?_
  refine RK S<|aq<|Q1 hQ U U U ?_
  exact cB (eg A hx (by simp only [bX,ek]; omega)).symm
 refine WK F<|WS fun _ T=>eV 2 [] (mc 0 U I) U<|RK T<|aI<|WS fun _ AA=>rS (BI U lZ)<|rP 1 [] I ?_
 refine RK AA<|cy U (aU fun A1=>?_) (aV fun A1=>?_)
 ·refine WS fun _ G=>rP 5 [] (mc 0 U I) ?_
  refine bK (t:=68) U (aX fun A2=>?_) (aW fun A2=>?_)
  ·refine bE 5 U<|RK G<|aT U<|WS fun _ V=>rP 1 [] I ?_
   refine RK V<|aq<|Q1 hQ U U U ?_
   exact cB (eg A hx (by simp only [bX,ek]; omega)).symm
  refine rP 5 [] (mc 0 U I) ?_
  refine RK G<|bW U (aW fun A3=>?_) (aX fun A3=>?_)
  ·refine cu<|aR<|aR<|KK C<|aw<|rP 3 [] I ?_
   refine aH ?_
   refine bq (D ⟨(i+1),⟨om,hE A hx (by simp only [bX,ek]; omega),by rw [gD hx]; omega⟩⟩ _ _ _ U os (bu U) (aQ [1,2]))
  refine WS fun _ W=>rP 1 [] I ?_
  refine RK W<|aq<|Q1 hQ U U U ?_
  exact cB (eg A hx (by simp only [bX,ek]; omega)).symm
 refine ao fun _ H=>WS fun _ X=>rS (BI U lZ)<|rP 1 [] I ?_
 refine RK X<|cy U (aU fun A4=>?_) (aV fun A4=>?_)
 ·refine WK H<|bW U (aV fun A5=>?_) (aU fun A5=>?_)
  ·refine WS fun _ a=>rP 1 [] I ?_
   refine RK a<|aq<|Q1 hQ U U U ?_
   exact cB (oJ om).symm
  refine WS fun _ Y=>bE 1 U<|rS (LP (ag.cells x.eQ) 0 U b_ U U U)<|rS (CL (qn x.eQ 500 20000) (aO) U)<|rP 1 [] I ?_
  refine RK Y<|bW U (aW fun A6=>?_) (aX fun A6=>?_)
  ·refine cu<|aR<|aR<|KK C<|aw<|rP 3 [] I ?_
   refine aH ?_
   refine bq (D ⟨(i+1),⟨om,hE A hx (by simp only [bX,ek]; omega),by rw [gD hx]; omega⟩⟩ _ _ _ U os (bu U) (aQ [1,2]))
  refine WS fun _ Z=>rP 1 [] I ?_
  refine RK Z<|aq<|Q1 hQ U U U ?_
  exact cB (eg A hx (by simp only [bX,ek]; omega)).symm
 refine aw<|rS (BI U lZ)<|rP 1 [] I ?_
 refine RK H<|bW U (aV fun A7=>?_) (aU fun A7=>?_)
 ·refine WS fun _ d=>rP 1 [] I ?_
  refine RK d<|aq<|Q1 hQ U U U ?_
  exact cB (eg A hx (by simp only [bX,ek]; omega)).symm
 refine WS fun _ b=>bE 1 U<|rS (LP (ag.cells x.eQ) 0 U b_ U U U)<|rS (CL (qn x.eQ 500 20000) (aO) U)<|rP 1 [] I ?_
 refine RK b<|bW U (aW fun A8=>?_) (aX fun A8=>?_)
 ·refine cu<|aR<|aR<|KK C<|aw<|rP 3 [] I ?_
  refine aH ?_
  refine bq (D ⟨(i+1),⟨om,hE A hx (by simp only [bX,ek]; omega),by rw [gD hx]; omega⟩⟩ _ _ _ U os (bu U) (aQ [1,2]))
 refine WS fun _ c=>rP 1 [] I ?_
 refine RK c<|aq<|Q1 hQ U U U ?_
 exact cB (eg A hx (by simp only [bX,ek]; omega)).symm
theorem CK (ts:List ar) (tsA:OA) (tsC:Nat) (hlen:ts.length≤1000000) (hside: ∀ x∈ts,0≤x.je∧x.je≤255):
 dL Tryz.prog 62 [(vA (bP.cells (bP.mk (bD.mk tsA ts.length tsC))))] [(rd tsA ts.length 9 (ts.map ar.cells))] (vI (if dB ts=true then 0 else 10)):=by
 refine bH kr Tryz.func62 U U fun w0 Q hQ hN=>?_
 try dsimp only
 refine WS fun _ v=>eO U fun b2=>bE 1 U<|RK v<|Bh U<|ao fun _ w=>WS fun _ y=>rP 3 [] (mc 0 U I) ?_
 refine d_ (xs:=[.tmp 11]) (cs:=[(vI (ts.length:Int))]) U dk jO U U U U (by simp [Value.cells]) U U fun b5=>?_
 refine rS (CL (dL.eq (pj 1 12 ([(ts.length:Int)]) (some ⟨b5,0,none⟩) 1 (by (simp; done))) cw) (aC (bo 0 U U (by simp [bL]) U)<|aO) U) ?_
 refine rP 1 [] I ?_
 refine RK y<|cy U (aX fun h6=>?_) (aW fun h6=>?_)
 ·refine WS fun _ AC=>rP 1 [] I ?_
  refine RK AC<|aq<|Q1 hQ U U U ?_
  exact cI (if_neg (by rw [oJ om]; decide)).symm
 refine WK w<|WS fun _ AO=>bE 1 U<|RK AO<|WS fun _ Ad=>bE 1 U<|RK Ad<|ao fun _ J=>Bf<|KK J<|ao fun _ B=>WS fun _ K=>rP 4 [] (mc 1 U I) ?_
 refine RK K<|aI ?_
 have D:(0≤ts.length)∧(eY (-1) ts=eY (gG ts 0) (ts.drop 0))∧(-1≤gG ts 0)∧(gG ts 0≤9999):=by (refine ⟨om,rfl,by simp [gG],by simp [gG]⟩)
 refine bZ (ι:={z:Nat // (z≤ts.length)∧(eY (-1) ts=eY (gG ts z) (ts.drop z))∧(-1≤gG ts z)∧(gG ts z≤9999)}) [1,4,16,17] [1,2] U U (fun z=>[(3,(vI (gG ts z.1))),(18,(vI (z.1:Int)))]) (fun z=>[]) (fun _=>rfl) (fun _=>rfl) (fun z=>ts.length-z.1) ⟨0,D⟩ (bu U) (aQ [1,2]) ?_
 clear D
 rintro ⟨i,⟨An,A,A0,A1⟩⟩ J13 E
 try dsimp only
 refine WS fun _ L=>rP 1 [] I ?_
 refine RK L<|ao fun _ M=>bW U (aV fun k=>?_) (aU fun k=>?_)
 ·refine bS<|ai<|ai<|aL<|KK B<|WS fun _ O=>rP 2 [] I ?_
  refine RK O<|aq<|Q1 hQ U U U ?_
  exact cI (if_pos (we A om om)).symm
 refine WK M<|ao fun _ F=>aI<|WS fun _ N=>?_
 obtain ⟨x,hx⟩:=aJ ts i om
 have A2:=bM ar.cells hx
 refine rS (IA i U (aB 1 U) yO dc om om) ?_
 have A6:=hside x (aP hx)
 refine rS (lM i 0 (ar.cells x) U b_ (aB 1 U) A2 U dc U U)<|AL U E5 fun A3=>fJ U Jx U<|RK N ?_
 refine kW (ι:=Unit) [1,3,4,6,16,17,18] [0,1,2] U U (fun z=>[(7,(vB (decide (x.je=0∧x.eQ.Lo=0∧x.eQ.Hi=0))))]) (fun z=>[]) (fun _=>rfl) (fun _=>rfl) ?_ fun K20 G=>?_
 ·intro _
  try dsimp only
  refine kW (ι:=Unit) [1,3,4,6,7,16,17,18] [0,1,2] U U (fun z=>[(8,(vB (decide ((1≤x.je∧x.je≤2)∧x.eQ.Lo≤x.eQ.Hi∧500≤x.eQ.Lo∧x.eQ.Hi≤20000))))]) (fun z=>[]) (fun _=>rfl) (fun _=>rfl) ?_ fun K21 H=>?_
  ·intro _
   try dsimp only
   refine ao fun _ AB=>WS fun _ C=>rP 4 [] (mc 0 U I) ?_
   refine d_ (xs:=[.tmp 44]) (cs:=[(vI x.Id)]) U dk jO U U U U (by simp [Value.cells]) U U fun h=>?_
   refine rS (CL (dL.eq (pj ((gG ts i)+1) 9999 ([x.Id]) (some ⟨h,0,none⟩) 1 (by (simp; done))) cw) (aC (bo 0 U U (by simp [bL]) U)<|aO) U) ?_
   refine rP 2 [] I ?_
   refine bK (t:=48) U (aX fun o=>?_) (aW fun o=>?_)
   ·refine bE 26 U<|RK C<|aT U<|WS fun _ P=>bE 1 U<|RK P<|bS<|ai<|fD U<|ai<|ai<|aL<|KK B<|WS fun _ R=>rP 2 [] I ?_
    refine RK R<|aq<|Q1 hQ U U U ?_
    exact cI (if_neg (by rw [eg A hx (by simp only [bX,ek]; omega)]; decide)).symm
   refine bE 1 U<|rS (LP (ag.cells x.kG) 1 U b_ U U U)<|rS (CL (wZ x.kG 1 30000) (aO) U)<|rP 3 [] I ?_
   refine bK (t:=54) U (aX fun p=>?_) (aW fun p=>?_)
   ·refine bE 20 U<|RK C<|aT U<|WS fun _ S=>bE 1 U<|RK S<|bS<|ai<|fD U<|ai<|ai<|aL<|KK B<|WS fun _ T=>rP 2 [] I ?_
    refine RK T<|aq<|Q1 hQ U U U ?_
    exact cI (if_neg (by rw [eg A hx (by simp only [bX,ek]; omega)]; decide)).symm
   refine bE 1 U<|rS (LP (ag.cells x.mm) 1 U b_ U U U)<|rS (CL (wZ x.mm 0 5000) (aO) U)<|rP 3 [] I ?_
   refine bK (t:=60) U (aX fun q=>?_) (aW fun q=>?_)
   ·refine bE 14 U<|RK C<|aT U<|WS fun _ AA=>bE 1 U<|RK AA<|bS<|ai<|fD U<|ai<|ai<|aL<|KK B<|WS fun _ V=>rP 2 [] I ?_
    refine RK V<|aq<|Q1 hQ U U U ?_
    exact cI (if_neg (by rw [eg A hx (by simp only [bX,ek]; omega)]; decide)).symm
   refine rP 2 [] (mc 1 U I) ?_
   refine d_ (xs:=[.tmp 62]) (cs:=[(vI x.zZ)]) U dk jO U U U U (by simp [Value.cells]) U U fun j=>?_
   refine rS (CL (dL.eq (pj 0 5000 ([x.zZ]) (some ⟨j,0,none⟩) 1 (by (simp; done))) cw) (aC (bo 0 U U (by simp [bL]) U)<|aO) U) ?_
   refine rP 3 [] I ?_
   refine bK (t:=67) U (aX fun r=>?_) (aW fun r=>?_)
   ·refine bE 7 U<|RK C<|aT U<|WS fun _ W=>bE 1 U<|RK W<|bS<|ai<|fD U<|ai<|ai<|aL<|KK B<|WS fun _ X=>rP 2 [] I ?_
    refine RK X<|aq<|Q1 hQ U U U ?_
    exact cI (if_neg (by rw [eg A hx (by simp only [bX,ek]; omega)]; decide)).symm
   refine rP 3 [] I ?_
   refine bU (t:=70) U (aW fun s=>?_) (aX fun s=>?_)
   ·refine bE 4 U<|RK C<|ct U<|WK AB<|aw<|eV 3 [] (mc 2 U I) U<|aH<|aR<|KK F<|aw<|rP 2 [] I ?_
    refine aH ?_
    have f:(vI (gG ts (i+1)))=(vI x.Id):=by rw [gD hx]
    refine bq (E ⟨(i+1),⟨om,hE A hx (by simp only [bX,ek]; omega),by rw [gD hx]; omega,by rw [gD hx]; omega⟩⟩ _ _ _ U os (cY 4<|bw U f<|bu U) (aQ [3,4]))
   refine rP 4 [] I ?_
   refine RK C<|bW U (aW fun u=>?_) (aX fun u=>?_)
   ·refine WK AB<|aw<|eV 3 [] (mc 2 U I) U<|aH<|aR<|KK F<|aw<|rP 2 [] I ?_
    refine aH ?_
    have e:(vI (gG ts (i+1)))=(vI x.Id):=by rw [gD hx]
    refine bq (E ⟨(i+1),⟨om,hE A hx (by simp only [bX,ek]; omega),by rw [gD hx]; omega,by rw [gD hx]; omega⟩⟩ _ _ _ U os (cY 4<|bw U e<|bu U) (aQ [3,4]))
   refine WS fun _ Y=>bE 1 U<|RK Y<|bS<|ai<|fD U<|ai<|ai<|aL<|KK B<|WS fun _ Z=>rP 2 [] I ?_
   refine RK Z<|aq<|Q1 hQ U U U ?_
   exact cI (if_neg (by rw [eg A hx (by simp only [bX,ek]; omega)]; decide)).symm
  refine aw<|rP 2 [] (mc 0 U I) ?_
  refine rS (SX (mC (m:=x.je) U U M1 sO (mV (by first|assumption|omega))) U U)<|d_ (xs:=[.tmp 33]) (cs:=[(vI x.je)]) U dk jO U U U U (by simp [Value.cells]) U U fun g=>?_
  refine rS (CL (dL.eq (pj 1 2 ([x.je]) (some ⟨g,0,none⟩) 1 (by (simp; done))) cw) (aC (bo 0 U U (by simp [bL]) U)<|aO) U) ?_
  refine rP 1 [] I ?_
  refine bU (t:=36) U (aV fun n=>?_) (aU fun n=>?_)
  ·refine rP 5 [] I ?_
   refine aH ?_
   have d:(decide ((1≤x.je∧x.je≤2)∧x.eQ.Lo≤x.eQ.Hi∧500≤x.eQ.Lo∧x.eQ.Hi≤20000))=false:=bI om
   refine bq (g_ (cY 8<|lE U d<|dG.nil _) (aQ [1,2,3]) (H ()))
  refine bE 1 U<|rS (LP (ag.cells x.eQ) 1 U b_ U U U)<|rS (CL (wZ x.eQ 500 20000) (aO) U)<|rP 2 [] I ?_
  refine aH ?_
  have c:(decide ((1≤x.je∧x.je≤2)∧x.eQ.Lo≤x.eQ.Hi∧500≤x.eQ.Lo∧x.eQ.Hi≤20000))=(decide (x.eQ.Lo≤x.eQ.Hi∧500≤x.eQ.Lo∧x.eQ.Hi≤20000)):=gR.2 om
  refine bq (g_ (cY 8<|lE U c<|dG.nil _) (aQ [1,2,3]) (H ()))
 refine aw<|eV 2 [] (mc 0 U I) U<|rS (BI U lZ)<|rP 1 [] I ?_
 refine bU (t:=25) U (aV fun l=>?_) (aU fun l=>?_)
 ·refine rP 6 [] I ?_
  refine aH ?_
  have b:(decide (x.je=0∧x.eQ.Lo=0∧x.eQ.Hi=0))=false:=bI om
  refine bq (g_ (cY 7<|lE U b<|dG.nil _) (aQ [0,1,2]) (G ()))
 refine bE 1 U<|rS (LP (ag.cells x.eQ) 0 U b_ U U U)<|rS (SX (bf (xs:=[]) (cs:=(ag.cells (ag.mk 0 0))) U U (bg gO U)) U U)<|rS (BI U (xC _ _ x.eQ (ag.mk 0 0)))<|rP 2 [] I ?_
 refine aH ?_
 have a:(decide (x.je=0∧x.eQ.Lo=0∧x.eQ.Hi=0))=(decide (x.eQ=(ag.mk 0 0))):=gR.2 (by (simp only [ag.ext_iff] at *; omega))
 refine bq (g_ (cY 7<|lE U a<|dG.nil _) (aQ [0,1,2]) (G ()))
theorem Qg (ts:List ar) (tsA:OA) (tsC:Nat) (hlen:ts.length≤1000000):
 pS Tryz.prog 67 [(vA (bP.cells (bP.mk (bD.mk tsA ts.length tsC))))] [(rd tsA ts.length 9 (ts.map ar.cells))] (fun (x:(OA)×Nat)=>(vA (bP.cells (bP.mk (bD.mk x.1 ts.length x.2))))) (fun (x:(OA)×Nat)=>True) (fun (x:(OA)×Nat)=>[(own x.1 x.2 102 9 (ts.map ar.cells))]):=by
 refine fB kr Tryz.func67 U U fun H Q hQ hN=>?_
 try dsimp only
 refine WS fun _ A=>eO U fun F=>AL U U3 fun G=>RK A<|WS fun _ B=>qD U yO U fun E=>rP 2 [] (mc 2 U I) ?_
 refine fH (es:=(List.map ar.cells [])) (C':=[own (some ⟨E,0,none⟩) 0 102 9 (List.map ar.cells []),_,_,_]) 0 U sm U (by simp [maxLen]) U ?_
 refine dD (es2:=(List.map ar.cells ts)) (m':=ts.length) 0 U U U Vj U U sm (aB 3 U) (tw _) os (by (simp only [maxLen]; omega)) sm sm U fun C D=>?_
 try dsimp only
 refine rS (SX (bf (xs:=[(0,.tmp 6)]) (cs:=(bP.cells (bP.mk (bD.mk C ts.length D)))) U U (bg Th U)) U U)<|qT U Sm U<|RK B<|aq<|LX hQ (C,D) [0] [0] (mc 1 U I) U U U U ?_
 trivial
theorem Ec (la:List Int) (laA:OA) (laC:Nat) (lb:List Int) (lbA:OA) (lbC:Nat) (h1:la.length≤1000000) (h2:lb.length≤1000000):
 dL Tryz.prog 18 [(vS laA la.length laC),(vS lbA lb.length lbC)] [(rd laA la.length 1 (la.map iC)),(rd lbA lb.length 1 (lb.map iC))] (vB (decide (la=lb))):=by
 refine bH kr Tryz.func18 U U fun V Q hQ hN=>?_
 try dsimp only
 refine WS fun _ J=>bE 1 U<|RK J<|ao fun _ K=>WS fun _ L=>rP 5 [] I ?_
 refine RK L<|cy U (aX fun hl=>?_) (aW fun hl=>?_)
 ·refine WS fun _ M=>rP 1 [] I ?_
  refine RK M<|aq<|Q1 hQ U U U ?_
  exact cB (bI (fun e=>by subst e; omega)).symm
 refine WK K<|ao fun _ N=>WS fun _ O=>rP 1 [] I ?_
 refine RK O<|aI ?_
 have A:(0≤la.length)∧(la.take 0=lb.take 0):=by simp
 refine bZ (ι:={z:Nat // (z≤la.length)∧(la.take z=lb.take z)}) [0,1] [0,1] U U (fun z=>[(5,(vI (z.1:Int)))]) (fun z=>[]) (fun _=>rfl) (fun _=>rfl) (fun z=>la.length-z.1) ⟨0,A⟩ (bu U) (aQ [0,1]) ?_
 clear A
 rintro ⟨i,⟨S,B⟩⟩ J7 AB
 try dsimp only
 refine ao fun _ P=>WS fun _ R=>rP 4 [] I ?_
 refine RK R<|bW U (aV fun H=>?_) (aU fun H=>?_)
 ·refine bS<|ai<|ai<|aL<|KK N<|WS fun _ F=>rP 1 [] I ?_
  refine RK F<|aq<|Q1 hQ U U U ?_
  exact cB (dN (yC om B om)).symm
 refine WK P<|ao fun _ C=>aI<|ao fun _ D=>dj cj 9 kr<|dP 2 [] I ?_
 obtain ⟨x,hx⟩:=aJ la i om
 have T:=bM iC hx
 refine dS (IA i U (aB 0 U) dk dc om om)<|dS (gE i 0 (vI x) U b_ (aB 0 U) T U dc U)<|dP 2 [] I ?_
 obtain ⟨y,hy⟩:=aJ lb i om
 have AA:=bM iC hy
 refine dS (IA i U (aB 1 U) dk dc om om)<|dS (gE i 0 (vI y) U b_ (aB 1 U) AA U dc U)<|dP 1 [] I ?_
 refine cD<|RK D<|cy U (aX fun h=>?_) (aW fun h=>?_)
 ·refine WS fun _ E=>rP 1 [] I ?_
  refine RK E<|aq<|Q1 hQ U U U ?_
  exact cB (bI (xA hx hy h)).symm
 refine cu<|aR<|KK C<|aw<|rP 3 [] I ?_
 refine aH ?_
 have G:(vI (((i+1):Nat):Int))=(vI ((i:Int)+1)):=by exact cI om
 refine bq (AB ⟨(i+1),⟨om,vl B hx hy h⟩⟩ _ _ _ U os (dG.cons U<|dG.cons U<|bw U G<|dG.nil _) (aQ [0,1]))
end
section
open Go.RowKit
theorem NF (l:bp) (kA:OA) (kC:Nat) (az:List RA) (cA:OA) (cC:Nat) (bA:OA) (bC:Nat) (hin:dY l az) (hng: ¬ m8 l):
 pS Tryz.prog 47 [(vA (cr.cells (jC l kA kC cA cC bA bC)))] [(rd kA l.aS.length 9 (l.aS.map ar.cells)),(rd cA l.aj.length 2 (List.zipWith au.cells l.aj az)),(dT (br au.gd l.aj az)),(rd bA l.aa.length 4 (l.aa.map bJ.cells))] (fun (x:(OA)×Nat×(OA)×Nat×(List RA)×(OA)×Nat)=>(vA (cr.cells (cr.mk (bP.mk (bD.mk x.1 l.aS.length x.2.1)) l.hZ (bD.mk x.2.2.1 l.aj.length x.2.2.2.1) (bD.mk x.2.2.2.2.2.1 l.aa.length x.2.2.2.2.2.2) l.bO l.fO l.dq)))) (fun (x:(OA)×Nat×(OA)×Nat×(List RA)×(OA)×Nat)=>x.2.2.2.2.1.length=l.aj.length∧ui l.aj x.2.2.2.2.1) (fun (x:(OA)×Nat×(OA)×Nat×(List RA)×(OA)×Nat)=>[(own x.1 x.2.1 102 9 (l.aS.map ar.cells)),(own x.2.2.1 x.2.2.2.1 107 2 (List.zipWith au.cells l.aj x.2.2.2.2.1)),(bV (br au.owns l.aj x.2.2.2.2.1)),(own x.2.2.2.2.2.1 x.2.2.2.2.2.2 85 4 (l.aa.map bJ.cells))]):=by
 have v:=hin.qS
 have u:=hin.qW
 have G:=hin.nx
 have t:=hin.qU
 have Z:=Br hng
 refine fB VM Tryz.func47 U U fun w0 Q hQ hN=>?_
 try dsimp only
 refine WS fun _ p=>eO U fun b2=>AL U Td fun b3=>RK p<|WS fun _ q=>rP 1 [] I ?_
 refine rS (LP (bP.cells (bP.mk (bD.mk kA l.aS.length kC))) 1 U S8 U U U) ?_
 refine cX (Qg l.aS kA kC sd) (bk [2]) U fun y w=>?_
 obtain ⟨c,d⟩:=y
 try dsimp only
 refine bE 1 U<|Uo (cr.cells (cr.mk (bP.mk (bD.mk c l.aS.length d)) l.hZ (bD.mk cA l.aj.length cC) (bD.mk bA l.aa.length bC) l.bO l.fO l.dq)) U Sm U U<|RK q<|WS fun _ r=>qD U yV U fun e=>rP 2 [] (mc 3 U I) ?_
 refine fH (es:=(List.map dx.cells [])) (C':=[own (some ⟨e,0,none⟩) 0 107 2 (List.map dx.cells []),_,_,_,_,_,_,_]) 0 U sm U (by simp [maxLen]) U ?_
 refine dD (es2:=(List.zipWith au.cells l.aj az)) (m':=l.aj.length) 0 U U U UH U U sm (aB 5 U) (Ee _ _) os (by first|(simp only [maxLen]; omega)|(simp [maxLen]; omega)) sm (jm G) U fun B D=>?_
 try dsimp only
 refine bE 1 U<|Qz (cr.cells (cr.mk (bP.mk (bD.mk c l.aS.length d)) l.hZ (bD.mk B l.aj.length D) (bD.mk bA l.aa.length bC) l.bO l.fO l.dq)) U VU U U<|RK r<|ao fun _ N=>WS fun _ O=>rP 1 [] I ?_
 refine RK O<|aI<|n9 ?_
 have H:(0≤l.aj.length)∧(([]:List RA).length=0)∧(ui l.aj ([]:List RA)):=by exact ⟨Nat.zero_le _,rfl,fun k m a _ h=>by simp at h⟩
 refine bZ (ι:={z:Nat×(List RA) // (z.1≤l.aj.length)∧(z.2.length=z.1)∧(ui l.aj z.2)}) [1,2] [2,3,4,5,6,7,8] U U (fun z=>[(3,(vI (z.1.1:Int)))]) (fun z=>[(bV (br au.owns (l.aj.take z.1.1) z.1.2)),(own B D 107 2 (List.zipWith au.cells l.aj (sT z.1.2 az z.1.1)))]) (fun _=>rfl) (fun _=>rfl) (fun z=>l.aj.length-z.1.1) ⟨(0,([]:List RA)),H⟩ (bu U) (aQ [2,3,4,5,6,7,8,0,1]) ?_
 clear H
 rintro ⟨⟨i,bz⟩,⟨AB,A,F⟩⟩ J15 M
 try dsimp only at AB A F
 try dsimp only
 refine ao fun _ P=>WS fun _ R=>rP 5 [] (mc 2 U I) ?_
 refine RK R<|bW U (aV fun j=>?_) (aU fun j=>?_)
 ·refine bS<|ai<|ai<|aL<|KK N<|WS fun _ T=>qD U uR U fun g=>?_
  rw [show sT bz az i=bz from JM om]
  rw [show l.aj.take i=l.aj from List.take_of_length_le om]
  refine rP 2 [] (mc 3 U I) ?_
  refine fH (es:=(List.map bJ.cells [])) (C':=[own (some ⟨g,0,none⟩) 0 85 4 (List.map bJ.cells []),_,_,_,_,_,_,_,_,_]) 0 U sm U (by simp [maxLen]) U ?_
  refine dD (es2:=(List.map bJ.cells l.aa)) (m':=l.aa.length) 0 U U U Vz U U sm (aB 7 U) (wI _) os (by first|(simp only [maxLen]; omega)|(simp [maxLen]; omega)) sm sm U fun K L=>?_
  try dsimp only
  refine bE 1 U<|Qz (cr.cells (cr.mk (bP.mk (bD.mk c l.aS.length d)) l.hZ (bD.mk B l.aj.length D) (bD.mk K l.aa.length L) l.bO l.fO l.dq)) U Vq U U<|RK T<|WS fun _ AA=>rP 1 [] (mc 3 U I) ?_
  refine DV U P4 U<|RK AA<|aq ?_
  refine LX hQ (c,d,B,D,bz,K,L) [1,9,8,0] [0] (mc 2 U I) U (by simp only [g5,List.all_nil,nA,Bool.and_true]; rfl) U U ?_
  exact ⟨dso,F⟩
 refine WK P<|ao fun _ S=>aI<|dy cj [3,10,13] [6,7,8,9,10] [0,1] [0,1,2,3,4,5,6,7] [0,1,2,3,4,5,6,7,8] U U U U U<|eS U (FA 2 U IE U)<|eS U (L1 (vS B l.aj.length D) 2 U Ra U U)<|eS U (MV U)<|eS U (FA 2 U IE U)<|eS U (L1 (vS B l.aj.length D) 2 U Ra U U)<|eS U (MV U) ?_
 obtain ⟨x,hx⟩:=aJ l.aj i om
 obtain ⟨xa,J⟩:=aJ az i om
 have b:(List.zipWith au.cells l.aj (sT bz az i))[i]? =some (au.cells x xa):=dF hx (F8 A J)
 refine fS U (IA i U (av (n:=l.aj.length) 8 U (jm (by rw [qY A om]; exact G))) yV dc om om) ?_
 refine fS U (o6 ((i*2)+1) U (av (n:=l.aj.length) 8 U (jm (by rw [qY A om]; exact G))) (Nat.mul_pos om dc) E3 U) ?_
 refine fS U (gE i 1 (vS xa.1 x.bG.length xa.2) U OQ (av (n:=l.aj.length) 8 U (jm (by rw [qY A om]; exact G))) b U dc U) ?_
 refine fS U (IA i U (av (n:=l.aj.length) 8 U (jm (by rw [qY A om]; exact G))) yV dc om om) ?_
 refine fS U (o6 ((i*2)+1) U (av (n:=l.aj.length) 8 U (jm (by rw [qY A om]; exact G))) (Nat.mul_pos om dc) E3 U) ?_
 refine eh U<|ja U fun T20 V=>qD U rY U fun f=>aH (V _ _ (aQ [1,2,3,4,5,6,7,8]) (aQ [1,2,3,4,5,6,7,8,9]) ?_)
 refine ja U fun T22 W=>fH (es:=(List.map cM.cells [])) (C':=[own (some ⟨f,0,none⟩) 0 104 3 (List.map cM.cells []),_,_,_,_,_,_,_,_,_]) 0 U sm U (by simp [maxLen]) U ?_
 refine dD (es2:=(List.map cM.cells x.bG)) (m':=x.bG.length) 0 U U U SL U U sm (show iJ _ (rd xa.1 x.bG.length 3 (x.bG.map cM.cells)).holds from (cU 6 U (bQ hx J (by simp [au.gd])))) (wO _) (by have:=Z.2.2.2 x (aP hx); simp; omega) (by have:=Z.2.2.2 x (aP hx); simp only [maxLen]; simp; omega) sm sm U fun C E=>?_
 try dsimp only
 refine Ty 0 U fun s=>aH (W _ _ (aQ [1,2,3,4,5,6,7,8]) (aQ [1,2,3,4,5,6,7,8,9]) ?_)
 refine cf U fun T25 X=>f_ (k:=i) (o:=1) (vs:=[(vS C x.bG.length E)]) (es':=(List.zipWith au.cells l.aj (sT (bz++[(C,E)]) az (i+1)))) (C':=[_,_,_,_,_,_,_,_,_,(own B D 107 2 (List.zipWith au.cells l.aj (sT (bz++[(C,E)]) az (i+1))))]) 9 U U U Ti U U U U b U dc (by exact Om (nw:=(C,E)) hx A J) U<|aH (X _ _ (aQ [1,2,3,4,5,6,7,8]) ?_)
 refine e8 U<|aR<|KK S<|aw<|rP 3 [] I ?_
 refine aH<|xM (X':=br au.owns (l.aj.take (i+1)) (bz++[(C,E)])) 8 0 U U (G0 (nw:=(C,E)) hx A) ?_
 have Y:(vI (((i+1):Nat):Int))=(vI ((i:Int)+1)):=by exact cI om
 refine bq (M ⟨((i+1),(bz++[(C,E)])),⟨om,by simp; omega,Jq F A hx (by simpa using s)⟩⟩ _ _ _ U os (dG.cons U<|dG.cons U<|bw U Y<|dG.nil _) (aQ [1,2,3,4,5,6,7,0,8]))
end
section
open Go.RowKit
structure LG (S:BS) (w0:World) (X:ay) (C0:List ay) (w:World) (S':BS):Prop where
 st:St S w0 (X::C0) w
 w_: ∀ b,S'.w b↔ ∃ A∈C0,A.wf b
theorem Ei {A B:ay} (h:Dk A B):Dk A.ro B:=fun b C D=>⟨fun h=>h,(h b C D).2⟩
theorem BB {E:fp} {c:Code} {Q:dv} {D:g8} {L:dA} {C C0:List ay} {X:ay} (i:Nat) (hn:decide (i::(List.range C.length).filter fun k=>k != i).Nodup=true) (hC:j0 C (i::(List.range C.length).filter fun k=>k != i)=X::C0)
 (h: ∀ w S',LG E.S E.w0 X C0 w S'→WJ ⟨E.P,E.r,E.n,S',w⟩ c Q D L (X.ro::C0)):WJ E c Q D L C:=fun a w hf hs=>by
 have F:=St.j0 _ hn hC hs
 obtain ⟨G,H⟩:=List.pairwise_cons.1 F.sep
 refine h w ⟨fun b=> ∃ A∈C0,A.wf b,fun _=>True⟩ ⟨F,fun b=>Iff.rfl⟩ a w hf ⟨dZ.refl _ _,fun A hA=>?_,List.Pairwise.cons (fun B hB=>Ei (G B hB)) H,fun A hA b hb=>?_,fun A hA b hb=> .inr trivial⟩
 ·rcases bR.1 hA with rfl|hA
  ·exact F.holds X (cx ..)
  ·exact F.holds A (di _ hA)
 ·rcases bR.1 hA with rfl|hA
  ·exact hb.elim
  ·exact .inr ⟨A,hA,hb⟩
theorem Ag {E:fp} {S':BS} {w:World} {K:Act→World→Prop} {D:g8} {L:dA} {C0 C1 C2:List ay} {X:ay} (hz:LG E.S E.w0 X C0 w S') (is:List Nat) (hn:decide is.Nodup=true) (hC:j0 C2 is=C1) (hwr:C1.all (·.wr)=true)
 (h:KJ E K D L (X::C1)):KJ ⟨E.P,E.r,E.n,S',w⟩ K D L C2:=fun a w' hf hs=>by
 have F:=St.j0 is hn hC hs
 have C:=hz.st
 obtain ⟨J,M⟩:=List.pairwise_cons.1 C.sep
 have AA: ∀ b,X.fI b→ ¬ S'.w b:=fun b hb hw=>by
  obtain ⟨A,hA,hw⟩:=(hz.w_ b).1 hw
  exact (J A hA b hb (A.kR b hw)).2 hw
 have G: ∀ b,S'.w b→E.w0.heap.size≤b∨E.S.w b:=fun b hb=>by
  obtain ⟨A,hA,hw⟩:=(hz.w_ b).1 hb
  exact C.own A (di _ hA) b hw
 have H: ∀ A∈C1,∀ b,A.fI b→w.heap.size≤b∨S'.w b:=fun A hA b hb=>F.own A hA b (A.whole (cN.1 hwr A hA) b hb)
 refine h a w' hf ⟨?_,fun A hA=>?_,List.Pairwise.cons (fun B hB b hb hb'=>?_) F.sep,fun A hA b hb=>?_,fun A hA b hb=>?_⟩
 ·refine ⟨F.keeps.os.trans C.keeps.os,F.keeps.tape.trans C.keeps.tape,F.keeps.output.trans C.keeps.output,Nat.le_trans C.keeps.size F.keeps.size,fun k hk hn'=>?_⟩
  refine (F.keeps.block k (Nat.lt_of_lt_of_le hk C.keeps.size) fun hw=>?_).trans (C.keeps.block k hk hn')
  rcases G k hw with q|q
  ·omega
  ·exact hn' q
 ·rcases bR.1 hA with rfl|hA
  ·have hh:=C.holds A (cx ..)
   exact A.pw w w' (fun b hb=>F.keeps.block b (A.lt w hh b hb) (AA b hb)) hh
  ·exact F.holds A hA
 ·exfalso
  have hl:=X.lt w (C.holds X (cx ..)) b hb
  rcases H B hB b hb' with q|q
  ·omega
  ·exact AA b hb q
 ·rcases bR.1 hA with rfl|hA
  ·exact C.own A (cx ..) b hb
  ·rcases F.own A hA b hb with q|q
   ·exact .inl (Nat.le_trans C.keeps.size q)
   ·exact G b q
 ·rcases bR.1 hA with rfl|hA
  ·exact C.seen A (cx ..) b hb
  ·rcases H A hA b hb with q|q
   ·exact .inl (Nat.le_trans C.keeps.size q)
   ·obtain ⟨B,hB,hw⟩:=(hz.w_ b).1 q
    exact C.seen B (di _ hB) b (B.kR b hw)
/-- put back, as it was -/
theorem Ho {M A:Type} {f:M→A→List ay} {S:BS} {w0 w:World} {C:List ay} {ms:List M} {asl:List A} {k:Nat} {m:M} {a:A} {X:ay} (hm:ms[k]? =some m) (ha:asl[k]? =some a) (hf:f m a=[X]) (h:St S w0 (X::bV (iS f ms asl k)::C) w):St S w0 (bV (br f ms asl)::C) w:=by
 have B:St S w0 (bV (iS f ms asl k)::X::C) w:=h.perm (List.Perm.swap _ _ _)
 have D:St S w0 ((f m a++iS f ms asl k)++C) w:=by
  rw [hf]
  exact B.iO.perm (List.perm_middle (a:=X) (l₁:=iS f ms asl k) (l₂:=C))
 exact vX (sx hm ha).symm D.tied
theorem JN {E:fp} {K:Act→World→Prop} {D:g8} {L:dA} {C C1:List ay} {M A:Type} {f:M→A→List ay} {ms:List M} {asl:List A} {k:Nat} {m:M} {a:A} {X:ay} (i j:Nat) (hm:ms[k]? =some m) (ha:asl[k]? =some a) (hf:f m a=[X])
 (hn:decide (j::i::(List.range C.length).filter fun k=>k != i&&k != j).Nodup=true) (hC:j0 C (j::i::(List.range C.length).filter fun k=>k != i&&k != j)=X::bV (iS f ms asl k)::C1)
 (h:KJ E K D L (bV (br f ms asl)::C1)):KJ E K D L C:=fun a w hf' hs=>h a w hf' (Ho hm ha hf (St.j0 _ hn hC hs))
theorem zK {M A:Type} {f:M→A→List ay} {ms:List M} {asl:List A} {m:M} {a:A} {X:ay} (hl:ms.length=asl.length) (hf:f m a=[X]):br f ms asl++[X]=br f (ms++[m]) (asl++[a]):=by
 rw [jx hl,← hf]; simp [br]
theorem zz {E:fp} {K:Act→World→Prop} {D:g8} {L:dA} {C C1:List ay} {M A:Type} {f:M→A→List ay} {ms:List M} {asl:List A} {m:M} {a:A} {X:ay} (i j:Nat) (hf:f m a=[X])
 (hn:decide (j::i::(List.range C.length).filter fun k=>k != i&&k != j).Nodup=true) (hC:j0 C (j::i::(List.range C.length).filter fun k=>k != i&&k != j)=X::bV (br f ms asl)::C1)
 (h:KJ E K D L (bV (br f (m::ms) (a::asl))::C1)):KJ E K D L C:=fun b w hf' hs=>by
 have B:=St.j0 _ hn hC hs
 have F:St E.S E.w0 (bV (br f ms asl)::X::C1) w:=B.perm (List.Perm.swap _ _ _)
 have G:St E.S E.w0 (br f (m::ms) (a::asl)++C1) w:=by
  show St E.S E.w0 ((f m a++br f ms asl)++C1) w
  rw [hf]
  exact F.iO.perm (List.perm_middle (a:=X) (l₁:=br f ms asl) (l₂:=C1))
 exact h b w hf' G.tied
end
section
open Go.RowKit
abbrev ml (r:Nat):ay:=jg r (.deferred (some []))
theorem N9 (rs:List Nat):(bV (rs.map ml)).wr=true:=by
 show (rs.map ml).all (·.wr)=true
 rw [cN]
 intro X hX
 obtain ⟨r,_,rfl⟩:=cR.1 hX
 rfl
theorem wS {E:fp} {c:Code} {Q:dv} {D:g8} {L:dA} {C:List ay} {ι:Type} (Di:ι→g8) (Li:ι→dA) (Ci:ι→List ay) (μ:ι→Nat) (x0:ι)
 (hD:D=Di x0) (h0:dG L (Li x0)) (hC: ∀ w,St E.S E.w0 C w→St E.S E.w0 (Ci x0) w)
 (round: ∀ x (J:Act→World→Prop),(∀ y D' L' C',D'=Di y→μ y<μ x→dG L' (Li y)→(∀ w,St E.S E.w0 C' w→St E.S E.w0 (Ci y) w)→KJ E J D' L' C')→WJ E c (Exit.then J Q) (Di x) (Li x) (Ci x)):WJ E (.loop c) Q D L C:=by
 intro a w hf hs
 subst hD
 have H: ∃ x,Fr E.n (Di x) (Li x) a∧St E.S E.w0 (Ci x) w:=⟨x0,hf.sub h0,hC w hs⟩
 clear hf hs
 have key: ∀ (m:Nat) (a:Act) (w:World),(∃ x,μ x=m∧Fr E.n (Di x) (Li x) a∧St E.S E.w0 (Ci x) w)→(Code.loop c).wpIn (Fw E.r) 0 E.P Q a w:=by
  intro m a w hx
  refine wpIn_loop (fun a w=> ∃ x,Fr E.n (Di x) (Li x) a∧St E.S E.w0 (Ci x) w) (fun a w=>leastOf fun k=> ∃ x,μ x=k∧Fr E.n (Di x) (Li x) a∧St E.S E.w0 (Ci x) w) (by obtain ⟨x,_,h⟩:=hx; exact ⟨x,h⟩) ?_
  intro a w hx
  have F: ∃ k,∃ x,μ x=k∧Fr E.n (Di x) (Li x) a∧St E.S E.w0 (Ci x) w:=by obtain ⟨x,h⟩:=hx; exact ⟨_,x,rfl,h⟩
  obtain ⟨x,K,AA,M⟩:=(leastOf_spec F).1
  refine round x _ ?_ a w AA M
  intro y D' L' C' hD G A B a' w' hf' hs'
  subst hD
  refine ⟨⟨y,hf'.sub A,B _ hs'⟩,?_⟩
  rw [← K]
  exact Nat.lt_of_le_of_lt ((leastOf_spec ⟨_,y,U,hf'.sub A,B _ hs'⟩).2 _ ⟨y,U,hf'.sub A,B _ hs'⟩) G
 obtain ⟨x,h⟩:=H
 exact key _ a w ⟨x,U,h⟩
theorem St.VW {S:BS} {w0 w:World} {C X:List ay} {A:ay} (h:St S w0 (A::bV X::C) w):St S w0 (bV (A::X)::C) w:=by
 have B:St S w0 (bV X::A::C) w:=h.perm (List.Perm.swap _ _ _)
 have D:St S w0 ((A::X)++C) w:=B.iO.perm (List.perm_middle (a:=A) (l₁:=X) (l₂:=C))
 exact D.tied
theorem Lu {E:fp} {K:Act→World→Prop} {D:g8} {L:dA} {C C1 X:List ay} {A:ay} (i j:Nat) (hn:decide (j::i::(List.range C.length).filter fun k=>k != i&&k != j).Nodup=true) (hC:j0 C (j::i::(List.range C.length).filter fun k=>k != i&&k != j)=A::bV X::C1)
 (h:KJ E K D L (bV (A::X)::C1)):KJ E K D L C:=fun a w hf hs=>h a w hf ((St.j0 _ hn hC hs).VW)
theorem ES {E:fp} {K:Act→World→Prop} {D:g8} {L:dA} {C:List ay} (h:KJ E K D L (bV []::C)):KJ E K D L C:=fun a w hf hs=>h a w hf hs.Pv
theorem Q4 {E:fp} {K:Act→World→Prop} {D:g8} {L:dA} (C1 C2:List ay) (h:KJ E K D L (bV C1::C2)):KJ E K D L (C1++C2):=fun a w hf hs=>h a w hf (St.tied hs)
theorem Oc {E:fp} {fn:Func} {R:Ending→World→Prop} {D:g8} {L:dA} {C C1:List ay} {rs:List Nat} (i:Nat) (hn:decide (i::(List.range C.length).filter fun k=>k != i).Nodup=true) (hC:j0 C (i::(List.range C.length).filter fun k=>k != i)=bV (rs.map ml)::C1)
 (h:LJ E fn R D L C1):LJ E fn R (rs.map jR++D) L C:=by
 have key: ∀ rs:List Nat,LJ E fn R (rs.map jR++D) L (bV (rs.map ml)::C1):=by
  intro rs
  induction rs with
  |nil=>exact fun a w hf hs=>h a w hf (hs.take (List.sublist_cons_self _ _))
  |cons r rs ih=>
   have A:LJ E fn R (jR r::(rs.map jR++D)) L (ml r::bV (rs.map ml)::C1):=rn 0 rfl rfl (fun a w hf hs=>ih a w hf (hs.take (List.sublist_cons_self _ _)))
   intro a w hf hs
   refine A a w hf ?_
   have B:St E.S E.w0 ((ml r::rs.map ml)++C1) w:=St.iO (C1:=ml r::rs.map ml) hs
   have F:St E.S E.w0 (rs.map ml++(ml r::C1)) w:=B.perm (List.perm_middle (a:=ml r) (l₁:=rs.map ml) (l₂:=C1)).symm
   exact F.tied.perm (List.Perm.swap _ _ _)
 exact fun a w hf hs=>key rs a w hf (St.j0 _ hn hC hs)
theorem I4 {E:fp} {fn:Func} {R:Ending→World→Prop} {L:dA} {C C1:List ay} {rs:List Nat} (i:Nat) (hn:decide (i::(List.range C.length).filter fun k=>k != i).Nodup=true) (hC:j0 C (i::(List.range C.length).filter fun k=>k != i)=bV (rs.map ml)::C1)
 (h:LJ E fn R [] L C1):LJ E fn R (rs.map jR) L C:=by
 have:=Oc (D:=[]) i hn hC h
 rwa [List.append_nil] at this
end
section
open Go.RowKit
theorem E7 (fs:List FM) (fb:List Nat):(bV (br nk fs fb)).wr=true:=by
 show (br nk fs fb).all (·.wr)=true
 rw [cN]
 intro X hX
 obtain ⟨k,m,a,_,_,h⟩:=kf hX
 simp only [nk,cv] at h
 subst h; rfl
theorem O_ (fs:List TM) (fb:List Nat):(bV (br p7 fs fb)).wr=true:=by
 show (br p7 fs fb).all (·.wr)=true
 rw [cN]
 intro X hX
 obtain ⟨k,m,a,_,_,h⟩:=kf hX
 simp only [p7,cv] at h
 subst h; rfl
end
section
def dK (bl:List Nat) (n:Nat):List (Option Nat):=bl.map some++List.replicate (n-bl.length) none
def ia (bl:List Nat) (n:Nat):List (Option Nat):=List.replicate (n-bl.length) none++bl.map some
theorem nK {bl:List Nat} {n:Nat} (h:bl.length≤n):(dK bl n).length=n:=by simp [dK]; omega
theorem zb {bl:List Nat} {n:Nat} (h:bl.length≤n):(ia bl n).length=n:=by simp [ia]; omega
theorem vH {n:Nat}:List.replicate n none=dK [] n:=by simp [dK]
theorem GY {n:Nat}:List.replicate n none=ia [] n:=by simp [ia]
theorem zF {bl:List Nat} {n:Nat} (h:bl.length=n):dK bl n=bl.map some:=by simp [dK,h]
theorem H0 {bl:List Nat} {n:Nat} (h:bl.length=n):ia bl n=bl.map some:=by simp [ia,h]
theorem mJ {bl:List Nat} {n k g:Nat} (h:bl[k]? =some g):(dK bl n)[k]? =some (some g):=by
 have hk:=(aZ.1 h).1
 unfold dK
 rw [List.getElem?_append_left (by simpa using hk),gf,h]; rfl
theorem uM {bl:List Nat} {n k i g:Nat} (h:bl[i]? =some g) (hk:k=n-bl.length+i):(ia bl n)[k]? =some (some g):=by
 subst hk
 unfold ia
 rw [List.getElem?_append_right sm,gf,List.length_replicate,Nat.add_sub_cancel_left,h]; rfl
theorem sL {bl:List Nat} {n k g:Nat} (hk:k=bl.length) (h:bl.length<n):(dK bl n).set k (some g)=dK (bl++[g]) n:=by
 subst hk
 unfold dK
 rw [List.set_append_right _ _ sm]
 have e:n-bl.length=(n-(bl++[g]).length)+1:=by simp; omega
 rw [e,List.replicate_succ]
 simp
theorem Gx {bl:List Nat} {n k g:Nat} (hk:k+1+bl.length=n):(ia bl n).set k (some g)=ia (g::bl) n:=by
 unfold ia
 have e:n-bl.length=k+1:=by omega
 have A:n-(g::bl).length=k:=by simp; omega
 rw [e,A,List.set_append_left _ _ sm,List.replicate_succ',List.set_append_right _ _ sm]
 simp
theorem qH {l:List (Option Nat)} {k g:Nat} (h:l[k]? =some (some g)):(l.map oC)[k]? =some (oC (some g)):=by rw [gf,h]; rfl
theorem z8 {α:Type} {l:List α} {x:α} {k:Nat} (h:k=l.length):(l++[x])[k]? =some x:=by subst h; simp
theorem Iz {α:Type} {l:List α} {x y:α} {k:Nat} (h:l[k]? =some y):(l++[x])[k]? =some y:=by rw [List.getElem?_append_left (aZ.1 h).1]; exact h
structure qE (w:cg) (fs:List FM):Prop where
 all: ∀ (b:Nat) m,fs[b]? =some m→uB m (pO w b)∧(m.map (·.1)).Nodup
structure ij (w:cg) (k:Nat) (bs:List FM):Prop where
 all: ∀ (i:Nat) m,bs[i]? =some m→wa m (back w (k+i))∧(m.map (·.1)).Nodup
variable {w:cg} {b:Nat} {mb m left:List (aN×Int)} {o:Int×ag} {os:List (Int×ag)} {p:aN×Int}
theorem qE.first:qE w [[(⟨0,0⟩,w.Start)]]:=⟨fun b m h=>by
 match b with
 |0=>simp at h; subst h; exact ⟨HP,sm⟩
 |n+1=>simp at h⟩
theorem qE.add {fs:List FM} (h:qE w fs) (hl:fs.length=b+1) (hmb:fs[b]? =some mb) (hm:yF w b m) (hd:j8 w b mb m left) (h0:left=[]):qE w (fs++[m]):=⟨fun i x hx=>by
 rcases Nat.lt_or_ge i fs.length with q|q
 ·rw [List.getElem?_append_left q] at hx; exact h.all i x hx
 ·rw [List.getElem?_append_right q] at hx
  have hi:i-fs.length=0:=by
   rcases Nat.eq_zero_or_pos (i-fs.length) with z|z
   ·exact z
   ·rw [List.getElem?_eq_none (by simp; omega)] at hx; cases hx
  rw [hi] at hx
  simp at hx; subst hx
  obtain rfl:i=b+1:=by omega
  have A:=h.all b mb hmb
  exact ⟨IP A.2 A.1 hm.snd (hd.fin h0),hm.keys⟩⟩
theorem qE.ok {fs:List FM} (h:qE w fs) (hl:fs.length=w.n+1):wg w fs:=⟨hl,fun b m hm=>(h.all b m hm).1,fun b m hm=>(h.all b m hm).2⟩
theorem ij.none_:ij w b []:=⟨fun i m h=>by simp at h⟩
theorem ij.last (hb:w.n≤b):ij w b [[(⟨0,0⟩,w.gh)]]:=⟨fun i m h=>by
 match i with
 |0=>simp at h; subst h; exact ⟨KT om,sm⟩
 |n+1=>simp at h⟩
theorem ij.add {bs:List FM} (h:ij w (b+1) bs) (hb:b<w.n) (hmb:bs[0]? =some mb) (hm:wN w b m) (hd:jQ w b mb m left) (h0:left=[]):ij w b (m::bs):=⟨fun i x hx=>by
 match i with
 |0=>
  simp at hx; subst hx
  have A:=h.all 0 mb hmb
  exact ⟨KH hb A.2 A.1 hm.snd hm.zero (hd.fin h0),hm.keys⟩
 |n+1=>
  have:=h.all n x (by simpa using hx)
  rw [show b+1+n=b+(n+1) by omega] at this
  exact this⟩
theorem ij.ok {bs:List FM} (h:ij w 0 bs) (hl:bs.length=w.n+1):tH w bs:=⟨hl,fun b m hm=>by have:=(h.all b m hm).1; rwa [Nat.zero_add] at this,fun b m hm=>(h.all b m hm).2⟩
/-- on the way through one entry's options -/
structure nS (w:cg) (b:Nat) (mb left m:List (aN×Int)) (p:aN×Int) (os:List (Int×ag)):Prop where
 on:yF w b m
 ob:j8 w b mb m left
 done:jt w b m p os
structure n8 (w:cg) (b:Nat) (mb left m:List (aN×Int)) (p:aN×Int) (os:List (Int×ag)):Prop where
 on:wN w b m
 ob:jQ w b mb m left
 done:ju w b m p os
theorem nS.start (h:yF w b m) (h2:j8 w b mb m left):nS w b mb left m p []:=⟨h,h2,fun o ho=>by cases ho⟩
theorem n8.start (h:wN w b m) (h2:jQ w b mb m left):n8 w b mb left m p []:=⟨h,h2,fun o ho=>by cases ho⟩
theorem GB {q:aN×Int} (h:(m.lookup q.1).isSome=false∨q.2<(m.lookup q.1).getD 0):pQ m q=ew m q.1 q.2:=by
 unfold pQ
 cases e:m.lookup q.1 with
 |none=>rfl
 |some v=>rw [e] at h; simp at h; simp only; rw [if_pos h]
theorem D5 {q:aN×Int} (h:(m.lookup q.1).isSome=true) (h2: ¬ q.2<(m.lookup q.1).getD 0):pQ m q=m:=by
 unfold pQ
 cases e:m.lookup q.1 with
 |none=>rw [e] at h; cases h
 |some v=>rw [e] at h2; simp only [Option.getD_some] at h2; simp only; rw [if_neg h2]
theorem Hv {q:aN×Int} (h:(m.lookup q.1).isSome=false∨(m.lookup q.1).getD 0<q.2):pz m q=ew m q.1 q.2:=by
 unfold pz
 cases e:m.lookup q.1 with
 |none=>rfl
 |some v=>rw [e] at h; simp at h; simp only; rw [if_pos h]
theorem Eo {q:aN×Int} (h:(m.lookup q.1).isSome=true) (h2: ¬ (m.lookup q.1).getD 0<q.2):pz m q=m:=by
 unfold pz
 cases e:m.lookup q.1 with
 |none=>rw [e] at h; cases h
 |some v=>rw [e] at h2; simp only [Option.getD_some] at h2; simp only; rw [if_neg h2]
theorem As {t:aN} {v y:Int} (hy:w.qJ[b]? =some y) (h:max (v+y) o.2.Lo≤min o.2.Hi w.gh):m_ w b (t,v) o=some (dM t (fV o.1),max (v+y) o.2.Lo):=by
 have e:=og hy
 subst e
 exact IW h
theorem LR {t:aN} {v y:Int} (hy:w.qJ[b]? =some y) (h: ¬ max (v+y) o.2.Lo≤min o.2.Hi w.gh):m_ w b (t,v) o=none:=by
 have e:=og hy
 subst e
 exact NA h
theorem Ar {t:aN} {v y:Int} (hy:w.qJ[b]? =some y) (h:o.2.Lo≤min v o.2.Hi):pC w b (t,v) o=some (dM t (fV o.1),min v o.2.Hi-y):=by
 have e:=og hy
 subst e
 exact Jc h
theorem nS.set {q:aN×Int} (h:nS w b mb left m p os) (hp:p∈pO w b) (ho:o∈jK w b) (he:m_ w b p o=some q) (hs:(m.lookup q.1).isSome=false∨q.2<(m.lookup q.1).getD 0):nS w b mb left (ew m q.1 q.2) p (os++[o]):=by
 rw [← GB hs]
 exact ⟨h.on.add hp ho he,h.ob.lower wF,h.done.Ik he⟩
theorem nS.pw {q:aN×Int} (h:nS w b mb left m p os) (he:m_ w b p o=some q) (hs:(m.lookup q.1).isSome=true) (h2: ¬ q.2<(m.lookup q.1).getD 0):nS w b mb left m p (os++[o]):=by
 have:=h.done.Ik he
 rw [D5 hs h2] at this
 exact ⟨h.on,h.ob,this⟩
theorem nS.skip (h:nS w b mb left m p os) (he:m_ w b p o=none):nS w b mb left m p (os++[o]):=⟨h.on,h.ob,h.done.none_ he⟩
theorem n8.set {q:aN×Int} (hb:b<w.n) (h:n8 w b mb left m p os) (hp:p∈back w (b+1)) (ho:o∈jK w b) (he:pC w b p o=some q) (hs:(m.lookup q.1).isSome=false∨(m.lookup q.1).getD 0<q.2):n8 w b mb left (ew m q.1 q.2) p (os++[o]):=by
 rw [← Hv hs]
 exact ⟨h.on.add hb hp ho he,h.ob.upper rq,h.done.Ik he⟩
theorem n8.pw {q:aN×Int} (h:n8 w b mb left m p os) (he:pC w b p o=some q) (hs:(m.lookup q.1).isSome=true) (h2: ¬ (m.lookup q.1).getD 0<q.2):n8 w b mb left m p (os++[o]):=by
 have:=h.done.Ik he
 rw [Eo hs h2] at this
 exact ⟨h.on,h.ob,this⟩
theorem n8.skip (h:n8 w b mb left m p os) (he:pC w b p o=none):n8 w b mb left m p (os++[o]):=⟨h.on,h.ob,h.done.none_ he⟩
theorem nS.next {t:aN} {v:Int} (hn:(left.map (·.1)).Nodup) (hm:(t,v)∈left) (h:nS w b mb left m (t,v) os) (ho: ∀ o∈jK w b,o∈os):j8 w b mb m (fy left t):=h.ob.next hn hm h.done ho
theorem n8.next {t:aN} {v:Int} (hn:(left.map (·.1)).Nodup) (hm:(t,v)∈left) (h:n8 w b mb left m (t,v) os) (ho: ∀ o∈jK w b,o∈os):jQ w b mb m (fy left t):=h.ob.next hn hm h.done ho
theorem qE.mem {fs:List FM} (h:qE w fs) (hm:fs[b]? =some mb) (hp:p∈mb):p∈pO w b:=(h.all b mb hm).1.1 _ _ ((fT (h.all b mb hm).2).1 hp)
theorem ij.Vb {bs:List FM} {k:Nat} (h:ij w k bs) (hk:k=b+1) (hm:bs[0]? =some mb) (hp:p∈mb):p∈back w (b+1):=by
 subst hk
 exact (h.all 0 mb hm).1.1 _ _ ((fT (h.all 0 mb hm).2).1 hp)
theorem ij.end_ {bs:List FM} {k j:Nat} (h:ij w k bs) (hj:bs.length=0) (hk:j=b) (hb:w.n≤b):ij w j ([(⟨0,0⟩,w.gh)]::bs):=by
 subst hk
 rw [ko hj]
 exact ij.last hb
theorem ij.more {bs:List FM} {k j:Nat} (h:ij w k bs) (hk:k=b+1) (hj:j=b) (hb:b<w.n) (hmb:bs[0]? =some mb) (hm:wN w b m) (hd:jQ w b mb m left) (h0:left=[]):ij w j (m::bs):=by
 subst hk hj
 exact h.add hb hmb hm hd h0
end
section
open Go.RowKit
theorem jv {a:OA} {c e sz n:Nat} {es:List (List Value)} (h:es.length=n):KN (own a c e sz es) (rd a n sz es):=by subst h; exact N2
theorem rM {L:List ay}:KN (bV L) (dT L):=⟨fun w h=>h.1,fun b h=>h⟩
theorem FG {b:Nat} {fb:List Nat} {g:Nat} (h:fb.length=b):br p7 (List.replicate b ([]:TM)) fb++[kh iV g (cT jY [])]=br p7 (List.replicate (b+1) ([]:TM)) (fb++[g]):=by
 rw [List.replicate_succ']
 exact zK (by rw [List.length_replicate]; exact h.symm) U
theorem Ry {α:Type} {ms:List α} {fb:List Nat} {n:Nat} (h:fb.length=n) (h2:ms.length=n):List.map oC (dK fb n)=List.zipWith gv ms fb:=by
 rw [zF h]; exact (z3 om).symm
theorem oK {l:bp} {r:bT} {i:Nat} {x:aA} (hx:r.ab[i]? =some x) (h: ¬ iM l r.ab i x): ¬ er l r:=fun q=>h (q.sig i x hx)
end
section
open Go.RowKit
theorem Nc (r:bT) (sgA:OA) (sgC:Nat) (hsl:r.ab.length≤1000000):
 pS Tryz.prog 48 [(vA (cb.cells (ji r sgA sgC)))] [(rd sgA r.ab.length 2 (r.ab.map aA.cells))] (fun (x:(OA)×Nat)=>(vA (cb.cells (cb.mk r.Start r.gh (bD.mk x.1 r.ab.length x.2))))) (fun (x:(OA)×Nat)=>True) (fun (x:(OA)×Nat)=>[(own x.1 x.2 87 2 (r.ab.map aA.cells))]):=by
 refine fB kr Tryz.func48 U U fun AA Q hQ hN=>?_
 try dsimp only
 refine WS fun _ A=>eO U fun G=>AL U Lr fun H=>RK A<|WS fun _ B=>qD U wL U fun F=>rP 2 [] (mc 2 U I) ?_
 refine fH (es:=(List.map aA.cells [])) (C':=[own (some ⟨F,0,none⟩) 0 87 2 (List.map aA.cells []),_,_,_]) 0 U sm U (by simp [maxLen]) U ?_
 refine dD (es2:=(List.map aA.cells r.ab)) (m':=r.ab.length) 0 U U U Qe U U sm (aB 3 U) (lJ _) os (by first|(simp only [maxLen]; omega)|(simp [maxLen]; omega)) sm sm U fun D E=>?_
 try dsimp only
 refine bE 1 U<|Uo (cb.cells (ji r D E)) U Q6 U U<|RK B<|WS fun _ C=>rP 1 [] (mc 2 U I) ?_
 refine qT U CM U<|RK C<|aq<|LX hQ (D,E) [0] [0] (mc 1 U I) U U U U ?_
 trivial
end
section
open Go.RowKit
theorem Em (r:fu) (kA:OA) (kC:Nat) (az:List RA) (cA:OA) (cC:Nat) (bA:OA) (bC:Nat) (slA:OA) (slC:Nat) (drA:OA) (drC:Nat) (ha:List c_) (heA:OA) (heC:Nat) (hin:lS r az ha) (hng: ¬ mA r):
 pS Tryz.prog 26 [(vA (eX.cells (yX r kA kC cA cC bA bC slA slC drA drC heA heC)))] [(rd kA r.ak.aS.length 9 (r.ak.aS.map ar.cells)),(rd cA r.ak.aj.length 2 (List.zipWith au.cells r.ak.aj az)),(dT (br au.gd r.ak.aj az)),(rd bA r.ak.aa.length 4 (r.ak.aa.map bJ.cells)),(rd slA r.bj.length 1 (r.bj.map iC)),(rd drA r.cq.length 1 (r.cq.map iC)),(rd heA r.aD.length 1 (List.zipWith cL r.aD ha)),(dT (br fj r.aD ha))] (fun (x:(OA)×Nat×(OA)×Nat×(List RA)×(OA)×Nat×(OA)×Nat×(OA)×Nat×(OA)×Nat×(List c_))=>(vA (eX.cells (eX.mk (cr.mk (bP.mk (bD.mk x.1 r.ak.aS.length x.2.1)) r.ak.hZ (bD.mk x.2.2.1 r.ak.aj.length x.2.2.2.1) (bD.mk x.2.2.2.2.2.1 r.ak.aa.length x.2.2.2.2.2.2.1) r.ak.bO r.ak.fO r.ak.dq) (bD.mk x.2.2.2.2.2.2.2.1 r.bj.length x.2.2.2.2.2.2.2.2.1) (bD.mk x.2.2.2.2.2.2.2.2.2.1 r.cq.length x.2.2.2.2.2.2.2.2.2.2.1) r.kM (bD.mk x.2.2.2.2.2.2.2.2.2.2.2.1 r.aD.length x.2.2.2.2.2.2.2.2.2.2.2.2.1))))) (fun (x:(OA)×Nat×(OA)×Nat×(List RA)×(OA)×Nat×(OA)×Nat×(OA)×Nat×(OA)×Nat×(List c_))=>(x.2.2.2.2.1.length=r.ak.aj.length∧ui r.ak.aj x.2.2.2.2.1)∧xe r.aD x.2.2.2.2.2.2.2.2.2.2.2.2.2) (fun (x:(OA)×Nat×(OA)×Nat×(List RA)×(OA)×Nat×(OA)×Nat×(OA)×Nat×(OA)×Nat×(List c_))=>[(own x.1 x.2.1 102 9 (r.ak.aS.map ar.cells)),(own x.2.2.1 x.2.2.2.1 107 2 (List.zipWith au.cells r.ak.aj x.2.2.2.2.1)),(bV (br au.owns r.ak.aj x.2.2.2.2.1)),(own x.2.2.2.2.2.1 x.2.2.2.2.2.2.1 85 4 (r.ak.aa.map bJ.cells)),(own x.2.2.2.2.2.2.2.1 x.2.2.2.2.2.2.2.2.1 3 1 (r.bj.map iC)),(own x.2.2.2.2.2.2.2.2.2.1 x.2.2.2.2.2.2.2.2.2.2.1 3 1 (r.cq.map iC)),(own x.2.2.2.2.2.2.2.2.2.2.2.1 x.2.2.2.2.2.2.2.2.2.2.2.2.1 51 1 (List.zipWith cL r.aD x.2.2.2.2.2.2.2.2.2.2.2.2.2)),(bV (br qG r.aD x.2.2.2.2.2.2.2.2.2.2.2.2.2))]):=by
 have p:=hin.line
 have IO:=hin.iu
 have G:=hin.has
 have Hi:=hin.ir
 have GR:=hin.draw
 have Hm:=j4 (r:=r)
 have Cp:=Gf hng
 refine fB kr Tryz.func26 U U fun w0 Q hQ hN=>?_
 try dsimp only
 refine WS fun _ EQ=>eO U fun b2=>AL U Wa fun b3=>RK EQ<|WS fun _ Eq=>rP 1 [] I ?_
 refine rS (LP (cr.cells (jC r.ak kA kC cA cC bA bC)) 1 U b_ U U U)<|cX (NF r.ak kA kC az cA cC bA bC (by exact p) (by exact Cp.1)) (bk [2,3,4,5]) U fun y5 Fn=>?_
 obtain ⟨T,V,AA,L,s,K,N⟩:=y5
 try dsimp only
 obtain ⟨FC,FE⟩:=Fn
 refine bE 1 U<|Wx (eX.cells (eX.mk (cr.mk (bP.mk (bD.mk T r.ak.aS.length V)) r.ak.hZ (bD.mk AA r.ak.aj.length L) (bD.mk K r.ak.aa.length N) r.ak.bO r.ak.fO r.ak.dq) (bD.mk slA r.bj.length slC) (bD.mk drA r.cq.length drC) r.kM (bD.mk heA r.aD.length heC))) U P4 U U<|RK Eq<|WS fun _ v=>qD U dk U fun C1=>rP 2 [] (mc 6 U I) ?_
 refine fH (es:=(List.map iC [])) (C':=[own (some ⟨C1,0,none⟩) 0 3 1 (List.map iC []),_,_,_,_,_,_,_,_,_,_,_,_,_,_]) 0 U sm U (by simp [maxLen]) U ?_
 refine dD (es2:=(List.map iC r.bj)) (m':=r.bj.length) 0 U U U rL U U sm (aB 11 U) (kD _) (by simp; omega) (by simp only [maxLen]; simp; omega) sm sm U fun X Y=>?_
 try dsimp only
 refine bE 1 U<|WL (eX.cells (eX.mk (cr.mk (bP.mk (bD.mk T r.ak.aS.length V)) r.ak.hZ (bD.mk AA r.ak.aj.length L) (bD.mk K r.ak.aa.length N) r.ak.bO r.ak.fO r.ak.dq) (bD.mk X r.bj.length Y) (bD.mk drA r.cq.length drC) r.kM (bD.mk heA r.aD.length heC))) U Db U U<|RK v<|WS fun _ w=>qD U dk U fun C2=>rP 2 [] (mc 7 U I) ?_
 refine fH (es:=(List.map iC [])) (C':=[own (some ⟨C2,0,none⟩) 0 3 1 (List.map iC []),_,_,_,_,_,_,_,_,_,_,_,_,_,_,_]) 0 U sm U (by simp [maxLen]) U ?_
 refine dD (es2:=(List.map iC r.cq)) (m':=r.cq.length) 0 U U U rL U U sm (aB 13 U) (kD _) (by simp; omega) (by simp only [maxLen]; simp; omega) sm sm U fun g j=>?_
 try dsimp only
 refine bE 1 U<|WB (eX.cells (eX.mk (cr.mk (bP.mk (bD.mk T r.ak.aS.length V)) r.ak.hZ (bD.mk AA r.ak.aj.length L) (bD.mk K r.ak.aa.length N) r.ak.bO r.ak.fO r.ak.dq) (bD.mk X r.bj.length Y) (bD.mk g r.cq.length j) r.kM (bD.mk heA r.aD.length heC))) U Db U U<|RK w<|WS fun _ AC=>qD U oz U fun C3=>rP 2 [] (mc 8 U I) ?_
 refine fH (es:=(List.map sC [])) (C':=[own (some ⟨C3,0,none⟩) 0 51 1 (List.map sC []),_,_,_,_,_,_,_,_,_,_,_,_,_,_,_,_]) 0 U sm U (by simp [maxLen]) U ?_
 refine dD (es2:=(List.zipWith cL r.aD ha)) (m':=r.aD.length) 0 U U U UT U U sm (aB 15 U) (Gn _ _) (by simp; omega) (by simp only [maxLen]; simp; omega) sm (ig G) U fun J M=>?_
 try dsimp only
 refine bE 1 U<|Wy (eX.cells (eX.mk (cr.mk (bP.mk (bD.mk T r.ak.aS.length V)) r.ak.hZ (bD.mk AA r.ak.aj.length L) (bD.mk K r.ak.aa.length N) r.ak.bO r.ak.fO r.ak.dq) (bD.mk X r.bj.length Y) (bD.mk g r.cq.length j) r.kM (bD.mk J r.aD.length M))) U RR U U<|RK AC<|ao fun _ AO=>WS fun _ Ad=>rP 1 [] I ?_
 refine RK Ad<|aI<|n9 ?_
 have F:(0≤r.aD.length)∧(([]:List c_).length=0)∧(∀ (k:Nat) y (a:c_),r.aD[k]? =some y→([]:List c_)[k]? =some a→a.2.length=y.length):=by exact ⟨Nat.zero_le _,rfl,fun k y a _ q=>by simp at q⟩
 refine bZ (ι:={z:Nat×(List c_) // (z.1≤r.aD.length)∧(z.2.length=z.1)∧(∀ (k:Nat) y (a:c_),r.aD[k]? =some y→z.2[k]? =some a→a.2.length=y.length)}) [1,2] [2,3,4,5,6,7,8,9,10,11,12,13,14,15,16,17] U U (fun z=>[(3,(vI (z.1.1:Int)))]) (fun z=>[(bV (br qG (r.aD.take z.1.1) z.1.2)),(own J M 51 1 (List.zipWith cL r.aD (l6 z.1.2 ha z.1.1)))]) (fun _=>rfl) (fun _=>rfl) (fun z=>r.aD.length-z.1.1) ⟨(0,([]:List c_)),F⟩ (bu U) (aQ [2,3,4,5,6,7,8,9,10,11,12,13,14,15,16,17,0,1]) ?_
 clear F
 rintro ⟨⟨h,hz⟩,⟨m,B,S⟩⟩ J28 t
 try dsimp only at m B S
 try dsimp only
 refine ao fun _ An=>WS fun _ A0=>rP 5 [] (mc 7 U I) ?_
 refine RK A0<|bW U (aV fun Do=>?_) (aU fun Do=>?_)
 ·refine bS<|ai<|ai<|aL<|KK AO<|ao fun _ A7=>?_
  have FS:xe r.aD hz:=⟨om,S⟩
  rw [show (l6 hz ha h)=hz from Cc om,show r.aD.take h=r.aD from List.take_of_length_le om]
  refine aw<|rP 1 [] (mc 7 U I) ?_
  refine Te U TB U<|RK A7<|aq ?_
  refine LX hQ (T,V,AA,L,s,K,N,X,Y,g,j,J,M,hz) [2,3,4,5,1,0,17,16] [0] (mc 6 U I) U (by show List.all _ _=true; simp only [g5,List.all_nil,nA,yH,Bool.and_true]; rfl) U U ?_
  exact ⟨⟨FC,FE⟩,FS⟩
 refine WK An<|ao fun _ A1=>aI<|ao fun _ A2=>dy cj [3,9,11] [6,7,8] [0,1] [0,1,2,3,4,5,6,7,8,9,10,11,12,13,14,15,16] [0,1,2,3,4,5,6,7,8,9,10,11,12,13,14,15,16,17] U U U U U<|eS U (FA 10 U eD U)<|eS U (L1 (vS J r.aD.length M) 7 U b_ U U)<|eS U (MV U)<|eS U (FA 10 U eD U)<|eS U (L1 (vS J r.aD.length M) 7 U b_ U U)<|eS U (MV U) ?_
 obtain ⟨ht,AB⟩:=aJ r.aD h om
 obtain ⟨C,O⟩:=aJ ha h om
 have e:(List.zipWith cL r.aD (l6 hz ha h))[h]? =some (cL ht C):=dF AB (FP B O)
 have Cx:=hin.gH _ _ _ AB O
 have H:=Cx.nx
 have C0:=Cp.2.2.2.2 ht (aP AB)
 refine fS U (IA h U (av (n:=r.aD.length) 17 U (ig (by rw [iT B om]; exact G))) oz dc om om) ?_
 refine fS U (gE h 0 (vS C.1.1 ht.length C.1.2) U b_ (av (n:=r.aD.length) 17 U (ig (by rw [iT B om]; exact G))) e U dc U) ?_
 refine fS U (IA h U (av (n:=r.aD.length) 17 U (ig (by rw [iT B om]; exact G))) oz dc om om) ?_
 refine eh U<|ja U fun T34 A8=>qD U rr U fun Di=>aH (A8 _ _ (aQ [1,2,3,4,5,6,7,8,9,10,11,12,13,14,15,16,17]) (aQ [1,2,3,4,5,6,7,8,9,10,11,12,13,14,15,16,17,18]) ?_)
 refine ja U fun T36 A9=>fH (es:=(List.map aM.cells [])) (C':=[own (some ⟨Di,0,none⟩) 0 50 7 (List.map aM.cells []),_,_,_,_,_,_,_,_,_,_,_,_,_,_,_,_,_,_]) 0 U sm U (by simp [maxLen]) U ?_
 refine dD (es2:=(List.zipWith ax.cells ht C.2)) (m':=ht.length) 0 U U U Uz U U sm (show iJ _ (rd C.1.1 ht.length 7 (List.zipWith ax.cells ht C.2)).holds from (cU 16 U (bQ AB O cx))) (ME _ _) (by simp; omega) (by simp only [maxLen]; simp; omega) sm (oo H) U fun D E=>?_
 try dsimp only
 refine aH (A9 _ _ (aQ [1,2,3,4,5,6,7,8,9,10,11,12,13,14,15,16,17]) (aQ [1,2,3,4,5,6,7,8,9,10,11,12,13,14,15,16,17,18]) ?_)
 refine cf U fun T39 Bd=>f_ (k:=h) (o:=0) (vs:=[(vS D ht.length E)]) (es':=(List.zipWith cL r.aD (l6 (hz++[((D,E),C.2)]) ha (h+1)))) (C':=[_,_,_,_,_,_,_,_,_,_,_,_,_,_,_,_,_,_,(own J M 51 1 (List.zipWith cL r.aD (l6 (hz++[((D,E),C.2)]) ha (h+1))))]) 18 U U U U4 U U U U e U dc (by exact CX (b:=((D,E),C.2)) AB B O) U<|aH (Bd _ _ (aQ [1,2,3,4,5,6,7,8,9,10,11,12,13,14,15,16,17]) ?_)
 refine e8 U<|KK A2<|WS fun _ A3=>rP 1 [] I ?_
 refine RK A3<|aI<|n9 ?_
 have F:(0≤ht.length)∧(([]:List RA).length=0):=by exact ⟨Nat.zero_le _,rfl⟩
 refine bZ (ι:={z:Nat×(List RA) // (z.1≤ht.length)∧(z.2.length=z.1)}) [1,2,3] [2,3,4,5,6,7,8,9,10,11,12,13,14,15,16,17,18,19] U U (fun z=>[(4,(vI (z.1.1:Int)))]) (fun z=>[(bV (br D8 (ht.take z.1.1) z.1.2)),(own D E 50 7 (List.zipWith ax.cells ht (l6 z.1.2 C.2 z.1.1)))]) (fun _=>rfl) (fun _=>rfl) (fun z=>ht.length-z.1.1) ⟨(0,([]:List RA)),F⟩ (bu U) (aQ [2,3,4,5,6,7,8,9,10,11,12,13,14,15,16,17,18,19,0,1]) ?_
 clear F
 rintro ⟨⟨i,dz⟩,⟨Z,A⟩⟩ J41 u
 try dsimp only at Z A
 try dsimp only
 refine ao fun _ A4=>WS fun _ A5=>rP 4 [] (mc 7 U I) ?_
 have W:(List.zipWith cL r.aD (l6 (hz++[((D,E),C.2)]) ha (h+1)))[h]? =some (cL ht ((D,E),C.2)):=dF AB (JJ B)
 refine rS (IA h U (av (n:=r.aD.length) 17 U (ig (by rw [iT (by simp; omega) om]; exact G))) oz dc om om) ?_
 refine rS (gE h 0 (vS D ht.length E) U b_ (av (n:=r.aD.length) 17 U (ig (by rw [iT (by simp; omega) om]; exact G))) W U dc U) ?_
 refine rP 2 [] I ?_
 refine RK A5<|bW U (aV fun Du=>?_) (aU fun Du=>?_)
 ·refine bS<|ai<|ai<|aL<|aR<|KK A1<|aw<|rP 3 [] I ?_
  refine aH ?_
  have GT:dz.length=ht.length:=by omega
  rw [show (l6 dz C.2 i)=dz from Cc om,show ht.take i=ht from List.take_of_length_le om]
  refine P3 (Z':=br qG (r.aD.take (h+1)) (hz++[((D,E),dz)])) 16 18 19 U U (xE (f:=qG) (b:=((D,E),dz)) AB B) ?_
  rw [Kv (y:=dz)]
  have Ci:(vI (((h+1):Nat):Int))=(vI ((h:Int)+1)):=by exact cI om
  refine bq (t ⟨((h+1),(hz++[((D,E),dz)])),⟨om,by simp; omega,Nm AB S B dso⟩⟩ _ _ _ U os (dG.cons U<|dG.cons U<|bw U Ci<|dG.nil _) (aQ [1,2,3,4,5,6,7,8,9,10,11,12,13,14,15,16,0,17]))
 refine WK A4<|ao fun _ A6=>aI<|dy cj [15,18] [12,13,14,15,16] [0] [0,1,2,3,4,5,6,7,8,9,10,11,12,13,14,15,16,17,18] [0,1,2,3,4,5,6,7,8,9,10,11,12,13,14,15,16,17,18,19] U U U U U<|eS U (FA 10 U eD U)<|eS U (L1 (vS J r.aD.length M) 7 U b_ U U)<|eS U (MV U) ?_
 refine eS U (IA h U (av (n:=r.aD.length) 17 U (ig (by rw [iT (by simp; omega) om]; exact G))) oz dc om om) ?_
 refine eS U (gE h 0 (vS D ht.length E) U b_ (av (n:=r.aD.length) 17 U (ig (by rw [iT (by simp; omega) om]; exact G))) W U dc U) ?_
 refine eS U (MV U)<|eS U (FA 10 U eD U)<|eS U (L1 (vS J r.aD.length M) 7 U b_ U U)<|eS U (MV U) ?_
 refine eS U (IA h U (av (n:=r.aD.length) 17 U (ig (by rw [iT (by simp; omega) om]; exact G))) oz dc om om) ?_
 refine eS U (gE h 0 (vS D ht.length E) U b_ (av (n:=r.aD.length) 17 U (ig (by rw [iT (by simp; omega) om]; exact G))) W U dc U) ?_
 refine eS U (MV U) ?_
 obtain ⟨d,hd⟩:=aJ ht i om
 obtain ⟨da,l⟩:=aJ C.2 i om
 have Ck:(List.zipWith ax.cells ht (l6 dz C.2 i))[i]? =some (ax.cells d da):=dF hd (FP A l)
 have Fd:=Cx.sig d (aP hd)
 have Go:=C0.2 d (aP hd)
 refine fS U (IA i U (av (n:=ht.length) 19 U (oo (by rw [iT A om]; exact H))) rr dc om om) ?_
 refine fS U (o6 ((i*7)+4) U (av (n:=ht.length) 19 U (oo (by rw [iT A om]; exact H))) (Nat.mul_pos om dc) eD U) ?_
 refine fS U (lM i 4 (cb.cells (cb.mk d.bx.Start d.bx.gh (bD.mk da.1 d.bx.ab.length da.2))) U b_ (av (n:=ht.length) 19 U (oo (by rw [iT A om]; exact H))) Ck U dc U U) ?_
 refine fS U (IA i U (av (n:=ht.length) 19 U (oo (by rw [iT A om]; exact H))) rr dc om om) ?_
 refine fS U (o6 ((i*7)+4) U (av (n:=ht.length) 19 U (oo (by rw [iT A om]; exact H))) (Nat.mul_pos om dc) eD U) ?_
 refine eh U<|ja U fun T46 Bo=>cX (Nc d.bx da.1 da.2 (by exact Fd)) (aC (show iJ _ (rd da.1 d.bx.ab.length 2 (d.bx.ab.map aA.cells)).holds from (cU 15 U (bQ AB O (di _ (bQ hd l (by simp [ax.gd]))))))<|aO) U fun GE H1=>?_
 obtain ⟨P,R⟩:=GE
 try dsimp only
 refine aH (Bo _ _ (aQ [1,2,3,4,5,6,7,8,9,10,11,12,13,14,15,16,17,18,19]) (aQ [1,2,3,4,5,6,7,8,9,10,11,12,13,14,15,16,17,18,19,20]) ?_)
 refine cf U fun T51 B3=>f_ (k:=i) (o:=4) (vs:=(cb.cells (ji d.bx P R))) (es':=(List.zipWith ax.cells ht (l6 (dz++[(P,R)]) C.2 (i+1)))) (C':=[_,_,_,_,_,_,_,_,_,_,_,_,_,_,_,_,_,_,_,_,(own D E 50 7 (List.zipWith ax.cells ht (l6 (dz++[(P,R)]) C.2 (i+1))))]) 20 U U U CM U U U U Ck U dc (by exact CX (c:=ax.cells) (b:=(P,R)) hd A l) U<|aH (B3 _ _ (aQ [1,2,3,4,5,6,7,8,9,10,11,12,13,14,15,16,17,18,19]) ?_)
 refine e8 U<|aR<|KK A6<|aw<|rP 3 [] I ?_
 refine aH<|Qi (Y':=br D8 (ht.take (i+1)) (dz++[(P,R)])) 19 0 U U (xE (f:=D8) (b:=(P,R)) hd A) ?_
 have B9:(vI (((i+1):Nat):Int))=(vI ((i:Int)+1)):=by exact cI om
 refine bq (u ⟨((i+1),(dz++[(P,R)])),⟨om,by simp; omega⟩⟩ _ _ _ U os (cY 3<|bw U B9<|dG.nil _) (aQ [1,2,3,4,5,6,7,8,9,10,11,12,13,14,15,16,17,18,0,19]))
end
section
open Go.RowKit
theorem M7 (j:cK) (kA:OA) (kC:Nat) (az:List RA) (cA:OA) (cC:Nat) (bA:OA) (bC:Nat) (slA:OA) (slC:Nat) (drA:OA) (drC:Nat) (ha:List c_) (heA:OA) (heC:Nat) (faA:OA) (faC:Nat) (prA:OA) (prC:Nat) (hin:gT j az ha) (hng: ¬ nc j):
 pS Tryz.prog 7 [(vA (ep.cells (nu j kA kC cA cC bA bC slA slC drA drC heA heC faA faC prA prC)))] [(rd kA j.Race.ak.aS.length 9 (j.Race.ak.aS.map ar.cells)),(rd cA j.Race.ak.aj.length 2 (List.zipWith au.cells j.Race.ak.aj az)),(dT (br au.gd j.Race.ak.aj az)),(rd bA j.Race.ak.aa.length 4 (j.Race.ak.aa.map bJ.cells)),(rd slA j.Race.bj.length 1 (j.Race.bj.map iC)),(rd drA j.Race.cq.length 1 (j.Race.cq.map iC)),(rd heA j.Race.aD.length 1 (List.zipWith cL j.Race.aD ha)),(dT (br fj j.Race.aD ha)),(rd faA j.aG.length 4 (j.aG.map aK.cells)),(rd prA j.aF.length 5 (j.aF.map aY.cells))] (fun (x:(OA)×Nat×(OA)×Nat×(List RA)×(OA)×Nat×(OA)×Nat×(OA)×Nat×(OA)×Nat×(List c_)×(OA)×Nat×(OA)×Nat)=>(vA (ep.cells (ep.mk (eX.mk (cr.mk (bP.mk (bD.mk x.1 j.Race.ak.aS.length x.2.1)) j.Race.ak.hZ (bD.mk x.2.2.1 j.Race.ak.aj.length x.2.2.2.1) (bD.mk x.2.2.2.2.2.1 j.Race.ak.aa.length x.2.2.2.2.2.2.1) j.Race.ak.bO j.Race.ak.fO j.Race.ak.dq) (bD.mk x.2.2.2.2.2.2.2.1 j.Race.bj.length x.2.2.2.2.2.2.2.2.1) (bD.mk x.2.2.2.2.2.2.2.2.2.1 j.Race.cq.length x.2.2.2.2.2.2.2.2.2.2.1) j.Race.kM (bD.mk x.2.2.2.2.2.2.2.2.2.2.2.1 j.Race.aD.length x.2.2.2.2.2.2.2.2.2.2.2.2.1)) (bD.mk x.2.2.2.2.2.2.2.2.2.2.2.2.2.2.1 j.aG.length x.2.2.2.2.2.2.2.2.2.2.2.2.2.2.2.1) (bD.mk x.2.2.2.2.2.2.2.2.2.2.2.2.2.2.2.2.1 j.aF.length x.2.2.2.2.2.2.2.2.2.2.2.2.2.2.2.2.2) j.ei j.wv)))) (fun (x:(OA)×Nat×(OA)×Nat×(List RA)×(OA)×Nat×(OA)×Nat×(OA)×Nat×(OA)×Nat×(List c_)×(OA)×Nat×(OA)×Nat)=>(x.2.2.2.2.1.length=j.Race.ak.aj.length∧ui j.Race.ak.aj x.2.2.2.2.1)∧xe j.Race.aD x.2.2.2.2.2.2.2.2.2.2.2.2.2.1) (fun (x:(OA)×Nat×(OA)×Nat×(List RA)×(OA)×Nat×(OA)×Nat×(OA)×Nat×(OA)×Nat×(List c_)×(OA)×Nat×(OA)×Nat)=>[(own x.1 x.2.1 102 9 (j.Race.ak.aS.map ar.cells)),(own x.2.2.1 x.2.2.2.1 107 2 (List.zipWith au.cells j.Race.ak.aj x.2.2.2.2.1)),(bV (br au.owns j.Race.ak.aj x.2.2.2.2.1)),(own x.2.2.2.2.2.1 x.2.2.2.2.2.2.1 85 4 (j.Race.ak.aa.map bJ.cells)),(own x.2.2.2.2.2.2.2.1 x.2.2.2.2.2.2.2.2.1 3 1 (j.Race.bj.map iC)),(own x.2.2.2.2.2.2.2.2.2.1 x.2.2.2.2.2.2.2.2.2.2.1 3 1 (j.Race.cq.map iC)),(own x.2.2.2.2.2.2.2.2.2.2.2.1 x.2.2.2.2.2.2.2.2.2.2.2.2.1 51 1 (List.zipWith cL j.Race.aD x.2.2.2.2.2.2.2.2.2.2.2.2.2.1)),(bV (br qG j.Race.aD x.2.2.2.2.2.2.2.2.2.2.2.2.2.1)),(own x.2.2.2.2.2.2.2.2.2.2.2.2.2.2.1 x.2.2.2.2.2.2.2.2.2.2.2.2.2.2.2.1 54 4 (j.aG.map aK.cells)),(own x.2.2.2.2.2.2.2.2.2.2.2.2.2.2.2.2.1 x.2.2.2.2.2.2.2.2.2.2.2.2.2.2.2.2.2 56 5 (j.aF.map aY.cells))]):=by
 have V:=hin.race
 have f:=hin.race.line
 have l:=hin.race.iu
 have m:=hin.race.has
 have k:=hin.race.ir
 have h:=hin.nf
 have i:=hin.np
 have d:=Fs hng
 refine fB kr Tryz.func7 U U fun q Q hQ hN=>?_
 try dsimp only
 refine WS fun _ Z=>eO U fun o=>AL U Qk fun p=>RK Z<|WS fun _ a=>rP 1 [] I ?_
 refine rS (LP (eX.cells (yX j.Race kA kC cA cC bA bC slA slC drA drC heA heC)) 1 U b_ U U U)<|cX (Em j.Race kA kC az cA cC bA bC slA slC drA drC ha heA heC (by exact V) (by exact d.1)) (bk [2,3,4,5,6,7,8,9]) U fun n g=>?_
 obtain ⟨J,L,K,E,P,A,F,B,G,C,H,D,AB,W⟩:=n
 try dsimp only
 obtain ⟨⟨b,c⟩,e⟩:=g
 refine bE 1 U<|WG (ep.cells (ep.mk (eX.mk (cr.mk (bP.mk (bD.mk J j.Race.ak.aS.length L)) j.Race.ak.hZ (bD.mk K j.Race.ak.aj.length E) (bD.mk A j.Race.ak.aa.length F) j.Race.ak.bO j.Race.ak.fO j.Race.ak.dq) (bD.mk B j.Race.bj.length G) (bD.mk C j.Race.cq.length H) j.Race.kM (bD.mk D j.Race.aD.length AB)) (bD.mk faA j.aG.length faC) (bD.mk prA j.aF.length prC) j.ei j.wv)) U TB U U<|RK a<|WS fun _ S=>qD U yQ U fun X=>rP 2 [] (mc 10 U I) ?_
 refine fH (es:=(List.map aK.cells [])) (C':=[own (some ⟨X,0,none⟩) 0 54 4 (List.map aK.cells []),_,_,_,_,_,_,_,_,_,_,_,_,_,_,_,_,_,_,_,_]) 0 U sm U (by simp [maxLen]) U ?_
 refine dD (es2:=(List.map aK.cells j.aG)) (m':=j.aG.length) 0 U U U VJ U U sm (aB 19 U) (vj _) (by simp; omega) (by simp only [maxLen]; simp; omega) sm sm U fun M N=>?_
 try dsimp only
 refine bE 1 U<|RU (ep.cells (ep.mk (eX.mk (cr.mk (bP.mk (bD.mk J j.Race.ak.aS.length L)) j.Race.ak.hZ (bD.mk K j.Race.ak.aj.length E) (bD.mk A j.Race.ak.aa.length F) j.Race.ak.bO j.Race.ak.fO j.Race.ak.dq) (bD.mk B j.Race.bj.length G) (bD.mk C j.Race.cq.length H) j.Race.kM (bD.mk D j.Race.aD.length AB)) (bD.mk M j.aG.length N) (bD.mk prA j.aF.length prC) j.ei j.wv)) U V6 U U<|RK S<|WS fun _ T=>qD U Aj U fun Y=>rP 2 [] (mc 11 U I) ?_
 refine fH (es:=(List.map aY.cells [])) (C':=[own (some ⟨Y,0,none⟩) 0 56 5 (List.map aY.cells []),_,_,_,_,_,_,_,_,_,_,_,_,_,_,_,_,_,_,_,_,_]) 0 U sm U (by simp [maxLen]) U ?_
 refine dD (es2:=(List.map aY.cells j.aF)) (m':=j.aF.length) 0 U U U V4 U U sm (aB 21 U) (tO _) (by simp; omega) (by simp only [maxLen]; simp; omega) sm sm U fun O R=>?_
 try dsimp only
 refine bE 1 U<|Mo (ep.cells (ep.mk (eX.mk (cr.mk (bP.mk (bD.mk J j.Race.ak.aS.length L)) j.Race.ak.hZ (bD.mk K j.Race.ak.aj.length E) (bD.mk A j.Race.ak.aa.length F) j.Race.ak.bO j.Race.ak.fO j.Race.ak.dq) (bD.mk B j.Race.bj.length G) (bD.mk C j.Race.cq.length H) j.Race.kM (bD.mk D j.Race.aD.length AB)) (bD.mk M j.aG.length N) (bD.mk O j.aF.length R) j.ei j.wv)) U Rn U U<|RK T<|WS fun _ AA=>rP 1 [] (mc 11 U I) ?_
 refine PB U Qm U<|RK AA<|aq ?_
 refine LX hQ (J,L,K,E,P,A,F,B,G,C,H,D,AB,W,M,N,O,R) [2,3,4,5,6,7,8,9,1,0] [0] (mc 10 U I) U (by show List.all _ _=true; simp only [g5,List.all_nil,nA,yH,Bool.and_true]; rfl) U U ?_
 exact ⟨⟨b,c⟩,e⟩
end
section
theorem TN.sub {E:fp} {ops:Array Oper} {Q:dv} {D:g8} {C' C1 C:List ay} {tb rem:List Nat}: ∀ {n:Nat} {L L':dA},dG L L'→TN E ops D C' C1 (fun L C=>KJ E (Q .normal) D L C) tb n rem L' C→TN E ops D C' C1 (fun L C=>KJ E (Q .normal) D L C) tb n rem L C:=by
 intro n
 cases n with
 |zero=>intro L L' hs h; exact g_ hs (fun _ h=>h) h
 |succ n=>intro L L' hs h i hi o ho K hK; exact O9 hs (fun _ h=>h) (h i hi o ho K hK)
theorem NB {E:fp} {ops:Array Oper} {Q:dv} {D:g8} {C' C1 C:List ay} {bs:List Bool} {os:List Oper} {L:dA} {tb rem:List Nat} {n:Nat} {t:Nat} {b:Bool} (h:L.lookup t=some (.bool b))
 (h1:b=true→qV E ops D C' C1 (fun L'=>TN E ops D C' C1 (fun L C=>KJ E (Q .normal) D L C) tb n rem L' C) bs os ((t,.bool true)::L)) (h2:b=false→qV E ops D C' C1 (fun L'=>TN E ops D C' C1 (fun L C=>KJ E (Q .normal) D L C) tb n rem L' C) bs os ((t,.bool false)::L)):
 qV E ops D C' C1 (fun L'=>TN E ops D C' C1 (fun L C=>KJ E (Q .normal) D L C) tb n rem L' C) bs os L:=by
 have A: ∀ v:Bool,b=v→dG L ((t,.bool v)::L):=fun v hv=>dG.cons (hv▸h) (fun _ _ h=>h)
 cases b
 ·exact qV.mono (fun _ _=>TN.sub) (A _ U) (h2 U)
 ·exact qV.mono (fun _ _=>TN.sub) (A _ U) (h1 U)
theorem T_ {E:fp} {ops:Array Oper} {Q:dv} {D:List Deferred} {L:List (Nat×Value)} {C1 C2 C:List ay} {t n:Nat} {b:Bool} {bs:List Bool} {os:List Oper} {tb rem:List Nat} (h:L.lookup t=some (.bool b)) (h2:b=false→qV E ops D C2 C1 (fun L2=>TN E ops D C2 C1 (fun L C=>KJ E (Q .normal) D L C) tb n rem L2 C) bs os ((t,.bool false)::L)) (h1:b=true→qV E ops D C2 C1 (fun L2=>TN E ops D C2 C1 (fun L C=>KJ E (Q .normal) D L C) tb n rem L2 C) bs os ((t,.bool true)::L)):qV E ops D C2 C1 (fun L2=>TN E ops D C2 C1 (fun L C=>KJ E (Q .normal) D L C) tb n rem L2 C) bs os L:=NB h h1 h2
end
section
open Go.RowKit
section
variable {P:Program} {t:TypeId} {x y:Operand}
end
section
variable {E:fp} {ops:Array Oper} {Q:dv} {rest:List Oper} {D:List Deferred} {L:List (Nat×Value)} {C:List ay}
variable {dst:Option Tmp} {d:Nat} {ty:TypeId} {ps:String} {af:Array Edge} {g:Option (Nat×Bool)}
theorem Mj {A:ay} (i:Nat) (h:C[i]? =some A.ro):iJ C A.holds:=fun w hw=>by
 have B:=hw A.ro (aP h)
 exact B
end
end
section
open Go.RowKit
def qO (b:Bool):List Value:=[.bool b]
@[simp] theorem AR (b:Bool):(qO b).length=1:=rfl
theorem Gk (l:List Bool): ∀ v∈(l.map qO).flatten,v.oneCell'=true:=kK (fun s=>rfl) l
end
section
def l4 (r:fu) (i:Nat):Prop:= ∀ (j:Nat) x,j<i→r.aD[j]? =some x→ ¬ py x
def nN (x:List ax) (i:Nat):Prop:= ∀ (j:Nat) d,j<i→x[j]? =some d→ ¬ 15<(d.bx.ab.length:Int)
section
variable {r:fu} {i:Nat} {x:List ax} {d:ax}
theorem CT:l4 r 0:=fun j x hj=>absurd hj (Nat.not_lt_zero _)
theorem Bu (h:l4 r i) (hx:r.aD[i]? =some x) (ho: ¬ py x):l4 r (i+1):=fun j y hj hy=>by
 rcases Nat.lt_or_ge j i with q|q
 ·exact h j y q hy
 ·obtain rfl:j=i:=by omega
  rw [hx] at hy; cases hy; exact ho
theorem Ce:nN x 0:=fun j x hj=>absurd hj (Nat.not_lt_zero _)
theorem CR (h:nN x i) (hx:x[i]? =some d) (ho: ¬ 15<(d.bx.ab.length:Int)):nN x (i+1):=fun j y hj hy=>by
 rcases Nat.lt_or_ge j i with q|q
 ·exact h j y q hy
 ·obtain rfl:j=i:=by omega
  rw [hx] at hy; cases hy; exact ho
theorem Ek (hl: ¬ 8<(x.length:Int)) (h:nN x i) (hi:x.length≤i): ¬ py x:=by
 rintro (q|⟨d,hd,q⟩)
 ·exact hl q
 ·obtain ⟨j,hj⟩:=List.getElem?_of_mem hd
  exact h j d (by have:=(aZ.1 hj).1; omega) hj q
theorem HM (h1: ¬ m8 r.ak) (h2: ¬ 8<(r.bj.length:Int)∧ ¬ 8<(r.cq.length:Int)∧ ¬ 5<(r.aD.length:Int)) (h:l4 r i) (hi:r.aD.length≤i): ¬ mA r:=by
 rintro ((q|q)|⟨x,hx,q⟩)
 ·exact h1 q
 ·omega
 ·obtain ⟨j,hj⟩:=List.getElem?_of_mem hx
  exact h j x (by have:=(aZ.1 hj).1; omega) hj q
theorem qd (h:m8 r.ak∨8<(r.bj.length:Int)∨8<(r.cq.length:Int)∨5<(r.aD.length:Int)):mA r:= .inl h
theorem Cv (hx:r.aD[i]? =some x) (h:8<(x.length:Int)):mA r:= .inr ⟨x,aP hx,.inl h⟩
theorem Ej {j:Nat} (hx:r.aD[i]? =some x) (hd:x[j]? =some d) (h:15<(d.bx.ab.length:Int)):mA r:= .inr ⟨x,aP hx,.inr ⟨d,aP hd,h⟩⟩
end
noncomputable def pB (l:bp) (d:ax):ag:=if d.Out=true then gj else gl l d
theorem Ks {l:bp} {d:ax} (h:iP l d):pB l d=gl l d:=by
 unfold pB
 split
 ·rename_i q
  rw [EZ q]
  rw [rp q] at h
  exact h.2.1.symm
 ·rfl
theorem z_ {l:bp} {d:ax} (h:d.Out=true):pB l d=gj:=if_pos h
theorem FX {l:bp} {d:ax} (h:d.Out=false∧d.dC=true):pB l d=d.Time:=by unfold pB; rw [if_neg (by rw [h.1]; decide),F7 h]
theorem Fu {l:bp} {d:ax} (h:d.Out=false∧d.dC=false):pB l d=zX l d.bx:=by unfold pB; rw [if_neg (by rw [h.1]; decide),Ga h]
def RC (r:fu) (j:Nat):Prop:= ∀ x,r.bj[j]? =some x→(0≤x∧x≤9999)∧ ∀ y,0<j→r.bj[j-1]? =some y→y<x
def KU (r:fu) (j:Nat):Prop:= ∀ x,r.cq[j]? =some x→(0≤x∧x≤(r.bj.length:Int)-1)∧ ∀ (k:Nat) y,k<j→r.cq[k]? =some y→y≠x
def xX (r:fu) (i:Nat):Prop:= ∀ j,j<i→RC r j∧KU r j
section
variable {r:fu} {i k:Nat} {x:Int}
theorem It:xX r 0:=fun j hj=>absurd hj (Nat.not_lt_zero _)
theorem De (h:xX r i) (h1:RC r i) (h2:KU r i):xX r (i+1):=fun j hj=>by
 rcases Nat.lt_or_ge j i with q|q
 ·exact h j q
 ·obtain rfl:j=i:=by omega
  exact ⟨h1,h2⟩
theorem xy {l:List Int} {u v:Int} (h: ∀ (q:Nat) y,q<k→l[q]? =some y→y≠v) (hx:l[k]? =some u) (hne: ¬ u=v): ∀ (q:Nat) y,q<k+1→l[q]? =some y→y≠v:=fun q y hq hy=>by
 rcases Nat.lt_or_ge q k with c|c
 ·exact h q y c hy
 ·obtain rfl:q=k:=by omega
  rw [hx] at hy; cases hy; exact hne
theorem JX (hl:r.cq.length=r.bj.length) (h:xX r r.bj.length):r.cq.Perm (H2 r.bj.length):=by
 have nd:r.cq.Nodup:=by
  rw [List.nodup_iff_pairwise_ne,eC]
  intro a b ha hb A
  exact ((h b om).2 _ (fg hb)).2 a _ A (fg ha)
 have hm: ∀ x∈r.cq,x∈H2 r.bj.length:=fun x hx=>by
  obtain ⟨j,hj⟩:=List.getElem?_of_mem hx
  have:=((h j (by have:=(aZ.1 hj).1; omega)).2 x hj).1
  exact cR.2 ⟨x.toNat,List.mem_range.2 om,om⟩
 have ndu:(H2 r.bj.length).Nodup:=by
  unfold H2
  rw [List.nodup_iff_pairwise_ne,List.pairwise_map]
  exact List.pairwise_lt_range.imp fun h=>by omega
 have e:oc r.cq=(H2 r.bj.length).filter fun x=>decide (x∈r.cq):=by
  refine HX uG ((xH _).filter _) (mz.nodup_iff.2 nd) (ndu.filter _) fun x=>?_
  rw [mz.mem_iff,List.mem_filter,decide_eq_true_eq]
  exact ⟨fun q=>⟨hm x q,q⟩,fun q=>q.2⟩
 have B:=congrArg List.length e
 rw [uC,hl] at B
 have C:(H2 r.bj.length).filter (fun x=>decide (x∈r.cq))=H2 r.bj.length:=List.filter_sublist.eq_of_length (by rw [← B]; simp)
 rw [C] at e
 rw [← e]; exact mz.symm
theorem Gp {n:Nat} (h1:1≤(r.bj.length:Int)∧(r.bj.length:Int)≤5) (h2:r.cq.length=r.bj.length) (h3:0≤r.kM∧r.kM≤5) (h4:1≤(r.aD.length:Int)∧(r.aD.length:Int)≤3)
 (hn:n=r.bj.length) (h6:xX r n) (h7:kp r i) (hi:r.aD.length≤i):fQ r:=by
 subst hn
 refine ⟨h1,h3,h4,fun k x hx=>(h6 k (aZ.1 hx).1).1 x hx,JX h2 h6,fun h hh=>?_⟩
 obtain ⟨j,hj⟩:=List.getElem?_of_mem hh
 exact h7 j h (by have:=(aZ.1 hj).1; omega) hj
theorem fQ.KP (h:fQ r) (hx:r.cq[i]? =some x):0≤x∧x≤(r.bj.length:Int)-1:=by
 obtain ⟨k,hk,rfl⟩:=cR.1 (h.draw.mem_iff.1 (aP hx))
 have:=List.mem_range.1 hk
 omega
theorem fQ.Pj (h:fQ r):r.cq.Nodup:=by
 refine h.draw.nodup_iff.2 ?_
 rw [List.nodup_iff_pairwise_ne,List.pairwise_map]
 exact List.pairwise_lt_range.imp fun h=>by omega
theorem fQ.Pq (h:fQ r) {u v:Int} (hki:k<i) (hu:r.cq[k]? =some u) (hv:r.cq[i]? =some v): ¬ u=v:=by
 have A:=h.Pj
 rw [List.nodup_iff_pairwise_ne,eC] at A
 obtain ⟨a,ea⟩:=aZ.1 hu
 obtain ⟨b,eb⟩:=aZ.1 hv
 subst ea eb
 exact A k i a b hki
end
section
variable {r:fu} {i k n:Nat} {s:ag} {l:bp} {hs:List (List ax)}
end
section
variable {r:fu} {i x:Int} {own s:ag} {k:Nat} {ys zs:List Int}
end
section
variable {B:List Bool} {P Q:Int→Prop} {k x:Nat} {m:Bs} {i y a b:Int} {ys:List Int}
end
end
section
open Go.RowKit
/-- a row is taken that was made before; an operation -/
inductive dp where
 |take (i:Nat)
 |op (j:Nat)
def dp.ix:dp→Nat
 | .take i=>i
 | .op j=>j
def vx (dO:Nat→Nat):List dp→List Nat
 |[]=>[]
 | .take i::s=>dO i::vx dO s
 | .op _::s=>vx dO s
theorem ph {dO:Nat→Nat} {i:Nat}: ∀ {s:List dp},dp.take i∈s→dO i∈vx dO s
 | .take k::s,h=>by
  rcases bR.1 h with e|h
  ·cases e; exact cx ..
  ·exact di _ (ph h)
 | .op k::s,h=>by
  rcases bR.1 h with e|h
  ·cases e
  ·exact ph (s:=s) h
def rB (m:Array Nat) (dO:Nat→Nat) (x y:dp):Bool:=x.ix != y.ix&&(match y with | .op j=>iw m x.ix j| .take i=>match x with | .take k=>dO k != dO i| .op _=>true)
def Un (m:Array Nat) (dO:Nat→Nat):List dp→Bool
 |[]=>true
 |x::s=>s.all (rB m dO x)&&Un m dO s
theorem Ao {m:Array Nat} {dO:Nat→Nat}: ∀ {s:List dp},Un m dO s=true→s.Pairwise fun x y=>rB m dO x y=true
 |[],_=>List.Pairwise.nil
 |x::s,h=>by
  simp only [Un,cE] at h
  exact List.Pairwise.cons (fun y hy=>cN.1 h.1 y hy) (Ao h.2)
/-- what is known of the slots B is known in L -/
def yW (B L:dA):Prop:= ∀ t v,B.lookup t=some v→L.lookup t=some v
theorem uk {B L:dA} (h:B.map (fun p=>L.lookup p.1)=B.map (fun p=>some p.2)):yW B L:=by
 induction B with
 |nil=>intro t v h; simp at h
 |cons p B ih=>
  obtain ⟨k,u⟩:=p
  simp only [List.map_cons,List.cons.injEq] at h
  intro t v hl
  by_cases e:t=k
  ·subst e
   simp only [List.lookup,beq_self_eq_true,Option.some.injEq] at hl
   rw [h.1,hl]
  ·have:(t==k)=false:=by simpa using e
   simp only [List.lookup,this] at hl
   exact ih h.2 t v hl
theorem jh {L Y:dA} {t:Nat}:(L++Y).lookup t=match L.lookup t with |some v=>some v|none=>Y.lookup t:=by
 induction L with
 |nil=>rfl
 |cons p L ih=>
  obtain ⟨k,u⟩:=p
  by_cases e:t==k
  ·simp [List.lookup,e]
  ·have:(t==k)=false:=by simpa using e
   simp only [List.cons_append,List.lookup,this,ih]
theorem yW.app {B L Y:dA} (h:yW B L):yW B (L++Y):=fun t v ht=>by rw [jh,h t v ht]
theorem PC {B L:dA} (h:yW B L) {x:Operand} {v:Value} (hv:ev B x=some v):ev L x=some v:=by
 cases x<;>simp only [ev] at hv ⊢ <;>first|exact h _ _ hv|exact hv
theorem Be {B L:dA} (h:yW B L): ∀ {xs:List Operand} {vs:List Value},evs B xs=some vs→evs L xs=some vs
 |[],vs,hv=>hv
 |x::xs,vs,hv=>by
  simp only [evs] at hv ⊢
  cases e1:ev B x with
  |none=>rw [e1] at hv; simp at hv
  |some v=>
   cases e2:evs B xs with
   |none=>rw [e1,e2] at hv; simp at hv
   |some us=>
    rw [e1,e2] at hv
    rw [PC h e1,Be h e2]; exact hv
section
variable (E:fp) (ops:Array Oper) (D:List Deferred) (C':List ay) (K0:Act→World→Prop) (B:List (Nat×Value)) (dO:Nat→Nat) (VO:Nat→Nat→Value) (AO:Nat→Nat→ay)
def CH:List dp→dA→List ay→Prop
 |[],L,C=>KJ E K0 D L C
 | .take i::s,L,C=> ∀ b,CH s ((dO i,VO i b)::L) (AO i b::C)
 | .op j::s,L,C=> ∀ o,ops[j]? =some o→ ∀ (Y:dA) (X:List ay) (K:Act→World→Prop),(∀ L' C'',(∀ w,St E.S E.w0 C'' w→St E.S E.w0 C' w)→((vx dO s).all fun d=>(L'.lookup d).isNone)=true→B.map (fun p=>L'.lookup p.1)=B.map (fun p=>some p.2)→CH s L' C''→KJ E K D (L'++Y) (C''++X))→RJ E ops (NQ K) [o] D (L++Y) (C++X)
/-- a row that is made at any time -/
def TK (i:Nat):Prop:= ∀ o,ops[i]? =some o→ ∀ (L:dA) (C:List ay) (K:Act→World→Prop),yW B L→(∀ w,St E.S E.w0 C w→St E.S E.w0 C' w)→(∀ b,KJ E K D ((dO i,VO i b)::L) (AO i b::C))→RJ E ops (NQ K) [o] D L C
end
section
variable {E:fp} {ops:Array Oper} {D:List Deferred} {C' C1:List ay} {K0:Act→World→Prop} {B:List (Nat×Value)} {dO:Nat→Nat} {VO:Nat→Nat→Value} {AO:Nat→Nat→ay}
theorem Fb {Q:dv} {rest:List Oper} {L L2:dA} {C C2:List ay} (hL: ∀ a,Fr E.n D L a→Fr E.n D L2 a) (hC: ∀ w,St E.S E.w0 C w→St E.S E.w0 C2 w) (h:RJ E ops Q rest D L2 C2):RJ E ops Q rest D L C:=fun a w hf hs=>h a w (hL a hf) (hC w hs)
theorem wU {K:Act→World→Prop} {L L2:dA} {C C2:List ay} (hL: ∀ a,Fr E.n D L a→Fr E.n D L2 a) (hC: ∀ w,St E.S E.w0 C w→St E.S E.w0 C2 w) (h:KJ E K D L2 C2):KJ E K D L C:=fun a w hf hs=>h a w (hL a hf) (hC w hs)
theorem xB {n:Nat} {L L2:dA} (h: ∀ t v,L2.lookup t=some v→L.lookup t=some v) (a:Act) (hf:Fr n D L a):Fr n D L2 a:=⟨hf.defers,hf.size,fun t v ht=>hf.at_ t v (h t v ht)⟩
theorem D2: ∀ (T0 s':List dp) (dn:List (Nat×Nat)) (L Y:dA) (C:List ay),(∀ x∈T0,∃ i b,x= .take i∧(i,b)∈dn)→(T0++s').Pairwise (fun x y=>rB (oy ops) dO x y=true)→(dn.map (·.1)).Nodup→(∀ p∈dn,dp.take p.1∈T0++s')→(∀ p∈dn,Y.lookup (dO p.1)=some (VO p.1 p.2))→(∀ i,dp.take i∈T0++s'→L.lookup (dO i)=none)→
 CH E ops D C' K0 B dO VO AO (T0++s') L C→ ∃ (dn':List (Nat×Nat)) (L':dA) (C2:List ay),CH E ops D C' K0 B dO VO AO s' L' C2∧(dn'.map (·.1)).Nodup∧(∀ p,p∈dn'↔p∈dn∧dp.take p.1∈s')∧(∀ t v,(L'++Y).lookup t=some v→(L++Y).lookup t=some v)∧(∀ i,dp.take i∈s'→L'.lookup (dO i)=none)∧(∀ w,St E.S E.w0 (C++dn.map fun p=>AO p.1 p.2) w→St E.S E.w0 (C2++dn'.map fun p=>AO p.1 p.2) w)
 |[],s',dn,L,Y,C,_,_,hn,hm,_,hl,h=>⟨dn,L,C,h,hn,fun p=>⟨fun q=>⟨q,hm p q⟩,fun q=>q.1⟩,fun t v q=>q,hl,fun w q=>q⟩
 |x::T0,s',dn,L,Y,C,ht,hp,hn,hm,hy,hl,h=>by
  obtain ⟨i,b,rfl,hb⟩:=ht x (cx ..)
  obtain ⟨J,P⟩:=List.pairwise_cons.1 hp
  have AB: ∀ y∈T0++s',i≠y.ix:=fun y hy e=>by
   have:=J y hy
   simp only [rB,cE,bne_iff_ne,dp.ix] at this
   exact this.1 e
  have N: ∀ k,dp.take k∈T0++s'→dO k≠dO i:=fun k hk e=>by
   have:=J _ hk
   simp only [rB,cE,bne_iff_ne] at this
   exact this.2 e.symm
  have K:dn.Perm ((i,b)::dn.erase (i,b)):=List.perm_cons_erase hb
  have H:((dn.erase (i,b)).map (·.1)).Nodup∧i ∉ (dn.erase (i,b)).map (·.1):=by
   have:=(K.map (·.1)).nodup_iff.1 hn
   exact ⟨(List.nodup_cons.1 this).2,(List.nodup_cons.1 this).1⟩
  have A: ∀ p∈dn.erase (i,b),p∈dn∧p.1≠i:=fun p hp=>⟨List.mem_of_mem_erase hp,fun e=>by have q:=List.mem_map_of_mem (f:=fun p:Nat×Nat=>p.1) hp; simp only [e] at q; exact H.2 q⟩
  have O:L.lookup (dO i)=none:=hl i (cx ..)
  obtain ⟨dn',L',C2,R,T,AA,V,W,X⟩:=D2 T0 s' (dn.erase (i,b)) ((dO i,VO i b)::L) Y (AO i b::C) (fun x hx=>by
   obtain ⟨k,c,rfl,hk⟩:=ht x (di _ hx)
   refine ⟨k,c,U,?_⟩
   have F:k≠i:=fun e=>AB _ (List.mem_append_left _ hx) e.symm
   exact (List.mem_erase_of_ne (fun e=>F (congrArg Prod.fst e))).2 hk) P H.1 (fun p hp=>by
   obtain ⟨M,G⟩:=A p hp
   rcases bR.1 (hm p M) with e|e
   ·injection e with e; exact absurd e G
   ·exact e) (fun p hp=>hy p (A p hp).1) (fun k hk=>by
   have:(dO k==dO i)=false:=by simpa using N k hk
   simp only [List.lookup,this]
   exact hl k (di _ hk)) (h b)
  refine ⟨dn',L',C2,R,T,fun p=>?_,fun t v hv=>?_,W,fun w hw=>X w ?_⟩
  ·rw [AA]
   constructor
   ·rintro ⟨M,G⟩; exact ⟨(A p M).1,G⟩
   ·rintro ⟨M,G⟩
    have F:p.1≠i:=fun e=>AB _ (List.mem_append_right _ G) e.symm
    exact ⟨(List.mem_erase_of_ne (fun e=>F (congrArg Prod.fst e))).2 M,G⟩
  ·have:=V t v hv
   rw [jh] at this ⊢
   by_cases e:t=dO i
   ·subst e
    simp only [List.lookup,beq_self_eq_true] at this
    rw [O]; simp only
    rw [hy _ hb]; exact this
   ·have Q:(t==dO i)=false:=by simpa using e
    simp only [List.lookup,Q] at this
    exact this
  ·refine hw.perm ?_
   show (C++dn.map fun p=>AO p.1 p.2).Perm (AO i b::(C++(dn.erase (i,b)).map fun p=>AO p.1 p.2))
   refine ((K.map fun p:Nat×Nat=>AO p.1 p.2).append_left C).trans ?_
   exact List.perm_middle
theorem yK: ∀ (s:List dp) (j:Nat),dp.op j∈s→ ∃ T0 k s',s=T0++dp.op k::s'∧ ∀ x∈T0,∃ i,x=dp.take i
 | .take i::s,j,h=>by
  rcases bR.1 h with e|h
  ·cases e
  ·obtain ⟨T0,k,s',rfl,A⟩:=yK s j h
   exact ⟨.take i::T0,k,s',U,fun x hx=>by
    rcases bR.1 hx with rfl|hx
    ·exact ⟨i,U⟩
    ·exact A x hx⟩
 | .op k::s,j,_=>⟨[],k,s,rfl,fun x hx=>by cases hx⟩
def kP (s:List dp) (dn:List (Nat×Nat)):List Nat:=(s.map dp.ix).filter fun i=> !(dn.map (·.1)).contains i
theorem su {s:List dp} {dn:List (Nat×Nat)} {i:Nat}:i∈kP s dn↔(∃ x∈s,x.ix=i)∧ ∀ p∈dn,p.1≠i:=by
 unfold kP
 rw [List.mem_filter,cR]
 refine and_congr Iff.rfl ?_
 rw [Bool.not_eq_true',← Bool.not_eq_true,List.contains_iff_mem,cR]
 constructor
 ·intro h p hp e; exact h ⟨p,hp,e⟩
 ·rintro h ⟨p,hp,e⟩; exact h p hp e
theorem rh (hal: ∀ i,TK E ops D C' B dO VO AO i∨True): ∀ (n:Nat) (s:List dp) (dn:List (Nat×Nat)) (L Y:dA) (C:List ay),(∀ i,dp.take i∈s→TK E ops D C' B dO VO AO i)→s.Pairwise (fun x y=>rB (oy ops) dO x y=true)→(kP s dn).length=n→(dn.map (·.1)).Nodup→(∀ p∈dn,dp.take p.1∈s)→(∀ p∈dn,Y.lookup (dO p.1)=some (VO p.1 p.2))→(∀ i,dp.take i∈s→L.lookup (dO i)=none)→yW B L→
 (∀ w,St E.S E.w0 C w→St E.S E.w0 C' w)→CH E ops D C' K0 B dO VO AO s L C→TN E ops D C' C1 (fun L C=>KJ E K0 D L C) [] n (kP s dn) (L++Y) (C++dn.map fun p=>AO p.1 p.2)
 |0,s,dn,L,Y,C,_,hp,hlen,hn,hm,hy,hl,hB,hC,h=>by
  have hr:kP s dn=[]:=ko hlen
  have Q: ∀ x∈s,∃ i b,x=dp.take i∧(i,b)∈dn:=fun x hx=>by
   have hx':x.ix ∉ kP s dn:=by rw [hr]; exact List.not_mem_nil
   rw [su] at hx'
   have: ∃ p∈dn,p.1=x.ix:=by
    apply Classical.byContradiction
    intro q
    exact hx' ⟨⟨x,hx,U⟩,fun p hp e=>q ⟨p,hp,e⟩⟩
   obtain ⟨p,T,AA⟩:=this
   have ht:=hm p T
   rcases List.mem_iff_getElem.1 hx with ⟨a,ha,ea⟩
   rcases List.mem_iff_getElem.1 ht with ⟨c,hc,ec⟩
   have d:a=c:=by
    rcases Nat.lt_trichotomy a c with q|q|q
    ·have:=eC.1 hp a c ha hc q
     simp only [rB,cE,bne_iff_ne,ea,ec] at this
     exact absurd AA.symm this.1
    ·exact q
    ·have:=eC.1 hp c a hc ha q
     simp only [rB,cE,bne_iff_ne,ea,ec] at this
     exact absurd AA this.1
   subst d
   exact ⟨p.1,p.2,by rw [← ea,ec],T⟩
  obtain ⟨dn',L',C2,V,J,O,W,h5,X⟩:=D2 s [] dn L Y C Q (by simpa using hp) hn (by simpa using hm) hy (by simpa using hl) (by simpa using h)
  show KJ E K0 D _ _
  have hd:dn'=[]:=List.eq_nil_iff_forall_not_mem.2 fun p hp=>by have:=((O p).1 hp).2; cases this
  subst hd
  refine wU (L2:=L') (C2:=C2) (fun a hf=>xB (fun t v ht=>W t v (by rw [jh,ht])) a hf) (fun w hw=>by have:=X w hw; simpa using this) V
 |n+1,s,dn,L,Y,C,hal',hp,hlen,hn,hm,hy,hl,hB,hC,h=>by
  intro i hi o ho K hK
  obtain ⟨G,m⟩:=List.mem_filter.1 hi
  obtain ⟨⟨x,hx,rfl⟩,H⟩:=su.1 G
  have A: ∀ k∈kP s dn,iw (oy ops) k x.ix=false:=fun k hk=>by
   have:=cN.1 m k hk
   simpa using this
  cases x with
  |take i=>
   simp only [dp.ix] at H A ho hK G ⊢
   refine hal' i hx o ho _ _ K hB.app (fun w hw=>hC w (hw.take (List.sublist_append_left _ _))) fun b=>?_
   have l:=hl i hx
   have AB:(kP s dn).filter (· != i)=kP s ((i,b)::dn):=by
    unfold kP
    rw [List.filter_filter]
    apply List.filter_congr
    intro k _
    simp only [List.map_cons,List.contains_cons,Bool.not_or]
    rfl
   have N:(kP s dn).Nodup:=by
    unfold kP
    refine List.Nodup.sublist List.filter_sublist<|List.pairwise_map.2 (hp.imp fun {a c} q=>?_)
    simp only [rB,cE,bne_iff_ne] at q
    exact q.1
   have M: ∀ k,dp.take k∈s→k≠i→dO k≠dO i:=fun k hk AC e=>by
    rcases List.mem_iff_getElem.1 hx with ⟨a,ha,ea⟩
    rcases List.mem_iff_getElem.1 hk with ⟨c,hc,ec⟩
    rcases Nat.lt_trichotomy a c with q|q|q
    ·have:=eC.1 hp a c ha hc q
     simp only [rB,cE,bne_iff_ne,ea,ec] at this
     exact this.2 e.symm
    ·subst q; rw [ea] at ec; cases ec; exact AC rfl
    ·have:=eC.1 hp c a hc ha q
     simp only [rB,cE,bne_iff_ne,ea,ec] at this
     exact this.2 e
   refine wU (L2:=L++((dO i,VO i b)::Y)) (C2:=C++((i,b)::dn).map fun p=>AO p.1 p.2) (fun a hf=>xB (fun t v ht=>?_) a hf) (fun w hw=>hw.perm (List.perm_middle).symm) (hK _ _ (fun w hw=>hC w (hw.take (List.sublist_append_left _ _))) (fun q=>by cases q) ?_)
   ·rw [jh] at ht
    by_cases e:t=dO i
    ·subst e
     rw [l] at ht
     simp only [List.lookup,beq_self_eq_true] at ht ⊢
     exact ht
    ·have e2:(t==dO i)=false:=by simpa using e
     simp only [List.lookup,e2] at ht ⊢
     rw [jh]; exact ht
   ·rw [AB]
    refine rh hal n s ((i,b)::dn) L ((dO i,VO i b)::Y) C hal' hp ?_ (List.nodup_cons.2 ⟨fun q=>?_,hn⟩) (fun p hp'=>?_) (fun p hp'=>?_) hl hB hC h
    ·rw [← AB,← List.Nodup.erase_eq_filter N,List.length_erase_of_mem G,hlen]; rfl
    ·obtain ⟨p,hp',e⟩:=cR.1 q
     exact H p hp' e
    ·rcases bR.1 hp' with rfl|hp'
     ·exact hx
     ·exact hm p hp'
    ·rcases bR.1 hp' with rfl|hp'
     ·simp [List.lookup]
     ·have:(dO p.1==dO i)=false:=by simpa using M p.1 (hm p hp') (H p hp')
      simp only [List.lookup,this]
      exact hy p hp'
  |op j=>
   simp only [dp.ix] at H A ho hK G ⊢
   obtain ⟨T0,k,s',rfl,hT⟩:=yK s j hx
   obtain ⟨q1,q2,q3⟩:=List.pairwise_append.1 hp
   obtain ⟨q4,q5⟩:=List.pairwise_cons.1 q2
   have R: ∀ k',dp.op k'∈T0++dp.op k::s'→k'∈kP (T0++dp.op k::s') dn:=fun k' hk'=>by
    refine su.2 ⟨⟨_,hk',U⟩,fun p hp' e=>?_⟩
    have ht:=hm p hp'
    rcases List.mem_iff_getElem.1 hk' with ⟨a,ha,ea⟩
    rcases List.mem_iff_getElem.1 ht with ⟨c,hc,ec⟩
    rcases Nat.lt_trichotomy a c with q|q|q
    ·have:=eC.1 hp a c ha hc q
     simp only [rB,cE,bne_iff_ne,ea,ec,dp.ix] at this
     exact this.1 e.symm
    ·subst q; rw [ea] at ec; cases ec
    ·have:=eC.1 hp c a hc ha q
     simp only [rB,cE,bne_iff_ne,ea,ec,dp.ix] at this
     exact this.1 e
   have Ad:k=j:=by
    apply Classical.byContradiction
    intro An
    have hj':dp.op j∈s':=by
     rcases gu.1 hx with q|q
     ·obtain ⟨i,e⟩:=hT _ q; cases e
     ·rcases bR.1 q with e|q
      ·injection e with e; exact absurd e.symm An
      ·exact q
    have:=q4 _ hj'
    simp only [rB,cE,dp.ix] at this
    have J:=A k (R k sm)
    rw [this.2] at J; cases J
   subst Ad
   have F: ∀ x∈T0,∃ i b,x=dp.take i∧(i,b)∈dn:=fun x hx'=>by
    obtain ⟨i,rfl⟩:=hT x hx'
    apply Classical.byContradiction
    intro q
    have r:i∈kP (T0++dp.op k::s') dn:=su.2 ⟨⟨_,List.mem_append_left _ hx',rfl⟩,fun p hp' e=>q ⟨i,p.2,rfl,by rw [← e]; exact hp'⟩⟩
    have:=q3 _ hx' _ (cx ..)
    simp only [rB,cE,dp.ix] at this
    have J:=A i r
    rw [this.2] at J; cases J
   obtain ⟨dn',L',C2,V,J,O,W,h5,X⟩:=D2 T0 (dp.op k::s') dn L Y C F hp hn hm hy hl h
   refine Fb (fun a hf=>xB W a hf) X (V o ho Y (dn'.map fun p=>AO p.1 p.2) K fun L3 C3 P A0 Z g=>?_)
   have AB:(kP (T0++dp.op k::s') dn).filter (· != k)=kP s' dn':=by
    unfold kP
    rw [List.map_append,List.filter_append,List.map_cons,List.filter_append]
    have e1:(List.map dp.ix T0).filter (fun i=> !(dn.map (·.1)).contains i)=[]:=by
     apply List.filter_eq_nil_iff.2
     intro z hz
     obtain ⟨x,hx',rfl⟩:=cR.1 hz
     obtain ⟨i,b,rfl,hb⟩:=F x hx'
     simp only [dp.ix,Bool.not_eq_true',Bool.not_eq_false,List.contains_iff_mem]
     exact List.mem_map_of_mem (f:=(·.1)) hb
    rw [e1]
    simp only [List.filter_nil,List.nil_append]
    have u:k ∉ dn.map (·.1):=fun q=>by
     obtain ⟨p,hp',e⟩:=cR.1 q
     exact H p hp' e
    rw [List.filter_cons_of_pos (by simpa [dp.ix] using u),List.filter_cons_of_neg (by simp [dp.ix]),List.filter_filter]
    apply List.filter_congr
    intro z hz
    obtain ⟨y,hy',rfl⟩:=cR.1 hz
    have A1:y.ix≠k:=fun e=>by
     have:=q4 y hy'
     simp only [rB,cE,bne_iff_ne,dp.ix] at this
     exact this.1 e.symm
    rw [Bool.eq_iff_iff]
    simp only [cE,bne_iff_ne,Bool.not_eq_true',← Bool.not_eq_true,List.contains_iff_mem]
    constructor
    ·rintro ⟨_,hq⟩ hc
     obtain ⟨p,hp',e⟩:=cR.1 hc
     exact hq (by rw [← e]; exact List.mem_map_of_mem (f:=(·.1)) ((O p).1 hp').1)
    ·intro hq
     refine ⟨A1,fun hc=>?_⟩
     obtain ⟨p,hp',e⟩:=cR.1 hc
     apply hq
     rw [← e]
     refine List.mem_map_of_mem (f:=(·.1)) ((O p).2 ⟨hp',?_⟩)
     have ht:=hm p hp'
     rcases gu.1 ht with ht|ht
     ·exfalso
      have:=q3 _ ht _ (di _ hy')
      simp only [rB,cE,bne_iff_ne,dp.ix] at this
      exact this.1 e
     ·exact ht
   have N:(kP (T0++dp.op k::s') dn).Nodup:=by
    unfold kP
    refine List.Nodup.sublist List.filter_sublist<|List.pairwise_map.2 (hp.imp fun {a c} q=>?_)
    simp only [rB,cE,bne_iff_ne] at q
    exact q.1
   refine hK _ _ (fun w hw=>P w (hw.take (List.sublist_append_left _ _))) (fun q=>by cases q) ?_
   rw [AB]
   have hdn': ∀ p∈dn',dp.take p.1∈s':=fun p hp'=>by
    rcases bR.1 ((O p).1 hp').2 with e|e
    ·cases e
    ·exact e
   refine rh hal n s' dn' L3 Y C3 (fun i hi=>hal' i (by simp [hi])) q5 ?_ J hdn' (fun p hp'=>hy p ((O p).1 hp').1) (fun i hi=>?_) (uk Z) P g
   ·rw [← AB,← List.Nodup.erase_eq_filter N,List.length_erase_of_mem G,hlen]; rfl
   ·have:=cN.1 A0 _ (ph hi)
    simpa using this
/-- the rows, at any time; the others, one after the other -/
theorem FY {tb rem:List Nat} {L:dA} {C:List ay} (s:List dp) (B:dA) (dO:Nat→Nat) (VO:Nat→Nat→Value) (AO:Nat→Nat→ay) {n:Nat} (htb:tb=[]) (hr:s.map dp.ix=rem) (hn:rem.length=n) (hp:Un (oy ops) dO s=true) (hl:((vx dO s).all fun d=>(L.lookup d).isNone)=true) (hB:B.map (fun p=>L.lookup p.1)=B.map (fun p=>some p.2)) (hC: ∀ w,St E.S E.w0 C w→St E.S E.w0 C' w)
 (hal: ∀ i,dp.take i∈s→TK E ops D C' B dO VO AO i) (h:CH E ops D C' K0 B dO VO AO s L C):TN E ops D C' C1 (fun L C=>KJ E K0 D L C) tb n rem L C:=by
 subst htb hr
 have e:kP s []=s.map dp.ix:=by unfold kP; simp
 have:=rh (C1:=C1) (fun i=> .inr trivial) n s [] L [] C hal (Ao hp) (by rw [e]; exact hn) List.nodup_nil (fun p hp=>by cases hp) (fun p hp=>by cases hp) (fun i hi=>by
  have:=cN.1 hl _ (ph hi)
  simpa using this) (uk hB) hC h
 simpa [e] using this
theorem Aq {p:Nat→Prop}: ∀ i,dp.take i∈([]:List dp)→p i:=fun i h=>by cases h
theorem mM {p:Nat→Prop} {j:Nat} {s:List dp} (h: ∀ i,dp.take i∈s→p i): ∀ i,dp.take i∈dp.op j::s→p i:=fun i hi=>by
 rcases bR.1 hi with e|hi
 ·cases e
 ·exact h i hi
theorem iH {p:Nat→Prop} {j:Nat} {s:List dp} (hj:p j) (h: ∀ i,dp.take i∈s→p i): ∀ i,dp.take i∈dp.take j::s→p i:=fun i hi=>by
 rcases bR.1 hi with e|hi
 ·cases e; exact hj
 ·exact h i hi
end
section
variable {E:fp} {ops:Array Oper} {D:List Deferred} {C':List ay} {B:List (Nat×Value)} {dO:Nat→Nat} {VO:Nat→Nat→Value} {AO:Nat→Nat→ay}
variable {d:Nat} {ty:TypeId} {ps:String} {af:Array Edge}
theorem JH {i t e sz:Nat} (ho:ops[i]? =some ⟨some d,.buildSlice t 0 #[],ty,ps,af,none⟩) (ht:tE E.P t=some (e,sz)) (hd:Nat.blt d E.n=true) (h1:dO i=d) (h2: ∀ b,VO i b= .slice (some ⟨b,0,none⟩) 0 0) (h3: ∀ b,AO i b=cp b e []):TK E ops D C' B dO VO AO i:=fun o ho' L C K hB _ hk=>by
 rw [ho] at ho'; cases ho'
 exact qD U ht hd fun b=>aH (by have:=hk b; rw [h1,h2,h3] at this; exact this)
theorem wh {i t e sz n:Nat} {xs:List Operand} {vs:List Value} {cs zs:List Value} (ho:ops[i]? =some ⟨some d,.buildSlice t n ((xs.zipIdx.map fun p=>(p.2,p.1)).toArray),ty,ps,af,none⟩) (ht:tE E.P t=some (e,sz)) (hz:tZ E.P e=some zs) (hx:evs B xs=some vs) (hn:xs.length=n) (hp:Nat.blt 0 (n*sz)=true) (hb:Nat.ble (n*sz) 16777216=true) (hv: ∀ v∈vs,v.cells.size=sz)
 (hc:(vs.map (·.cells.toList)).flatten=cs) (hd:Nat.blt d E.n=true) (h1:dO i=d) (h2: ∀ b,VO i b= .slice (some ⟨b,0,none⟩) n n) (h3: ∀ b,AO i b=cp b e cs):TK E ops D C' B dO VO AO i:=fun o ho' L C K hB _ hk=>by
 rw [ho] at ho'; cases ho'
 exact d_ U ht hz (Be hB hx) hn hp hb hv hc hd fun b=>aH (by have:=hk b; rw [h1,h2,h3] at this; exact this)
end
section
variable {E:fp} {ops:Array Oper} {D:List Deferred} {C':List ay} {K0:Act→World→Prop} {B:List (Nat×Value)} {dO:Nat→Nat} {VO:Nat→Nat→Value} {AO:Nat→Nat→ay}
theorem rI {j:Nat} {s:List dp} {L:dA} {C:List ay} {o:Oper} (ho:ops[j]? =some o)
 (h: ∀ (Y:dA) (X:List ay) (K:Act→World→Prop),(∀ L' C'',(∀ w,St E.S E.w0 C'' w→St E.S E.w0 C' w)→((vx dO s).all fun d=>(L'.lookup d).isNone)=true→B.map (fun p=>L'.lookup p.1)=B.map (fun p=>some p.2)→CH E ops D C' K0 B dO VO AO s L' C''→KJ E K D (L'++Y) (C''++X))→RJ E ops (NQ K) [o] D (L++Y) (C++X)):CH E ops D C' K0 B dO VO AO (.op j::s) L C:=fun o' ho'=>by
 rw [ho] at ho'; cases ho'
 exact h
theorem oa {s:List dp} {L Y:dA} {C X:List ay} {K:Act→World→Prop} (hT: ∀ L' C'',(∀ w,St E.S E.w0 C'' w→St E.S E.w0 C' w)→((vx dO s).all fun d=>(L'.lookup d).isNone)=true→B.map (fun p=>L'.lookup p.1)=B.map (fun p=>some p.2)→CH E ops D C' K0 B dO VO AO s L' C''→KJ E K D (L'++Y) (C''++X)) (nL nC:Nat)
 (hL:L.take nL++Y=L) (hC:C.take nC++X=C) (h1: ∀ w,St E.S E.w0 (C.take nC) w→St E.S E.w0 C' w) (h2:((vx dO s).all fun d=>((L.take nL).lookup d).isNone)=true) (h3:B.map (fun p=>(L.take nL).lookup p.1)=B.map (fun p=>some p.2)) (h:CH E ops D C' K0 B dO VO AO s (L.take nL) (C.take nC)):RJ E ops (NQ K) [] D L C:=by
 have:=hT _ _ h1 h2 h3 h
 rw [hL,hC] at this
 exact aH this
theorem LL {c:Code} {Q:dv} {L L':dA} {C:List ay} (h:L'.map (fun p=>L.lookup p.1)=L'.map (fun p=>some p.2)) (k:WJ E c Q D L' C):WJ E c Q D L C:=fun a w hf hs=>k a w (xB (uk h) a hf) hs
theorem x7: ∀ {C:List ay} {i:Nat} {A:ay},C[i]? =some A→C.Perm (A::C.eraseIdx i)
 |[],i,A,h=>by simp at h
 |x::C,0,A,h=>by
  simp at h; subst h
  exact List.Perm.refl _
 |x::C,i+1,A,h=>((x7 (C:=C) (i:=i) (by simpa using h)).cons x).trans (List.Perm.swap _ _ _)
theorem St.front {S:BS} {w0 w:World} {C:List ay} {A:ay} (i:Nat) (hi:C[i]? =some A) (h:St S w0 C w):St S w0 (A::C.eraseIdx i) w:=h.perm (x7 hi)
theorem F9 {K:Act→World→Prop} {L:dA} {C:List ay} {A:ay} (i:Nat) (hi:C[i]? =some A) (h:KJ E K D L (A::C.eraseIdx i)):KJ E K D L C:=fun a w hf hs=>h a w hf (hs.front i hi)
theorem sB {Q:dv} {rest:List Oper} {L:dA} {C:List ay} {A:ay} (i:Nat) (hi:C[i]? =some A) (h:RJ E ops Q rest D L (A::C.eraseIdx i)):RJ E ops Q rest D L C:=fun a w hf hs=>h a w hf (hs.front i hi)
end
end
section
open Go.RowKit
def sV (ρ:Nat→Nat) (i b:Nat):Nat→Nat:=fun k=>if k=i then b else ρ k
theorem pH {ρ:Nat→Nat} {i b:Nat}:sV ρ i b i=b:=if_pos rfl
theorem ue {ρ:Nat→Nat} {i b k:Nat} (h:k≠i):sV ρ i b k=ρ k:=if_neg h
/-- what a row is made of stands ahead of it, with no operation between -/
def ox (deps:Nat→List Nat):List Nat→List dp→Bool
 |_,[]=>true
 |acc,.take i::s=>(deps i).all (fun k=>acc.contains k)&&ox deps (i::acc) s
 |_,.op _::s=>ox deps [] s
theorem sr {deps:Nat→List Nat}: ∀ {s:List dp} {acc:List Nat} {i k:Nat},ox deps acc s=true→dp.take i∈s→k∈deps i→k∈acc∨dp.take k∈s
 | .take j::s,acc,i,k,h,hi,hk=>by
  simp only [ox,cE] at h
  rcases bR.1 hi with e|hi
  ·cases e
   have:=cN.1 h.1 k hk
   exact .inl (List.contains_iff_mem.1 this)
  ·rcases sr h.2 hi hk with q|q
   ·rcases bR.1 q with rfl|q
    ·exact .inr (cx ..)
    ·exact .inl q
   ·exact .inr (di _ q)
 | .op j::s,acc,i,k,h,hi,hk=>by
  simp only [ox] at h
  rcases bR.1 hi with e|hi
  ·cases e
  ·rcases sr h hi hk with q|q
   ·cases q
   ·exact .inr (di _ q)
theorem u3 {deps:Nat→List Nat} {j:Nat} {s':List dp}: ∀ {T0:List dp} {acc:List Nat},ox deps acc (T0++ .op j::s')=true→ox deps [] s'=true
 |[],acc,h=>h
 | .take i::T0,acc,h=>by
  simp only [List.cons_append,ox,cE] at h
  exact u3 h.2
 | .op i::T0,acc,h=>by
  simp only [List.cons_append,ox] at h
  exact u3 h
section
variable (E:fp) (ops:Array Oper) (D:List Deferred) (C':List ay) (K0:Act→World→Prop) (B:List (Nat×Value)) (dO:Nat→Nat) (VO:Nat→(Nat→Nat)→Value) (AO:Nat→(Nat→Nat)→ay)
def FJ:List dp→(Nat→Nat)→dA→List ay→Prop
 |[],ρ,L,C=>KJ E K0 D L C
 | .take i::s,ρ,L,C=> ∀ b,FJ s (sV ρ i b) ((dO i,VO i (sV ρ i b))::L) (AO i (sV ρ i b)::C)
 | .op j::s,ρ,L,C=> ∀ o,ops[j]? =some o→ ∀ (Y:dA) (X:List ay) (K:Act→World→Prop),(∀ L' C'',(∀ w,St E.S E.w0 C'' w→St E.S E.w0 C' w)→((vx dO s).all fun d=>(L'.lookup d).isNone)=true→B.map (fun p=>L'.lookup p.1)=B.map (fun p=>some p.2)→FJ s ρ L' C''→KJ E K D (L'++Y) (C''++X))→RJ E ops (NQ K) [o] D (L++Y) (C++X)
/-- a row that is made at any time behind those that it is made of -/
def Up (deps:Nat→List Nat) (i:Nat):Prop:= ∀ o,ops[i]? =some o→ ∀ (ρ:Nat→Nat) (L:dA) (C:List ay) (K:Act→World→Prop),yW B L→(∀ w,St E.S E.w0 C w→St E.S E.w0 C' w)→(∀ k∈deps i,L.lookup (dO k)=some (VO k ρ))→(∀ b,KJ E K D ((dO i,VO i (sV ρ i b))::L) (AO i (sV ρ i b)::C))→RJ E ops (NQ K) [o] D L C
/-- what is known of a row hangs on its own place and on those of what it is made of -/
def QC (deps:Nat→List Nat) (i:Nat):Prop:= ∀ ρ ρ':Nat→Nat,ρ i=ρ' i→(∀ k∈deps i,ρ k=ρ' k)→VO i ρ=VO i ρ'∧AO i ρ=AO i ρ'
end
section
variable {E:fp} {ops:Array Oper} {D:List Deferred} {C' C1:List ay} {K0:Act→World→Prop} {B:List (Nat×Value)} {dO:Nat→Nat} {VO:Nat→(Nat→Nat)→Value} {AO:Nat→(Nat→Nat)→ay} {deps:Nat→List Nat}
/-- rows that were made before are taken up -/
theorem AV (ρa:Nat→Nat): ∀ (T0 s':List dp) (acc:List Nat) (ρc:Nat→Nat) (dn:List Nat) (L Y:dA) (C:List ay),(∀ x∈T0,∃ i,x= .take i∧i∈dn)→(∀ i,dp.take i∈T0++s'→QC VO AO deps i)→ox deps acc (T0++s')=true→(∀ k∈acc,ρc k=ρa k)→(T0++s').Pairwise (fun x y=>rB (oy ops) dO x y=true)→dn.Nodup→(∀ i∈dn,dp.take i∈T0++s')→(∀ i∈dn,Y.lookup (dO i)=some (VO i ρa))→(∀ i,dp.take i∈T0++s'→L.lookup (dO i)=none)→
 FJ E ops D C' K0 B dO VO AO (T0++s') ρc L C→ ∃ (ρc':Nat→Nat) (dn':List Nat) (L':dA) (C2:List ay),FJ E ops D C' K0 B dO VO AO s' ρc' L' C2∧dn'.Nodup∧(∀ i,i∈dn'↔i∈dn∧dp.take i∈s')∧(∀ t v,(L'++Y).lookup t=some v→(L++Y).lookup t=some v)∧(∀ i,dp.take i∈s'→L'.lookup (dO i)=none)∧(∀ w,St E.S E.w0 (C++dn.map fun i=>AO i ρa) w→St E.S E.w0 (C2++dn'.map fun i=>AO i ρa) w)
 |[],s',acc,ρc,dn,L,Y,C,_,_,_,_,_,hn,hm,_,hl,h=>⟨ρc,dn,L,C,h,hn,fun i=>⟨fun q=>⟨q,hm i q⟩,fun q=>q.1⟩,fun t v q=>q,hl,fun w q=>q⟩
 |x::T0,s',acc,ρc,dn,L,Y,C,ht,hloc,hd,hacc,hp,hn,hm,hy,hl,h=>by
  obtain ⟨i,rfl,hb⟩:=ht x (cx ..)
  obtain ⟨J,P⟩:=List.pairwise_cons.1 hp
  have hd:(deps i).all (fun k=>acc.contains k)=true∧ox deps (i::acc) (T0++s')=true:=by
   have:ox deps acc (.take i::(T0++s'))=true:=hd
   simp only [ox,cE] at this
   exact this
  have AB: ∀ y∈T0++s',i≠y.ix:=fun y hy e=>by
   have:=J y hy
   simp only [rB,cE,bne_iff_ne,dp.ix] at this
   exact this.1 e
  have N: ∀ k,dp.take k∈T0++s'→dO k≠dO i:=fun k hk e=>by
   have:=J _ hk
   simp only [rB,cE,bne_iff_ne] at this
   exact this.2 e.symm
  have K:dn.Perm (i::dn.erase i):=List.perm_cons_erase hb
  have H:(dn.erase i).Nodup∧i ∉ dn.erase i:=by
   have:=K.nodup_iff.1 hn
   exact ⟨(List.nodup_cons.1 this).2,(List.nodup_cons.1 this).1⟩
  have A: ∀ k∈dn.erase i,k∈dn∧k≠i:=fun k hk=>⟨List.mem_of_mem_erase hk,fun e=>H.2 (e▸hk)⟩
  have O:L.lookup (dO i)=none:=hl i (cx ..)
  have hv:=hloc i (cx ..) (sV ρc i (ρa i)) ρa pH fun k hk=>by
   by_cases e:k=i
   ·subst e; exact pH
   ·rw [ue e]
    exact hacc k (List.contains_iff_mem.1 (cN.1 hd.1 k hk))
  have h':=h (ρa i)
  rw [hv.1,hv.2] at h'
  obtain ⟨ρc',dn',L',C2,R,T,AA,V,W,X⟩:=AV ρa T0 s' (i::acc) (sV ρc i (ρa i)) (dn.erase i) ((dO i,VO i ρa)::L) Y (AO i ρa::C) (fun x hx=>by
   obtain ⟨k,rfl,hk⟩:=ht x (di _ hx)
   refine ⟨k,U,?_⟩
   have F:k≠i:=fun e=>AB _ (List.mem_append_left _ hx) e.symm
   exact (List.mem_erase_of_ne F).2 hk) (fun k hk=>hloc k (di _ hk)) hd.2 (fun k hk=>by
   by_cases e:k=i
   ·subst e; exact pH
   ·rw [ue e]
    rcases bR.1 hk with q|q
    ·exact absurd q e
    ·exact hacc k q) P H.1 (fun k hk=>by
   obtain ⟨M,G⟩:=A k hk
   rcases bR.1 (hm k M) with e|e
   ·injection e with e; exact absurd e G
   ·exact e) (fun k hk=>hy k (A k hk).1) (fun k hk=>by
   have:(dO k==dO i)=false:=by simpa using N k hk
   simp only [List.lookup,this]
   exact hl k (di _ hk)) h'
  refine ⟨ρc',dn',L',C2,R,T,fun k=>?_,fun t v hv=>?_,W,fun w hw=>X w ?_⟩
  ·rw [AA]
   constructor
   ·rintro ⟨M,G⟩; exact ⟨(A k M).1,G⟩
   ·rintro ⟨M,G⟩
    have F:k≠i:=fun e=>AB _ (List.mem_append_right _ G) e.symm
    exact ⟨(List.mem_erase_of_ne F).2 M,G⟩
  ·have:=V t v hv
   rw [jh] at this ⊢
   by_cases e:t=dO i
   ·subst e
    simp only [List.lookup,beq_self_eq_true] at this
    rw [O]; simp only
    rw [hy _ hb]; exact this
   ·have Q:(t==dO i)=false:=by simpa using e
    simp only [List.lookup,Q] at this
    exact this
  ·refine hw.perm ?_
   show (C++dn.map fun i=>AO i ρa).Perm (AO i ρa::(C++(dn.erase i).map fun i=>AO i ρa))
   refine ((K.map fun k:Nat=>AO k ρa).append_left C).trans ?_
   exact List.perm_middle
def qb (s:List dp) (dn:List Nat):List Nat:=(s.map dp.ix).filter fun i=> !dn.contains i
theorem rX {s:List dp} {dn:List Nat} {i:Nat}:i∈qb s dn↔(∃ x∈s,x.ix=i)∧i ∉ dn:=by
 unfold qb
 rw [List.mem_filter,cR]
 refine and_congr Iff.rfl ?_
 rw [Bool.not_eq_true',← Bool.not_eq_true,List.contains_iff_mem]
theorem Ko {s:List dp} {x y:dp} (hp:s.Pairwise fun x y=>rB (oy ops) dO x y=true) (hx:x∈s) (hy:y∈s) (h:x.ix=y.ix):x=y:=by
 rcases List.mem_iff_getElem.1 hx with ⟨a,ha,ea⟩
 rcases List.mem_iff_getElem.1 hy with ⟨c,hc,ec⟩
 rcases Nat.lt_trichotomy a c with q|q|q
 ·have:=eC.1 hp a c ha hc q
  simp only [rB,cE,bne_iff_ne,ea,ec] at this
  exact absurd h this.1
 ·subst q; rw [← ea,ec]
 ·have:=eC.1 hp c a hc ha q
  simp only [rB,cE,bne_iff_ne,ea,ec] at this
  exact absurd h.symm this.1
theorem Tj {s:List dp} {i k:Nat} (hp:s.Pairwise fun x y=>rB (oy ops) dO x y=true) (hi:dp.take i∈s) (hk:dp.take k∈s) (h:k≠i):dO k≠dO i:=fun e=>by
 rcases List.mem_iff_getElem.1 hi with ⟨a,ha,ea⟩
 rcases List.mem_iff_getElem.1 hk with ⟨c,hc,ec⟩
 rcases Nat.lt_trichotomy a c with q|q|q
 ·have:=eC.1 hp a c ha hc q
  simp only [rB,cE,bne_iff_ne,ea,ec] at this
  exact this.2 e.symm
 ·subst q; rw [ea] at ec; cases ec; exact h rfl
 ·have:=eC.1 hp c a hc ha q
  simp only [rB,cE,bne_iff_ne,ea,ec] at this
  exact this.2 e
theorem x8 {s:List dp} {dn:List Nat} (hp:s.Pairwise fun x y=>rB (oy ops) dO x y=true):(qb s dn).Nodup:=by
 unfold qb
 refine List.Nodup.sublist List.filter_sublist<|List.pairwise_map.2 (hp.imp fun {a c} q=>?_)
 simp only [rB,cE,bne_iff_ne] at q
 exact q.1
theorem p9: ∀ (n:Nat) (s:List dp) (ρ ρc:Nat→Nat) (dn:List Nat) (L Y:dA) (C:List ay),(∀ i,dp.take i∈s→Up E ops D C' B dO VO AO deps i)→(∀ i,dp.take i∈s→QC VO AO deps i)→ox deps [] s=true→(∀ i,dp.take i∈s→ ∀ k∈deps i,iw (oy ops) k i=true)→s.Pairwise (fun x y=>rB (oy ops) dO x y=true)→(qb s dn).length=n→dn.Nodup→(∀ i∈dn,dp.take i∈s)→(∀ i∈dn,∀ k∈deps i,k∈dn)→(∀ i∈dn,Y.lookup (dO i)=some (VO i ρ))→(∀ i,dp.take i∈s→L.lookup (dO i)=none)→yW B L→
 (∀ w,St E.S E.w0 C w→St E.S E.w0 C' w)→FJ E ops D C' K0 B dO VO AO s ρc L C→TN E ops D C' C1 (fun L C=>KJ E K0 D L C) [] n (qb s dn) (L++Y) (C++dn.map fun i=>AO i ρ)
 |0,s,ρ,ρc,dn,L,Y,C,_,hloc,hdp,han,hp,hlen,hn,hm,hdd,hy,hl,hB,hC,h=>by
  have hr:qb s dn=[]:=ko hlen
  have R: ∀ x∈s,∃ i,x=dp.take i∧i∈dn:=fun x hx=>by
   have hx':x.ix ∉ qb s dn:=by rw [hr]; exact List.not_mem_nil
   rw [rX] at hx'
   have hd:x.ix∈dn:=Classical.byContradiction fun q=>hx' ⟨⟨x,hx,rfl⟩,q⟩
   have:=Ko hp hx (hm _ hd) rfl
   exact ⟨x.ix,this,hd⟩
  obtain ⟨ρc',dn',L',C2,P,M,N,V,h5,W⟩:=AV ρ s [] [] ρc dn L Y C R (by simpa using hloc) (by simpa using hdp) (fun k hk=>by cases hk) (by simpa using hp) hn (by simpa using hm) hy (by simpa using hl) (by simpa using h)
  show KJ E K0 D _ _
  have hd:dn'=[]:=List.eq_nil_iff_forall_not_mem.2 fun p hp=>by have:=((N p).1 hp).2; cases this
  subst hd
  refine wU (L2:=L') (C2:=C2) (fun a hf=>xB (fun t v ht=>V t v (by rw [jh,ht])) a hf) (fun w hw=>by have:=W w hw; simpa using this) P
 |n+1,s,ρ,ρc,dn,L,Y,C,hal',hloc,hdp,han,hp,hlen,hn,hm,hdd,hy,hl,hB,hC,h=>by
  intro i hi o ho K hK
  obtain ⟨H,f⟩:=List.mem_filter.1 hi
  obtain ⟨⟨x,hx,rfl⟩,G⟩:=rX.1 H
  have F: ∀ k∈qb s dn,iw (oy ops) k x.ix=false:=fun k hk=>by
   have:=cN.1 f k hk
   simpa using this
  cases x with
  |take i=>
   simp only [dp.ix] at G F ho hK H ⊢
   have c:=hl i hx
   have A: ∀ k∈deps i,k∈dn:=fun k hk=>by
    have m:dp.take k∈s:=by
     rcases sr hdp hx hk with q|q
     ·cases q
     ·exact q
    apply Classical.byContradiction
    intro q
    have P:=F k (rX.2 ⟨⟨_,m,rfl⟩,q⟩)
    rw [han i hx k hk] at P; cases P
   refine hal' i hx o ho ρ _ _ K hB.app (fun w hw=>hC w (hw.take (List.sublist_append_left _ _))) (fun k hk=>by
    rw [jh,hl k (hm k (A k hk))]; exact hy k (A k hk)) fun b=>?_
   have J: ∀ k∈dn,VO k (sV ρ i b)=VO k ρ∧AO k (sV ρ i b)=AO k ρ:=fun k hk=>hloc k (hm k hk) _ _ (ue fun e=>G (e▸hk)) fun d hd=>ue fun e=>G (e▸hdd k hk d hd)
   have AB:(qb s dn).filter (· != i)=qb s (i::dn):=by
    unfold qb
    rw [List.filter_filter]
    apply List.filter_congr
    intro k _
    simp only [List.contains_cons,Bool.not_or]
    rfl
   have O:=x8 (dn:=dn) hp
   have T:(dn.map fun k=>AO k ρ)=dn.map fun k=>AO k (sV ρ i b):=List.map_congr_left fun k hk=>(J k hk).2.symm
   rw [T]
   refine wU (L2:=L++((dO i,VO i (sV ρ i b))::Y)) (C2:=C++(i::dn).map fun k=>AO k (sV ρ i b)) (fun a hf=>xB (fun t v ht=>?_) a hf) (fun w hw=>hw.perm (List.perm_middle).symm) (hK _ _ (fun w hw=>hC w (hw.take (List.sublist_append_left _ _))) (fun q=>by cases q) ?_)
   ·rw [jh] at ht
    by_cases e:t=dO i
    ·subst e
     rw [c] at ht
     simp only [List.lookup,beq_self_eq_true] at ht ⊢
     exact ht
    ·have e2:(t==dO i)=false:=by simpa using e
     simp only [List.lookup,e2] at ht ⊢
     rw [jh]; exact ht
   ·rw [AB]
    refine p9 n s (sV ρ i b) ρc (i::dn) L ((dO i,VO i (sV ρ i b))::Y) C hal' hloc hdp han hp ?_ (List.nodup_cons.2 ⟨G,hn⟩) (fun k hk=>?_) (fun k hk d hd=>?_) (fun k hk=>?_) hl hB hC h
    ·rw [← AB,← List.Nodup.erase_eq_filter O,List.length_erase_of_mem H,hlen]; rfl
    ·rcases bR.1 hk with rfl|hk
     ·exact hx
     ·exact hm k hk
    ·rcases bR.1 hk with rfl|hk
     ·exact di _ (A d hd)
     ·exact di _ (hdd k hk d hd)
    ·rcases bR.1 hk with rfl|hk
     ·simp [List.lookup]
     ·have:(dO k==dO i)=false:=by simpa using Tj hp hx (hm k hk) (fun e=>G (e▸hk))
      simp only [List.lookup,this]
      rw [(J k hk).1]; exact hy k hk
  |op j=>
   simp only [dp.ix] at G F ho hK H ⊢
   obtain ⟨T0,k,s',rfl,hT⟩:=yK s j hx
   obtain ⟨q1,q2,q3⟩:=List.pairwise_append.1 hp
   obtain ⟨q4,q5⟩:=List.pairwise_cons.1 q2
   have AA: ∀ k',dp.op k'∈T0++dp.op k::s'→k'∈qb (T0++dp.op k::s') dn:=fun k' hk'=>by
    refine rX.2 ⟨⟨_,hk',U⟩,fun q=>?_⟩
    have:=Ko hp hk' (hm _ q) rfl
    cases this
   have l:k=j:=by
    apply Classical.byContradiction
    intro r
    have hj':dp.op j∈s':=by
     rcases gu.1 hx with q|q
     ·obtain ⟨i,e⟩:=hT _ q; cases e
     ·rcases bR.1 q with e|q
      ·injection e with e; exact absurd e.symm r
      ·exact q
    have:=q4 _ hj'
    simp only [rB,cE,dp.ix] at this
    have M:=F k (AA k sm)
    rw [this.2] at M; cases M
   subst l
   have A: ∀ x∈T0,∃ i,x=dp.take i∧i∈dn:=fun x hx'=>by
    obtain ⟨i,rfl⟩:=hT x hx'
    refine ⟨i,U,Classical.byContradiction fun q=>?_⟩
    have g:i∈qb (T0++dp.op k::s') dn:=rX.2 ⟨⟨_,List.mem_append_left _ hx',rfl⟩,q⟩
    have:=q3 _ hx' _ (cx ..)
    simp only [rB,cE,dp.ix] at this
    have M:=F i g
    rw [this.2] at M; cases M
   obtain ⟨ρc',dn',L',C2,P,M,N,V,h5,W⟩:=AV ρ T0 (dp.op k::s') [] ρc dn L Y C A hloc hdp (fun k hk=>by cases hk) hp hn hm hy hl h
   refine Fb (fun a hf=>xB V a hf) W (P o ho Y (dn'.map fun i=>AO i ρ) K fun L3 C3 Q u X Z=>?_)
   have AB:(qb (T0++dp.op k::s') dn).filter (· != k)=qb s' dn':=by
    unfold qb
    rw [List.map_append,List.filter_append,List.map_cons,List.filter_append]
    have e1:(List.map dp.ix T0).filter (fun i=> !dn.contains i)=[]:=by
     apply List.filter_eq_nil_iff.2
     intro z hz
     obtain ⟨x,hx',rfl⟩:=cR.1 hz
     obtain ⟨i,rfl,hb⟩:=A x hx'
     simp only [dp.ix,Bool.not_eq_true',Bool.not_eq_false,List.contains_iff_mem]
     exact hb
    rw [e1]
    simp only [List.filter_nil,List.nil_append]
    rw [List.filter_cons_of_pos (by simpa [dp.ix] using G),List.filter_cons_of_neg (by simp [dp.ix]),List.filter_filter]
    apply List.filter_congr
    intro z hz
    obtain ⟨y,hy',rfl⟩:=cR.1 hz
    have AC:y.ix≠k:=fun e=>by
     have:=q4 y hy'
     simp only [rB,cE,bne_iff_ne,dp.ix] at this
     exact this.1 e.symm
    rw [Bool.eq_iff_iff]
    simp only [cE,bne_iff_ne,Bool.not_eq_true',← Bool.not_eq_true,List.contains_iff_mem]
    constructor
    ·rintro ⟨_,hq⟩ hc
     exact hq ((N _).1 hc).1
    ·intro hq
     refine ⟨AC,fun hc=>hq ((N _).2 ⟨hc,?_⟩)⟩
     have ht:=hm _ hc
     have:=Ko hp ht (List.mem_append_right _ (di _ hy')) rfl
     rw [this]; exact di _ hy'
   have O:=x8 (dn:=dn) hp
   refine hK _ _ (fun w hw=>Q w (hw.take (List.sublist_append_left _ _))) (fun q=>by cases q) ?_
   rw [AB]
   have hdn': ∀ i∈dn',dp.take i∈s':=fun i hi'=>by
    rcases bR.1 ((N i).1 hi').2 with e|e
    ·cases e
    ·exact e
   refine p9 n s' ρ ρc' dn' L3 Y C3 (fun i hi=>hal' i (by simp [hi])) (fun i hi=>hloc i (by simp [hi])) (u3 hdp) (fun i hi=>han i (by simp [hi])) q5 ?_ M hdn' (fun i hi' d hd=>?_) (fun i hi'=>hy i ((N i).1 hi').1) (fun i hi=>?_) (uk X) Q Z
   ·rw [← AB,← List.Nodup.erase_eq_filter O,List.length_erase_of_mem H,hlen]; rfl
   ·refine (N d).2 ⟨hdd i ((N i).1 hi').1 d hd,di _ ?_⟩
    rcases sr (u3 hdp) (hdn' i hi') hd with q|q
    ·cases q
    ·exact q
   ·have:=cN.1 u _ (ph hi)
    simpa using this
/-- the rows, at any time; the others, one after the other -/
theorem Jp {tb rem:List Nat} {L:dA} {C:List ay} (s:List dp) (B:dA) (dO:Nat→Nat) (VO:Nat→(Nat→Nat)→Value) (AO:Nat→(Nat→Nat)→ay) (deps:Nat→List Nat) {n:Nat} (htb:tb=[]) (hr:s.map dp.ix=rem) (hn:rem.length=n) (hp:Un (oy ops) dO s=true) (hl:((vx dO s).all fun d=>(L.lookup d).isNone)=true) (hB:B.map (fun p=>L.lookup p.1)=B.map (fun p=>some p.2)) (hC: ∀ w,St E.S E.w0 C w→St E.S E.w0 C' w)
 (hdp:ox deps [] s=true) (han:(s.all fun x=>match x with | .take i=>(deps i).all fun k=>iw (oy ops) k i| .op _=>true)=true) (hloc: ∀ i,dp.take i∈s→QC VO AO deps i) (hal: ∀ i,dp.take i∈s→Up E ops D C' B dO VO AO deps i) (h: ∀ ρ,FJ E ops D C' K0 B dO VO AO s ρ L C):TN E ops D C' C1 (fun L C=>KJ E K0 D L C) tb n rem L C:=by
 subst htb hr
 have e:qb s []=s.map dp.ix:=by unfold qb; simp
 have:=p9 (C1:=C1) n s (fun _=>0) (fun _=>0) [] L [] C hal hloc hdp (fun i hi k hk=>cN.1 (cN.1 han _ hi) k hk) (Ao hp) (by rw [e]; exact hn) List.nodup_nil (fun p hp=>by cases hp) (fun p hp=>by cases hp) (fun p hp=>by cases hp) (fun i hi=>by
  have:=cN.1 hl _ (ph hi)
  simpa using this) (uk hB) hC (h _)
 simpa [e] using this
end
section
variable {E:fp} {ops:Array Oper} {D:List Deferred} {C':List ay} {K0:Act→World→Prop} {B:List (Nat×Value)} {dO:Nat→Nat} {VO:Nat→(Nat→Nat)→Value} {AO:Nat→(Nat→Nat)→ay} {deps:Nat→List Nat}
variable {d:Nat} {ty:TypeId} {ps:String} {af:Array Edge}
theorem JD {i t e sz n:Nat} {xs:List Operand} {vs:List Value} {cs zs:List Value} (ho:ops[i]? =some ⟨some d,.buildSlice t n ((xs.zipIdx.map fun p=>(p.2,p.1)).toArray),ty,ps,af,none⟩) (ht:tE E.P t=some (e,sz)) (hz:tZ E.P e=some zs) (hx:evs B xs=some vs) (hn:xs.length=n) (hp:Nat.blt 0 (n*sz)=true) (hb:Nat.ble (n*sz) 16777216=true) (hv: ∀ v∈vs,v.cells.size=sz)
 (hc:(vs.map (·.cells.toList)).flatten=cs) (hd:Nat.blt d E.n=true) (h1:dO i=d) (h2: ∀ ρ,VO i ρ= .slice (some ⟨ρ i,0,none⟩) n n) (h3: ∀ ρ,AO i ρ=cp (ρ i) e cs):Up E ops D C' B dO VO AO deps i:=fun o ho' ρ L C K hB _ _ hk=>by
 rw [ho] at ho'; cases ho'
 exact d_ U ht hz (Be hB hx) hn hp hb hv hc hd fun b=>aH (by have:=hk b; rw [h1,h2,h3,pH] at this; exact this)
/-- a row of one element, which is another such row -/
theorem PF {i k j t e m:Nat} {zs:List Value} (ho:ops[i]? =some ⟨some d,.buildSlice t 1 #[(0,.tmp j)],ty,ps,af,none⟩) (ht:tE E.P t=some (e,1)) (hz:tZ E.P e=some zs) (hd:Nat.blt d E.n=true) (h1:dO i=d) (hk:dO k=j) (hne:(k==i)=false) (hdep:deps i=[k]) (hv: ∀ ρ,VO k ρ= .slice (some ⟨ρ k,0,none⟩) m m) (h2: ∀ ρ,VO i ρ= .slice (some ⟨ρ i,0,none⟩) 1 1) (h3: ∀ ρ,AO i ρ=cp (ρ i) e [.slice (some ⟨ρ k,0,none⟩) m m]):Up E ops D C' B dO VO AO deps i:=fun o ho' ρ L C K hB _ hl F=>by
 rw [ho] at ho'; cases ho'
 have A:=hl k (by rw [hdep]; exact cv.2 rfl)
 rw [hk,hv] at A
 refine d_ (xs:=[.tmp j]) (vs:=[.slice (some ⟨ρ k,0,none⟩) m m]) (cs:=[.slice (some ⟨ρ k,0,none⟩) m m]) U ht hz (by simp [evs,ev,A]) U U U (fun v hv=>by rw [cv.1 hv]; rfl) U hd fun b=>aH ?_
 have:=F b
 rw [h1,h2,h3,pH,ue (fun e=>by subst e; simp at hne)] at this
 exact this
theorem EP {j:Nat} {s:List dp} {ρ:Nat→Nat} {L:dA} {C:List ay} {o:Oper} (ho:ops[j]? =some o)
 (h: ∀ (Y:dA) (X:List ay) (K:Act→World→Prop),(∀ L' C'',(∀ w,St E.S E.w0 C'' w→St E.S E.w0 C' w)→((vx dO s).all fun d=>(L'.lookup d).isNone)=true→B.map (fun p=>L'.lookup p.1)=B.map (fun p=>some p.2)→FJ E ops D C' K0 B dO VO AO s ρ L' C''→KJ E K D (L'++Y) (C''++X))→RJ E ops (NQ K) [o] D (L++Y) (C++X)):FJ E ops D C' K0 B dO VO AO (.op j::s) ρ L C:=fun o' ho'=>by
 rw [ho] at ho'; cases ho'
 exact h
theorem D_ {s:List dp} {ρ:Nat→Nat} {L Y:dA} {C X:List ay} {K:Act→World→Prop} (hT: ∀ L' C'',(∀ w,St E.S E.w0 C'' w→St E.S E.w0 C' w)→((vx dO s).all fun d=>(L'.lookup d).isNone)=true→B.map (fun p=>L'.lookup p.1)=B.map (fun p=>some p.2)→FJ E ops D C' K0 B dO VO AO s ρ L' C''→KJ E K D (L'++Y) (C''++X)) (nL nC:Nat)
 (hL:L.take nL++Y=L) (hC:C.take nC++X=C) (h1: ∀ w,St E.S E.w0 (C.take nC) w→St E.S E.w0 C' w) (h2:((vx dO s).all fun d=>((L.take nL).lookup d).isNone)=true) (h3:B.map (fun p=>(L.take nL).lookup p.1)=B.map (fun p=>some p.2)) (h:FJ E ops D C' K0 B dO VO AO s ρ (L.take nL) (C.take nC)):RJ E ops (NQ K) [] D L C:=by
 have:=hT _ _ h1 h2 h3 h
 rw [hL,hC] at this
 exact aH this
end
end
section
open Go.RowKit
theorem K9 (n lo hi:Int) (g1 g2:Nat):
 dL Tryz.prog 51 [(vI n),(vP g1),(vP g2)] [(cp g1 3 [(vI lo)]),(cp g2 3 [(vI hi)])] (vB (decide (n<lo∨hi<n))):=by
 refine bH kr Tryz.func51 U U fun D Q hQ hN=>?_
 try dsimp only
 refine WS fun _ B=>bE 1 U<|RK B<|WS fun _ A=>rP 4 [] (mr 0 U I) ?_
 refine bK (t:=8) U (aU fun C=>?_) (aV fun C=>?_)
 ·refine rP 5 [] I ?_
  refine RK A<|aq<|Q1 hQ U U U ?_
  exact cB (dN om).symm
 refine rP 5 [] (mr 1 U I) ?_
 refine RK A<|aq<|Q1 hQ U U U ?_
 exact cB (gR.2 om)
theorem iG (lo hi:Int) (l:List Int) (lA:OA) (lC:Nat) (hlen:l.length≤1000000):
 dL Tryz.prog 28 [(vI lo),(vI hi),(vS lA l.length lC)] [(rd lA l.length 1 (l.map iC))] (vB (qP lo hi l)):=by
 refine bH kr Tryz.func28 U U fun F Q hQ hN=>?_
 try dsimp only
 refine WS fun _ D=>wR U U fun A=>wR U U fun B=>bE 1 U<|RK D<|WS fun _ E=>rP 1 [] I ?_
 refine rS (FU U) ?_
 refine rS (CL (qt l lA lC (Value.func (.func 51) [].toArray [(vP A),(vP B)].toArray) (fun C=>(decide (C<lo∨hi<C))) (dT [(cp A 3 [(vI lo)]),(cp B 3 [(vI hi)])]) (by intro C _; exact k7 (fi:=[]) (ca:=[(vP A),(vP B)]) (jS (K9 C lo hi A B) (bk [0,1]))) hlen) (gJ 2 U U<|aC (jX (bk [1,0]))<|aO) U) ?_
 refine rP 2 [] I ?_
 refine RK E<|aq ?_
 exact Q1 hQ U U U U
theorem uO (o fx:Bool) (tm:ag) (rv:cb):
 dL Tryz.prog 52 [(vA (aM.cells (aM.mk o fx tm rv)))] [] (vB (decide (o=false∧fx=false))):=by
 refine bH kr Tryz.func52 U U fun E Q hQ hN=>?_
 try dsimp only
 refine WS fun _ B=>eO U fun D=>bE 1 U<|RK B<|WS fun _ A=>rP 4 [] (mc 0 U I) ?_
 refine bU (t:=6) U (fun C=>?_) (fun C=>?_)
 ·rw [Bool.not_eq_false'] at C
  refine rP 5 [] I ?_
  refine RK A<|aq<|Q1 hQ U U U ?_
  clear hQ hN A B
  refine cB ?_
  (simp_all; done)
 rw [Bool.not_eq_true'] at C
 refine rP 5 [] (mc 0 U I) ?_
 refine RK A<|aq<|Q1 hQ U U U ?_
 clear hQ hN A B
 refine cB ?_
 (simp_all; done)
theorem M0 (l:List aK) (lA:OA) (lC:Nat) (f:Value) (p:Int→aK→Bool) (X:ay) (hf: ∀ x0 x1,(∃ i_:Nat,x0=(i_:Int)∧l[i_]? =some x1)→DI Tryz.prog f [.int .i64 x0,.agg (aK.cells x1).toArray] [X] (.bool (p x0 x1))) (hlen:l.length≤1000000):
 pS Tryz.prog 69 [(vS lA l.length lC),f] [(rd lA l.length 4 (l.map aK.cells)),X] (fun (x:(OA)×Nat)=>(vS x.1 ((l0 (ib l p) l.length).length) x.2)) (fun (x:(OA)×Nat)=>True) (fun (x:(OA)×Nat)=>[(own x.1 x.2 3 1 ((l0 (ib l p) l.length).map iC))]):=by
 refine fB kr Tryz.func69 U U fun Z Q hQ hN=>?_
 try dsimp only
 refine WS fun _ M=>bE 1 U<|RK M<|WS fun _ N=>bE 1 U<|RK N<|ao fun _ O=>WS fun _ R=>rP 3 [] I ?_
 refine RK R<|aI<|eK 3 1 ?_
 have A:(0≤l.length):=by exact Nat.zero_le _
 refine bZ (ι:={z:Nat×(OA)×Nat // (z.1≤l.length)}) [1,8,9] [1,2] U U (fun z=>[(5,(vS z.1.2.1 ((l0 (ib l p) z.1.1).length) z.1.2.2)),(10,(vI (z.1.1:Int)))]) (fun z=>[(own z.1.2.1 z.1.2.2 3 1 ((l0 (ib l p) z.1.1).map iC))]) (fun _=>rfl) (fun _=>rfl) (fun z=>l.length-z.1.1) ⟨(0,none,0),A⟩ (bu U) (aQ [1,2,0]) ?_
 clear A
 rintro ⟨⟨i,a,c⟩,C⟩ J5 D
 try dsimp only at C
 try dsimp only
 refine WS fun _ S=>rP 1 [] I ?_
 refine RK S<|ao fun _ T=>bW U (aV fun Y=>?_) (aU fun Y=>?_)
 ·refine bS<|ai<|ai<|aL<|KK O<|WS fun _ G=>?_
  rw [show (l0 (ib l p) i)=(l0 (ib l p) l.length) from by rw [show i=l.length by omega]]
  refine rP 2 [] I ?_
  refine RK G<|aq<|LX hQ (a,c) [2] [] I U U U U ?_
  trivial
 refine WK T<|ao fun _ H=>aI<|WS fun _ E=>rP 1 [] I ?_
 obtain ⟨x,hx⟩:=aJ l i om
 have AA:=bM aK.cells hx
 refine rS (IA i U (aB 0 U) yQ dc om om)<|rS (lM i 0 (aK.cells x) U b_ (aB 0 U) AA U dc U U)<|AL U PI fun V=>bE 1 U<|fJ U SR U<|RK E<|WS fun _ F=>rP 3 [] (mc 0 U I) ?_
 refine rS (SX (qk U U U (hf (i:Int) x ⟨_,U,hx⟩) (bk [2])) U U)<|RK F<|bW U (fun B=>?_) (fun B=>?_)
 ·refine cu<|aR<|KK H<|aw<|rP 2 [] I ?_
  refine aH ?_
  rw [show l0 (ib l p) i=l0 (ib l p) (i+1) from (s8 (by rw [sG hx]; simpa using B)).symm]
  have J:(vI (((i+1):Nat):Int))=(vI ((i:Int)+1)):=by exact cI om
  refine bq (D ⟨((i+1),a,c),(by first|omega|(simp only []; omega))⟩ _ _ _ U os (cY 4<|bw U J<|dG.nil _) (aQ [1,2,3]))
 refine aw<|rP 2 [] I ?_
 refine d_ (xs:=[.tmp 20]) (cs:=[(vI (i:Int))]) U dk jO U U U U (by simp [Value.cells]) U U fun W=>?_
 refine dD (es2:=(List.map iC (l0 (ib l p) (i+1)))) (m':=(l0 (ib l p) (i+1)).length) 4 U U U rL U U sm (bo (es:=List.map iC [(i:Int)]) 0 U U (by simp [bL]) U) (kD _) (by have:=qh (P:=ib l p) (n:=i); omega) (by have:=qh (P:=ib l p) (n:=i); simp only [maxLen]; omega) (by rw [yb (by rw [sG hx]; exact B)]; simp) sm U fun K L=>?_
 try dsimp only
 refine bE 1 U<|aH<|aR<|KK H<|aw<|rP 2 [] I ?_
 refine aH ?_
 have AB:(vI (((i+1):Nat):Int))=(vI ((i:Int)+1)):=by exact cI om
 refine bq (D ⟨((i+1),K,L),(by first|omega|(simp only []; omega))⟩ _ _ _ U os (cY 4<|bw U AB<|dG.nil _) (aQ [2,3,4]))
theorem AD (l:List aY) (lA:OA) (lC:Nat) (f:Value) (p:Int→aY→Bool) (X:ay) (hf: ∀ x0 x1,(∃ i_:Nat,x0=(i_:Int)∧l[i_]? =some x1)→DI Tryz.prog f [.int .i64 x0,.agg (aY.cells x1).toArray] [X] (.bool (p x0 x1))) (hlen:l.length≤1000000):
 pS Tryz.prog 32 [(vS lA l.length lC),f] [(rd lA l.length 5 (l.map aY.cells)),X] (fun (x:(OA)×Nat)=>(vS x.1 ((l0 (ib l p) l.length).length) x.2)) (fun (x:(OA)×Nat)=>True) (fun (x:(OA)×Nat)=>[(own x.1 x.2 3 1 ((l0 (ib l p) l.length).map iC))]):=by
 refine fB kr Tryz.func32 U U fun Z Q hQ hN=>?_
 try dsimp only
 refine WS fun _ M=>bE 1 U<|RK M<|WS fun _ N=>bE 1 U<|RK N<|ao fun _ O=>WS fun _ R=>rP 3 [] I ?_
 refine RK R<|aI<|eK 3 1 ?_
 have A:(0≤l.length):=by exact Nat.zero_le _
 refine bZ (ι:={z:Nat×(OA)×Nat // (z.1≤l.length)}) [1,8,9] [1,2] U U (fun z=>[(5,(vS z.1.2.1 ((l0 (ib l p) z.1.1).length) z.1.2.2)),(10,(vI (z.1.1:Int)))]) (fun z=>[(own z.1.2.1 z.1.2.2 3 1 ((l0 (ib l p) z.1.1).map iC))]) (fun _=>rfl) (fun _=>rfl) (fun z=>l.length-z.1.1) ⟨(0,none,0),A⟩ (bu U) (aQ [1,2,0]) ?_
 clear A
 rintro ⟨⟨i,a,c⟩,C⟩ J5 D
 try dsimp only at C
 try dsimp only
 refine WS fun _ S=>rP 1 [] I ?_
 refine RK S<|ao fun _ T=>bW U (aV fun Y=>?_) (aU fun Y=>?_)
 ·refine bS<|ai<|ai<|aL<|KK O<|WS fun _ G=>?_
  rw [show (l0 (ib l p) i)=(l0 (ib l p) l.length) from by rw [show i=l.length by omega]]
  refine rP 2 [] I ?_
  refine RK G<|aq<|LX hQ (a,c) [2] [] I U U U U ?_
  trivial
 refine WK T<|ao fun _ H=>aI<|WS fun _ E=>rP 1 [] I ?_
 obtain ⟨x,hx⟩:=aJ l i om
 have AA:=bM aY.cells hx
 refine rS (IA i U (aB 0 U) Aj dc om om)<|rS (lM i 0 (aY.cells x) U b_ (aB 0 U) AA U dc U U)<|AL U JO fun V=>bE 1 U<|fJ U Pz U<|RK E<|WS fun _ F=>rP 3 [] (mc 0 U I) ?_
 refine rS (SX (qk U U U (hf (i:Int) x ⟨_,U,hx⟩) (bk [2])) U U)<|RK F<|bW U (fun B=>?_) (fun B=>?_)
 ·refine cu<|aR<|KK H<|aw<|rP 2 [] I ?_
  refine aH ?_
  rw [show l0 (ib l p) i=l0 (ib l p) (i+1) from (s8 (by rw [sG hx]; simpa using B)).symm]
  have J:(vI (((i+1):Nat):Int))=(vI ((i:Int)+1)):=by exact cI om
  refine bq (D ⟨((i+1),a,c),(by first|omega|(simp only []; omega))⟩ _ _ _ U os (cY 4<|bw U J<|dG.nil _) (aQ [1,2,3]))
 refine aw<|rP 2 [] I ?_
 refine d_ (xs:=[.tmp 20]) (cs:=[(vI (i:Int))]) U dk jO U U U U (by simp [Value.cells]) U U fun W=>?_
 refine dD (es2:=(List.map iC (l0 (ib l p) (i+1)))) (m':=(l0 (ib l p) (i+1)).length) 4 U U U rL U U sm (bo (es:=List.map iC [(i:Int)]) 0 U U (by simp [bL]) U) (kD _) (by have:=qh (P:=ib l p) (n:=i); omega) (by have:=qh (P:=ib l p) (n:=i); simp only [maxLen]; omega) (by rw [yb (by rw [sG hx]; exact B)]; simp) sm U fun K L=>?_
 try dsimp only
 refine bE 1 U<|aH<|aR<|KK H<|aw<|rP 2 [] I ?_
 refine aH ?_
 have AB:(vI (((i+1):Nat):Int))=(vI ((i:Int)+1)):=by exact cI om
 refine bq (D ⟨((i+1),K,L),(by first|omega|(simp only []; omega))⟩ _ _ _ U os (cY 4<|bw U AB<|dG.nil _) (aQ [2,3,4]))
end
section
open Go.RowKit
variable {E:fp} {ops:Array Oper} {D:List Deferred} {L:List (Nat×Value)} {C:List ay}
variable {dst:Option Tmp} {ty:TypeId} {ps:String} {af:Array Edge} {g:Option (Nat×Bool)}
theorem vG {x ix:Operand} {t e len sz:Nat} {cs vs:List Value} {j:Int} {kd:IntKind} (m:Nat) (hg:j1 ops L g=true) (hx:ev L x=some (.agg cs.toArray)) (hi:ev L ix=some (.int kd j)) (ht:tX E.P t=some (len,e)) (hk:tK E.P e=some (true,sz)) (hj:j=(m:Int)) (hm:m<len) (hv:(cs.drop (m*sz)).take sz=vs):
 SD E ops ⟨dst,.index t x ix,ty,ps,af,g⟩ D L C (.agg vs.toArray):=
 eL hg sm fun a w A _=>by
  have B:(0:Int)≤(m:Int)∧(m:Int)<(len:Int):=by omega
  subst hj
  simp [execOp,A.ev hx,A.ev hi,Instr.index,asIntOf,run_underlying (Lx ht),B,hm,(oZ hk w).2,BT hk hv w]
end
section
open Go.RowKit
theorem LB (i:Int) (f:aK) (j:cK) (kA:OA) (kC:Nat) (cA:OA) (cC:Nat) (bA:OA) (bC:Nat) (slA:OA) (slC:Nat) (drA:OA) (drC:Nat) (heA:OA) (heC:Nat) (faA:OA) (faC:Nat) (prA:OA) (prC g1:Nat) (hk:0≤f.Kind∧f.Kind≤255):
 dL Tryz.prog 70 [(vI i),(vA (aK.cells f)),(vP g1)] [(cp g1 36 (ep.cells (nu j kA kC cA cC bA bC slA slC drA drC heA heC faA faC prA prC)))] (vB (decide (¬ o2 j.Race.ak.bO f))):=by
 refine bH kr Tryz.func70 U U fun V Q hQ hN=>?_
 try dsimp only
 refine WS fun _ N=>eO U fun AA=>bE 1 U<|RK N<|WS fun _ O=>eV 5 [] (mr 1 U I) U<|RK O<|ao fun _ D=>WS fun _ P=>rP 2 [] (mc 0 U I) ?_
 refine rS (BI U lZ)<|RK P<|bW U (aV fun A=>?_) (aU fun A=>?_)
 ·refine WK D<|WS fun _ B=>rP 2 [] (mc 0 U I) ?_
  refine rS (SX (mC (m:=f.Kind) U U M1 sO (mV (by first|assumption|omega))) U U)<|d_ (xs:=[.tmp 16]) (cs:=[(vI f.Kind)]) U dk jO U U U U (by simp [Value.cells]) U U fun F=>?_
  refine rS (CL (dL.eq (iG 1 3 ([f.Kind]) (some ⟨F,0,none⟩) 1 (by (simp; done))) cw) (aC (bo 0 U U (by simp [bL]) U)<|aO) U) ?_
  refine rP 2 [] I ?_
  refine bK (t:=20) U (aX fun K=>?_) (aW fun K=>?_)
  ·refine rP 24 [] I ?_
   refine RK B<|aq<|Q1 hQ U U U ?_
   (refine cB (dN ?_).symm; (rw [uJ A]; omega))
  refine rP 4 [] (mc 1 U I) ?_
  refine d_ (xs:=[.tmp 22,.tmp 24]) (cs:=[(vI f.iN),(vI f.To)]) U dk jO U U U U (by simp [Value.cells]) U U fun G=>?_
  refine rS (CL (dL.eq (iG 0 86400000 ([f.iN,f.To]) (some ⟨G,0,none⟩) 2 (by (simp; done))) pd) (aC (bo 0 U U (by simp [bL]) U)<|aO) U) ?_
  refine rP 3 [] I ?_
  refine bK (t:=29) U (aX fun L=>?_) (aW fun L=>?_)
  ·refine rP 15 [] I ?_
   refine RK B<|aq<|Q1 hQ U U U ?_
   (refine cB (dN ?_).symm; (rw [uJ A]; omega))
  refine rP 7 [] (mc 2 U I) ?_
  refine bK (t:=36) U (aU fun M=>?_) (aV fun M=>?_)
  ·refine rP 8 [] I ?_
   refine RK B<|aq<|Q1 hQ U U U ?_
   (refine cB (dN ?_).symm; (rw [uJ A]; omega))
  refine rP 3 [] (mc 2 U I) ?_
  refine d_ (xs:=[.tmp 39]) (cs:=[(vI f.de)]) U dk jO U U U U (by simp [Value.cells]) U U fun H=>?_
  refine rS (CL (dL.eq (iG 0 j.Race.ak.bO ([f.de]) (some ⟨H,0,none⟩) 1 (by (simp; done))) cw) (aC (bo 0 U U (by simp [bL]) U)<|aO) U) ?_
  refine rP 3 [] I ?_
  refine RK B<|aq<|Q1 hQ U U U ?_
  (refine cB (decide_not.symm.trans (gR.2 ?_)); (rw [uJ A]; omega))
 refine aw<|bE 1 U<|RK D<|WS fun _ C=>rP 2 [] (mc 0 U I) ?_
 refine rS (SX (mC (m:=f.Kind) U U M1 sO (mV (by first|assumption|omega))) U U)<|d_ (xs:=[.tmp 16]) (cs:=[(vI f.Kind)]) U dk jO U U U U (by simp [Value.cells]) U U fun R=>?_
 refine rS (CL (dL.eq (iG 1 3 ([f.Kind]) (some ⟨R,0,none⟩) 1 (by (simp; done))) cw) (aC (bo 0 U U (by simp [bL]) U)<|aO) U) ?_
 refine rP 2 [] I ?_
 refine bK (t:=20) U (aX fun T=>?_) (aW fun T=>?_)
 ·refine rP 24 [] I ?_
  refine RK C<|aq<|Q1 hQ U U U ?_
  (refine cB (dN ?_).symm; (rw [uV A]; omega))
 refine rP 4 [] (mc 1 U I) ?_
 refine d_ (xs:=[.tmp 22,.tmp 24]) (cs:=[(vI f.iN),(vI f.To)]) U dk jO U U U U (by simp [Value.cells]) U U fun S=>?_
 refine rS (CL (dL.eq (iG 0 86400000 ([f.iN,f.To]) (some ⟨S,0,none⟩) 2 (by (simp; done))) pd) (aC (bo 0 U U (by simp [bL]) U)<|aO) U) ?_
 refine rP 3 [] I ?_
 refine bK (t:=29) U (aX fun AB=>?_) (aW fun AB=>?_)
 ·refine rP 15 [] I ?_
  refine RK C<|aq<|Q1 hQ U U U ?_
  (refine cB (dN ?_).symm; (rw [uV A]; omega))
 refine rP 7 [] (mc 2 U I) ?_
 refine bK (t:=36) U (aU fun J=>?_) (aV fun J=>?_)
 ·refine rP 8 [] I ?_
  refine RK C<|aq<|Q1 hQ U U U ?_
  (refine cB (dN ?_).symm; (rw [uV A]; omega))
 refine rP 3 [] (mc 2 U I) ?_
 refine d_ (xs:=[.tmp 39]) (cs:=[(vI f.de)]) U dk jO U U U U (by simp [Value.cells]) U U fun E=>?_
 refine rS (CL (dL.eq (iG 0 0 ([f.de]) (some ⟨E,0,none⟩) 1 (by (simp; done))) cw) (aC (bo 0 U U (by simp [bL]) U)<|aO) U) ?_
 refine rP 3 [] I ?_
 refine RK C<|aq<|Q1 hQ U U U ?_
 (refine cB (decide_not.symm.trans (gR.2 ?_)); (rw [uV A]; omega))
theorem uN (fk fw:Int) (ff ft:Int) (al ah:Int) (ae an:Bool) (bl bh:Int) (be bn:Bool):
 dL Tryz.prog 72 [(vA (aK.cells (aK.mk fk fw ff ft))),(vA (ku.cells (ku.mk (ag.mk al ah) ae an))),(vA (ku.cells (ku.mk (ag.mk bl bh) be bn)))] [] (vB (decide (ah≤ft∧ff≤bl))):=by
 refine bH kr Tryz.func72 U U fun G Q hQ hN=>?_
 try dsimp only
 refine WS fun _ B=>eO U fun D=>eO U fun E=>eO U fun F=>bE 1 U<|RK B<|WS fun _ A=>rP 7 [0,1] (mc 1 U (mc 2 U I)) ?_
 refine bU (t:=13) U (aV fun C=>?_) (aU fun C=>?_)
 ·refine rP 8 [] I ?_
  refine RK A<|aq<|Q1 hQ U U U ?_
  exact cB (bI om).symm
 refine rP 8 [0,1] (mc 0 U (mc 2 U I)) ?_
 refine RK A<|aq<|Q1 hQ U U U ?_
 exact cB (gR.2 om)
theorem FF (fk fw:Int) (ff ft:Int) (al ah:Int) (ae an:Bool) (bl bh:Int) (be bn:Bool):
 dL Tryz.prog 76 [(vA (aK.cells (aK.mk fk fw ff ft))),(vA (ku.cells (ku.mk (ag.mk al ah) ae an))),(vA (ku.cells (ku.mk (ag.mk bl bh) be bn)))] [] (vB (decide (ag.mk (max al ff) (min ah ft)=ag.mk al ah))):=by
 refine bH kr Tryz.func76 U U fun F Q hQ hN=>?_
 try dsimp only
 refine WS fun _ A=>eO U fun C=>eO U fun D=>eO U fun E=>bE 1 U<|RK A<|WS fun _ B=>eV 5 [0,1] (mc 1 U (mc 2 U I)) U<|rS (MX U)<|eV 5 [0,1] (mc 1 U (mc 2 U I)) U<|rS (MN U)<|rS (SX (bf (xs:=[(0,.tmp 12),(1,.tmp 18)]) (cs:=(ag.cells (ag.mk (max al ff) (min ah ft)))) U U (bg gO U)) U U)<|bE 1 U<|rS (LP (ag.cells (ag.mk al ah)) 1 U b_ U U U)<|rS (BI U (xC _ _ (ag.mk (max al ff) (min ah ft)) (ag.mk al ah)))<|rP 1 [] I ?_
 refine RK B<|aq ?_
 exact Q1 hQ U U U U
theorem SH (j:cK) (kA:OA) (kC:Nat) (cA:OA) (cC:Nat) (bA:OA) (bC:Nat) (slA:OA) (slC:Nat) (drA:OA) (drC:Nat) (heA:OA) (heC:Nat) (faA:OA) (faC:Nat) (prA:OA) (prC:Nat) (fk fw:Int) (ff ft:Int):
 dL Tryz.prog 73 [(vA (df.cells (df.mk (nu j kA kC cA cC bA bC slA slC drA drC heA heC faA faC prA prC)))),(vA (aK.cells (aK.mk fk fw ff ft)))] [] (vT [(vI (-1)),(vI j.Race.ak.bO)]):=by
 refine bH kr Tryz.func73 U U fun E Q hQ hN=>?_
 try dsimp only
 refine WS fun _ A=>eO U fun C=>eO U fun D=>bE 2 U<|RK A<|ao fun _ B=>dj cj 7 kr<|dP 7 [] (mc 1 U I) ?_
 refine cD<|RK B<|aq<|Q2 hQ U U U U ?_
 rfl
theorem Sf (j:cK) (kA:OA) (kC:Nat) (cA:OA) (cC:Nat) (bA:OA) (bC:Nat) (slA:OA) (slC:Nat) (drA:OA) (drC:Nat) (heA:OA) (heC:Nat) (faA:OA) (faC:Nat) (prA:OA) (prC:Nat) (fk fw:Int) (ff ft:Int) (hw:0≤fw∧fw≤1000000):
 dL Tryz.prog 74 [(vA (df.cells (df.mk (nu j kA kC cA cC bA bC slA slC drA drC heA heC faA faC prA prC)))),(vA (aK.cells (aK.mk fk fw ff ft)))] [] (vT [(vI (fw-1)),(vI fw)]):=by
 refine bH kr Tryz.func74 U U fun E Q hQ hN=>?_
 try dsimp only
 refine WS fun _ A=>eO U fun C=>eO U fun D=>rP 2 [] I ?_
 refine RK A<|ao fun _ B=>dj cj 7 kr ?_
 try dsimp only
 refine dP 7 [] (mc 0 U I) ?_
 refine cD<|RK B<|aq<|Q2 hQ U U U U ?_
 rfl
theorem Tl (j:cK) (kA:OA) (kC:Nat) (cA:OA) (cC:Nat) (bA:OA) (bC:Nat) (slA:OA) (slC:Nat) (drA:OA) (drC:Nat) (heA:OA) (heC:Nat) (faA:OA) (faC:Nat) (prA:OA) (prC:Nat) (fk fw:Int) (ff ft:Int):
 dL Tryz.prog 75 [(vA (df.cells (df.mk (nu j kA kC cA cC bA bC slA slC drA drC heA heC faA faC prA prC)))),(vA (aK.cells (aK.mk fk fw ff ft)))] [] (vT [(vI fw),(vI fw)]):=by
 refine bH kr Tryz.func75 U U fun E Q hQ hN=>?_
 try dsimp only
 refine WS fun _ A=>eO U fun C=>eO U fun D=>bE 2 U<|RK A<|ao fun _ B=>dj cj 6 kr<|dP 6 [] (mc 0 U I) ?_
 refine cD<|RK B<|aq<|Q2 hQ U U U U ?_
 rfl
theorem xY:
 dL Tryz.prog 53 [] [] (vA ((e_.cells (e_.mk Value.nilFunc Value.nilFunc))++(e_.cells (e_.mk (Value.func (.func 73) [].toArray [].toArray) (Value.func (.func 72) [].toArray [].toArray)))++(e_.cells (e_.mk (Value.func (.func 74) [].toArray [].toArray) (Value.func (.func 72) [].toArray [].toArray)))++(e_.cells (e_.mk (Value.func (.func 75) [].toArray [].toArray) (Value.func (.func 76) [].toArray [].toArray))))):=by
 refine bH kr Tryz.func53 U U fun E Q hQ hN=>?_
 try dsimp only
 refine WS fun _ A=>AL U S6 fun D=>RK A<|WS fun _ B=>bE 1 U<|RK B<|WS fun _ C=>bE 1 U<|rS (SX (bf (xs:=[(0,.func 73),(1,.tmp 2)]) (cs:=(e_.cells (e_.mk (Value.func (.func 73) [].toArray [].toArray) (Value.func (.func 72) [].toArray [].toArray)))) U U (bg Lj U)) U U)<|rP 1 [] I ?_
 refine rS (SX (bf (xs:=[(0,.func 74),(1,.tmp 4)]) (cs:=(e_.cells (e_.mk (Value.func (.func 74) [].toArray [].toArray) (Value.func (.func 72) [].toArray [].toArray)))) U U (bg Lj U)) U U)<|rS (SX (bf (xs:=[(0,.func 75),(1,.func 76)]) (cs:=(e_.cells (e_.mk (Value.func (.func 75) [].toArray [].toArray) (Value.func (.func 76) [].toArray [].toArray)))) U U (bg Lj U)) U U)<|rS (SX (bf (xs:=[(1,.tmp 3),(2,.tmp 5),(3,.tmp 6)]) (cs:=((e_.cells (e_.mk Value.nilFunc Value.nilFunc))++(e_.cells (e_.mk (Value.func (.func 73) [].toArray [].toArray) (Value.func (.func 72) [].toArray [].toArray)))++(e_.cells (e_.mk (Value.func (.func 74) [].toArray [].toArray) (Value.func (.func 72) [].toArray [].toArray)))++(e_.cells (e_.mk (Value.func (.func 75) [].toArray [].toArray) (Value.func (.func 76) [].toArray [].toArray))))) U U (bg RL U)) U U)<|fJ U Sa U<|RK C<|aq<|Dn hQ [0] (mc 0 U I) U ?_
 rfl
theorem B4 (l:List aK) (lA:OA) (lC:Nat) (f:aK) (hlen:l.length≤1000000):
 dL Tryz.prog 55 [(vS lA l.length lC),(vA (aK.cells f))] [(rd lA l.length 4 (l.map aK.cells))] (vI (o0 l f)):=by
 refine bH kr Tryz.func55 U U fun AA Q hQ hN=>?_
 try dsimp only
 refine WS fun _ J=>eO U fun T=>bE 1 U<|RK J<|ao fun _ K=>WS fun _ L=>rP 3 [] I ?_
 refine RK L<|aI ?_
 have B:(0≤l.length)∧(∀ (q:Nat) y,q<0→l[q]? =some y→y≠f):=by exact ⟨Nat.zero_le _,fun q y hq=>absurd hq (Nat.not_lt_zero _)⟩
 refine bZ (ι:={z:Nat // (z≤l.length)∧(∀ (q:Nat) y,q<z→l[q]? =some y→y≠f)}) [0,3,7] [0,1] U U (fun z=>[(8,(vI (z.1:Int)))]) (fun z=>[]) (fun _=>rfl) (fun _=>rfl) (fun z=>l.length-z.1) ⟨0,B⟩ (bu U) (aQ [0,1]) ?_
 clear B
 rintro ⟨i,⟨P,A⟩⟩ J5 AB
 try dsimp only
 refine WS fun _ M=>rP 1 [] I ?_
 refine RK M<|ao fun _ N=>bW U (aV fun S=>?_) (aU fun S=>?_)
 ·refine bS<|ai<|ai<|aL<|KK K<|WS fun _ G=>rP 1 [] I ?_
  refine RK G<|aq<|Q1 hQ U U U ?_
  exact cI (Ng A om).symm
 refine WK N<|ao fun _ O=>aI<|WS fun _ D=>bE 2 U<|RK D<|ao fun _ E=>dj cj 6 kr<|dP 3 [] (mc 0 U I) ?_
 obtain ⟨x,hx⟩:=aJ l i om
 have R:=bM aK.cells hx
 refine dS (IA i U (aB 1 U) yQ dc om om)<|dS (lM i 0 (aK.cells x) U b_ (aB 1 U) R U dc U U)<|dS (BI U (Sj _ _ f x))<|cD<|RK E<|cy U (aU fun C=>?_) (aV fun C=>?_)
 ·refine WS fun _ F=>rP 2 [] I ?_
  refine RK F<|aq<|Q1 hQ U U U ?_
  exact cI (MH hx C.symm A).symm
 refine cu<|aR<|KK O<|aw<|rP 2 [] I ?_
 refine aH ?_
 have H:(vI (((i+1):Nat):Int))=(vI ((i:Int)+1)):=by exact cI om
 refine bq (AB ⟨(i+1),⟨om,fun q y hq hy=>by rcases Nat.lt_or_ge q i with c|c; exact A q y c hy; (obtain rfl:q=i:=by omega); rw [hx] at hy; cases hy; exact fun e=>C e.symm⟩⟩ _ _ _ rfl os (cY 3<|bw rfl H<|dG.nil _) (aQ [0,1]))
end
section
open Go.RowKit
theorem TD (l:List Int) (lA:OA) (lC:Nat) (hne:1≤l.length) (hlen:l.length≤1000000):
 dL Tryz.prog 79 [(vS lA l.length lC)] [(rd lA l.length 1 (l.map iC))] (vI (pT l)):=by
 refine bH kr Tryz.func79 U U fun V Q hQ hN=>?_
 try dsimp only
 refine WS fun _ L=>bE 1 U<|RK L<|ao fun _ M=>WS fun _ N=>rP 3 [] I ?_
 refine RK N<|cy U (aU fun AA=>?_) (aV fun AA=>?_)
 ·exfalso; omega
 refine WK M<|WS fun _ O=>rP 1 [] I ?_
 obtain ⟨AB,B⟩:=aJ l 0 om
 have hx0m:=bM iC B
 refine rS (IA 0 U (aB 0 U) dk dc U om)<|rS (gE 0 0 (vI AB) U b_ (aB 0 U) hx0m U dc U)<|bE 1 U<|RK O<|ao fun _ P=>WS fun _ R=>rP 1 [] I ?_
 refine RK R<|aI ?_
 have A:(1≤1∧1≤l.length):=by omega
 have S:(vI (pT (l.take 1)))=(vI AB):=by rw [Ht B]
 refine bZ (ι:={z:Nat // (1≤z∧z≤l.length)}) [0] [0] U U (fun z=>[(3,(vI (pT (l.take z.1)))),(4,(vI (z.1:Int)))]) (fun z=>[]) (fun _=>rfl) (fun _=>rfl) (fun z=>l.length-z.1) ⟨1,A⟩ (bw U S<|bu U) (aQ [0]) ?_
 clear A
 rintro ⟨i,T⟩ J9 K
 try dsimp only
 refine ao fun _ C=>WS fun _ D=>rP 4 [] I ?_
 refine RK D<|bW U (aV fun J=>?_) (aU fun J=>?_)
 ·refine bS<|ai<|ai<|aL<|KK P<|WS fun _ F=>rP 2 [] I ?_
  refine RK F<|aq<|Q1 hQ U U U ?_
  rw [List.take_of_length_le om]
 refine WK C<|ao fun _ E=>aI<|aw<|rP 3 [] I ?_
 obtain ⟨AB,B⟩:=aJ l i om
 have hx0m:=bM iC B
 refine rS (IA i U (aB 0 U) dk dc om om)<|rS (gE i 0 (vI AB) U b_ (aB 0 U) hx0m U dc U)<|rS (MN U)<|bE 1 U<|aH<|aR<|KK E<|aw<|rP 3 [] I ?_
 refine aH ?_
 have G:(vI (pT (l.take (i+1))))=(vI (min (pT (l.take i)) AB)):=by rw [IC B om]
 have H:(vI (((i+1):Nat):Int))=(vI ((i:Int)+1)):=by exact cI om
 refine bq (K ⟨(i+1),(by first|omega|(simp only []; omega))⟩ _ _ _ U os (dG.cons U<|bw U G<|bw U H<|dG.nil _) (aQ [0]))
end
section
open Go.RowKit
theorem pk:vu Tryz.prog 218 eI:=Mf OY (fun x y w=>Q0 9998 x y w) (fun x y h=>by cases x; cases y; simp [aN.cells] at h; simp [h]) (fun x=>by simp [aN.cells,Instr.sameBits]) (fun x w=>⟨_,rfl,fun p hp=>by
 simp only [bR,List.not_mem_nil,or_false] at hp
 rcases hp with rfl|rfl
 ·exact ⟨⟨_,gY b_ U w⟩,_,sO⟩
 ·exact ⟨⟨_,gY b_ U w⟩,_,sO⟩⟩)
theorem Ja (s:Int):
 dL Tryz.prog 130 [(vI s)] [] (vA (aN.cells (fV s))):=by
 refine bH kr Tryz.func130 U U fun H Q hQ hN=>?_
 try dsimp only
 refine WS fun _ B=>AL U ux fun G=>RK B<|ao fun _ C=>WS fun _ D=>rP 2 [] I ?_
 refine RK D<|cy U (aU fun A=>?_) (aV fun A=>?_)
 ·refine WS fun _ E=>rS (SX (bf (xs:=[(1,.const (vI 1))]) (cs:=(aN.cells (aN.mk 0 1))) U U (bg BH U)) U U)<|fJ U sZ U<|RK E<|aq<|Dn hQ [0] (mc 0 U I) U ?_
  unfold fV; first|rw [if_pos A]|rw [if_neg A]
 refine WK C<|WS fun _ F=>rS (SX (bf (xs:=[(0,.const (vI 1))]) (cs:=(aN.cells (aN.mk 1 0))) U U (bg BH U)) U U)<|fJ U sZ U<|RK F<|aq<|Dn hQ [0] (mc 0 U I) U ?_
 unfold fV; first|rw [if_pos A]|rw [if_neg A]
theorem wV (x:aN) (y:aN) (hx:(0≤x.right∧x.right≤1000)∧0≤x.e7∧x.e7≤1000) (hy:(0≤y.right∧y.right≤1000)∧0≤y.e7∧y.e7≤1000):
 dL Tryz.prog 129 [(vA (aN.cells x)),(vA (aN.cells y))] [] (vA (aN.cells (dM x y))):=by
 refine bH kr Tryz.func129 U U fun F Q hQ hN=>?_
 try dsimp only
 refine WS fun _ A=>eO U fun C=>eO U fun D=>AL U ux fun E=>RK A<|WS fun _ B=>rP 10 [0,1,0,1] (mc 2 U (mc 1 U I)) ?_
 refine rS (SX (bf (xs:=[(0,.tmp 9),(1,.tmp 14)]) (cs:=(aN.cells (aN.mk (x.right+y.right) (x.e7+y.e7)))) U U (bg BH U)) U U)<|fJ U sZ U<|RK B<|aq ?_
 exact Dn hQ [0] (mc 0 U I) U U
theorem OG (ln:cr) (ri:cb) (e:List Int) (tms:List TM) (e_A:OA) (e_C:Nat) (tb:List Nat) (t_A:OA) (t_C:Nat) (fs:List FM) (bs:List FM) (fb:List Nat) (f_A:OA) (f_C:Nat) (bb:List Nat) (b_A:OA) (b_C gw:Nat) (x:aN) (hx:(0≤x.right∧x.right≤1000)∧0≤x.e7∧x.e7≤1000) (hn:ri.ab.n≤1000):
 dL Tryz.prog 128 [(vP gw),(vA (aN.cells x))] [(rd e_A e.length 1 (e.map iC)),(rd t_A tms.length 1 (List.zipWith gv tms tb)),(dT (br p7 tms tb)),(rd f_A fs.length 1 (List.zipWith gv fs fb)),(dT (br nk fs fb)),(rd b_A bs.length 1 (List.zipWith gv bs bb)),(dT (br nk bs bb)),(cp gw 213 (cd.cells (cd.mk ln ri (bD.mk e_A e.length e_C) (bD.mk t_A tms.length t_C) (bD.mk f_A fs.length f_C) (bD.mk b_A bs.length b_C))))] (vB (l8 (cV ln ri e tms) x)):=by
 refine bH kr Tryz.func128 U U fun E Q hQ hN=>?_
 try dsimp only
 refine WS fun _ C=>eO U fun D=>bE 1 U<|RK C<|ao fun _ B=>dj cj 26 kr<|lz 3 [] (mc 0 U I) U<|dS (SX (cS U U) U U)<|dP 5 [] (mr 8 U I) ?_
 refine jB (t:=13) U (aV fun A=>?_) (aU fun A=>?_)
 ·refine dP 17 [] I ?_
  refine cD<|RK B<|aq<|Q1 hQ U U U ?_
  exact cB (bI (fun h=>A h.1)).symm
 refine kE 1 U<|dS (SX (cS U U) U U)<|lz 8 [0,1] (mr 8 U (mc 0 U I)) U<|dS (SX (cS U U) U U)<|dP 6 [] (mr 8 U I) ?_
 refine cD<|RK B<|aq<|Q1 hQ U U U ?_
 exact cB (gR.2 ⟨fun h=>⟨A,h⟩,fun h=>h.2⟩)
end
section
open Go.RowKit
theorem vp (ln:cr) (ri:cb) (e:List Int) (tms:List TM) (e_A:OA) (e_C:Nat) (tb:List Nat) (t_A:OA) (t_C:Nat) (fs:List FM) (bs:List FM) (fb:List Nat) (f_A:OA) (f_C:Nat) (bb:List Nat) (b_A:OA) (b_C gw:Nat) (hw:GV (cV ln ri e tms)) (hsg:ri.ab.n≤1000) (hn:ln.aa.n=e.length) (hfw:wg (cV ln ri e tms) fs) (hfb:fb.length=fs.length):
 pS Tryz.prog 107 [(vP gw)] [(rd e_A e.length 1 (e.map iC)),(rd t_A tms.length 1 (List.zipWith gv tms tb)),(dT (br p7 tms tb)),(rd f_A fs.length 1 (List.zipWith gv fs fb)),(dT (br nk fs fb)),(rd b_A bs.length 1 (List.zipWith gv bs bb)),(dT (br nk bs bb)),(cp gw 213 (cd.cells (cd.mk ln ri (bD.mk e_A e.length e_C) (bD.mk t_A tms.length t_C) (bD.mk f_A fs.length f_C) (bD.mk b_A bs.length b_C))))] (fun (x:(OA)×Nat)=>(vS x.1 ((lQ (cV ln ri e tms)).length) x.2)) (fun (x:(OA)×Nat)=>True) (fun (x:(OA)×Nat)=>[(own x.1 x.2 3 1 ((lQ (cV ln ri e tms)).map iC))]):=by
 have y:e.length≤6:=hw.n
 have u:fs.length=e.length+1:=hfw.len
 refine fB kr Tryz.func107 U U fun w0 Q hQ hN=>?_
 try dsimp only
 refine WS fun _ X=>bE 1 U<|RK X<|WS fun _ Y=>bE 1 U<|RK Y<|ao fun _ Z=>WS fun _ b=>bE 1 U<|rS (SX (cS U U) U U)<|rP 6 [] (mr 7 U I) ?_
 refine RK b<|aI<|eK 3 1 ?_
 have A:(0≤e.length+1):=by exact Nat.zero_le _
 refine bZ (ι:={z:Nat×(OA)×Nat // (z.1≤e.length+1)}) [0,12] [1,2,3,4,5,6,7,8] U U (fun z=>[(3,(vS z.1.2.1 ((kY (cV ln ri e tms) z.1.1).length) z.1.2.2)),(13,(vI (z.1.1:Int)))]) (fun z=>[(own z.1.2.1 z.1.2.2 3 1 ((kY (cV ln ri e tms) z.1.1).map iC))]) (fun _=>rfl) (fun _=>rfl) (fun z=>e.length+1-z.1.1) ⟨(0,none,0),A⟩ (bu U) (aQ [1,2,3,4,5,6,7,8,0]) ?_
 clear A
 rintro ⟨⟨n,a,c⟩,G⟩ J5 AB
 try dsimp only at G
 try dsimp only
 refine WS fun _ d=>rP 1 [] I ?_
 refine RK d<|ao fun _ g=>bW U (aV fun s=>?_) (aU fun s=>?_)
 ·refine bS<|ai<|ai<|aL<|KK Z<|WS fun _ P=>?_
  rw [show kY (cV ln ri e tms) n=lQ (cV ln ri e tms) by (obtain rfl:n=e.length+1:=by omega); rfl]
  refine rP 2 [] I ?_
  refine RK P<|aq<|LX hQ (a,c) [8] [] I U U U U ?_
  trivial
 refine WK g<|ao fun _ R=>aI<|WS fun _ J=>bE 2 U<|RK J<|WS fun _ K=>bE 1 U<|rS (SX (cS U U) U U)<|rP 3 [] (mr 7 U I) ?_
 obtain ⟨m,B⟩:=aJ fs n om
 obtain ⟨ma,hm0a⟩:=aJ fb n om
 have hm0m:(List.zipWith gv fs fb)[n]? =some (gv m ma):=dF B hm0a
 refine rS (IA n U (aB 3 U) oU dc om om)<|rS (gE n 0 (Value.map (some ma)) U b_ (aB 3 U) hm0m U dc U)<|qw (kV:=eI) (m:=cT iV m) 4 U U pt U ⟨⟨(kh eI ma (cT iV m)),(bQ B hm0a (by simp [nk])),U⟩,fun h=>h⟩ (show iJ _ (kh eI ma (cT iV m)).holds from cU 4 U (bQ B hm0a (by simp [nk]))) U fun l=>?_
 try dsimp only
 refine RK K<|aI ?_
 have A:(∀ p∈m,p∈m)∧(∀ p∈m,p∈m∨l8 (cV ln ri e tms) p.1=false):=by exact ⟨fun p hp=>hp,fun p hp=> .inl hp⟩
 refine bZ (ι:={z:FM // (∀ p∈z,p∈m)∧(∀ p∈m,p∈z∨l8 (cV ln ri e tms) p.1=false)}) [0,3,4,12,13,23] [1,2,3,4,5,6,7,8,9] U U (fun z=>[]) (fun z=>[(Dp eI l ma (cT iV m) (cT iV z.1) none)]) (fun _=>rfl) (fun _=>rfl) (fun z=>z.1.length) ⟨m,A⟩ (dG.nil _) (aQ [1,2,3,4,5,6,7,8,9,0]) ?_
 clear A
 rintro ⟨left,⟨C,D⟩⟩ J13 H
 try dsimp only
 refine WS fun _ F=>oM pk.inj (f:=iV) 9 U U U U (fun W=>?_) (fun t v hm i=>?_)
 ·refine bE 1 U<|RK F<|ao fun _ o=>ct U<|bS<|ai<|ai<|aL<|aR<|KK R<|aw<|rP 2 [] I ?_
  refine aH ?_
  rw [← HJ (w:=(cV ln ri e tms)) (k:=n) ((B2 (hfw.min _ _ B) (hfw.keys _ _ B)).symm.trans (Jr D W))]
  have S:(vI (((n+1):Nat):Int))=(vI ((n:Int)+1)):=by exact cI om
  refine bq (AB ⟨((n+1),a,c),(by first|omega|(simp only []; omega))⟩ _ _ _ U os (cY 3<|bw U S<|dG.nil _) (aQ [0,1,2,3,4,5,6,7,8]))
 try dsimp only
 refine bE 1 U<|RK F<|ao fun _ L=>aT U<|WK L<|aI<|WS fun _ M=>rS (SX (oT 9 U U U) U U)<|bE 1 U<|AL U ux fun q=>fJ U sZ U<|RK M<|WS fun _ N=>rP 2 [] (mc 0 U I) ?_
 have j:=JY hw _ _ (hfw.mem B (C _ hm))
 dsimp only at j
 refine rS (CL (OG ln ri e tms e_A e_C tb t_A t_C fs bs fb f_A f_C bb b_A b_C gw t om hsg) (bk [1,2,3,4,5,6,7,8]) U)<|RK N<|bW U (fun E=>?_) (fun E=>?_)
 ·refine cu<|aR<|rD 10 U pL U ?_
  refine bq (H ⟨(fy left t),⟨mO C,Jz i hm D (by first|exact E|simpa using E)⟩⟩ _ _ _ U (mR hm) (bu U) (aQ [1,2,3,4,5,6,7,8,9,10]))
 refine WS fun _ O=>rP 2 [] I ?_
 refine d_ (xs:=[.tmp 32]) (cs:=[(vI (n:Int))]) U dk jO U U U U (by simp [Value.cells]) U U fun r=>?_
 have hy:lf (cV ln ri e tms) (pO (cV ln ri e tms) n)=true:=(B2 (hfw.min _ _ B) (hfw.keys _ _ B)).symm.trans (NZ (C _ hm) E)
 refine dD (es2:=(List.map iC (kY (cV ln ri e tms) (n+1)))) (m':=(kY (cV ln ri e tms) (n+1)).length) 10 U U U rL U U sm (bo (es:=List.map iC [(n:Int)]) 0 U U (by simp [bL]) U) (kD _) (by have:=tG (w:=(cV ln ri e tms)) (k:=n); first|omega|(simp; omega)) (by have:=tG (w:=(cV ln ri e tms)) (k:=n); simp only [maxLen]; omega) (by rw [DU hy]; simp) sm U fun AA V=>?_
 try dsimp only
 refine bE 1 U<|RK O<|bS<|fD U<|ai<|aL<|aR<|KK R<|aw<|rP 2 [] I ?_
 refine aH ?_
 have T:(vI (((n+1):Nat):Int))=(vI ((n:Int)+1)):=by exact cI om
 refine bq (AB ⟨((n+1),AA,V),(by first|omega|(simp only []; omega))⟩ _ _ _ U os (cY 3<|bw U T<|dG.nil _) (aQ [2,3,4,5,6,7,8,9,10]))
end
end Go.Proofs.YtfhghdbminmhnaaGreatDoor
