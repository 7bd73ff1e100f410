/-
 The statement raceExamples_said, part 7 of 7: Sim, Clear, Ways, Async, WayM, DrawB, Rr1, Rx5, Rx8, Rx9, Rx10, Rx11, Rx12, Rz1, Rz2, Rz3, NJoin, Rz4, Ry10, Examples0.
 Conditions: none.
-/
import Derived.Test.YtadjgjnicdcjbaaGreatDoorTx1
import Derived.Test.YtadjgjnicdcjbaaGreatDoorTx2
import Derived.Test.YtadjgjnicdcjbaaGreatDoorTx3
import Derived.Test.YtadjgjnicdcjbaaGreatDoorTx4
import Derived.Test.YtadjgjnicdcjbaaGreatDoorTx5
import Derived.Test.YtadjgjnicdcjbaaGreatDoorTx6
import Derived.KernelRfl
import Derived.Test.YtadjgjnicdcjbaaGreatDoorCards
import Derived.Test.YtadjgjnicdcjbaaGreatDoorTie
import Derived.SevenTiedAt
import Derived.LaidMore
import Derived.Stop.Joined
import Derived.Test.YtadjgjnicdcjbaaGreatDoorRows
import Derived.Test.YtadjgjnicdcjbaaGreatDoorProg
namespace Go.Proofs.YtadjgjnicdcjbaaGreatDoor
set_option maxRecDepth 100000
set_option maxHeartbeats 4000000
set_option linter.unusedVariables false
section
/-- a truth goes on from here -/
def oK (w:bp) (b:Nat) (p:aw×Int):Prop:= ∃ k,b+k≤w.n∧ ∃ q∈eT w k b p,lg w q.1=true
/-- a truth may have come here, or earlier -/
def x3 (w:bp) (b:Nat) (p:aw×Int):Prop:= ∃ v,(p.1,v)∈fwd w b∧v≤p.2
def Ft (n:Int) (p:aw×Int):aw×Int:=(p.1,p.2+n)
section
variable {w:bp}
theorem Bt: ∀ (k j b:Nat) (p q z:aw×Int),q∈eT w k b p→z∈eT w j (b+k) q→z∈eT w (k+j) b p:=by
 intro k
 induction k with
 |zero=>
  intro j b p q z A B
  simp only [eT,bD] at A
  subst A
  rw [Nat.zero_add]; exact B
 |succ k ih=>
  intro j b p q z A B
  obtain ⟨o,ho,p',e,h⟩:=fO.1 A
  rw [show k+1+j=(k+j)+1 by omega]
  exact fO.2 ⟨o,ho,p',e,ih j (b+1) p' q z h (by rw [show b+1+k=b+(k+1) by omega]; exact B)⟩
theorem we: ∀ (k b:Nat) (t:aw) (x y:Int) (q:aw×Int),y≤x→q∈eT w k b (t,x)→ ∃ q'∈eT w k b (t,y),q'.1=q.1∧q'.2≤q.2:=by
 intro k
 induction k with
 |zero=>
  intro b t x y q A hq
  simp only [eT,bD] at hq ⊢
  subst hq
  exact ⟨_,U,U,A⟩
 |succ k ih=>
  intro b t x y q A hq
  obtain ⟨o,ho,p',e,h⟩:=fO.1 hq
  obtain ⟨B,rfl⟩:=fD.1 e
  simp only at B h
  obtain ⟨q',hq',C,D⟩:=ih (b+1) _ _ (max (y+bP w b) o.2.Lo) q om h
  exact ⟨q',fO.2 ⟨o,ho,_,fD.2 ⟨by simp only; omega,U⟩,hq'⟩,C,D⟩
theorem sM {b:Nat} {t:aw} {x y:Int} (h:oK w b (t,x)) (hy:y≤x):oK w b (t,y):=by
 obtain ⟨k,hk,q,hq,hm⟩:=h
 obtain ⟨q',hq',e,_⟩:=we k b t x y q hy hq
 exact ⟨k,hk,q',hq',by rw [e]; exact hm⟩
theorem qt {k b:Nat} {p q:aw×Int} (h:q∈eT w k b p) (hv:oK w (b+k) q):oK w b p:=by
 obtain ⟨j,hj,z,hz,hm⟩:=hv
 exact ⟨k+j,om,z,Bt k j b p q z h hz,hm⟩
theorem Cq {b:Nat} {p q:aw×Int} {o:Int×ab} (h:x3 w b p) (ho:o∈gh w b) (e:iO w b p o=some q):x3 w (b+1) q:=by
 obtain ⟨v,hv,A⟩:=h
 obtain ⟨B,rfl⟩:=fD.1 e
 exact ⟨max (v+bP w b) o.2.Lo,ep.2 ⟨_,hv,o,ho,fD.2 ⟨by simp only; omega,U⟩⟩,by simp only; omega⟩
theorem xj {b:Nat} {p:aw×Int} (h:p∈fwd w b):x3 w b p:=⟨p.2,h,Int.le_refl _⟩
theorem ua (hl: ∀ b,0≤bP w b): ∀ (b:Nat) (p:aw×Int),p∈fwd w b→w.Start≤p.2:=by
 intro b
 induction b with
 |zero=>intro p hp; simp only [fwd,bD] at hp; subst hp; exact Int.le_refl _
 |succ b ih=>
  intro q hq
  obtain ⟨p,hp,o,ho,e⟩:=ep.1 hq
  obtain ⟨_,rfl⟩:=fD.1 e
  have:=ih p hp
  have:=hl b
  simp only; omega
/-- a beam is passed at a time, by a signal -/
def vo (w:bp) (b:Nat) (s t:Int):Prop:= ∃ p∈fwd w b,∃ o∈gh w b,o.1=s∧(max (p.2+bP w b) o.2.Lo≤t∧t≤min o.2.Hi w.gk)∧oK w (b+1) (dm p.1 (eA o.1),t)
theorem zQ (hl: ∀ b,0≤bP w b) {b:Nat} (hb:b<w.n) {s t:Int}:(∃ q∈kx w b,q.1=s∧q.2.Lo≤t∧t≤q.2.Hi)↔vo w b s t:=by
 constructor
 ·rintro ⟨q,hq,hs,C,D⟩
  obtain ⟨o,ho,p,hp,u,hu,e⟩:=fB.1 hq
  obtain ⟨B,A,rfl⟩:=gM.1 e
  simp only [gW] at C D B
  have hn:u.2≤w.gk:=AB hl _ _ hu
  obtain ⟨k,hk,q,hq',E⟩:=DN hl (w.n-(b+1)) (b+1) (dm p.1 (eA o.1),t) u om (by simp only; omega) hu
  refine ⟨p,hp,o,ho,hs,⟨om,om⟩,k,hk,q,hq',?_⟩
  rw [E]
  unfold s3 at A
  rw [show dm (dm p.1 (eA o.1)) u.1=dm (dm p.1 u.1) (eA o.1) by simp only [dm,aw.mk.injEq]; omega]
  exact A
 ·rintro ⟨p,hp,o,ho,hs,⟨C,D⟩,k,hk,q,hq,hm⟩
  obtain ⟨u,hu,B,A⟩:=Gs k (b+1) _ q hk (by simp only; omega) hq
  simp only at B A
  refine ⟨(o.1,gW w b p u o),fB.2 ⟨o,ho,p,hp,u,hu,gM.2 ⟨by simp only [gW]; omega,?_,U⟩⟩,hs,by simp only [gW]; omega,by simp only [gW]; omega⟩
  unfold s3
  rw [A] at hm
  rw [show dm (dm p.1 u.1) (eA o.1)=dm (dm p.1 (eA o.1)) u.1 by simp only [dm,aw.mk.injEq]; omega]
  exact hm
end
structure te (w w':bp) (n:Int) (f:Int→Int):Prop where
 start:w'.Start=w.Start+n
 now:w'.gk=w.gk+n
 wn:w'.n=w.n
 low: ∀ b,0≤bP w b
 least: ∀ b,bP w' b=bP w b
 may: ∀ t,lg w t=true→lg w' t=true
 ML: ∀ s,0≤f s↔0≤s
 opt: ∀ (b:Nat) (p:aw×Int) (o:Int×ab),b<w.n→w.Start≤p.2→x3 w b p→o∈gh w b→max (p.2+bP w b) o.2.Lo≤min o.2.Hi w.gk→oK w (b+1) (dm p.1 (eA o.1),max (p.2+bP w b) o.2.Lo)→
  ∃ o'∈gh w' b,o'.1=f o.1∧ ∀ t,w.Start≤t→t≤w.gk→((o.2.Lo≤t∧t≤o.2.Hi)↔(o'.2.Lo≤t+n∧t+n≤o'.2.Hi))
section
variable {w w':bp} {n:Int} {f g:Int→Int}
theorem te.one (h:te w w' n f) (s:Int):eA (f s)=eA s:=by
 unfold eA
 have:=h.ML s
 by_cases q:s<0
 ·rw [if_pos q,if_pos om]
 ·rw [if_neg q,if_neg om]
theorem te.step (h:te w w' n f) {b:Nat} {p q:aw×Int} {o:Int×ab} (hb:b<w.n) (hs:w.Start≤p.2) (hl:x3 w b p) (ho:o∈gh w b) (e:iO w b p o=some q) (hv:oK w (b+1) q):
 ∃ o'∈gh w' b,iO w' b (Ft n p) o'=some (Ft n q):=by
 obtain ⟨E,rfl⟩:=fD.1 e
 obtain ⟨o',ho',D,A⟩:=h.opt b p o hb hs hl ho E hv
 have F:=h.low b
 have B:=A (max (p.2+bP w b) o.2.Lo) om om
 have C:=A (max (p.2+n+bP w b) o'.2.Lo-n) om
 refine ⟨o',ho',fD.2 ?_⟩
 simp only [Ft,h.least,h.now]
 rw [D,h.one]
 have G:=B.1 om
 have H:=(C om).2 om
 refine ⟨om,?_⟩
 simp only [Prod.mk.injEq,true_and]
 omega
theorem te.reach (h:te w w' n f): ∀ (k b:Nat) (p q:aw×Int),b+k≤w.n→w.Start≤p.2→x3 w b p→q∈eT w k b p→oK w (b+k) q→Ft n q∈eT w' k b (Ft n p):=by
 intro k
 induction k with
 |zero=>
  intro b p q _ _ _ hq _
  simp only [eT,bD] at hq ⊢
  rw [hq]
 |succ k ih=>
  intro b p q hb hs hl hq hv
  obtain ⟨o,ho,p',e,hq'⟩:=fO.1 hq
  have hv':oK w (b+1) p':=qt hq' (by rw [show b+1+k=b+(k+1) by omega]; exact hv)
  obtain ⟨o',ho',e'⟩:=h.step om hs hl ho e hv'
  have A:=fD.1 e
  have B:=h.low b
  exact fO.2 ⟨o',ho',_,e',ih (b+1) p' q om (by rw [A.2]; simp only; omega) (Cq hl ho e) hq' (by rw [show b+1+k=b+(k+1) by omega]; exact hv)⟩
theorem te.Kn (h:te w w' n f) {b:Nat} {p:aw×Int} (hs:w.Start≤p.2) (hl:x3 w b p) (hv:oK w b p):oK w' b (Ft n p):=by
 obtain ⟨k,hk,q,hq,hm⟩:=hv
 exact ⟨k,by rw [h.wn]; exact hk,_,h.reach k b p q hk hs hl hq ⟨0,om,q,by simp [eT],hm⟩,h.may _ hm⟩
theorem te.fwd (h:te w w' n f) {b:Nat} {q:aw×Int} (hb:b≤w.n) (hq:q∈fwd w b) (hv:oK w b q):Ft n q∈Go.Proofs.YtadjgjnicdcjbaaGreatDoor.fwd w' b:=by
 obtain ⟨p,hp,hr⟩:=(ud b 0 q).1 (by rw [Nat.zero_add]; exact hq)
 have hr':=h.reach b 0 p q om (ua h.low 0 p hp) (xj hp) hr (by rw [Nat.zero_add]; exact hv)
 have:Ft n p∈Go.Proofs.YtadjgjnicdcjbaaGreatDoor.fwd w' 0:=by
  simp only [Go.Proofs.YtadjgjnicdcjbaaGreatDoor.fwd,bD] at hp ⊢
  subst hp
  rw [h.start]; rfl
 have A:=(ud b 0 (Ft n q)).2 ⟨_,this,hr'⟩
 rwa [Nat.zero_add] at A
theorem te.any (h:te w w' n f) {b:Nat} (hb:b≤w.n) (hm:iA w (Go.Proofs.YtadjgjnicdcjbaaGreatDoor.fwd w b)=true):iA w' (Go.Proofs.YtadjgjnicdcjbaaGreatDoor.fwd w' b)=true:=by
 unfold iA at hm ⊢
 obtain ⟨p,hp,A⟩:=List.any_eq_true.1 hm
 exact List.any_eq_true.2 ⟨_,h.fwd hb hp ⟨0,om,p,by simp [eT],A⟩,h.may _ A⟩
theorem te.pass (h:te w w' n f) {b:Nat} (hb:b<w.n) {s t:Int} (hp:vo w b s t):vo w' b (f s) (t+n):=by
 obtain ⟨p,hp,o,ho,rfl,⟨D,G⟩,hv⟩:=hp
 have hs:=ua h.low b p hp
 have hl:=h.low b
 have A:oK w (b+1) (dm p.1 (eA o.1),max (p.2+bP w b) o.2.Lo):=sM hv D
 have e:iO w b p o=some (dm p.1 (eA o.1),max (p.2+bP w b) o.2.Lo):=fD.2 ⟨om,rfl⟩
 have B:oK w b p:=qt (k:=1) (fO.2 ⟨o,ho,_,e,by simp [eT]⟩) A
 obtain ⟨o',ho',C,E⟩:=h.opt b p o hb hs (xj hp) ho om A
 have c:=(E t om om).1 om
 refine ⟨Ft n p,h.fwd om hp B,o',ho',C,?_,?_⟩
 ·simp only [Ft,h.least,h.now]; omega
 ·have F:=h.Kn (b:=b+1) (p:=(dm p.1 (eA o.1),t)) (by simp only; omega) ⟨_,ep.2 ⟨p,hp,o,ho,e⟩,D⟩ hv
  rw [C,h.one]; exact F
theorem FJ (h:te w w' n f) (h':te w' w (-n) g):iv w'=iv w:=by
 unfold iv
 rw [h.wn]
 unfold iz
 congr 1
 refine List.filter_congr fun b hb=>?_
 have hb:=List.mem_range.1 hb
 rw [Bool.eq_iff_iff]
 exact ⟨h'.any (by rw [h.wn]; omega),h.any om⟩
theorem wg (h:te w w' n f) (hl': ∀ b,0≤bP w' b) {b:Nat} (hb:b<w.n) {s:Int} (hq: ∃ q∈kx w b,q.1=s): ∃ q∈kx w' b,q.1=f s:=by
 obtain ⟨q,hq,e⟩:=hq
 have A:q.2.Lo≤q.2.Hi:=mD hq
 obtain ⟨q',hq',e',_⟩:=(zQ hl' (by rw [h.wn]; exact hb)).2 (h.pass hb ((zQ h.low hb).1 ⟨q,hq,e,Int.le_refl _,A⟩))
 exact ⟨q',hq',e'⟩
theorem Cr (h:te w w' n f) (h':te w' w (-n) g) {b:Nat} (hb:b<w.n):ry w' b=ry w b:=by
 rw [Bool.eq_iff_iff]
 unfold ry
 simp only [List.any_eq_true,decide_eq_true_eq]
 constructor
 ·rintro ⟨q,hq,A⟩
  obtain ⟨q',hq',e⟩:=wg h' h.low (by rw [h.wn]; exact hb) ⟨q,hq,rfl⟩
  exact ⟨q',hq',by rw [e]; exact (h'.ML _).2 A⟩
 ·rintro ⟨q,hq,A⟩
  obtain ⟨q',hq',e⟩:=wg h h'.low hb ⟨q,hq,rfl⟩
  exact ⟨q',hq',by rw [e]; exact (h.ML _).2 A⟩
end
section
variable {l l':aU} {r r':cK} {n:Int} {f g:Int→Int}
structure q7 (l:aU) (r:cK) (l':aU) (r':cK) (n:Int) (f g:Int→Int):Prop where
 line:dN l=0
 line':dN l'=0
 tc:f_ l r
 ride':f_ l' r'
 IE:l'.ag.length=l.ag.length
 to:te (cq l r) (cq l' r') n f
 NU:te (cq l' r') (cq l r) (-n) g
theorem q7.Bi (h:q7 l r l' r' n f g):iv (cq l' r')=iv (cq l r):=FJ h.to h.NU
theorem q7.e (h:q7 l r l' r' n f g) {me:Int}:ed l' r' me=ed l r me:=by
 by_cases hm:me=0
 ·by_cases q:iv (cq l r)=[]
  ·rw [oM h.line h.tc hm q,oM h.line' h.ride' hm (h.Bi.trans q)]
  ·rw [km h.line h.tc hm q,km h.line' h.ride' hm (by rw [h.Bi]; exact q)]
 ·rw [ng h.line h.tc hm,ng h.line' h.ride' hm]
theorem q7.vl (h:q7 l r l' r' n f g):jk l' r'=jk l r:=by
 by_cases q:ed l r 0=0
 ·rw [jJ q,jJ (h.e.trans q),h.Bi]
 ·rw [qC q,qC (by rw [h.e]; exact q)]
theorem q7.CP (h:q7 l r l' r' n f g) {b:Int}:iF l' b=iF l b:=by unfold iF; rw [h.IE]
theorem q7.bn (h:q7 l r l' r' n f g):(cq l r).n=l.ag.length:=eg
theorem q7.eP (h:q7 l r l' r' n f g):rG l' r'=rG l r:=by
 by_cases q:ed l r 0=0
 ·rw [sh q,sh (h.e.trans q),h.vl]
  have hb:=Mi q
  unfold vJ
  congr 1
  refine List.filter_congr fun b A=>?_
  have A:=List.mem_range.1 A
  rw [Cr h.to h.NU (by rw [h.bn]; omega)]
 ·rw [sG q,sG (by rw [h.e]; exact q)]
end
end
section
def kD (good:List Int):aw:=good.foldl (fun t g=>dm t (eA g)) ⟨0,0⟩
theorem mZ {l:List Int} {g:Int}:kD (l++[g])=dm (kD l) (eA g):=by unfold kD; rw [List.foldl_append]; rfl
def po (r:cK) (times:List Int) (b:Nat):Int:=if b=0 then r.Start else (times[b-1]?).getD 0
theorem mA {r:cK} {times:List Int} {b:Nat} {t:Int} (h:times[b]? =some t):po r times (b+1)=t:=by unfold po; rw [if_neg om,Nat.add_sub_cancel,h]; rfl
structure fK (l:aU) (r:cK) (times good:List Int):Prop where
 tc:f_ l r
 len:good.length=times.length
 le:times.length≤l.ag.length
 step: ∀ (b:Nat) t,times[b]? =some t→po r times b+lJ l b≤t∧t≤r.gk
 sig: ∀ (b:Nat) t g,times[b]? =some t→good[b]? =some g→g= -1∨ ∃ (k:Nat) (s:aK),g=(k:Int)∧r.ay[k]? =some s∧s.fP=(b:Int)∧(dW l s).Lo≤t∧t≤(dW l s).Hi
 Lw:(kD good).eP≤l.dx
 KM:(r.ay.length:Int)-(kD good).right≤l.er
section
variable {l:aU} {r:cK} {times good:List Int}
theorem fK.low (h:fK l r times good) (hl:dN l=0): ∀ b,0≤bP (cq l r) b:=fun b=>by
 obtain ⟨ht,A⟩:=kT hl
 exact ((nx ht A h.tc).bP b).1
theorem fK.least (h:fK l r times good) {b:Nat} (hb:b<times.length):bP (cq l r) b=lJ l b:=by
 have:=h.le
 rw [BP,if_pos om]
theorem fK.from_ (h:fK l r times good) (hl:dN l=0): ∀ b:Nat,b≤times.length→r.Start≤po r times b∧po r times b≤r.gk:=by
 intro b
 induction b with
 |zero=>intro _; have:=h.tc.time; unfold po; rw [if_pos rfl]; omega
 |succ b ih=>
  intro hb
  have ht:times[b]? =some (times[b]'om):=eC _
  have B:=ih om
  have C:=h.step b _ ht
  have A:=h.low hl b
  rw [h.least om] at A
  rw [mA ht]
  omega
/-- what comes next, in the truth -/
theorem fK.opt (h:fK l r times good) (hl:dN l=0) {b:Nat} {t g:Int} (ht:times[b]? =some t) (hg:good[b]? =some g): ∃ o∈gh (cq l r) b,o.1=g∧o.2.Lo≤t∧t≤o.2.Hi:=by
 have hb:=(List.getElem?_eq_some_iff.1 ht).1
 have E:=h.le
 have F:=h.step b t ht
 have G:=h.from_ hl b om
 have B:=h.low hl b
 rw [h.least hb] at B
 rcases h.sig b t g ht hg with rfl|⟨k,s,rfl,hs,A,C,D⟩
 ·exact ⟨(-1,⟨r.Start,r.gk⟩),(EI om).2 (.inl U),U,by simp only; omega,by simp only; omega⟩
 ·exact ⟨((k:Int),dW l s),(EI om).2 (.inr ⟨k,(List.getElem?_eq_some_iff.1 hs).1,s,hs,⟨A,om⟩,U⟩),U,C,D⟩
theorem qx {α:Type} {l:List α} {b:Nat} {x:α} (h:l[b]? =some x):l.take (b+1)=l.take b++[x]:=by rw [List.take_add_one,h]; rfl
theorem fK.live (h:fK l r times good) (hl:dN l=0): ∀ b:Nat,b≤times.length→x3 (cq l r) b (kD (good.take b),po r times b):=by
 intro b
 induction b with
 |zero=>intro _; exact ⟨r.Start,by simp [fwd,kD]; rfl,by unfold po; rw [if_pos rfl]; exact Int.le_refl _⟩
 |succ b ih=>
  intro hb
  have B:=h.len
  have ht:times[b]? =some (times[b]'om):=eC _
  have hg:good[b]? =some (good[b]'om):=eC _
  obtain ⟨v,hv,A⟩:=ih om
  obtain ⟨o,ho,e,C,D⟩:=h.opt hl ht hg
  have E:=h.step b _ ht
  have F:=h.least (b:=b) om
  simp only at A hv
  rw [mA ht,qx hg,mZ,← e]
  refine ⟨max (v+bP (cq l r) b) o.2.Lo,ep.2 ⟨_,hv,o,ho,fD.2 ⟨?_,U⟩⟩,?_⟩
  ·have G:(cq l r).gk=r.gk:=rfl
   simp only; omega
  ·simp only; omega
theorem fK.Kn (h:fK l r times good) (hl:dN l=0): ∀ (d b:Nat),b+d=times.length→oK (cq l r) b (kD (good.take b),po r times b):=by
 intro d
 induction d with
 |zero=>
  intro b hb
  have hn:(cq l r).n=l.ag.length:=eg
  have C:=h.len
  have D:=h.le
  refine ⟨0,om,_,by simp [eT]; rfl,?_⟩
  rw [List.take_of_length_le om]
  unfold lg
  have A:=h.Lw
  have B:=h.KM
  exact g6 ⟨A,B⟩
 |succ d ih=>
  intro b hb
  have C:=h.len
  have ht:times[b]? =some (times[b]'om):=eC _
  have hg:good[b]? =some (good[b]'om):=eC _
  obtain ⟨o,ho,e,D,A⟩:=h.opt hl ht hg
  have B:=h.step b _ ht
  have E:=h.least (b:=b) om
  have F:(cq l r).gk=r.gk:=rfl
  have hv:=ih (b+1) om
  rw [mA ht,qx hg,mZ,← e] at hv
  exact qt (k:=1) (fO.2 ⟨o,ho,_,fD.2 ⟨by first|omega|(simp only; omega),U⟩,by simp [eT]; rfl⟩) (sM hv (by first|omega|(simp only; omega)))
theorem fK.pass (h:fK l r times good) (hl:dN l=0) {b:Nat} {t g:Int} (ht:times[b]? =some t) (hg:good[b]? =some g):vo (cq l r) b g t:=by
 have hb:=(List.getElem?_eq_some_iff.1 ht).1
 obtain ⟨v,hv,A⟩:=h.live hl b om
 obtain ⟨o,ho,e,B,C⟩:=h.opt hl ht hg
 have D:=h.step b _ ht
 have E:=h.least (b:=b) hb
 have F:(cq l r).gk=r.gk:=rfl
 have hw:=h.Kn hl (times.length-(b+1)) (b+1) om
 rw [mA ht,qx hg,mZ,← e] at hw
 simp only at A
 exact ⟨_,hv,o,ho,e,⟨by simp only; omega,om⟩,hw⟩
theorem fK.num (h:fK l r times good) (hl:dN l=0):(times.length:Int)∈iv (cq l r):=by
 obtain ⟨v,hv,_⟩:=h.live hl times.length (Nat.le_refl _)
 have hn:(cq l r).n=l.ag.length:=eg
 have B:=h.le
 refine pa.2 ⟨times.length,U,om,?_⟩
 unfold iA
 refine List.any_eq_true.2 ⟨_,hv,?_⟩
 have A:=h.len
 rw [List.take_of_length_le om]
 unfold lg
 exact g6 ⟨h.Lw,h.KM⟩
theorem fK.e (h:fK l r times good) (hl:dN l=0):ed l r 0=0:=km hl h.tc rfl fun e=>by have:=h.num hl; rw [e] at this; cases this
theorem fK.vl (h:fK l r times good) (hl:dN l=0):(times.length:Int)∈jk l r:=by rw [jJ (h.e hl)]; exact h.num hl
theorem fK.clear (h:fK l r times good) (hl:dN l=0):(zd l r=2→l.ct<(times.length:Int))∧(zd l r=0→(times.length:Int)≤l.ct):=by
 have hm:=h.vl hl
 have A:=(AT (qj (h.e hl))).2 _ hm
 have B:=(Il (qj (h.e hl))).2 _ hm
 unfold zd
 rw [if_pos (h.e hl)]
 constructor
 ·intro q
  split at q
  ·omega
  ·split at q<;>omega
 ·intro q
  split at q
  ·omega
  ·split at q<;>omega
end
end
section
def qE (hi:Int→Int) (least:Nat→Int) (now:Int):Nat→List Int→List Int×Int
 |_,[]=>([],now)
 |b,x::xs=>((if 0≤x then min (qE hi least now (b+1) xs).2 (hi x) else (qE hi least now (b+1) xs).2)::(qE hi least now (b+1) xs).1,(if 0≤x then min (qE hi least now (b+1) xs).2 (hi x) else (qE hi least now (b+1) xs).2)-least b)
section
variable {w:bp} {hi:Int→Int} {least:Nat→Int} {now:Int}
end
noncomputable def N9 (l:aU) (r:cK) (x:Int):Int:=match r.ay[x.toNat]? with
 |some s=>(dW l s).Hi
 |none=>0
noncomputable def Dx (l:aU) (r:cK) (rs:List Int):List Int:=(qE (N9 l r) (lJ l) r.gk 0 rs).1
noncomputable def II (l:aU) (r:cK) (rs fs:List Int):List sL:=if (r.ay.length:Int)-(kD rs).right≤l.er then [⟨rs,fs,Dx l r rs⟩] else []
section
variable {l:aU} {r:cK} {k j:Nat} {rs fs:List Int} {t:Int}
end
section
variable {l:aU} {r:cK} {i n:Nat} {s:aK} {rs:List Int}
end
section
variable {l:aU} {r:cK}
/-- the times at a beam, by all ways -/
def zK (b:Nat) (ws:List sL):List (Int×ab):=ws.filterMap fun y=>match y.kU[b]?,y.mh[b]?,y.qz[b]? with
 |some s,some f,some e=>some (s,⟨f,e⟩)
 |_,_,_=>none
theorem zr {b:Nat} {ws:List sL} {q:Int×ab}:q∈zK b ws↔ ∃ y∈ws,y.kU[b]? =some q.1∧y.mh[b]? =some q.2.Lo∧y.qz[b]? =some q.2.Hi:=by
 unfold zK
 rw [List.mem_filterMap]
 constructor
 ·rintro ⟨y,hy,h⟩
  cases e1:y.kU[b]? with
  |none=>rw [e1] at h; cases h
  |some s=>
   cases e2:y.mh[b]? with
   |none=>rw [e1,e2] at h; cases h
   |some f=>
    cases e3:y.qz[b]? with
    |none=>rw [e1,e2,e3] at h; cases h
    |some e=>
     rw [e1,e2,e3] at h; cases h
     exact ⟨y,hy,e1,e2,e3⟩
 ·rintro ⟨y,hy,A,B,C⟩
  exact ⟨y,hy,by rw [A,B,C]⟩
end
section
variable {l:aU} {r:cK}
/-- rows of times that are those of ways -/
structure KV (ws:List sL):Prop where
 lens: ∀ y∈ws,y.mh.length=y.kU.length∧y.qz.length=y.kU.length∧y.kU.length≤6
 le: ∀ y∈ws,∀ (b:Nat) f e,b<y.kU.length→y.mh[b]? =some f→y.qz[b]? =some e→f≤e
 num:ws.length≤40000000
theorem KV.IV {ws:List sL} (h:KV ws) {b:Nat}: ∀ q∈zK b ws,q.2.Lo≤q.2.Hi:=fun q hq=>by
 obtain ⟨y,hy,A,B,C⟩:=zr.1 hq
 exact h.le y hy b _ _ (List.getElem?_eq_some_iff.1 A).1 B C
end
end
section
open Go.RowKit
/-- what is known of the slots B is known in L -/
def H6 (B L:List (Nat×Value)):Prop:= ∀ t v,B.lookup t=some v→L.lookup t=some v
theorem HM {B L:List (Nat×Value)} (h:B.map (fun p=>L.lookup p.1)=B.map (fun p=>some p.2)):H6 B L:=by
 induction B with
 |nil=>intro t v h; simp at h
 |cons p B ih=>
  obtain ⟨k,u⟩:=p
  simp only [List.map_cons,List.cons.injEq] at h
  intro t v hl
  by_cases e:t=k
  ·subst e
   simp only [List.lookup,beq_self_eq_true,Option.some.injEq] at hl
   rw [h.1,hl]
  ·have:(t==k)=false:=by simpa using e
   simp only [List.lookup,this] at hl
   exact ih h.2 t v hl
theorem zL {L Y:List (Nat×Value)} {t:Nat}:(L++Y).lookup t=match L.lookup t with |some v=>some v|none=>Y.lookup t:=by
 induction L with
 |nil=>rfl
 |cons p L ih=>
  obtain ⟨k,u⟩:=p
  by_cases e:t==k
  ·simp [List.lookup,e]
  ·have:(t==k)=false:=by simpa using e
   simp only [List.cons_append,List.lookup,this,ih]
theorem H6.app {B L Y:List (Nat×Value)} (h:H6 B L):H6 B (L++Y):=fun t v ht=>by rw [zL,h t v ht]
section
variable (E:dM) (ops:Array Oper) (D:List Deferred) (C':List aj) (K0:Act→World→Prop) (B:List (Nat×Value)) (dO:Nat→Nat) (VO:Nat→Nat→Value) (AO:Nat→Nat→aj)
end
section
variable {E:dM} {ops:Array Oper} {D:List Deferred} {C' C1:List aj} {K0:Act→World→Prop} {B:List (Nat×Value)} {dO:Nat→Nat} {VO:Nat→Nat→Value} {AO:Nat→Nat→aj}
theorem Hq {Q:cd} {rest:List Oper} {L L2:List (Nat×Value)} {C C2:List aj} (hL: ∀ a,Fr E.n D L a→Fr E.n D L2 a) (hC: ∀ w,St E.S E.w0 C w→St E.S E.w0 C2 w) (h:RJ E ops Q rest D L2 C2):RJ E ops Q rest D L C:=fun a w hf hs=>h a w (hL a hf) (hC w hs)
theorem HV {K:Act→World→Prop} {L L2:List (Nat×Value)} {C C2:List aj} (hL: ∀ a,Fr E.n D L a→Fr E.n D L2 a) (hC: ∀ w,St E.S E.w0 C w→St E.S E.w0 C2 w) (h:KJ E K D L2 C2):KJ E K D L C:=fun a w hf hs=>h a w (hL a hf) (hC w hs)
theorem La {n:Nat} {L L2:List (Nat×Value)} (h: ∀ t v,L2.lookup t=some v→L.lookup t=some v) (a:Act) (hf:Fr n D L a):Fr n D L2 a:=⟨hf.defers,hf.size,fun t v ht=>hf.at_ t v (h t v ht)⟩
end
section
variable {E:dM} {ops:Array Oper} {D:List Deferred} {B:List (Nat×Value)} {dO:Nat→Nat} {VO:Nat→Nat→Value} {AO:Nat→Nat→aj}
variable {d:Nat} {ty:TypeId} {ps:String} {af:Array Edge}
end
section
variable {E:dM} {ops:Array Oper} {D:List Deferred} {C':List aj} {K0:Act→World→Prop} {B:List (Nat×Value)} {dO:Nat→Nat} {VO:Nat→Nat→Value} {AO:Nat→Nat→aj}
end
end
section
open Go.RowKit
section
variable {E:dM} {ops:Array Oper} {Q:cd} {rest:List Oper} {D:List Deferred} {L:List (Nat×Value)} {C C1:List aj}
end
section
variable {E:dM} {ops:Array Oper} {Q:cd} {rest:List Oper} {D:List Deferred} {L:List (Nat×Value)} {C:List aj}
end
/-- the head of the ways: the way that ends here, if it may -/
def Ao (l:aU) (r:cK) (rs fs:List Int) (ra fa:RA) (hz:List BU) (LA:List aj):Prop:=
 ((r.ay.length:Int)-(kD rs).right≤l.er∧ ∃ la:RA,hz=[(ra,fa,la)]∧LA=[own la.1 la.2 vv 1 ((Dx l r rs).map iC)])∨(¬ (r.ay.length:Int)-(kD rs).right≤l.er∧hz=[]∧LA=[])
theorem Ao.len {l:aU} {r:cK} {rs fs:List Int} {ra fa:RA} {hz:List BU} {LA:List aj} (h:Ao l r rs fs ra fa hz LA):hz.length=(II l r rs fs).length:=by
 unfold II
 rcases h with ⟨q,la,rfl,rfl⟩|⟨q,rfl,rfl⟩
 ·rw [if_pos q]; rfl
 ·rw [if_neg q]; rfl
theorem Ao.wr {l:aU} {r:cK} {rs fs:List Int} {ra fa:RA} {hz:List BU} {LA:List aj} (h:Ao l r rs fs ra fa hz LA):LA.all (·.wr)=true:=by
 rcases h with ⟨q,la,rfl,rfl⟩|⟨q,rfl,rfl⟩<;>rfl
end
section
theorem TN.sub {E:dM} {ops:Array Oper} {Q:cd} {D:List Deferred} {C' C1 C:List aj} {tb rem:List Nat}: ∀ {n:Nat} {L L':List (Nat×Value)},ew L L'→TN E ops D C' C1 (fun L C=>KJ E (Q .normal) D L C) tb n rem L' C→TN E ops D C' C1 (fun L C=>KJ E (Q .normal) D L C) tb n rem L C:=by
 intro n
 cases n with
 |zero=>intro L L' hs h; exact jB hs (fun _ h=>h) h
 |succ n=>intro L L' hs h i hi o ho K hK; exact IX hs (fun _ h=>h) (h i hi o ho K hK)
theorem Gr {E:dM} {ops:Array Oper} {Q:cd} {D:List Deferred} {C' C1 C:List aj} {bs:List Bool} {os:List Oper} {L:List (Nat×Value)} {tb rem:List Nat} {n:Nat} {t:Nat} {b:Bool} (h:L.lookup t=some (.bool b))
 (h1:b=true→mV E ops D C' C1 (fun L'=>TN E ops D C' C1 (fun L C=>KJ E (Q .normal) D L C) tb n rem L' C) bs os ((t,.bool true)::L)) (h2:b=false→mV E ops D C' C1 (fun L'=>TN E ops D C' C1 (fun L C=>KJ E (Q .normal) D L C) tb n rem L' C) bs os ((t,.bool false)::L)):
 mV E ops D C' C1 (fun L'=>TN E ops D C' C1 (fun L C=>KJ E (Q .normal) D L C) tb n rem L' C) bs os L:=by
 have A: ∀ v:Bool,b=v→ew L ((t,.bool v)::L):=fun v hv=>ew.cons (hv▸h) (fun _ _ h=>h)
 cases b
 ·exact mV.mono (fun _ _=>TN.sub) (A _ U) (h2 U)
 ·exact mV.mono (fun _ _=>TN.sub) (A _ U) (h1 U)
theorem CZ {E:dM} {ops:Array Oper} {Q:cd} {D:List Deferred} {L:List (Nat×Value)} {C1 C2 C:List aj} {t n:Nat} {b:Bool} {bs:List Bool} {os:List Oper} {tb rem:List Nat} (h:L.lookup t=some (.bool b)) (h2:b=false→mV E ops D C2 C1 (fun L2=>TN E ops D C2 C1 (fun L C=>KJ E (Q .normal) D L C) tb n rem L2 C) bs os ((t,.bool false)::L)) (h1:b=true→mV E ops D C2 C1 (fun L2=>TN E ops D C2 C1 (fun L C=>KJ E (Q .normal) D L C) tb n rem L2 C) bs os ((t,.bool true)::L)):mV E ops D C2 C1 (fun L2=>TN E ops D C2 C1 (fun L C=>KJ E (Q .normal) D L C) tb n rem L2 C) bs os L:=Gr h h1 h2
end
section
open Go.RowKit
theorem lk (la:List Int) (laA:OA) (laC:Nat) (lb:List Int) (lbA:OA) (lbC:Nat) (h1:la.length≤1000000) (h2:lb.length≤1000000):
 dQ Tryz.prog 29 [(vS laA la.length laC),(vS lbA lb.length lbC)] [(rd laA la.length 1 (la.map iC)),(rd lbA lb.length 1 (lb.map iC))] (vB (decide (la=lb))):=by
 refine bx kr Tryz.func29 U U fun V Q hQ hN=>?_
 try dsimp only
 refine WS fun _ J=>a_ 1 U<|RK J<|al fun _ K=>WS fun _ L=>rP 5 [] I ?_
 refine RK L<|dF U (bL fun hl=>?_) (bM fun hl=>?_)
 ·refine WS fun _ M=>rP 1 [] I ?_
  refine RK M<|aB<|Q1 hQ U U U ?_
  exact cB (df (fun e=>by subst e; omega)).symm
 refine WK K<|al fun _ N=>WS fun _ O=>rP 1 [] I ?_
 refine RK O<|aF ?_
 have A:(0≤la.length)∧(la.take 0=lb.take 0):=by simp
 refine bX (ι:={z:Nat // (z≤la.length)∧(la.take z=lb.take z)}) [0,1] [0,1] U U (fun z=>[(5,(vI (z.1:Int)))]) (fun z=>[]) (fun _=>rfl) (fun _=>rfl) (fun z=>la.length-z.1) ⟨0,A⟩ (aT U) (aJ [0,1]) ?_
 clear A
 rintro ⟨i,⟨S,B⟩⟩ J7 AB
 try dsimp only
 refine al fun _ P=>WS fun _ R=>rP 4 [] I ?_
 refine RK R<|cu U (aZ fun H=>?_) (aY fun H=>?_)
 ·refine bq<|ah<|ah<|aD<|KK N<|WS fun _ F=>rP 1 [] I ?_
  refine RK F<|aB<|Q1 hQ U U U ?_
  exact cB (g6 (k7 om B om)).symm
 refine WK P<|al fun _ C=>aF<|al fun _ D=>dR cE 9 kr<|dP 2 [] I ?_
 obtain ⟨x,hx⟩:=aQ la i om
 have T:=cG iC hx
 refine dS (IA i U (aS 0 U) b0 dc om om)<|dS (g4 i 0 (vI x) U cz (aS 0 U) T U dc U)<|dP 2 [] I ?_
 obtain ⟨y,hy⟩:=aQ lb i om
 have AA:=cG iC hy
 refine dS (IA i U (aS 1 U) b0 dc om om)<|dS (g4 i 0 (vI y) U cz (aS 1 U) AA U dc U)<|dP 1 [] I ?_
 refine dJ<|RK D<|dF U (bL fun h=>?_) (bM fun h=>?_)
 ·refine WS fun _ E=>rP 1 [] I ?_
  refine RK E<|aB<|Q1 hQ U U U ?_
  exact cB (df (kQ hx hy h)).symm
 refine cJ<|aH<|KK C<|au<|rP 3 [] I ?_
 refine aG ?_
 have G:(vI (((i+1):Nat):Int))=(vI ((i:Int)+1)):=by exact cI om
 refine bc (AB ⟨(i+1),⟨om,qs B hx hy h⟩⟩ _ _ _ U os (ew.cons U<|ew.cons U<|bO U G<|ew.nil _) (aJ [0,1]))
end
section
open Go.RowKit
theorem nP (G:List (List Int)) (H:List (List Int)) (gz:List RA) (gA:OA) (gC:Nat) (hz:List RA) (hA:OA) (hC:Nat) (h1:G.length≤1000000) (h2:H.length≤1000000) (h3: ∀ l∈G,l.length≤1000000) (h4: ∀ l∈H,l.length≤1000000) (hgz:gz.length=G.length) (hhz:hz.length=H.length):
 dQ Tryz.prog 22 [(vS gA G.length gC),(vS hA H.length hC)] [(rd gA G.length 1 (List.zipWith j5 G gz)),(eR (aR Ks G gz)),(rd hA H.length 1 (List.zipWith j5 H hz)),(eR (aR Ks H hz))] (vB (decide (G=H))):=by
 refine bx kr Tryz.func22 U U fun Z Q hQ hN=>?_
 try dsimp only
 refine WS fun _ N=>a_ 1 U<|RK N<|al fun _ O=>WS fun _ P=>rP 5 [] I ?_
 refine RK P<|dF U (bL fun hl=>?_) (bM fun hl=>?_)
 ·refine WS fun _ R=>rP 1 [] I ?_
  refine RK R<|aB<|Q1 hQ U U U ?_
  first|exact cB (df (kQ hx hy h)).symm|exact cB (g6 (k7 om A om)).symm|exact cB (df (fun e=>by subst e; omega)).symm
 refine WK O<|al fun _ S=>WS fun _ T=>rP 1 [] I ?_
 refine RK T<|aF ?_
 have B:(0≤G.length)∧(G.take 0=H.take 0):=by exact ⟨Nat.zero_le _,rfl⟩
 refine bX (ι:={z:Nat // (z≤G.length)∧(G.take z=H.take z)}) [0,1] [0,1,2,3] U U (fun z=>[(5,(vI (z.1:Int)))]) (fun z=>[]) (fun _=>rfl) (fun _=>rfl) (fun z=>G.length-z.1) ⟨0,B⟩ (aT U) (aJ [0,1,2,3]) ?_
 clear B
 rintro ⟨i,⟨W,A⟩⟩ J7 M
 try dsimp only
 refine al fun _ AA=>WS fun _ V=>rP 4 [] I ?_
 refine RK V<|cu U (aZ fun L=>?_) (aY fun L=>?_)
 ·refine bq<|ah<|ah<|aD<|KK S<|WS fun _ F=>rP 1 [] I ?_
  refine RK F<|aB<|Q1 hQ U U U ?_
  first|exact cB (df (kQ hx hy h)).symm|exact cB (g6 (k7 om A om)).symm|exact cB (df (fun e=>by subst e; omega)).symm
 refine WK AA<|al fun _ C=>aF<|al fun _ D=>dR cE 10 kr<|dP 2 [] I ?_
 obtain ⟨x,hx⟩:=aQ G i om
 obtain ⟨xa,J⟩:=aQ gz i om
 have X:(List.zipWith j5 G gz)[i]? =some (j5 x xa):=dE hx J
 refine dS (IA i U (aS 0 U) lU dc om om)<|dS (g4 i 0 (vS xa.1 x.length xa.2) U cz (aS 0 U) X U dc U)<|dP 2 [] I ?_
 obtain ⟨y,hy⟩:=aQ H i om
 obtain ⟨ya,K⟩:=aQ hz i om
 have Y:(List.zipWith j5 H hz)[i]? =some (j5 y ya):=dE hy K
 refine dS (IA i U (aS 2 U) lU dc om om)<|dS (g4 i 0 (vS ya.1 y.length ya.2) U cz (aS 2 U) Y U dc U)<|dS (CL (lk x xa.1 xa.2 y ya.1 ya.2 (by exact h3 x (aN hx)) (by exact h4 y (aN hy))) (ae (show jf _ (rd xa.1 x.length 1 (x.map iC)).holds from (eh 1 U (bY hx J (by simp [Ks]))))<|ae (show jf _ (rd ya.1 y.length 1 (y.map iC)).holds from (eh 3 U (bY hy K (by simp [Ks]))))<|aC) U)<|dP 1 [] I ?_
 refine dJ<|RK D<|dF U (bL fun h=>?_) (bM fun h=>?_)
 ·refine WS fun _ E=>rP 1 [] I ?_
  refine RK E<|aB<|Q1 hQ U U U ?_
  first|exact cB (df (kQ hx hy h)).symm|exact cB (g6 (k7 om A om)).symm|exact cB (df (fun e=>by subst e; omega)).symm
 refine cJ<|aH<|KK C<|au<|rP 3 [] I ?_
 refine aG ?_
 have AB:(vI (((i+1):Nat):Int))=(vI ((i:Int)+1)):=by exact cI om
 refine bc (M ⟨(i+1),⟨om,qs A hx hy h⟩⟩ _ _ _ U os (ew.cons U<|ew.cons U<|bO U AB<|ew.nil _) (aJ [0,1,2,3]))
end
section
open Go.RowKit
theorem E_ (l:List ao) (lA:OA) (lC:Nat) (hlen:l.length≤1000000):
 kd Tryz.prog 87 [(vS lA l.length lC)] [(rd lA l.length 9 (l.map ao.cells))] (fun (x:(OA)×Nat)=>(vS x.1 l.length x.2)) (fun (x:(OA)×Nat)=>True) (fun (x:(OA)×Nat)=>[(own x.1 x.2 114 9 (l.map ao.cells))]):=by
 refine cS kr Tryz.func87 U U fun L Q hQ hN=>?_
 try dsimp only
 refine WS fun _ D=>a_ 1 U<|RK D<|al fun _ E=>WS fun _ F=>rP 1 [] I ?_
 refine rS (BI U (nE KR))<|RK F<|dF U (aY fun B=>?_) (aZ fun B=>?_)
 ·refine WS fun _ G=>jR (aS 0 U) B dc fun C=>?_
  have A:l=[]:=by simpa using C
  refine dw 114 9 ?_
  rw [show (own none 0 114 9 ([]:List (List Value)))=own none 0 114 9 (l.map ao.cells) from by rw [A]; rfl]
  refine rP 1 [] I ?_
  refine RK G<|aB ?_
  refine LX hQ (none,0) [0] [] I U U U ?_ ?_
  ·first|rfl|(rw [A]; rfl)
  ·trivial
 refine WK E<|WS fun _ H=>qT U Cm U fun J=>rP 1 [] I ?_
 refine cQ (es:=(List.map ao.cells [])) (C':=[own (some ⟨J,0,none⟩) 0 114 9 (List.map ao.cells []),_]) 0 U sm U (by simp [maxLen]) U ?_
 refine dL (es2:=(List.map ao.cells l)) (m':=l.length) 0 U U U NJ U U sm (aS 1 U) (oE _) os (by first|(simp only [maxLen]; omega)|(simp [maxLen]; omega)) sm sm U fun AA K=>?_
 try dsimp only
 refine rP 1 [] I ?_
 refine RK H<|aB ?_
 refine LX hQ (AA,K) [0] [] I U U U ?_ ?_
 ·first|rfl|(rw [A]; rfl)
 ·trivial
theorem E6 (l:List bG) (lA:OA) (lC:Nat) (hlen:l.length≤1000000):
 kd Tryz.prog 89 [(vS lA l.length lC)] [(rd lA l.length 4 (l.map bG.cells))] (fun (x:(OA)×Nat)=>(vS x.1 l.length x.2)) (fun (x:(OA)×Nat)=>True) (fun (x:(OA)×Nat)=>[(own x.1 x.2 121 4 (l.map bG.cells))]):=by
 refine cS kr Tryz.func89 U U fun L Q hQ hN=>?_
 try dsimp only
 refine WS fun _ D=>a_ 1 U<|RK D<|al fun _ E=>WS fun _ F=>rP 1 [] I ?_
 refine rS (BI U (nE KI))<|RK F<|dF U (aY fun B=>?_) (aZ fun B=>?_)
 ·refine WS fun _ G=>jR (aS 0 U) B dc fun C=>?_
  have A:l=[]:=by simpa using C
  refine dw 121 4 ?_
  rw [show (own none 0 121 4 ([]:List (List Value)))=own none 0 121 4 (l.map bG.cells) from by rw [A]; rfl]
  refine rP 1 [] I ?_
  refine RK G<|aB ?_
  refine LX hQ (none,0) [0] [] I U U U ?_ ?_
  ·first|rfl|(rw [A]; rfl)
  ·trivial
 refine WK E<|WS fun _ H=>qT U Ba U fun J=>rP 1 [] I ?_
 refine cQ (es:=(List.map bG.cells [])) (C':=[own (some ⟨J,0,none⟩) 0 121 4 (List.map bG.cells []),_]) 0 U sm U (by simp [maxLen]) U ?_
 refine dL (es2:=(List.map bG.cells l)) (m':=l.length) 0 U U U Nd U U sm (aS 1 U) (re _) os (by first|(simp only [maxLen]; omega)|(simp [maxLen]; omega)) sm sm U fun AA K=>?_
 try dsimp only
 refine rP 1 [] I ?_
 refine RK H<|aB ?_
 refine LX hQ (AA,K) [0] [] I U U U ?_ ?_
 ·first|rfl|(rw [A]; rfl)
 ·trivial
theorem EF (l:List cP) (lA:OA) (lC:Nat) (hlen:l.length≤1000000):
 kd Tryz.prog 90 [(vS lA l.length lC)] [(rd lA l.length 3 (l.map cP.cells))] (fun (x:(OA)×Nat)=>(vS x.1 l.length x.2)) (fun (x:(OA)×Nat)=>True) (fun (x:(OA)×Nat)=>[(own x.1 x.2 116 3 (l.map cP.cells))]):=by
 refine cS kr Tryz.func90 U U fun L Q hQ hN=>?_
 try dsimp only
 refine WS fun _ D=>a_ 1 U<|RK D<|al fun _ E=>WS fun _ F=>rP 1 [] I ?_
 refine rS (BI U (nE K_))<|RK F<|dF U (aY fun B=>?_) (aZ fun B=>?_)
 ·refine WS fun _ G=>jR (aS 0 U) B dc fun C=>?_
  have A:l=[]:=by simpa using C
  refine dw 116 3 ?_
  rw [show (own none 0 116 3 ([]:List (List Value)))=own none 0 116 3 (l.map cP.cells) from by rw [A]; rfl]
  refine rP 1 [] I ?_
  refine RK G<|aB ?_
  refine LX hQ (none,0) [0] [] I U U U ?_ ?_
  ·first|rfl|(rw [A]; rfl)
  ·trivial
 refine WK E<|WS fun _ H=>qT U ur U fun J=>rP 1 [] I ?_
 refine cQ (es:=(List.map cP.cells [])) (C':=[own (some ⟨J,0,none⟩) 0 116 3 (List.map cP.cells []),_]) 0 U sm U (by simp [maxLen]) U ?_
 refine dL (es2:=(List.map cP.cells l)) (m':=l.length) 0 U U U Lj U U sm (aS 1 U) (rf _) os (by first|(simp only [maxLen]; omega)|(simp [maxLen]; omega)) sm sm U fun AA K=>?_
 try dsimp only
 refine rP 1 [] I ?_
 refine RK H<|aB ?_
 refine LX hQ (AA,K) [0] [] I U U U ?_ ?_
 ·first|rfl|(rw [A]; rfl)
 ·trivial
theorem Eb (l:List aK) (lA:OA) (lC:Nat) (hlen:l.length≤1000000):
 kd Tryz.prog 93 [(vS lA l.length lC)] [(rd lA l.length 2 (l.map aK.cells))] (fun (x:(OA)×Nat)=>(vS x.1 l.length x.2)) (fun (x:(OA)×Nat)=>True) (fun (x:(OA)×Nat)=>[(own x.1 x.2 123 2 (l.map aK.cells))]):=by
 refine cS kr Tryz.func93 U U fun L Q hQ hN=>?_
 try dsimp only
 refine WS fun _ D=>a_ 1 U<|RK D<|al fun _ E=>WS fun _ F=>rP 1 [] I ?_
 refine rS (BI U (nE NF))<|RK F<|dF U (aY fun B=>?_) (aZ fun B=>?_)
 ·refine WS fun _ G=>jR (aS 0 U) B dc fun C=>?_
  have A:l=[]:=by simpa using C
  refine dw 123 2 ?_
  rw [show (own none 0 123 2 ([]:List (List Value)))=own none 0 123 2 (l.map aK.cells) from by rw [A]; rfl]
  refine rP 1 [] I ?_
  refine RK G<|aB ?_
  refine LX hQ (none,0) [0] [] I U U U ?_ ?_
  ·first|rfl|(rw [A]; rfl)
  ·trivial
 refine WK E<|WS fun _ H=>qT U JS U fun J=>rP 1 [] I ?_
 refine cQ (es:=(List.map aK.cells [])) (C':=[own (some ⟨J,0,none⟩) 0 123 2 (List.map aK.cells []),_]) 0 U sm U (by simp [maxLen]) U ?_
 refine dL (es2:=(List.map aK.cells l)) (m':=l.length) 0 U U U MW U U sm (aS 1 U) (o8 _) os (by first|(simp only [maxLen]; omega)|(simp [maxLen]; omega)) sm sm U fun AA K=>?_
 try dsimp only
 refine rP 1 [] I ?_
 refine RK H<|aB ?_
 refine LX hQ (AA,K) [0] [] I U U U ?_ ?_
 ·first|rfl|(rw [A]; rfl)
 ·trivial
theorem F7 (es:List (List Value)) (lA:OA) (n lC:Nat) (hlen:n≤1000000) (hes:es.length=n) (hone: ∀ v∈es.flatten,v.oneCell'=true):
 kd Tryz.prog 88 [(vS lA n lC)] [(rd lA n 2 es)] (fun (x:(OA)×Nat)=>(vS x.1 n x.2)) (fun (x:(OA)×Nat)=>True) (fun (x:(OA)×Nat)=>[(own x.1 x.2 119 2 es)]):=by
 refine cS kr Tryz.func88 U U fun L Q hQ hN=>?_
 try dsimp only
 refine WS fun _ D=>a_ 1 U<|RK D<|al fun _ E=>WS fun _ F=>rP 1 [] I ?_
 refine rS (BI U (nE NC))<|RK F<|dF U (aY fun B=>?_) (aZ fun B=>?_)
 ·refine WS fun _ G=>jR (aS 0 U) B dc fun C=>?_
  have A:es=[]:=C
  refine dw 119 2 ?_
  rw [show (own none 0 119 2 ([]:List (List Value)))=own none 0 119 2 es from by rw [A]]
  refine rP 1 [] I ?_
  refine RK G<|aB ?_
  refine LX hQ (none,0) [0] [] I U U U ?_ ?_
  ·first|rfl|(rw [hes]; rfl)|(rw [← hes,A]; rfl)
  ·trivial
 refine WK E<|WS fun _ H=>qT U Cs U fun J=>rP 1 [] I ?_
 refine cQ (es:=(List.map eD.cells [])) (C':=[own (some ⟨J,0,none⟩) 0 119 2 (List.map eD.cells []),_]) 0 U sm U (by simp [maxLen]) U ?_
 refine dL (es2:=es) (m':=es.length) 0 U U U Nk U U sm (aS 1 U) hone (by simp; omega) (by simp [maxLen]; omega) sm U U fun AA K=>?_
 try dsimp only
 refine rP 1 [] I ?_
 refine RK H<|aB ?_
 refine LX hQ (AA,K) [0] [] I U U U ?_ ?_
 ·first|rfl|(rw [hes]; rfl)|(rw [← hes,A]; rfl)
 ·trivial
theorem D0 (es:List (List Value)) (lA:OA) (n lC:Nat) (hlen:n≤1000000) (hes:es.length=n) (hone: ∀ v∈es.flatten,v.oneCell'=true):
 kd Tryz.prog 92 [(vS lA n lC)] [(rd lA n 7 es)] (fun (x:(OA)×Nat)=>(vS x.1 n x.2)) (fun (x:(OA)×Nat)=>True) (fun (x:(OA)×Nat)=>[(own x.1 x.2 45 7 es)]):=by
 refine cS kr Tryz.func92 U U fun L Q hQ hN=>?_
 try dsimp only
 refine WS fun _ D=>a_ 1 U<|RK D<|al fun _ E=>WS fun _ F=>rP 1 [] I ?_
 refine rS (BI U (nE M3))<|RK F<|dF U (aY fun B=>?_) (aZ fun B=>?_)
 ·refine WS fun _ G=>jR (aS 0 U) B dc fun C=>?_
  have A:es=[]:=C
  refine dw 45 7 ?_
  rw [show (own none 0 45 7 ([]:List (List Value)))=own none 0 45 7 es from by rw [A]]
  refine rP 1 [] I ?_
  refine RK G<|aB ?_
  refine LX hQ (none,0) [0] [] I U U U ?_ ?_
  ·first|rfl|(rw [hes]; rfl)|(rw [← hes,A]; rfl)
  ·trivial
 refine WK E<|WS fun _ H=>qT U td U fun J=>rP 1 [] I ?_
 refine cQ (es:=(List.map aV.cells [])) (C':=[own (some ⟨J,0,none⟩) 0 45 7 (List.map aV.cells []),_]) 0 U sm U (by simp [maxLen]) U ?_
 refine dL (es2:=es) (m':=es.length) 0 U U U MS U U sm (aS 1 U) hone (by simp; omega) (by simp [maxLen]; omega) sm U U fun AA K=>?_
 try dsimp only
 refine rP 1 [] I ?_
 refine RK H<|aB ?_
 refine LX hQ (AA,K) [0] [] I U U U ?_ ?_
 ·first|rfl|(rw [hes]; rfl)|(rw [← hes,A]; rfl)
 ·trivial
theorem CU (es:List (List Value)) (lA:OA) (n lC:Nat) (hlen:n≤1000000) (hes:es.length=n) (hone: ∀ v∈es.flatten,v.oneCell'=true):
 kd Tryz.prog 91 [(vS lA n lC)] [(rd lA n 1 es)] (fun (x:(OA)×Nat)=>(vS x.1 n x.2)) (fun (x:(OA)×Nat)=>True) (fun (x:(OA)×Nat)=>[(own x.1 x.2 46 1 es)]):=by
 refine cS kr Tryz.func91 U U fun L Q hQ hN=>?_
 try dsimp only
 refine WS fun _ D=>a_ 1 U<|RK D<|al fun _ E=>WS fun _ F=>rP 1 [] I ?_
 refine rS (BI U (nE MG))<|RK F<|dF U (aY fun B=>?_) (aZ fun B=>?_)
 ·refine WS fun _ G=>jR (aS 0 U) B dc fun C=>?_
  have A:es=[]:=C
  refine dw 46 1 ?_
  rw [show (own none 0 46 1 ([]:List (List Value)))=own none 0 46 1 es from by rw [A]]
  refine rP 1 [] I ?_
  refine RK G<|aB ?_
  refine LX hQ (none,0) [0] [] I U U U ?_ ?_
  ·first|rfl|(rw [hes]; rfl)|(rw [← hes,A]; rfl)
  ·trivial
 refine WK E<|WS fun _ H=>qT U q9 U fun J=>rP 1 [] I ?_
 refine cQ (es:=(List.map sC [])) (C':=[own (some ⟨J,0,none⟩) 0 46 1 (List.map sC []),_]) 0 U sm U (by simp [maxLen]) U ?_
 refine dL (es2:=es) (m':=es.length) 0 U U U M4 U U sm (aS 1 U) hone (by simp; omega) (by simp [maxLen]; omega) sm U U fun AA K=>?_
 try dsimp only
 refine rP 1 [] I ?_
 refine RK H<|aB ?_
 refine LX hQ (AA,K) [0] [] I U U U ?_ ?_
 ·first|rfl|(rw [hes]; rfl)|(rw [← hes,A]; rfl)
 ·trivial
end
section
open Go.RowKit
theorem H4 (r:bQ) (kA:OA) (kC:Nat) (az:List RA) (cA:OA) (cC:Nat) (bA:OA) (bC:Nat) (slA:OA) (slC:Nat) (drA:OA) (drC:Nat) (ha:List cb) (heA:OA) (heC:Nat) (hin:dG r az ha):
 kd Tryz.prog 66 [(vA (bV.cells (nM r kA kC cA cC bA bC slA slC drA drC heA heC)))] [(rd kA r.ai.aO.length 9 (r.ai.aO.map ao.cells)),(rd cA r.ai.ak.length 2 (List.zipWith aA.cells r.ai.ak az)),(eR (aR aA.jx r.ai.ak az)),(rd bA r.ai.ag.length 4 (r.ai.ag.map bG.cells)),(rd slA r.aI.length 1 (r.aI.map iC)),(rd drA r.bu.length 1 (r.bu.map iC)),(rd heA r.aq.length 1 (List.zipWith cm r.aq ha)),(eR (aR ja r.aq ha))] (fun (x:(OA)×Nat×(OA)×Nat×(List RA)×(OA)×Nat×(OA)×Nat×(OA)×Nat×(OA)×Nat×(List cb))=>(vA (bV.cells (bV.mk (cj.mk (bK.mk (ba.mk x.1 r.ai.aO.length x.2.1)) r.ai.gV (ba.mk x.2.2.1 r.ai.ak.length x.2.2.2.1) (ba.mk x.2.2.2.2.2.1 r.ai.ag.length x.2.2.2.2.2.2.1) r.ai.ct r.ai.er r.ai.dx) (ba.mk x.2.2.2.2.2.2.2.1 r.aI.length x.2.2.2.2.2.2.2.2.1) (ba.mk x.2.2.2.2.2.2.2.2.2.1 r.bu.length x.2.2.2.2.2.2.2.2.2.2.1) r.gf (ba.mk x.2.2.2.2.2.2.2.2.2.2.2.1 r.aq.length x.2.2.2.2.2.2.2.2.2.2.2.2.1))))) (fun (x:(OA)×Nat×(OA)×Nat×(List RA)×(OA)×Nat×(OA)×Nat×(OA)×Nat×(OA)×Nat×(List cb))=>(x.2.2.2.2.1.length=r.ai.ak.length∧ov r.ai.ak x.2.2.2.2.1)∧mI r.aq x.2.2.2.2.2.2.2.2.2.2.2.2.2) (fun (x:(OA)×Nat×(OA)×Nat×(List RA)×(OA)×Nat×(OA)×Nat×(OA)×Nat×(OA)×Nat×(List cb))=>[(own x.1 x.2.1 114 9 (r.ai.aO.map ao.cells)),(own x.2.2.1 x.2.2.2.1 119 2 (List.zipWith aA.cells r.ai.ak x.2.2.2.2.1)),(bf (aR aA.owns r.ai.ak x.2.2.2.2.1)),(own x.2.2.2.2.2.1 x.2.2.2.2.2.2.1 121 4 (r.ai.ag.map bG.cells)),(own x.2.2.2.2.2.2.2.1 x.2.2.2.2.2.2.2.2.1 3 1 (r.aI.map iC)),(own x.2.2.2.2.2.2.2.2.2.1 x.2.2.2.2.2.2.2.2.2.2.1 3 1 (r.bu.map iC)),(own x.2.2.2.2.2.2.2.2.2.2.2.1 x.2.2.2.2.2.2.2.2.2.2.2.2.1 46 1 (List.zipWith cm r.aq x.2.2.2.2.2.2.2.2.2.2.2.2.2)),(bf (aR gG r.aq x.2.2.2.2.2.2.2.2.2.2.2.2.2))]):=by
 have C:=hin.line
 have J6:=hin.g9
 have M:=hin.has
 have LE:=hin.gT
 have K8:=hin.draw
 have LK:=dy (r:=r)
 have NI:=C.wJ
 have M2:=C.wI
 have ML:=C.v8
 have J3:=C.pQ
 refine cS kr Tryz.func66 U U fun w0 Q hQ hN=>?_
 try dsimp only
 refine WS fun _ JO=>g5 U fun b2=>AL U mX fun b3=>RK JO<|WS fun _ JQ=>rP 2 [] I ?_
 refine RK JQ<|al fun _ Jn=>ek cE [8,13,18,22,25,28] [7,11,15] [0,1,2] [0,2,3,4,5,6,7,8,9] [0,1,2,3,4,5,6,7,8,9] U U U U U<|eS U (MV U)<|eS U (MV U)<|eS U (MV U)<|eS U (MV U)<|eS U (SX (bk U U) U U)<|eS U (FA 0 U fI U)<|eS U (FA 0 U fI U)<|fS U (L1 (vS kA r.ai.aO.length kC) 1 U cz U U)<|eS U (MV U)<|eS U (SX (bk U U) U U)<|eS U (FA 2 U fI U)<|fS U (L1 (vS cA r.ai.ak.length cC) 1 U cz U U)<|eS U (MV U)<|eS U (SX (bk U U) U U)<|eS U (FA 3 U fI U)<|fS U (L1 (vS bA r.ai.ag.length bC) 1 U cz U U)<|eS U (SX (bk U U) U U)<|eS U (FA 0 U fI U)<|eS U (FA 0 U fI U)<|eS U (SX (bk U U) U U)<|eS U (FA 2 U fI U)<|eS U (SX (bk U U) U U)<|eS U (FA 3 U fI U)<|e7 U<|gj U fun T6 J2=>?_
 refine cX (E_ r.ai.aO kA kC sd) (bj [2]) U fun y7 NR=>?_
 obtain ⟨a9,S⟩:=y7
 try dsimp only
 refine aG (J2 _ _ (aJ [1,3,4,5,6,7,8,9,10]) (aJ [1,2,3,4,5,6,7,8,9,10]) ?_)
 refine gj U fun T11 EQ=>?_
 refine cX (F7 (List.zipWith aA.cells r.ai.ak az) cA r.ai.ak.length cC sd (by exact c_ J3) (by exact yg _ _)) (bj [4]) U fun J8 LR=>?_
 obtain ⟨J,K⟩:=J8
 try dsimp only
 refine aG (EQ _ _ (aJ [2,4,5,6,7,8,9,10,11]) (aJ [2,3,4,5,6,7,8,9,10,11]) ?_)
 refine gj U fun T16 Ej=>?_
 refine cX (E6 r.ai.ag bA bC sd) (bj [7]) U fun J9 LT=>?_
 obtain ⟨Y,Z⟩:=J9
 try dsimp only
 refine aG (Ej _ _ (aJ [3,5,6,7,8,9,10,11,12]) (aJ [3,4,5,6,7,8,9,10,11,12]) ?_)
 refine cf U fun T21 Eq=>NP (bV.cells (bV.mk (cj.mk (bK.mk (ba.mk a9 r.ai.aO.length S)) r.ai.gV (ba.mk cA r.ai.ak.length cC) (ba.mk bA r.ai.ag.length bC) r.ai.ct r.ai.er r.ai.dx) (ba.mk slA r.aI.length slC) (ba.mk drA r.bu.length drC) r.gf (ba.mk heA r.aq.length heC))) U M7 U U<|aG (Eq _ _ (aJ [3,5,6,7,8,9,10,11,12]) ?_)
 refine cf U fun T22 E9=>NP (bV.cells (bV.mk (cj.mk (bK.mk (ba.mk a9 r.ai.aO.length S)) r.ai.gV (ba.mk J r.ai.ak.length K) (ba.mk bA r.ai.ag.length bC) r.ai.ct r.ai.er r.ai.dx) (ba.mk slA r.aI.length slC) (ba.mk drA r.bu.length drC) r.gf (ba.mk heA r.aq.length heC))) U Nz U U<|aG (E9 _ _ (aJ [3,5,6,7,8,9,10,11,12]) ?_)
 refine cf U fun T23 FS=>NP (bV.cells (bV.mk (cj.mk (bK.mk (ba.mk a9 r.ai.aO.length S)) r.ai.gV (ba.mk J r.ai.ak.length K) (ba.mk Y r.ai.ag.length Z) r.ai.ct r.ai.er r.ai.dx) (ba.mk slA r.aI.length slC) (ba.mk drA r.bu.length drC) r.gf (ba.mk heA r.aq.length heC))) U ME U U<|aG (FS _ _ (aJ [3,5,6,7,8,9,10,11,12]) ?_)
 refine fH U<|KK Jn<|al fun _ A6=>WS fun _ A7=>a_ 1 U<|rS (SX (bk U U) U U)<|rP 4 [] (mc 4 U I) ?_
 refine RK A7<|aF<|nt ?_
 have E:(0≤r.ai.ak.length)∧(([]:List RA).length=0)∧(ov r.ai.ak ([]:List RA)):=by exact ⟨Nat.zero_le _,rfl,fun k m a _ h=>by simp at h⟩
 refine bX (ι:={z:Nat×(List RA) // (z.1≤r.ai.ak.length)∧(z.2.length=z.1)∧(ov r.ai.ak z.2)}) [1,2,3,39] [1,3,4,5,6,7,8,9,10,11,12,13] U U (fun z=>[(40,(vI (z.1.1:Int)))]) (fun z=>[(bf (aR aA.owns (r.ai.ak.take z.1.1) z.1.2)),(own J K 119 2 (List.zipWith aA.cells r.ai.ak (iB z.1.2 az z.1.1)))]) (fun _=>rfl) (fun _=>rfl) (fun z=>r.ai.ak.length-z.1.1) ⟨(0,([]:List RA)),E⟩ (aT U) (aJ [1,3,4,5,6,7,8,9,10,11,12,13,0,2]) ?_
 clear E
 rintro ⟨⟨i,bz⟩,⟨A2,B,V⟩⟩ J26 A3
 try dsimp only at A2 B V
 try dsimp only
 refine WS fun _ A8=>rP 1 [] I ?_
 refine RK A8<|al fun _ A9=>dF U (aY fun If=>?_) (aZ fun If=>?_)
 ·refine WK A9<|al fun _ Bi=>aF<|WS fun _ B3=>rP 2 [] I ?_
  refine RK B3<|ek cE [13,16] [10,11,12,13,14] [0] [0,1,2,3,4,5,6,7,8,9,10,11,12] [0,1,2,3,4,5,6,7,8,9,10,11,12,13] U U U U U<|eS U (MV U)<|eS U (SX (bk U U) U U)<|eS U (FA 2 U fI U)<|eS U (L1 (vS J r.ai.ak.length K) 3 U cz U U)<|eS U (MV U)<|eS U (MV U)<|eS U (SX (bk U U) U U)<|eS U (FA 2 U fI U)<|eS U (L1 (vS J r.ai.ak.length K) 3 U cz U U)<|eS U (MV U) ?_
  obtain ⟨x,hx⟩:=aQ r.ai.ak i om
  obtain ⟨xa,s⟩:=aQ az i om
  have Id:(List.zipWith aA.cells r.ai.ak (iB bz az i))[i]? =some (aA.cells x xa):=dE hx (vw B s)
  have NE:=(C.LQ _ _ _ hx s).2
  refine fS U (IA i U (aa (n:=r.ai.ak.length) 13 U (c_ (by rw [fU B om]; exact C.pQ))) Cs dc om om) ?_
  refine fS U (sV ((i*2)+1) U (aa (n:=r.ai.ak.length) 13 U (c_ (by rw [fU B om]; exact C.pQ))) (Nat.mul_pos om dc) fI U) ?_
  refine fS U (g4 i 1 (vS xa.1 x.br.length xa.2) U cz (aa (n:=r.ai.ak.length) 13 U (c_ (by rw [fU B om]; exact C.pQ))) Id U dc U) ?_
  refine fS U (IA i U (aa (n:=r.ai.ak.length) 13 U (c_ (by rw [fU B om]; exact C.pQ))) Cs dc om om) ?_
  refine fS U (sV ((i*2)+1) U (aa (n:=r.ai.ak.length) 13 U (c_ (by rw [fU B om]; exact C.pQ))) (Nat.mul_pos om dc) fI U) ?_
  refine e7 U<|gj U fun T32 FZ=>?_
  refine cX (EF x.br xa.1 xa.2 sd) (ae (show jf _ (rd xa.1 x.br.length 3 (x.br.map cP.cells)).holds from (eh 6 U (bY hx s (by simp [aA.jx]))))<|aC) U fun KM Li=>?_
  obtain ⟨P,T⟩:=KM
  try dsimp only
  refine aG (FZ _ _ (aJ [1,2,3,4,5,6,7,8,9,10,11,12,13]) (aJ [1,2,3,4,5,6,7,8,9,10,11,12,13,14]) ?_)
  refine cf U fun T37 Fd=>dk (k:=i) (o:=1) (vs:=[(vS P x.br.length T)]) (es':=(List.zipWith aA.cells r.ai.ak (iB (bz++[(P,T)]) az (i+1)))) (C':=[_,_,_,_,_,_,_,_,_,_,_,_,_,_,(own J K 119 2 (List.zipWith aA.cells r.ai.ak (iB (bz++[(P,T)]) az (i+1))))]) 14 U U U Ld U U U U Id U dc (by exact sK (c:=aA.cells) (b:=(P,T)) hx B s) U<|aG (Fd _ _ (aJ [1,2,3,4,5,6,7,8,9,10,11,12,13]) ?_)
  refine fH U<|aH<|KK Bi<|au<|rP 2 [] I ?_
  refine aG<|JN 0 U fun t=>?_
  simp only [List.length_map] at t
  refine DE (Y':=aR aA.owns (r.ai.ak.take (i+1)) (bz++[(P,T)])) 13 0 U U (o0 (f:=aA.owns) (b:=(P,T)) hx B) ?_
  have IE:(vI (((i+1):Nat):Int))=(vI ((i:Int)+1)):=by exact cI om
  refine bc (A3 ⟨((i+1),(bz++[(P,T)])),⟨om,by simp; omega,Da V B hx t⟩⟩ _ _ _ U os (du 4<|bO U IE<|ew.nil _) (aJ [1,2,3,4,5,6,7,8,9,10,11,12,0,13]))
 refine bq<|ah<|ah<|aD<|KK A6<|al fun _ B7=>?_
 have J4:bz.length=r.ai.ak.length:=by omega
 have J5:=V
 rw [show (iB bz az i)=bz from sw om,show r.ai.ak.take i=r.ai.ak from List.take_of_length_le om]
 refine ek cE [2,5,8,10,12,14] [1,3,5] [0,1,2] [0,1,2,4,5,6,7,8,9,10,11,12,13] [0,1,2,3,4,5,6,7,8,9,10,11,12,13] U U U U U<|eS U (FA 7 U fI U)<|fS U (L1 (vS slA r.aI.length slC) 3 U cz U U)<|eS U (FA 8 U fI U)<|fS U (L1 (vS drA r.bu.length drC) 3 U cz U U)<|eS U (FA 10 U fI U)<|fS U (L1 (vS heA r.aq.length heC) 3 U cz U U)<|eS U (FA 7 U fI U)<|eS U (FA 8 U fI U)<|eS U (FA 10 U fI U)<|e7 U<|gj U fun T40 Fj=>?_
 refine cX (rm r.aI slA slC sd) (bj [8]) U fun Kd Lk=>?_
 obtain ⟨g,j⟩:=Kd
 try dsimp only
 refine aG (Fj _ _ (aJ [1,2,3,5,6,7,8,9,10,11,12,13,14]) (aJ [1,2,3,4,5,6,7,8,9,10,11,12,13,14]) ?_)
 refine gj U fun T45 Fn=>?_
 refine cX (rm r.bu drA drC sd) (bj [10]) U fun Ke Lo=>?_
 obtain ⟨w,AO⟩:=Ke
 try dsimp only
 refine aG (Fn _ _ (aJ [2,3,4,6,7,8,9,10,11,12,13,14,15]) (aJ [2,3,4,5,6,7,8,9,10,11,12,13,14,15]) ?_)
 refine gj U fun T50 GE=>?_
 refine cX (CU (List.zipWith cm r.aq ha) heA r.aq.length heC sd (by exact bW M) (by exact Cz _ _)) (bj [12]) U fun Kn Lw=>?_
 obtain ⟨W,X⟩:=Kn
 try dsimp only
 refine aG (GE _ _ (aJ [3,4,5,7,8,9,10,11,12,13,14,15,16]) (aJ [3,4,5,6,7,8,9,10,11,12,13,14,15,16]) ?_)
 refine cf U fun T55 GT=>Nm (bV.cells (bV.mk (cj.mk (bK.mk (ba.mk a9 r.ai.aO.length S)) r.ai.gV (ba.mk J r.ai.ak.length K) (ba.mk Y r.ai.ag.length Z) r.ai.ct r.ai.er r.ai.dx) (ba.mk g r.aI.length j) (ba.mk drA r.bu.length drC) r.gf (ba.mk heA r.aq.length heC))) U xn U U<|aG (GT _ _ (aJ [3,4,5,7,8,9,10,11,12,13,14,15,16]) ?_)
 refine cf U fun T56 Go=>Nm (bV.cells (bV.mk (cj.mk (bK.mk (ba.mk a9 r.ai.aO.length S)) r.ai.gV (ba.mk J r.ai.ak.length K) (ba.mk Y r.ai.ag.length Z) r.ai.ct r.ai.er r.ai.dx) (ba.mk g r.aI.length j) (ba.mk w r.bu.length AO) r.gf (ba.mk heA r.aq.length heC))) U xn U U<|aG (Go _ _ (aJ [3,4,5,7,8,9,10,11,12,13,14,15,16]) ?_)
 refine cf U fun T57 Hi=>Nm (bV.cells (bV.mk (cj.mk (bK.mk (ba.mk a9 r.ai.aO.length S)) r.ai.gV (ba.mk J r.ai.ak.length K) (ba.mk Y r.ai.ag.length Z) r.ai.ct r.ai.er r.ai.dx) (ba.mk g r.aI.length j) (ba.mk w r.bu.length AO) r.gf (ba.mk W r.aq.length X))) U Na U U<|aG (Hi _ _ (aJ [3,4,5,7,8,9,10,11,12,13,14,15,16]) ?_)
 refine fH U<|KK B7<|al fun _ B9=>WS fun _ CP=>rP 4 [] (mc 6 U I) ?_
 refine RK CP<|aF<|nt ?_
 have E:(0≤r.aq.length)∧(([]:List cb).length=0)∧(∀ (k:Nat) y (a:cb),r.aq[k]? =some y→([]:List cb)[k]? =some a→a.2.length=y.length):=by exact ⟨Nat.zero_le _,rfl,fun k y a _ q=>by simp at q⟩
 refine bX (ι:={z:Nat×(List cb) // (z.1≤r.aq.length)∧(z.2.length=z.1)∧(∀ (k:Nat) y (a:cb),r.aq[k]? =some y→z.2[k]? =some a→a.2.length=y.length)}) [1,2,74] [2,3,4,5,6,7,8,9,10,11,12,13,14,15,16,17] U U (fun z=>[(75,(vI (z.1.1:Int)))]) (fun z=>[(bf (aR gG (r.aq.take z.1.1) z.1.2)),(own W X 46 1 (List.zipWith cm r.aq (iB z.1.2 ha z.1.1)))]) (fun _=>rfl) (fun _=>rfl) (fun z=>r.aq.length-z.1.1) ⟨(0,([]:List cb)),E⟩ (aT U) (aJ [2,3,4,5,6,7,8,9,10,11,12,13,14,15,16,17,0,1]) ?_
 clear E
 rintro ⟨⟨h,hz⟩,⟨l,A,L⟩⟩ J60 A4
 try dsimp only at l A L
 try dsimp only
 refine WS fun _ CY=>rP 1 [] I ?_
 refine RK CY<|al fun _ Ci=>cu U (aZ fun In=>?_) (aY fun In=>?_)
 ·refine bq<|ah<|ah<|aD<|KK B9<|al fun _ EB=>?_
  have J7:mI r.aq hz:=⟨om,L⟩
  rw [show (iB hz ha h)=hz from sw om,show r.aq.take h=r.aq from List.take_of_length_le om]
  refine au<|rP 1 [] (mc 5 U I) ?_
  refine Kr U iS U<|RK EB<|aB ?_
  refine LX hQ (a9,S,J,K,bz,Y,Z,g,j,w,AO,W,X,hz) [3,15,14,2,1,0,17,16] [0] (mc 4 U I) U (by show List.all _ _=true; simp only [e6,List.all_nil,eM,iH,Bool.and_true]; rfl) U U ?_
  exact ⟨⟨J4,J5⟩,J7⟩
 refine WK Ci<|al fun _ Ck=>aF<|WS fun _ Cp=>rP 2 [] I ?_
 refine RK Cp<|al fun _ Cx=>ek cE [8,10] [6,7,8] [0] [0,1,2,3,4,5,6,7,8,9,10,11,12,13,14,15,16] [0,1,2,3,4,5,6,7,8,9,10,11,12,13,14,15,16,17] U U U U U<|eS U (FA 10 U fI U)<|eS U (L1 (vS W r.aq.length X) 5 U cz U U)<|eS U (MV U)<|eS U (FA 10 U fI U)<|eS U (L1 (vS W r.aq.length X) 5 U cz U U)<|eS U (MV U) ?_
 obtain ⟨ht,N⟩:=aQ r.aq h om
 obtain ⟨D,O⟩:=aQ ha h om
 have u:(List.zipWith cm r.aq (iB hz ha h))[h]? =some (cm ht D):=dE N (vw A O)
 have A1:=hin.mU _ _ _ N O
 have e:=A1.pQ
 have J6:=A1.len
 refine fS U (IA h U (aa (n:=r.aq.length) 17 U (bW (by rw [fU A om]; exact M))) q9 dc om om) ?_
 refine fS U (g4 h 0 (vS D.1.1 ht.length D.1.2) U cz (aa (n:=r.aq.length) 17 U (bW (by rw [fU A om]; exact M))) u U dc U) ?_
 refine fS U (IA h U (aa (n:=r.aq.length) 17 U (bW (by rw [fU A om]; exact M))) q9 dc om om) ?_
 refine e7 U<|gj U fun T67 Hl=>?_
 refine cX (D0 (List.zipWith av.cells ht D.2) D.1.1 ht.length D.1.2 sd (by exact l6 e) (by exact HC _ _)) (ae (show jf _ (rd D.1.1 ht.length 7 (List.zipWith av.cells ht D.2)).holds from (eh 13 U (bY N O bU)))<|aC) U fun K0 L0=>?_
 obtain ⟨G,H⟩:=K0
 try dsimp only
 refine aG (Hl _ _ (aJ [1,2,3,4,5,6,7,8,9,10,11,12,13,14,15,16,17]) (aJ [1,2,3,4,5,6,7,8,9,10,11,12,13,14,15,16,17,18]) ?_)
 refine cf U fun T72 H1=>dk (k:=h) (o:=0) (vs:=[(vS G ht.length H)]) (es':=(List.zipWith cm r.aq (iB (hz++[((G,H),D.2)]) ha (h+1)))) (C':=[_,_,_,_,_,_,_,_,_,_,_,_,_,_,_,_,_,_,(own W X 46 1 (List.zipWith cm r.aq (iB (hz++[((G,H),D.2)]) ha (h+1))))]) 18 U U U NK U U U U u U dc (by exact sK (b:=((G,H),D.2)) N A O) U<|aG (H1 _ _ (aJ [1,2,3,4,5,6,7,8,9,10,11,12,13,14,15,16,17]) ?_)
 refine fH U<|KK Cx<|WS fun _ C0=>rP 3 [] (mc 6 U I) ?_
 have v:(List.zipWith cm r.aq (iB (hz++[((G,H),D.2)]) ha (h+1)))[h]? =some (cm ht ((G,H),D.2)):=dE N (DW A)
 refine rS (IA h U (aa (n:=r.aq.length) 18 U (bW (by rw [fU (by simp; omega) om]; exact M))) q9 dc om om) ?_
 refine rS (g4 h 0 (vS G ht.length H) U cz (aa (n:=r.aq.length) 18 U (bW (by rw [fU (by simp; omega) om]; exact M))) v U dc U) ?_
 refine rP 2 [] I ?_
 refine RK C0<|aF<|nt ?_
 have E:(0≤ht.length)∧(([]:List RA).length=0):=by exact ⟨Nat.zero_le _,rfl⟩
 refine bX (ι:={z:Nat×(List RA) // (z.1≤ht.length)∧(z.2.length=z.1)}) [1,2,5,74,75,93] [2,3,4,5,6,7,8,9,10,11,12,13,14,15,16,17,18,19] U U (fun z=>[(94,(vI (z.1.1:Int)))]) (fun z=>[(bf (aR lO (ht.take z.1.1) z.1.2)),(own G H 45 7 (List.zipWith av.cells ht (iB z.1.2 D.2 z.1.1)))]) (fun _=>rfl) (fun _=>rfl) (fun z=>ht.length-z.1.1) ⟨(0,([]:List RA)),E⟩ (aT U) (aJ [2,3,4,5,6,7,8,9,10,11,12,13,14,15,16,17,18,19,0,1]) ?_
 clear E
 rintro ⟨⟨i,dz⟩,⟨p,F⟩⟩ J74 A5
 try dsimp only at p F
 try dsimp only
 refine WS fun _ C1=>rP 1 [] I ?_
 refine RK C1<|al fun _ C2=>cu U (aZ fun JK=>?_) (aY fun JK=>?_)
 ·refine bq<|ah<|ah<|aD<|aH<|KK Ck<|au<|rP 2 [] I ?_
  refine aG ?_
  have LA:dz.length=ht.length:=by omega
  rw [show (iB dz D.2 i)=dz from sw om,show ht.take i=ht from List.take_of_length_le om]
  refine Jm (Z':=aR gG (r.aq.take (h+1)) (hz++[((G,H),dz)])) 16 18 19 U U (o0 (f:=gG) (b:=((G,H),dz)) N A) ?_
  rw [C7 (y:=dz)]
  have IR:(vI (((h+1):Nat):Int))=(vI ((h:Int)+1)):=by exact cI om
  refine bc (A4 ⟨((h+1),(hz++[((G,H),dz)])),⟨om,by simp; omega,G8 N L A dso⟩⟩ _ _ _ U os (du 3<|bO U IR<|ew.nil _) (aJ [1,2,3,4,5,6,7,8,9,10,11,12,13,14,15,16,0,17]))
 refine WK C2<|al fun _ C5=>aF<|WS fun _ Di=>rP 2 [] I ?_
 refine RK Di<|al fun _ Do=>?_
 refine yX 19 U (by rw [l6 (by rw [fU F om]; exact e)]; omega) (fun K5 AB=>?_)
 refine au<|rP 3 [] (mc 5 U I) ?_
 refine rS (IA h U (aa (n:=r.aq.length) 17 U (bW (by rw [fU (by simp; omega) om]; exact M))) q9 dc om om) ?_
 refine rS (g4 h 0 (vS G ht.length H) U cz (aa (n:=r.aq.length) 17 U (bW (by rw [fU (by simp; omega) om]; exact M))) v U dc U) ?_
 refine rP 1 [] I ?_
 obtain ⟨d,hd⟩:=aQ ht i om
 obtain ⟨da,A0⟩:=aQ D.2 i om
 have IV:(List.zipWith av.cells ht (iB dz D.2 i))[i]? =some (av.cells d da):=dE hd (vw F A0)
 have NB:=A1.sig d (aN hd)
 refine rS (N6 i U AB td om om)<|rS (MR ((i*7)+4) U AB fI U)<|a_ 1 U<|RK Do<|au<|rP 2 [] I ?_
 refine rS (SX (ub U U AB) U U)<|rS (MR (((i*7)+4)+2) U AB fI U) ?_
 refine rS (g4 i 6 (vS da.1 d.cH.ay.length da.2) U cz (aa (n:=ht.length) 19 U (l6 (by rw [fU F om]; exact e))) IV U dc U) ?_
 refine cX (Eb d.cH.ay da.1 da.2 sd) (ae (show jf _ (rd da.1 d.cH.ay.length 2 (d.cH.ay.map aK.cells)).holds from (eh 13 U (bY N O (cL _ (bY hd A0 (by simp [av.jx]))))))<|aC) U fun K4 L2=>?_
 obtain ⟨R,AA⟩:=K4
 try dsimp only
 refine rS (SX (ub U U AB) U U)<|rS (MR (((i*7)+4)+2) U AB fI U)<|dk (k:=i) (o:=6) (vs:=[(vS R d.cH.ay.length AA)]) (es':=(List.zipWith av.cells ht (iB (dz++[(R,AA)]) D.2 (i+1)))) (C':=[_,_,_,_,_,_,_,_,_,_,_,_,_,_,_,_,_,_,_,_,(own G H 45 7 (List.zipWith av.cells ht (iB (dz++[(R,AA)]) D.2 (i+1))))]) 20 U U U Nb U U U U IV U dc (by exact sK (c:=av.cells) (b:=(R,AA)) hd F A0) U<|aG<|aH<|KK C5<|au<|rP 2 [] I ?_
 refine aG<|DE (Y':=aR lO (ht.take (i+1)) (dz++[(R,AA)])) 19 0 U U (o0 (f:=lO) (b:=(R,AA)) hd F) ?_
 have IO:(vI (((i+1):Nat):Int))=(vI ((i:Int)+1)):=by exact cI om
 refine bc (A5 ⟨((i+1),(dz++[(R,AA)])),⟨om,by simp; omega⟩⟩ _ _ _ U os (du 6<|bO U IO<|ew.nil _) (aJ [1,2,3,4,5,6,7,8,9,10,11,12,13,14,15,16,17,18,0,19]))
end
section
open Go.RowKit
theorem rV (r:bQ) (kA:OA) (kC:Nat) (az:List RA) (cA:OA) (cC:Nat) (bA:OA) (bC:Nat) (slA:OA) (slC:Nat) (drA:OA) (drC:Nat) (ha:List cb) (heA:OA) (heC:Nat) (tz:List RA) (tA:OA) (tC:Nat) (ms:Value) (gw:Nat) (h i:Int) (t:ab) (hin:dG r az ha) (hok:eQ r):
 kd Tryz.prog 40 [(vP gw),(vI h),(vI i),(vA (ab.cells t))] [(rd kA r.ai.aO.length 9 (r.ai.aO.map ao.cells)),(rd cA r.ai.ak.length 2 (List.zipWith aA.cells r.ai.ak az)),(eR (aR aA.jx r.ai.ak az)),(rd bA r.ai.ag.length 4 (r.ai.ag.map bG.cells)),(rd slA r.aI.length 1 (r.aI.map iC)),(rd drA r.bu.length 1 (r.bu.map iC)),(rd heA r.aq.length 1 (List.zipWith cm r.aq ha)),(eR (aR ja r.aq ha)),(rd tA ((cr r).length) 1 (List.zipWith BV (cr r) tz)),(eR (aR Gl (cr r) tz)),(bJ gw 91 (eu.cells (eu.mk (nM r kA kC cA cC bA bC slA slC drA drC heA heC) (ba.mk tA ((cr r).length) tC) ms)))] (fun (x:Bool×Int×(OA)×Nat×(OA)×Nat×(List RA)×(OA)×Nat×(OA)×Nat×(OA)×Nat×(OA)×Nat×(List cb))=>bif x.1 then (vT [(vA (bV.cells (bV.mk (cj.mk (bK.mk (ba.mk x.2.2.1 r.ai.aO.length x.2.2.2.1)) r.ai.gV (ba.mk x.2.2.2.2.1 r.ai.ak.length x.2.2.2.2.2.1) (ba.mk x.2.2.2.2.2.2.2.1 r.ai.ag.length x.2.2.2.2.2.2.2.2.1) r.ai.ct r.ai.er r.ai.dx) (ba.mk x.2.2.2.2.2.2.2.2.2.1 r.aI.length x.2.2.2.2.2.2.2.2.2.2.1) (ba.mk x.2.2.2.2.2.2.2.2.2.2.2.1 r.bu.length x.2.2.2.2.2.2.2.2.2.2.2.2.1) r.gf (ba.mk x.2.2.2.2.2.2.2.2.2.2.2.2.2.1 ((e_ r.aq h i t).length) x.2.2.2.2.2.2.2.2.2.2.2.2.2.2.1)))),(vI 0)]) else (vT [(vA (bV.cells (bV.mk (cj.mk (bK.mk (ba.mk none 0 0)) 0 (ba.mk none 0 0) (ba.mk none 0 0) 0 0 0) (ba.mk none 0 0) (ba.mk none 0 0) 0 (ba.mk none 0 0)))),(vI x.2.1)])) (fun (x:Bool×Int×(OA)×Nat×(OA)×Nat×(List RA)×(OA)×Nat×(OA)×Nat×(OA)×Nat×(OA)×Nat×(List cb))=>(x.1=true→((mC r h i t)=0∧(x.2.2.2.2.2.2.1.length=r.ai.ak.length∧ov r.ai.ak x.2.2.2.2.2.2.1)∧mI (e_ r.aq h i t) x.2.2.2.2.2.2.2.2.2.2.2.2.2.2.2))∧(x.1=false→(x.2.1=(mC r h i t)∧ ¬ (mC r h i t)=0))) (fun (x:Bool×Int×(OA)×Nat×(OA)×Nat×(List RA)×(OA)×Nat×(OA)×Nat×(OA)×Nat×(OA)×Nat×(List cb))=>bif x.1 then [(own x.2.2.1 x.2.2.2.1 114 9 (r.ai.aO.map ao.cells)),(own x.2.2.2.2.1 x.2.2.2.2.2.1 119 2 (List.zipWith aA.cells r.ai.ak x.2.2.2.2.2.2.1)),(bf (aR aA.owns r.ai.ak x.2.2.2.2.2.2.1)),(own x.2.2.2.2.2.2.2.1 x.2.2.2.2.2.2.2.2.1 121 4 (r.ai.ag.map bG.cells)),(own x.2.2.2.2.2.2.2.2.2.1 x.2.2.2.2.2.2.2.2.2.2.1 3 1 (r.aI.map iC)),(own x.2.2.2.2.2.2.2.2.2.2.2.1 x.2.2.2.2.2.2.2.2.2.2.2.2.1 3 1 (r.bu.map iC)),(own x.2.2.2.2.2.2.2.2.2.2.2.2.2.1 x.2.2.2.2.2.2.2.2.2.2.2.2.2.2.1 46 1 (List.zipWith cm (e_ r.aq h i t) x.2.2.2.2.2.2.2.2.2.2.2.2.2.2.2)),(bf (aR gG (e_ r.aq h i t) x.2.2.2.2.2.2.2.2.2.2.2.2.2.2.2))] else []):=by
 have A6:=hin.line
 have Ck:=hin.g9
 have Cx:=hin.has
 have B7:=hin.gT
 have A9:=hin.draw
 have B9:=dy (r:=r)
 have C1:=hok.num
 have C0:=hok.nh
 refine cS Ng Tryz.func40 U U fun w0 Q hQ hN=>?_
 try dsimp only
 refine WS fun _ A0=>g5 U fun b2=>AL U mX fun b3=>a_ 1 U<|RK A0<|al fun _ A1=>WS fun _ J=>a_ 1 U<|rS (SX (bk U U) U U)<|rP 6 [] (mr 12 U I) ?_
 refine ck (xs:=[.tmp 18]) (cs:=[(vI h)]) U b0 gI U U U U (by simp [Value.cells]) U U fun b6=>?_
 refine rS (CL (dQ.eq (il 0 ((r.aq.length:Int)-1) ([h]) (some ⟨b6,0,none⟩) 1 sd) bZ) (ae (aP 0 U U (by simp [aW]) U)<|aC) U) ?_
 refine rP 2 [] I ?_
 refine eH (t:=22) U (bL fun AC=>?_) (bM fun AC=>?_)
 ·refine a_ 11 U<|RK J<|aX U<|WS fun _ A2=>rS (SX (bh (xs:=[]) (cs:=(bV.cells (bV.mk (cj.mk (bK.mk (ba.mk none 0 0)) 0 (ba.mk none 0 0) (ba.mk none 0 0) 0 0 0) (ba.mk none 0 0) (ba.mk none 0 0) 0 (ba.mk none 0 0)))) U U (bg Ch U)) U U)<|vU U iS U<|rP 1 [] I ?_
  refine RK A2<|aB ?_
  refine LX hQ (false,2,none,0,none,0,[],none,0,none,0,none,0,none,0,[]) [] [0] (mc 1 U I) U (by first|rfl|(show List.all _ _=true; simp only [cond_true,e6,List.all_nil,eM,iH,Bool.and_true]; rfl)) U ?_ ?_
  ·first|rfl|(simp only [cond_true,gr]; rfl)
  ·refine ⟨Kx,fun _=>?_⟩; first|exact m4 (jT (r:=r) (h:=h) (i:=i) (t:=t) om)|exact m4 (jT (r:=r) (h:=h) (i:=i) (t:=t) (fun q=>absurd q.2 asm))|exact m4 (pg (r:=r) (t:=t) ⟨om,asm⟩ A hd H)
 refine rP 2 [] I ?_
 refine ck (xs:=[.tmp 24]) (cs:=[(vI i)]) U b0 gI U U U U (by simp [Value.cells]) U U fun b8=>?_
 refine rS (CL (dQ.eq (vL r kA kC az cA cC bA bC slA slC drA drC ha heA heC tz tA tC ms gw ([i]) (some ⟨b8,0,none⟩) 1 hin sd) bZ) (kp [4,5,6,7,8,9,10,11,12,13,14]<|ae (aP 0 U U (by simp [aW]) U)<|aC) U) ?_
 refine rP 3 [] I ?_
 refine eH (t:=29) U (bL fun AO=>?_) (bM fun AO=>?_)
 ·refine a_ 4 U<|RK J<|aX U<|WS fun _ A3=>rS (SX (bh (xs:=[]) (cs:=(bV.cells (bV.mk (cj.mk (bK.mk (ba.mk none 0 0)) 0 (ba.mk none 0 0) (ba.mk none 0 0) 0 0 0) (ba.mk none 0 0) (ba.mk none 0 0) 0 (ba.mk none 0 0)))) U U (bg Ch U)) U U)<|Io U iS U<|rP 1 [] I ?_
  refine RK A3<|aB ?_
  refine LX hQ (false,2,none,0,none,0,[],none,0,none,0,none,0,none,0,[]) [] [0] (mc 2 U I) U (by first|rfl|(show List.all _ _=true; simp only [cond_true,e6,List.all_nil,eM,iH,Bool.and_true]; rfl)) U ?_ ?_
  ·first|rfl|(simp only [cond_true,gr]; rfl)
  ·refine ⟨Kx,fun _=>?_⟩; first|exact m4 (jT (r:=r) (h:=h) (i:=i) (t:=t) om)|exact m4 (jT (r:=r) (h:=h) (i:=i) (t:=t) (fun q=>absurd q.2 asm))|exact m4 (pg (r:=r) (t:=t) ⟨om,asm⟩ A hd H)
 refine hE 1 [] (mc 3 U I) U<|rS (CL (AE t) (aC) U)<|rP 2 [] I ?_
 refine RK J<|dF U (bL fun Z=>?_) (bM fun Z=>?_)
 ·refine WS fun _ b=>rS (SX (bh (xs:=[]) (cs:=(bV.cells (bV.mk (cj.mk (bK.mk (ba.mk none 0 0)) 0 (ba.mk none 0 0) (ba.mk none 0 0) 0 0 0) (ba.mk none 0 0) (ba.mk none 0 0) 0 (ba.mk none 0 0)))) U U (bg Ch U)) U U)<|Io U iS U<|rP 1 [] I ?_
  refine RK b<|aB ?_
  refine LX hQ (false,2,none,0,none,0,[],none,0,none,0,none,0,none,0,[]) [] [0] (mc 2 U I) U (by first|rfl|(show List.all _ _=true; simp only [cond_true,e6,List.all_nil,eM,iH,Bool.and_true]; rfl)) U ?_ ?_
  ·first|rfl|(simp only [cond_true,gr]; rfl)
  ·refine ⟨Kx,fun _=>?_⟩; first|exact m4 (jT (r:=r) (h:=h) (i:=i) (t:=t) om)|exact m4 (jT (r:=r) (h:=h) (i:=i) (t:=t) (fun q=>absurd q.2 asm))|exact m4 (pg (r:=r) (t:=t) ⟨om,asm⟩ A hd H)
 refine WK A1<|al fun _ e=>WS fun _ f=>a_ 1 U<|rS (SX (bk U U) U U)<|rP 4 [] (mr 14 U I) ?_
 obtain ⟨ht,A⟩:=aQ r.aq ((h).toNat) om
 obtain ⟨C,E⟩:=aQ ha ((h).toNat) om
 have w:(List.zipWith cm r.aq ha)[(h).toNat]? =some (cm ht C):=dE A E
 refine rS (IA ((h).toNat) U (aS 10 U) q9 dc om om) ?_
 have A5:=hin.mU _ _ _ A E
 have Bi:=A5.pQ
 have Cp:=(hok.mU ht (aN A)).1
 refine rS (g4 ((h).toNat) 0 (vS C.1.1 ht.length C.1.2) U HJ (aS 10 U) w U dc U)<|rP 1 [] I ?_
 obtain ⟨d,hd⟩:=aQ ht ((i).toNat) om
 obtain ⟨da,K⟩:=aQ C.2 ((i).toNat) om
 have A4:(List.zipWith av.cells ht C.2)[(i).toNat]? =some (av.cells d da):=dE hd K
 refine rS (IA ((i).toNat) U (show jf _ (rd C.1.1 ht.length 7 (List.zipWith av.cells ht C.2)).holds from (eh 11 U (bY A E bU))) td dc om om)<|rS (sV (((i).toNat)*7) U (show jf _ (rd C.1.1 ht.length 7 (List.zipWith av.cells ht C.2)).holds from (eh 11 U (bY A E bU))) (Nat.mul_pos om dc) JT U)<|rS (g4 ((i).toNat) 0 (vB d.Out) U N3 (show jf _ (rd C.1.1 ht.length 7 (List.zipWith av.cells ht C.2)).holds from (eh 11 U (bY A E bU))) A4 U dc U)<|RK f<|dF U (fun H=>?_) (fun H=>?_)
 ·refine WS fun _ g=>rS (SX (bh (xs:=[]) (cs:=(bV.cells (bV.mk (cj.mk (bK.mk (ba.mk none 0 0)) 0 (ba.mk none 0 0) (ba.mk none 0 0) 0 0 0) (ba.mk none 0 0) (ba.mk none 0 0) 0 (ba.mk none 0 0)))) U U (bg Ch U)) U U)<|Io U iS U<|rP 1 [] I ?_
  refine RK g<|aB ?_
  refine LX hQ (false,8,none,0,none,0,[],none,0,none,0,none,0,none,0,[]) [] [0] (mc 2 U I) U (by first|rfl|(show List.all _ _=true; simp only [cond_true,e6,List.all_nil,eM,iH,Bool.and_true]; rfl)) U ?_ ?_
  ·first|rfl|(simp only [cond_true,gr]; rfl)
  ·refine ⟨Kx,fun _=>?_⟩; first|exact m4 (jT (r:=r) (h:=h) (i:=i) (t:=t) om)|exact m4 (jT (r:=r) (h:=h) (i:=i) (t:=t) (fun q=>absurd q.2 asm))|exact m4 (pg (r:=r) (t:=t) ⟨om,asm⟩ A hd H)
 refine WK e<|WS fun _ j=>a_ 1 U<|rS (SX (bk U U) U U)<|rP 1 [] I ?_
 refine rS (NY (bV.cells (nM r kA kC cA cC bA bC slA slC drA drC heA heC)) 14 U I6 U U U)<|cX (H4 r kA kC az cA cC bA bC slA slC drA drC ha heA heC hin) (bj [4,5,6,7,8,9,10,11]) U fun A8 z=>?_
 obtain ⟨L,T,M,AA,S,N,V,O,W,P,X,R,Y,G⟩:=A8
 try dsimp only
 obtain ⟨⟨s,u⟩,D⟩:=z
 try dsimp only at s u D
 have B3:=D.1
 refine AL U mX fun CP=>fw U iS U<|RK j<|al fun _ l=>?_
 obtain ⟨B,F⟩:=aQ G ((h).toNat) (by have:=D.1; omega)
 have y:(List.zipWith cm r.aq G)[(h).toNat]? =some (cm ht B):=dE A F
 have A7:=D.2 _ _ _ A F
 refine E3 8 A F U U ?_
 try dsimp only
 refine dR cE 9 kr<|m7 3 [] (mc 3 U I) U<|dS (IA ((h).toNat) U (aa (n:=r.aq.length) 10 U (bW D.1)) q9 dc om om)<|dS (g4 ((h).toNat) 0 (vS B.1.1 ht.length B.1.2) U HJ (aa (n:=r.aq.length) 10 U (bW D.1)) y U dc U)<|dP 2 [] (mc 14 U I) ?_
 refine dS (SX (bh (xs:=[(1,.const (vB true)),(2,.tmp 59)]) (cs:=(aV.cells (aV.mk false true t (eJ.mk 0 0 (ba.mk none 0 0))))) U U (bg Hu U)) U U) ?_
 obtain ⟨K,AB⟩:=aQ B.2 ((i).toNat) om
 have v:(List.zipWith av.cells ht B.2)[(i).toNat]? =some (av.cells d K):=dE hd AB
 refine dS (IA ((i).toNat) U (aa (n:=ht.length) 0 U (l6 A7)) td dc om om)<|dJ<|dk (k:=(i).toNat) (o:=0) (vs:=(aV.cells (aV.mk false true t (eJ.mk 0 0 (ba.mk none 0 0))))) (es':=(List.zipWith av.cells (ht.set (i).toNat (iP t)) (B.2.set (i).toNat (none,0)))) (C':=[(own B.1.1 B.1.2 45 7 (List.zipWith av.cells (ht.set (i).toNat (iP t)) (B.2.set (i).toNat (none,0)))),_,_,_,_,_,_,_,_,_,_,_,_,_,_,_,_,_,_,_,_,_,_,_,_,_]) 0 U U U Hd U U U U v U dc (by exact l9 (c:=av.cells) (m:=iP t) (a:=(none,0))) U<|RK l<|al fun _ p=>EG (d':=iP t) 1 hd AB U U U ?_
 refine zS (h':=(ht.set (i).toNat (iP t))) (a':=(B.1,(B.2.set (i).toNat (none,0)))) 2 0 1 om (by have:=D.1; omega) U U ?_
 rw [← rl A,show List.zipWith cm r.aq G=List.zipWith cm (e_ r.aq h i t) (G.set (h).toNat (B.1,(B.2.set (i).toNat (none,0)))) from by rw [rl A]; exact (tI A F (by rw [List.length_set])).symm]
 replace D:=JV (i:=i) (t:=t) D A F
 refine au<|hE 1 [] (mc 1 U I) U<|Nq U iS U<|rP 1 [] I ?_
 refine RK p<|aB ?_
 refine LX hQ (true,0,L,T,M,AA,S,N,V,O,W,P,X,R,Y,(G.set (h).toNat (B.1,(B.2.set (i).toNat (none,0))))) [2,3,4,5,6,7,8,0] [0] (mc 11 U I) U (by first|rfl|(show List.all _ _=true; simp only [cond_true,e6,List.all_nil,eM,iH,Bool.and_true]; rfl)) U ?_ ?_
 ·first|rfl|(simp only [cond_true,gr]; rfl)
 ·exact ⟨fun _=>⟨Ie ⟨om,Z⟩ A hd H,⟨s,u⟩,D⟩,Ku⟩
end
section
open Go.RowKit
theorem sZ (h i:Int) (t:ab) (r:bQ) (kA:OA) (kC:Nat) (az:List RA) (cA:OA) (cC:Nat) (bA:OA) (bC:Nat) (slA:OA) (slC:Nat) (drA:OA) (drC:Nat) (ha:List cb) (heA:OA) (heC:Nat) (hin:dG r az ha):
 kd Tryz.prog 17 [(vA (bV.cells (nM r kA kC cA cC bA bC slA slC drA drC heA heC))),(vI h),(vI i),(vA (ab.cells t))] [(rd dH 3 2 c4),(rd kA r.ai.aO.length 9 (r.ai.aO.map ao.cells)),(rd cA r.ai.ak.length 2 (List.zipWith aA.cells r.ai.ak az)),(eR (aR aA.jx r.ai.ak az)),(rd bA r.ai.ag.length 4 (r.ai.ag.map bG.cells)),(rd slA r.aI.length 1 (r.aI.map iC)),(rd drA r.bu.length 1 (r.bu.map iC)),(rd heA r.aq.length 1 (List.zipWith cm r.aq ha)),(eR (aR ja r.aq ha))] (fun (x:Bool×Int×(OA)×Nat×(OA)×Nat×(List RA)×(OA)×Nat×(OA)×Nat×(OA)×Nat×(OA)×Nat×(List cb))=>bif x.1 then (vT [(vA (bV.cells (bV.mk (cj.mk (bK.mk (ba.mk x.2.2.1 r.ai.aO.length x.2.2.2.1)) r.ai.gV (ba.mk x.2.2.2.2.1 r.ai.ak.length x.2.2.2.2.2.1) (ba.mk x.2.2.2.2.2.2.2.1 r.ai.ag.length x.2.2.2.2.2.2.2.2.1) r.ai.ct r.ai.er r.ai.dx) (ba.mk x.2.2.2.2.2.2.2.2.2.1 r.aI.length x.2.2.2.2.2.2.2.2.2.2.1) (ba.mk x.2.2.2.2.2.2.2.2.2.2.2.1 r.bu.length x.2.2.2.2.2.2.2.2.2.2.2.2.1) r.gf (ba.mk x.2.2.2.2.2.2.2.2.2.2.2.2.2.1 ((e_ r.aq h i t).length) x.2.2.2.2.2.2.2.2.2.2.2.2.2.2.1)))),(vI 0)]) else (vT [(vA (bV.cells (bV.mk (cj.mk (bK.mk (ba.mk none 0 0)) 0 (ba.mk none 0 0) (ba.mk none 0 0) 0 0 0) (ba.mk none 0 0) (ba.mk none 0 0) 0 (ba.mk none 0 0)))),(vI x.2.1)])) (fun (x:Bool×Int×(OA)×Nat×(OA)×Nat×(List RA)×(OA)×Nat×(OA)×Nat×(OA)×Nat×(OA)×Nat×(List cb))=>(x.1=true→((ej r h i t)=0∧(x.2.2.2.2.2.2.1.length=r.ai.ak.length∧ov r.ai.ak x.2.2.2.2.2.2.1)∧mI (e_ r.aq h i t) x.2.2.2.2.2.2.2.2.2.2.2.2.2.2.2))∧(x.1=false→(x.2.1=(ej r h i t)∧ ¬ (ej r h i t)=0))) (fun (x:Bool×Int×(OA)×Nat×(OA)×Nat×(List RA)×(OA)×Nat×(OA)×Nat×(OA)×Nat×(OA)×Nat×(List cb))=>bif x.1 then [(own x.2.2.1 x.2.2.2.1 114 9 (r.ai.aO.map ao.cells)),(own x.2.2.2.2.1 x.2.2.2.2.2.1 119 2 (List.zipWith aA.cells r.ai.ak x.2.2.2.2.2.2.1)),(bf (aR aA.owns r.ai.ak x.2.2.2.2.2.2.1)),(own x.2.2.2.2.2.2.2.1 x.2.2.2.2.2.2.2.2.1 121 4 (r.ai.ag.map bG.cells)),(own x.2.2.2.2.2.2.2.2.2.1 x.2.2.2.2.2.2.2.2.2.2.1 3 1 (r.aI.map iC)),(own x.2.2.2.2.2.2.2.2.2.2.2.1 x.2.2.2.2.2.2.2.2.2.2.2.2.1 3 1 (r.bu.map iC)),(own x.2.2.2.2.2.2.2.2.2.2.2.2.2.1 x.2.2.2.2.2.2.2.2.2.2.2.2.2.2.1 46 1 (List.zipWith cm (e_ r.aq h i t) x.2.2.2.2.2.2.2.2.2.2.2.2.2.2.2)),(bf (aR gG (e_ r.aq h i t) x.2.2.2.2.2.2.2.2.2.2.2.2.2.2.2))] else []):=by
 have u:=hin.line
 have A1:=hin.g9
 have A2:=hin.has
 have AC:=hin.gT
 have z:=hin.draw
 have e:=dy (r:=r)
 refine cS kr Tryz.func17 U U fun w0 Q hQ hN=>?_
 try dsimp only
 refine WS fun _ s=>g5 U fun b2=>g5 U fun b3=>AL U mX fun b4=>a_ 1 U<|RK s<|WS fun _ Y=>rP 1 [] (mc 2 U I) ?_
 refine cX (ly r kA kC az cA cC bA bC slA slC drA drC ha heA heC hin) (bj [3,4,5,6,7,8,9,10,11]) U fun y6 g=>?_
 obtain ⟨k,A0,q,S,m,o,p⟩:=y6
 cases k
 ·obtain ⟨M,he⟩:=g.2 rfl
  try dsimp only at M he
  subst M
  try dsimp only [cond_true,cond_false,List.cons_append,List.nil_append]
  refine a_ 5 U<|RK Y<|al fun _ y=>WS fun _ AA=>rP 2 [] I ?_
  refine RK AA<|cu U (bM fun T=>?_) (bL fun T=>?_)
  ·exact absurd T he
  refine WS fun _ V=>rS (SX (bh (xs:=[]) (cs:=(bV.cells (bV.mk (cj.mk (bK.mk (ba.mk none 0 0)) 0 (ba.mk none 0 0) (ba.mk none 0 0) 0 0 0) (ba.mk none 0 0) (ba.mk none 0 0) 0 (ba.mk none 0 0)))) U U (bg Ch U)) U U)<|a_ 1 U<|fw U iS U<|rP 1 [] I ?_
  refine RK V<|aB ?_
  refine LX hQ (false,(cc r),none,0,none,0,[],none,0,none,0,none,0,none,0,[]) [] [0] (mc 0 U I) U (by first|rfl|(show List.all _ _=true; simp only [cond_true,e6,List.all_nil,eM,iH,Bool.and_true]; rfl)) U ?_ ?_
  ·first|rfl|(simp only [cond_true,gr]; rfl)
  ·refine ⟨Kx,fun _=>?_⟩; first|exact HO (oG (h:=h) (i:=i) (t:=t) he) he|exact HO (l1 (h:=h) (i:=i) (t:=t) b) he
 obtain ⟨he,f⟩:=g.1 rfl
 try dsimp only [cond_true,cond_false,List.cons_append,List.nil_append]
 have b:=he
 try dsimp only at f
 have d:=(gQ he).2
 refine a_ 5 U<|RK Y<|al fun _ W=>WS fun _ X=>a_ 1 U<|rS (SX (bw (r:= .bool false) U U U lp) U U)<|RK X<|aM U<|WK W<|WS fun _ N=>rP 4 [] (mc 5 U I) ?_
 refine cX (rV r kA kC az cA cC bA bC slA slC drA drC ha heA heC p m o (Value.map (some S)) q h i t hin (by exact d)) (kp [8,9,10,11,12,13,14,15]<|ae (aa (n:=(cr r).length) 1 U (ke (by rw [e]; exact f)))<|ae (bS 2 U pM)<|cY 0 U U<|aC) U fun v P=>?_
 obtain ⟨l,w,A,G,B,H,R,C,AB,D,J,E,K,F,L,j⟩:=v
 cases l
 ·obtain ⟨M,he⟩:=P.2 rfl
  try dsimp only at M he
  subst M
  try dsimp only [cond_true,cond_false,List.cons_append,List.nil_append]
  refine a_ 2 U<|Kr U iS U<|rP 1 [] I ?_
  refine RK N<|aB ?_
  refine LX hQ (false,(mC r h i t),none,0,none,0,[],none,0,none,0,none,0,none,0,[]) [] [0] (mc 4 U I) U (by first|rfl|(show List.all _ _=true; simp only [cond_true,e6,List.all_nil,eM,iH,Bool.and_true]; rfl)) U ?_ ?_
  ·first|rfl|(simp only [cond_true,gr]; rfl)
  ·refine ⟨Kx,fun _=>?_⟩; first|exact HO (oG (h:=h) (i:=i) (t:=t) he) he|exact HO (l1 (h:=h) (i:=i) (t:=t) b) he
 obtain ⟨O,⟨Z,a⟩,c⟩:=P.1 rfl
 try dsimp only [cond_true,cond_false,List.cons_append,List.nil_append]
 try dsimp only at O Z a c
 refine a_ 2 U<|ik (vs:=(bV.cells (bV.mk (cj.mk (bK.mk (ba.mk A r.ai.aO.length G)) r.ai.gV (ba.mk B r.ai.ak.length H) (ba.mk C r.ai.ag.length AB) r.ai.ct r.ai.er r.ai.dx) (ba.mk D r.aI.length J) (ba.mk E r.bu.length K) r.gf (ba.mk F ((e_ r.aq h i t).length) L)))) (cs':=(bV.cells (bV.mk (cj.mk (bK.mk (ba.mk A r.ai.aO.length G)) r.ai.gV (ba.mk B r.ai.ak.length H) (ba.mk C r.ai.ag.length AB) r.ai.ct r.ai.er r.ai.dx) (ba.mk D r.aI.length J) (ba.mk E r.bu.length K) r.gf (ba.mk F ((e_ r.aq h i t).length) L)))) (C':=[_,_,_,_,_,_,_,_,_,_,_,_,(bJ b4 35 (bV.cells (bV.mk (cj.mk (bK.mk (ba.mk A r.ai.aO.length G)) r.ai.gV (ba.mk B r.ai.ak.length H) (ba.mk C r.ai.ag.length AB) r.ai.ct r.ai.er r.ai.dx) (ba.mk D r.aI.length J) (ba.mk E r.bu.length K) r.gf (ba.mk F ((e_ r.aq h i t).length) L)))),_,_,_,_,_,_,_,_,_,_,_]) 12 U U U iS U U U U U U U<|rP 1 [] I ?_
 refine RK N<|aB ?_
 refine LX hQ (true,0,A,G,B,H,R,C,AB,D,J,E,K,F,L,j) [0,1,2,3,4,5,6,7] [0] (mc 12 U I) U (by first|rfl|(show List.all _ _=true; simp only [cond_true,e6,List.all_nil,eM,iH,Bool.and_true]; rfl)) U ?_ ?_
 ·first|rfl|(simp only [cond_true,gr]; rfl)
 ·exact ⟨fun _=>⟨(l1 he).trans O,⟨Z,a⟩,c⟩,Ku⟩
end
section
open Go.RowKit
theorem HH (la:List Int) (laA:OA) (laC:Nat) (lb:List Int) (lbA:OA) (lbC:Nat) (h1:la.length≤1000000) (h2:lb.length≤1000000):
 dQ Tryz.prog 43 [(vS laA la.length laC),(vS lbA lb.length lbC)] [(rd laA la.length 1 (la.map iC)),(rd lbA lb.length 1 (lb.map iC))] (vB (decide (la=lb))):=by
 refine bx kr Tryz.func43 U U fun W Q hQ hN=>?_
 try dsimp only
 refine WS fun _ K=>a_ 1 U<|RK K<|al fun _ L=>WS fun _ M=>rP 5 [] I ?_
 refine RK M<|dF U (bL fun hl=>?_) (bM fun hl=>?_)
 ·refine WS fun _ N=>rP 1 [] I ?_
  refine RK N<|aB<|Q1 hQ U U U ?_
  first|exact cB (df (kQ hx hy h)).symm|exact cB (g6 (k7 om A om)).symm|exact cB (df (fun e=>by subst e; omega)).symm
 refine WK L<|al fun _ O=>WS fun _ P=>rP 3 [] I ?_
 refine RK P<|aF ?_
 have B:(0≤la.length)∧(la.take 0=lb.take 0):=by simp
 refine bX (ι:={z:Nat // (z≤la.length)∧(la.take z=lb.take z)}) [0,1,12] [0,1] U U (fun z=>[(13,(vI (z.1:Int)))]) (fun z=>[]) (fun _=>rfl) (fun _=>rfl) (fun z=>la.length-z.1) ⟨0,B⟩ (aT U) (aJ [0,1]) ?_
 clear B
 rintro ⟨i,⟨T,A⟩⟩ J7 J
 try dsimp only
 refine WS fun _ R=>rP 1 [] I ?_
 refine RK R<|al fun _ S=>cu U (aZ fun AB=>?_) (aY fun AB=>?_)
 ·refine bq<|ah<|ah<|aD<|KK O<|WS fun _ G=>rP 1 [] I ?_
  refine RK G<|aB<|Q1 hQ U U U ?_
  first|exact cB (df (kQ hx hy h)).symm|exact cB (g6 (k7 om A om)).symm|exact cB (df (fun e=>by subst e; omega)).symm
 refine WK S<|al fun _ C=>aF<|WS fun _ D=>a_ 2 U<|RK D<|al fun _ E=>dR cE 9 kr<|dP 2 [] I ?_
 obtain ⟨x,hx⟩:=aQ la i om
 have AA:=cG iC hx
 refine dS (IA i U (aS 0 U) b0 dc om om)<|dS (g4 i 0 (vI x) U cz (aS 0 U) AA U dc U)<|dP 2 [] I ?_
 obtain ⟨y,hy⟩:=aQ lb i om
 have V:=cG iC hy
 refine dS (IA i U (aS 1 U) b0 dc om om)<|dS (g4 i 0 (vI y) U cz (aS 1 U) V U dc U)<|dP 1 [] I ?_
 refine dJ<|RK E<|dF U (bL fun h=>?_) (bM fun h=>?_)
 ·refine WS fun _ F=>rP 1 [] I ?_
  refine RK F<|aB<|Q1 hQ U U U ?_
  first|exact cB (df (kQ hx hy h)).symm|exact cB (g6 (k7 om A om)).symm|exact cB (df (fun e=>by subst e; omega)).symm
 refine cJ<|aH<|KK C<|au<|rP 2 [] I ?_
 refine aG ?_
 have H:(vI (((i+1):Nat):Int))=(vI ((i:Int)+1)):=by exact cI om
 refine bc (J ⟨(i+1),⟨om,qs A hx hy h⟩⟩ _ _ _ U os (du 3<|bO U H<|ew.nil _) (aJ [0,1]))
theorem tj (h i:Int) (t:ab) (r:bQ) (kA:OA) (kC:Nat) (az:List RA) (cA:OA) (cC:Nat) (bA:OA) (bC:Nat) (slA:OA) (slC:Nat) (drA:OA) (drC:Nat) (ha:List cb) (heA:OA) (heC:Nat) (hin:dG r az ha):
 kd Tryz.prog 19 [(vA (bV.cells (nM r kA kC cA cC bA bC slA slC drA drC heA heC))),(vI h),(vI i),(vA (ab.cells t))] [(rd dH 3 2 c4),(rd kA r.ai.aO.length 9 (r.ai.aO.map ao.cells)),(rd cA r.ai.ak.length 2 (List.zipWith aA.cells r.ai.ak az)),(eR (aR aA.jx r.ai.ak az)),(rd bA r.ai.ag.length 4 (r.ai.ag.map bG.cells)),(rd slA r.aI.length 1 (r.aI.map iC)),(rd drA r.bu.length 1 (r.bu.map iC)),(rd heA r.aq.length 1 (List.zipWith cm r.aq ha)),(eR (aR ja r.aq ha))] (fun (x:(OA)×Nat)=>(vT [(vS x.1 ((dC r h i t).length) x.2),(vI (ej r h i t))])) (fun (x:(OA)×Nat)=>True) (fun (x:(OA)×Nat)=>[(own x.1 x.2 3 1 ((dC r h i t).map iC))]):=by
 have H1:=hin.line
 have K5:=hin.g9
 have K8:=hin.has
 have J3:=hin.gT
 have Jn:=hin.draw
 have Di:=dy (r:=r)
 refine cS kr Tryz.func19 U U fun w0 Q hQ hN=>?_
 try dsimp only
 refine WS fun _ Hl=>g5 U fun b2=>g5 U fun b3=>a_ 2 U<|RK Hl<|WS fun _ A2=>rP 1 [] (mc 1 U I) ?_
 refine cX (ly r kA kC az cA cC bA bC slA slC drA drC ha heA heC hin) (bj [2,3,4,5,6,7,8,9,10]) U fun y5 Do=>?_
 obtain ⟨EQ,K0,v,G,f,g,vM⟩:=y5
 cases EQ
 ·obtain ⟨B,he⟩:=Do.2 rfl
  try dsimp only at B he
  subst B
  try dsimp only [cond_true,cond_false,List.cons_append,List.nil_append]
  refine a_ 5 U<|RK A2<|al fun _ JO=>WS fun _ AC=>rP 2 [] I ?_
  refine RK AC<|cu U (bM fun w=>?_) (bL fun w=>?_)
  ·exact absurd w he
  refine WS fun _ AO=>rP 1 [] I ?_
  have A:ej r h i t=cc r:=oG he
  have C:dC r h i t=[]:=r0 (by rw [A]; exact he)
  refine dw 3 1 ?_
  rw [show (own none 0 3 1 ([]:List (List Value)))=own none 0 3 1 ((dC r h i t).map iC) from by rw [C]; rfl]
  refine rP 2 [] I ?_
  refine RK AO<|aB ?_
  refine LX hQ (none,0) [0] [] I U U U ?_ ?_
  ·first|rfl|(rw [A,C]; rfl)|(rw [A]; rfl)
  ·trivial
 obtain ⟨he,m⟩:=Do.1 rfl
 try dsimp only [cond_true,cond_false,List.cons_append,List.nil_append]
 have AB:=he
 try dsimp only at m
 have C1:=(gQ he).2
 refine a_ 5 U<|RK A2<|al fun _ A0=>WS fun _ A1=>a_ 1 U<|rS (SX (bw (r:= .bool false) U U U lp) U U)<|RK A1<|aM U<|WK A0<|WS fun _ Z=>rP 4 [] (mc 4 U I) ?_
 refine cX (rV r kA kC az cA cC bA bC slA slC drA drC ha heA heC vM f g (Value.map (some G)) v h i t hin (by exact C1)) (kp [7,8,9,10,11,12,13,14]<|ae (aa (n:=(cr r).length) 1 U (ke (by rw [Di]; exact m)))<|ae (bS 2 U pM)<|cY 0 U U<|aC) U fun IO d=>?_
 obtain ⟨Ej,In,L,S,M,T,o,N,AA,O,V,P,W,R,X,EB⟩:=IO
 cases Ej
 ·obtain ⟨B,he⟩:=d.2 rfl
  try dsimp only at B he
  subst B
  try dsimp only [cond_true,cond_false,List.cons_append,List.nil_append]
  refine a_ 3 U<|AL U mX fun KM=>fw U iS U<|a_ 1 U<|RK Z<|al fun _ JQ=>WS fun _ A3=>rP 2 [] I ?_
  refine RK A3<|cu U (bM fun y=>?_) (bL fun y=>?_)
  ·exact absurd y he
  refine WS fun _ A4=>rP 1 [] I ?_
  have A:ej r h i t=mC r h i t:=l1 AB
  have C:dC r h i t=[]:=r0 (by rw [A]; exact he)
  refine dw 3 1 ?_
  rw [show (own none 0 3 1 ([]:List (List Value)))=own none 0 3 1 ((dC r h i t).map iC) from by rw [C]; rfl]
  refine rP 2 [] I ?_
  refine RK A4<|aB ?_
  refine LX hQ (none,0) [0] [] I U U U ?_ ?_
  ·first|rfl|(rw [A,C]; rfl)|(rw [A]; rfl)
  ·trivial
 obtain ⟨E,⟨j,Cp⟩,J⟩:=d.1 rfl
 try dsimp only [cond_true,cond_false,List.cons_append,List.nil_append]
 try dsimp only at E j Cp J
 have l:ej r h i t=0:=(l1 AB).trans E
 have Cx:=hin.rep j Cp J
 refine a_ 3 U<|AL U mX fun Kd=>fw U iS U<|a_ 1 U<|RK Z<|al fun _ A5=>WS fun _ A6=>a_ 1 U<|rS (SX (bw (r:= .bool false) U U U lp) U U)<|RK A6<|aM U<|WK A5<|WS fun _ A7=>rP 1 [] (mc 0 U I) ?_
 refine cX (ly (g0 r h i t) L S o M T N AA O V P W EB R X (by exact Cx)) (cY 15 U U<|ae (aa (n:=r.ai.aO.length) 1 U sm)<|ae (aa (n:=r.ai.ak.length) 2 U (c_ j))<|ae (bS 3 U dg)<|ae (aa (n:=r.ai.ag.length) 4 U sm)<|ae (aa (n:=r.aI.length) 5 U sm)<|ae (aa (n:=r.bu.length) 6 U sm)<|ae (aa (n:=(e_ r.aq h i t).length) 7 U (bW J.1))<|ae (cD 8 U J)<|aC) U fun IR e=>?_
 obtain ⟨Eq,JK,s,p,E9,FS,J8⟩:=IR
 cases Eq
 ·obtain ⟨B,he⟩:=e.2 rfl
  try dsimp only at B he
  subst B
  try dsimp only [cond_true,cond_false,List.cons_append,List.nil_append]
  exact absurd (th l) he
 obtain ⟨he,m⟩:=e.1 rfl
 try dsimp only [cond_true,cond_false,List.cons_append,List.nil_append]
 have C2:=lR AB
 have F:=l8 AB
 have C5:=lR he
 have J2:=l8 he
 refine a_ 5 U<|RK A7<|WS fun _ A8=>a_ 1 U<|RK A8<|al fun _ A9=>WS fun _ Bi=>a_ 1 U<|rS (SX (bk U U) U U)<|rP 2 [] (mc 13 U I) ?_
 refine cX (z_ G) (aC) U fun Fn J4=>?_
 try dsimp only
 refine cX (tn (ax r) G Fn sd) (bj [17,0]) U fun IV J5=>?_
 obtain ⟨J9,Kn⟩:=IV
 try dsimp only
 rw [show (ax r).length=(cp ((ax r).map (·.1))).length from by rw [e5,List.length_map]]
 refine rP 1 [] I ?_
 have C0:(cp ((ax r).map (·.1))).length≤5:=by rw [e5,List.length_map]; exact F
 refine rP 1 [] I ?_
 refine RK Bi<|aF<|gl 3 1 ?_
 have D:(0≤(cp ((ax r).map (·.1))).length):=by exact Nat.zero_le _
 refine bX (ι:={z:Nat×(OA)×Nat // (z.1≤(cp ((ax r).map (·.1))).length)}) [10,13,47,48] [1,3,4,5,6,8,9,10,11,12,13,14,15,16,17,18,19,22,23,24,25,26,27,28,29,30] U U (fun z=>[(15,(vS z.1.2.1 ((((cp ((ax r).map (·.1))).take z.1.1).filter (fun u=> !decide (cR (ax r) u (ar (ax r) u)=cR (ax (g0 r h i t)) u (ar (ax (g0 r h i t)) u)))).length) z.1.2.2)),(49,(vI (z.1.1:Int)))]) (fun z=>[(own z.1.2.1 z.1.2.2 3 1 ((((cp ((ax r).map (·.1))).take z.1.1).filter (fun u=> !decide (cR (ax r) u (ar (ax r) u)=cR (ax (g0 r h i t)) u (ar (ax (g0 r h i t)) u)))).map iC))]) (fun _=>rfl) (fun _=>rfl) (fun z=>(cp ((ax r).map (·.1))).length-z.1.1) ⟨(0,none,0),D⟩ (aT U) (aJ [1,3,4,5,6,8,9,10,11,12,13,14,15,16,17,18,19,22,23,24,25,26,27,28,29,30,0]) ?_
 clear D
 rintro ⟨⟨k,a,c⟩,K⟩ J65 Y
 try dsimp only at K
 try dsimp only
 have K4:((((cp ((ax r).map (·.1))).take k).filter (fun u=> !decide (cR (ax r) u (ar (ax r) u)=cR (ax (g0 r h i t)) u (ar (ax (g0 r h i t)) u))))).length≤12:=Nat.le_trans (List.length_filter_le _ _) (by rw [List.length_take]; omega)
 refine WS fun _ B3=>rP 1 [] I ?_
 refine RK B3<|al fun _ B7=>cu U (aZ fun Hi=>?_) (aY fun Hi=>?_)
 ·refine bq<|ah<|ah<|aD<|KK A9<|WS fun _ CY=>rP 1 [] I ?_
  have A:=l
  have C:dC r h i t=(((cp ((ax r).map (·.1))).take k).filter (fun u=> !decide (cR (ax r) u (ar (ax r) u)=cR (ax (g0 r h i t)) u (ar (ax (g0 r h i t)) u)))):=by rw [yz l,List.take_of_length_le om]
  rw [← C]
  refine rP 2 [] I ?_
  refine RK CY<|aB ?_
  refine LX hQ (a,c) [26] [] I U U U ?_ ?_
  ·first|rfl|(rw [A,C]; rfl)|(rw [A]; rfl)
  ·trivial
 refine WK B7<|al fun _ b=>aF<|WS fun _ B9=>?_
 obtain ⟨x,hx⟩:=aQ (cp ((ax r).map (·.1))) k om
 have IE:=cG iC hx
 refine rS (IA k U (aa (n:=(cp ((ax r).map (·.1))).length) 0 U sm) b0 dc om om)<|rS (g4 k 0 (vI x) U cz (aa (n:=(cp ((ax r).map (·.1))).length) 0 U sm) IE U dc U)<|a_ 1 U<|RK B9<|WS fun _ CP=>rP 2 [] I ?_
 refine cX (uX r kA kC cA cC bA bC slA slC drA drC heA heC f ((cr r).length) g G v (ax r) x (by exact C2) (by exact xb (aN hx)) om) (bj [13,16]) U fun Id J6=>?_
 obtain ⟨FZ,GE⟩:=Id
 try dsimp only
 refine rP 2 [] I ?_
 refine cX (uX (bQ.mk r.ai r.aI r.bu r.gf (e_ r.aq h i t)) L S M T N AA O V P W R X E9 ((cr (g0 r h i t)).length) FS p s (ax (g0 r h i t)) x (by exact C5) (by exact fun q=>by have:=D5 E x; rw [q] at this; exact xb (aN hx) (Option.not_isSome_iff_eq_none.1 (by rw [← this]; decide))) om) (bj [2,5]) U fun If J7=>?_
 obtain ⟨Fd,GT⟩:=If
 try dsimp only
 refine rS (CL (HH (cR (ax r) x (ar (ax r) x)) FZ GE (cR (ax (g0 r h i t)) x (ar (ax (g0 r h i t)) x)) Fd GT (by exact Nat.le_trans sR om) (by exact Nat.le_trans sR om)) (ae (aa (n:=(cR (ax r) x (ar (ax r) x)).length) 1 U sm)<|ae (aa (n:=(cR (ax (g0 r h i t)) x (ar (ax (g0 r h i t)) x)).length) 0 U sm)<|aC) U)<|rP 1 [] I ?_
 refine RK CP<|cu U (bM fun H=>?_) (bL fun H=>?_)
 ·refine cJ<|aH<|KK b<|au<|rP 1 [] I ?_
  have C0:(cp ((ax r).map (·.1))).length≤5:=by rw [e5,List.length_map]; exact F
  refine rP 1 [] I ?_
  refine aG ?_
  rw [show (((cp ((ax r).map (·.1))).take k).filter (fun u=> !decide (cR (ax r) u (ar (ax r) u)=cR (ax (g0 r h i t)) u (ar (ax (g0 r h i t)) u))))=(((cp ((ax r).map (·.1))).take (k+1)).filter (fun u=> !decide (cR (ax r) u (ar (ax r) u)=cR (ax (g0 r h i t)) u (ar (ax (g0 r h i t)) u)))) from (zX hx (by simpa using H)).symm]
  have Ck:(vI (((k+1):Nat):Int))=(vI ((k:Int)+1)):=by exact cI om
  refine bc (Y ⟨((k+1),a,c),(by first|omega|(simp only []; omega))⟩ _ _ _ U (by first|omega|(dsimp only; omega)) (du 5<|bO U Ck<|ew.nil _) (aJ [2,3,4,5,6,7,8,9,10,11,12,13,14,15,16,17,18,19,20,21,22,23,24,25,26,27,28]))
 refine au<|rP 2 [] I ?_
 refine ck (xs:=[.tmp 62]) (cs:=[(vI x)]) U b0 gI U U U U (by simp [Value.cells]) U U fun Ke=>?_
 refine dL (es2:=(List.map iC (((cp ((ax r).map (·.1))).take (k+1)).filter (fun u=> !decide (cR (ax r) u (ar (ax r) u)=cR (ax (g0 r h i t)) u (ar (ax (g0 r h i t)) u)))))) (m':=(((cp ((ax r).map (·.1))).take (k+1)).filter (fun u=> !decide (cR (ax r) u (ar (ax r) u)=cR (ax (g0 r h i t)) u (ar (ax (g0 r h i t)) u)))).length) 29 U U U q8 U U sm (aP (es:=List.map iC [x]) 0 U U (by simp [aW]) U) (ku _) os (by simp only [maxLen]; first|omega|(simp; omega)) (by rw [sj hx (by simpa using H)]; simp) (by rw [sj hx (by simpa using H)]; simp) U fun Fj Go=>?_
 try dsimp only
 refine a_ 1 U<|aG<|aH<|KK b<|au<|rP 1 [] I ?_
 have C0:(cp ((ax r).map (·.1))).length≤5:=by rw [e5,List.length_map]; exact F
 refine rP 1 [] I ?_
 refine aG ?_
 have Ci:(vI (((k+1):Nat):Int))=(vI ((k:Int)+1)):=by exact cI om
 refine bc (Y ⟨((k+1),Fj,Go),(by first|omega|(simp only []; omega))⟩ _ _ _ U (by first|omega|(dsimp only; omega)) (du 5<|bO U Ci<|ew.nil _) (aJ [3,4,5,6,7,8,9,10,11,12,13,14,15,16,17,18,19,20,21,22,23,24,25,26,27,28,29]))
end
section
open Go.RowKit
theorem iK (x y:Int):
 dQ Tryz.prog 18 [(vI x),(vI y)] [] (vA (ab.cells (ab.mk x y))):=by
 refine bx kr Tryz.func18 U U fun D Q hQ hN=>?_
 try dsimp only
 refine WS fun _ A=>AL U dK fun C=>RK A<|WS fun _ B=>rP 2 [] I ?_
 refine rS (SX (bh (xs:=[(0,.tmp 5),(1,.tmp 6)]) (cs:=(ab.cells (ab.mk x y))) U U (bg jt U)) U U)<|fw U cT U<|RK B<|aB ?_
 exact CW hQ [0] (mc 0 U I) U U
theorem vk (x:Int):
 dQ Tryz.prog 58 [(vI x)] [] (vA (cx.cells (cx.mk 0 (ab.mk x x)))):=by
 refine bx kr Tryz.func58 U U fun D Q hQ hN=>?_
 try dsimp only
 refine WS fun _ A=>AL U w9 fun C=>RK A<|WS fun _ B=>rP 2 [] I ?_
 refine rS (CL (iK x x) (aC) U)<|rS (SX (bh (xs:=[(1,.tmp 5)]) (cs:=(cx.cells (cx.mk 0 (ab.mk x x)))) U U (bg L4 U)) U U)<|fw U EC U<|RK B<|aB ?_
 exact CW hQ [0] (mc 0 U I) U U
theorem nj (x y:Int):
 dQ Tryz.prog 34 [(vI x),(vI y)] [] (vA (aV.cells (aV.mk false true (ab.mk x y) (eJ.mk 0 0 (ba.mk none 0 0))))):=by
 refine bx kr Tryz.func34 U U fun D Q hQ hN=>?_
 try dsimp only
 refine WS fun _ A=>AL U H7 fun C=>RK A<|WS fun _ B=>rP 2 [] I ?_
 refine rS (CL (iK x y) (aC) U)<|rS (SX (bh (xs:=[(1,.const (vB true)),(2,.tmp 7)]) (cs:=(aV.cells (aV.mk false true (ab.mk x y) (eJ.mk 0 0 (ba.mk none 0 0))))) U U (bg Hu U)) U U)<|fw U Hd U<|RK B<|aB ?_
 exact CW hQ [0] (mc 0 U I) U U
theorem Ih:
 kd Tryz.prog 32 [] [] (fun (x:(OA)×Nat×(OA)×Nat×(List RA)×(OA)×Nat)=>(vA (cj.cells (cj.mk (bK.mk (ba.mk x.1 an.ai.aO.length x.2.1)) an.ai.gV (ba.mk x.2.2.1 an.ai.ak.length x.2.2.2.1) (ba.mk x.2.2.2.2.2.1 an.ai.ag.length x.2.2.2.2.2.2) an.ai.ct an.ai.er an.ai.dx)))) (fun (x:(OA)×Nat×(OA)×Nat×(List RA)×(OA)×Nat)=>x.2.2.2.2.1.length=an.ai.ak.length∧fh an.ai x.2.2.2.2.1) (fun (x:(OA)×Nat×(OA)×Nat×(List RA)×(OA)×Nat)=>[(own x.1 x.2.1 114 9 (an.ai.aO.map ao.cells)),(own x.2.2.1 x.2.2.2.1 119 2 (List.zipWith aA.cells an.ai.ak x.2.2.2.2.1)),(bf (aR aA.owns an.ai.ak x.2.2.2.2.1)),(own x.2.2.2.2.2.1 x.2.2.2.2.2.2 121 4 (an.ai.ag.map bG.cells))]):=by
 refine cS kr Tryz.func32 U U fun AA Q hQ hN=>?_
 try dsimp only
 refine WS fun _ E=>AL U M6 fun H=>RK E<|WS fun _ F=>a_ 1 U<|RK F<|WS fun _ G=>rS (CL (iK 10000 10200) (aC) U)<|rS (CL (iK 0 100) (aC) U)<|rS (SX (bh (xs:=[(0,.const (vI 1)),(1,.tmp 2),(2,.tmp 3)]) (cs:=(ao.cells (ao.mk 1 (ab.mk 10000 10200) (ab.mk 0 100) (ab.mk 0 0) 0 0))) U U (bg KD U)) U U)<|ck (xs:=[.tmp 4]) (cs:=(ao.cells (ao.mk 1 (ab.mk 10000 10200) (ab.mk 0 100) (ab.mk 0 0) 0 0))) U Cm Ir U U U U (by simp [Value.cells,ao.aL]) U U fun B=>rS (SX (bh (xs:=[(0,.tmp 5)]) (cs:=(bK.cells (bK.mk (ba.mk (some ⟨B,0,none⟩) 1 1)))) U U (bg Nc U)) U U)<|rS (CL (iK 0 2) (aC) U)<|rS (SX (bh (xs:=[(0,.const (vI 0)),(1,.tmp 7)]) (cs:=(cP.cells (cP.mk 0 (ab.mk 0 2)))) U U (bg Iq U)) U U)<|rS (CL (iK 5 6) (aC) U)<|rS (SX (bh (xs:=[(0,.const (vI 100000)),(1,.tmp 9)]) (cs:=(cP.cells (cP.mk 100000 (ab.mk 5 6)))) U U (bg Iq U)) U U)<|ck (xs:=[.tmp 8,.tmp 10]) (cs:=((cP.cells (cP.mk 0 (ab.mk 0 2)))++(cP.cells (cP.mk 100000 (ab.mk 5 6))))) U ur AK U U U U (by simp [Value.cells,cP.aL]) U U fun A=>rS (SX (bh (xs:=[(0,.const (vI 100)),(1,.tmp 11)]) (cs:=(eD.cells (eD.mk 100 (ba.mk (some ⟨A,0,none⟩) 2 2)))) U U (bg KN U)) U U)<|ck (xs:=[.tmp 12]) (cs:=(eD.cells (eD.mk 100 (ba.mk (some ⟨A,0,none⟩) 2 2)))) U Cs IN U U U U (by simp [Value.cells,eD.aL]) U U fun C=>a_ 1 U<|rS (CL (vk 1000) (aC) U)<|rS (SX (bh (xs:=[(0,.tmp 15)]) (cs:=(bG.cells (bG.mk (cx.mk 0 (ab.mk 1000 1000)) 0))) U U (bg DQ U)) U U)<|a_ 1 U<|rS (CL (vk 4000) (aC) U)<|rS (SX (bh (xs:=[(0,.tmp 18)]) (cs:=(bG.cells (bG.mk (cx.mk 0 (ab.mk 4000 4000)) 0))) U U (bg DQ U)) U U)<|rP 1 [] I ?_
 refine rS (CL (vk 9000) (aC) U)<|rS (SX (bh (xs:=[(0,.tmp 21)]) (cs:=(bG.cells (bG.mk (cx.mk 0 (ab.mk 9000 9000)) 0))) U U (bg DQ U)) U U)<|ck (xs:=[.tmp 16,.tmp 19,.tmp 22]) (cs:=((bG.cells (bG.mk (cx.mk 0 (ab.mk 1000 1000)) 0))++(bG.cells (bG.mk (cx.mk 0 (ab.mk 4000 4000)) 0))++(bG.cells (bG.mk (cx.mk 0 (ab.mk 9000 9000)) 0)))) U Ba Ls U U U U (by simp [Value.cells,bG.aL]) U U fun D=>rS (SX (bh (xs:=[(0,.tmp 6),(1,.const (vI 2000)),(4,.const (vI 1)),(5,.const (vI 1)),(6,.const (vI 1)),(2,.tmp 13),(3,.tmp 23)]) (cs:=(cj.cells (cj.mk (bK.mk (ba.mk (some ⟨B,0,none⟩) 1 1)) 2000 (ba.mk (some ⟨C,0,none⟩) 1 1) (ba.mk (some ⟨D,0,none⟩) 3 3) 1 1 1))) U U (bg MI U)) U U) ?_
 refine cQ (es:=(an.ai.aO.map ao.cells)) (C':=[_,_,_,(own (some ⟨B,0,none⟩) 1 114 9 (an.ai.aO.map ao.cells)),_]) 3 U (jo ao.aL _) U (by show _≤maxLen; exact Nat.le_trans (m:=10) (show (1:Nat)≤10 by decide) dc) U ?_
 refine cQ (es:=(ta.br.map cP.cells)) (C':=[_,_,(own (some ⟨A,0,none⟩) 2 116 3 (ta.br.map cP.cells)),_,_]) 2 U (jo cP.aL _) U (by show _≤maxLen; exact Nat.le_trans (m:=10) (show (2:Nat)≤10 by decide) dc) U ?_
 refine cQ (es:=(List.zipWith aA.cells an.ai.ak [((some ⟨A,0,none⟩),2)])) (C':=[_,(own (some ⟨C,0,none⟩) 1 119 2 (List.zipWith aA.cells an.ai.ak [((some ⟨A,0,none⟩),2)])),_,_,_]) 1 U (by intro x hx; change x∈[aA.cells ta ((some ⟨A,0,none⟩),2)] at hx; rw [List.mem_singleton.1 hx]; rfl) U (by show _≤maxLen; exact Nat.le_trans (m:=10) (show (1:Nat)≤10 by decide) dc) U ?_
 refine cQ (es:=(an.ai.ag.map bG.cells)) (C':=[(own (some ⟨D,0,none⟩) 3 121 4 (an.ai.ag.map bG.cells)),_,_,_,_]) 0 U (jo bG.aL _) U (by show _≤maxLen; exact Nat.le_trans (m:=10) (show (3:Nat)≤10 by decide) dc) U ?_
 refine FY<|Mj (X:=[]) (X':=aR aA.owns an.ai.ak [((some ⟨A,0,none⟩),2)]) 0 3 U U U<|Kr U Nu U<|RK G<|aB ?_
 refine LX hQ ((some ⟨B,0,none⟩),1,(some ⟨C,0,none⟩),1,[((some ⟨A,0,none⟩),2)],(some ⟨D,0,none⟩),3) [3,2,0,1] [0] (mc 4 U I) U (by simp only [e6,List.all_nil,eM,Bool.and_true]; rfl) U U ?_
 exact ⟨U,Lm 1 dc⟩
theorem Hw:
 kd Tryz.prog 33 [] [] (fun (x:(OA)×Nat)=>(vA (eJ.cells (eJ.mk j3.Start j3.gk (ba.mk x.1 j3.ay.length x.2))))) (fun (x:(OA)×Nat)=>True) (fun (x:(OA)×Nat)=>[(own x.1 x.2 123 2 (j3.ay.map aK.cells))]):=by
 refine cS kr Tryz.func33 U U fun E Q hQ hN=>?_
 try dsimp only
 refine WS fun _ B=>AL U MP fun D=>RK B<|WS fun _ C=>rS (SX (bh (xs:=[(0,.const (vI 0)),(1,.const (vI 10600))]) (cs:=(aK.cells (aK.mk 0 10600))) U U (bg zP U)) U U)<|rS (SX (bh (xs:=[(0,.const (vI 0)),(1,.const (vI 11000))]) (cs:=(aK.cells (aK.mk 0 11000))) U U (bg zP U)) U U)<|rS (SX (bh (xs:=[(0,.const (vI 1)),(1,.const (vI 12600))]) (cs:=(aK.cells (aK.mk 1 12600))) U U (bg zP U)) U U)<|ck (xs:=[.tmp 1,.tmp 2,.tmp 3]) (cs:=((aK.cells (aK.mk 0 10600))++(aK.cells (aK.mk 0 11000))++(aK.cells (aK.mk 1 12600)))) U JS DM U U U U (by simp [Value.cells,aK.aL]) U U fun A=>rS (SX (bh (xs:=[(0,.const (vI 10000)),(1,.const (vI 20000)),(2,.tmp 4)]) (cs:=(eJ.cells (eJ.mk 10000 20000 (ba.mk (some ⟨A,0,none⟩) 3 3)))) U U (bg Nt U)) U U)<|cQ (es:=(j3.ay.map aK.cells)) (C':=[(own (some ⟨A,0,none⟩) 3 123 2 (j3.ay.map aK.cells)),_]) 0 U (jo aK.aL _) U dc U<|vU U MU U<|RK C<|aB<|LX hQ ((some ⟨A,0,none⟩),3) [0] [0] (mc 1 U I) U U U U ?_
 trivial
end
section
open Go.RowKit
theorem ee:
 kd Tryz.prog 10 [] [] (fun (x:(OA)×Nat×(OA)×Nat×(List RA)×(OA)×Nat×(OA)×Nat×(OA)×Nat×(OA)×Nat×(List cb))=>(vA (bV.cells (bV.mk (cj.mk (bK.mk (ba.mk x.1 an.ai.aO.length x.2.1)) an.ai.gV (ba.mk x.2.2.1 an.ai.ak.length x.2.2.2.1) (ba.mk x.2.2.2.2.2.1 an.ai.ag.length x.2.2.2.2.2.2.1) an.ai.ct an.ai.er an.ai.dx) (ba.mk x.2.2.2.2.2.2.2.1 an.aI.length x.2.2.2.2.2.2.2.2.1) (ba.mk x.2.2.2.2.2.2.2.2.2.1 an.bu.length x.2.2.2.2.2.2.2.2.2.2.1) an.gf (ba.mk x.2.2.2.2.2.2.2.2.2.2.2.1 an.aq.length x.2.2.2.2.2.2.2.2.2.2.2.2.1))))) (fun (x:(OA)×Nat×(OA)×Nat×(List RA)×(OA)×Nat×(OA)×Nat×(OA)×Nat×(OA)×Nat×(List cb))=>dG an x.2.2.2.2.1 x.2.2.2.2.2.2.2.2.2.2.2.2.2∧x.2.2.2.2.1.length=an.ai.ak.length∧mI an.aq x.2.2.2.2.2.2.2.2.2.2.2.2.2) (fun (x:(OA)×Nat×(OA)×Nat×(List RA)×(OA)×Nat×(OA)×Nat×(OA)×Nat×(OA)×Nat×(List cb))=>[(own x.1 x.2.1 114 9 (an.ai.aO.map ao.cells)),(own x.2.2.1 x.2.2.2.1 119 2 (List.zipWith aA.cells an.ai.ak x.2.2.2.2.1)),(bf (aR aA.owns an.ai.ak x.2.2.2.2.1)),(own x.2.2.2.2.2.1 x.2.2.2.2.2.2.1 121 4 (an.ai.ag.map bG.cells)),(own x.2.2.2.2.2.2.2.1 x.2.2.2.2.2.2.2.2.1 3 1 (an.aI.map iC)),(own x.2.2.2.2.2.2.2.2.2.1 x.2.2.2.2.2.2.2.2.2.2.1 3 1 (an.bu.map iC)),(own x.2.2.2.2.2.2.2.2.2.2.2.1 x.2.2.2.2.2.2.2.2.2.2.2.2.1 46 1 (List.zipWith cm an.aq x.2.2.2.2.2.2.2.2.2.2.2.2.2)),(bf (aR gG an.aq x.2.2.2.2.2.2.2.2.2.2.2.2.2))]):=by
 refine cS kr Tryz.func10 U U fun Y Q hQ hN=>?_
 try dsimp only
 refine WS fun _ P=>AL U mX fun X=>RK P<|WS fun _ R=>cX Ih (aC) U fun W T=>?_
 obtain ⟨J,M,K,N,L,E,F⟩:=W
 try dsimp only
 obtain ⟨S,O⟩:=T
 refine ck (xs:=[.const (vI 4),.const (vI 7),.const (vI 9)]) (cs:=[(vI 4),(vI 7),(vI 9)]) U b0 gI U U U U (by simp [Value.cells]) U U fun G=>ck (xs:=[.const (vI 2),.const (vI 0),.const (vI 1)]) (cs:=[(vI 2),(vI 0),(vI 1)]) U b0 gI U U U U (by simp [Value.cells]) U U fun H=>cX Hw (aC) U fun AA V=>?_
 obtain ⟨A,B⟩:=AA
 try dsimp only
 refine rS (SX (bh (xs:=[(3,.tmp 4)]) (cs:=(aV.cells (aV.mk false false (ab.mk 0 0) (eJ.mk j3.Start j3.gk (ba.mk A j3.ay.length B))))) U U (bg Hu U)) U U)<|rS (CL (nj 2600 2600) (aC) U)<|rS (CL (nj 2580 2609) (aC) U)<|ck (xs:=[.tmp 5,.tmp 6,.tmp 7]) (cs:=((aV.cells (aV.mk false false (ab.mk 0 0) (eJ.mk j3.Start j3.gk (ba.mk A j3.ay.length B))))++(aV.cells (aV.mk false true (ab.mk 2600 2600) (eJ.mk 0 0 (ba.mk none 0 0))))++(aV.cells (aV.mk false true (ab.mk 2580 2609) (eJ.mk 0 0 (ba.mk none 0 0)))))) U td H7 U U U U (by simp [Value.cells,aV.aL]) U U fun C=>rS (CL (nj 2555 2559) (aC) U)<|rS (CL (nj 2540 2549) (aC) U)<|rS (CL (nj 2570 2575) (aC) U)<|ck (xs:=[.tmp 9,.tmp 10,.tmp 11]) (cs:=((aV.cells (aV.mk false true (ab.mk 2555 2559) (eJ.mk 0 0 (ba.mk none 0 0))))++(aV.cells (aV.mk false true (ab.mk 2540 2549) (eJ.mk 0 0 (ba.mk none 0 0))))++(aV.cells (aV.mk false true (ab.mk 2570 2575) (eJ.mk 0 0 (ba.mk none 0 0)))))) U td H7 U U U U (by simp [Value.cells,aV.aL]) U U fun D=>ck (xs:=[.tmp 8,.tmp 12]) (cs:=[(vS (some ⟨C,0,none⟩) 3 3),(vS (some ⟨D,0,none⟩) 3 3)]) U q9 Nx U U U U (by simp [Value.cells]) U U fun AB=>rS (SX (bh (xs:=[(0,.tmp 1),(1,.tmp 2),(2,.tmp 3),(3,.const (vI 2)),(4,.tmp 13)]) (cs:=(bV.cells (bV.mk (cj.mk (bK.mk (ba.mk J an.ai.aO.length M)) an.ai.gV (ba.mk K an.ai.ak.length N) (ba.mk E an.ai.ag.length F) an.ai.ct an.ai.er an.ai.dx) (ba.mk (some ⟨G,0,none⟩) 3 3) (ba.mk (some ⟨H,0,none⟩) 3 3) 2 (ba.mk (some ⟨AB,0,none⟩) 2 2)))) U U (bg Ch U)) U U) ?_
 refine cQ (es:=(an.aI.map iC)) (C':=[_,_,_,_,_,(own (some ⟨G,0,none⟩) 3 3 1 (an.aI.map iC)),_,_,_,_,_]) 5 U (jo aW _) U (by show _≤maxLen; exact Nat.le_trans (m:=10) (show (3:Nat)≤10 by decide) dc) U ?_
 refine cQ (es:=(an.bu.map iC)) (C':=[_,_,_,_,(own (some ⟨H,0,none⟩) 3 3 1 (an.bu.map iC)),_,_,_,_,_,_]) 4 U (jo aW _) U (by show _≤maxLen; exact Nat.le_trans (m:=10) (show (3:Nat)≤10 by decide) dc) U ?_
 refine cQ (es:=(List.zipWith av.cells Du [(A,B),(none,0),(none,0)])) (C':=[_,_,(own (some ⟨C,0,none⟩) 3 45 7 (List.zipWith av.cells Du [(A,B),(none,0),(none,0)])),_,_,_,_,_,_,_,_]) 2 U (kE An) U (by show _≤maxLen; exact Nat.le_trans (m:=10) (show (3:Nat)≤10 by decide) dc) U ?_
 refine cQ (es:=(List.zipWith av.cells mB [(none,0),(none,0),(none,0)])) (C':=[_,(own (some ⟨D,0,none⟩) 3 45 7 (List.zipWith av.cells mB [(none,0),(none,0),(none,0)])),_,_,_,_,_,_,_,_,_]) 1 U (kE An) U (by show _≤maxLen; exact Nat.le_trans (m:=10) (show (3:Nat)≤10 by decide) dc) U ?_
 refine cQ (es:=(List.zipWith cm an.aq [(((some ⟨C,0,none⟩),3),[(A,B),(none,0),(none,0)]),(((some ⟨D,0,none⟩),3),[(none,0),(none,0),(none,0)])])) (C':=[(own (some ⟨AB,0,none⟩) 2 46 1 (List.zipWith cm an.aq [(((some ⟨C,0,none⟩),3),[(A,B),(none,0),(none,0)]),(((some ⟨D,0,none⟩),3),[(none,0),(none,0),(none,0)])])),_,_,_,_,_,_,_,_,_,_]) 0 U (kE EM) U (by show _≤maxLen; exact Nat.le_trans (m:=10) (show (2:Nat)≤10 by decide) dc) U ?_
 refine dw 123 2<|dw 123 2<|dw 123 2<|dw 123 2<|dw 123 2<|n_ (aR gG an.aq [(((some ⟨C,0,none⟩),3),[(A,B),(none,0),(none,0)]),(((some ⟨D,0,none⟩),3),[(none,0),(none,0),(none,0)])]) [7,8,0,1,6,2,3,4] [5,9,10,11,12,13,14,15] U U<|N5 U iS U<|RK R<|aB ?_
 refine LX hQ (J,M,K,N,L,E,F,(some ⟨G,0,none⟩),3,(some ⟨H,0,none⟩),3,(some ⟨AB,0,none⟩),2,[(((some ⟨C,0,none⟩),3),[(A,B),(none,0),(none,0)]),(((some ⟨D,0,none⟩),3),[(none,0),(none,0),(none,0)])]) [4,5,6,7,3,2,1,0] [0] (mc 8 U I) U (by show List.all _ _=true; simp only [e6,List.all_nil,eM,iH,Bool.and_true]; rfl) U U ?_
 exact ⟨Ka O Dp,S,Dp⟩
end
section
open Go.RowKit
theorem n9 (i lo hi:Int) (r:bQ) (kA:OA) (kC:Nat) (az:List RA) (cA:OA) (cC:Nat) (bA:OA) (bC:Nat) (slA:OA) (slC:Nat) (drA:OA) (drC:Nat) (ha:List cb) (heA:OA) (heC:Nat) (hin:dG r az ha):
 dQ Tryz.prog 9 [(vA (bV.cells (nM r kA kC cA cC bA bC slA slC drA drC heA heC))),(vI i),(vI lo),(vI hi)] [(rd dH 3 2 c4),(rd kA r.ai.aO.length 9 (r.ai.aO.map ao.cells)),(rd cA r.ai.ak.length 2 (List.zipWith aA.cells r.ai.ak az)),(eR (aR aA.jx r.ai.ak az)),(rd bA r.ai.ag.length 4 (r.ai.ag.map bG.cells)),(rd slA r.aI.length 1 (r.aI.map iC)),(rd drA r.bu.length 1 (r.bu.map iC)),(rd heA r.aq.length 1 (List.zipWith cm r.aq ha)),(eR (aR ja r.aq ha))] (vB (decide (gU r i=0∧mY r i=ab.mk lo hi))):=by
 have E:=hin.line
 have AA:=hin.g9
 have J:=hin.has
 have G:=hin.gT
 have F:=hin.draw
 have H:=dy (r:=r)
 refine bx kr Tryz.func9 U U fun M Q hQ hN=>?_
 try dsimp only
 refine WS fun _ C=>g5 U fun K=>a_ 1 U<|RK C<|WS fun _ D=>hE 2 [] (mc 0 U I) U<|rS (CL (wT i r kA kC az cA cC bA bC slA slC drA drC ha heA heC hin) (bj [1,2,3,4,5,6,7,8,9]) U)<|a_ 3 U<|AL U dK fun L=>fw U cT U<|a_ 1 U<|RK D<|al fun _ B=>dR cE 10 kr<|dP 3 [] I ?_
 refine j8 (t:=19) U (aZ fun A=>?_) (aY fun A=>?_)
 ·refine dP 7 [] I ?_
  refine dJ<|RK B<|aB<|Q1 hQ U U U ?_
  first|exact cB (df fun q=>A q.1).symm|exact cB (decide_eq_decide.2 ⟨fun q=>⟨A,q⟩,fun q=>q.2⟩)
 refine m7 3 [] (mc 0 U I) U<|dS (CL (iK lo hi) (aC) U)<|dS (BI U (r6 _ _ (mY r i) (ab.mk lo hi)))<|dP 2 [] I ?_
 refine dJ<|RK B<|aB<|Q1 hQ U U U ?_
 first|exact cB (df fun q=>A q.1).symm|exact cB (decide_eq_decide.2 ⟨fun q=>⟨A,q⟩,fun q=>q.2⟩)
theorem qu (i:Int) (want:List Int) (wantA:OA) (wantC:Nat) (r:bQ) (kA:OA) (kC:Nat) (az:List RA) (cA:OA) (cC:Nat) (bA:OA) (bC:Nat) (slA:OA) (slC:Nat) (drA:OA) (drC:Nat) (ha:List cb) (heA:OA) (heC:Nat) (hin:dG r az ha) (hwl:want.length≤12):
 dQ Tryz.prog 11 [(vA (bV.cells (nM r kA kC cA cC bA bC slA slC drA drC heA heC))),(vI i),(vS wantA want.length wantC)] [(rd wantA want.length 1 (want.map iC)),(rd dH 3 2 c4),(rd kA r.ai.aO.length 9 (r.ai.aO.map ao.cells)),(rd cA r.ai.ak.length 2 (List.zipWith aA.cells r.ai.ak az)),(eR (aR aA.jx r.ai.ak az)),(rd bA r.ai.ag.length 4 (r.ai.ag.map bG.cells)),(rd slA r.aI.length 1 (r.aI.map iC)),(rd drA r.bu.length 1 (r.bu.map iC)),(rd heA r.aq.length 1 (List.zipWith cm r.aq ha)),(eR (aR ja r.aq ha))] (vB (decide (gU r i=0∧gF r i=want))):=by
 have E:=hin.line
 have K:=hin.g9
 have L:=hin.has
 have G:=hin.gT
 have F:=hin.draw
 have H:=dy (r:=r)
 have M:=ye (r:=r) (i:=i)
 refine bx kr Tryz.func11 U U fun R Q hQ hN=>?_
 try dsimp only
 refine WS fun _ C=>g5 U fun P=>a_ 1 U<|RK C<|WS fun _ D=>rP 2 [] (mc 0 U I) ?_
 refine cX (Hr i r kA kC az cA cC bA bC slA slC drA drC ha heA heC hin) (bj [2,3,4,5,6,7,8,9,10]) U fun O N=>?_
 obtain ⟨AA,J⟩:=O
 try dsimp only
 refine a_ 5 U<|RK D<|WS fun _ B=>rP 3 [] I ?_
 refine bH (t:=17) U (aZ fun A=>?_) (aY fun A=>?_)
 ·refine rP 5 [] I ?_
  refine RK B<|aB<|Q1 hQ U U U ?_
  first|exact cB (df fun q=>A q.1).symm|exact cB (decide_eq_decide.2 ⟨fun q=>⟨A,q⟩,fun q=>q.2⟩)
 refine a_ 2 U<|rS (CL (lk (gF r i) AA J want wantA wantC om om) (ae (aa (n:=(gF r i).length) 0 U sm)<|cY 2 U U<|aC) U)<|rP 2 [] I ?_
 refine RK B<|aB<|Q1 hQ U U U ?_
 first|exact cB (df fun q=>A q.1).symm|exact cB (decide_eq_decide.2 ⟨fun q=>⟨A,q⟩,fun q=>q.2⟩)
theorem p4 (heatX:Int) (want:List Int) (wantA:OA) (wantC:Nat) (hwl:want.length≤12):
 dQ Tryz.prog 8 [(vI heatX),(vS wantA want.length wantC)] [(rd dH 3 2 c4),(rd wantA want.length 1 (want.map iC))] (vB (decide (e8 an heatX=0∧e9 an heatX=want))):=by
 have b:=yj (r:=an) (h:=heatX) dc
 refine bx kr Tryz.func8 U U fun d Q hQ hN=>?_
 try dsimp only
 refine WS fun _ V=>rP 1 [] I ?_
 refine RK V<|WS fun _ W=>cX ee (aC) U fun c Y=>?_
 obtain ⟨N,S,P,AA,R,C,G,D,H,E,AB,F,J,M⟩:=c
 try dsimp only
 obtain ⟨L,X,K⟩:=Y
 refine rP 1 [] I ?_
 refine cX (Ay heatX an N S R P AA C G D H E AB M F J (by exact L)) (cY 8 U U<|ae (aa (n:=an.ai.aO.length) 0 U sm)<|ae (aa (n:=an.ai.ak.length) 1 U (c_ X))<|ae (bS 2 U dg)<|ae (aa (n:=an.ai.ag.length) 3 U sm)<|ae (aa (n:=an.aI.length) 4 U sm)<|ae (aa (n:=an.bu.length) 5 U sm)<|ae (aa (n:=an.aq.length) 6 U (bW K.1))<|ae (cD 7 U K)<|aC) U fun Z a=>?_
 obtain ⟨O,T⟩:=Z
 try dsimp only
 refine a_ 5 U<|RK W<|WS fun _ B=>rP 3 [] I ?_
 refine bH (t:=15) U (aZ fun A=>?_) (aY fun A=>?_)
 ·refine rP 5 [] I ?_
  refine RK B<|aB<|Q1 hQ U U U ?_
  first|exact cB (df fun q=>A q.1).symm|exact cB (decide_eq_decide.2 ⟨fun q=>⟨A,q⟩,fun q=>q.2⟩)
 refine a_ 2 U<|rS (CL (lk (e9 an heatX) O T want wantA wantC om om) (ae (aa (n:=(e9 an heatX).length) 0 U sm)<|cY 10 U U<|aC) U)<|rP 2 [] I ?_
 refine RK B<|aB<|Q1 hQ U U U ?_
 first|exact cB (df fun q=>A q.1).symm|exact cB (decide_eq_decide.2 ⟨fun q=>⟨A,q⟩,fun q=>q.2⟩)
theorem sr (a b:Int) (x y:Int):
 dQ Tryz.prog 12 [(vI a),(vI b),(Value.int .u8 x),(Value.int .u8 y)] [(rd dH 3 2 c4)] (vB (decide (((je an a b=0∧qc an a b=x)∧je an a b=0)∧mO an a b=y))):=by
 refine bx kr Tryz.func12 U U fun w Q hQ hN=>?_
 try dsimp only
 refine WS fun _ p=>rP 1 [] I ?_
 refine RK p<|WS fun _ r=>cX ee (aC) U fun v s=>?_
 obtain ⟨j,m,k,o,l,J,V,L,X,N,Z,P,d,h⟩:=v
 try dsimp only
 obtain ⟨F,G,E⟩:=s
 refine a_ 2 U<|rS (CL (xx a b an j m l k o J V L X N Z h P d (by exact F)) (cY 8 U U<|ae (aa (n:=an.ai.aO.length) 0 U sm)<|ae (aa (n:=an.ai.ak.length) 1 U (c_ G))<|ae (bS 2 U dg)<|ae (aa (n:=an.ai.ag.length) 3 U sm)<|ae (aa (n:=an.aI.length) 4 U sm)<|ae (aa (n:=an.bu.length) 5 U sm)<|ae (aa (n:=an.aq.length) 6 U (bW E.1))<|ae (cD 7 U E)<|aC) U)<|iT [8] U U<|rP 5 [] I ?_
 refine RK r<|WS fun _ f=>cX ee (aC) U fun u g=>?_
 obtain ⟨H,T,AB,AA,S,K,W,M,Y,O,c,R,e,i⟩:=u
 try dsimp only
 obtain ⟨F,G,E⟩:=g
 refine a_ 2 U<|rS (CL (Ei a b an H T S AB AA K W M Y O c i R e (by exact F)) (cY 8 U U<|ae (aa (n:=an.ai.aO.length) 0 U sm)<|ae (aa (n:=an.ai.ak.length) 1 U (c_ G))<|ae (bS 2 U dg)<|ae (aa (n:=an.ai.ag.length) 3 U sm)<|ae (aa (n:=an.aI.length) 4 U sm)<|ae (aa (n:=an.bu.length) 5 U sm)<|ae (aa (n:=an.aq.length) 6 U (bW E.1))<|ae (cD 7 U E)<|aC) U)<|a_ 5 U<|RK f<|WS fun _ D=>rP 3 [] I ?_
 refine bH (t:=29) U (aZ fun A=>?_) (aY fun A=>?_)
 ·refine rP 14 [] I ?_
  refine RK D<|aB<|Q1 hQ U U U ?_
  first|exact cB (df fun q=>A q.1.1.1).symm|exact cB (df fun q=>B q.1.1.2).symm|exact cB (df fun q=>C q.1.2).symm|exact cB (decide_eq_decide.2 ⟨fun q=>⟨⟨⟨A,B⟩,C⟩,q⟩,fun q=>q.2⟩)
 refine a_ 2 U<|rS (BI U oy)<|rP 2 [] I ?_
 refine bH (t:=34) U (aZ fun B=>?_) (aY fun B=>?_)
 ·refine rP 9 [] I ?_
  refine RK D<|aB<|Q1 hQ U U U ?_
  first|exact cB (df fun q=>A q.1.1.1).symm|exact cB (df fun q=>B q.1.1.2).symm|exact cB (df fun q=>C q.1.2).symm|exact cB (decide_eq_decide.2 ⟨fun q=>⟨⟨⟨A,B⟩,C⟩,q⟩,fun q=>q.2⟩)
 refine rP 4 [] I ?_
 refine bH (t:=38) U (aZ fun C=>?_) (aY fun C=>?_)
 ·refine rP 5 [] I ?_
  refine RK D<|aB<|Q1 hQ U U U ?_
  first|exact cB (df fun q=>A q.1.1.1).symm|exact cB (df fun q=>B q.1.1.2).symm|exact cB (df fun q=>C q.1.2).symm|exact cB (decide_eq_decide.2 ⟨fun q=>⟨⟨⟨A,B⟩,C⟩,q⟩,fun q=>q.2⟩)
 refine a_ 2 U<|rS (BI U oy)<|rP 2 [] I ?_
 refine RK D<|aB<|Q1 hQ U U U ?_
 first|exact cB (df fun q=>A q.1.1.1).symm|exact cB (df fun q=>B q.1.1.2).symm|exact cB (df fun q=>C q.1.2).symm|exact cB (decide_eq_decide.2 ⟨fun q=>⟨⟨⟨A,B⟩,C⟩,q⟩,fun q=>q.2⟩)
end
section
open Go.RowKit
section
variable {E:dM} {ops:Array Oper} {D:List Deferred} {C' C1:List aj} {tb:List Nat}
theorem p9 {V:Type} {F:List (Nat×Value)→List aj→Prop} (P:V→Prop) (fL:V→List (Nat×Value)) (fC:V→List aj) (n:Nat) (rest:List Nat) {m:Nat} {rem:List Nat} {L:List (Nat×Value)} {C:List aj} (h1:(∀ v,P v→TN E ops D C' C1 F tb n rest (fL v) (fC v))→TN E ops D C' C1 F tb m rem L C) (h2: ∀ v,P v→TN E ops D C' C1 F tb n rest (fL v) (fC v)):TN E ops D C' C1 F tb m rem L C:=h1 h2
theorem fk {F:List (Nat×Value)→List aj→Prop} {rem':List Nat} {n i:Nat} {L:List (Nat×Value)} {C:List aj} {o:Oper} (ho:ops[i]? =some o)
 (h: ∀ K:Act→World→Prop,(∀ L' C'',(∀ w,St E.S E.w0 C'' w→St E.S E.w0 C' w)→TN E ops D C' C1 F tb n rem' L' C''→KJ E K D L' C'')→RJ E ops (NQ K) [o] D L C) (hm:((i::rem').filter fun k=>(i::rem').all fun j=> !fR (nX ops) j k)=[i]:=by kernel_rfl) (hr:(i::rem').filter (· != i)=rem':=by kernel_rfl) (ht:tb.contains i=false:=by rfl):TN E ops D C' C1 F tb (n+1) (i::rem') L C:=
 eN [i] hm (b_ (cN ho hr ht h) fQ)
theorem Jl {K0:Act→World→Prop} {n:Nat} {rem:List Nat} {L L2:List (Nat×Value)} {C C2:List aj} (hL: ∀ a,Fr E.n D L a→Fr E.n D L2 a) (hC: ∀ w,St E.S E.w0 C w→St E.S E.w0 C2 w) (h:TN E ops D C' C1 (fun L C=>KJ E K0 D L C) tb n rem L2 C2):TN E ops D C' C1 (fun L C=>KJ E K0 D L C) tb n rem L C:=by
 cases n with
 |zero=>exact HV hL hC h
 |succ n=>exact fun i hi o ho K hK=>Hq hL hC (h i hi o ho K hK)
theorem eE {V:Type} {P:V→Prop} {fL:V→List (Nat×Value)} {fC:V→List aj} {K0:Act→World→Prop} {n:Nat} {rem rest:List Nat} {L:List (Nat×Value)} {C:List aj} (hJ: ∀ v,P v→TN E ops D C' C1 (fun L C=>KJ E K0 D L C) tb n rest (fL v) (fC v)) (v:V) (hp:P v) (ix:List Nat) (hL:(fL v).map (fun p=>L.lookup p.1)=(fL v).map (fun p=>some p.2)) (hn:decide ix.Nodup=true) (hC:jz C ix=some (fC v)) (hr:rem=rest:=by kernel_rfl):TN E ops D C' C1 (fun L C=>KJ E K0 D L C) tb n rem L C:=hr▸
 Jl (fun a hf=>La (HM hL) a hf) (fun w hs=>St.jC _ hn (gN hC) hs) (hJ v hp)
end
theorem xu {E:dM} {id:Nat} {ops:Array Oper} {Q:cd} {D:List Deferred} {L:List (Nat×Value)} {C:List aj} (hm:E.P.follows .mixedOrders=true) (T i1:List Nat) {C':List aj} {free:List Nat} {FZ:List Bool} (h1:jz C i1=some C') (hf:free=Lu ops.size T) (hfe:FZ=Nn free.length [])
 (h:mV E ops D C' [] (fun L'=>TN E ops D C' [] (fun L C=>KJ E (Q .normal) D L C) [] T.length T L' C) FZ (dp ops free) L) (hc:zU ops free T FZ []=true:=by kernel_rfl) (n1:decide i1.Nodup=true:=by rfl):WJ E (.region id ops true) Q D L C:=
 rv hm free T FZ [] C' [] hc (HN i1 h1 n1) (HN [] rfl rfl) h
section
end
end
section
open Go.RowKit
theorem Ez:
 dQ Tryz.prog 7 [] [(rd dH 3 2 c4)] (vB true):=by
 have E9:=nA (r:=an)
 have C2:=nA (r:=ji)
 have R7:=wO (r:=an) (h:=0) (i:=2) (t:=ab.mk 2590 2599)
 have R6:an.aI.length=3:=rfl
 refine bx kr Tryz.func7 U U fun w0 Q hQ hN=>?_
 try dsimp only
 refine WS fun _ Rv=>rP 1 [] I ?_
 refine RK Rv<|WS fun _ Rw=>cX ee (aC) U fun y3 Ry=>?_
 obtain ⟨Rq,Rt,Rr,Ru,Rs,QJ,Q3,QN,Q7,QR,RB,QV,RG,Rg⟩:=y3
 try dsimp only
 obtain ⟨A,F,B⟩:=Ry
 refine rS (CL (DC 0 0 an Rq Rt Rs Rr Ru QJ Q3 QN Q7 QR RB Rg QV RG (by exact A)) (cY 8 U U<|ae (aa (n:=an.ai.aO.length) 0 U sm)<|ae (aa (n:=an.ai.ak.length) 1 U (c_ F))<|ae (bS 2 U dg)<|ae (aa (n:=an.ai.ag.length) 3 U sm)<|ae (aa (n:=an.aI.length) 4 U sm)<|ae (aa (n:=an.bu.length) 5 U sm)<|ae (aa (n:=an.aq.length) 6 U (bW B.1))<|ae (cD 7 U B)<|aC) U)<|a_ 1 U<|iT [8] U U<|a_ 2 U<|AL U dK fun Di=>fw U cT U<|rP 1 [] I ?_
 refine RK Rw<|WS fun _ RU=>cX ee (aC) U fun Rz Rb=>?_
 obtain ⟨QD,Qv,QG,Qy,Qs,QK,Q4,QO,Q8,QS,RC,QW,RH,Rh⟩:=Rz
 try dsimp only
 obtain ⟨A,F,B⟩:=Rb
 refine cX (vq an QD Qv Qs QG Qy QK Q4 QO Q8 QS RC Rh QW RH (by exact A)) (cY 9 U U<|ae (aa (n:=an.ai.aO.length) 0 U sm)<|ae (aa (n:=an.ai.ak.length) 1 U (c_ F))<|ae (bS 2 U dg)<|ae (aa (n:=an.ai.ag.length) 3 U sm)<|ae (aa (n:=an.aI.length) 4 U sm)<|ae (aa (n:=an.bu.length) 5 U sm)<|ae (aa (n:=an.aq.length) 6 U (bW B.1))<|ae (cD 7 U B)<|aC) U fun R0 Rc=>?_
 obtain ⟨a,CY,Ci⟩:=R0
 try dsimp only
 have P2:=Rc
 have Hl:=P2
 refine a_ 1 U<|iT [0,1,10,11] U U<|rP 4 [] I ?_
 refine RK RU<|WS fun _ RV=>cX ee (aC) U fun R1 Rd=>?_
 obtain ⟨QE,Qw,QH,Qz,Qt,QL,Q5,QP,Q9,QT,RE,QX,RI,Ri⟩:=R1
 try dsimp only
 obtain ⟨A,F,B⟩:=Rd
 refine rS (CL (iK 2590 2599) (aC) U)<|cX (sZ 0 2 (ab.mk 2590 2599) an QE Qw Qt QH Qz QL Q5 QP Q9 QT RE Ri QX RI (by exact A)) (cY 11 U U<|ae (aa (n:=an.ai.aO.length) 0 U sm)<|ae (aa (n:=an.ai.ak.length) 1 U (c_ F))<|ae (bS 2 U dg)<|ae (aa (n:=an.ai.ag.length) 3 U sm)<|ae (aa (n:=an.aI.length) 4 U sm)<|ae (aa (n:=an.bu.length) 5 U sm)<|ae (aa (n:=an.aq.length) 6 U (bW B.1))<|ae (cD 7 U B)<|aC) U fun R2 IO=>?_
 obtain ⟨Rj,R5,G,N,H,O,M,AB,P,J,R,K,S,L,T,AA⟩:=R2
 cases Rj
 ·obtain ⟨RZ,he⟩:=IO.2 rfl
  try dsimp only at RZ he
  subst RZ
  try dsimp only [cond_true,cond_false,List.cons_append,List.nil_append]
  exact absurd v9 he
 obtain ⟨Ra,⟨Eq,RY⟩,C5⟩:=IO.1 rfl
 try dsimp only [cond_true,cond_false,List.cons_append,List.nil_append]
 try dsimp only at Ra Eq RY C5
 have IE:dG ji _ _:=dG.rep A Eq RY C5
 refine a_ 1 U<|iT [0,1,2,3,4,5,6,7,16,17,18,19] U U<|a_ 2 U<|AL U mX fun Ck=>fw U iS U<|a_ 1 U<|RK RV<|WS fun _ RW=>rP 1 [] (mc 0 U I) ?_
 refine cX (vq ji G N M H O AB P J R K S AA L T (by exact IE)) (cY 12 U U<|ae (aa (n:=an.ai.aO.length) 1 U (by rw [List.length_map]; rfl))<|ae (aa (n:=an.ai.ak.length) 2 U (c_ Eq))<|ae (bS 3 U dg)<|ae (aa (n:=an.ai.ag.length) 4 U (by rw [List.length_map]; rfl))<|ae (aa (n:=an.aI.length) 5 U (by rw [List.length_map]; rfl))<|ae (aa (n:=an.bu.length) 6 U (by rw [List.length_map]; rfl))<|ae (aa (n:=(e_ an.aq 0 2 (ab.mk 2590 2599)).length) 7 U (bW C5.1))<|ae (cD 8 U C5)<|aC) U fun R3 Re=>?_
 obtain ⟨b,Bi,B3⟩:=R3
 try dsimp only
 have P2:=Re
 have H1:=P2
 refine rP 5 [] I ?_
 refine RK RW<|WS fun _ RX=>cX ee (aC) U fun R4 Rf=>?_
 obtain ⟨QF,Qx,QI,Q0,Qu,QM,Q6,QQ,Q_,QU,RF,QY,RL,P8⟩:=R4
 try dsimp only
 obtain ⟨A,F,B⟩:=Rf
 refine rS (CL (iK 2590 2599) (aC) U)<|cX (tj 0 2 (ab.mk 2590 2599) an QF Qx Qu QI Q0 QM Q6 QQ Q_ QU RF P8 QY RL (by exact A)) (cY 22 U U<|ae (aa (n:=an.ai.aO.length) 0 U sm)<|ae (aa (n:=an.ai.ak.length) 1 U (c_ F))<|ae (bS 2 U dg)<|ae (aa (n:=an.ai.ag.length) 3 U sm)<|ae (aa (n:=an.aI.length) 4 U sm)<|ae (aa (n:=an.bu.length) 5 U sm)<|ae (aa (n:=an.aq.length) 6 U (bW B.1))<|ae (cD 7 U B)<|aC) U fun Rk Rx=>?_
 obtain ⟨W,Z⟩:=Rk
 try dsimp only
 refine a_ 1 U<|iT [0,9,10,11,12,13,14,15,16,17,18,19,20,21,22,23] U U<|rP 4 [] I ?_
 refine RK RX<|al fun _ OT=>xu cE [8,9,10,11,12,13,14,15,16,17,18,19,20,21,22,23,24,25,26,27,28,29,30,31,32,33,34,35,36,37,38,39,40,41,42,43,44,45,46,47,48,49,50,51,52,53,54,55,56,57,58,59,60,61,62,63,64,65,66,67,68,69,70,71,72,73] [0,1,2,3,4,5,6,7,8,9,10,11,12,13,14,15] U U U<|eS U (MV U)<|eS U (BI U oy)<|eS U (MV U)<|CZ (t:=40) U (aZ fun RM=>?_) (aY fun RM=>?_)
 ·exact absurd (IW.1) RM
 refine eS U (LW 14 U cz U U)<|eS U (CL (iK 2596 2602) (aC) U)<|eS U (BI U (r6 _ _ (fz an 0 0) (ab.mk 2596 2602)))<|eS U (PK U)<|eS U (MV U)<|e7 U<|fk U fun T106 OU=>bH (t:=45) U (aZ fun RN=>?_) (aY fun RN=>?_)
 ·exact absurd (IW.2) RN
 refine cX ee (aC) U fun Rl P3=>?_
 obtain ⟨IR,L0,JK,NE,LT,J3,Ny,J8,OE,Kn,OJ,LA,OO,P9⟩:=Rl
 try dsimp only
 obtain ⟨A,F,B⟩:=P3
 refine RD OU 8 U<|fk U fun T123 OV=>rS (CL (n9 0 514 515 an IR L0 LT JK NE J3 Ny J8 OE Kn OJ P9 LA OO (by exact A)) (cY 23 U U<|ae (aa (n:=an.ai.aO.length) 0 U sm)<|ae (aa (n:=an.ai.ak.length) 1 U (c_ F))<|ae (bS 2 U dg)<|ae (aa (n:=an.ai.ag.length) 3 U sm)<|ae (aa (n:=an.aI.length) 4 U sm)<|ae (aa (n:=an.bu.length) 5 U sm)<|ae (aa (n:=an.aq.length) 6 U (bW B.1))<|ae (cD 7 U B)<|aC) U)<|RD OV 8 U<|fk U fun T124 OW=>iT [8,9,10,11,12,13,14,15,16,17,18,19,20,21,22,23] U U<|rS (PK U)<|RD OW 0 U<|fk U fun T125 OY=>rS (MV U)<|RD OY 0 U ?_
 refine p9 (V:=OA×Nat×OA×Nat×List RA×OA×Nat×OA×Nat×OA×Nat×OA×Nat×List cb×Nat) (fun (j,z,l,AO,X,p,A1,s,A3,v,A5,x,A7,c,e)=>dG an X c∧X.length=an.ai.ak.length∧mI an.aq c) (fun (j,z,l,AO,X,p,A1,s,A3,v,A5,x,A7,c,e)=>[(3,(vS CY ((cw an).length) Ci)),(4,(vI (cc an))),(5,(vP Ck)),(6,(vI 0)),(7,(vS Bi ((cw ji).length) B3)),(8,(vI (cc ji))),(9,(vS W ((dC an 0 2 (ab.mk 2590 2599)).length) Z)),(10,(vI (ej an 0 2 (ab.mk 2590 2599)))),(49,(vB true)),(50,(vA (bV.cells (bV.mk (cj.mk (bK.mk (ba.mk j an.ai.aO.length z)) an.ai.gV (ba.mk l an.ai.ak.length AO) (ba.mk p an.ai.ag.length A1) an.ai.ct an.ai.er an.ai.dx) (ba.mk s an.aI.length A3) (ba.mk v an.bu.length A5) an.gf (ba.mk x an.aq.length A7))))),(51,(vS (some ⟨e,0,none⟩) 2 2))]) (fun (j,z,l,AO,X,p,A1,s,A3,v,A5,x,A7,c,e)=>[(bJ e 3 [(vI 1),(vI 2)]),(own j z 114 9 (an.ai.aO.map ao.cells)),(own l AO 119 2 (List.zipWith aA.cells an.ai.ak X)),(bf (aR aA.owns an.ai.ak X)),(own p A1 121 4 (an.ai.ag.map bG.cells)),(own s A3 3 1 (an.aI.map iC)),(own v A5 3 1 (an.bu.map iC)),(own x A7 46 1 (List.zipWith cm an.aq c)),(bf (aR gG an.aq c)),(own W Z 3 1 ((dC an 0 2 (ab.mk 2590 2599)).map iC)),(own Bi B3 32 1 (List.zipWith j5 (cw ji) b)),(bf (aR oQ (cw ji) b)),(bJ Ck 35 (bV.cells (bV.mk (cj.mk (bK.mk (ba.mk G an.ai.aO.length N)) an.ai.gV (ba.mk H an.ai.ak.length O) (ba.mk AB an.ai.ag.length P) an.ai.ct an.ai.er an.ai.dx) (ba.mk J an.aI.length R) (ba.mk K an.bu.length S) an.gf (ba.mk L ((e_ an.aq 0 2 (ab.mk 2590 2599)).length) T)))),(own G N 114 9 (an.ai.aO.map ao.cells)),(own H O 119 2 (List.zipWith aA.cells an.ai.ak M)),(bf (aR aA.owns an.ai.ak M)),(own AB P 121 4 (an.ai.ag.map bG.cells)),(own J R 3 1 (an.aI.map iC)),(own K S 3 1 (an.bu.map iC)),(own L T 46 1 (List.zipWith cm (e_ an.aq 0 2 (ab.mk 2590 2599)) AA)),(bf (aR gG (e_ an.aq 0 2 (ab.mk 2590 2599)) AA)),(own CY Ci 32 1 (List.zipWith j5 (cw an) a)),(bf (aR oQ (cw an) a)),(bJ Di 40 (ab.cells (fz an 0 0))),(rd dH 3 2 c4).ro]) 60 [14,15,16,17,18,19,20,21,22,23,24,25,26,27,28,29,30,31,32,33,34,35,36,37,38,39,40,41,42,43,44,45,46,47,48,49,50,51,52,53,54,55,56,57,58,59,60,61,62,63,64,65,66,67,68,69,70,71,72,73] (fun hJ=>?_) ?_
 ·refine eN [12,13] kr (b_ ?_<|b_ ?_<|fQ)
  rotate_left 1
  ·refine cN U U U fun T162 Ob=>bH (t:=49) U (aZ fun Do=>?_) (aY fun Do=>?_)
   ·exact absurd (⟨jV.1,jV.2.1⟩) Do
   refine ck (xs:=[.const (vI 1),.const (vI 2)]) (cs:=[(vI 1),(vI 2)]) U b0 gI U U U U (by simp [Value.cells]) U U fun Qa=>RD Ob 1 U<|N1 12<|cN U U U fun T164 Oc=>cX ee (aC) U fun Rn P5=>?_
   obtain ⟨Id,ML,JQ,NR,Lk,J5,OB,KM,OG,K4,OL,LK,OQ,QA⟩:=Rn
   try dsimp only
   obtain ⟨A,F,B⟩:=P5
   refine RD Oc 9 U ?_
   exact eE hJ (Id,ML,JQ,NR,Lk,J5,OB,KM,OG,K4,OL,LK,OQ,QA,Qa) ⟨A,F,B⟩ [8,0,1,2,3,4,5,6,7,9,10,11,12,13,14,15,16,17,18,19,20,21,22,23,24] U U U
  refine cN U U U fun T143 OZ=>bH (t:=49) U (aZ fun Do=>?_) (aY fun Do=>?_)
  ·exact absurd (⟨jV.1,jV.2.1⟩) Do
  refine cX ee (aC) U fun Rm P4=>?_
  obtain ⟨IV,L2,JO,NI,Li,J4,N0,J9,OF,K0,OK,LE,OP,P_⟩:=Rm
  try dsimp only
  obtain ⟨A,F,B⟩:=P4
  refine RD OZ 8 U<|N1 13<|cN U U U fun T160 Oa=>ck (xs:=[.const (vI 1),.const (vI 2)]) (cs:=[(vI 1),(vI 2)]) U b0 gI U U U U (by simp [Value.cells]) U U fun QZ=>RD Oa 9 U ?_
  exact eE hJ (IV,L2,JO,NI,Li,J4,N0,J9,OF,K0,OK,LE,OP,P_,QZ) ⟨A,F,B⟩ [0,1,2,3,4,5,6,7,8,9,10,11,12,13,14,15,16,17,18,19,20,21,22,23,24] U U U
 rintro ⟨j,z,l,AO,X,p,A1,s,A3,v,A5,x,A7,c,e⟩ ⟨A,F,B⟩
 try dsimp only
 refine fk U fun T181 Od=>rS (CL (qu 0 ([1,2]) (some ⟨e,0,none⟩) 2 an j z X l AO p A1 s A3 v A5 c x A7 (by exact A) dc) (ae (aP 0 U U (by simp [aW]) U)<|cY 24 U U<|ae (aa (n:=an.ai.aO.length) 1 U sm)<|ae (aa (n:=an.ai.ak.length) 2 U (c_ F))<|ae (bS 3 U dg)<|ae (aa (n:=an.ai.ag.length) 4 U sm)<|ae (aa (n:=an.aI.length) 5 U sm)<|ae (aa (n:=an.bu.length) 6 U sm)<|ae (aa (n:=an.aq.length) 7 U (bW B.1))<|ae (cD 8 U B)<|aC) U)<|RD Od 9 U<|fk U fun T182 Oe=>iT [0,9,10,11,12,13,14,15,16,17,18,19,20,21,22,23,24] U U<|rS (PK U)<|RD Oe 1 U<|fk U fun T183 Of=>rS (MV U)<|RD Of 1 U ?_
 refine p9 (V:=OA×Nat×OA×Nat×List RA×OA×Nat×OA×Nat×OA×Nat×OA×Nat×List cb×Nat) (fun (k,AC,o,A0,Y,q,A2,u,A4,w,A6,y,A8,d,f)=>dG an Y d∧Y.length=an.ai.ak.length∧mI an.aq d) (fun (k,AC,o,A0,Y,q,A2,u,A4,w,A6,y,A8,d,f)=>[(3,(vS CY ((cw an).length) Ci)),(4,(vI (cc an))),(5,(vP Ck)),(6,(vI 0)),(7,(vS Bi ((cw ji).length) B3)),(8,(vI (cc ji))),(9,(vS W ((dC an 0 2 (ab.mk 2590 2599)).length) Z)),(10,(vI (ej an 0 2 (ab.mk 2590 2599)))),(54,(vB true)),(55,(vA (bV.cells (bV.mk (cj.mk (bK.mk (ba.mk k an.ai.aO.length AC)) an.ai.gV (ba.mk o an.ai.ak.length A0) (ba.mk q an.ai.ag.length A2) an.ai.ct an.ai.er an.ai.dx) (ba.mk u an.aI.length A4) (ba.mk w an.bu.length A6) an.gf (ba.mk y an.aq.length A8))))),(56,(vS (some ⟨f,0,none⟩) 2 2))]) (fun (k,AC,o,A0,Y,q,A2,u,A4,w,A6,y,A8,d,f)=>[(bJ f 3 [(vI 2),(vI 3)]),(own k AC 114 9 (an.ai.aO.map ao.cells)),(own o A0 119 2 (List.zipWith aA.cells an.ai.ak Y)),(bf (aR aA.owns an.ai.ak Y)),(own q A2 121 4 (an.ai.ag.map bG.cells)),(own u A4 3 1 (an.aI.map iC)),(own w A6 3 1 (an.bu.map iC)),(own y A8 46 1 (List.zipWith cm an.aq d)),(bf (aR gG an.aq d)),(bJ e 3 [(vI 1),(vI 2)]),(own W Z 3 1 ((dC an 0 2 (ab.mk 2590 2599)).map iC)),(own Bi B3 32 1 (List.zipWith j5 (cw ji) b)),(bf (aR oQ (cw ji) b)),(bJ Ck 35 (bV.cells (bV.mk (cj.mk (bK.mk (ba.mk G an.ai.aO.length N)) an.ai.gV (ba.mk H an.ai.ak.length O) (ba.mk AB an.ai.ag.length P) an.ai.ct an.ai.er an.ai.dx) (ba.mk J an.aI.length R) (ba.mk K an.bu.length S) an.gf (ba.mk L ((e_ an.aq 0 2 (ab.mk 2590 2599)).length) T)))),(own G N 114 9 (an.ai.aO.map ao.cells)),(own H O 119 2 (List.zipWith aA.cells an.ai.ak M)),(bf (aR aA.owns an.ai.ak M)),(own AB P 121 4 (an.ai.ag.map bG.cells)),(own J R 3 1 (an.aI.map iC)),(own K S 3 1 (an.bu.map iC)),(own L T 46 1 (List.zipWith cm (e_ an.aq 0 2 (ab.mk 2590 2599)) AA)),(bf (aR gG (e_ an.aq 0 2 (ab.mk 2590 2599)) AA)),(own CY Ci 32 1 (List.zipWith j5 (cw an) a)),(bf (aR oQ (cw an) a)),(bJ Di 40 (ab.cells (fz an 0 0))),(rd dH 3 2 c4).ro]) 55 [19,20,21,22,23,24,25,26,27,28,29,30,31,32,33,34,35,36,37,38,39,40,41,42,43,44,45,46,47,48,49,50,51,52,53,54,55,56,57,58,59,60,61,62,63,64,65,66,67,68,69,70,71,72,73] (fun hJ=>?_) ?_
 ·refine eN [17,18] kr (b_ ?_<|b_ ?_<|fQ)
  rotate_left 1
  ·refine cN U U U fun T220 Oi=>bH (t:=54) U (aZ fun EB=>?_) (aY fun EB=>?_)
   ·exact absurd (⟨jV.1,jV.2.2⟩) EB
   refine ck (xs:=[.const (vI 2),.const (vI 3)]) (cs:=[(vI 2),(vI 3)]) U b0 gI U U U U (by simp [Value.cells]) U U fun Qc=>RD Oi 2 U<|N1 17<|cN U U U fun T222 Oj=>cX ee (aC) U fun Rp P7=>?_
   obtain ⟨In,NB,J2,Ne,Lw,J7,OD,Ke,OI,K8,ON,LR,OS,QC⟩:=Rp
   try dsimp only
   obtain ⟨A,F,B⟩:=P7
   refine RD Oj 10 U ?_
   exact eE hJ (In,NB,J2,Ne,Lw,J7,OD,Ke,OI,K8,ON,LR,OS,QC,Qc) ⟨A,F,B⟩ [8,0,1,2,3,4,5,6,7,9,10,11,12,13,14,15,16,17,18,19,20,21,22,23,24,25] U U U
  refine cN U U U fun T201 Og=>bH (t:=54) U (aZ fun EB=>?_) (aY fun EB=>?_)
  ·exact absurd (⟨jV.1,jV.2.2⟩) EB
  refine cX ee (aC) U fun Ro P6=>?_
  obtain ⟨If,M2,Jn,NU,Lo,J6,OC,Kd,OH,K5,OM,LQ,OR,QB⟩:=Ro
  try dsimp only
  obtain ⟨A,F,B⟩:=P6
  refine RD Og 9 U<|N1 18<|cN U U U fun T218 Oh=>ck (xs:=[.const (vI 2),.const (vI 3)]) (cs:=[(vI 2),(vI 3)]) U b0 gI U U U U (by simp [Value.cells]) U U fun Qb=>RD Oh 10 U ?_
  exact eE hJ (If,M2,Jn,NU,Lo,J6,OC,Kd,OH,K5,OM,LQ,OR,QB,Qb) ⟨A,F,B⟩ [0,1,2,3,4,5,6,7,8,9,10,11,12,13,14,15,16,17,18,19,20,21,22,23,24,25] U U U
 rintro ⟨k,AC,o,A0,Y,q,A2,u,A4,w,A6,y,A8,d,f⟩ ⟨A,F,B⟩
 try dsimp only
 refine fk U fun T239 Ok=>rS (CL (qu 2 ([2,3]) (some ⟨f,0,none⟩) 2 an k AC Y o A0 q A2 u A4 w A6 d y A8 (by exact A) dc) (ae (aP 0 U U (by simp [aW]) U)<|cY 25 U U<|ae (aa (n:=an.ai.aO.length) 1 U sm)<|ae (aa (n:=an.ai.ak.length) 2 U (c_ F))<|ae (bS 3 U dg)<|ae (aa (n:=an.ai.ag.length) 4 U sm)<|ae (aa (n:=an.aI.length) 5 U sm)<|ae (aa (n:=an.bu.length) 6 U sm)<|ae (aa (n:=an.aq.length) 7 U (bW B.1))<|ae (cD 8 U B)<|aC) U)<|RD Ok 10 U<|fk U fun T240 Ol=>iT [0,9,10,11,12,13,14,15,16,17,18,19,20,21,22,23,24,25] U U<|rS (PK U)<|RD Ol 2 U<|fk U fun T241 Om=>rS (MV U)<|RD Om 2 U<|fk U fun T242 On=>bH (t:=59) U (aZ fun RO=>?_) (aY fun RO=>?_)
 ·exact absurd (⟨pA.1,pA.2.2⟩) RO
 refine rS (CL (sr 1 2 2 0) (bj [17]) U)<|RD On 2 U<|fk U fun T243 Oo=>rS (PK U)<|RD Oo 2 U<|fk U fun T244 Op=>rS (MV U)<|RD Op 2 U<|fk U fun T245 Oq=>bH (t:=62) U (aZ fun RP=>?_) (aY fun RP=>?_)
 ·exact absurd (⟨⟨⟨uK.1,uK.2.1⟩,uK.1⟩,uK.2.2⟩) RP
 refine rS (CL (sr 0 1 0 1) (bj [17]) U)<|RD Oq 2 U<|fk U fun T246 Or=>rS (PK U)<|RD Or 2 U<|fk U fun T247 Os=>rS (MV U)<|RD Os 2 U<|fk U fun T248 Ot=>bH (t:=65) U (aZ fun RQ=>?_) (aY fun RQ=>?_)
 ·exact absurd (⟨⟨⟨vf.1,vf.2.1⟩,vf.1⟩,vf.2.2⟩) RQ
 refine rS (MV U)<|RD Ot 2 U<|fk U fun T249 Ou=>rS (BI U oy)<|RD Ou 2 U<|fk U fun T250 Ov=>rS (PK U)<|RD Ov 2 U<|fk U fun T251 Ow=>rS (MV U)<|RD Ow 2 U ?_
 refine p9 (V:=Nat×Nat) (fun (C,g)=>True) (fun (C,g)=>[(5,(vP Ck)),(6,(vI 0)),(7,(vS Bi ((cw ji).length) B3)),(8,(vI (cc ji))),(9,(vS W ((dC an 0 2 (ab.mk 2590 2599)).length) Z)),(10,(vI (ej an 0 2 (ab.mk 2590 2599)))),(69,(vB true)),(70,(vS CY ((cw an).length) Ci)),(71,(vS (some ⟨C,0,none⟩) 3 3)),(72,(vS (some ⟨g,0,none⟩) 1 1))]) (fun (C,g)=>[(bJ g 32 [(vS (some ⟨C,0,none⟩) 3 3)]),(bJ C 3 [(vI 0),(vI 1),(vI 2)]),(bJ f 3 [(vI 2),(vI 3)]),(bJ e 3 [(vI 1),(vI 2)]),(own W Z 3 1 ((dC an 0 2 (ab.mk 2590 2599)).map iC)),(own Bi B3 32 1 (List.zipWith j5 (cw ji) b)),(bf (aR oQ (cw ji) b)),(bJ Ck 35 (bV.cells (bV.mk (cj.mk (bK.mk (ba.mk G an.ai.aO.length N)) an.ai.gV (ba.mk H an.ai.ak.length O) (ba.mk AB an.ai.ag.length P) an.ai.ct an.ai.er an.ai.dx) (ba.mk J an.aI.length R) (ba.mk K an.bu.length S) an.gf (ba.mk L ((e_ an.aq 0 2 (ab.mk 2590 2599)).length) T)))),(own G N 114 9 (an.ai.aO.map ao.cells)),(own H O 119 2 (List.zipWith aA.cells an.ai.ak M)),(bf (aR aA.owns an.ai.ak M)),(own AB P 121 4 (an.ai.ag.map bG.cells)),(own J R 3 1 (an.aI.map iC)),(own K S 3 1 (an.bu.map iC)),(own L T 46 1 (List.zipWith cm (e_ an.aq 0 2 (ab.mk 2590 2599)) AA)),(bf (aR gG (e_ an.aq 0 2 (ab.mk 2590 2599)) AA)),(own CY Ci 32 1 (List.zipWith j5 (cw an) a)),(bf (aR oQ (cw an) a)),(bJ Di 40 (ab.cells (fz an 0 0))),(rd dH 3 2 c4).ro]) 39 [35,36,37,38,39,40,41,42,43,44,45,46,47,48,49,50,51,52,53,54,55,56,57,58,59,60,61,62,63,64,65,66,67,68,69,70,71,72,73] (fun hJ=>?_) ?_
 ·refine eN [32,33] kr (b_ ?_<|b_ ?_<|fQ)
  ·refine cN U U U fun T254 Ox=>bH (t:=69) U (aZ fun EQ=>?_) (aY fun EQ=>?_)
   ·exact absurd (jl) EQ
   refine rS (MV U)<|RD Ox 2 U<|N1 33<|cN U U U fun T255 Oy=>ck (xs:=[.const (vI 0),.const (vI 1),.const (vI 2)]) (cs:=[(vI 0),(vI 1),(vI 2)]) U b0 gI U U U U (by simp [Value.cells]) U U fun FS=>RD Oy 3 U<|N1 34<|cN U U U fun T257 Oz=>ck (xs:=[.tmp 71]) (cs:=[(vS (some ⟨FS,0,none⟩) 3 3)]) U lU pU U U U U (by simp [Value.cells]) U U fun Qd=>RD Oz 4 U ?_
   exact eE hJ (FS,Qd) trivial [0,1,2,3,4,5,6,7,8,9,10,11,12,13,14,15,16,17,18,19] U U U
  refine cN U U U fun T259 O0=>bH (t:=69) U (aZ fun EQ=>?_) (aY fun EQ=>?_)
  ·exact absurd (jl) EQ
  refine ck (xs:=[.const (vI 0),.const (vI 1),.const (vI 2)]) (cs:=[(vI 0),(vI 1),(vI 2)]) U b0 gI U U U U (by simp [Value.cells]) U U fun Cx=>RD O0 3 U<|eN [32,34] kr (b_ ?_<|b_ ?_<|fQ)
  rotate_left 1
  ·refine cN U U U fun T264 O3=>ck (xs:=[.tmp 71]) (cs:=[(vS (some ⟨Cx,0,none⟩) 3 3)]) U lU pU U U U U (by simp [Value.cells]) U U fun Qf=>RD O3 4 U<|N1 32<|cN U U U fun T266 O4=>rS (MV U)<|RD O4 4 U ?_
   exact eE hJ (Cx,Qf) trivial [0,1,2,3,4,5,6,7,8,9,10,11,12,13,14,15,16,17,18,19] U U U
  refine cN U U U fun T261 O1=>rS (MV U)<|RD O1 3 U<|N1 34<|cN U U U fun T262 O2=>ck (xs:=[.tmp 71]) (cs:=[(vS (some ⟨Cx,0,none⟩) 3 3)]) U lU pU U U U U (by simp [Value.cells]) U U fun Qe=>RD O2 4 U ?_
  exact eE hJ (Cx,Qe) trivial [0,1,2,3,4,5,6,7,8,9,10,11,12,13,14,15,16,17,18,19] U U U
 rintro ⟨C,g⟩-
 try dsimp only
 refine fk U fun T267 O5=>?_
 refine cQ (es:=(([0,1,2]:List Int).map iC)) (C':=[_,(own (some ⟨C,0,none⟩) 3 3 1 (([0,1,2]:List Int).map iC)),_,_,_,_,_,_,_,_,_,_,_,_,_,_,_,_,_,_]) 1 U (jo aW _) U (by show _≤maxLen; exact Nat.le_trans (m:=10) (show (3:Nat)≤10 by decide) dc) U ?_
 refine cQ (es:=(List.zipWith j5 [([0,1,2]:List Int)] [((some ⟨C,0,none⟩),3)])) (C':=[(own (some ⟨g,0,none⟩) 1 32 1 (List.zipWith j5 [([0,1,2]:List Int)] [((some ⟨C,0,none⟩),3)])),_,_,_,_,_,_,_,_,_,_,_,_,_,_,_,_,_,_,_]) 0 U (kE zq) U (by show _≤maxLen; exact Nat.le_trans (m:=10) (show (1:Nat)≤10 by decide) dc) U ?_
 refine n_ (aR oQ [([0,1,2]:List Int)] [((some ⟨C,0,none⟩),3)]) [1] [0,2,3,4,5,6,7,8,9,10,11,12,13,14,15,16,17,18,19] U U<|rS (CL (nP (cw an) ([([0,1,2]:List Int)]) a CY Ci ([((some ⟨C,0,none⟩),3)]) (some ⟨g,0,none⟩) 1 (by first|exact E9.1|exact C2.1) dc (by first|exact E9.2|exact C2.2) dc (by exact Hl) (by rfl)) (ae (aa (n:=(cw an).length) 16 U (iL Hl))<|ae (bS 17 U um)<|ae (aa (n:=([([0,1,2]:List Int)]).length) 1 U sm)<|ae (bS 0 U um)<|aC) U)<|RD O5 4 U<|fk U fun T268 O6=>rS (PK U)<|RD O6 4 U<|fk U fun T269 O7=>rS (MV U)<|RD O7 4 U<|fk U fun T270 O8=>bH (t:=75) U (aZ fun RR=>?_) (aY fun RR=>?_)
 ·exact absurd (H3) RR
 refine rS (MV U)<|RD O8 4 U<|fk U fun T271 O9=>rS (SX (bw (r:= .bool true) U U U oy) U U)<|RD O9 4 U<|fk U fun T272 O_=>rS (PK U)<|RD O_ 4 U<|fk U fun T273 PA=>rS (MV U)<|RD PA 4 U<|fk U fun T274 PB=>rS (LW 7 U cz U U)<|RD PB 4 U<|fk U fun T275 PC=>?_
 refine rS (CL (n9 2 516 516 ji G N M H O AB P J R K S AA L T (by exact IE)) (cY 19 U U<|ae (aa (n:=an.ai.aO.length) 8 U (by rw [List.length_map]; rfl))<|ae (aa (n:=an.ai.ak.length) 9 U (c_ Eq))<|ae (bS 10 U dg)<|ae (aa (n:=an.ai.ag.length) 11 U (by rw [List.length_map]; rfl))<|ae (aa (n:=an.aI.length) 12 U (by rw [List.length_map]; rfl))<|ae (aa (n:=an.bu.length) 13 U (by rw [List.length_map]; rfl))<|ae (aa (n:=(e_ an.aq 0 2 (ab.mk 2590 2599)).length) 14 U (bW C5.1))<|ae (cD 15 U C5)<|aC) U) ?_
 refine RD PC 4 U<|fk U fun T276 PD=>rS (PK U)<|RD PD 4 U<|fk U fun T277 PE=>rS (MV U)<|RD PE 4 U<|fk U fun T278 PF=>bH (t:=83) U (aZ fun RS=>?_) (aY fun RS=>?_)
 ·exact absurd (FD) RS
 refine rS (MV U)<|RD PF 4 U<|fk U fun T279 PG=>rS (BI U oy)<|RD PG 4 U<|fk U fun T280 PH=>rS (PK U)<|RD PH 4 U<|fk U fun T281 PI=>rS (MV U)<|RD PI 4 U ?_
 refine p9 (V:=Nat×Nat×Nat) (fun (D,E,A9)=>True) (fun (D,E,A9)=>[(9,(vS W ((dC an 0 2 (ab.mk 2590 2599)).length) Z)),(10,(vI (ej an 0 2 (ab.mk 2590 2599)))),(71,(vS (some ⟨C,0,none⟩) 3 3)),(87,(vB true)),(88,(vS Bi ((cw ji).length) B3)),(89,(vS (some ⟨D,0,none⟩) 2 2)),(90,(vS (some ⟨E,0,none⟩) 1 1)),(91,(vS (some ⟨A9,0,none⟩) 2 2))]) (fun (D,E,A9)=>[(bJ A9 32 [(vS (some ⟨D,0,none⟩) 2 2),(vS (some ⟨E,0,none⟩) 1 1)]),(bJ E 3 [(vI 2)]),(bJ D 3 [(vI 0),(vI 1)]),(bf (aR oQ [([0,1,2]:List Int)] [((some ⟨C,0,none⟩),3)])),(own (some ⟨g,0,none⟩) 1 32 1 (List.zipWith j5 [([0,1,2]:List Int)] [((some ⟨C,0,none⟩),3)])),(bJ f 3 [(vI 2),(vI 3)]),(bJ e 3 [(vI 1),(vI 2)]),(own W Z 3 1 ((dC an 0 2 (ab.mk 2590 2599)).map iC)),(own Bi B3 32 1 (List.zipWith j5 (cw ji) b)),(bf (aR oQ (cw ji) b)),(bJ Ck 35 (bV.cells (bV.mk (cj.mk (bK.mk (ba.mk G an.ai.aO.length N)) an.ai.gV (ba.mk H an.ai.ak.length O) (ba.mk AB an.ai.ag.length P) an.ai.ct an.ai.er an.ai.dx) (ba.mk J an.aI.length R) (ba.mk K an.bu.length S) an.gf (ba.mk L ((e_ an.aq 0 2 (ab.mk 2590 2599)).length) T)))),(own G N 114 9 (an.ai.aO.map ao.cells)),(own H O 119 2 (List.zipWith aA.cells an.ai.ak M)),(bf (aR aA.owns an.ai.ak M)),(own AB P 121 4 (an.ai.ag.map bG.cells)),(own J R 3 1 (an.aI.map iC)),(own K S 3 1 (an.bu.map iC)),(own L T 46 1 (List.zipWith cm (e_ an.aq 0 2 (ab.mk 2590 2599)) AA)),(bf (aR gG (e_ an.aq 0 2 (ab.mk 2590 2599)) AA)),(own CY Ci 32 1 (List.zipWith j5 (cw an) a)),(bf (aR oQ (cw an) a)),(bJ Di 40 (ab.cells (fz an 0 0))),(rd dH 3 2 c4).ro]) 20 [54,55,56,57,58,59,60,61,62,63,64,65,66,67,68,69,70,71,72,73] (fun hJ=>?_) ?_
 ·refine eN [50,51,52] kr (b_ ?_<|b_ ?_<|b_ ?_<|fQ)
  ·refine cN U U U fun T285 PJ=>bH (t:=87) U (aZ fun Cp=>?_) (aY fun Cp=>?_)
   ·exact absurd (rM) Cp
   refine rS (MV U)<|RD PJ 4 U<|eN [51,52] kr (b_ ?_<|b_ ?_<|fQ)
   rotate_left 1
   ·refine cN U U U fun T292 PO=>ck (xs:=[.const (vI 2)]) (cs:=[(vI 2)]) U b0 gI U U U U (by simp [Value.cells]) U U fun Fj=>RD PO 5 U<|N1 51<|cN U U U fun T294 PP=>ck (xs:=[.const (vI 0),.const (vI 1)]) (cs:=[(vI 0),(vI 1)]) U b0 gI U U U U (by simp [Value.cells]) U U fun Fn=>RD PP 6 U<|N1 53<|cN U U U fun T296 PQ=>ck (xs:=[.tmp 89,.tmp 90]) (cs:=[(vS (some ⟨Fn,0,none⟩) 2 2),(vS (some ⟨Fj,0,none⟩) 1 1)]) U lU pU U U U U (by simp [Value.cells]) U U fun Qh=>RD PQ 7 U ?_
    exact eE hJ (Fn,Fj,Qh) trivial [0,2,1,3,4,5,6,7,8,9,10,11,12,13,14,15,16,17,18,19,20,21,22] U U U
   refine cN U U U fun T286 PL=>ck (xs:=[.const (vI 0),.const (vI 1)]) (cs:=[(vI 0),(vI 1)]) U b0 gI U U U U (by simp [Value.cells]) U U fun FZ=>RD PL 5 U<|N1 52<|cN U U U fun T288 PM=>ck (xs:=[.const (vI 2)]) (cs:=[(vI 2)]) U b0 gI U U U U (by simp [Value.cells]) U U fun Fd=>RD PM 6 U<|N1 53<|cN U U U fun T290 PN=>ck (xs:=[.tmp 89,.tmp 90]) (cs:=[(vS (some ⟨FZ,0,none⟩) 2 2),(vS (some ⟨Fd,0,none⟩) 1 1)]) U lU pU U U U U (by simp [Value.cells]) U U fun Qg=>RD PN 7 U ?_
   exact eE hJ (FZ,Fd,Qg) trivial [0,1,2,3,4,5,6,7,8,9,10,11,12,13,14,15,16,17,18,19,20,21,22] U U U
  ·refine cN U U U fun T298 PR=>bH (t:=87) U (aZ fun Cp=>?_) (aY fun Cp=>?_)
   ·exact absurd (rM) Cp
   refine ck (xs:=[.const (vI 0),.const (vI 1)]) (cs:=[(vI 0),(vI 1)]) U b0 gI U U U U (by simp [Value.cells]) U U fun B7=>RD PR 5 U<|eN [50,52] kr (b_ ?_<|b_ ?_<|fQ)
   ·refine cN U U U fun T300 PS=>rS (MV U)<|RD PS 5 U<|N1 52<|cN U U U fun T301 PT=>ck (xs:=[.const (vI 2)]) (cs:=[(vI 2)]) U b0 gI U U U U (by simp [Value.cells]) U U fun GE=>RD PT 6 U<|N1 53<|cN U U U fun T303 PU=>ck (xs:=[.tmp 89,.tmp 90]) (cs:=[(vS (some ⟨B7,0,none⟩) 2 2),(vS (some ⟨GE,0,none⟩) 1 1)]) U lU pU U U U U (by simp [Value.cells]) U U fun Qi=>RD PU 7 U ?_
    exact eE hJ (B7,GE,Qi) trivial [0,1,2,3,4,5,6,7,8,9,10,11,12,13,14,15,16,17,18,19,20,21,22] U U U
   refine cN U U U fun T305 PV=>ck (xs:=[.const (vI 2)]) (cs:=[(vI 2)]) U b0 gI U U U U (by simp [Value.cells]) U U fun C0=>RD PV 6 U<|eN [50,53] kr (b_ ?_<|b_ ?_<|fQ)
   rotate_left 1
   ·refine cN U U U fun T310 PY=>ck (xs:=[.tmp 89,.tmp 90]) (cs:=[(vS (some ⟨B7,0,none⟩) 2 2),(vS (some ⟨C0,0,none⟩) 1 1)]) U lU pU U U U U (by simp [Value.cells]) U U fun Qk=>RD PY 7 U<|N1 50<|cN U U U fun T312 PZ=>rS (MV U)<|RD PZ 7 U ?_
    exact eE hJ (B7,C0,Qk) trivial [0,1,2,3,4,5,6,7,8,9,10,11,12,13,14,15,16,17,18,19,20,21,22] U U U
   refine cN U U U fun T307 PW=>rS (MV U)<|RD PW 6 U<|N1 53<|cN U U U fun T308 PX=>ck (xs:=[.tmp 89,.tmp 90]) (cs:=[(vS (some ⟨B7,0,none⟩) 2 2),(vS (some ⟨C0,0,none⟩) 1 1)]) U lU pU U U U U (by simp [Value.cells]) U U fun Qj=>RD PX 7 U ?_
   exact eE hJ (B7,C0,Qj) trivial [0,1,2,3,4,5,6,7,8,9,10,11,12,13,14,15,16,17,18,19,20,21,22] U U U
  refine cN U U U fun T313 Pa=>bH (t:=87) U (aZ fun Cp=>?_) (aY fun Cp=>?_)
  ·exact absurd (rM) Cp
  refine ck (xs:=[.const (vI 2)]) (cs:=[(vI 2)]) U b0 gI U U U U (by simp [Value.cells]) U U fun B9=>RD Pa 5 U<|eN [50,51] kr (b_ ?_<|b_ ?_<|fQ)
  ·refine cN U U U fun T315 Pb=>rS (MV U)<|RD Pb 5 U<|N1 51<|cN U U U fun T316 Pc=>ck (xs:=[.const (vI 0),.const (vI 1)]) (cs:=[(vI 0),(vI 1)]) U b0 gI U U U U (by simp [Value.cells]) U U fun GT=>RD Pc 6 U<|N1 53<|cN U U U fun T318 Pd=>ck (xs:=[.tmp 89,.tmp 90]) (cs:=[(vS (some ⟨GT,0,none⟩) 2 2),(vS (some ⟨B9,0,none⟩) 1 1)]) U lU pU U U U U (by simp [Value.cells]) U U fun Ql=>RD Pd 7 U ?_
   exact eE hJ (GT,B9,Ql) trivial [0,2,1,3,4,5,6,7,8,9,10,11,12,13,14,15,16,17,18,19,20,21,22] U U U
  refine cN U U U fun T320 Pe=>ck (xs:=[.const (vI 0),.const (vI 1)]) (cs:=[(vI 0),(vI 1)]) U b0 gI U U U U (by simp [Value.cells]) U U fun C1=>RD Pe 6 U<|eN [50,53] kr (b_ ?_<|b_ ?_<|fQ)
  rotate_left 1
  ·refine cN U U U fun T325 Ph=>ck (xs:=[.tmp 89,.tmp 90]) (cs:=[(vS (some ⟨C1,0,none⟩) 2 2),(vS (some ⟨B9,0,none⟩) 1 1)]) U lU pU U U U U (by simp [Value.cells]) U U fun Qn=>RD Ph 7 U<|N1 50<|cN U U U fun T327 Pi=>rS (MV U)<|RD Pi 7 U ?_
   exact eE hJ (C1,B9,Qn) trivial [0,2,1,3,4,5,6,7,8,9,10,11,12,13,14,15,16,17,18,19,20,21,22] U U U
  refine cN U U U fun T322 Pf=>rS (MV U)<|RD Pf 6 U<|N1 53<|cN U U U fun T323 Pg=>ck (xs:=[.tmp 89,.tmp 90]) (cs:=[(vS (some ⟨C1,0,none⟩) 2 2),(vS (some ⟨B9,0,none⟩) 1 1)]) U lU pU U U U U (by simp [Value.cells]) U U fun Qm=>RD Pg 7 U ?_
  exact eE hJ (C1,B9,Qm) trivial [0,2,1,3,4,5,6,7,8,9,10,11,12,13,14,15,16,17,18,19,20,21,22] U U U
 rintro ⟨D,E,A9⟩-
 try dsimp only
 refine fk U fun T328 Pj=>?_
 refine cQ (es:=(([0,1]:List Int).map iC)) (C':=[_,_,(own (some ⟨D,0,none⟩) 2 3 1 (([0,1]:List Int).map iC)),_,_,_,_,_,_,_,_,_,_,_,_,_,_,_,_,_,_,_,_]) 2 U (jo aW _) U (by show _≤maxLen; exact Nat.le_trans (m:=10) (show (2:Nat)≤10 by decide) dc) U ?_
 refine cQ (es:=(([2]:List Int).map iC)) (C':=[_,(own (some ⟨E,0,none⟩) 1 3 1 (([2]:List Int).map iC)),_,_,_,_,_,_,_,_,_,_,_,_,_,_,_,_,_,_,_,_,_]) 1 U (jo aW _) U (by show _≤maxLen; exact Nat.le_trans (m:=10) (show (1:Nat)≤10 by decide) dc) U ?_
 refine cQ (es:=(List.zipWith j5 [([0,1]:List Int),([2]:List Int)] [((some ⟨D,0,none⟩),2),((some ⟨E,0,none⟩),1)])) (C':=[(own (some ⟨A9,0,none⟩) 2 32 1 (List.zipWith j5 [([0,1]:List Int),([2]:List Int)] [((some ⟨D,0,none⟩),2),((some ⟨E,0,none⟩),1)])),_,_,_,_,_,_,_,_,_,_,_,_,_,_,_,_,_,_,_,_,_,_]) 0 U (kE zq) U (by show _≤maxLen; exact Nat.le_trans (m:=10) (show (2:Nat)≤10 by decide) dc) U ?_
 refine n_ (aR oQ [([0,1]:List Int),([2]:List Int)] [((some ⟨D,0,none⟩),2),((some ⟨E,0,none⟩),1)]) [2,1] [0,3,4,5,6,7,8,9,10,11,12,13,14,15,16,17,18,19,20,21,22] U U<|rS (CL (nP (cw ji) ([([0,1]:List Int),([2]:List Int)]) b Bi B3 ([((some ⟨D,0,none⟩),2),((some ⟨E,0,none⟩),1)]) (some ⟨A9,0,none⟩) 2 (by first|exact E9.1|exact C2.1) dc (by first|exact E9.2|exact C2.2) dc (by exact H1) (by rfl)) (ae (aa (n:=(cw ji).length) 7 U (iL H1))<|ae (bS 8 U um)<|ae (aa (n:=([([0,1]:List Int),([2]:List Int)]).length) 1 U sm)<|ae (bS 0 U um)<|aC) U)<|RD Pj 6 U<|fk U fun T329 Pk=>rS (PK U)<|RD Pk 6 U<|fk U fun T330 Pl=>rS (MV U)<|RD Pl 6 U<|fk U fun T331 Pm=>bH (t:=94) U (aZ fun RT=>?_) (aY fun RT=>?_)
 ·exact absurd (D7) RT
 refine rS (MV U)<|RD Pm 6 U<|fk U fun T332 Pn=>rS (BI U oy)<|RD Pn 6 U<|fk U fun T333 Po=>rS (PK U)<|RD Po 6 U<|fk U fun T334 Pp=>rS (MV U)<|RD Pp 6 U ?_
 refine p9 (V:=Nat) (fun CP=>True) (fun CP=>[(71,(vS (some ⟨C,0,none⟩) 3 3)),(89,(vS (some ⟨D,0,none⟩) 2 2)),(90,(vS (some ⟨E,0,none⟩) 1 1)),(98,(vB true)),(99,(vS W ((dC an 0 2 (ab.mk 2590 2599)).length) Z)),(100,(vS (some ⟨CP,0,none⟩) 1 1))]) (fun CP=>[(bJ CP 3 [(vI 2)]),(bf (aR oQ [([0,1]:List Int),([2]:List Int)] [((some ⟨D,0,none⟩),2),((some ⟨E,0,none⟩),1)])),(own (some ⟨A9,0,none⟩) 2 32 1 (List.zipWith j5 [([0,1]:List Int),([2]:List Int)] [((some ⟨D,0,none⟩),2),((some ⟨E,0,none⟩),1)])),(bf (aR oQ [([0,1,2]:List Int)] [((some ⟨C,0,none⟩),3)])),(own (some ⟨g,0,none⟩) 1 32 1 (List.zipWith j5 [([0,1,2]:List Int)] [((some ⟨C,0,none⟩),3)])),(bJ f 3 [(vI 2),(vI 3)]),(bJ e 3 [(vI 1),(vI 2)]),(own W Z 3 1 ((dC an 0 2 (ab.mk 2590 2599)).map iC)),(own Bi B3 32 1 (List.zipWith j5 (cw ji) b)),(bf (aR oQ (cw ji) b)),(bJ Ck 35 (bV.cells (bV.mk (cj.mk (bK.mk (ba.mk G an.ai.aO.length N)) an.ai.gV (ba.mk H an.ai.ak.length O) (ba.mk AB an.ai.ag.length P) an.ai.ct an.ai.er an.ai.dx) (ba.mk J an.aI.length R) (ba.mk K an.bu.length S) an.gf (ba.mk L ((e_ an.aq 0 2 (ab.mk 2590 2599)).length) T)))),(own G N 114 9 (an.ai.aO.map ao.cells)),(own H O 119 2 (List.zipWith aA.cells an.ai.ak M)),(bf (aR aA.owns an.ai.ak M)),(own AB P 121 4 (an.ai.ag.map bG.cells)),(own J R 3 1 (an.aI.map iC)),(own K S 3 1 (an.bu.map iC)),(own L T 46 1 (List.zipWith cm (e_ an.aq 0 2 (ab.mk 2590 2599)) AA)),(bf (aR gG (e_ an.aq 0 2 (ab.mk 2590 2599)) AA)),(own CY Ci 32 1 (List.zipWith j5 (cw an) a)),(bf (aR oQ (cw an) a)),(bJ Di 40 (ab.cells (fz an 0 0))),(rd dH 3 2 c4).ro]) 11 [63,64,65,66,67,68,69,70,71,72,73] (fun hJ=>?_) ?_
 ·refine eN [61,62] kr (b_ ?_<|b_ ?_<|fQ)
  rotate_left 1
  ·refine cN U U U fun T339 Ps=>bH (t:=98) U (aZ fun Ej=>?_) (aY fun Ej=>?_)
   ·exact absurd (v9) Ej
   refine ck (xs:=[.const (vI 2)]) (cs:=[(vI 2)]) U b0 gI U U U U (by simp [Value.cells]) U U fun Qp=>RD Ps 7 U<|N1 61<|cN U U U fun T341 Pt=>rS (MV U)<|RD Pt 7 U ?_
   exact eE hJ Qp trivial [0,1,2,3,4,5,6,7,8,9,10,11,12,13,14,15,16,17,18,19,20,21,22] U U U
  refine cN U U U fun T336 Pq=>bH (t:=98) U (aZ fun Ej=>?_) (aY fun Ej=>?_)
  ·exact absurd (v9) Ej
  refine rS (MV U)<|RD Pq 6 U<|N1 62<|cN U U U fun T337 Pr=>ck (xs:=[.const (vI 2)]) (cs:=[(vI 2)]) U b0 gI U U U U (by simp [Value.cells]) U U fun Qo=>RD Pr 7 U ?_
  exact eE hJ Qo trivial [0,1,2,3,4,5,6,7,8,9,10,11,12,13,14,15,16,17,18,19,20,21,22] U U U
 rintro CP-
 try dsimp only
 refine fk U fun T342 Pu=>rS (CL (lk (dC an 0 2 (ab.mk 2590 2599)) W Z ([2]) (some ⟨CP,0,none⟩) 1 om dc) (ae (aa (n:=(dC an 0 2 (ab.mk 2590 2599)).length) 7 U sm)<|ae (aP 0 U U (by simp [aW]) U)<|aC) U)<|RD Pu 7 U<|fk U fun T343 Pv=>rS (PK U)<|RD Pv 7 U<|fk U fun T344 Pw=>rS (MV U)<|RD Pw 7 U<|fk U fun T345 Px=>bH (t:=103) U (aZ fun Go=>?_) (aY fun Go=>?_)
 ·exact absurd (GJ) Go
 refine ck (xs:=[.const (vI 0),.const (vI 2),.const (vI 1)]) (cs:=[(vI 0),(vI 2),(vI 1)]) U b0 gI U U U U (by simp [Value.cells]) U U fun Qq=>RD Px 8 U<|fk U fun T347 Py=>rS (CL (p4 1 ([0,2,1]) (some ⟨Qq,0,none⟩) 3 dc) (cY 23 U U<|ae (aP 0 U U (by simp [aW]) U)<|aC) U)<|RD Py 8 U<|fk U fun T348 Pz=>rS (PK U)<|RD Pz 8 U<|fk U fun T349 P0=>rS (MV U)<|RD P0 8 U<|fk U fun T350 P1=>bH (t:=107) U (aZ fun Hi=>?_) (aY fun Hi=>?_)
 ·exact absurd (F2) Hi
 refine ck (xs:=[.const (vI 0),.const (vI 1),.const (vI 2)]) (cs:=[(vI 0),(vI 1),(vI 2)]) U b0 gI U U U U (by simp [Value.cells]) U U fun Qr=>RD P1 9 U<|Dz [109,110,0] kr kr U _ U U (aJ [9,10,11,12,13,14,15,16,17,18,19,20,21,22,23,24])<|dS (CL (p4 2 ([0,1,2]) (some ⟨Qr,0,none⟩) 3 dc) (cY 24 U U<|ae (aP 0 U U (by simp [aW]) U)<|aC) U)<|dP 2 [] I ?_
 refine dJ<|RK OT<|aB<|Q1 hQ U U U ?_
 exact cB (g6 C3)
end
section
open Go.RowKit
theorem sN:
 dQ Tryz.prog 3 [] [(rd dH 3 2 c4)] (vB true):=by
 have QI:=nA (r:=dq)
 have Rf:an.bu.length=3:=rfl
 have Rh:an.aq.length=2:=rfl
 have Rg:mB.length=3:=rfl
 refine bx N4 Tryz.func3 U U fun w0 Q hQ hN=>?_
 try dsimp only
 refine WS fun _ RC=>a_ 1 U<|RK RC<|al fun _ RE=>WS fun _ RF=>a_ 1 U<|rS (CL Ez (bj [0]) U)<|a_ 3 U<|ck (xs:=[.const (vI 2),.const (vI 0),.const (vI 1)]) (cs:=[(vI 2),(vI 0),(vI 1)]) U b0 gI U U U U (by simp [Value.cells]) U U fun b4=>rS (CL (p4 0 ([2,0,1]) (some ⟨b4,0,none⟩) 3 dc) (cY 1 U U<|ae (aP 0 U U (by simp [aW]) U)<|aC) U)<|rP 3 [] I ?_
 refine eH (t:=35) U (bL fun P9=>?_) (bM fun P9=>?_)
 ·exact absurd (De) P9
 refine cX ee (aC) U fun y5 RP=>?_
 obtain ⟨Qg,Qx,Qj,Pp,Ph,PL,Pt,PQ,Py,PU,P2,PX,P5,QO⟩:=y5
 try dsimp only
 obtain ⟨B,E,C⟩:=RP
 refine rS (CL (n9 1 514 514 an Qg Qx Ph Qj Pp PL Pt PQ Py PU P2 QO PX P5 (by exact B)) (cY 9 U U<|ae (aa (n:=an.ai.aO.length) 0 U sm)<|ae (aa (n:=an.ai.ak.length) 1 U (c_ E))<|ae (bS 2 U dg)<|ae (aa (n:=an.ai.ag.length) 3 U sm)<|ae (aa (n:=an.aI.length) 4 U sm)<|ae (aa (n:=an.bu.length) 5 U sm)<|ae (aa (n:=an.aq.length) 6 U (bW C.1))<|ae (cD 7 U C)<|aC) U)<|iT [8,9] U U<|rP 3 [] I ?_
 refine eH (t:=40) U (bL fun P_=>?_) (bM fun P_=>?_)
 ·exact absurd (⟨pf.1,pf.2.1⟩) P_
 refine cX ee (aC) U fun RS QJ=>?_
 obtain ⟨PE,Pm,PH,Pq,Pi,PN,Pv,PR,Pz,PV,P3,PY,P6,QP⟩:=RS
 try dsimp only
 obtain ⟨B,E,C⟩:=QJ
 refine rS (CL (n9 2 515 517 an PE Pm Pi PH Pq PN Pv PR Pz PV P3 QP PY P6 (by exact B)) (cY 9 U U<|ae (aa (n:=an.ai.aO.length) 0 U sm)<|ae (aa (n:=an.ai.ak.length) 1 U (c_ E))<|ae (bS 2 U dg)<|ae (aa (n:=an.ai.ag.length) 3 U sm)<|ae (aa (n:=an.aI.length) 4 U sm)<|ae (aa (n:=an.bu.length) 5 U sm)<|ae (aa (n:=an.aq.length) 6 U (bW C.1))<|ae (cD 7 U C)<|aC) U)<|iT [8,9] U U<|rP 3 [] I ?_
 refine eH (t:=45) U (bL fun QA=>?_) (bM fun QA=>?_)
 ·exact absurd (⟨pA.1,pA.2.1⟩) QA
 refine cX ee (aC) U fun RT QK=>?_
 obtain ⟨PF,Pn,PI,Pr,Pj,PO,Pw,PS,P0,PW,P4,PZ,P7,QQ⟩:=RT
 try dsimp only
 obtain ⟨B,E,C⟩:=QK
 refine ck (xs:=[.const (vI 1)]) (cs:=[(vI 1)]) U b0 gI U U U U (by simp [Value.cells]) U U fun Qs=>rS (CL (qu 1 ([1]) (some ⟨Qs,0,none⟩) 1 an PF Pn Pj PI Pr PO Pw PS P0 PW P4 QQ PZ P7 (by exact B) dc) (ae (aP 0 U U (by simp [aW]) U)<|cY 10 U U<|ae (aa (n:=an.ai.aO.length) 1 U sm)<|ae (aa (n:=an.ai.ak.length) 2 U (c_ E))<|ae (bS 3 U dg)<|ae (aa (n:=an.ai.ag.length) 4 U sm)<|ae (aa (n:=an.aI.length) 5 U sm)<|ae (aa (n:=an.bu.length) 6 U sm)<|ae (aa (n:=an.aq.length) 7 U (bW C.1))<|ae (cD 8 U C)<|aC) U)<|iT [0,9,10] U U<|rP 3 [] I ?_
 refine eH (t:=51) U (bL fun QB=>?_) (bM fun QB=>?_)
 ·exact absurd (⟨pf.1,pf.2.2⟩) QB
 refine rS (CL (sr 0 2 1 1) (bj [2]) U)<|rP 2 [] I ?_
 refine RK RF<|dF U (bL fun QC=>?_) (bM fun QC=>?_)
 ·exact absurd (show _ from ⟨⟨⟨uW.1,uW.2.1⟩,uW.1⟩,uW.2.2⟩) QC
 refine WK RE<|WS fun _ QD=>cX ee (aC) U fun RU QL=>?_
 obtain ⟨u,A2,v,A3,Pk,w,A4,x,A5,y,A6,AC,A8,QR⟩:=RU
 try dsimp only
 obtain ⟨B,E,C⟩:=QL
 have O0:=B
 have QE:=E
 have C2:=C
 refine cX ee (aC) U fun RV QM=>?_
 obtain ⟨PG,Po,PJ,Ps,Pl,PP,Px,PT,P1,z,A7,Pa,P8,QS⟩:=RV
 try dsimp only
 obtain ⟨B,E,C⟩:=QM
 have O1:=B
 have QF:=E
 have C5:=C
 refine cX ee (aC) U fun RW QN=>?_
 obtain ⟨AB,O,J,P,N,K,R,L,S,M,T,F,G,D⟩:=RW
 try dsimp only
 obtain ⟨B,E,C⟩:=QN
 have O2:=B
 have X:=E
 have Y:=C
 refine AL U mX fun RZ=>AL U mX fun Ra=>AL U mX fun AO=>Io U iS U<|vU U iS U<|fw U iS U<|RK QD<|WS fun _ Lo=>a_ 2 U<|NZ (bV.cells (bV.mk (cj.mk (bK.mk (ba.mk u an.ai.aO.length A2)) 0 (ba.mk v an.ai.ak.length A3) (ba.mk w an.ai.ag.length A4) an.ai.ct an.ai.er an.ai.dx) (ba.mk x an.aI.length A5) (ba.mk y an.bu.length A6) an.gf (ba.mk AC an.aq.length A8))) U xg U U<|RK Lo<|WS fun _ Lw=>rP 2 [] (mc 1 U I) ?_
 obtain ⟨Ri,O3⟩:=aQ an.bu 0 om
 have hx109m:=cG iC O3
 refine rS (IA 0 U (aa (n:=an.bu.length) 16 U sm) b0 dc U om)<|dk (k:=0) (o:=0) (vs:=[(vI 1)]) (es':=(List.map iC (an.bu.set 0 1))) (C':=[_,_,_,_,_,_,_,_,_,_,_,_,_,_,_,_,(own z A7 3 1 (List.map iC (an.bu.set 0 1))),_,_,_,_,_,_,_,_,_,_,_,_,_]) 16 U U U xg U U U U hx109m U dc (by exact (List.map_set (f:=iC) (l:=an.bu) (i:=0) (a:=1)).symm) U<|RK Lw<|al fun _ L0=>?_
 obtain ⟨A,b⟩:=JW Y
 have QH:(List.zipWith cm an.aq D)[1]? =some (cm mB A):=dE (show an.aq[1]? =some mB from rfl) b
 have QT:A.2.length=mB.length:=Y.2 1 _ _ rfl b
 refine E3 (k:=1) 10 (show an.aq[1]? =some mB from U) b U U ?_
 try dsimp only
 refine au<|rP 2 [] (mc 3 U I) ?_
 refine rS (IA 1 U (aa (n:=an.aq.length) 12 U (bW Y.1)) q9 dc U om)<|rS (g4 1 0 (vS A.1.1 mB.length A.1.2) U HJ (aa (n:=an.aq.length) 12 U (bW Y.1)) QH U dc U)<|rS (SX (bh (xs:=[(0,.const (vB true))]) (cs:=(aV.cells (aV.mk true false (ab.mk 0 0) (eJ.mk 0 0 (ba.mk none 0 0))))) U U (bg Hu U)) U U) ?_
 obtain ⟨RI,C1⟩:=aQ A.2 0 (by rw [QT]; decide)
 have QG:(List.zipWith av.cells mB A.2)[0]? =some (av.cells (nW 2555 2559) RI):=dE (show mB[0]? =some (nW 2555 2559) from rfl) C1
 refine rS (IA 0 U (aa (n:=mB.length) 0 U (l6 QT)) td dc U om)<|dk (k:=0) (o:=0) (vs:=(aV.cells (aV.mk true false (ab.mk 0 0) (eJ.mk 0 0 (ba.mk none 0 0))))) (es':=(List.zipWith av.cells (mB.set 0 xX) (A.2.set 0 (none,0)))) (C':=[(own A.1.1 A.1.2 45 7 (List.zipWith av.cells (mB.set 0 xX) (A.2.set 0 (none,0)))),_,_,_,_,_,_,_,_,_,_,_,_,_,_,_,_,_,_,_,_,_,_,_,_,_,_,_,_,_,_,_]) 0 U U U Hd U U U U QG U dc (by exact l9 (c:=av.cells) (m:=xX) (a:=(none,0))) U<|RK L0<|al fun _ L2=>EG (d':=xX) 1 (show mB[0]? =some (nW 2555 2559) from U) C1 U U U ?_
 refine zS (h':=(mB.set 0 xX)) (a':=(A.1,(A.2.set 0 (none,0)))) 2 0 1 dc (by rw [Y.1]; decide) U U ?_
 have H:mI dq.aq (D.set 1 (A.1,(A.2.set 0 (none,0)))):=Kf Y b
 have QU:List.zipWith cm an.aq D=List.zipWith cm dq.aq (D.set 1 (A.1,(A.2.set 0 (none,0)))):=(tI (h:=mB) (h':=(mB.set 0 xX)) (show an.aq[1]? =some mB from rfl) b (by rw [List.length_set])).symm
 rw [QU]
 try dsimp only
 have houtin:=Kj O2 H
 have hwildin:=H_ O0
 have hoddin:=JA O1
 refine au<|rP 1 [] (mc 3 U I) ?_
 refine rS (CL (wT 9 qf u A2 Pk v A3 w A4 x A5 y A6 QR AC A8 (by exact hwildin)) (cY 29 U U<|ae (aa (n:=an.ai.aO.length) 19 U (by first|(simp; done)|rfl|(rw [List.length_map]; rfl)))<|ae (aa (n:=an.ai.ak.length) 20 U (c_ QE))<|ae (bS 21 U dg)<|ae (aa (n:=an.ai.ag.length) 22 U (by first|(simp; done)|rfl|(rw [List.length_map]; rfl)))<|ae (aa (n:=an.aI.length) 23 U (by first|(simp; done)|rfl|(rw [List.length_map]; rfl)))<|ae (aa (n:=an.bu.length) 24 U (by first|(simp; done)|rfl|(rw [List.length_map]; rfl)))<|ae (aa (n:=an.aq.length) 25 U (bW C2.1))<|ae (cD 26 U C2)<|aC) U) ?_
 refine a_ 3 U<|AL U dK fun Rb=>fw U cT U<|a_ 1 U<|RK L2<|WS fun _ ML=>rP 1 [] (mc 3 U I) ?_
 refine rS (CL (wT 9 uC PG Po Pl PJ Ps PP Px PT P1 z A7 QS Pa P8 (by exact hoddin)) (cY 30 U U<|ae (aa (n:=an.ai.aO.length) 12 U (by first|(simp; done)|rfl|(rw [List.length_map]; rfl)))<|ae (aa (n:=an.ai.ak.length) 13 U (c_ QF))<|ae (bS 14 U dg)<|ae (aa (n:=an.ai.ag.length) 15 U (by first|(simp; done)|rfl|(rw [List.length_map]; rfl)))<|ae (aa (n:=an.aI.length) 16 U (by first|(simp; done)|rfl|(rw [List.length_map]; rfl)))<|ae (aa (n:=(an.bu.set 0 1).length) 17 U (by first|(simp; done)|rfl|(rw [List.length_map]; rfl)))<|ae (aa (n:=an.aq.length) 18 U (bW C5.1))<|ae (cD 19 U C5)<|aC) U) ?_
 refine a_ 3 U<|AL U dK fun Rc=>fw U cT U<|rP 1 [] I ?_
 refine RK ML<|al fun _ M2=>yN [2,3,6,7,8,9,10,11,12,31] U<|au<|cX ee (aC) U fun QV O4=>?_
 obtain ⟨Di,Jn,Ej,J5,In,FZ,J9,GE,Kn,Hl,K8,IR,LQ,O9⟩:=QV
 try dsimp only
 obtain ⟨B,E,C⟩:=O4
 refine rS (CL (wT 3 an Di Jn In Ej J5 FZ J9 GE Kn Hl K8 O9 IR LQ (by exact B)) (cY 17 U U<|ae (aa (n:=an.ai.aO.length) 0 U sm)<|ae (aa (n:=an.ai.ak.length) 1 U (c_ E))<|ae (bS 2 U dg)<|ae (aa (n:=an.ai.ag.length) 3 U sm)<|ae (aa (n:=an.aI.length) 4 U sm)<|ae (aa (n:=an.bu.length) 5 U sm)<|ae (aa (n:=an.aq.length) 6 U (bW C.1))<|ae (cD 7 U C)<|aC) U)<|iT [8,9,10,11,12,13,14,15,16,17] U U<|a_ 3 U<|AL U dK fun Pb=>fw U cT U<|a_ 1 U<|RK M2<|WS fun _ NB=>rP 1 [] (mc 2 U I) ?_
 refine rS (CL (wT 0 dq AB O N J P K R L S M T (D.set 1 (A.1,(A.2.set 0 (none,0)))) F G (by exact houtin)) (cY 10 U U<|ae (aa (n:=an.ai.aO.length) 3 U (by first|(simp; done)|rfl|(rw [List.length_map]; rfl)))<|ae (aa (n:=an.ai.ak.length) 4 U (c_ X))<|ae (bS 5 U dg)<|ae (aa (n:=an.ai.ag.length) 6 U (by first|(simp; done)|rfl|(rw [List.length_map]; rfl)))<|ae (aa (n:=an.aI.length) 7 U (by first|(simp; done)|rfl|(rw [List.length_map]; rfl)))<|ae (aa (n:=an.bu.length) 8 U (by first|(simp; done)|rfl|(rw [List.length_map]; rfl)))<|ae (aa (n:=dq.aq.length) 9 U (bW H.1))<|ae (cD 1 U H)<|aC) U) ?_
 refine a_ 3 U<|AL U dK fun Pc=>fw U cT U<|a_ 1 U<|RK NB<|WS fun _ NE=>rP 1 [] (mc 3 U I) ?_
 refine rS (CL (DC 1 0 dq AB O N J P K R L S M T (D.set 1 (A.1,(A.2.set 0 (none,0)))) F G (by exact houtin)) (cY 11 U U<|ae (aa (n:=an.ai.aO.length) 4 U (by first|(simp; done)|rfl|(rw [List.length_map]; rfl)))<|ae (aa (n:=an.ai.ak.length) 5 U (c_ X))<|ae (bS 6 U dg)<|ae (aa (n:=an.ai.ag.length) 7 U (by first|(simp; done)|rfl|(rw [List.length_map]; rfl)))<|ae (aa (n:=an.aI.length) 8 U (by first|(simp; done)|rfl|(rw [List.length_map]; rfl)))<|ae (aa (n:=an.bu.length) 9 U (by first|(simp; done)|rfl|(rw [List.length_map]; rfl)))<|ae (aa (n:=dq.aq.length) 10 U (bW H.1))<|ae (cD 2 U H)<|aC) U) ?_
 refine a_ 3 U<|AL U dK fun Pd=>fw U cT U<|rP 1 [] I ?_
 refine RK NE<|WS fun _ NI=>cX ee (aC) U fun QW O5=>?_
 obtain ⟨Do,J2,Eq,J6,JK,Fd,KM,GT,K0,H1,LA,IV,LR,O_⟩:=QW
 try dsimp only
 obtain ⟨B,E,C⟩:=O5
 refine rS (CL (xx 1 1 an Do J2 JK Eq J6 Fd KM GT K0 H1 LA O_ IV LR (by exact B)) (cY 20 U U<|ae (aa (n:=an.ai.aO.length) 0 U sm)<|ae (aa (n:=an.ai.ak.length) 1 U (c_ E))<|ae (bS 2 U dg)<|ae (aa (n:=an.ai.ag.length) 3 U sm)<|ae (aa (n:=an.aI.length) 4 U sm)<|ae (aa (n:=an.bu.length) 5 U sm)<|ae (aa (n:=an.aq.length) 6 U (bW C.1))<|ae (cD 7 U C)<|aC) U)<|iT [8,9,10,11,12,13,14,15,16,17,18,19,20] U U<|a_ 5 U<|RK NI<|WS fun _ NR=>rP 1 [] (mc 4 U I) ?_
 refine rS (CL (Ei 0 1 dq AB O N J P K R L S M T (D.set 1 (A.1,(A.2.set 0 (none,0)))) F G (by exact houtin)) (cY 12 U U<|ae (aa (n:=an.ai.aO.length) 5 U (by first|(simp; done)|rfl|(rw [List.length_map]; rfl)))<|ae (aa (n:=an.ai.ak.length) 6 U (c_ X))<|ae (bS 7 U dg)<|ae (aa (n:=an.ai.ag.length) 8 U (by first|(simp; done)|rfl|(rw [List.length_map]; rfl)))<|ae (aa (n:=an.aI.length) 9 U (by first|(simp; done)|rfl|(rw [List.length_map]; rfl)))<|ae (aa (n:=an.bu.length) 10 U (by first|(simp; done)|rfl|(rw [List.length_map]; rfl)))<|ae (aa (n:=dq.aq.length) 11 U (bW H.1))<|ae (cD 3 U H)<|aC) U) ?_
 refine rP 5 [] I ?_
 refine RK NR<|al fun _ NU=>xu cE [2,3,4,5,6,7,8] [0,1,2,3,4,5,6,7,8,9,10,11,12] U U U<|eS U (LW 4 U I6 U U)<|eS U (CL (iK 1 2) (aC) U)<|e7 U ?_
 refine p9 (V:=Nat) (fun Z=>True) (fun Z=>[(3,(vP AO)),(5,(vI (gU qf 9))),(7,(vI (gU uC 9))),(9,(vI (gU an 3))),(11,(vI (gU dq 0))),(13,(vI (js dq 1 0))),(15,(vI (je an 1 1))),(17,(vI (je dq 0 1))),(18,(vP Z)),(109,(vI (ej dq 1 0 (ab.mk 1 2))))]) (fun Z=>[(bJ Z 35 (bV.cells (bV.mk (cj.mk (bK.mk (ba.mk none 0 0)) 0 (ba.mk none 0 0) (ba.mk none 0 0) 0 0 0) (ba.mk none 0 0) (ba.mk none 0 0) 0 (ba.mk none 0 0)))),(bJ Pd 40 (ab.cells (fz dq 1 0))),(bJ Pc 40 (ab.cells (mY dq 0))),(bJ Pb 40 (ab.cells (mY an 3))),(bf (aR gG dq.aq (D.set 1 (A.1,(A.2.set 0 (none,0)))))),(bJ AO 35 (bV.cells (bV.mk (cj.mk (bK.mk (ba.mk AB an.ai.aO.length O)) an.ai.gV (ba.mk J an.ai.ak.length P) (ba.mk K an.ai.ag.length R) an.ai.ct an.ai.er an.ai.dx) (ba.mk L an.aI.length S) (ba.mk M an.bu.length T) an.gf (ba.mk F an.aq.length G)))),(own AB O 114 9 (an.ai.aO.map ao.cells)),(own J P 119 2 (List.zipWith aA.cells an.ai.ak N)),(bf (aR aA.owns an.ai.ak N)),(own K R 121 4 (an.ai.ag.map bG.cells)),(own L S 3 1 (an.aI.map iC)),(own M T 3 1 (an.bu.map iC)),(own F G 46 1 (List.zipWith cm dq.aq (D.set 1 (A.1,(A.2.set 0 (none,0)))))),(rd dH 3 2 c4).ro]) 1 [8] (fun hJ=>?_) ?_
 ·refine eN [2,6] kr (b_ ?_<|b_ ?_<|fQ)
  rotate_left 1
  ·refine cN U U U fun T236 Oo=>AL U mX fun g=>RD Oo 1 U<|N1 2<|cN U U U fun T238 Op=>?_
   refine cX (sZ 1 0 (ab.mk 1 2) dq AB O N J P K R L S M T (D.set 1 (A.1,(A.2.set 0 (none,0)))) F G (by exact houtin)) (cY 13 U U<|ae (aa (n:=an.ai.aO.length) 6 U (by first|(simp; done)|rfl|(rw [List.length_map]; rfl)))<|ae (aa (n:=an.ai.ak.length) 7 U (c_ X))<|ae (bS 8 U dg)<|ae (aa (n:=an.ai.ag.length) 9 U (by first|(simp; done)|rfl|(rw [List.length_map]; rfl)))<|ae (aa (n:=an.aI.length) 10 U (by first|(simp; done)|rfl|(rw [List.length_map]; rfl)))<|ae (aa (n:=an.bu.length) 11 U (by first|(simp; done)|rfl|(rw [List.length_map]; rfl)))<|ae (aa (n:=dq.aq.length) 12 U (bW H.1))<|ae (cD 4 U H)<|aC) U fun QY s=>?_
   obtain ⟨PD,RB,Qf,Qw,Qi,Qz,Qu,Ql,Q3,Qn,Q5,Qp,Q7,Qr,Q9,RR⟩:=QY
   cases PD
   rotate_left 1
   ·obtain ⟨p,⟨RG,RH⟩,RM⟩:=s.1 rfl
    try dsimp only [cond_true,cond_false,List.cons_append,List.nil_append]
    exact absurd (p.symm.trans qv) dc
   obtain ⟨j,he⟩:=s.2 rfl
   try dsimp only at j he
   subst j
   try dsimp only [cond_true,cond_false,List.cons_append,List.nil_append]
   refine RD Op 1 U<|N1 3<|cN U U U fun T257 Oq=>rS (MV U)<|RD Oq 1 U<|eN [4,5] kr (b_ ?_<|b_ ?_<|fQ)
   rotate_left 1
   ·refine cN U U U fun T263 Ow=>rS (EX U)<|RD Ow 1 U<|N1 4<|cN U U U fun T264 Ox=>rS (EX U)<|RD Ox 1 U<|N1 7<|cN U U U fun T265 Oy=>fw U iS U<|RD Oy 1 U ?_
    exact eE hJ g trivial [0,1,2,3,4,5,6,7,8,9,10,11,12,13] U U U
   refine cN U U U fun T258 Or=>rS (EX U)<|RD Or 1 U<|eN [5,7] kr (b_ ?_<|b_ ?_<|fQ)
   rotate_left 1
   ·refine cN U U U fun T261 Ou=>fw U iS U<|RD Ou 1 U<|N1 5<|cN U U U fun T262 Ov=>rS (EX U)<|RD Ov 1 U ?_
    exact eE hJ g trivial [0,1,2,3,4,5,6,7,8,9,10,11,12,13] U U U
   refine cN U U U fun T259 Os=>rS (EX U)<|RD Os 1 U<|N1 7<|cN U U U fun T260 Ot=>fw U iS U<|RD Ot 1 U ?_
   exact eE hJ g trivial [0,1,2,3,4,5,6,7,8,9,10,11,12,13] U U U
  refine cN U U U fun T175 OC=>?_
  refine cX (sZ 1 0 (ab.mk 1 2) dq AB O N J P K R L S M T (D.set 1 (A.1,(A.2.set 0 (none,0)))) F G (by exact houtin)) (cY 12 U U<|ae (aa (n:=an.ai.aO.length) 5 U (by first|(simp; done)|rfl|(rw [List.length_map]; rfl)))<|ae (aa (n:=an.ai.ak.length) 6 U (c_ X))<|ae (bS 7 U dg)<|ae (aa (n:=an.ai.ag.length) 8 U (by first|(simp; done)|rfl|(rw [List.length_map]; rfl)))<|ae (aa (n:=an.aI.length) 9 U (by first|(simp; done)|rfl|(rw [List.length_map]; rfl)))<|ae (aa (n:=an.bu.length) 10 U (by first|(simp; done)|rfl|(rw [List.length_map]; rfl)))<|ae (aa (n:=dq.aq.length) 11 U (bW H.1))<|ae (cD 3 U H)<|aC) U fun QX q=>?_
  obtain ⟨PC,Q_,Qe,Qv,Qh,Qy,Qt,Qk,Q0,Qm,Q4,Qo,Q6,Qq,Q8,RQ⟩:=QX
  cases PC
  rotate_left 1
  ·obtain ⟨p,⟨RG,RH⟩,RM⟩:=q.1 rfl
   try dsimp only [cond_true,cond_false,List.cons_append,List.nil_append]
   exact absurd (p.symm.trans qv) dc
  obtain ⟨j,he⟩:=q.2 rfl
  try dsimp only at j he
  subst j
  try dsimp only [cond_true,cond_false,List.cons_append,List.nil_append]
  refine RD OC 0 U<|eN [3,6] kr (b_ ?_<|b_ ?_<|fQ)
  rotate_left 1
  ·refine cN U U U fun T225 Oe=>AL U mX fun e=>RD Oe 1 U<|N1 3<|cN U U U fun T227 Of=>rS (MV U)<|RD Of 1 U<|eN [4,5] kr (b_ ?_<|b_ ?_<|fQ)
   rotate_left 1
   ·refine cN U U U fun T233 Ol=>rS (EX U)<|RD Ol 1 U<|N1 4<|cN U U U fun T234 Om=>rS (EX U)<|RD Om 1 U<|N1 7<|cN U U U fun T235 On=>fw U iS U<|RD On 1 U ?_
    exact eE hJ e trivial [0,1,2,3,4,5,6,7,8,9,10,11,12,13] U U U
   refine cN U U U fun T228 Og=>rS (EX U)<|RD Og 1 U<|eN [5,7] kr (b_ ?_<|b_ ?_<|fQ)
   rotate_left 1
   ·refine cN U U U fun T231 Oj=>fw U iS U<|RD Oj 1 U<|N1 5<|cN U U U fun T232 Ok=>rS (EX U)<|RD Ok 1 U ?_
    exact eE hJ e trivial [0,1,2,3,4,5,6,7,8,9,10,11,12,13] U U U
   refine cN U U U fun T229 Oh=>rS (EX U)<|RD Oh 1 U<|N1 7<|cN U U U fun T230 Oi=>fw U iS U<|RD Oi 1 U ?_
   exact eE hJ e trivial [0,1,2,3,4,5,6,7,8,9,10,11,12,13] U U U
  refine cN U U U fun T194 OD=>rS (MV U)<|RD OD 0 U<|eN [4,5,6] kr (b_ ?_<|b_ ?_<|b_ ?_<|fQ)
  rotate_left 1
  ·refine cN U U U fun T206 ON=>rS (EX U)<|RD ON 0 U<|eN [4,6] kr (b_ ?_<|b_ ?_<|fQ)
   rotate_left 1
   ·refine cN U U U fun T211 OR=>AL U mX fun Pg=>RD OR 1 U<|N1 4<|cN U U U fun T213 OS=>rS (EX U)<|RD OS 1 U<|N1 7<|cN U U U fun T214 OT=>fw U iS U<|RD OT 1 U ?_
    exact eE hJ Pg trivial [0,1,2,3,4,5,6,7,8,9,10,11,12,13] U U U
   refine cN U U U fun T207 OO=>rS (EX U)<|RD OO 0 U<|N1 6<|cN U U U fun T208 OP=>AL U mX fun Pf=>RD OP 1 U<|N1 7<|cN U U U fun T210 OQ=>fw U iS U<|RD OQ 1 U ?_
   exact eE hJ Pf trivial [0,1,2,3,4,5,6,7,8,9,10,11,12,13] U U U
  ·refine cN U U U fun T215 OU=>AL U mX fun d=>RD OU 1 U<|eN [4,5] kr (b_ ?_<|b_ ?_<|fQ)
   rotate_left 1
   ·refine cN U U U fun T222 Ob=>rS (EX U)<|RD Ob 1 U<|N1 4<|cN U U U fun T223 Oc=>rS (EX U)<|RD Oc 1 U<|N1 7<|cN U U U fun T224 Od=>fw U iS U<|RD Od 1 U ?_
    exact eE hJ d trivial [0,1,2,3,4,5,6,7,8,9,10,11,12,13] U U U
   refine cN U U U fun T217 OV=>rS (EX U)<|RD OV 1 U<|eN [5,7] kr (b_ ?_<|b_ ?_<|fQ)
   rotate_left 1
   ·refine cN U U U fun T220 OZ=>fw U iS U<|RD OZ 1 U<|N1 5<|cN U U U fun T221 Oa=>rS (EX U)<|RD Oa 1 U ?_
    exact eE hJ d trivial [0,1,2,3,4,5,6,7,8,9,10,11,12,13] U U U
   refine cN U U U fun T218 OW=>rS (EX U)<|RD OW 1 U<|N1 7<|cN U U U fun T219 OY=>fw U iS U<|RD OY 1 U ?_
   exact eE hJ d trivial [0,1,2,3,4,5,6,7,8,9,10,11,12,13] U U U
  refine cN U U U fun T195 OE=>rS (EX U)<|RD OE 0 U<|eN [5,6] kr (b_ ?_<|b_ ?_<|fQ)
  ·refine cN U U U fun T196 OF=>rS (EX U)<|RD OF 0 U<|N1 6<|cN U U U fun T197 OG=>AL U mX fun Pe=>RD OG 1 U<|N1 7<|cN U U U fun T199 OH=>fw U iS U<|RD OH 1 U ?_
   exact eE hJ Pe trivial [0,1,2,3,4,5,6,7,8,9,10,11,12,13] U U U
  refine cN U U U fun T200 OI=>AL U mX fun A0=>RD OI 1 U<|eN [5,7] kr (b_ ?_<|b_ ?_<|fQ)
  rotate_left 1
  ·refine cN U U U fun T204 OL=>fw U iS U<|RD OL 1 U<|N1 5<|cN U U U fun T205 OM=>rS (EX U)<|RD OM 1 U ?_
   exact eE hJ A0 trivial [0,1,2,3,4,5,6,7,8,9,10,11,12,13] U U U
  refine cN U U U fun T202 OJ=>rS (EX U)<|RD OJ 1 U<|N1 7<|cN U U U fun T203 OK=>fw U iS U<|RD OK 1 U ?_
  exact eE hJ A0 trivial [0,1,2,3,4,5,6,7,8,9,10,11,12,13] U U U
 rintro Z-
 try dsimp only
 refine fk U fun T266 Oz=>rS (AG U)<|RD Oz 1 U<|sv<|KK NU<|al fun _ Ne=>yN [4,5,6,7,8,9,10,11,12,13] U<|au<|cX ee (aC) U fun QZ O6=>?_
 obtain ⟨EB,J3,E9,J7,JO,Fj,Kd,Go,K4,IE,LE,Id,LT,PA⟩:=QZ
 try dsimp only
 obtain ⟨B,E,C⟩:=O6
 refine rS (CL (iK 0 2) (aC) U)<|cX (tj 0 0 (ab.mk 0 2) an EB J3 JO E9 J7 Fj Kd Go K4 IE LE PA Id LT (by exact B)) (cY 17 U U<|ae (aa (n:=an.ai.aO.length) 0 U sm)<|ae (aa (n:=an.ai.ak.length) 1 U (c_ E))<|ae (bS 2 U dg)<|ae (aa (n:=an.ai.ag.length) 3 U sm)<|ae (aa (n:=an.aI.length) 4 U sm)<|ae (aa (n:=an.bu.length) 5 U sm)<|ae (aa (n:=an.aq.length) 6 U (bW C.1))<|ae (cD 7 U C)<|aC) U fun Qa RN=>?_
 obtain ⟨RX,Rd⟩:=Qa
 try dsimp only
 refine iT [0,9,10,11,12,13,14,15,16,17,18] U U<|rP 5 [] I ?_
 refine RK Ne<|WS fun _ Ny=>cX ee (aC) U fun Qb O7=>?_
 obtain ⟨EQ,J4,FS,J8,JQ,Fn,Ke,Hi,K5,IO,LK,If,Li,PB⟩:=Qb
 try dsimp only
 obtain ⟨B,E,C⟩:=O7
 refine cX (Ay 3 an EQ J4 JQ FS J8 Fn Ke Hi K5 IO LK PB If Li (by exact B)) (cY 18 U U<|ae (aa (n:=an.ai.aO.length) 0 U sm)<|ae (aa (n:=an.ai.ak.length) 1 U (c_ E))<|ae (bS 2 U dg)<|ae (aa (n:=an.ai.ag.length) 3 U sm)<|ae (aa (n:=an.aI.length) 4 U sm)<|ae (aa (n:=an.bu.length) 5 U sm)<|ae (aa (n:=an.aq.length) 6 U (bW C.1))<|ae (cD 7 U C)<|aC) U fun Qc RO=>?_
 obtain ⟨RY,Re⟩:=Qc
 try dsimp only
 refine iT [0,9,10,11,12,13,14,15,16,17,18,19] U U<|a_ 5 U<|RK Ny<|WS fun _ N0=>rP 1 [] (mc 3 U I) ?_
 refine cX (vq dq AB O N J P K R L S M T (D.set 1 (A.1,(A.2.set 0 (none,0)))) F G (by exact houtin)) (cY 11 U U<|ae (aa (n:=an.ai.aO.length) 4 U (by first|(simp; done)|rfl|(rw [List.length_map]; rfl)))<|ae (aa (n:=an.ai.ak.length) 5 U (c_ X))<|ae (bS 6 U dg)<|ae (aa (n:=an.ai.ag.length) 7 U (by first|(simp; done)|rfl|(rw [List.length_map]; rfl)))<|ae (aa (n:=an.aI.length) 8 U (by first|(simp; done)|rfl|(rw [List.length_map]; rfl)))<|ae (aa (n:=an.bu.length) 9 U (by first|(simp; done)|rfl|(rw [List.length_map]; rfl)))<|ae (aa (n:=dq.aq.length) 10 U (bW H.1))<|ae (cD 2 U H)<|aC) U fun Qd O8=>?_
 obtain ⟨Lk,PM,Pu⟩:=Qd
 try dsimp only
 have RL:=O8
 have C0:=RL
 refine a_ 5 U<|RK N0<|al fun _ OB=>yN [0,1,13] U<|au<|rP 3 [] I ?_
 refine bH (t:=128) U (aZ fun A9=>?_) (aY fun A9=>?_)
 ·exact absurd (Dh) A9
 refine rP 4 [] I ?_
 refine bH (t:=132) U (aZ fun Bi=>?_) (aY fun Bi=>?_)
 ·exact absurd (Hb) Bi
 refine rP 4 [] I ?_
 refine bH (t:=136) U (aZ fun B3=>?_) (aY fun B3=>?_)
 ·exact absurd (EK) B3
 refine rP 4 [] I ?_
 refine bH (t:=140) U (aZ fun B7=>?_) (aY fun B7=>?_)
 ·exact absurd (CV) B7
 refine rP 4 [] I ?_
 refine bH (t:=144) U (aZ fun B9=>?_) (aY fun B9=>?_)
 ·exact absurd (BO) B9
 refine rP 4 [] I ?_
 refine bH (t:=148) U (aZ fun CP=>?_) (aY fun CP=>?_)
 ·exact absurd (Jr) CP
 refine rP 4 [] I ?_
 refine bH (t:=152) U (aZ fun CY=>?_) (aY fun CY=>?_)
 ·exact absurd (Bl) CY
 refine rP 4 [] I ?_
 refine bH (t:=156) U (aZ fun Ci=>?_) (aY fun Ci=>?_)
 ·exact absurd (qv) Ci
 refine rP 4 [] I ?_
 refine bH (t:=160) U (aZ fun Ck=>?_) (aY fun Ck=>?_)
 ·exact absurd (Hh) Ck
 refine rP 4 [] I ?_
 refine bH (t:=164) U (aZ fun Cp=>?_) (aY fun Cp=>?_)
 ·exact absurd (ET) Cp
 refine rP 4 [] I ?_
 refine bH (t:=168) U (aZ fun Cx=>?_) (aY fun Cx=>?_)
 ·exact absurd (kf) Cx
 refine rP 1 [] I ?_
 refine ck (xs:=[.const (vI 1)]) (cs:=[(vI 1)]) U b0 gI U U U U (by simp [Value.cells]) U U fun AA=>ck (xs:=[.const (vI 2)]) (cs:=[(vI 2)]) U b0 gI U U U U (by simp [Value.cells]) U U fun W=>ck (xs:=[.tmp 170,.tmp 171]) (cs:=[(vS (some ⟨AA,0,none⟩) 1 1),(vS (some ⟨W,0,none⟩) 1 1)]) U lU pU U U U U (by simp [Value.cells]) U U fun A1=>?_
 refine cQ (es:=(([1]:List Int).map iC)) (C':=[_,_,(own (some ⟨AA,0,none⟩) 1 3 1 (([1]:List Int).map iC)),_,_,_]) 2 U (jo aW _) U (by show _≤maxLen; exact Nat.le_trans (m:=10) (show (1:Nat)≤10 by decide) dc) U ?_
 refine cQ (es:=(([2]:List Int).map iC)) (C':=[_,(own (some ⟨W,0,none⟩) 1 3 1 (([2]:List Int).map iC)),_,_,_,_]) 1 U (jo aW _) U (by show _≤maxLen; exact Nat.le_trans (m:=10) (show (1:Nat)≤10 by decide) dc) U ?_
 refine cQ (es:=(List.zipWith j5 [([1]:List Int),([2]:List Int)] [((some ⟨AA,0,none⟩),1),((some ⟨W,0,none⟩),1)])) (C':=[(own (some ⟨A1,0,none⟩) 2 32 1 (List.zipWith j5 [([1]:List Int),([2]:List Int)] [((some ⟨AA,0,none⟩),1),((some ⟨W,0,none⟩),1)])),_,_,_,_,_]) 0 U (kE zq) U (by show _≤maxLen; exact Nat.le_trans (m:=10) (show (2:Nat)≤10 by decide) dc) U ?_
 refine n_ (aR oQ [([1]:List Int),([2]:List Int)] [((some ⟨AA,0,none⟩),1),((some ⟨W,0,none⟩),1)]) [2,1] [0,3,4,5] U U<|rS (CL (nP (cw dq) ([([1]:List Int),([2]:List Int)]) Lk PM Pu ([((some ⟨AA,0,none⟩),1),((some ⟨W,0,none⟩),1)]) (some ⟨A1,0,none⟩) 2 (by exact QI.1) dc (by exact QI.2) dc (by exact C0) (by rfl)) (ae (aa (n:=(cw dq).length) 2 U (iL C0))<|ae (bS 3 U um)<|ae (aa (n:=([([1]:List Int),([2]:List Int)]).length) 1 U sm)<|ae (bS 0 U um)<|aC) U)<|rP 2 [] I ?_
 refine RK OB<|aB<|Q1 hQ U U U ?_
 exact cB (g6 w6)
end
section
open Go.ChangeShapes Go.WideShapes Go.ChangeAt Go.RowKit
theorem qm:ownKnob Tryz.prog.godebug=none:=by kernel_rfl
theorem py:laidOutB Tryz.prog=true:=by kernel_rfl
theorem oe (os:Os) (started:os.Started) (H:Type) (enc:TypeId×Value→H):
 ReturnsInHanded {} Tryz.checked os 3 .any (fun w args=>(Rows.raceExamplesSpec.pre enc Tryz.prog Tryz.f3 [] false w args∧laidMetH Tryz.prog [("kreisel/race.table",Rows.laid_kreisel_race_table)] w)∧sizedMet enc Tryz.prog Tryz.f3 (OpenSpec.ofChange Rows.raceExamplesSpec) false w args) (Rows.raceExamplesSpec.post enc Tryz.prog Tryz.f3 false true false false):=by
 refine returnsInHanded_of_change_and (C:=Tryz.checked) (X:=(fun w _=>laidMetH Tryz.prog [("kreisel/race.table",Rows.laid_kreisel_race_table)] w)) (fun _ _ _ hh h=>h.of_heap hh) qm started kr Tryz.func3
  (ChangeSpec.witness_shaped (enc:=enc) (C:=Tryz.checked) (os:=os) (X:=(fun w _=>laidMetH Tryz.prog [("kreisel/race.table",Rows.laid_kreisel_race_table)] w)) false (World.doorLaid Tryz.prog 400 os) #[] 8 rfl (World.shaped_of_RefB kr kr) kr kr kr (yx os _)) ?_
 intro W base args ds gs before B hW _ _ hL _
 have G: ∀ (j:Nat) t v,Tryz.f3.params[j]? =some t→args[j]? =some v→Value.okWide Tryz.prog W .any base t v:=B
 have hW':=hW
 obtain ⟨p,q,AA,hV,rfl,K,L⟩:=hW
 have hA:DataW.TrodAll enc Tryz.prog W 0 (fun _=>true) true Tryz.f3.params.toList args.toList ds p:=AA
 have D:=hA
 rw [Tryz.params3] at hA G
 obtain ⟨J,rfl,rfl⟩:=trodAll_nil hA
 obtain rfl:args= #[]:=by cases args; simp_all
 obtain ⟨rfl,rfl⟩:=trodVars_none hV
 simp only [List.append_nil] at hW' D
 have F:=s9 hL
 have E:=sN.run W (by intro A hA; simp only [cO,List.not_mem_nil,or_false] at hA; subst hA; exact F)
 refine (E).mono fun e W' ⟨he,hk⟩=>?_
 subst he
 exact ⟨_,U,E2 py hW' D U U kr hk.below kr N2⟩
theorem o5:Rows.RaceExamplesSaid:=
 OpenClaim.holds_of_wide 3 Tryz.f3 rfl rfl rfl rfl rfl rfl rfl ⟨rfl,rfl,rfl,rfl,rfl⟩ rfl rfl rfl rfl rfl kr Tryz.func3 oi
  (of_decide_eq_true kr) (by unfold Func.isWrapper; first|(rw [if_pos (by decide+kernel)]; kernel_rfl)|(rw [if_neg (by decide+kernel)]; exact ⟨rfl,rfl⟩))
  (fun os started H enc _=>oe os started H enc)
/-- the statement -/
theorem raceExamples_said:Rows.RaceExamplesCardSaid:=
 Claim7.holds_tied_plain_at .later [] [.funcsDeep] true (true,"088415838787c5430f0abdddd979ed2a5db6662ea085e3210461bc02ff0f1fa1") true
  o5 (fun _ h=>by cases h) kr (fun _ h=>by cases h) raceExamples_row_tie rfl ⟨rfl,rfl⟩ kr rfl
  (fun f fn hf B=>by
   obtain rfl:f=3:=Option.some.inj ((show Tryz.prog.funcNamed "kreisel/kreisellaw06.RaceExamples"=some 3 by kernel_rfl).symm.trans hf) |>.symm
   obtain rfl:fn=Tryz.f3:=(Option.some.inj (Tryz.func3.symm.trans B)).symm
   exact ⟨kr,fun j t ht=>by
    rw [Tryz.params3] at ht
    have hm:t∈([]:List Nat):=by simpa using Array.mem_of_getElem? ht
    have A:(([]:List Nat).all fun u=> !Tryz.prog.wantsStandIn u)=true:=by kernel_rfl
    exact (show Tryz.prog.wantsStandIn t=false by simpa using List.all_eq_true.1 A t hm)⟩)
  kr
#print axioms raceExamples_said
end
end Go.Proofs.YtadjgjnicdcjbaaGreatDoor
