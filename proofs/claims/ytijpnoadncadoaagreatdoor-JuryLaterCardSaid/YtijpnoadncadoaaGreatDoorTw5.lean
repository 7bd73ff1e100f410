/-
 The statement juryLater_said, part 5 of 9: Ends5, Can, False, Sim, Told, Later, JLater, JHits, JMem, SeqO, RankP, TabP, NestS, Grp, JSeq, JTop, Twin, Fresh, Tied6, Rep, Nar6, Later7, Lat7, Lat8, JLat, JLatM, JMor, JFeeL, MapD, ExL, ExJ, Win6, JWin, JAlv, B1, B10, Frozen, MarkD, Marks, Follow, OpenM, Z1, Rx4, Jla, DrawB, Bits, BoolC, RaceR, Jw1, IdxK, Jw2, S1, V1, V3.
 Conditions: none.
-/
import Derived.Test.YtijpnoadncadoaaGreatDoorTw1
import Derived.Test.YtijpnoadncadoaaGreatDoorTw2
import Derived.Test.YtijpnoadncadoaaGreatDoorTw3
import Derived.Test.YtijpnoadncadoaaGreatDoorTw4
import Derived.KernelRfl
namespace Go.Proofs.YtijpnoadncadoaaGreatDoor
set_option maxRecDepth 100000
set_option maxHeartbeats 4000000
set_option linter.unusedVariables false
section
/-- where a sled may be after k beams more -/
def gN (w:bZ):Nat→Nat→aK×Int→List (aK×Int)
 |0,_,p=>[p]
 |k+1,b,p=>(jl w b).flatMap fun o=>match lK w b p o with
  |some q=>gN w k (b+1) q
  |none=>[]
variable {w:bZ}
theorem iZ {k b:Nat} {p q:aK×Int}:q∈gN w (k+1) b p↔ ∃ o∈jl w b,∃ p',lK w b p o=some p'∧q∈gN w k (b+1) p':=by
 simp only [gN,List.mem_flatMap]
 constructor
 ·rintro ⟨o,ho,h⟩
  cases e:lK w b p o with
  |none=>rw [e] at h; cases h
  |some p'=>rw [e] at h; exact ⟨o,ho,p',e,h⟩
 ·rintro ⟨o,ho,p',e,h⟩
  exact ⟨o,ho,by rw [e]; exact h⟩
theorem s8: ∀ (k b:Nat) (q:aK×Int),q∈fwd w (b+k)↔ ∃ p∈fwd w b,q∈gN w k b p:=by
 intro k
 induction k with
 |zero=>
  intro b q
  simp only [Nat.add_zero,gN,ck]
  exact ⟨fun h=>⟨q,h,rfl⟩,fun ⟨p,hp,e⟩=>e▸hp⟩
 |succ k ih=>
  intro b q
  rw [show b+(k+1)=(b+1)+k by omega,ih]
  constructor
  ·rintro ⟨p',hp',h⟩
   obtain ⟨p,hp,o,ho,e⟩:=gH.1 hp'
   exact ⟨p,hp,iZ.2 ⟨o,ho,p',e,h⟩⟩
  ·rintro ⟨p,hp,h⟩
   obtain ⟨o,ho,p',e,h'⟩:=iZ.1 h
   exact ⟨p',gH.2 ⟨p,hp,o,ho,e⟩,h'⟩
theorem ib {b:Nat} {p q:aK×Int} {o:Int×ag}:lK w b p o=some q↔max (p.2+bW w b) o.2.Lo≤min o.2.Hi w.fI∧q=(dK p.1 (fV o.1),max (p.2+bW w b) o.2.Lo):=by
 unfold lK
 split
 ·rename_i h
  constructor
  ·intro e; cases e; exact ⟨h,rfl⟩
  ·rintro ⟨_,rfl⟩; rfl
 ·rename_i h
  constructor
  ·intro e; cases e
  ·rintro ⟨h',_⟩; exact absurd h' h
theorem vO {b:Nat} {p q:aK×Int} {o:Int×ag}:oU w b p o=some q↔o.2.Lo≤min p.2 o.2.Hi∧q=(dK p.1 (fV o.1),min p.2 o.2.Hi-bW w b):=by
 unfold oU
 split
 ·rename_i h
  constructor
  ·intro e; cases e; exact ⟨h,rfl⟩
  ·rintro ⟨_,rfl⟩; rfl
 ·rename_i h
  constructor
  ·intro e; cases e
  ·rintro ⟨h',_⟩; exact absurd h' h
theorem HA {b:Nat} (hb:b≤w.n):((⟨0,0⟩:aK),w.fI)∈back w b:=by
 rcases Nat.lt_or_ge b w.n with h|h
 ·exact (pK h).2 (.inl U)
 ·rw [vR h]; simp
theorem oc (t:aK):dK t ⟨0,0⟩=t:=by cases t; simp [dK]
theorem Ap (a o u:aK):dK (dK a o) u=dK a (dK u o):=by simp only [dK,aK.mk.injEq]; omega
theorem GY (hl: ∀ b,0≤bW w b): ∀ (k:Nat) (u:aK×Int),u∈bwd w k→u.2≤w.fI:=by
 intro k
 induction k with
 |zero=>intro u hu; simp only [bwd,ck] at hu; subst hu; exact Int.le_refl _
 |succ k ih=>
  intro u hu
  simp only [bwd,bU,List.mem_flatMap,List.mem_filterMap] at hu
  rcases hu with rfl|⟨p,hp,o,ho,e⟩
  ·exact Int.le_refl _
  ·obtain ⟨_,rfl⟩:=vO.1 e
   have:=ih p hp
   have:=hl (w.n-(k+1))
   simp only; omega
/-- what follows a passing is told by the way back -/
theorem Ns: ∀ (k b:Nat) (p q:aK×Int),b+k≤w.n→p.2≤w.fI→q∈gN w k b p→ ∃ u∈back w b,p.2≤u.2∧q.1=dK p.1 u.1:=by
 intro k
 induction k with
 |zero=>
  intro b p q hb hp hq
  simp only [gN,ck] at hq
  subst hq
  exact ⟨_,HA I,hp,(oc _).symm⟩
 |succ k ih=>
  intro b p q hb hp hq
  obtain ⟨o,ho,p',e,h⟩:=iZ.1 hq
  obtain ⟨C,rfl⟩:=ib.1 e
  obtain ⟨u',hu',B,A⟩:=ih (b+1) _ q I (by simp only; omega) h
  simp only at B A
  refine ⟨(dK u'.1 (fV o.1),min u'.2 o.2.Hi-bW w b),(pK I).2 (.inr ⟨u',hu',o,ho,vO.2 ⟨I,U⟩⟩),by simp only; omega,?_⟩
  rw [A,Ap]
theorem Kx (hl: ∀ b,0≤bW w b): ∀ (d b:Nat) (p u:aK×Int),w.n=b+d→p.2≤u.2→u∈back w b→ ∃ k,b+k≤w.n∧ ∃ q∈gN w k b p,q.1=dK p.1 u.1:=by
 intro d
 induction d with
 |zero=>
  intro b p u hd hp hu
  rw [vR I] at hu
  simp only [ck] at hu
  subst hu
  exact ⟨0,I,p,by simp [gN],(oc _).symm⟩
 |succ d ih=>
  intro b p u hd hp hu
  rcases (pK I).1 hu with rfl|⟨u',hu',o,ho,e⟩
  ·exact ⟨0,I,p,by simp [gN],(oc _).symm⟩
  ·obtain ⟨B,rfl⟩:=vO.1 e
   have hn:u'.2≤w.fI:=GY hl _ _ hu'
   simp only at hp
   obtain ⟨k,hk,q,hq,A⟩:=ih (b+1) (dK p.1 (fV o.1),max (p.2+bW w b) o.2.Lo) u' I (by simp only; omega) hu'
   refine ⟨k+1,I,q,iZ.2 ⟨o,ho,_,ib.2 ⟨I,U⟩,hq⟩,?_⟩
   rw [A]; simp only; rw [Ap]
end
section
section
variable {l:bg} {r:cr} {one at_:Int} {d:Nat} {f g m:Int} {rec:Int→Int→Int→Bool} {i:Int}
end
theorem oK {l:bg} {r:cr} {d:Nat} (hd:d<l.ab.length) {o:Int×ag}:o∈jl (bP l r) d↔o=(-1,⟨r.Start,r.fI⟩)∨ ∃ k,k<r.aa.length∧ ∃ s,r.aa[k]? =some s∧(s.eZ=(d:Int)∧(cJ l s).Lo≤(cJ l s).Hi)∧o=((k:Int),cJ l s):=by
 unfold jl vg
 show o∈(-1,(⟨r.Start,r.fI⟩:ag))::((cP l r.aa r.aa.length)[d]?).getD []↔_
 rw [qc hd,Option.getD_some,bU,tM]
theorem qO {l:bg} {r:cr} {d:Nat} (hd:d<l.ab.length):bW (bP l r) d=eu l d:=by rw [sI,if_pos hd]
theorem wH {l:bg} {n d:Nat} {y:Int} (h:(cd l n)[d]? =some y):y=eu l d:=by
 unfold cd at h
 rw [dL] at h
 have hd:d<n:=by
  rcases Nat.lt_or_ge d n with q|q
  ·exact q
  ·rw [List.getElem?_eq_none (by simpa using q)] at h; cases h
 rw [List.getElem?_range hd] at h
 exact (Option.some.inj h).symm
end
section
def Em (w:bZ) (b:Nat) (i:Int):Prop:= ∃ b',b'<b∧ ∃ q∈gp w b',q.1=i
noncomputable instance (w:bZ) (b:Nat) (i:Int):Decidable (Em w b i):=Classical.propDecidable _
noncomputable def AQ (w:bZ) (n:Nat):List Int:=((List.range n).map fun (k:Nat)=>(k:Int)).filter fun i=> !decide (Em w w.n i)
noncomputable def LZ (l:bg) (r:cr):List Int:=if dG l r 0=0 then AQ (bP l r) r.aa.length else []
theorem IQ {l:bg} {r:cr} (h:dG l r 0=0):LZ l r=AQ (bP l r) r.aa.length:=if_pos h
def vd (w:bZ) (b:Nat):Bool:=(gp w b).any fun q=>decide (0≤q.1)
def xS (w:bZ) (k:Nat):List Int:=((List.range k).filter fun b=> !vd w b).map fun (b:Nat)=>(b:Int)
noncomputable def uI (l:bg) (r:cr):List Int:=if dG l r 0=0 then xS (bP l r) (oE (ir l r)).toNat else []
theorem tH {l:bg} {r:cr} (h:dG l r 0=0):uI l r=xS (bP l r) (oE (ir l r)).toNat:=if_pos h
theorem zx {l:bg} {r:cr} (h: ¬ dG l r 0=0):uI l r=[]:=if_neg h
theorem Ey {w:bZ} {n:Nat} {i:Int}:i∈AQ w n↔(0≤i∧i<(n:Int))∧ ¬ Em w w.n i:=by
 unfold AQ
 rw [List.mem_filter,cp]
 simp only [Bool.not_eq_true',decide_eq_false_iff_not]
 constructor
 ·rintro ⟨⟨k,hk,rfl⟩,A⟩
  have:=List.mem_range.1 hk
  exact ⟨I,A⟩
 ·rintro ⟨B,A⟩
  exact ⟨⟨i.toNat,List.mem_range.2 I,I⟩,A⟩
theorem Ti {l:bg} {r:cr} (h:dG l r 0=0):0≤oE (ir l r)∧oE (ir l r)≤(l.ab.length:Int):=by
 have A:=(G3 (wi h)).1
 rw [k7 h] at A ⊢
 obtain ⟨i,e,hi,_⟩:=pL.1 A
 have hn:(bP l r).n=l.ab.length:=cE
 omega
end
section
/-- a truth goes on from here -/
def tW (w:bZ) (b:Nat) (p:aK×Int):Prop:= ∃ k,b+k≤w.n∧ ∃ q∈gN w k b p,lf w q.1=true
/-- a truth may have come here, or earlier -/
def D5 (w:bZ) (b:Nat) (p:aK×Int):Prop:= ∃ v,(p.1,v)∈fwd w b∧v≤p.2
def Ji (n:Int) (p:aK×Int):aK×Int:=(p.1,p.2+n)
section
variable {w:bZ}
theorem HC: ∀ (k j b:Nat) (p q z:aK×Int),q∈gN w k b p→z∈gN w j (b+k) q→z∈gN w (k+j) b p:=by
 intro k
 induction k with
 |zero=>
  intro j b p q z A B
  simp only [gN,ck] at A
  subst A
  rw [Nat.zero_add]; exact B
 |succ k ih=>
  intro j b p q z A B
  obtain ⟨o,ho,p',e,h⟩:=iZ.1 A
  rw [show k+1+j=(k+j)+1 by omega]
  exact iZ.2 ⟨o,ho,p',e,ih j (b+1) p' q z h (by rw [show b+1+k=b+(k+1) by omega]; exact B)⟩
theorem Dq: ∀ (k b:Nat) (t:aK) (x y:Int) (q:aK×Int),y≤x→q∈gN w k b (t,x)→ ∃ q'∈gN w k b (t,y),q'.1=q.1∧q'.2≤q.2:=by
 intro k
 induction k with
 |zero=>
  intro b t x y q A hq
  simp only [gN,ck] at hq ⊢
  subst hq
  exact ⟨_,U,U,A⟩
 |succ k ih=>
  intro b t x y q A hq
  obtain ⟨o,ho,p',e,h⟩:=iZ.1 hq
  obtain ⟨B,rfl⟩:=ib.1 e
  simp only at B h
  obtain ⟨q',hq',C,D⟩:=ih (b+1) _ _ (max (y+bW w b) o.2.Lo) q I h
  exact ⟨q',iZ.2 ⟨o,ho,_,ib.2 ⟨by simp only; omega,U⟩,hq'⟩,C,D⟩
theorem yg {b:Nat} {t:aK} {x y:Int} (h:tW w b (t,x)) (hy:y≤x):tW w b (t,y):=by
 obtain ⟨k,hk,q,hq,hm⟩:=h
 obtain ⟨q',hq',e,_⟩:=Dq k b t x y q hy hq
 exact ⟨k,hk,q',hq',by rw [e]; exact hm⟩
theorem wM {k b:Nat} {p q:aK×Int} (h:q∈gN w k b p) (hv:tW w (b+k) q):tW w b p:=by
 obtain ⟨j,hj,z,hz,hm⟩:=hv
 exact ⟨k+j,I,z,HC k j b p q z h hz,hm⟩
theorem HQ {b:Nat} {p q:aK×Int} {o:Int×ag} (h:D5 w b p) (ho:o∈jl w b) (e:lK w b p o=some q):D5 w (b+1) q:=by
 obtain ⟨v,hv,A⟩:=h
 obtain ⟨B,rfl⟩:=ib.1 e
 exact ⟨max (v+bW w b) o.2.Lo,gH.2 ⟨_,hv,o,ho,ib.2 ⟨by simp only; omega,U⟩⟩,by simp only; omega⟩
theorem C8 {b:Nat} {p:aK×Int} (h:p∈fwd w b):D5 w b p:=⟨p.2,h,Int.le_refl _⟩
theorem vX (hl: ∀ b,0≤bW w b): ∀ (b:Nat) (p:aK×Int),p∈fwd w b→w.Start≤p.2:=by
 intro b
 induction b with
 |zero=>intro p hp; simp only [fwd,ck] at hp; subst hp; exact Int.le_refl _
 |succ b ih=>
  intro q hq
  obtain ⟨p,hp,o,ho,e⟩:=gH.1 hq
  obtain ⟨_,rfl⟩:=ib.1 e
  have:=ih p hp
  have:=hl b
  simp only; omega
/-- a beam is passed at a time, by a signal -/
def xZ (w:bZ) (b:Nat) (s t:Int):Prop:= ∃ p∈fwd w b,∃ o∈jl w b,o.1=s∧(max (p.2+bW w b) o.2.Lo≤t∧t≤min o.2.Hi w.fI)∧tW w (b+1) (dK p.1 (fV o.1),t)
theorem mZ (hl: ∀ b,0≤bW w b) {b:Nat} (hb:b<w.n) {s t:Int}:(∃ q∈gp w b,q.1=s∧q.2.Lo≤t∧t≤q.2.Hi)↔xZ w b s t:=by
 constructor
 ·rintro ⟨q,hq,hs,C,D⟩
  obtain ⟨o,ho,p,hp,u,hu,e⟩:=ja.1 hq
  obtain ⟨B,A,rfl⟩:=jY.1 e
  simp only [j7] at C D B
  have hn:u.2≤w.fI:=GY hl _ _ hu
  obtain ⟨k,hk,q,hq',E⟩:=Kx hl (w.n-(b+1)) (b+1) (dK p.1 (fV o.1),t) u I (by simp only; omega) hu
  refine ⟨p,hp,o,ho,hs,⟨I,I⟩,k,hk,q,hq',?_⟩
  rw [E]
  unfold yY at A
  rw [show dK (dK p.1 (fV o.1)) u.1=dK (dK p.1 u.1) (fV o.1) by simp only [dK,aK.mk.injEq]; omega]
  exact A
 ·rintro ⟨p,hp,o,ho,hs,⟨C,D⟩,k,hk,q,hq,hm⟩
  obtain ⟨u,hu,B,A⟩:=Ns k (b+1) _ q hk (by simp only; omega) hq
  simp only at B A
  refine ⟨(o.1,j7 w b p u o),ja.2 ⟨o,ho,p,hp,u,hu,jY.2 ⟨by simp only [j7]; omega,?_,U⟩⟩,hs,by simp only [j7]; omega,by simp only [j7]; omega⟩
  unfold yY
  rw [A] at hm
  rw [show dK (dK p.1 u.1) (fV o.1)=dK (dK p.1 (fV o.1)) u.1 by simp only [dK,aK.mk.injEq]; omega]
  exact hm
end
structure xn (w w':bZ) (n:Int) (f:Int→Int):Prop where
 start:w'.Start=w.Start+n
 now:w'.fI=w.fI+n
 wn:w'.n=w.n
 low: ∀ b,0≤bW w b
 least: ∀ b,bW w' b=bW w b
 may: ∀ t,lf w t=true→lf w' t=true
 Wy: ∀ s,0≤f s↔0≤s
 opt: ∀ (b:Nat) (p:aK×Int) (o:Int×ag),b<w.n→w.Start≤p.2→D5 w b p→o∈jl w b→max (p.2+bW w b) o.2.Lo≤min o.2.Hi w.fI→tW w (b+1) (dK p.1 (fV o.1),max (p.2+bW w b) o.2.Lo)→
  ∃ o'∈jl w' b,o'.1=f o.1∧ ∀ t,w.Start≤t→t≤w.fI→((o.2.Lo≤t∧t≤o.2.Hi)↔(o'.2.Lo≤t+n∧t+n≤o'.2.Hi))
section
variable {w w':bZ} {n:Int} {f g:Int→Int}
theorem xn.one (h:xn w w' n f) (s:Int):fV (f s)=fV s:=by
 unfold fV
 have:=h.Wy s
 by_cases q:s<0
 ·rw [if_pos q,if_pos I]
 ·rw [if_neg q,if_neg I]
theorem xn.step (h:xn w w' n f) {b:Nat} {p q:aK×Int} {o:Int×ag} (hb:b<w.n) (hs:w.Start≤p.2) (hl:D5 w b p) (ho:o∈jl w b) (e:lK w b p o=some q) (hv:tW w (b+1) q):
 ∃ o'∈jl w' b,lK w' b (Ji n p) o'=some (Ji n q):=by
 obtain ⟨E,rfl⟩:=ib.1 e
 obtain ⟨o',ho',D,A⟩:=h.opt b p o hb hs hl ho E hv
 have F:=h.low b
 have B:=A (max (p.2+bW w b) o.2.Lo) I I
 have C:=A (max (p.2+n+bW w b) o'.2.Lo-n) I
 refine ⟨o',ho',ib.2 ?_⟩
 simp only [Ji,h.least,h.now]
 rw [D,h.one]
 have G:=B.1 I
 have H:=(C I).2 I
 refine ⟨I,?_⟩
 simp only [Prod.mk.injEq,true_and]
 omega
theorem xn.reach (h:xn w w' n f): ∀ (k b:Nat) (p q:aK×Int),b+k≤w.n→w.Start≤p.2→D5 w b p→q∈gN w k b p→tW w (b+k) q→Ji n q∈gN w' k b (Ji n p):=by
 intro k
 induction k with
 |zero=>
  intro b p q _ _ _ hq _
  simp only [gN,ck] at hq ⊢
  rw [hq]
 |succ k ih=>
  intro b p q hb hs hl hq hv
  obtain ⟨o,ho,p',e,hq'⟩:=iZ.1 hq
  have hv':tW w (b+1) p':=wM hq' (by rw [show b+1+k=b+(k+1) by omega]; exact hv)
  obtain ⟨o',ho',e'⟩:=h.step I hs hl ho e hv'
  have A:=ib.1 e
  have B:=h.low b
  exact iZ.2 ⟨o',ho',_,e',ih (b+1) p' q I (by rw [A.2]; simp only; omega) (HQ hl ho e) hq' (by rw [show b+1+k=b+(k+1) by omega]; exact hv)⟩
theorem xn.Q4 (h:xn w w' n f) {b:Nat} {p:aK×Int} (hs:w.Start≤p.2) (hl:D5 w b p) (hv:tW w b p):tW w' b (Ji n p):=by
 obtain ⟨k,hk,q,hq,hm⟩:=hv
 exact ⟨k,by rw [h.wn]; exact hk,_,h.reach k b p q hk hs hl hq ⟨0,I,q,by simp [gN],hm⟩,h.may _ hm⟩
theorem xn.fwd (h:xn w w' n f) {b:Nat} {q:aK×Int} (hb:b≤w.n) (hq:q∈fwd w b) (hv:tW w b q):Ji n q∈Go.Proofs.YtijpnoadncadoaaGreatDoor.fwd w' b:=by
 obtain ⟨p,hp,hr⟩:=(s8 b 0 q).1 (by rw [Nat.zero_add]; exact hq)
 have hr':=h.reach b 0 p q I (vX h.low 0 p hp) (C8 hp) hr (by rw [Nat.zero_add]; exact hv)
 have:Ji n p∈Go.Proofs.YtijpnoadncadoaaGreatDoor.fwd w' 0:=by
  simp only [Go.Proofs.YtijpnoadncadoaaGreatDoor.fwd,ck] at hp ⊢
  subst hp
  rw [h.start]; rfl
 have A:=(s8 b 0 (Ji n q)).2 ⟨_,this,hr'⟩
 rwa [Nat.zero_add] at A
theorem xn.any (h:xn w w' n f) {b:Nat} (hb:b≤w.n) (hm:jX w (Go.Proofs.YtijpnoadncadoaaGreatDoor.fwd w b)=true):jX w' (Go.Proofs.YtijpnoadncadoaaGreatDoor.fwd w' b)=true:=by
 unfold jX at hm ⊢
 obtain ⟨p,hp,A⟩:=List.any_eq_true.1 hm
 exact List.any_eq_true.2 ⟨_,h.fwd hb hp ⟨0,I,p,by simp [gN],A⟩,h.may _ A⟩
theorem xn.pass (h:xn w w' n f) {b:Nat} (hb:b<w.n) {s t:Int} (hp:xZ w b s t):xZ w' b (f s) (t+n):=by
 obtain ⟨p,hp,o,ho,rfl,⟨D,G⟩,hv⟩:=hp
 have hs:=vX h.low b p hp
 have hl:=h.low b
 have A:tW w (b+1) (dK p.1 (fV o.1),max (p.2+bW w b) o.2.Lo):=yg hv D
 have e:lK w b p o=some (dK p.1 (fV o.1),max (p.2+bW w b) o.2.Lo):=ib.2 ⟨I,rfl⟩
 have B:tW w b p:=wM (k:=1) (iZ.2 ⟨o,ho,_,e,by simp [gN]⟩) A
 obtain ⟨o',ho',C,E⟩:=h.opt b p o hb hs (C8 hp) ho I A
 have c:=(E t I I).1 I
 refine ⟨Ji n p,h.fwd I hp B,o',ho',C,?_,?_⟩
 ·simp only [Ji,h.least,h.now]; omega
 ·have F:=h.Q4 (b:=b+1) (p:=(dK p.1 (fV o.1),t)) (by simp only; omega) ⟨_,gH.2 ⟨p,hp,o,ho,e⟩,D⟩ hv
  rw [C,h.one]; exact F
theorem Lz (h:xn w w' n f) (h':xn w' w (-n) g):iy w'=iy w:=by
 unfold iy
 rw [h.wn]
 unfold lh
 congr 1
 refine List.filter_congr fun b hb=>?_
 have hb:=List.mem_range.1 hb
 rw [Bool.eq_iff_iff]
 exact ⟨h'.any (by rw [h.wn]; omega),h.any I⟩
theorem Ao (h:xn w w' n f) (h':xn w' w (-n) g) {b:Nat} (hb:b<w.n) {t:Int}:(∃ q∈gp w b,q.2.Lo≤t∧t≤q.2.Hi)↔ ∃ q∈gp w' b,q.2.Lo≤t+n∧t+n≤q.2.Hi:=by
 constructor
 ·rintro ⟨q,hq,A,B⟩
  obtain ⟨q',hq',_,C⟩:=(mZ h'.low (by rw [h.wn]; exact hb)).2 (h.pass hb ((mZ h.low hb).1 ⟨q,hq,rfl,A,B⟩))
  exact ⟨q',hq',C⟩
 ·rintro ⟨q,hq,A,B⟩
  obtain ⟨q',hq',_,C⟩:=(mZ h.low hb).2 (h'.pass (by rw [h.wn]; exact hb) ((mZ h'.low (by rw [h.wn]; exact hb)).1 ⟨q,hq,rfl,A,B⟩))
  exact ⟨q',hq',I,I⟩
theorem DC (h:xn w w' n f) (hl': ∀ b,0≤bW w' b) {b:Nat} (hb:b<w.n) {s:Int} (hq: ∃ q∈gp w b,q.1=s): ∃ q∈gp w' b,q.1=f s:=by
 obtain ⟨q,hq,e⟩:=hq
 have A:q.2.Lo≤q.2.Hi:=jx hq
 obtain ⟨q',hq',e',_⟩:=(mZ hl' (by rw [h.wn]; exact hb)).2 (h.pass hb ((mZ h.low hb).1 ⟨q,hq,e,Int.le_refl _,A⟩))
 exact ⟨q',hq',e'⟩
theorem L9 (h:xn w w' n f) (h':xn w' w (-n) g) {b:Nat} (hb:b<w.n):(jw (gp w b)=jJ↔jw (gp w' b)=jJ)∧(jw (gp w b)≠jJ→jw (gp w' b)=⟨(jw (gp w b)).Lo+n,(jw (gp w b)).Hi+n⟩):=by
 have key: ∀ {u v:bZ} {m:Int},(∀ t,(∃ q∈gp u b,q.2.Lo≤t∧t≤q.2.Hi)→ ∃ q∈gp v b,q.2.Lo≤t+m∧t+m≤q.2.Hi)→jw (gp u b)≠jJ→jw (gp v b)≠jJ∧(jw (gp v b)).Lo≤(jw (gp u b)).Lo+m∧(jw (gp u b)).Hi+m≤(jw (gp v b)).Hi:=by
  intro u v m ht hn
  have A:=z_ (l:=gp u b) (fun q hq=>jx hq) hn
  obtain ⟨x,hx,ex⟩:=A.lo
  obtain ⟨y,hy,ey⟩:=A.hi
  have C:x.2.Lo≤x.2.Hi:=jx hx
  have D:y.2.Lo≤y.2.Hi:=jx hy
  obtain ⟨x',hx',G,H⟩:=ht x.2.Lo ⟨x,hx,Int.le_refl _,C⟩
  obtain ⟨y',hy',AA,J⟩:=ht y.2.Hi ⟨y,hy,D,Int.le_refl _⟩
  have B:=Bd (l:=gp v b) (fun q hq=>jx hq) hx'
  have K:=B.all x' hx'
  have L:=B.all y' hy'
  exact ⟨B.ne,I,I⟩
 have E:=key (u:=w) (v:=w') (m:=n) fun t=>(Ao h h' hb).1
 have F:=key (u:=w') (v:=w) (m:= -n) fun t hq=>(Ao h h' hb).2 (by rw [show t+ -n+n=t by omega]; exact hq)
 refine ⟨⟨fun e=>Classical.byContradiction fun q=>(F q).1 e,fun e=>Classical.byContradiction fun q=>(E q).1 e⟩,fun q=>?_⟩
 have A:=E q
 have B:=F A.1
 rw [ag.ext_iff]
 simp only
 omega
theorem IH (h:xn w w' n f) (h':xn w' w (-n) g) {b:Nat} (hb:b<w.n):vd w' b=vd w b:=by
 rw [Bool.eq_iff_iff]
 unfold vd
 simp only [List.any_eq_true,decide_eq_true_eq]
 constructor
 ·rintro ⟨q,hq,A⟩
  obtain ⟨q',hq',e⟩:=DC h' h.low (by rw [h.wn]; exact hb) ⟨q,hq,rfl⟩
  exact ⟨q',hq',by rw [e]; exact (h'.Wy _).2 A⟩
 ·rintro ⟨q,hq,A⟩
  obtain ⟨q',hq',e⟩:=DC h h'.low hb ⟨q,hq,rfl⟩
  exact ⟨q',hq',by rw [e]; exact (h.Wy _).2 A⟩
end
section
variable {l l':bg} {r r':cr} {n:Int} {f g:Int→Int}
structure q9 (l:bg) (r:cr) (l':bg) (r':cr) (n:Int) (f g:Int→Int):Prop where
 line:dw l=0
 line':dw l'=0
 jL:dW l r
 ride':dW l' r'
 JJ:l'.ab.length=l.ab.length
 to:xn (bP l r) (bP l' r') n f
 Xg:xn (bP l' r') (bP l r) (-n) g
theorem q9.ID (h:q9 l r l' r' n f g):iy (bP l' r')=iy (bP l r):=Lz h.to h.Xg
theorem q9.e (h:q9 l r l' r' n f g) {me:Int}:dG l' r' me=dG l r me:=by
 by_cases hm:me=0
 ·by_cases q:iy (bP l r)=[]
  ·rw [ia h.line h.jL hm q,ia h.line' h.ride' hm (h.ID.trans q)]
  ·rw [l3 h.line h.jL hm q,l3 h.line' h.ride' hm (by rw [h.ID]; exact q)]
 ·rw [rN h.line h.jL hm,rN h.line' h.ride' hm]
theorem q9.Bc (h:q9 l r l' r' n f g):ir l' r'=ir l r:=by
 by_cases q:dG l r 0=0
 ·rw [k7 q,k7 (h.e.trans q),h.ID]
 ·rw [n7 q,n7 (by rw [h.e]; exact q)]
theorem q9.re (h:q9 l r l' r' n f g) {b:Int}:iA l' b=iA l b:=by unfold iA; rw [h.JJ]
theorem q9.bn (h:q9 l r l' r' n f g):(bP l r).n=l.ab.length:=cE
theorem q9.E1 (h:q9 l r l' r' n f g) {b:Nat} (hb:b<l.ab.length):dj l' r' b=dj l r b∧(dj l r b=0→cV l' r' b=⟨(cV l r b).Lo+n,(cV l r b).Hi+n⟩)∧(¬ dj l r b=0→cV l' r' b=cV l r b):=by
 have hh:=L9 h.to h.Xg (b:=b) (by rw [h.bn]; exact hb)
 by_cases ho:dG l r (iA l b)=0
 ·have ho':dG l' r' (iA l' b)=0:=by rw [h.re,h.e]; exact ho
  by_cases e:lv l r b=jJ
  ·have A:=lX ho e
   have B:=lX ho' (hh.1.1 e)
   exact ⟨B.1.trans A.1.symm,fun q=>by rw [A.1] at q; omega,fun _=>B.2.trans A.2.symm⟩
  ·have A:=jy ho e
   have B:=jy ho' (fun q=>e (hh.1.2 q))
   refine ⟨B.1.trans A.1.symm,fun _=>?_,fun q=>absurd A.1 q⟩
   rw [B.2,A.2]; exact hh.2 e
 ·have A:=jF ho
  have B:=jF (l:=l') (r:=r') (b:=(b:Int)) (by rw [h.re,h.e]; exact ho)
  rw [h.re,h.e] at B
  exact ⟨B.1.trans A.1.symm,fun q=>absurd (A.1.symm.trans q) ho,fun _=>B.2.trans A.2.symm⟩
theorem q9.fp (h:q9 l r l' r' n f g):uI l' r'=uI l r:=by
 by_cases q:dG l r 0=0
 ·rw [tH q,tH (h.e.trans q),h.Bc]
  have hb:=Ti q
  unfold xS
  congr 1
  refine List.filter_congr fun b A=>?_
  have A:=List.mem_range.1 A
  rw [IH h.to h.Xg (by rw [h.bn]; omega)]
 ·rw [zx q,zx (by rw [h.e]; exact q)]
end
end
section
theorem BR {c:ax} (h:eK c) {rd t:Int} (ht:0≤t∧t≤86400000):((hH c t).Lo≤rd-t∧rd-t≤(hH c t).Hi)↔((mD c rd).Lo≤t∧t≤(mD c rd).Hi):=by
 obtain ⟨C,D,E,F⟩:=kU h (r:=rd) ht.1 I
 unfold mD
 simp only
 constructor
 ·rintro ⟨a,b⟩
  refine ⟨?_,?_⟩
  ·rcases Int.lt_or_le t (fJ (gv c rd) 86400001) with q|q
   ·have:=C q
    unfold gv at this
    have:=of_decide_eq_false this
    omega
   ·exact q
  ·rcases Int.lt_or_le t (fJ (gu c rd) 86400001) with q|q
   ·omega
   ·have:=F q
    unfold gu at this
    have:=of_decide_eq_true this
    omega
 ·rintro ⟨a,b⟩
  have A:=D a
  have B:=E I
  unfold gv at A
  unfold gu at B
  have A:=of_decide_eq_true A
  have B:=of_decide_eq_false B
  omega
theorem Ug (a b:Int) (ha:0≤a) (hb:0<b):0≤a % b∧a % b<b:=⟨Int.emod_nonneg _ (Int.ne_of_gt hb),Int.emod_lt_of_pos _ hb⟩
theorem n9 {l:bg} (ht:du l.aR=true) (h:mh l) {i:Nat} (hi:i<l.ab.length):1≤eu l i∧eu l i≤500000000:=by
 have A:=h.Q5 i hi
 have B:=DK ht h.re i
 have hf:=h.head.1
 unfold eu pJ
 refine ⟨(Int.le_ediv_iff_mul_le I).2 I,?_⟩
 have:(1000*l8 l i+l.iN-1)/l.iN≤1000*l8 l i+l.iN-1:=Int.ediv_le_self _ I
 omega
end
section
def jr (n:Int) (x:cz):cz:=⟨x.At+n,x.eB⟩
def eX (n:Int) (c:ax):ax:=⟨c.dD,c.bu.map (jr n)⟩
def gd (n:Int) (l:bg):bg:=⟨l.aR,l.iN,l.aj.map (eX n),l.ab,l.bM,l.fT,l.dE⟩
def gZ (n:Int) (s:aH):aH:=⟨s.eZ,s.Read+n⟩
def fR (n:Int) (r:cr):cr:=⟨r.Start+n,r.fI+n,r.aa.map (gZ n)⟩
section
variable {n t rd:Int} {c:ax} {l:bg} {r:cr} {s:aH}
theorem CO:hH (eX n c) (t+n)=hH c t:=by
 unfold hH eX
 simp only
 rw [List.foldl_map]
 congr 1
 funext s x
 unfold l0 tg jr
 simp only
 rw [show t+n-(x.At+n)=t-x.At by omega,show x.At+n-(t+n)=x.At-t by omega]
theorem Fc (h:eK c) (h':eK (eX n c)) (ht:0≤t∧t≤86400000) (ht':0≤t+n∧t+n≤86400000):
 ((mD c rd).Lo≤t∧t≤(mD c rd).Hi)↔((mD (eX n c) (rd+n)).Lo≤t+n∧t+n≤(mD (eX n c) (rd+n)).Hi):=by
 rw [← BR h ht,← BR h' ht',CO,show rd+n-(t+n)=rd-t by omega]
theorem w9:my (gd n l) (gZ n s)=eX n (my l s):=by
 unfold my gd gZ
 simp only
 cases l.ab[s.eZ.toNat]? with
 |none=>rfl
 |some b=>
  simp only [Option.bind_some,dL]
  cases l.aj[b.jW.toNat]? with
  |none=>rfl
  |some c=>rfl
theorem zc (hl:dw l=0) (hs:iI l s):eK (my l s):=by
 obtain ⟨_,A⟩:=dq hl
 have B:=hs.1
 have hy:l.ab[s.eZ.toNat]? =some (l.ab[s.eZ.toNat]'I):=eU _
 have hb:=(A.re _ (aQ hy)).2
 have hc:l.aj[(l.ab[s.eZ.toNat]'I).jW.toNat]? =some (l.aj[(l.ab[s.eZ.toNat]'I).jW.toNat]'I):=eU _
 rw [tL hy hc]
 exact A.clock _ (aQ hc)
theorem z6 (hl:dw l=0) (hl':dw (gd n l)=0) (hr:dW l r) (hr':dW (gd n l) (fR n r)):xn (bP l r) (bP (gd n l) (fR n r)) n id:=by
 obtain ⟨ht,F⟩:=dq hl
 have hw:=kO ht F hr
 have M:(bP l r).n=l.ab.length:=cE
 have N:=hr.time
 have AA:=hr'.time
 refine ⟨U,U,?_,fun b=>(hw.bW b).1,fun b=>?_,fun t C=>?_,fun s=>Iff.rfl,?_⟩
 ·show (cd _ _).length=(cd _ _).length
  rw [cE,cE]; rfl
 ·rw [sI,sI]; rfl
 ·unfold lf at C ⊢
  have e:(bP (gd n l) (fR n r)).Ky=(bP l r).Ky:=by
   show ((r.aa.map (gZ n)).length:Int)=(r.aa.length:Int)
   rw [List.length_map]
  rw [e]; exact C
 ·intro b p o hb hs L ho B hv
  have hb':b<l.ab.length:=by omega
  have K:=(hw.bW b).1
  have O:(bP l r).Start=r.Start:=rfl
  have P:(bP l r).fI=r.fI:=rfl
  rcases (oK hb').1 ho with rfl|⟨k,hk,s,A,⟨D,J⟩,rfl⟩
  ·refine ⟨(-1,⟨(fR n r).Start,(fR n r).fI⟩),(oK (l:=gd n l) (r:=fR n r) hb').2 (.inl U),U,fun t _ _=>?_⟩
   simp only [fR]; omega
  ·have E:=(hr.sig k s A).1
   have hks':(fR n r).aa[k]? =some (gZ n s):=by
    show (r.aa.map (gZ n))[k]? =_
    rw [dL,A]; rfl
   have hin':=(hr'.sig k _ hks').1
   have hc:=zc hl E
   have hc':=zc hl' hin'
   rw [w9] at hc'
   have key: ∀ t,r.Start≤t→t≤r.fI→(((cJ l s).Lo≤t∧t≤(cJ l s).Hi)↔((cJ (gd n l) (gZ n s)).Lo≤t+n∧t+n≤(cJ (gd n l) (gZ n s)).Hi)):=fun t G H=>by
    unfold cJ
    rw [w9]
    simp only [fR] at AA
    exact Fc hc hc' I I
   have Q:=(key (max (p.2+bW (bP l r) b) (cJ l s).Lo) I (by simp only at B; omega)).1 (by simp only at B; omega)
   refine ⟨((k:Int),cJ (gd n l) (gZ n s)),(oK (l:=gd n l) (r:=fR n r) hb').2 (.inr ⟨k,by show k<(r.aa.map (gZ n)).length; rw [List.length_map]; exact hk,gZ n s,hks',⟨D,I⟩,U⟩),U,fun t G H=>key t G H⟩
theorem tN:gd (-n) (gd n l)=l:=by
 unfold gd
 simp only [List.map_map]
 have:l.aj.map (eX (-n)∘eX n)=l.aj:=by
  conv=>rhs; rw [← List.map_id l.aj]
  refine List.map_congr_left fun c _=>?_
  unfold eX
  simp only [Function.comp,List.map_map,id]
  have A:c.bu.map (jr (-n)∘jr n)=c.bu:=by
   conv=>rhs; rw [← List.map_id c.bu]
   refine List.map_congr_left fun x _=>?_
   unfold jr
   simp only [Function.comp,id]
   rw [show x.At+n+ -n=x.At by omega]
  exact congrArg (ax.mk c.dD) A
 rw [this]
theorem xw:fR (-n) (fR n r)=r:=by
 unfold fR
 simp only [List.map_map]
 have:r.aa.map (gZ (-n)∘gZ n)=r.aa:=by
  conv=>rhs; rw [← List.map_id r.aa]
  refine List.map_congr_left fun x _=>?_
  unfold gZ
  simp only [Function.comp,id]
  rw [show x.Read+n+ -n=x.Read by omega]
 rw [this,show r.Start+n+ -n=r.Start by omega,show r.fI+n+ -n=r.fI by omega]
theorem Hs (hl:dw l=0) (hl':dw (gd n l)=0) (hr:dW l r) (hr':dW (gd n l) (fR n r)):q9 l r (gd n l) (fR n r) n id id:=by
 refine ⟨hl,hl',hr,hr',U,z6 hl hl' hr hr',?_⟩
 have h:=z6 (n:= -n) hl' (by rw [tN]; exact hl) hr' (by rw [tN,xw]; exact hr)
 rw [tN,xw] at h
 exact h
end
def df {α:Type} (f:α→α) (k:Nat) (l:List α):List α:=(l.take k).map f++l.drop k
section
variable {α:Type} {f:α→α} {k:Nat} {l:List α} {x:α}
@[simp] theorem iO:(df f k l).length=l.length:=by unfold df; rw [List.length_append,List.length_map,List.length_take,List.length_drop]; omega
theorem nR:(df f k l)[k]? =l[k]? :=by
 unfold df
 rcases Nat.lt_or_ge k l.length with c|c
 ·rw [List.getElem?_append_right (by rw [List.length_map,List.length_take]; omega),List.length_map,List.length_take,List.getElem?_drop]
  congr 1
  omega
 ·rw [List.getElem?_eq_none c,List.getElem?_eq_none]
  rw [List.length_append,List.length_map,List.length_take,List.length_drop]; omega
theorem nj (h:l[k]? =some x):(df f k l).set k (f x)=df f (k+1) l:=by
 have hk:=(aX.1 h).1
 unfold df
 rw [List.set_append_right _ _ (by rw [List.length_map,List.length_take]; omega),List.length_map,List.length_take,show k-min k l.length=0 by omega]
 rw [List.take_add_one,h,List.map_append,List.append_assoc]
 congr 1
 have e:l.drop k=x::l.drop (k+1):=by
  rw [List.drop_eq_getElem_cons hk]
  congr 1
  have:=eU hk
  rw [h] at this
  exact (Option.some.inj this).symm
 rw [e]; rfl
theorem kS:df f 0 l=l:=by simp [df]
theorem oF (h:l.length≤k):df f k l=l.map f:=by unfold df; rw [List.take_of_length_le h,List.drop_eq_nil_of_le h,List.append_nil]
end
section
variable {n:Int} {l:bg} {bz:List RA}
theorem Hg {ms:List ax}:List.zipWith ax.cells (ms.map (eX n)) bz=List.zipWith ax.cells ms bz:=by
 rw [List.zipWith_map_left]
 congr 1
 funext m a
 unfold ax.cells eX
 simp only [List.length_map]
theorem Hd (h:ep l bz):qm (gd n l) bz:=by
 have A:qm l bz:=⟨by have:=h.sZ; omega,h.side,by have:=h.rn; omega,h.n_,by have:=h.sB; omega,fun k m a hm ha=>by have:=h.Rr k m a hm ha; omega⟩
 refine ⟨A.sZ,A.side,?_,?_,A.sB,fun k m a hm ha=>?_⟩
 ·show (l.aj.map (eX n)).length≤_
  rw [List.length_map]; exact A.rn
 ·show bz.length=(l.aj.map (eX n)).length
  rw [List.length_map]; exact A.n_
 ·change (l.aj.map (eX n))[k]? =some m at hm
  rw [dL] at hm
  obtain ⟨c,hc,rfl⟩:=Option.map_eq_some_iff.1 hm
  have:=A.Rr k c a hc ha
  show (c.bu.map (jr n)).length≤_∧(c.bu.map (jr n)).length≤_
  rw [List.length_map]; exact this
end
section
variable {l l':bg} {r r':cr} {n:Int} {f g:Int→Int}
end
end
section
def dh (n:Int) (f:aL):aL:=⟨f.Kind,f.eW,f.gI+n,f.To+n⟩
def gF (n:Int) (p:aT):aT:=⟨p.Id,p.iX,p.jo,p.iM,p.At+n⟩
def wF (n:Int) (d:ao):ao:=if jn d then ⟨d.Out,d.cY,d.Time,fR n d.aZ⟩ else d
/-- a passing that is later by as much -/
structure ES (n:Int) (a a':wW):Prop where
 each:a'.each=a.each
 never:a'.never=a.never
 no:a.never=true→a.Lo=86400000∧a.Hi=86400000∧a'.Lo=86400000∧a'.Hi=86400000
 lo:a.never=false→a'.Lo=a.Lo+n
 hi:a.never=false→a.each=true→a'.Hi=a.Hi+n
 open_:a.never=false→a.each=false→a.Hi=86400000∧a'.Hi=86400000
section
variable {n:Int} {l:bg} {r:cr} {b:Int} {f:aL} {d:ao} {j:cR} {p:aT}
theorem tY (h:q9 l r (gd n l) (fR n r) n id id) (hb:b<(l.ab.length:Int)):ES n (cj l r b) (cj (gd n l) (fR n r) b):=by
 by_cases c:b<0
 ·have e:cj l r b=⟨r.Start,r.Start,true,false⟩:=if_pos c
  have e':cj (gd n l) (fR n r) b=⟨r.Start+n,r.Start+n,true,false⟩:=if_pos c
  rw [e,e']
  exact ⟨rfl,rfl,fun q=>(by cases q),fun _=>rfl,fun _ _=>rfl,fun _ q=>(by cases q)⟩
 ·obtain ⟨m,rfl⟩: ∃ m:Nat,b=(m:Int):=⟨b.toNat,I⟩
  have hp:=h.E1 (b:=m) I
  have he:nK (gd n l) (fR n r) (m:Int)=nK l r (m:Int):=by unfold nK; rw [h.Bc]
  by_cases k:dj l r (m:Int)=0
  ·have e:cj l r (m:Int)=⟨(cV l r m).Lo,if nK l r m=true then (cV l r m).Hi else 86400000,nK l r m,false⟩:=by unfold cj; rw [if_neg c,if_pos k]
   have e':cj (gd n l) (fR n r) (m:Int)=⟨(cV l r m).Lo+n,if nK l r m=true then (cV l r m).Hi+n else 86400000,nK l r m,false⟩:=by unfold cj; rw [if_neg c,if_pos (hp.1.trans k),he,hp.2.1 k]
   rw [e,e']
   refine ⟨rfl,rfl,fun q=>(by cases q),fun _=>rfl,fun _ q=>?_,fun _ q=>?_⟩
   ·simp only at q ⊢; rw [if_pos q,if_pos q]
   ·simp only at q ⊢; rw [if_neg (by rw [q]; decide),if_neg (by rw [q]; decide)]; exact ⟨rfl,rfl⟩
  ·have e:cj l r (m:Int)=⟨86400000,86400000,false,true⟩:=by unfold cj; rw [if_neg c,if_neg k]
   have e':cj (gd n l) (fR n r) (m:Int)=⟨86400000,86400000,false,true⟩:=by unfold cj; rw [if_neg c,if_neg (by rw [hp.1]; exact k)]
   rw [e,e']
   exact ⟨rfl,rfl,fun _=>⟨rfl,rfl,rfl,rfl⟩,fun q=>(by cases q),fun q=>(by cases q),fun q=>(by cases q)⟩
theorem Dd {a b a' b':wW} (ha:ES n a a') (hb:ES n b b') (hf:f.gI≤86400000) (hf':f.gI+n≤86400000):lg (dh n f) a' b'=lg f a b:=by
 obtain ⟨E,C,L,F,G,M⟩:=ha
 obtain ⟨N,O,D,H,AA,J⟩:=hb
 have A:b'.Hi<f.gI+n↔b.Hi<f.gI:=by
  cases q:b.never with
  |true=>have:=D q; omega
  |false=>
   cases s:b.each with
   |true=>have:=AA q s; omega
   |false=>have:=J q s; omega
 have B:f.gI+n≤b'.Lo↔f.gI≤b.Lo:=by
  cases q:b.never with
  |true=>have:=D q; omega
  |false=>have:=H q; omega
 cases q:a.never with
 |true=>
  have e:lg f a b=0:=if_pos (.inl q)
  have e':lg (dh n f) a' b'=0:=if_pos (.inl (C.trans q))
  rw [e,e']
 |false=>
  have K:=F q
  have hc:(a'.never=true∨(dh n f).To<a'.Lo∨b'.Hi<(dh n f).gI)↔(a.never=true∨f.To<a.Lo∨b.Hi<f.gI):=by
   rw [C]
   show (_∨f.To+n<a'.Lo∨b'.Hi<f.gI+n)↔_
   rw [A,K]
   constructor<;>rintro (z|z|z)
   ·exact .inl z
   ·exact .inr (.inl I)
   ·exact .inr (.inr z)
   ·exact .inl z
   ·exact .inr (.inl I)
   ·exact .inr (.inr z)
  have hs:(a'.each=true∧p7 (dh n f) a' b')↔(a.each=true∧p7 f a b):=by
   rw [E]
   refine and_congr_right fun s=>?_
   have P:=G q s
   unfold p7
   show (if f.Kind=3 then f.gI+n≤a'.Lo∧a'.Hi≤f.To+n else a'.Hi≤f.To+n∧f.gI+n≤b'.Lo)↔_
   by_cases k:f.Kind=3
   ·rw [if_pos k,if_pos k]; omega
   ·rw [if_neg k,if_neg k,B]; omega
  unfold lg
  by_cases c:a.never=true∨f.To<a.Lo∨b.Hi<f.gI
  ·rw [if_pos c,if_pos (hc.2 c)]
  ·rw [if_neg c,if_neg (fun z=>c (hc.1 z))]
   by_cases s:a.each=true∧p7 f a b
   ·rw [if_pos s,if_pos (hs.2 s)]
   ·rw [if_neg s,if_neg (fun z=>s (hs.1 z))]
theorem xd:jn (wF n d)↔jn d:=by
 unfold wF
 by_cases h:jn d
 ·rw [if_pos h]; exact ⟨fun _=>h,fun _=>h⟩
 ·rw [if_neg h]
theorem Ds (hs:jn d→q9 l d.aZ (gd n l) (fR n d.aZ) n id id) (hw:uU f<(l.ab.length:Int)∧OB l f<(l.ab.length:Int)) (hf:f.gI≤86400000) (hf':f.gI+n≤86400000):gf (gd n l) (dh n f) (wF n d)=gf l f d:=by
 by_cases h:jn d
 ·have e:wF n d=⟨d.Out,d.cY,d.Time,fR n d.aZ⟩:=if_pos h
  unfold gf
  rw [if_pos h,if_pos (xd.2 h),e]
  exact Dd (tY (hs h) hw.1) (tY (hs h) hw.2) hf hf'
 ·unfold gf
  rw [if_neg h,if_neg (fun q=>h (xd.1 q))]
end
end
section
/-- the places of which something is so; from the k-th on, all of them -/
def iH (P:Nat→Bool) (n k:Nat):List (Int×Bool):=((List.range n).filter fun q=>decide (k≤q)||P q).map fun (q:Nat)=>((q:Int),true)
section
variable {P:Nat→Bool} {n k q:Nat}
theorem za {p:Int×Bool}:p∈iH P n k↔ ∃ q:Nat,q<n∧(k≤q∨P q=true)∧p=((q:Int),true):=by
 unfold iH
 simp only [cp,List.mem_filter,List.mem_range,Bool.or_eq_true,decide_eq_true_eq]
 constructor
 ·rintro ⟨q,⟨A,B⟩,rfl⟩; exact ⟨q,A,B,rfl⟩
 ·rintro ⟨q,A,B,rfl⟩; exact ⟨q,⟨A,B⟩,rfl⟩
theorem HO:((iH P n k).map (·.1)).Nodup:=by
 unfold iH
 rw [List.map_map,List.nodup_iff_pairwise_ne,List.pairwise_map]
 have h:(List.range n).Pairwise (· ≠ ·):=by rw [← List.nodup_iff_pairwise_ne]; exact List.nodup_range
 exact (h.sublist List.filter_sublist).imp fun {a b} A e=>A (by have B:(a:Int)=(b:Int):=e; omega)
theorem Jn:eA (iH P n 0) (n:Int) true=iH P (n+1) 0:=by
 have A:(iH P n 0).lookup (n:Int)=none:=ij.2 fun p hp e=>by
  obtain ⟨q,B,_,rfl⟩:=za.1 hp
  simp only at e; omega
 unfold eA
 rw [A]
 show iH P n 0++[((n:Int),true)]=_
 unfold iH
 rw [List.range_succ,List.filter_append,List.map_append]
 simp
theorem JA (h:P k=false):fH (iH P n k) (k:Int)=iH P n (k+1):=by
 unfold fH iH
 rw [List.filter_map,List.filter_filter]
 congr 1
 apply List.filter_congr
 intro q _
 by_cases e:q=k
 ·subst e; simp [h]
 ·have A:decide ((q:Int)=(k:Int))=false:=bI I
  have B:decide (k≤q)=decide (k+1≤q):=g5.2 I
  simp only [Function.comp_def,A,B,Bool.not_false,Bool.true_and]
theorem Ho (h:P k=true):iH P n k=iH P n (k+1):=by
 unfold iH
 congr 1
 apply List.filter_congr
 intro q _
 by_cases e:q=k
 ·subst e; simp [h]
 ·have A:decide (k≤q)=decide (k+1≤q):=g5.2 I
  rw [A]
theorem Aq (hq:q<n):((iH P n n).lookup (q:Int)).getD false=P q:=by
 cases h:P q with
 |true=>
  have:((q:Int),true)∈iH P n n:=za.2 ⟨q,hq,.inr h,rfl⟩
  rw [(lW HO).1 this]; rfl
 |false=>
  have:(iH P n n).lookup (q:Int)=none:=ij.2 fun p hp e=>by
   obtain ⟨u,B,A,rfl⟩:=za.1 hp
   simp only at e
   obtain rfl:u=q:=by omega
   rcases A with A|A
   ·omega
   ·rw [h] at A; cases A
  rw [this]; rfl
end
end
section
open Go.RowKit
structure gY (j:cR) (az:List RA) (ha:List cN):Prop where
 race:lO j.Race az ha
 nf:j.aC.length≤1000000
 np:j.aw.length≤1000000
 kind: ∀ f∈j.aC,0≤f.Kind∧f.Kind≤255
structure po (j:cR) (az:List RA) (ha:List cN):Prop where
 race:sJ j.Race az ha
 nf:j.aC.length≤9223372036854775807
 np:j.aw.length≤9223372036854775807
 kind: ∀ f∈j.aC,0≤f.Kind∧f.Kind≤255
def pI (j:cR):Prop:=(mI j.Race∨10<(j.aC.length:Int))∨15<(j.aw.length:Int)
noncomputable instance (j:cR):Decidable (pI j):=Classical.propDecidable _
theorem Gb {j:cR} (h: ¬ pI j): ¬ mI j.Race∧(j.aC.length:Int)≤10∧(j.aw.length:Int)≤15:=by
 unfold pI at h
 have A: ¬ mI j.Race:=fun q=>h (.inl (.inl q))
 have B: ¬ 10<(j.aC.length:Int):=fun q=>h (.inl (.inr q))
 have C: ¬ 15<(j.aw.length:Int):=fun q=>h (.inr q)
 exact ⟨A,I,I⟩
theorem po.small {j:cR} {az:List RA} {ha:List cN} (h:po j az ha) (hg: ¬ pI j):gY j az ha:=by
 have A:=Gb hg
 exact ⟨h.race.small A.1,I,I,h.kind⟩
def pA (fin:Int) (f:aL):Prop:=(1≤f.Kind∧f.Kind≤3)∧(0≤f.gI∧f.gI≤f.To∧f.To≤86400000)∧0≤f.eW∧f.eW≤(if f.Kind=1 then 0 else fin)
instance (fin:Int) (f:aL):Decidable (pA fin f):=by unfold pA; infer_instance
theorem Nz {P:Nat→Bool} {n i:Nat} (h: ¬ 0<((mA P n).length:Int)) (hi:i<n):P i=false:=by
 cases e:P i with
 |false=>rfl
 |true=>
  have:(i:Int)∈mA P n:=Ex.2 ⟨i,hi,rfl,e⟩
  have:=List.length_pos_of_mem this
  omega
theorem NL {P:Nat→Bool} {n:Nat} (h:0<((mA P n).length:Int)): ∃ i,i<n∧P i=true:=by
 obtain ⟨x,hx⟩:=List.exists_mem_of_length_pos (l:=mA P n) I
 obtain ⟨i,A,_,B⟩:=Ex.1 hx
 exact ⟨i,A,B⟩
def iL {α:Type} (l:List α) (p:Int→α→Bool) (i:Nat):Bool:=(l[i]?).any (p (i:Int))
theorem sN {α:Type} {l:List α} {p:Int→α→Bool} {i:Nat} {x:α} (h:l[i]? =some x):iL l p i=p (i:Int) x:=by unfold iL; rw [h]; rfl
section
variable {fin:Int} {f:aL} {j:cR}
theorem uD (hk:f.Kind=1):pA fin f↔(0≤f.gI∧f.gI≤f.To∧f.To≤86400000)∧0≤f.eW∧f.eW≤0:=by
 unfold pA; rw [if_pos hk]; omega
theorem uZ (hk: ¬ f.Kind=1):pA fin f↔(1≤f.Kind∧f.Kind≤3)∧(0≤f.gI∧f.gI≤f.To∧f.To≤86400000)∧0≤f.eW∧f.eW≤fin:=by
 unfold pA; rw [if_neg hk]
theorem ED (h:0<((mA (iL j.aC fun _ f=>decide (¬ pA j.Race.ak.bM f)) j.aC.length).length:Int)): ¬ qn j:=fun q=>by
 obtain ⟨i,hi,hb⟩:=NL h
 have hx:j.aC[i]? =some (j.aC[i]'hi):=eU hi
 rw [sN hx] at hb
 exact (of_decide_eq_true hb) (q.fault _ (aQ hx))
theorem Dt (h: ¬ 0<((mA (iL j.aC fun _ f=>decide (¬ pA j.Race.ak.bM f)) j.aC.length).length:Int)): ∀ f∈j.aC,fh j.Race.ak f:=fun f hf=>by
 obtain ⟨i,hi⟩:=List.mem_iff_getElem?.1 hf
 have hb:=Nz h (aX.1 hi).1
 rw [sN hi] at hb
 exact Decidable.of_not_not (of_decide_eq_false hb)
theorem BP {b:Bool} {p q:Prop} (h1:b=false) (h2: ¬ p) (h3: ¬ q): ¬ (b=true∨p∨q):=by
 rintro (h|h|h)
 ·rw [h1] at h; cases h
 ·exact h2 h
 ·exact h3 h
end
section
variable {l:bg} {r:cr} {b:Int} {f:aL} {d:ao} {a c:wW}
theorem HF (h:b<0):cj l r b=⟨r.Start,r.Start,true,false⟩:=if_pos h
theorem DD (h: ¬ b<0) (e: ¬ dj l r b=0):cj l r b=⟨86400000,86400000,false,true⟩:=by unfold cj; rw [if_neg h,if_neg e]
theorem zT (h: ¬ b<0) (e:dj l r b=0) (q:nK l r b=true):cj l r b=⟨(cV l r b).Lo,(cV l r b).Hi,true,false⟩:=by unfold cj; rw [if_neg h,if_pos e,q]; rfl
theorem zm (h: ¬ b<0) (e:dj l r b=0) (q:nK l r b=false):cj l r b=⟨(cV l r b).Lo,86400000,false,false⟩:=by unfold cj; rw [if_neg h,if_pos e,q]; rfl
theorem vG (h:dj l r b=0) (hb:0≤b):dG l r 0=0:=by
 by_cases e:dG l r (iA l b)=0
 ·by_cases c:0≤b∧b≤(l.ab.length:Int)-1
  ·rw [uX c] at e; exact e
  ·rw [show iA l b=2 from if_neg c] at e
   have:=(iG e).2.2.1
   omega
 ·rw [(jF e).1] at h; exact absurd h e
theorem D1 (h:dG l r 0=0):nK l r b=decide (b<oE (ir l r)):=by
 have hm:=G3 (wi h)
 unfold nK
 rw [Bool.eq_iff_iff,de,decide_eq_true_iff]
 constructor
 ·intro q; exact of_decide_eq_true (q _ hm.1)
 ·intro q x hx
  have:=hm.2 x hx
  exact dM I
theorem Nk (hb:0≤b):(0≤(cj l r b).Lo∧(cj l r b).Lo≤86400000)∧0≤(cj l r b).Hi∧(cj l r b).Hi≤86400000:=by
 by_cases e:dj l r b=0
 ·have A:=uM e
  cases q:nK l r b with
  |true=>rw [zT I e q]; simp only; omega
  |false=>rw [zm I e q]; simp only; omega
 ·rw [DD I e]; simp only; omega
theorem j6 (hk:f.Kind=1) (hr:jn d):gf l f d=lg f (cj l d.aZ (-1)) (cj l d.aZ l.bM):=by
 unfold gf uU OB; rw [if_pos hr,if_pos hk,if_pos hk]
theorem j5 (hk:f.Kind=2) (hr:jn d):gf l f d=lg f (cj l d.aZ (f.eW-1)) (cj l d.aZ f.eW):=by
 unfold gf uU OB; rw [if_pos hr,if_neg I,if_pos hk,if_neg I]
theorem j3 (hk:f.Kind=3) (hr:jn d):gf l f d=lg f (cj l d.aZ f.eW) (cj l d.aZ f.eW):=by
 unfold gf uU OB; rw [if_pos hr,if_neg I,if_neg I,if_neg I]
theorem h_ (h:a.never=true∨f.To<a.Lo∨c.Hi<f.gI):lg f a c=0:=if_pos h
theorem pO (h: ¬ (a.never=true∨f.To<a.Lo∨c.Hi<f.gI)) (q:a.each=true) (s:p7 f a c):lg f a c=2:=by unfold lg; rw [if_neg h,if_pos ⟨q,s⟩]
theorem j8 (h: ¬ (a.never=true∨f.To<a.Lo∨c.Hi<f.gI)) (q: ¬ (a.each=true∧p7 f a c)):lg f a c=1:=by unfold lg; rw [if_neg h,if_neg q]
theorem o1 (hk: ¬ f.Kind=3):p7 f a c↔a.Hi≤f.To∧f.gI≤c.Lo:=by unfold p7; rw [if_neg hk]
theorem By (hk:f.Kind=3):p7 f a c↔ag.mk (max a.Lo f.gI) (min a.Hi f.To)=ag.mk a.Lo a.Hi:=by
 unfold p7; rw [if_pos hk]
 constructor
 ·intro q; congr 1<;>omega
 ·intro q; injection q with A B; omega
end
section
variable {j:cR} {p:aT} {d:ao} {f:aL}
theorem RL (hd:pb j p=some d) (h:p.At≤(cj j.Race.ak d.aZ j.Race.ak.bM).Lo+60000*j.eh):l5 j p=0:=by unfold l5; rw [hd]; exact if_pos h
theorem RO (hd:pb j p=some d) (h: ¬ p.At≤(cj j.Race.ak d.aZ j.Race.ak.bM).Lo+60000*j.eh) (h2:p.At≤(cj j.Race.ak d.aZ j.Race.ak.bM).Hi+60000*j.eh):l5 j p=1:=by unfold l5; rw [hd]; simp only; rw [if_neg h,if_pos h2]
theorem QQ (hd:pb j p=some d) (h: ¬ p.At≤(cj j.Race.ak d.aZ j.Race.ak.bM).Lo+60000*j.eh) (h2: ¬ p.At≤(cj j.Race.ak d.aZ j.Race.ak.bM).Hi+60000*j.eh):l5 j p=2:=by unfold l5; rw [hd]; simp only; rw [if_neg h,if_neg h2]
theorem Mw (h:l5 j p=2):gO j p=false:=by unfold gO; split<;>simp [h]
theorem Kz (hd:pb j p=some d) (hf:j.aC[p.iM.toNat]? =some f) (h: ¬ l5 j p=2):gO j p= !decide (gf j.Race.ak f d=0):=by unfold gO; rw [hd,hf]; simp [h]
end
section
variable {j:cR} {i k:Nat} {p q:aT} {f:aL} {d:ao}
/-- the first faults are right -/
def pY (j:cR) (k:Nat):Prop:= ∀ (i:Nat) f,i<k→j.aC[i]? =some f→fh j.Race.ak f
theorem B0:pY j 0:=fun i f h=>absurd h (Nat.not_lt_zero _)
theorem rF (h:pY j k) (hf:j.aC[k]? =some f) (ho:fh j.Race.ak f):pY j (k+1):=fun i g hi hg=>by
 rcases Nat.lt_or_ge i k with c|c
 ·exact h i g c hg
 ·obtain rfl:i=k:=by omega
  rw [hf] at hg; cases hg; exact ho
theorem dZ (h:pY j k) (hk:j.aC.length≤k): ∀ f∈j.aC,fh j.Race.ak f:=fun f hf=>by
 obtain ⟨i,hi⟩:=List.mem_iff_getElem?.1 hf
 exact h i f (by have:=(aX.1 hi).1; omega) hi
/-- the first protests are right -/
def o8 (j:cR) (k:Nat):Prop:= ∀ (i:Nat) p,i<k→j.aw[i]? =some p→vQ j i p
theorem y_:o8 j 0:=fun i f h=>absurd h (Nat.not_lt_zero _)
theorem ub (h:o8 j k) (hp:j.aw[k]? =some p) (ho:vQ j k p):o8 j (k+1):=fun i g hi hg=>by
 rcases Nat.lt_or_ge i k with c|c
 ·exact h i g c hg
 ·obtain rfl:i=k:=by omega
  rw [hp] at hg; cases hg; exact ho
/-- the number of the last protest, so far -/
def qh (j:cR) (k:Nat):Int:=match k with
 |0=> -1
 |k+1=>match j.aw[k]? with
  |some p=>p.Id
  |none=> -1
theorem oR (hp:j.aw[k]? =some p):qh j (k+1)=p.Id:=by unfold qh; simp only [hp]
theorem Nh (h:o8 j k) (hk:k≤j.aw.length): -1≤qh j k∧qh j k≤9999:=by
 cases k with
 |zero=>exact ⟨by simp [qh],by simp [qh]⟩
 |succ k=>
  obtain ⟨p,hp⟩: ∃ p,j.aw[k]? =some p:=⟨j.aw[k]'I,eU _⟩
  have:=(h k p I hp).id
  rw [oR hp]; omega
theorem p_ {ht:List ao} (hh:j.Race.aA[p.jo.toNat]? =some ht) (hd:ht[p.iX.toNat]? =some d):pb j p=some d:=by
 unfold pb; rw [hh]; exact hd
theorem OZ (hp:j.aw[k]? =some p) (hi:qh j k+1≤p.Id∧p.Id≤9999) (h0: -1≤qh j k) (hs:0≤p.iX∧p.iX≤(j.Race.aY.length:Int)-1) (hh:0≤p.jo∧p.jo≤(j.Race.aA.length:Int)-1) (hf:0≤p.iM∧p.iM≤(j.aC.length:Int)-1) (hd:pb j p=some d) (hr:jn d) (ha:d.aZ.Start≤p.At∧p.At≤86400000):vQ j k p:=by
 refine ⟨I,fun q B A=>?_,hs,hh,hf,d,hd,hr,ha⟩
 cases k with
 |zero=>omega
 |succ k=>
  rw [Nat.add_sub_cancel] at A
  rw [oR A] at hi
  omega
/-- one that is wrong -/
theorem sY (hp:j.aw[k]? =some p) (h: ¬ vQ j k p): ¬ qn j:=fun q=>h (q.hE k p hp)
theorem xR (h:vQ j k p) (hk:k≤j.aw.length):qh j k+1≤p.Id:=by
 cases k with
 |zero=>have:=h.id; show-1+1≤p.Id; omega
 |succ k=>
  obtain ⟨q,hq⟩: ∃ q,j.aw[k]? =some q:=⟨j.aw[k]'I,eU _⟩
  have:=h.up q I (by rw [Nat.add_sub_cancel]; exact hq)
  rw [oR hq]; omega
end
def pE (l:List aL) (f:aL):Int:=match l.findIdx? (fun x=>decide (x=f)) with
 |some i=>(i:Int)
 |none=> -1
section
variable {l:List aL} {f g x:aL} {i:Nat}
theorem OD (hx:l[i]? =some x) (h:x=f) (hb: ∀ (q:Nat) y,q<i→l[q]? =some y→y≠f):pE l f=(i:Int):=by
 unfold pE
 have:l.findIdx? (fun x=>decide (x=f))=some i:=by
  rw [List.findIdx?_eq_some_iff_getElem]
  obtain ⟨hi,e⟩:=aX.1 hx
  refine ⟨hi,by rw [e]; simp [h],fun q hq=>?_⟩
  have:=hb q (l[q]'I) hq (eU _)
  simpa using this
 rw [this]
theorem ON (hb: ∀ (q:Nat) y,q<i→l[q]? =some y→y≠f) (hi:l.length≤i):pE l f= -1:=by
 unfold pE
 have:l.findIdx? (fun x=>decide (x=f))=none:=by
  rw [List.findIdx?_eq_none_iff]
  intro y hy
  obtain ⟨q,hq⟩:=List.mem_iff_getElem?.1 hy
  have:=hb q y (by have:=(aX.1 hq).1; omega) hq
  simpa using this
 rw [this]
theorem B4 (hf:f∈l): ∃ i:Nat,pE l f=(i:Int)∧l[i]? =some f:=by
 unfold pE
 cases h:l.findIdx? (fun x=>decide (x=f)) with
 |none=>
  rw [List.findIdx?_eq_none_iff] at h
  have:=h f hf
  simp at this
 |some i=>
  rw [List.findIdx?_eq_some_iff_getElem] at h
  obtain ⟨hi,e,_⟩:=h
  exact ⟨i,U,by rw [eU hi]; simpa using e⟩
theorem Jf (hf:f∈l) (hg:g∈l) (h:pE l f=pE l g):f=g:=by
 obtain ⟨i,C,A⟩:=B4 hf
 obtain ⟨k,D,B⟩:=B4 hg
 have:i=k:=by omega
 subst this
 exact Option.some.inj (A.symm.trans B)
end
end
section
open Go.RowKit
abbrev Xy (C:List aB) (i j:Nat):List Nat:=i::j::(List.range C.length).filter fun k=>k != i&&k != j
def W8 {σ:Type} (w0:World) (P:Program) (l:Nat) (step:σ→List Value→aB→σ→Prop) (J:σ→aB→Prop) (Z:aB→Prop):Prop:=
 ∀ k x R k' A w,step k x R k'→J k A→w0.heap.size≤w.heap.size→(bK [A,R]).holds w→YieldAt (Fw none) 0 P l x.toArray w fun e w'=>
  (e= .returned (.bool true)∧ ∃ B,J k' B∧Mv (bK [A,R]) B w w')∨(e= .returned (.bool false)∧ ∃ B,Z B∧Mv (bK [A,R]) B w w')
structure Qz {σ:Type} (P:Program) (f:FuncId) (fi ca:List Value) (Cp:List aB) (s0:σ) (step:σ→List Value→aB→σ→Prop) (fin:σ→Prop):Prop where
 go:tf P f=true
 run: ∀ (l:Nat) (J:σ→aB→Prop) (Z:aB→Prop) (A0:aB) (w:World),W8 w P l step J Z→J s0 A0→A0.holds w→(∀ A∈Cp,A.holds w)→(∀ A∈Cp,D6 A0 A.ro)→
  Calls P f (fi++Value.func (.yield l) #[] #[]::ca).toArray w (DO J Z fin A0 w)
theorem Pn {σ:Type} {P:Program} {f:FuncId} {fn:Func} {c:Code} {fi ca:List Value} {Cp:List aB} {s0:σ} {step:σ→List Value→aB→σ→Prop} {fin:σ→Prop} (hgo:tf P f=true) (hf:P.funcs[f]? =some fn) (hb:fn.body=some c) (hn:Nat.ble (fi.length+ca.length+1) fn.ntmps=true)
 (h: ∀ (l:Nat) (J:σ→aB→Prop) (Z:aB→Prop) (A0:aB) (w0:World) (Q:dk),W8 w0 P l step J Z→J s0 A0→Fo A0 w0 A0→
  (∀ D L C,LJ ⟨P,none,fn.ntmps,⟨A0.wf,fun _=>True⟩,w0⟩ fn (DO J Z fin A0 w0) D L C→KJ ⟨P,none,fn.ntmps,⟨A0.wf,fun _=>True⟩,w0⟩ (Q .ret) D L C)→
  (∀ D L C,LJ ⟨P,none,fn.ntmps,⟨A0.wf,fun _=>True⟩,w0⟩ fn (DO J Z fin A0 w0) D L C→KJ ⟨P,none,fn.ntmps,⟨A0.wf,fun _=>True⟩,w0⟩ (Q .normal) D L C)→
  WJ ⟨P,none,fn.ntmps,⟨A0.wf,fun _=>True⟩,w0⟩ c Q [] (PQ (fi++Value.func (.yield l) #[] #[]::ca)) (A0::Cp.map aB.ro)):Qz P f fi ca Cp s0 step fin:=by
 refine ⟨hgo,fun l J Z A0 w hY hJ hA F E=>?_⟩
 refine Bq hf hb (by simpa [Nat.add_assoc] using hn) (h l J Z A0 w · hY hJ (fun b hb=> .inl hb)) ?_
 have G:=rR F
 refine ⟨eg.refl _ _,fun A hA'=>?_,List.Pairwise.cons (fun B hB=>?_) G.sep,fun A hA' b hb=>?_,fun _ _ _ _=> .inr trivial⟩
 ·rcases bU.1 hA' with rfl|hA'
  ·exact hA
  ·exact G.holds A hA'
 ·obtain ⟨B',hB',rfl⟩:=cp.1 hB
  exact E B' hB'
 ·rcases bU.1 hA' with rfl|hA'
  ·exact .inr hb
  ·obtain ⟨B',hB',rfl⟩:=cp.1 hA'
   exact hb.elim
section
variable {E:fG} {ops:Array Oper} {Q:dk} {rest:List Oper} {D:List Deferred} {L:List (Nat×Value)} {C:List aB}
variable {d:Nat} {ty:TypeId} {ps:String} {af:Array Edge} {g:Option (Nat×Bool)}
/-- a call of yield -/
theorem JN {σ:Type} {fop:Operand} {xs:Array Operand} {ts:Array TypeId} {l:Nat} {k k':σ} {vs:List Value} {step:σ→List Value→aB→σ→Prop} {J:σ→aB→Prop} {Z:aB→Prop} {A0 A R:aB} {C1:List aB} (i j:Nat) (hS:E.S=⟨A0.wf,fun _=>True⟩) (hY:W8 E.w0 E.P l step J Z) (hJ:J k A) (hF:Fo A0 E.w0 A) (hg:kx ops L g=true) (hf:ev L fop=some (.func (.yield l) #[] #[]))
 (hx:evs L xs.toList=some vs) (hk:step k vs R k') (hR:R.wr=true) (hn:decide (Xy C i j).Nodup=true) (hC:nA C (Xy C i j)=some (A::R::C1)) (hd:Nat.blt d E.n=true)
 (k1: ∀ B,J k' B→Fo A0 E.w0 B→RJ E ops Q rest D ((d,.bool true)::L) (B::C1))
 (k2: ∀ B,Z B→Fo A0 E.w0 B→RJ E ops Q rest D ((d,.bool false)::L) (B::C1)):
 RJ E ops Q (⟨some d,.call {callee:= .value fop,args:=xs,argTypes:=ts},ty,ps,af,g⟩::rest) D L C:=by
 intro a w F N
 have AA:St E.S E.w0 ([A,R]++C1) w:=St.kv _ hn (kZ hC) N
 have hs:=AA.tied
 have hd':d<E.n:=by rw [← Nat.blt_eq]; exact hd
 unfold tG
 rw [if_pos (eG F hg)]
 have O:xs.map a.eval=vs.toArray:=by
  have:=F.evs hx
  apply Array.ext'
  simp [this]
 obtain ⟨fn,tmps,assign,body,hy,hr⟩:=hY k vs R k' A w hk hJ hs.keeps.size (hs.holds _ cD)
 have H:(execOp a.eval ⟨some d,.call {callee:= .value fop,args:=xs,argTypes:=ts},ty,ps,af,g⟩).run E.P w= .ok (.round l fn tmps assign body) w:=by
  simp [execOp,resolve,F.ev hf,Deferred.ofValue,invoke,O,hy]
 refine ⟨fun _ _=>trivial,?_⟩
 rw [Oper.semAt_eq _ _ _ sm,H]
 refine ⟨fun h=>by simp at h,?_⟩
 have G: ∀ (B:aB) (w':World),Mv (bK [A,R]) B w w'→Fo A0 E.w0 B:=fun B w' m b hb=>by
  rcases m.fQ b hb with ⟨X,hX,K⟩|K
  ·rcases bU.1 hX with rfl|hX
   ·exact hF b K
   ·rw [ck] at hX; subst hX
    rcases AA.own X sm b (X.whole hR b K) with M|M
    ·exact .inr M
    ·rw [hS] at M; exact .inl (A0.ld b M)
  ·exact .inr (Nat.le_trans hs.keeps.size K)
 have hr':RoundIn (Fw E.r) 0 E.P l fn tmps assign body w _:=hr
 refine hr'.mono fun e w' he=>?_
 rcases he with ⟨rfl,B,hB,m⟩|⟨rfl,B,hB,m⟩
 ·exact k1 B hB (G B w' m) _ _ (F.put hd' _) (hs.mv 0 U m)
 ·exact k2 B hB (G B w' m) _ _ (F.put hd' _) (hs.mv 0 U m)
end
theorem MC {σ:Type} {E:fG} {Q:dk} {D:ik} {L L0:dC} {C F:List aB} {g:Operand} {ps:Array Tmp} {assign body:Code} {f:FuncId} {fi ca:List Value} {Cp:List aB} {s0:σ} {step:σ→List Value→aB→σ→Prop} {fin_:σ→Prop} {ι κ:Type}
 (inv:σ→ι→Prop) (Ci:σ→ι→List aB) (invx:Code→κ→Prop) (Cx:Code→κ→List aB) (isJ isF:List Nat) (y0:ι)
 (hr:E.r=none) (hg:ev L g=some (.func (.func f) fi.toArray ca.toArray)) (hs:Qz E.P f fi ca Cp s0 step fin_)
 (hnd:decide (isJ++isF).Nodup=true) (hJ:kv C isJ=Ci s0 y0) (hF:kv C isF=F) (h0:inv s0 y0) (hCp: ∀ A∈Cp,∃ B∈F,JU B A)
 (hps: ∀ k x R k',step k x R k'→x.length=ps.size) (hpn:ps.toList.all (fun t=>Nat.blt t E.n)=true) (hL:dx L L0)
 (round: ∀ (k:σ) (x:List Value) (R:aB) (k':σ) (y:ι) (l:Nat) (ra rb:Loop) (S:BS) (w0:World) (K:Act→World→Prop) (Qr:dk),E.w0.heap.size≤w0.heap.size→step k x R k'→inv k y→
  (∀ L' C',WJ ⟨E.P,some l,E.n,S,w0⟩ body Qr [] L' (jG l (.loop rb)::C')→KJ ⟨E.P,some l,E.n,S,w0⟩ K [] L' (jG l (.loop ra)::C'))→
  (∀ y' L' C',inv k' y'→(∀ w,St S w0 C' w→St S w0 (jG l (.loop rb)::Ci k' y') w)→KJ ⟨E.P,some l,E.n,S,w0⟩ (Qr .normal) [] L' C')→
  (∀ id z L' C',invx (.exit id) z→(∀ w,St S w0 C' w→St S w0 (jG l (.loop rb)::Cx (.exit id) z) w)→KJ ⟨E.P,some l,E.n,S,w0⟩ (Qr (.exit id)) [] L' C')→
  (∀ z L' C',invx .ret z→(∀ w,St S w0 C' w→St S w0 (jG l (.loop rb)::Cx .ret z) w)→KJ ⟨E.P,some l,E.n,S,w0⟩ (Qr .ret) [] L' C')→
  WJ ⟨E.P,some l,E.n,S,w0⟩ assign (Exit.then K (fun _ _ _=>False)) [] (zG ps.toList x L0) (jG l (.loop ra)::(Ci k y++[R])))
 (fin: ∀ r s y,fin_ s→inv s y→KJ E (Q .normal) (ke r::D) L0 (jG r (.deferred (some []))::(F++Ci s y)))
 (finx: ∀ r id z,invx (.exit id) z→KJ E (Q (.exit id)) (ke r::D) L0 (jG r (.deferred (some []))::(F++Cx (.exit id) z)))
 (finr: ∀ r z,invx .ret z→KJ E (Q .ret) (ke r::D) L0 (jG r (.deferred (some []))::(F++Cx .ret z))):WJ E (.rangeFunc g ps assign body) Q D L C:=by
 intro a w hf u
 refine wpIn_rangeFunc fun fn _=>?_
 show ∃ l ke w₁ d w₁' f args w₂,(Instr.enterLoop fn a.tmps ps assign body E.r).run E.P w= .ok (l,ke) w₁∧_
 rw [hr]
 obtain ⟨rec,G⟩: ∃ rec:LoopState→Option Code→Loop,rec=fun st pe=>{state:=st,pending:=pe,fn,tmps:=a.tmps,params:=ps,assign,body,defers:=w.heap.size}:=⟨_,rfl⟩
 obtain ⟨W1,T⟩: ∃ W1,(w.alloc (.deferred (some []))).alloc (.loop (rec .ready none))=W1:=⟨_,rfl⟩
 have A1:a.eval g= .func (.func f) fi.toArray ca.toArray:=hf.ev hg
 have q:(Instr.enterLoop fn a.tmps ps assign body none).run E.P w= .ok (w.heap.size+1,[ke w.heap.size]) W1:=by
  rw [← T,G]; exact run_enterLoop_outer _ _ _ _ _
 -- the state with the record and the block
 have AC:St E.S E.w0 ((jG (w.heap.size+1) (.loop (rec .ready none))::Ci s0 y0)++(jG w.heap.size (.deferred (some []))::F)) W1:=by
  have Y:St E.S E.w0 (Ci s0 y0++F) w:=St.kv (isJ++isF) hnd (by have Y:=hJ; have o:=hF; unfold Go.Proofs.YtijpnoadncadoaaGreatDoor.kv at Y o ⊢; rw [List.filterMap_append,Y,o]) u
  have hn:Na w W1 [jG (w.heap.size+1) (.loop (rec .ready none)),jG w.heap.size (.deferred (some []))]:=by
   refine ⟨fun A hA=>?_,fun A hA b hb=>?_,?_⟩
   ·rcases bU.1 hA with rfl|hA
    ·show W1.heap[w.heap.size+1]? =_
     rw [← T]; have:=World.alloc_heap_new (w.alloc (.deferred (some []))) (.loop (rec .ready none)); rwa [World.size_alloc] at this
    ·simp only [ck] at hA; subst hA
     show W1.heap[w.heap.size]? =_
     rw [← T]; exact (Below.heap_alloc _ _ _ sm).trans (World.alloc_heap_new w _)
   ·rcases bU.1 hA with rfl|hA
    ·have:b=w.heap.size+1:=hb
     omega
    ·simp only [ck] at hA; subst hA
     have:b=w.heap.size:=hb
     omega
   ·refine List.Pairwise.cons (fun B hB b Y o=>?_) (List.pairwise_singleton _ _)
    simp only [ck] at hB; subst hB
    have X:b=w.heap.size+1:=Y
    have O:b=w.heap.size:=o
    omega
  have hk:eg no w W1:=by rw [← T]; exact (eg.alloc no w _).trans (eg.alloc no _ _)
  have o:=Y.grow hk hn
  refine o.perm ?_
  simp only [List.cons_append,List.nil_append]
  exact List.Perm.cons _ (List.perm_middle.symm)
 have i:=AC.tied
 obtain ⟨H,A6⟩:=List.pairwise_cons.1 i.sep
 have AR:=i.holds _ (cD ..)
 let J:σ→aB→Prop:=fun k A=> ∃ y,inv k y∧A=bK (jG (w.heap.size+1) (.loop (rec .ready none))::Ci k y)
 let Z:aB→Prop:=fun A=> ∃ c z,(c= .ret∨ ∃ id,c= .exit id)∧invx c z∧A=bK (jG (w.heap.size+1) (.loop (rec .done (some c)))::Cx c z)
 refine ⟨w.heap.size+1,[ke w.heap.size],W1,{target:= .fn (.func f) ca.toArray,args:=fi.toArray++ #[.func (.yield (w.heap.size+1)) #[] #[]]},W1,f,
  (fi++Value.func (.yield (w.heap.size+1)) #[] #[]::ca).toArray,W1,q,?_,fun _ _=>trivial,?_,fun h=>by simp at h,?_⟩
 ·simp only [resolve,A1]
  simp [Deferred.ofValue,Act.eval]
 ·have:fi.toArray++ #[Value.func (.yield (w.heap.size+1)) #[] #[]]++ca.toArray=(fi++Value.func (.yield (w.heap.size+1)) #[] #[]::ca).toArray:=by simp
  simp [invoke,nQ hs.go]
 ·refine (qb E.r (hs.run (w.heap.size+1) J Z _ W1 ?_ ⟨y0,h0,U⟩ AR ?_ ?_)).mono ?_
  ·-- a round
   rintro k x R k' A W hx ⟨y,hy,rfl⟩ A0 hA
   have hl:W.heap[w.heap.size+1]? =some (.loop (rec .ready none)):=(hA.1 _ (cD ..)).1 _ (cD ..)
   have AD:=run_yield (P:=E.P) (args:=x.toArray) hl (by rw [G]; simpa using hps k x R k' hx)
   rw [G] at AD
   refine ⟨fn,_,assign,body,AD,roundIn_of_wpIn trivial ?_⟩
   let A:aB:=bK [bK (jG (w.heap.size+1) (.loop (rec .ready none))::Ci k y),R]
   have A2:Fr E.n [] (zG ps.toList x L0) {tmps:=(ps.zip x.toArray).foldl (fun tmps (t,a)=>tmps.setIfInBounds t a) a.tmps,defers:=[]}:=by
    have Y:=EK ps.toList x L0 a.tmps (fun t ht=>by have:=de.1 hpn t ht; rwa [Nat.blt_eq] at this) ⟨rfl,hf.size,fun t v hv=>hf.at_ t v (hL t v hv)⟩
    rw [← Array.foldl_toList]
    simpa using Y
   have p: ∀ (c:Option Code) (b:Bool),({rec .busy none with state:=if b then .ready else .done,pending:=c}:Loop)=rec (if b then .ready else .done) c:=fun c b=>by rw [G]
   have AA: ∀ (c:Option Code) (N:World) (C':List aB) (S:BS),St S W (jG (w.heap.size+1) (.loop (rec .busy none))::C') N→
    ∃ M,(Instr.endRound (w.heap.size+1) c).run E.P N= .ok (.bool c.isNone) M∧St S W (jG (w.heap.size+1) (.loop (rec (if c.isNone then .ready else .done) c))::C') M:=fun c N C' S H=>by
    have AB:N.heap[w.heap.size+1]? =some (.loop (rec .busy none)):=H.holds _ (cD ..)
    refine ⟨_,run_endRound c AB,?_⟩
    have:=H.Ae (b:=w.heap.size+1) (A':=jG (w.heap.size+1) (.loop (rec (if c.isNone then .ready else .done) c))) 0 rfl rfl rfl (ig _) (fun _ h=>h) (World.putObj_heap_same (ed AB))
    rw [p]
    exact this
   refine round k x R k' y (w.heap.size+1) (rec .ready none) (rec .busy none) ⟨A.wf,A.fQ⟩ W _ (roundPost E.P (w.heap.size+1) (fun e w'=>(e= .returned (.bool true)∧ ∃ B,J k' B∧Mv A B W w')∨(e= .returned (.bool false)∧ ∃ B,Z B∧Mv A B W w'))) (Nat.le_trans (Nat.le_trans u.keeps.size (by rw [← T]; simp; omega)) A0) hx hy ?_ ?_ ?_ ?_ _ _ A2 (by have:=(St.AY hA).je; simpa using this)
   ·intro L' C' hW a1 N j H
    have AB:N.heap[w.heap.size+1]? =some (.loop (rec .ready none)):=H.holds _ (cD ..)
    refine ⟨_,run_beginRound AB (by rw [G]),hW _ _ j ?_⟩
    have:=H.Ae (b:=w.heap.size+1) (A':=jG (w.heap.size+1) (.loop (rec .busy none))) 0 rfl rfl rfl (ig _) (fun _ h=>h) (World.putObj_heap_same (ed AB))
    have e:({rec .ready none with state:= .busy}:Loop)=rec .busy none:=by rw [G]
    rw [e]; exact this
   ·intro y' L' C' hy' hC' a1 N j H
    obtain ⟨M,X,O⟩:=AA none N _ _ (hC' _ H)
    exact ⟨_,M,X,.inl ⟨U,_,⟨y',hy',U⟩,Mv.of O⟩⟩
   ·intro id z L' C' hz hC' a1 N j H
    obtain ⟨M,X,O⟩:=AA (some (.exit id)) N _ _ (hC' _ H)
    exact ⟨_,M,X,.inr ⟨U,_,⟨_,z,.inr ⟨id,U⟩,hz,U⟩,Mv.of O⟩⟩
   ·intro z L' C' hz hC' a1 N j H
    obtain ⟨M,X,O⟩:=AA (some .ret) N _ _ (hC' _ H)
    exact ⟨_,M,X,.inr ⟨U,_,⟨_,z,.inl U,hz,U⟩,Mv.of O⟩⟩
  ·intro A hA
   obtain ⟨B,hB,hc⟩:=hCp A hA
   exact hc.holds _ (i.holds B (dU _ (dU _ hB)))
  ·intro A hA b hb hb'
   obtain ⟨B,hB,hc⟩:=hCp A hA
   exact ⟨(H B (dU _ hB) b hb (hc.fQ b hb')).1,fun h=>h⟩
  ·rintro e w' ⟨v,rfl,hh⟩
   have V:Fr E.n (ke w.heap.size::D) L0 {a with defers:=[ke w.heap.size]++a.defers}:=⟨by simp [hf.defers],hf.size,fun t v hv=>hf.at_ t v (hL t v hv)⟩
   have hleave: ∀ (st:LoopState) (c:Option Code) (C':List aB),st≠ .busy→Mv (bK (jG (w.heap.size+1) (.loop (rec .ready none))::Ci s0 y0)) (bK (jG (w.heap.size+1) (.loop (rec st c))::C')) W1 w'→
    ∃ M,(Instr.endLoop (w.heap.size+1)).run E.P w'= .ok c M∧St E.S E.w0 (jG w.heap.size (.deferred (some []))::(F++C')) M:=fun st c C' A4 m=>by
    have Y:=(i.mv 0 rfl m).je
    have h1':St E.S E.w0 ((jG (w.heap.size+1) (.loop (rec st c))::C')++(jG w.heap.size (.deferred (some []))::F)) w':=Y
    have AB:w'.heap[w.heap.size+1]? =some (.loop (rec st c)):=h1'.holds (jG (w.heap.size+1) (.loop (rec st c))) sm
    refine ⟨_,by have:=run_endLoop (P:=E.P) AB (by rw [G]; exact A4); rw [this,G],?_⟩
    have o:=h1'.Ae (b:=w.heap.size+1) (A':=jG (w.heap.size+1) (.loop {rec st c with state:= .exhausted})) 0 rfl rfl rfl (ig _) (fun _ h=>h) (World.putObj_heap_same (ed AB))
    have h3:St E.S E.w0 (C'++(jG w.heap.size (.deferred (some []))::F)) _:=o.take (List.sublist_cons_self _ _)
    rw [G] at h3
    refine h3.perm ?_
    exact (List.perm_append_comm).trans sm
   rcases hh with ⟨s,B,A3,⟨y,hy,rfl⟩,m⟩|⟨B,⟨c,z,hc,hz,rfl⟩,m⟩
   ·obtain ⟨M,X,O⟩:=hleave .ready none _ sm m
    exact ⟨none,M,X,fin w.heap.size s y A3 hy _ _ V O⟩
   ·obtain ⟨M,X,O⟩:=hleave .done (some c) _ sm m
    refine ⟨some c,M,X,?_⟩
    rcases hc with rfl|⟨id,rfl⟩
    ·exact wpIn_ret (finr w.heap.size z hz _ _ V O)
    ·exact wpIn_exit (finx w.heap.size id z hz _ _ V O)
end
section
abbrev Rb:=List (Int×Bool)
section
variable {m:Rb} {P Q:Int→Prop} {k:Int}
end
/-- two rows that go up and have the same numbers, each once -/
theorem HK {a b:List Int} (ha:a.Pairwise (· ≤ ·)) (hb:b.Pairwise (· ≤ ·)) (na:a.Nodup) (nb:b.Nodup) (h: ∀ x,x∈a↔x∈b):a=b:=
 tn ((List.perm_ext_iff_of_nodup na nb).2 h) ha hb
section
variable {m left:nF} {i n x:Int} {y:ag}
theorem AP:pw left i n=left.countP fun p=>decide (p.2.Hi<n)&& !decide (p.1=i):=by unfold pw s_; rw [List.countP_filter]
theorem FH:uH left i n=left.countP fun p=>decide (p.2.Lo<n)&& !decide (p.1=i):=by unfold uH s_; rw [List.countP_filter]
end
section
variable {m:nF} {i:Int} {own:ag} {ys:List Int} {nev ranks:Rb} {n a b:Int}
end
section
variable {nw left rk:Rb} {N R:Int→Prop} {u:Int} {v:Bool}
end
section
variable {m left:nF} {i x n:Int} {own y:ag} {ys:List Int}
end
section
variable {r:dY} {h i:Int} {ht:List ao} {d:ao}
end
end
section
def QP (f:Int→ag) (g:List Int):Prop:= ∀ t,(∃ a∈g,(f a).Lo<t)→(∃ b∈g,t≤(f b).Lo)→ ∃ c∈g,(f c).Lo<t∧t≤(f c).Hi
def Qh (f:Int→ag) (g h:List Int):Prop:= ∀ a∈g,∀ b∈h,(f a).Hi<(f b).Lo
structure TW (f:Int→ag) (keys:List Int) (G:List (List Int)):Prop where
 perm:G.flatten.Perm keys
 some_: ∀ g∈G,g≠[]
 apart:G.Pairwise (Qh f)
 tight: ∀ g∈G,QP f g
section
variable {f:Int→ag} {keys:List Int} {G G':List (List Int)} {g h:List Int} {x:Int}
end
section
variable {f:Int→ag} {p:List Int} {G:List (List Int)} {g:List Int} {x last:Int}
end
end
section
open Go.RowKit
/-- a map, or nil -/
def oC (o:Option Nat):List Value:=[Value.map o]
theorem Bm {α:Type}: ∀ {ms:List α} {asl:List Nat},ms.length=asl.length→List.zipWith gR ms asl=(asl.map some).map oC
 |[],[],_=>rfl
 |[],_::_,h=>by simp at h
 |_::_,[],h=>by simp at h
 |x::ms,y::asl,h=>by simp only [List.zipWith_cons_cons,List.map_cons,Bm (ms:=ms) (asl:=asl) (by simpa using h)]; rfl
/-- what stands for all but one -/
def gP {M A:Type} (f:M→A→List aB) (ms:List M) (asl:List A) (k:Nat):List aB:=a_ f (ms.take k) (asl.take k)++a_ f (ms.drop (k+1)) (asl.drop (k+1))
theorem pW {M A:Type} {f:M→A→List aB}: ∀ {ms:List M} {asl:List A} {k:Nat} {m:M} {a:A},ms[k]? =some m→asl[k]? =some a→(a_ f ms asl).Perm (f m a++gP f ms asl k)
 |[],_,k,m,a,h,_=>by simp at h
 |_::_,[],k,m,a,_,h=>by simp at h
 |x::ms,y::asl,0,m,a,h,h2=>by
  simp at h h2; subst h h2
  simp [gP,a_]
 |x::ms,y::asl,k+1,m,a,h,h2=>by
  have ih:=pW (f:=f) (ms:=ms) (asl:=asl) (k:=k) (by simpa using h) (by simpa using h2)
  show (f x y++a_ f ms asl).Perm (f m a++gP f (x::ms) (y::asl) (k+1))
  have e:gP f (x::ms) (y::asl) (k+1)=f x y++gP f ms asl k:=by simp [gP,a_,List.append_assoc]
  rw [e]
  refine (ih.append_left (f x y)).trans ?_
  rw [← List.append_assoc,← List.append_assoc]
  exact List.perm_append_comm.append_right _
theorem Ip {M A:Type} {f:M→A→List aB} {ms:List M} {asl:List A} {k:Nat} {m':M}:gP f (ms.set k m') asl k=gP f ms asl k:=by
 unfold gP
 rw [List.take_set_of_le (Nat.le_refl k),List.drop_set_of_lt (Nat.lt_succ_self k)]
theorem p6 {S:BS} {w0 w:World} {C X Y:List aB} (hp:X.Perm Y) (h:St S w0 (bK X::C) w):St S w0 (bK Y::C) w:=by
 have A:St S w0 (X++C) w:=h.je
 exact (A.perm (hp.append_right C)).tied
theorem St.out {M A:Type} {f:M→A→List aB} {S:BS} {w0 w:World} {C:List aB} {ms:List M} {asl:List A} {k:Nat} {m:M} {a:A} {X:aB} (hm:ms[k]? =some m) (ha:asl[k]? =some a) (hf:f m a=[X]) (h:St S w0 (bK (a_ f ms asl)::C) w):St S w0 (X::bK (gP f ms asl k)::C) w:=by
 have B:=(p6 (pW hm ha) h).je
 rw [hf] at B
 have D:St S w0 (gP f ms asl k++(X::C)) w:=B.perm (List.perm_middle (a:=X) (l₁:=gP f ms asl k) (l₂:=C)).symm
 exact D.tied.perm (List.Perm.swap _ _ _)
theorem St.back {M A:Type} {f:M→A→List aB} {S:BS} {w0 w:World} {C:List aB} {ms:List M} {asl:List A} {k:Nat} {m':M} {a:A} {X:aB} (hk:k<ms.length) (ha:asl[k]? =some a) (hf:f m' a=[X]) (h:St S w0 (X::bK (gP f ms asl k)::C) w):St S w0 (bK (a_ f (ms.set k m') asl)::C) w:=by
 have B:St S w0 (bK (gP f ms asl k)::X::C) w:=h.perm (List.Perm.swap _ _ _)
 have D:=B.je
 have E:St S w0 ((f m' a++gP f (ms.set k m') asl k)++C) w:=by
  rw [hf,Ip]
  exact D.perm (List.perm_middle (a:=X) (l₁:=gP f ms asl k) (l₂:=C))
 exact p6 (pW (List.getElem?_set_self hk) ha).symm E.tied
section
variable {E:fG} {ops:Array Oper} {Q:dk} {rest:List Oper} {D:List Deferred} {L:List (Nat×Value)} {C C1:List aB}
variable {M A:Type} {f:M→A→List aB} {ms:List M} {asl:List A} {k:Nat} {m:M} {a:A} {X:aB}
theorem Ag {c:Code} (i:Nat) (hm:ms[k]? =some m) (ha:asl[k]? =some a) (hf:f m a=[X]) (hn:decide (i::(List.range C.length).filter fun k=>k != i).Nodup=true) (hC:kv C (i::(List.range C.length).filter fun k=>k != i)=bK (a_ f ms asl)::C1)
 (h:WJ E c Q D L (X::bK (gP f ms asl k)::C1)):WJ E c Q D L C:=fun a w hf' hs=>h a w hf' (St.out hm ha hf (St.kv _ hn hC hs))
theorem BC {K:Act→World→Prop} (i j:Nat) (hk:k<ms.length) (ha:asl[k]? =some a) (hf:f m a=[X]) (hn:decide (j::i::(List.range C.length).filter fun k=>k != i&&k != j).Nodup=true) (hC:kv C (j::i::(List.range C.length).filter fun k=>k != i&&k != j)=X::bK (gP f ms asl k)::C1)
 (h:KJ E K D L (bK (a_ f (ms.set k m) asl)::C1)):KJ E K D L C:=fun a w hf' hs=>h a w hf' (St.back hk ha hf (St.kv _ hn hC hs))
end
end
section
open Go.RowKit
def zL (l:List Int) (a:RA):List Value:=[vS a.1 l.length a.2]
def SB (l:List Int) (a:RA):List aB:=[rd a.1 l.length 1 (l.map iC)]
def I7 (l:List Int) (a:RA):List aB:=[own a.1 a.2 PU 1 (l.map iC)]
theorem GJ: ∀ (m:List Int) (a:RA) (w:World),(∀ X∈I7 m a,X.holds w)→ ∀ X∈SB m a,X.holds w:=fun m a w h X hX=>by
 simp only [SB,ck] at hX
 subst hX
 have:=oo (h _ (ck.2 rfl))
 simpa using this
theorem zo {l:List (List Int)} {bz:List RA}:(bK (a_ I7 l bz)).wr=true:=by
 show (a_ I7 l bz).all (·.wr)=true
 rw [de]
 intro X hX
 obtain ⟨k,m,a,_,_,h⟩:=ky hX
 simp only [I7,ck] at h
 subst h; rfl
theorem vC {ls:List (List Int)} {az:List RA} (h:az.length=ls.length):(List.zipWith zL ls az).length=ls.length:=by simp [h]
theorem OI (l:List (List Int)) (az:List RA): ∀ v∈(List.zipWith zL l az).flatten,v.oneCell'=true:=by
 induction l generalizing az with
 |nil=>intro v hv; simp at hv
 |cons x l ih=>
  cases az with
  |nil=>intro v hv; simp at hv
  |cons a az=>
   intro v hv
   rw [List.zipWith_cons_cons,List.flatten_cons,g9] at hv
   rcases hv with hv|hv
   ·simp [zL] at hv; subst hv; rfl
   ·exact ih az v hv
section
variable {M A:Type} {f:M→A→List aB} {ms:List M} {asl:List A} {k:Nat} {m:M} {a:A} {X:aB}
theorem Ed:gP f (ms.set k m) (asl.set k a) k=gP f ms asl k:=by
 unfold gP
 rw [List.take_set_of_le (Nat.le_refl k),List.drop_set_of_lt (Nat.lt_succ_self k),List.take_set_of_le (Nat.le_refl k),List.drop_set_of_lt (Nat.lt_succ_self k)]
theorem C7 {β:Type} {c:M→A→β}:(List.zipWith c ms asl).set k (c m a)=List.zipWith c (ms.set k m) (asl.set k a):=by
 apply List.ext_getElem?
 intro j
 rw [List.getElem?_set]
 by_cases e:k=j
 ·subst e
  rw [if_pos rfl,List.length_zipWith,List.getElem?_zipWith,List.getElem?_set,List.getElem?_set,if_pos rfl,if_pos rfl]
  by_cases B:k<ms.length
  ·by_cases C:k<asl.length
   ·rw [if_pos I,if_pos B,if_pos C]
   ·rw [if_neg I,if_pos B,if_neg C]
  ·rw [if_neg I,if_neg B]
 ·rw [if_neg e,List.getElem?_zipWith,List.getElem?_zipWith,List.getElem?_set_ne e,List.getElem?_set_ne e]
variable {E:fG} {ops:Array Oper} {Q:dk} {rest:List Oper} {D:List Deferred} {L:List (Nat×Value)} {C C1:List aB}
abbrev Ij (C:List aB) (i j:Nat):List Nat:=j::i::(List.range C.length).filter fun k=>k != i&&k != j
abbrev NR (C:List aB) (i:Nat):List Nat:=i::(List.range C.length).filter fun k=>k != i
theorem LO {c:Code} (i:Nat) (hm:ms[k]? =some m) (ha:asl[k]? =some a) (hf:f m a=[X]) (hn:decide (NR C i).Nodup=true) (hC:nA C (NR C i)=some (bK (a_ f ms asl)::C1))
 (h:WJ E c Q D L (X::bK (gP f ms asl k)::C1)):WJ E c Q D L C:=fun a w hf' hs=>h a w hf' (St.out hm ha hf (St.kv _ hn (kZ hC) hs))
theorem GS {K:Act→World→Prop} (i j:Nat) (hk:k<ms.length) (ha:asl[k]? =some a) (hf:f m a=[X]) (hn:decide (Ij C i j).Nodup=true) (hC:nA C (Ij C i j)=some (X::bK (gP f ms asl k)::C1))
 (h:KJ E K D L (bK (a_ f (ms.set k m) asl)::C1)):KJ E K D L C:=fun a w hf' hs=>h a w hf' (St.back hk ha hf (St.kv _ hn (kZ hC) hs))
theorem QT {Y Y':List aB} (i j:Nat) (hn:decide (Ij C i j).Nodup=true) (hC:nA C (Ij C i j)=some (X::bK Y::C1)) (e:Y++[X]=Y') (h:RJ E ops Q rest D L (bK Y'::C1)):RJ E ops Q rest D L C:=fun a w hf hs=>h a w hf ((St.kv _ hn (kZ hC) hs).tie e)
theorem Rw {K:Act→World→Prop} {Y Y':List aB} (i j:Nat) (hn:decide (Ij C i j).Nodup=true) (hC:nA C (Ij C i j)=some (X::bK Y::C1)) (e:Y++[X]=Y') (h:KJ E K D L (bK Y'::C1)):KJ E K D L C:=fun a w hf hs=>h a w hf ((St.kv _ hn (kZ hC) hs).tie e)
end
theorem Fa {M A:Type} {f:M→A→List aB} {ms:List M} {asl:List A} {m:M} {a:A} {X:aB} (h:ms.length=asl.length) (hf:f m a=[X]):a_ f ms asl++[X]=a_ f (ms++[m]) (asl++[a]):=by
 rw [jU h]; simp [a_,hf]
theorem G8 {M A β:Type} {f:M→A→β} {ms:List M} {asl:List A} {m:M} {a:A} (h:ms.length=asl.length):List.zipWith f ms asl++List.zipWith f [m] [a]=List.zipWith f (ms++[m]) (asl++[a]):=(List.zipWith_append h).symm
section
variable {f:Int→ag} {L:List Int} {G:List (List Int)} {g:List Int} {x last:Int} {i j:Nat}
end
end
section
open Go.RowKit
/-- the faults that a map of places says -/
def mm (fs:List aL) (m:List (Int×Bool)) (f:aL):Prop:=(List.lookup (pE fs f) m).getD false=true
/-- what comes next: the row of a heat, in memory of its own -/
def LF (G:List (List Int)) (k:Nat) (x:List Value) (R:aB) (k':Nat):Prop:= ∃ (a:OA) (c:Nat) (row:List Int),G[k]? =some row∧x=[vS a row.length c]∧R=own a c PU 1 (row.map iC)∧k'=k+1
section
variable {l:bg} {fs:List aL} {m:List (Int×Bool)} {d:ao} {h:List ao} {j:cR} {F G:aL→Prop} {k n q:Nat} {f f0:aL}
noncomputable def l6 (l:bg) (fs:List aL) (m:List (Int×Bool)) (h:List ao) (s:Nat):Bool:=(h[s]?).any fun d=> @decide (Bf l (mm fs m) fs d) (Classical.propDecidable _)
theorem OL:(fs.any fun f=>((List.lookup (pE fs f) m).getD false)&& !decide (gf l f d=0))= @decide (Bf l (mm fs m) fs d) (Classical.propDecidable _):=by
 rw [Bool.eq_iff_iff,List.any_eq_true,@decide_eq_true_iff _ (Classical.propDecidable _)]
 constructor
 ·rintro ⟨f,hf,hb⟩
  rw [cZ,Bool.not_eq_true',decide_eq_false_iff_not] at hb
  exact ⟨f,hf,hb.1,hb.2⟩
 ·rintro ⟨f,hf,A,B⟩
  exact ⟨f,hf,by rw [cZ,Bool.not_eq_true',decide_eq_false_iff_not]; exact ⟨A,B⟩⟩
theorem Gl (hd:h[q]? =some d):l6 l fs m h q=(fs.any fun f=>((List.lookup (pE fs f) m).getD false)&& !decide (gf l f d=0)):=by
 unfold l6; rw [hd,OL]; rfl
theorem Mo {ht:List ao} (hh:j.Race.aA[k]? =some ht):(im j (mm j.aC m))[k]? =some (mA (l6 j.Race.ak j.aC m ht) ht.length):=GU hh
/-- only who is told, of faults of the row -/
theorem CG (h: ∀ f∈j.aC,(F f↔G f)):im j F=im j G:=by
 unfold im
 apply List.map_congr_left
 intro x _
 exact IW h
end
def xD (fs:List aL) (gs:List aL):List (Int×Bool):=gs.foldl (fun m f=>eA m (pE fs f) true) []
section
variable {fs gs:List aL} {f g:aL} {m:List (Int×Bool)}
theorem I2 {x y:Int}:(List.lookup y (eA m x true)).getD false=true↔y=x∨(List.lookup y m).getD false=true:=by
 rw [ml]
 by_cases e:y=x
 ·rw [if_pos e]; simp [e]
 ·rw [if_neg e]; simp [e]
theorem GO: ∀ {gs:List aL} {m:List (Int×Bool)} {y:Int},(List.lookup y (gs.foldl (fun m f=>eA m (pE fs f) true) m)).getD false=true↔(∃ g∈gs,y=pE fs g)∨(List.lookup y m).getD false=true
 |[],m,y=>by simp
 |g::gs,m,y=>by
  rw [List.foldl_cons,GO (gs:=gs),I2]
  constructor
  ·rintro (⟨u,A,B⟩|h|h)
   ·exact .inl ⟨u,dU _ A,B⟩
   ·exact .inl ⟨g,cD,h⟩
   ·exact .inr h
  ·rintro (⟨u,A,B⟩|h)
   ·rcases bU.1 A with rfl|A
    ·exact .inr (.inl B)
    ·exact .inl ⟨u,A,B⟩
   ·exact .inr (.inr h)
theorem Tt (hg: ∀ g∈gs,g∈fs) (hf:f∈fs):mm fs (xD fs gs) f↔f∈gs:=by
 unfold mm xD
 rw [GO]
 constructor
 ·rintro (⟨g,A,B⟩|h)
  ·rw [Jf hf (hg g A) B]; exact A
  ·simp at h
 ·intro h; exact .inl ⟨f,h,rfl⟩
theorem Iq:xD fs (gs++[g])=eA (xD fs gs) (pE fs g) true:=by unfold xD; rw [List.foldl_append]; rfl
end
noncomputable def HG (j:cR) (t:Nat):List aL:=((iQ j).take t).filterMap fun i=>(j.aw[i.toNat]?).bind fun p=>j.aC[p.iM.toNat]?
section
variable {j:cR} {t:Nat} {i:Int} {p:aT} {f g:aL}
theorem Mp (hi:(iQ j)[t]? =some i) (hp:j.aw[i.toNat]? =some p) (hf:j.aC[p.iM.toNat]? =some f):HG j (t+1)=HG j t++[f]:=by
 unfold HG
 rw [List.take_add_one,hi,List.filterMap_append]
 simp [hp,hf]
theorem N_: ∀ g∈HG j t,g∈j.aC:=fun g h=>by
 obtain ⟨i,_,A⟩:=List.mem_filterMap.1 h
 cases e:j.aw[i.toNat]? with
 |none=>rw [e] at A; cases A
 |some p=>rw [e] at A; exact aQ A
theorem O0 (ht:(iQ j).length≤t):f∈HG j t↔ki j f:=by
 unfold HG
 rw [List.take_of_length_le ht,List.mem_filterMap]
 constructor
 ·rintro ⟨x,hx,h⟩
  obtain ⟨i,_,rfl,p,hp,hg⟩:=tO.1 hx
  rw [Int.toNat_natCast,hp] at h
  exact ⟨i,p,hp,hg,h⟩
 ·rintro ⟨i,p,hp,hg,hf⟩
  exact ⟨(i:Int),tO.2 ⟨i,(aX.1 hp).1,U,p,hp,hg⟩,by rw [Int.toNat_natCast,hp]; exact hf⟩
theorem FD (ht:(iQ j).length≤t):im j (mm j.aC (xD j.aC (HG j t)))=j4 j:=
 CG fun f hf=>(Tt N_ hf).trans (O0 ht)
theorem Hp (hi:(iQ j)[t]? =some i): ∃ k:Nat,i=(k:Int)∧k<j.aw.length:=by
 obtain ⟨k,A,B,_⟩:=tO.1 (aQ hi)
 exact ⟨k,B,A⟩
theorem x8:(iQ j).length≤j.aw.length:=pG
end
end
section
open Go.RowKit
theorem yH {α:Type} {l:List α} {k:Nat} {x:α} (h:l[k]? =some x):l.take (k+1)=l.take k++[x]:=by rw [List.take_add_one,h]; rfl
theorem Fx {a b:Int} (h1: -60000≤a∧a≤60000) (h2:0≤b∧b≤100000): -9223372036854775808≤a*b∧a*b≤9223372036854775807:=by
 have A:=Int.mul_le_mul_of_nonneg_right h1.1 h2.1
 have B:=Int.mul_le_mul_of_nonneg_right h1.2 h2.1
 omega
def ko (j:cR) (k h s:Int):Prop:=(0≤k∧k≤(j.aC.length:Int)-1)∧(0≤h∧h≤(j.Race.aA.length:Int)-1)∧0≤s∧s≤(j.Race.aY.length:Int)-1
instance (j:cR) (k h s:Int):Decidable (ko j k h s):=by unfold ko; infer_instance
noncomputable def mo (j:cR) (k h s:Int):Int:=if di j=0 then (if ko j k h s then 0 else 2) else di j
noncomputable def nJ (j:cR) (k h s:Int):Int:=if di j=0∧ko j k h s then (match j.aC[k.toNat]?,(j.Race.aA[h.toNat]?).bind (·[s.toNat]?) with
 |some f,some d=>gf j.Race.ak f d
 |_,_=>0) else 0
noncomputable def u0 (j:cR) (i:Int):Int:=if di j=0 then (if 0≤i∧i≤(j.aw.length:Int)-1 then 0 else 2) else di j
noncomputable def wU (j:cR) (i:Int):Int:=if di j=0∧(0≤i∧i≤(j.aw.length:Int)-1) then (match j.aw[i.toNat]? with
 |some p=>l5 j p
 |none=>0) else 0
noncomputable def iE (j:cR):List Int:=if di j=0 then iQ j else []
noncomputable def fY (j:cR):List (List Int):=if di j=0 then j4 j else []
noncomputable def wm (j:cR):Int:=if di j=0 then ux j else 0
noncomputable def wc (j:cR):Int:=if di j=0 then C9 j else 0
noncomputable def AW (j:cR) (s:Int) (p:aT):Bool:=decide (p.iX=s)&& !gO j p
noncomputable def r9 (j:cR) (s:Int):Int:=if di j=0 then (if 0≤s∧s≤(j.Race.aY.length:Int)-1 then 0 else 2) else di j
noncomputable def tT (j:cR) (s:Int):Int:=if di j=0∧(0≤s∧s≤(j.Race.aY.length:Int)-1) then Fj j s else 0
section
variable {j:cR} {k h s i:Int} {f:aL} {ht:List ao} {d:ao} {p:aT}
theorem Iu (e: ¬ di j=0):nJ j k h s=0∧mo j k h s=di j:=⟨if_neg fun q=>e q.1,if_neg e⟩
theorem v8 (e:di j=0) (n: ¬ ko j k h s):nJ j k h s=0∧mo j k h s=2:=⟨if_neg fun q=>n q.2,by unfold mo; rw [if_pos e,if_neg n]⟩
theorem vx (e:di j=0) (n:ko j k h s) (hf:j.aC[k.toNat]? =some f) (hh:j.Race.aA[h.toNat]? =some ht) (hd:ht[s.toNat]? =some d):nJ j k h s=gf j.Race.ak f d∧mo j k h s=0:=
 ⟨by unfold nJ; rw [if_pos ⟨e,n⟩,hf,hh,Option.bind_some,hd],by unfold mo; rw [if_pos e,if_pos n]⟩
theorem M3 (e: ¬ di j=0):wU j i=0∧u0 j i=di j:=⟨if_neg fun q=>e q.1,if_neg e⟩
theorem JV (e:di j=0) (n: ¬ (0≤i∧i≤(j.aw.length:Int)-1)):wU j i=0∧u0 j i=2:=⟨if_neg fun q=>n q.2,by unfold u0; rw [if_pos e,if_neg n]⟩
theorem Bx (e:di j=0) (n:0≤i∧i≤(j.aw.length:Int)-1) (hp:j.aw[i.toNat]? =some p):wU j i=l5 j p∧u0 j i=0:=
 ⟨by unfold wU; rw [if_pos ⟨e,n⟩,hp],by unfold u0; rw [if_pos e,if_pos n]⟩
theorem yJ (e: ¬ di j=0):iE j=[]:=if_neg e
theorem j2 (e:di j=0):iE j=iQ j:=if_pos e
theorem wR (e: ¬ di j=0):fY j=[]:=if_neg e
theorem l4 (e:di j=0):fY j=j4 j:=if_pos e
theorem HY (e: ¬ di j=0):wm j=0∧wc j=0:=⟨if_neg e,if_neg e⟩
theorem oB (e:di j=0):wm j=ux j∧wc j=C9 j:=⟨if_pos e,if_pos e⟩
theorem OQ (e: ¬ p.iX=s):AW j s p=false:=by unfold AW; rw [bI e]; rfl
theorem Js (e:p.iX=s):AW j s p= !gO j p:=by unfold AW; rw [dM e]; rfl
theorem Mq {P:Nat→Bool} {n:Nat}:(mA P n).length=(List.range n).countP P:=by unfold mA; rw [List.length_map,List.countP_eq_length_filter]
theorem HR (e: ¬ di j=0):tT j s=0∧r9 j s=di j:=⟨if_neg fun q=>e q.1,if_neg e⟩
theorem G7 (e:di j=0) (n: ¬ (0≤s∧s≤(j.Race.aY.length:Int)-1)):tT j s=0∧r9 j s=2:=⟨if_neg fun q=>n q.2,by unfold r9; rw [if_pos e,if_neg n]⟩
theorem Kp (e:di j=0) (n:0≤s∧s≤(j.Race.aY.length:Int)-1):tT j s= -((mA (iL j.aw fun _ p=>AW j s p) j.aw.length).length:Int)*j.xA∧r9 j s=0:=
 ⟨by unfold tT; rw [if_pos ⟨e,n⟩,Mq]; rfl,by unfold r9; rw [if_pos e,if_pos n]⟩
end
end
section
open Go.RowKit
theorem FC (l:List ax) (az:List RA): ∀ v∈(List.zipWith ax.cells l az).flatten,v.oneCell'=true:=by
 induction l generalizing az with
 |nil=>intro v hv; simp at hv
 |cons x l ih=>
  cases az with
  |nil=>intro v hv; simp at hv
  |cons a az=>
   intro v hv
   rw [List.zipWith_cons_cons,List.flatten_cons,g9] at hv
   rcases hv with hv|hv
   ·simp [ax.cells,dA.cells] at hv
    rcases hv with rfl|rfl<;>rfl
   ·exact ih az v hv
theorem g7 {l:List ax} {az:List RA} (h:az.length=l.length):(List.zipWith ax.cells l az).length=l.length:=by simp [h]
/-- addresses, of which some are new -/
def th (bz az:List RA) (i:Nat):List RA:=bz++az.drop i
theorem se {bz az:List RA} {i:Nat} (hb:bz.length=i) (hi:i≤az.length):(th bz az i).length=az.length:=by simp [th,hb]; omega
theorem Jv {bz az:List RA} {i:Nat} (h:az.length≤i):th bz az i=bz:=by unfold th; rw [List.drop_eq_nil_of_le h,List.append_nil]
theorem Gf {bz az:List RA} {i:Nat} {a:RA} (hb:bz.length=i) (h:az[i]? =some a):(th bz az i)[i]? =some a:=by
 unfold th
 rw [List.getElem?_append_right I,hb,Nat.sub_self,List.getElem?_drop]
 simpa using h
theorem LV {bz az:List RA} {i:Nat} {a b:RA} (hb:bz.length=i) (h:az[i]? =some a):(th bz az i).set i b=th (bz++[b]) az (i+1):=by
 unfold th
 have hi:=(aX.1 h).1
 rw [List.set_append_right _ _ I,hb,Nat.sub_self,List.drop_eq_getElem_cons hi,List.set_cons_zero]
 simp
theorem Oa {l:List ax} {bz az:List RA} {i:Nat} {x:ax} {xa nw:RA} (hx:l[i]? =some x) (hb:bz.length=i) (ha:az[i]? =some xa):
 (List.zipWith ax.cells l (th bz az i)).set i (ax.cells x nw)=List.zipWith ax.cells l (th (bz++[nw]) az (i+1)):=by
 rw [← LV hb ha]
 apply List.ext_getElem?
 intro k
 rw [List.getElem?_set]
 by_cases e:i=k
 ·subst e
  have A:=Gf hb ha
  have B:=(aX.1 A).1
  have C:=(aX.1 hx).1
  rw [if_pos rfl,List.getElem?_zipWith,hx,List.getElem?_set_self B,if_pos (by simp; omega)]
 ·rw [if_neg e,List.getElem?_zipWith,List.getElem?_zipWith,List.getElem?_set_ne e]
theorem Hn {l:List ax} {bz:List RA} {i:Nat} {x:ax} {nw:RA} (hx:l[i]? =some x) (hb:bz.length=i):a_ ax.owns (l.take i) bz++ax.owns x nw=a_ ax.owns (l.take (i+1)) (bz++[nw]):=by
 have hi:=(aX.1 hx).1
 rw [List.take_add_one,hx,Option.toList_some,jU (by rw [List.length_take,hb]; omega)]
 simp [a_]
theorem nU {l:List ax} {bz:List RA}:(bK (a_ ax.owns l bz)).wr=true:=by
 show (a_ ax.owns l bz).all (·.wr)=true
 rw [de]
 intro X hX
 obtain ⟨k,m,a,_,_,h⟩:=ky hX
 simp only [ax.owns,ck] at h
 subst h; rfl
/-- what is known of new rows -/
def vc (l:List ax) (bz:List RA):Prop:= ∀ (k:Nat) m (a:RA),l[k]? =some m→bz[k]? =some a→m.bu.length≤a.2
theorem KX {l:List ax} {bz:List RA} {i:Nat} {x:ax} {nw:RA} (h:vc l bz) (hb:bz.length=i) (hx:l[i]? =some x) (hc:x.bu.length≤nw.2):vc l (bz++[nw]):=fun k m a hm ha=>by
 by_cases e:k<bz.length
 ·rw [List.getElem?_append_left e] at ha
  exact h k m a hm ha
 ·rw [List.getElem?_append_right I] at ha
  have hk:k-bz.length=0:=by
   rcases Nat.eq_zero_or_pos (k-bz.length) with A|A
   ·exact A
   ·rw [List.getElem?_eq_none (by simp; omega)] at ha; cases ha
  rw [hk] at ha
  simp at ha
  have:k=i:=by omega
  subst this
  rw [hx] at hm; cases hm
  subst ha; exact hc
theorem kB: ∀ (m:ax) (a:RA) (w:World),(∀ X∈ax.owns m a,X.holds w)→ ∀ X∈ax.gG m a,X.holds w:=fun m a w h X hX=>by
 simp only [ax.gG,ck] at hX
 subst hX
 have:=oo (h _ (ck.2 rfl))
 simpa using this
theorem ep.So {l:bg} {az bz:List RA} (h:ep l az) (hb:bz.length=l.aj.length) (hc:vc l.aj bz):ep l bz:=⟨h.sZ,h.side,h.rn,hb,h.sB,fun k m a hm ha=>⟨hc k m a hm ha,by
 obtain ⟨A,B⟩: ∃ A,az[k]? =some A:=⟨az[k]'(by rw [h.n_]; exact (aX.1 hm).1),eU _⟩
 exact (h.Rr k m A hm B).2⟩⟩
section
variable {E:fG} {ops:Array Oper} {Q:dk} {rest:List Oper} {D:List Deferred} {L:List (Nat×Value)} {C:List aB}
theorem SQ {a:OA} {c e sz:Nat} {es:List (List Value)} (i:Nat) (hC:C[i]? =some (own a c e sz es)) (k:es.length≤c→RJ E ops Q rest D L C):RJ E ops Q rest D L C:=fun act w hf hs=>
 k (Oo (hs.holds _ (aQ hC))) act w hf hs
end
end
section
open Go.RowKit
def ru (m:ao) (a:RA):List aB:=[own a.1 a.2 Va 2 (m.aZ.aa.map aH.cells)]
def jT (m:List ao) (a:cN):List aB:=own a.1.1 a.1.2 C_ 7 (List.zipWith ao.cells m a.2)::a_ ru m a.2
theorem Rt: ∀ (m:ao) (a:RA) (w:World),(∀ X∈ru m a,X.holds w)→ ∀ X∈ao.gG m a,X.holds w:=fun m a w h X hX=>by
 simp only [ao.gG,ck] at hX
 subst hX
 have:=oo (h _ (ck.2 rfl))
 simpa using this
theorem oH {m:List ao} {asl:List RA} (h:asl.length=m.length):(List.zipWith ao.cells m asl).length=m.length:=by simp [h]
theorem fB {m:List (List ao)} {asl:List cN} (h:asl.length=m.length):(List.zipWith cq m asl).length=m.length:=by simp [h]
theorem O6 {m:List ao} {asl:List RA}:(a_ ru m asl).all (·.wr)=true:=by
 rw [de]
 intro X hX
 obtain ⟨k,d,a,_,_,h⟩:=ky hX
 simp only [ru,ck] at h
 subst h; rfl
theorem zq {m:List (List ao)} {asl:List cN}:(bK (a_ jT m asl)).wr=true:=by
 show (a_ jT m asl).all (·.wr)=true
 rw [de]
 intro X hX
 obtain ⟨k,d,a,_,_,h⟩:=ky hX
 rcases bU.1 h with rfl|h
 ·rfl
 ·exact de.1 O6 X h
theorem N2 (l:List ao) (az:List RA): ∀ v∈(List.zipWith ao.cells l az).flatten,v.oneCell'=true:=by
 induction l generalizing az with
 |nil=>intro v hv; simp at hv
 |cons x l ih=>
  cases az with
  |nil=>intro v hv; simp at hv
  |cons a az=>
   intro v hv
   rw [List.zipWith_cons_cons,List.flatten_cons,g9] at hv
   rcases hv with hv|hv
   ·simp [ao.cells,aP.cells,cM.cells,ag.cells] at hv
    rcases hv with rfl|rfl|rfl|rfl|rfl|rfl|rfl<;>rfl
   ·exact ih az v hv
theorem H5 (l:List (List ao)) (az:List cN): ∀ v∈(List.zipWith cq l az).flatten,v.oneCell'=true:=by
 induction l generalizing az with
 |nil=>intro v hv; simp at hv
 |cons x l ih=>
  cases az with
  |nil=>intro v hv; simp at hv
  |cons a az=>
   intro v hv
   rw [List.zipWith_cons_cons,List.flatten_cons,g9] at hv
   rcases hv with hv|hv
   ·simp [cq] at hv; subst hv; rfl
   ·exact ih az v hv
/-- every heat has as many places as descents -/
def v7 (H:List (List ao)) (hz:List cN):Prop:=hz.length=H.length∧ ∀ (k:Nat) h (a:cN),H[k]? =some h→hz[k]? =some a→a.2.length=h.length
theorem Nq {a:OA} {c e sz n:Nat} {es:List (List Value)} {w:World} (h:(own a c e sz es).holds w) (hn:es.length=n):(rd a n sz es).holds w:=by subst hn; exact oo h
theorem jS {C:List aB} {H:List (List ao)} {hz:List cN} (i:Nat) (hC:C[i]? =some (bK (a_ jT H hz))) (hh:v7 H hz):jC C (dV (a_ eV H hz)).holds:=fun w hw X hX=>by
 have hb:=hw _ (aQ hC)
 obtain ⟨k,m,a,A,B,D⟩:=ky hX
 rcases bU.1 D with rfl|D
 ·exact Nq (hb.1 _ (bT A B cD)) (oH (hh.2 k m a A B))
 ·obtain ⟨q,d,b,E,F,G⟩:=ky D
  exact Rt d b w (fun Y hY=>hb.1 Y (bT A B (dU _ (bT E F hY)))) X G
section
variable {α:Type}
def mW (bz az:List α) (i:Nat):List α:=bz++az.drop i
variable {bz az:List α} {i:Nat} {a b:α}
theorem jz (hb:bz.length=i) (hi:i≤az.length):(mW bz az i).length=az.length:=by simp [mW,hb]; omega
theorem CP (h:az.length≤i):mW bz az i=bz:=by unfold mW; rw [List.drop_eq_nil_of_le h,List.append_nil]
theorem F0 (hb:bz.length=i) (h:az[i]? =some a):(mW bz az i)[i]? =some a:=by
 unfold mW
 rw [List.getElem?_append_right I,hb,Nat.sub_self,List.getElem?_drop]
 simpa using h
theorem Mb (hb:bz.length=i):(mW (bz++[b]) az (i+1))[i]? =some b:=by
 unfold mW
 rw [List.getElem?_append_left (by simp; omega),List.getElem?_append_right I,hb,Nat.sub_self]; rfl
theorem JS (hb:bz.length=i) (h:az[i]? =some a):(mW bz az i).set i b=mW (bz++[b]) az (i+1):=by
 unfold mW
 have hi:=(aX.1 h).1
 rw [List.set_append_right _ _ I,hb,Nat.sub_self,List.drop_eq_getElem_cons hi,List.set_cons_zero]
 simp
theorem De {M β:Type} {c:M→α→β} {l:List M} {x:M} (hx:l[i]? =some x) (hb:bz.length=i) (h:az[i]? =some a):(List.zipWith c l (mW bz az i)).set i (c x b)=List.zipWith c l (mW (bz++[b]) az (i+1)):=by
 rw [C7,JS hb h]
 congr 1
 obtain ⟨hi,rfl⟩:=aX.1 hx
 exact List.set_getElem_self hi
theorem yj {M:Type} {f:M→α→List aB} {l:List M} {x:M} (hx:l[i]? =some x) (hb:bz.length=i):a_ f (l.take i) bz++f x b=a_ f (l.take (i+1)) (bz++[b]):=by
 have hi:=(aX.1 hx).1
 rw [List.take_add_one,hx,Option.toList_some,jU (by rw [List.length_take,hb]; omega)]
 simp [a_]
end
theorem zu: ∀ {l:List (List ao)} {u v:List cN},u.map (·.1)=v.map (·.1)→List.zipWith cq l u=List.zipWith cq l v
 |[],u,v,_=>by simp
 |x::l,[],[],_=>rfl
 |x::l,[],b::v,h=>by simp at h
 |x::l,a::u,[],h=>by simp at h
 |x::l,a::u,b::v,h=>by
  simp only [List.map_cons,List.cons.injEq] at h
  rw [List.zipWith_cons_cons,List.zipWith_cons_cons,zu h.2]
  have e:cq x a=cq x b:=by simp only [cq,h.1]
  rw [e]
theorem MP {l:List (List ao)} {hz ha:List cN} {p:RA} {x y:List RA} {i:Nat}:List.zipWith cq l (mW (hz++[(p,x)]) ha i)=List.zipWith cq l (mW (hz++[(p,y)]) ha i):=zu (by simp [mW])
theorem NX {H:List (List ao)} {hz:List cN} {i:Nat} {x:List ao} {b:cN} (hx:H[i]? =some x) (h: ∀ (k:Nat) y (a:cN),H[k]? =some y→hz[k]? =some a→a.2.length=y.length) (hb:hz.length=i) (hl:b.2.length=x.length): ∀ (k:Nat) y (a:cN),H[k]? =some y→(hz++[b])[k]? =some a→a.2.length=y.length:=fun k y a hy ha=>by
 by_cases e:k<hz.length
 ·rw [List.getElem?_append_left e] at ha
  exact h k y a hy ha
 ·rw [List.getElem?_append_right I] at ha
  have hk:k-hz.length=0:=by
   rcases Nat.eq_zero_or_pos (k-hz.length) with A|A
   ·exact A
   ·rw [List.getElem?_eq_none (by simp; omega)] at ha; cases ha
  rw [hk] at ha
  simp at ha
  have:k=i:=by omega
  subst this
  rw [hx] at hy; cases hy
  subst ha; exact hl
theorem F1 {S:BS} {w0 w:World} {C:List aB} {A:aB} {Y Z:List aB} (h:St S w0 (A::bK Y::bK Z::C) w):St S w0 (bK (Z++A::Y)::C) w:=by
 have D:St S w0 (bK Y::A::bK Z::C) w:=h.perm (List.Perm.swap _ _ _)
 have E:St S w0 (Y++(A::bK Z::C)) w:=D.je
 have F:St S w0 (bK Z::(A::Y)++C) w:=E.perm (by
  have B:(Y++(A::bK Z::C)).Perm ((A::bK Z::C)++Y):=List.perm_append_comm
  refine B.trans ?_
  show (A::bK Z::(C++Y)).Perm (bK Z::A::(Y++C))
  exact (List.Perm.swap _ _ _).trans (((List.perm_append_comm (l₁:=C) (l₂:=Y)).cons A).cons _))
 have G:St S w0 (Z++((A::Y)++C)) w:=F.je
 have H:St S w0 ((Z++A::Y)++C) w:=by simpa using G
 exact H.tied
theorem I4 {S:BS} {w0 w:World} {C:List aB} {A:aB} {Y Z:List aB} (h:St S w0 (bK (A::Y++Z)::C) w):St S w0 (A::bK Y::bK Z::C) w:=by
 have D:St S w0 ((A::Y++Z)++C) w:=h.je
 have E:St S w0 (Z++(A::(Y++C))) w:=D.perm (by
  show (A::(Y++Z)++C).Perm (Z++(A::(Y++C)))
  have B:(A::(Y++Z)++C).Perm (A::(Z++(Y++C))):=by
   show (A::((Y++Z)++C)).Perm _
   refine List.Perm.cons A ?_
   rw [← List.append_assoc]
   exact List.perm_append_comm.append_right C
  exact B.trans (List.perm_middle (a:=A) (l₁:=Z) (l₂:=Y++C)).symm)
 have F:=E.tied
 have G:St S w0 (Y++(A::bK Z::C)) w:=F.perm (by
  show (bK Z::A::(Y++C)).Perm (Y++(A::bK Z::C))
  have B:(Y++(A::bK Z::C)).Perm (A::bK Z::(Y++C)):=by
   have:=List.perm_append_comm (l₁:=Y) (l₂:=A::bK Z::C)
   refine this.trans ?_
   show (A::bK Z::(C++Y)).Perm _
   exact (List.perm_append_comm.cons _).cons _
  exact (B.trans (List.Perm.swap _ _ _)).symm)
 have H:=G.tied
 exact H.perm (List.Perm.swap _ _ _)
theorem zz {H:List (List ao)} {hz:List cN} {k:Nat} {h:List ao} {a:cN} (hh:H[k]? =some h) (ha:hz[k]? =some a):(a_ jT H hz).Perm (own a.1.1 a.1.2 C_ 7 (List.zipWith ao.cells h a.2)::a_ ru h a.2++gP jT H hz k):=pW hh ha
abbrev N6 (C:List aB) (i j k:Nat):List Nat:=k::j::i::(List.range C.length).filter fun q=>q != i&&q != j&&q != k
section
variable {E:fG} {ops:Array Oper} {Q:dk} {rest:List Oper} {D:List Deferred} {L:List (Nat×Value)} {C C1:List aB} {K:Act→World→Prop}
variable {H:List (List ao)} {hz:List cN} {h h':List ao} {a a':cN} {k:Nat} {X:aB} {Y Z Z':List aB}
/-- i: the others, j: what hangs on the row, q: the row -/
theorem Rj (i j q:Nat) (hn:decide (N6 C i j q).Nodup=true) (hC:nA C (N6 C i j q)=some (X::bK Y::bK Z::C1)) (e:Z++X::Y=Z') (hk:KJ E K D L (bK Z'::C1)):KJ E K D L C:=fun a w hf hs=>by
 subst e; exact hk a w hf (F1 (St.kv _ hn (kZ hC) hs))
theorem Rm {c:Code} (i:Nat) (hh:H[k]? =some h) (ha:hz[k]? =some a) (hn:decide (NR C i).Nodup=true) (hC:nA C (NR C i)=some (bK (a_ jT H hz)::C1))
 (hk:WJ E c Q D L (own a.1.1 a.1.2 C_ 7 (List.zipWith ao.cells h a.2)::bK (a_ ru h a.2)::bK (gP jT H hz k)::C1)):WJ E c Q D L C:=fun act w hf hs=>
 hk act w hf (I4 (p6 (zz hh ha) (St.kv _ hn (kZ hC) hs)))
theorem I9 {S:BS} {w0 w:World} (hk:k<H.length) (hk2:k<hz.length) (hs:St S w0 (own a'.1.1 a'.1.2 C_ 7 (List.zipWith ao.cells h' a'.2)::bK (a_ ru h' a'.2)::bK (gP jT H hz k)::C) w):St S w0 (bK (a_ jT (H.set k h') (hz.set k a'))::C) w:=by
 have B:=F1 hs
 refine p6 ?_ B
 have A:=zz (H:=H.set k h') (hz:=hz.set k a') (List.getElem?_set_self hk) (List.getElem?_set_self hk2)
 rw [Ed] at A
 exact (List.perm_append_comm).trans A.symm
end
theorem lO.So {r:dY} {az bz:List RA} {ha hz:List cN} (h:lO r az ha) (hb:bz.length=r.ak.aj.length) (hc:vc r.ak.aj bz) (hh:v7 r.aA hz):lO r bz hz:=⟨h.line.So hb hc,h.iK,h.draw,h.iJ,hh.1,fun k x a hx ha'=>by
 obtain ⟨A,C⟩: ∃ A,ha[k]? =some A:=⟨ha[k]'(by rw [h.has]; exact (aX.1 hx).1),eU _⟩
 have B:=h.gM k x A hx C
 exact ⟨B.len,hh.2 k x a hx ha',B.sig⟩⟩
end
section
theorem xO: ∀ {m:nF} {a:Int} {s:ag},m.lookup a=some s→(a,s)∈m
 |[],a,s,h=>by cases h
 |(b,u)::m,a,s,h=>by
  by_cases e:a=b
  ·subst e
   simp [List.lookup] at h; subst h; exact cD
  ·have:(a==b)=false:=by simpa using e
   simp only [List.lookup,this] at h
   exact dU _ (xO h)
theorem xU: ∀ {m:nF} {a:Int} {s:ag},(m.map (·.1)).Nodup→(a,s)∈m→m.lookup a=some s
 |[],a,s,_,h=>by cases h
 |(b,u)::m,a,s,hn,h=>by
  rw [List.map_cons,List.nodup_cons] at hn
  rcases bU.1 h with e|h
  ·cases e; simp [List.lookup]
  ·have e:a≠b:=fun e=>hn.1 (by rw [← e]; exact List.mem_map_of_mem (f:=(·.1)) h)
   have:(a==b)=false:=by simpa using e
   simp only [List.lookup,this]
   exact xU hn.2 h
/-- sums, each of another sled -/
structure pH (m:nF):Prop where
 nd:(m.map (·.1)).Nodup
 le: ∀ p∈m,p.2.Lo≤p.2.Hi
section
variable {m:nF} {a b i n:Int} {s t own:ag}
theorem pH.at (h:pH m) (hs:m.lookup a=some s):s.Lo≤s.Hi:=h.le _ (xO hs)
theorem pH.one (h:pH m) (hs:m.lookup a=some s) {p:Int×ag} (hp:p∈m) (e:p.1=a):p.2=s:=by
 obtain ⟨x,y⟩:=p
 cases e
 have:=xU h.nd hp
 rw [hs] at this; cases this; rfl
/-- who is surely tied has the same ranks -/
theorem IG (h:pH m) (hs:m.lookup a=some s) (ht:m.lookup b=some s) (he:s.Lo=s.Hi):v_ m a s=v_ m b s:=by
 have C:pw m a s.Lo=pw m b s.Lo:=by
  rw [AP,AP]
  apply List.countP_congr
  intro p hp
  simp only [cZ,decide_eq_true_eq,Bool.not_eq_true',decide_eq_false_iff_not]
  exact ⟨fun q=>⟨q.1,fun e=>by have:=h.one ht hp e; rw [this] at q; omega⟩,fun q=>⟨q.1,fun e=>by have:=h.one hs hp e; rw [this] at q; omega⟩⟩
 have D:uH m a s.Lo=uH m b s.Lo:=by
  rw [FH,FH]
  apply List.countP_congr
  intro p hp
  simp only [cZ,decide_eq_true_eq,Bool.not_eq_true',decide_eq_false_iff_not]
  exact ⟨fun q=>⟨q.1,fun e=>by have:=h.one ht hp e; rw [this] at q; omega⟩,fun q=>⟨q.1,fun e=>by have:=h.one hs hp e; rw [this] at q; omega⟩⟩
 unfold v_
 congr 1
 funext k
 rw [g5,Cv (h.at hs),Cv (h.at hs)]
 constructor<;>rintro ⟨x,A,B,E,F⟩<;>(have:x=s.Lo:=by omega)<;>subst this<;>exact ⟨s.Lo,A,B,I,I⟩
end
section
variable {r:dY} {a b i:Int} {s t:ag}
/-- what is known of two sleds that have sums -/
structure PE (r:dY) (a b:Int) (s t:ag):Prop where
 ne:a≠b
 Sf:pH (nx r)
 sa:(nx r).lookup a=some s
 sb:(nx r).lookup b=some t
 ea:Oj r a=0
 eb:Oj r b=0
 va:SU r a=s
 vb:SU r b=t
 ra:AI r a=v_ (nx r) a s
 rb:AI r b=v_ (nx r) b t
 XN:On r a b=KT s t
 SA:On r b a=KT t s
 tied:PR r a b=JD s t
theorem PE.tie (h:PE r a b s t) (e:PR r a b=2):s=t∧s.Lo=s.Hi∧AI r a=AI r b∧On r a b=0∧On r b a=0:=by
 rw [h.tied] at e
 unfold JD at e
 split at e
 ·rename_i q
  obtain ⟨rfl,q⟩:=q
  have hb:KT s s=0:=by unfold KT; rw [if_neg I,if_neg I]
  exact ⟨U,q,by rw [h.ra,h.rb,IG h.Sf h.sa h.sb q],h.XN.trans hb,h.SA.trans hb⟩
 ·split at e<;>cases e
end
end
section
open Go.RowKit
def Ek (t:ag):ao:=⟨false,true,t,⟨0,0,[]⟩⟩
def Xa (H:List (List ao)) (h i:Int) (t:ag):List (List ao):=H.set h.toNat ((H[h.toNat]?.getD []).set i.toNat (Ek t))
def Qf (r:dY) (h i:Int) (t:ag):dY:=⟨r.ak,r.aY,r.b_,r.lG,Xa r.aA h i t⟩
@[simp] theorem Sx {r:dY} {h i:Int} {t:ag}:(Qf r h i t).ak=r.ak:=rfl
@[simp] theorem RP {r:dY} {h i:Int} {t:ag}:(Qf r h i t).aY=r.aY:=rfl
@[simp] theorem Sw {r:dY} {h i:Int} {t:ag}:(Qf r h i t).b_=r.b_:=rfl
section
variable {r:dY} {h i:Int} {t:ag} {ht:List ao} {d:ao}
end
section
variable {E:fG} {Q:dk} {D:List Deferred} {L:List (Nat×Value)} {C C1:List aB} {c:Code}
variable {H:List (List ao)} {hz:List cN} {h h':List ao} {a a':cN} {k:Nat} {bs:List RA} {i:Nat} {d d':ao} {b:RA}
end
end
section
def wv (s t:ag):Prop:=s.Lo≤t.Lo∧t.Lo≤t.Hi∧t.Hi≤s.Hi
/-- sums of the same sleds, each within the old one -/
structure C6 (m m':nF):Prop where
 ok:pH m
 ok':pH m'
 keys:m'.map (·.1)=m.map (·.1)
 XE: ∀ (k:Int) s s',m.lookup k=some s→m'.lookup k=some s'→wv s s'
section
variable {m m':nF} {i k n:Int} {s t own:ag}
theorem vp {m:nF} (h:k∈m.map (·.1)): ∃ s,m.lookup k=some s:=by
 obtain ⟨p,hp,rfl⟩:=cp.1 h
 cases e:m.lookup p.1 with
 |some s=>exact ⟨s,rfl⟩
 |none=>exact absurd rfl ((ij.1 e) p hp)
theorem oe {m:nF} (h:m.lookup k=some s):nD m k=s:=by unfold nD; rw [h]; rfl
theorem Am (h:pH m):pw m i n=(m.map (·.1)).countP fun k=>decide ((nD m k).Hi<n)&& !decide (k=i):=by
 rw [AP,List.countP_map]
 apply List.countP_congr
 intro p hp
 have:nD m p.1=p.2:=oe (xU h.nd hp)
 simp only [Function.comp,this]
theorem CY (h:pH m):uH m i n=(m.map (·.1)).countP fun k=>decide ((nD m k).Lo<n)&& !decide (k=i):=by
 rw [FH,List.countP_map]
 apply List.countP_congr
 intro p hp
 have:nD m p.1=p.2:=oe (xU h.nd hp)
 simp only [Function.comp,this]
theorem C6.look (h:C6 m m') (hs:m.lookup k=some s): ∃ s',m'.lookup k=some s'∧wv s s':=by
 obtain ⟨s',e⟩:=vp (m:=m') (k:=k) (by rw [h.keys]; exact cp.2 ⟨_,xO hs,rfl⟩)
 exact ⟨s',e,h.XE k s s' hs e⟩
theorem C6.back (h:C6 m m') (hs:m'.lookup k=some t): ∃ s,m.lookup k=some s∧wv s t:=by
 obtain ⟨s,e⟩:=vp (m:=m) (k:=k) (by rw [← h.keys]; exact cp.2 ⟨_,xO hs,rfl⟩)
 exact ⟨s,e,h.XE k s t e hs⟩
theorem C6.sure (h:C6 m m'):pw m i n≤pw m' i n:=by
 rw [Am h.ok,Am h.ok',h.keys]
 refine List.countP_mono_left fun k hk q=>?_
 obtain ⟨s,hs⟩:=vp hk
 obtain ⟨s',hs',hw⟩:=h.look hs
 rw [oe hs] at q
 rw [oe hs']
 unfold wv at hw
 simp only [cZ,decide_eq_true_eq] at q ⊢
 exact ⟨I,q.2⟩
theorem C6.may (h:C6 m m'):uH m' i n≤uH m i n:=by
 rw [CY h.ok,CY h.ok',h.keys]
 refine List.countP_mono_left fun k hk q=>?_
 obtain ⟨s,hs⟩:=vp hk
 obtain ⟨s',hs',hw⟩:=h.look hs
 rw [oe hs'] at q
 rw [oe hs]
 unfold wv at hw
 simp only [cZ,decide_eq_true_eq] at q ⊢
 exact ⟨I,q.2⟩
end
def VR (l l':bg) (d d':ao):Prop:=d.Out=d'.Out∧(d.Out=false→wv (gr l d) (gr l' d'))
structure Wx (l l':bg) (H H':List (List ao)) (q:Nat):Prop where
 len: ∀ k:Nat,((H'[k]?).bind (·[q]?)).isSome=((H[k]?).bind (·[q]?)).isSome
 X1: ∀ (k:Nat) d d',(H[k]?).bind (·[q]?)=some d→(H'[k]?).bind (·[q]?)=some d'→VR l l' d d'∧0≤(gr l d).Lo
end
section
/-- a ride that passed the finish was under way for some time -/
theorem vj {l:bg} {r:cr} (h:dj l r l.bM=0):r.Start+1≤r.fI:=by
 have ho:dG l r (iA l l.bM)=0:=by
  by_cases e:dG l r (iA l l.bM)=0
  ·exact e
  ·rw [(jF e).1] at h; exact absurd h e
 obtain ⟨E,H,B,J⟩:=iG ho
 obtain ⟨ht,A⟩:=dq E
 have hw:=kO ht A H
 have hl: ∀ b,0≤bW (bP l r) b:=fun b=>by
  unfold bW
  cases e:(bP l r).qe[b]? with
  |none=>simp
  |some x=>have:=hw.least x (aQ e); simp; omega
 have hb:0≤l.bM∧l.bM≤(l.ab.length:Int)-1:=by
  unfold iA at B
  split at B
  ·assumption
  ·cases B
 have hn:(bP l r).n=l.ab.length:=cE
 have D:gp (bP l r) l.bM.toNat≠[]:=fun e=>by
  unfold dj at h
  rw [if_pos ho,if_pos (show lv l r l.bM.toNat=jJ by unfold lv; rw [e]; rfl)] at h
  cases h
 obtain ⟨q,hq⟩:=List.exists_mem_of_ne_nil _ D
 have C:q.2.Lo≤q.2.Hi:=jx hq
 obtain ⟨p,hp,o,AA,_,⟨K,L⟩,_⟩:=(mZ hl (w:=bP l r) (b:=l.bM.toNat) I (s:=q.1) (t:=q.2.Lo)).1 ⟨q,hq,rfl,Int.le_refl _,C⟩
 have M:(bP l r).Start≤p.2:=vX hl _ p hp
 have N:bW (bP l r) l.bM.toNat=eu l l.bM.toNat:=by
  unfold bW
  show ((cd l l.ab.length)[l.bM.toNat]?).getD 0=_
  unfold cd
  rw [dL,List.getElem?_range I]; rfl
 have O:=(CM ht A (i:=l.bM.toNat) I).1
 have F:(bP l r).Start=r.Start:=rfl
 have G:(bP l r).fI=r.fI:=rfl
 omega
def vL (n:Int) (r:cr):cr:=if ji r then r else fR n r
def dg (n:Int) (d:ao):ao:=⟨d.Out,d.cY,d.Time,vL n d.aZ⟩
def e8 (n:Int) (r:dY):dY:=⟨gd n r.ak,r.aY,r.b_,r.lG,r.aA.map fun x=>x.map (dg n)⟩
section
variable {n:Int} {l:bg} {r:dY} {d:ao} {h i:Int} {k q:Nat}
theorem wI:(((e8 n r).aA[k]?).bind (·[q]?))=((r.aA[k]?).bind (·[q]?)).map (dg n):=by
 show (((r.aA.map fun x=>x.map (dg n))[k]?).bind (·[q]?))=_
 rw [dL]
 cases r.aA[k]? with
 |none=>rfl
 |some x=>simp
theorem o_ (he:il r=0) (hd:(r.aA[k]?).bind (·[q]?)=some d):iW r.ak d:=by
 cases e:r.aA[k]? with
 |none=>rw [e] at hd; cases hd
 |some x=>
  rw [e] at hd
  exact ((d_ he).2.gM x (aQ e)).2 d (aQ hd)
end
end
section
open Go.RowKit
theorem EI {n:Int} {r:cr}:(vL n r).aa.length=r.aa.length:=by
 unfold vL; split
 ·rfl
 ·exact List.length_map _
theorem Mj {r:dY} {n:Int} {bz:List RA} {hz kz:List cN} (h:lO r bz hz) (hh:v7 (e8 n r).aA kz):sJ (e8 n r) bz kz:=⟨Hd h.line,Nat.le_trans h.iK dc,Nat.le_trans h.draw dc,by show (r.aA.map _).length≤_; rw [List.length_map]; exact Nat.le_trans h.iJ dc,hh.1,fun k x a hx ha=>by
 have hs:=hh.2 k x a hx ha
 have hx:(r.aA.map fun x=>x.map (dg n))[k]? =some x:=hx
 rw [dL] at hx
 cases e:r.aA[k]? with
 |none=>rw [e] at hx; cases hx
 |some y=>
  rw [e] at hx
  simp only [Option.map_some,Option.some.injEq] at hx
  subst hx
  obtain ⟨A,D⟩: ∃ A,hz[k]? =some A:=⟨hz[k]'(by rw [h.has]; exact (aX.1 e).1),eU _⟩
  have q:=h.gM k y A e D
  refine ⟨by rw [List.length_map]; exact Nat.le_trans q.len dc,hs,fun d hd=>?_⟩
  obtain ⟨C,B,rfl⟩:=cp.1 hd
  show (vL n C.aZ).aa.length≤_
  rw [EI]
  exact Nat.le_trans (q.sig C B) dc⟩
theorem Mk {H:List (List ao)} {n:Int} {hz:List cN} (h1:hz.length=H.length) (h2: ∀ (k:Nat) x (a:cN),H[k]? =some x→hz[k]? =some a→a.2.length=x.length):v7 (H.map fun x=>x.map (dg n)) hz:=⟨by rw [List.length_map,h1],fun k x a hx ha=>by
 rw [dL] at hx
 cases e:H[k]? with
 |none=>rw [e] at hx; cases hx
 |some y=>
  rw [e] at hx
  simp only [Option.map_some,Option.some.injEq] at hx
  subst hx
  rw [List.length_map]
  exact h2 k y a e ha⟩
section
variable {E:fG} {ops:Array Oper} {Q:dk} {rest:List Oper} {D:List Deferred} {L:List (Nat×Value)} {C C1:List aB} {K:Act→World→Prop}
variable {h:List ao} {bs:List RA} {k:Nat} {d d':ao} {b b':RA}
end
end
section
open Go.RowKit
section
variable {α β γ:Type} {f:α→α} {l:List α} {x y:α} {bz az:List β} {a b:β} {c:α→β→γ} {i:Nat}
theorem H2 (h:l[i]? =some x) (hf:f x=x):df f (i+1) l=df f i l:=by
 rw [← nj h,hf]
 have A:(df f i l)[i]? =some x:=nR.trans h
 obtain ⟨hi,rfl⟩:=aX.1 A
 exact List.set_getElem_self hi
theorem B6 (h:l[i]? =some x) (hf:f x=y):(df f i l).set i y=df f (i+1) l:=by rw [← hf]; exact nj h
end
section
variable {n:Int} {r:dY} {d:ao} {H:List (List ao)} {ht:List ao} {k i:Nat} {kz hz:List cN}
theorem w8 (h:ji d.aZ):dg n d=d:=by
 unfold dg vL; rw [if_pos h]
theorem rL (h: ¬ ji d.aZ):dg n d=⟨d.Out,d.cY,d.Time,fR n d.aZ⟩:=by
 unfold dg vL; rw [if_neg h]
/-- of a valid race: what stands in a ride that is none is small -/
theorem EY (he:il r=0) (hh:r.aA[k]? =some ht) (hd:ht[i]? =some d) (hb: ¬ ji d.aZ):(0≤d.aZ.Start∧d.aZ.Start≤86400000)∧(0≤d.aZ.fI∧d.aZ.fI≤86400000)∧ ∀ z∈d.aZ.aa,0≤z.Read∧z.Read≤86400000:=by
 have ht:=o_ he (k:=k) (q:=i) (by rw [hh]; exact hd)
 cases eo:d.Out with
 |true=>exact absurd (((m_ eo).mp ht).2.2) hb
 |false=>
  cases ef:d.cY with
  |true=>exact absurd (((ow ⟨eo,ef⟩).mp ht).2) hb
  |false=>
   have hp:=((kF ⟨eo,ef⟩).mp ht).1
   have hr:=lZ hp
   have A:=hr.time
   refine ⟨I,I,fun z hz=>?_⟩
   obtain ⟨q,hq⟩:=List.mem_iff_getElem?.1 hz
   exact (hr.sig q z hq).1.2
/-- the row of heats reads as before -/
theorem IX (hk:kz.map (·.1)=hz.map (·.1)):List.zipWith cq H hz=List.zipWith cq (H.map fun x=>x.map (dg n)) kz:=by
 rw [zu hk.symm]
 clear hk
 induction H generalizing kz with
 |nil=>rfl
 |cons x H ih=>
  cases kz with
  |nil=>rfl
  |cons a kz=>
   rw [List.map_cons,List.zipWith_cons_cons,List.zipWith_cons_cons,ih]
   have e:cq x a=cq (x.map (dg n)) a:=by simp only [cq,List.length_map]
   rw [e]
end
section
variable {E:fG} {D:List Deferred} {L:List (Nat×Value)} {C C1:List aB} {K:Act→World→Prop}
variable {h h':List ao} {bs:List RA} {k:Nat} {d d':ao} {b b':RA} {H:List (List ao)} {hz:List cN} {a':cN} {Z:List aB}
theorem OP (i j q:Nat) (hk:k<H.length) (hk2:k<hz.length) (hn:decide (N6 C i j q).Nodup=true) (hC:nA C (N6 C i j q)=some (own a'.1.1 a'.1.2 C_ 7 (List.zipWith ao.cells h' a'.2)::bK (a_ ru h' a'.2)::bK (gP jT H hz k)::C1)) (e:a_ jT (H.set k h') (hz.set k a')=Z)
 (hr:KJ E K D L (bK Z::C1)):KJ E K D L C:=fun act w hf hs=>by
 subst e; exact hr act w hf (I9 hk hk2 (St.kv _ hn (kZ hC) hs))
end
end
section
def fr (n:Int) (j:cR):cR:=⟨e8 n j.Race,j.aC.map (dh n),j.aw.map (gF n),j.eh,j.xA⟩
section
variable {n:Int} {j:cR} {f:aL} {d:ao} {p:aT} {ht:List ao} {h s k:Nat} {r:dY} {l:bg}
theorem Lr (h:iW l d):wF n d=dg n d:=by
 unfold wF
 by_cases hd:jn d
 ·rw [if_pos hd]
  rw [kF hd] at h
  have hb: ¬ ji d.aZ:=fun q=>by have:=vj h.1; unfold ji at q; omega
  exact (rL hb).symm
 ·rw [if_neg hd]
  refine (w8 ?_).symm
  cases eo:d.Out with
  |true=>rw [m_ eo] at h; exact h.2.2
  |false=>
   cases ef:d.cY with
   |true=>rw [ow ⟨eo,ef⟩] at h; exact h.2
   |false=>exact absurd ⟨eo,ef⟩ hd
theorem Pk (he:il r=0) (hh:r.aA[h]? =some ht) (hd:ht[s]? =some d) (hn: ¬ jn d):ji d.aZ:=by
 have h:=o_ he (k:=h) (q:=s) (by rw [hh]; exact hd)
 cases eo:d.Out with
 |true=>rw [m_ eo] at h; exact h.2.2
 |false=>
  cases ef:d.cY with
  |true=>rw [ow ⟨eo,ef⟩] at h; exact h.2
  |false=>exact absurd ⟨eo,ef⟩ hn
theorem LG (he:il r=0) (hh:r.aA[h]? =some ht) (hd:ht[s]? =some d) (hn:jn d): ¬ ji d.aZ:=fun q=>by
 have h:=o_ he (k:=h) (q:=s) (by rw [hh]; exact hd)
 rw [kF hn] at h
 have:=vj h.1
 unfold ji at q; omega
/-- a descent of a valid jury, and the same later -/
theorem G0 (e:di j=0) (e':di (fr n j)=0) (hd:(j.Race.aA[h]?).bind (·[s]?)=some d) (hr:jn d):q9 j.Race.ak d.aZ (gd n j.Race.ak) (fR n d.aZ) n id id:=by
 have he:=(dF e).1
 have he':il (e8 n j.Race)=0:=(dF e').1
 have A:=o_ he hd
 have B:=o_ he' (k:=h) (q:=s) (by rw [wI,hd]; rfl)
 rw [kF hr] at A
 rw [kF (show (dg n d).Out=false∧(dg n d).cY=false from hr)] at B
 have hb: ¬ ji d.aZ:=fun q=>by have:=vj A.1; unfold ji at q; omega
 have C:(dg n d).aZ=fR n d.aZ:=if_neg hb
 rw [C] at B
 exact Hs (d_ he).1 (d_ he').1 (lZ A.1) (lZ B.1)
theorem HW (e:di j=0) (hf:f∈j.aC):uU f<(j.Race.ak.ab.length:Int)∧OB j.Race.ak f<(j.Race.ak.ab.length:Int):=by
 obtain ⟨B,A⟩:=dF e
 have hw:=(A.fault f hf).2.2
 have hh:=(dq (d_ B).1).2.head
 unfold eY at hh
 unfold uU OB
 by_cases c:f.Kind=1
 ·rw [if_pos c] at hw ⊢; rw [if_pos c]; omega
 ·rw [if_neg c] at hw ⊢
  rw [if_neg c]
  by_cases C:f.Kind=2
  ·rw [if_pos C]; omega
  ·rw [if_neg C]; omega
theorem sW (e:di j=0) (e':di (fr n j)=0) (hd:(j.Race.aA[h]?).bind (·[s]?)=some d) (hf:f∈j.aC):gf (gd n j.Race.ak) (dh n f) (dg n d)=gf j.Race.ak f d:=by
 rw [← Lr (o_ (dF e).1 hd)]
 have B:=((dF e).2.fault f hf).2.1
 have A:=((dF e').2.fault (dh n f) (List.mem_map_of_mem hf)).2.1
 have C:f.gI+n≤f.To+n∧f.To+n≤86400000:=A.2
 exact Ds (fun q=>G0 e e' hd q) (HW e hf) I I
theorem Dc:pb (fr n j) (gF n p)=(pb j p).map (dg n):=wI
theorem Kb (e:di j=0) (e':di (fr n j)=0) (hp:j.aw[k]? =some p):l5 (fr n j) (gF n p)=l5 j p:=by
 obtain ⟨C,B⟩:=dF e
 have hp':(fr n j).aw[k]? =some (gF n p):=by show (j.aw.map _)[k]? =_; rw [dL,hp]; rfl
 obtain ⟨d,hd,hr,ha⟩:=(B.hE k p hp).jL
 obtain ⟨d',hd',hr',ha'⟩:=((dF e').2.hE k _ hp').jL
 have hm:p.At+n≤86400000:=ha'.2
 have hs:=G0 e e' hd hr
 have F:=o_ C hd
 rw [kF hr] at F
 have hh:=(dq (d_ C).1).2.head
 unfold eY at hh
 obtain ⟨N,O,P,AA,J,K⟩:=tY hs (b:=j.Race.ak.bM) I
 have A:(cj j.Race.ak d.aZ j.Race.ak.bM).never=false:=by unfold cj; rw [if_neg I,if_pos F.1]
 have Q:=AA A
 have hb: ¬ ji d.aZ:=fun q=>by have:=vj F.1; unfold ji at q; omega
 have L:(dg n d).aZ=fR n d.aZ:=if_neg hb
 have M:=B.min_
 unfold l5
 rw [Dc,hd]
 simp only [Option.map_some]
 rw [L]
 show (if p.At+n≤(cj (gd n j.Race.ak) (fR n d.aZ) j.Race.ak.bM).Lo+60000*j.eh then (0:Int) else if p.At+n≤(cj (gd n j.Race.ak) (fR n d.aZ) j.Race.ak.bM).Hi+60000*j.eh then 1 else 2)=_
 have G:(p.At+n≤(cj (gd n j.Race.ak) (fR n d.aZ) j.Race.ak.bM).Lo+60000*j.eh)↔(p.At≤(cj j.Race.ak d.aZ j.Race.ak.bM).Lo+60000*j.eh):=by omega
 have H:(p.At+n≤(cj (gd n j.Race.ak) (fR n d.aZ) j.Race.ak.bM).Hi+60000*j.eh)↔(p.At≤(cj j.Race.ak d.aZ j.Race.ak.bM).Hi+60000*j.eh):=by
  cases q:(cj j.Race.ak d.aZ j.Race.ak.bM).each with
  |true=>have:=J A q; omega
  |false=>have:=K A q; omega
 by_cases D:p.At≤(cj j.Race.ak d.aZ j.Race.ak.bM).Lo+60000*j.eh
 ·rw [if_pos D,if_pos (G.2 D)]
 ·rw [if_neg D,if_neg (fun q=>D (G.1 q))]
  by_cases E:p.At≤(cj j.Race.ak d.aZ j.Race.ak.bM).Hi+60000*j.eh
  ·rw [if_pos E,if_pos (H.2 E)]
  ·rw [if_neg E,if_neg (fun q=>E (H.1 q))]
theorem vH (e:di j=0) (e':di (fr n j)=0) (hp:j.aw[k]? =some p):gO (fr n j) (gF n p)=gO j p:=by
 obtain ⟨d,hd,hr,ha⟩:=((dF e).2.hE k p hp).jL
 have hl:=Kb e e' hp
 unfold gO
 rw [hl,Dc,hd]
 have A:(fr n j).aC[(gF n p).iM.toNat]? =(j.aC[p.iM.toNat]?).map (dh n):=by show (j.aC.map _)[_]? =_; rw [dL]; rfl
 rw [A]
 cases hf:j.aC[p.iM.toNat]? with
 |none=>rfl
 |some f=>
  simp only [Option.map_some]
  rw [show gf (fr n j).Race.ak (dh n f) (dg n d)=gf j.Race.ak f d from sW e e' hd (aQ hf)]
theorem N5 {i:Nat}:(fr n j).aw[i]? =(j.aw[i]?).map (gF n):=dL ..
theorem NF (e:di j=0) (e':di (fr n j)=0) (i:Nat):((fr n j).aw[i]?).any (gO (fr n j))=(j.aw[i]?).any (gO j):=by
 rw [N5]
 cases hp:j.aw[i]? with
 |none=>simp only [Option.map_none,Option.any_none]
 |some p=>simp only [Option.map_some,Option.any_some]; exact vH e e' hp
theorem tJ (e:di j=0) (e':di (fr n j)=0):iE (fr n j)=iE j:=by
 rw [j2 e,j2 e']
 unfold iQ sk
 rw [show (fun i=>((fr n j).aw[i]?).any (gO (fr n j)))=fun i=>(j.aw[i]?).any (gO j) from funext fun i=>NF e e' i,show (fr n j).aw.length=j.aw.length from List.length_map _]
theorem Ei {f g:aL} (h:dh n f=dh n g):f=g:=by
 obtain ⟨a,b,c,d⟩:=f
 obtain ⟨a',b',c',d'⟩:=g
 unfold dh at h
 injection h with A B C D
 simp only at A B C D
 subst A B
 obtain rfl:c=c':=by omega
 obtain rfl:d=d':=by omega
 rfl
theorem w6 (e:di j=0) (e':di (fr n j)=0):ki (fr n j) (dh n f)↔ki j f:=by
 constructor
 ·rintro ⟨i,p',A,C,B⟩
  have A:(j.aw.map (gF n))[i]? =some p':=A
  rw [dL] at A
  cases hp:j.aw[i]? with
  |none=>rw [hp] at A; cases A
  |some p=>
   rw [hp] at A
   simp only [Option.map_some,Option.some.injEq] at A
   subst A
   have B:(j.aC.map (dh n))[p.iM.toNat]? =some (dh n f):=B
   rw [dL] at B
   cases hf:j.aC[p.iM.toNat]? with
   |none=>rw [hf] at B; cases B
   |some g=>
    rw [hf] at B
    simp only [Option.map_some,Option.some.injEq] at B
    exact ⟨i,p,hp,by rw [← vH e e' hp]; exact C,by rw [hf,Ei B]⟩
 ·rintro ⟨i,p,A,C,B⟩
  exact ⟨i,gF n p,by show (j.aw.map (gF n))[i]? =_; rw [dL,A]; rfl,by rw [vH e e' A]; exact C,by show (j.aC.map (dh n))[p.iM.toNat]? =_; rw [dL,B]; rfl⟩
theorem Nl (e:di j=0) (e':di (fr n j)=0) (hd:(j.Race.aA[h]?).bind (·[s]?)=some d):Bf (gd n j.Race.ak) (ki (fr n j)) (j.aC.map (dh n)) (dg n d)↔Bf j.Race.ak (ki j) j.aC d:=by
 constructor
 ·rintro ⟨f',C,A,B⟩
  obtain ⟨f,hf,rfl⟩:=cp.1 C
  exact ⟨f,hf,(w6 e e').1 A,fun q=>B ((sW e e' hd hf).trans q)⟩
 ·rintro ⟨f,hf,A,B⟩
  exact ⟨dh n f,List.mem_map_of_mem hf,(w6 e e').2 A,fun q=>B ((sW e e' hd hf).symm.trans q)⟩
theorem r_ (e:di j=0) (e':di (fr n j)=0):fY (fr n j)=fY j:=by
 rw [l4 e,l4 e']
 unfold j4 im
 show (j.Race.aA.map fun x=>x.map (dg n)).map _=_
 rw [List.map_map]
 apply List.ext_getElem?
 intro h
 rw [dL,dL]
 cases hh:j.Race.aA[h]? with
 |none=>rfl
 |some x=>
  simp only [Option.map_some,Function.comp_def,List.length_map]
  congr 1
  show mA (fun s=>((x.map (dg n))[s]?).any fun d=> @decide (Bf (gd n j.Race.ak) (ki (fr n j)) (j.aC.map (dh n)) d) (Classical.propDecidable _)) x.length=mA (fun s=>(x[s]?).any fun d=> @decide (Bf j.Race.ak (ki j) j.aC d) (Classical.propDecidable _)) x.length
  congr 1
  funext s
  rw [dL]
  cases hs:x[s]? with
  |none=>rfl
  |some d=>
   simp only [Option.map_some,Option.any_some]
   rw [g5]
   exact Nl e e' (h:=h) (s:=s) (by rw [hh]; exact hs)
theorem zW (e:di j=0) (e':di (fr n j)=0):wm (fr n j)=wm j∧wc (fr n j)=wc j:=by
 have hg:=tJ e e'
 rw [j2 e,j2 e'] at hg
 have hb:ux (fr n j)=ux j:=by unfold ux; rw [hg]; rfl
 rw [(oB e).1,(oB e).2,(oB e').1,(oB e').2]
 refine ⟨hb,?_⟩
 unfold C9
 rw [hb,show (fr n j).aw.length=j.aw.length from List.length_map _]; rfl
/-- what is told of whom a fault touches -/
theorem uf {h s k:Nat} (e:di j=0) (e':di (fr n j)=0) (hk:k<j.aC.length) (hh:h<j.Race.aA.length) (hs:s<j.Race.aY.length):mo j k h s=0∧mo (fr n j) k h s=0∧nJ (fr n j) k h s=nJ j k h s:=by
 have hi:ko j k h s:=by unfold ko; omega
 have hi':ko (fr n j) k h s:=by
  unfold ko
  rw [show (fr n j).aC.length=j.aC.length from List.length_map _,show (fr n j).Race.aA.length=j.Race.aA.length from List.length_map _,show (fr n j).Race.aY.length=j.Race.aY.length from rfl]; omega
 refine ⟨by unfold mo; rw [if_pos e,if_pos hi],by unfold mo; rw [if_pos e',if_pos hi'],?_⟩
 unfold nJ
 rw [if_pos ⟨e',hi'⟩,if_pos ⟨e,hi⟩]
 simp only [Int.toNat_natCast]
 have A:(fr n j).aC[k]? =(j.aC[k]?).map (dh n):=dL ..
 have B:(((fr n j).Race.aA[h]?).bind (·[s]?))=((j.Race.aA[h]?).bind (·[s]?)).map (dg n):=wI
 rw [A,B]
 cases hf:j.aC[k]? with
 |none=>rfl
 |some f=>
  cases hd:(j.Race.aA[h]?).bind (·[s]?) with
  |none=>rfl
  |some d=>exact sW e e' hd (aQ hf)
end
end
section
open Go.RowKit
def xp (n:Int) (d:ao):ao:=⟨d.Out,d.cY,d.Time,⟨d.aZ.Start+n,d.aZ.fI,d.aZ.aa⟩⟩
def q6 (n:Int) (d:ao):ao:=⟨d.Out,d.cY,d.Time,⟨d.aZ.Start+n,d.aZ.fI+n,d.aZ.aa⟩⟩
section
variable {α β γ:Type} {c:α→β→γ} {ms:List α} {m:α} {asl:List β} {a:β} {k:Nat}
theorem zX (h:asl[k]? =some a):asl.set k a=asl:=by
 obtain ⟨A,B⟩:=aX.1 h
 subst B; exact List.set_getElem_self A
theorem vm (ha:asl[k]? =some a):(List.zipWith c ms asl).set k (c m a)=List.zipWith c (ms.set k m) asl:=by rw [C7,zX ha]
end
section
variable {n:Int} {H:List (List ao)} {ht:List ao} {hz:List cN} {az:List RA} {a:RA} {d:ao} {i h:Nat} {f f1:aL} {p:aT} {l:List aL} {lp:List aT}
theorem Hb (hb: ¬ ji d.aZ):ao.cells (q6 n d) a=ao.cells (dg n d) a:=by rw [rL hb]; simp [ao.cells,q6,fR]
theorem MH (ha:az[i]? =some a):(List.zipWith ao.cells (df (dg n) i ht) az).set i (ao.cells (xp n d) a)=List.zipWith ao.cells ((df (dg n) i ht).set i (xp n d)) az:=vm ha
theorem Lq (ha:az[i]? =some a):(List.zipWith ao.cells ((df (dg n) i ht).set i (xp n d)) az).set i (ao.cells (q6 n d) a)=List.zipWith ao.cells ((df (dg n) i ht).set i (q6 n d)) az:=by rw [vm ha,List.set_set]
theorem O8 (hd:ht[i]? =some d) (ha:az[i]? =some a) (hb: ¬ ji d.aZ):List.zipWith ao.cells ((df (dg n) i ht).set i (q6 n d)) az=List.zipWith ao.cells (df (dg n) (i+1) ht) az:=by
 rw [← vm ha,Hb hb,vm ha,nj hd]
theorem F3 (hi:i<ht.length) (ha:az[i]? =some a):(List.zipWith ao.cells ((df (dg n) i ht).set i d) az)[i]? =some (ao.cells d a):=dH (List.getElem?_set_self (by rw [iO]; exact hi)) ha
theorem Iw {b:cN} (hh:H[h]? =some ht) (ha:hz[h]? =some b):a_ jT ((df (fun x=>x.map (dg n)) h H).set h (ht.map (dg n))) (hz.set h b)=a_ jT (df (fun x=>x.map (dg n)) (h+1) H) hz:=by
 rw [B6 hh rfl,zX ha]
theorem IJ (hf:l[i]? =some f) (h1:((df (dh n) i l).set i ⟨f.Kind,f.eW,f.gI+n,f.To⟩)[i]? =some f1):((df (dh n) i l).set i ⟨f.Kind,f.eW,f.gI+n,f.To⟩).set i ⟨f1.Kind,f1.eW,f1.gI,f1.To+n⟩=df (dh n) (i+1) l:=by
 rw [List.getElem?_set_self (by rw [iO]; exact (aX.1 hf).1)] at h1
 cases h1
 rw [List.set_set]
 exact nj hf
theorem FI (hf:l[i]? =some f) (h1:((df (dh n) i l).set i ⟨f.Kind,f.eW,f.gI+n,f.To⟩)[i]? =some f1):f1.To=f.To:=by
 rw [List.getElem?_set_self (by rw [iO]; exact (aX.1 hf).1)] at h1
 cases h1; rfl
theorem HP {r:dY} {q s:Nat} (he:il r=0) {at_:Int} (h: ∃ d,((r.aA[q]?).bind (·[s]?))=some d∧jn d∧d.aZ.Start≤at_∧at_≤86400000):0≤at_∧at_≤86400000:=by
 obtain ⟨d,B,C,D,E⟩:=h
 have A:=o_ he B
 rw [kF C] at A
 have:=(lZ A.1).time
 omega
theorem Hx {j:cR} {bz:List RA} {hz:List cN} (h:gY j bz hz) (hh:v7 (e8 n j.Race).aA hz):po (fr n j) bz hz:=
 ⟨Mj h.race hh,by show (j.aC.map _).length≤_; rw [List.length_map]; exact Nat.le_trans h.nf dc,by show (j.aw.map _).length≤_; rw [List.length_map]; exact Nat.le_trans h.np dc,fun g hg=>by
  have hg:g∈j.aC.map (dh n):=hg
  obtain ⟨f,hf,rfl⟩:=cp.1 hg
  exact h.kind f hf⟩
end
end
section
structure X2 (j x:cR):Prop where
 race:x.Race=j.Race
 Xk:x.aC=j.aC
 min_:j.eh≤x.eh
 hE: ∀ (i:Nat) p,j.aw[i]? =some p→x.aw[i]? =some p
section
variable {j x:cR} {n s:Int} {h k:Nat} {a b:List Int} {f f':aL} {ht:List ao} {d:ao}
theorem FL (e:di j=0):(fY j).length=j.Race.aA.length:=by
 rw [l4 e]; exact DN
theorem Oc (e:di j=0) (ha:(fY j)[h]? =some a): ∃ ht,j.Race.aA[h]? =some ht∧a.length≤ht.length:=by
 rw [l4 e] at ha
 unfold j4 at ha
 have hl:=(aX.1 ha).1
 rw [DN] at hl
 have hh:j.Race.aA[h]? =some (j.Race.aA[h]'hl):=eU _
 rw [GU hh] at ha
 cases ha
 exact ⟨_,hh,pG⟩
end
end
section
section
variable {j:cR} {m n i:Nat} {p:aT} {s:Int}
theorem Fv (e:di j=0):(iE j).length≤j.aw.length:=by rw [j2 e]; exact pG
theorem B2 (e:di j=0): ∀ l∈fY j,l.length≤1000000:=fun l hl=>by
 obtain ⟨h,hh⟩:=List.getElem?_of_mem hl
 obtain ⟨ht,A,B⟩:=Oc e hh
 have C:=((d_ (dF e).1).2.gM ht (aQ A)).1
 have D:=(d_ (dF e).1).2.num
 omega
end
end
section
open Go.RowKit
section
variable {K:Type} [DecidableEq K] {kV:K→Value}
variable {E:fG} {ops:Array Oper} {Q:dk} {rest:List Oper} {D:List Deferred} {L:List (Nat×Value)} {C:List aB}
variable {ty:TypeId} {ps:String} {af:Array Edge} {g:Option (Nat×Bool)}
theorem ud {t kt et:TypeId} {xm xk:Operand} {ts:Array TypeId} {b:Nat} {x:K} {m m':List (K×Value)} {C':List aB} (i:Nat) (hg:kx ops L g=true) (hm:ev L xm=some (.map (some b))) (hk:ev L xk=some (kV x)) (hts:ts[0]? =some t)
 (ht:E.P.underlying t=some (.map kt et)) (hkt:wj E.P kt kV) (hC:C[i]? =some (kQ kV b m)) (hm':fH m x=m') (hC':C.set i (kQ kV b m')=C') (k:RJ E ops Q rest D L C'):
 RJ E ops Q (⟨none,.call {callee:= .builtin .delete,args:= #[xm,xk],argTypes:=ts},ty,ps,af,g⟩::rest) D L C:=by
 subst hm' hC'
 intro a w A hs
 unfold tG
 rw [if_pos (eG A hg)]
 obtain ⟨es,c,he,hi⟩:=hs.holds _ (aQ hC)
 have B:(getObj b).run E.P w= .ok (.map es c) w:=MapKept.run_getObj_map he
 rcases pR (P:=E.P) (w:=w) (x:=x) hkt hi with ⟨F,G⟩|⟨j,AA,F,G,H⟩
 ·refine ju (v:= .tuple #[]) (w':={w with heap:=w.heap.setIfInBounds b (.map es c)}) sm ?_ ?_
  ·simp [execOp,resolve,invoke,builtin,A.ev hm,A.ev hk,Builtin.delete_,hts,run_underlying ht,B,jE hkt,F,MapKept.run_setObj_map _ he]
  ·refine k _ _ ⟨A.defers,A.size,A.at_⟩ (hs.Ae (b:=b) i hC U U (nZ _) (fun _ h=>h) ⟨_,_,qi he,?_⟩)
   rw [El G]; exact hi
 ·refine ju (v:= .tuple #[]) (w':={w with heap:=w.heap.setIfInBounds b (.map (es.eraseIdxIfInBounds j) c)}) sm ?_ ?_
  ·simp [execOp,resolve,invoke,builtin,A.ev hm,A.ev hk,Builtin.delete_,hts,run_underlying ht,B,jE hkt,F,MapKept.run_setObj_map _ he]
  ·exact k _ _ ⟨A.defers,A.size,A.at_⟩ (hs.Ae (b:=b) i hC U U (nZ _) (fun _ h=>h) ⟨_,_,qi he,hi.del G⟩)
end
end
section
set_option maxRecDepth 20000
def UN:ar:=⟨1,⟨10000,10200⟩,⟨0,0⟩,⟨0,0⟩,0,0⟩
def zD:ax:=⟨100,[⟨0,⟨0,2⟩⟩,⟨100000,⟨5,6⟩⟩]⟩
def Ss (o:Int):bJ:=⟨⟨0,⟨o,o⟩⟩,0⟩
def oV (f:Int):bg:=⟨[UN],2000,[zD],[Ss 1000,Ss 4000,Ss 9000],1,f,1⟩
def mF:cr:=⟨10000,20000,[⟨0,10600⟩,⟨0,11000⟩,⟨1,12600⟩]⟩
theorem Jd:du [UN]=true:=by decide
theorem zi:eK zD:=by
 have hi: ∀ (i:Nat) (x:cz),zD.bu[i]? =some x→i=0∧x=⟨0,⟨0,2⟩⟩∨i=1∧x=⟨100000,⟨5,6⟩⟩:=fun i x h=>by
  match i with
  |0=>left; simp [zD] at h; exact ⟨rfl,h.symm⟩
  |1=>right; simp [zD] at h; exact ⟨rfl,h.symm⟩
  |n+2=>simp [zD] at h
 refine ⟨dc,dc,fun i x hx=>?_,fun i k x o hx hk ho=>?_⟩
 ·rcases hi i x hx with ⟨rfl,rfl⟩|⟨rfl,rfl⟩<;>(unfold fX; decide)
 ·rcases hi i x hx with ⟨rfl,rfl⟩|⟨rfl,rfl⟩
  ·omega
  ·rcases hi k o ho with ⟨rfl,rfl⟩|⟨rfl,rfl⟩
   ·unfold og; decide
   ·omega
theorem AJ {o:Int} (h:0≤o∧o<10000):gh [UN] ⟨0,⟨o,o⟩⟩:=⟨sm,UN,rfl,by show o≤o∧0≤o∧o≤10000-1; omega⟩
theorem Oe {f:Int} (hf:0≤f∧f≤3):mh (oV f):=by
 refine ⟨?_,fun c hc=>?_,fun b hb=>?_,fun i hi=>?_⟩
 ·unfold eY; simp [oV]; omega
 ·simp [oV] at hc; subst hc; exact zi
 ·simp [oV] at hb
  rcases hb with rfl|rfl|rfl
  ·exact ⟨AJ I,by simp [Ss,oV]⟩
  ·exact ⟨AJ I,by simp [Ss,oV]⟩
  ·exact ⟨AJ I,by simp [Ss,oV]⟩
 ·have A:i<3:=hi
  have:i=0∨i=1∨i=2:=by omega
  rcases this with rfl|rfl|rfl
  ·show (1:Int)≤l8 (oV 0) 0; decide
  ·show (1:Int)≤l8 (oV 0) 1; decide
  ·show (1:Int)≤l8 (oV 0) 2; decide
def iB:bg:=oV 1
theorem PB:dw iB=0:=yR Jd (Oe I)
theorem J0 {r x:Int} (h0:0<x) (h1:x≤86400000) (hy:gv zD r x=true) (hn:gv zD r (x-1)=false):fJ (gv zD r) 86400001=x:=
 Az I I hy fun z hz A=>by
  cases e:gv zD r z with
  |false=>rfl
  |true=>
   unfold gv at e hn
   have:=(o0 zi hz (show z≤x-1 by omega) I).2
   have B:=of_decide_eq_true e
   have C:=of_decide_eq_false hn
   omega
theorem Mf {r x:Int} (h0:0<x) (h1:x≤86400000) (hy:gu zD r x=true) (hn:gu zD r (x-1)=false):fJ (gu zD r) 86400001=x:=
 Az I I hy fun z hz A=>by
  cases e:gu zD r z with
  |false=>rfl
  |true=>
   unfold gu at e hn
   have:=(o0 zi hz (show z≤x-1 by omega) I).1
   have B:=of_decide_eq_true e
   have C:=of_decide_eq_false hn
   omega
theorem UB:mD zD 10600=⟨10596,10602⟩:=by unfold mD; rw [J0 (x:=10596) I I dc dc,Mf (x:=10603) I I dc dc]; rfl
theorem SF:mD zD 11000=⟨10996,11002⟩:=by unfold mD; rw [J0 (x:=10996) I I dc dc,Mf (x:=11003) I I dc dc]; rfl
theorem TX:mD zD 12600=⟨12596,12602⟩:=by unfold mD; rw [J0 (x:=12596) I I dc dc,Mf (x:=12603) I I dc dc]; rfl
def Vh (f:Int):bZ:=⟨10000,20000,[500,1500,2500],[[(0,⟨10596,10602⟩),(1,⟨10996,11002⟩)],[(2,⟨12596,12602⟩)],[]],1,f,3⟩
theorem S4 (f:Int):cJ (oV f) ⟨0,10600⟩=⟨10596,10602⟩:=UB
theorem UD (f:Int):cJ (oV f) ⟨0,11000⟩=⟨10996,11002⟩:=SF
theorem SL (f:Int):cJ (oV f) ⟨1,12600⟩=⟨12596,12602⟩:=TX
theorem JB (f:Int):cP (oV f) mF.aa 3=[[(0,⟨10596,10602⟩),(1,⟨10996,11002⟩)],[(2,⟨12596,12602⟩)],[]]:=by
 have o: ∀ b:Nat,lT (oV f) mF.aa 3 b=(oh (oV f) mF.aa b 0).toList++((oh (oV f) mF.aa b 1).toList++(oh (oV f) mF.aa b 2).toList):=fun b=>by
  rw [lV,lV,lV]; simp [lT]
 have A: ∀ b:Nat,oh (oV f) mF.aa b 0=if (0:Int)=(b:Int) then some (0,⟨10596,10602⟩) else none:=fun b=>by
  show (if (0:Int)=(b:Int)∧(cJ (oV f) ⟨0,10600⟩).Lo≤(cJ (oV f) ⟨0,10600⟩).Hi then some ((0:Int),cJ (oV f) ⟨0,10600⟩) else none)=_
  rw [S4]; by_cases h:(0:Int)=(b:Int)
  ·rw [if_pos h,if_pos ⟨h,dc⟩]<;>rfl
  ·rw [if_neg h,if_neg fun q=>h q.1]
 have B: ∀ b:Nat,oh (oV f) mF.aa b 1=if (0:Int)=(b:Int) then some (1,⟨10996,11002⟩) else none:=fun b=>by
  show (if (0:Int)=(b:Int)∧(cJ (oV f) ⟨0,11000⟩).Lo≤(cJ (oV f) ⟨0,11000⟩).Hi then some ((1:Int),cJ (oV f) ⟨0,11000⟩) else none)=_
  rw [UD]; by_cases h:(0:Int)=(b:Int)
  ·rw [if_pos h,if_pos ⟨h,dc⟩]<;>rfl
  ·rw [if_neg h,if_neg fun q=>h q.1]
 have C: ∀ b:Nat,oh (oV f) mF.aa b 2=if (1:Int)=(b:Int) then some (2,⟨12596,12602⟩) else none:=fun b=>by
  show (if (1:Int)=(b:Int)∧(cJ (oV f) ⟨1,12600⟩).Lo≤(cJ (oV f) ⟨1,12600⟩).Hi then some ((2:Int),cJ (oV f) ⟨1,12600⟩) else none)=_
  rw [SL]; by_cases h:(1:Int)=(b:Int)
  ·rw [if_pos h,if_pos ⟨h,dc⟩]<;>rfl
  ·rw [if_neg h,if_neg fun q=>h q.1]
 show [lT (oV f) mF.aa 3 0,lT (oV f) mF.aa 3 1,lT (oV f) mF.aa 3 2]=_
 rw [o,o,o,A,A,A,B,B,B,C,C,C]
 rfl
theorem Ch (f:Int):bP (oV f) mF=Vh f:=by
 unfold bP Vh
 rw [show mF.aa.length=3 from rfl,JB]
 rfl
theorem Ol (f:Int):dW (oV f) mF:=by
 refine ⟨dc,dc,fun i s hs=>?_⟩
 match i with
 |0=>simp [mF] at hs; subst hs; unfold iz iI; simp [oV,lx]
 |1=>simp [mF] at hs; subst hs; unfold iz iI; simp [oV,lx,mF]
 |2=>simp [mF] at hs; subst hs; unfold iz iI; simp [oV,lx,mF]
 |n+3=>simp [mF] at hs
theorem Da:iy (bP iB mF)=[2,3]:=by rw [show bP iB mF=Vh 1 from Ch 1]; decide
theorem Dx:dG iB mF 0=0:=l3 PB (Ol 1) rfl (by rw [Da]; decide)
theorem L6:ir iB mF=[2,3]:=by rw [k7 Dx,Da]
theorem MW {b:Nat} (hb:b<3):dG iB mF (iA iB b)=0:=by rw [uX (by show 0≤(b:Int)∧(b:Int)≤3-1; omega)]; exact Dx
theorem GD {b:Nat} {z:ag} (hb:b<3) (hz:jw (gp (Vh 1) b)=z) (hn:z≠jJ):dj iB mF b=0∧cV iB mF b=z:=by
 have e:lv iB mF b=z:=by unfold lv; rw [show bP iB mF=Vh 1 from Ch 1]; exact hz
 have h:=jy (MW hb) (by rw [e]; exact hn)
 exact ⟨h.1,h.2.trans e⟩
theorem B1:dj iB mF 0=0∧cV iB mF 0=⟨10596,11002⟩:=GD (b:=0) I dc dc
theorem rj:dj iB mF 1=0∧cV iB mF 1=⟨12596,12602⟩:=GD (b:=1) I dc dc
theorem Q0:dj iB mF iB.bM=0∧Bv iB mF=⟨2596,2602⟩:=by
 refine ⟨rj.1,?_⟩
 rw [AK (l:=iB) (r:=mF) rj.1]
 rw [show cV iB mF iB.bM=⟨12596,12602⟩ from rj.2]
 rfl
theorem S8 (f:Int) {a:OA} {c:Nat} (hc:2≤c):ep (oV f) [(a,c)]:=by
 refine ⟨by simp [oV],?_,by simp [oV],U,by simp [oV],fun k m a' hm ha=>?_⟩
 ·intro x hx; simp [oV] at hx; subst hx; simp [UN]
 ·match k with
  |0=>simp [oV] at hm ha; subst hm; subst ha; simp [zD]; exact hc
  |n+1=>simp at ha
end
section
set_option maxRecDepth 20000
def nV (x y:Int):ao:=Ek ⟨x,y⟩
def p8:ao:=⟨false,false,gV,mF⟩
def q7:dY:=⟨iB,[4,7,9],[2,0,1],2,[[p8,nV 2600 2600,nV 2580 2609],[nV 2555 2559,nV 2540 2549,nV 2570 2575]]⟩
def ew:cR:=⟨q7,[⟨1,0,12600,13000⟩,⟨2,1,11003,11100⟩,⟨3,0,10700,10900⟩,⟨1,0,13000,14000⟩],[⟨2,0,0,0,72596⟩,⟨5,0,0,1,72603⟩,⟨6,0,0,3,20000⟩],1,500⟩
theorem A_ {l:bg} {x y:Int} (h:mS ⟨x,y⟩):iW l (nV x y):=by rw [ow ⟨rfl,rfl⟩]; exact ⟨h,rfl,rfl,rfl⟩
theorem MD:fZ q7:=by
 refine ⟨dc,dc,dc,fun i x hx=>?_,dc,fun h hh=>?_⟩
 ·match i with
  |0=>simp [q7] at hx; subst hx; exact ⟨dc,fun y h=>absurd h dc⟩
  |1=>simp [q7] at hx; subst hx; exact ⟨dc,fun y _ h=>by simp [q7] at h; omega⟩
  |2=>simp [q7] at hx; subst hx; exact ⟨dc,fun y _ h=>by simp [q7] at h; omega⟩
  |n+3=>simp [q7] at hx
 ·simp only [q7,bU,List.not_mem_nil,or_false] at hh
  rcases hh with rfl|rfl
  ·refine ⟨U,fun d hd=>?_⟩
   simp only [bU,List.not_mem_nil,or_false] at hd
   rcases hd with rfl|rfl|rfl
   ·rw [kF ⟨rfl,rfl⟩]; exact ⟨Q0.1,rfl⟩
   ·exact A_ dc
   ·exact A_ dc
  ·refine ⟨U,fun d hd=>?_⟩
   simp only [bU,List.not_mem_nil,or_false] at hd
   rcases hd with rfl|rfl|rfl<;>exact A_ dc
theorem Qe:il q7=0:=by unfold il; rw [if_pos (show dw q7.ak=0 from PB),if_pos MD]
theorem Qp:qn ew:=by
 refine ⟨dc,fun f hf=>?_,dc,dc,dc,fun i p hp=>?_⟩
 ·simp only [ew,bU,List.not_mem_nil,or_false] at hf
  rcases hf with rfl|rfl|rfl|rfl<;>decide
 ·match i with
  |0=>simp [ew] at hp; subst hp; exact ⟨dc,fun q h=>absurd h dc,dc,dc,dc,p8,rfl,dc⟩
  |1=>simp [ew] at hp; subst hp; exact ⟨dc,fun q _ h=>by simp [ew] at h; subst h; decide,dc,dc,dc,p8,rfl,dc⟩
  |2=>simp [ew] at hp; subst hp; exact ⟨dc,fun q _ h=>by simp [ew] at h; subst h; decide,dc,dc,dc,p8,rfl,dc⟩
  |n+3=>simp [ew] at hp
theorem oY:di ew=0:=yP Qe Qp
theorem BV {b:Int} (h:b<2):nK iB mF b=true:=by
 unfold nK; rw [L6]; simp; omega
theorem PH (h:(-1:Int)<0):cj iB mF (-1)=⟨10000,10000,true,false⟩:=if_pos h
theorem Qo:cj iB mF 0=⟨10596,11002,true,false⟩:=by
 unfold cj; rw [if_neg dc,if_pos B1.1,B1.2,BV dc]; rfl
theorem AU:cj iB mF 1=⟨12596,12602,true,false⟩:=by
 unfold cj; rw [if_neg dc,if_pos rj.1,rj.2,BV dc]; rfl
theorem Kr {f:aL} {a b:wW} (ha:cj iB mF (uU f)=a) (hb:cj iB mF (OB iB f)=b):gf iB f p8=lg f a b:=by
 unfold gf
 rw [if_pos (by decide:jn p8)]
 show lg f (cj iB mF (uU f)) (cj iB mF (OB iB f))=_
 rw [ha,hb]
theorem Fk:gf iB ⟨1,0,12600,13000⟩ p8=1:=(Kr (f:=⟨1,0,12600,13000⟩) (show cj iB mF (-1)=_ from PH dc) (show cj iB mF (1)=_ from AU)).trans dc
theorem RS:gf iB ⟨2,1,11003,11100⟩ p8=2:=(Kr (f:=⟨2,1,11003,11100⟩) (show cj iB mF (0)=_ from Qo) (show cj iB mF (1)=_ from AU)).trans dc
theorem Jt:gf iB ⟨1,0,13000,14000⟩ p8=0:=(Kr (f:=⟨1,0,13000,14000⟩) (show cj iB mF (-1)=_ from PH dc) (show cj iB mF (1)=_ from AU)).trans dc
theorem RQ {f:aL} {x y:Int}:gf iB f (nV x y)=0:=sT (by simp [nV,Ek,jn])
theorem DV {p:aT} (hd:pb ew p=some p8):l5 ew p=if p.At≤72596 then 0 else if p.At≤72602 then 1 else 2:=by
 unfold l5
 rw [hd]
 simp only
 have e:cj ew.Race.ak p8.aZ ew.Race.ak.bM=⟨12596,12602,true,false⟩:=AU
 rw [e]; rfl
theorem JT:l5 ew ⟨2,0,0,0,72596⟩=0:=(DV rfl).trans dc
theorem MB:l5 ew ⟨5,0,0,1,72603⟩=2:=(DV rfl).trans dc
theorem KA {p:aT} {f:aL} (hd:pb ew p=some p8) (hf:ew.aC[p.iM.toNat]? =some f):gO ew p=(decide (l5 ew p≠2)&&decide (gf iB f p8≠0)):=by
 unfold gO; rw [hd,hf]; rfl
theorem E_:gO ew ⟨2,0,0,0,72596⟩=true:=by rw [KA (f:=⟨1,0,12600,13000⟩) rfl rfl,JT,Fk]; rfl
theorem Ka:gO ew ⟨5,0,0,1,72603⟩=false:=by rw [KA (f:=⟨2,1,11003,11100⟩) rfl rfl,MB]; rfl
theorem Mg:gO ew ⟨6,0,0,3,20000⟩=false:=by rw [KA (f:=⟨1,0,13000,14000⟩) rfl rfl,Jt]; simp
theorem zy:iQ ew=[0]:=by
 unfold iQ sk
 show mA (fun i=>(ew.aw[i]?).any (gO ew)) 3=[0]
 rw [tq (by show gO ew ⟨6,0,0,3,20000⟩=false; exact Mg),tq (by show gO ew ⟨5,0,0,1,72603⟩=false; exact Ka),yW (by show gO ew ⟨2,0,0,0,72596⟩=true; exact E_)]
 rfl
theorem Nv:Bf iB (ki ew) ew.aC p8:=⟨⟨1,0,12600,13000⟩,by simp [ew],⟨0,⟨2,0,0,0,72596⟩,rfl,E_,rfl⟩,by rw [Fk]; decide⟩
theorem vl {x y:Int}: ¬ Bf iB (ki ew) ew.aC (nV x y):=fun ⟨f,_,_,h⟩=>h RQ
theorem NA:j4 ew=[[0],[]]:=by
 have A:yd iB (ki ew) ew.aC [p8,nV 2600 2600,nV 2580 2609] 3=[0]:=by
  unfold yd
  rw [tq (by simp [vl]),tq (by simp [vl]),yW (by simp [Nv])]; rfl
 have B:yd iB (ki ew) ew.aC [nV 2555 2559,nV 2540 2549,nV 2570 2575] 3=[]:=by
  unfold yd
  rw [tq (by simp [vl]),tq (by simp [vl]),tq (by simp [vl])]; rfl
 show [yd iB (ki ew) ew.aC [p8,nV 2600 2600,nV 2580 2609] 3,yd iB (ki ew) ew.aC [nV 2555 2559,nV 2540 2549,nV 2570 2575] 3]=_
 rw [A,B]
theorem Cc:ux ew=500∧C9 ew=1000:=by
 have h:ux ew=500:=by unfold ux; rw [zy]; rfl
 exact ⟨h,by unfold C9; rw [h]; rfl⟩
theorem IU:Fj ew 0= -1000:=by
 have h:LU ew 0 3=2:=by
  unfold LU
  rw [show List.range 3=[0,1,2] from rfl]
  simp only [List.countP_cons,List.countP_nil]
  rw [show (ew.aw[0]?)=some ⟨2,0,0,0,72596⟩ from rfl,show (ew.aw[1]?)=some ⟨5,0,0,1,72603⟩ from rfl,show (ew.aw[2]?)=some ⟨6,0,0,3,20000⟩ from rfl]
  simp only [Option.any_some,E_,Ka,Mg]
  decide
 unfold Fj
 rw [show ew.aw.length=3 from rfl,h]; rfl
end
section
open Go.RowKit
section
variable {E:fG} {ops:Array Oper} {Q:dk} {rest:List Oper} {D:List Deferred} {L:List (Nat×Value)} {C C1:List aB}
end
theorem yV {C:List aB}: ∀ {a b:List Nat} {X Y:List aB},nA C a=some X→nA C b=some Y→nA C (a++b)=some (X++Y)
 |[],b,X,Y,h,h2=>by cases h; exact h2
 |i::a,b,X,Y,h,h2=>by
  unfold nA at h
  split at h
  ·rename_i A hA
   split at h
   ·rename_i l hl
    cases h
    have ih:=yV hl h2
    show (match C[i]? with
     |some A=>match nA C (a++b) with
      |some l=>some (A::l)
      |none=>none
     |none=>none)=_
    rw [hA,ih]; rfl
   ·cases h
  ·cases h
theorem G9 {E:fG} {ops:Array Oper} {Q:dk} {rest:List Oper} {D:ik} {L:dC} {C C1:List aB} (X:List aB) (i1 i2:List Nat) (h1:nA C i1=some X) (h2:nA C i2=some C1) (h:RJ E ops Q rest D L (bK X::C1)) (hn:decide (i1++i2).Nodup=true:=by rfl):RJ E ops Q rest D L C:=fun a w hf hs=>h a w hf (St.tied (St.kv _ hn (kZ (yV h1 h2)) hs))
theorem Bu {E:fG} {ops:Array Oper} {Q:dk} {rest:List Oper} {D:ik} {L:dC} {C C1:List aB} (ix:List Nat) (hn:decide ix.Nodup=true) (hC:nA C ix=some C1) (h:RJ E ops Q rest D L C1):RJ E ops Q rest D L C:=fun a w hf hs=>h a w hf (St.kv _ hn (kZ hC) hs)
theorem rz {M A B:Type} {f:M→A→List B} {n:Nat} (h: ∀ m a,(f m a).length=n): ∀ {ms:List M} {asl:List A},∀ x∈List.zipWith f ms asl,x.length=n
 |[],asl,x,hx=>by simp at hx
 |m::ms,[],x,hx=>by simp at hx
 |m::ms,a::asl,x,hx=>by
  rw [List.zipWith_cons_cons] at hx
  rcases bU.1 hx with rfl|hx
  ·exact h m a
  ·exact rz h x hx
theorem FR (m:ao) (a:RA):(ao.cells m a).length=7:=rfl
theorem MY (m:List ao) (a:cN):(cq m a).length=1:=rfl
theorem RG (m:List Int) (a:RA):(zL m a).length=1:=rfl
end
section
open Go.RowKit
theorem IL {E:fG} {c:Code} {Q:dk} {D:ik} {L:dC} {C C1:List aB} (X:List aB) (i1 i2:List Nat) (h1:nA C i1=some X) (h2:nA C i2=some C1) (h:WJ E c Q D L (bK X::C1)) (hn:decide (i1++i2).Nodup=true:=by rfl):WJ E c Q D L C:=fun a w hf hs=>h a w hf (St.tied (St.kv _ hn (kZ (yV h1 h2)) hs))
def L7:List ao:=[p8,nV 2600 2600,nV 2580 2609]
def Uc:List ao:=[nV 2555 2559,nV 2540 2549,nV 2570 2575]
theorem Ke {p q s t u v x y:RA}:v7 q7.aA [(p,[s,t,u]),(q,[v,x,y])]:=⟨rfl,fun k h a hk ha=>by
 match k with
 |0=>simp [q7] at hk ha; subst hk; subst ha; rfl
 |1=>simp [q7] at hk ha; subst hk; subst ha; rfl
 |n+2=>simp at ha⟩
theorem NJ {bz:List RA} {hz:List cN} (h:ep iB bz) (hh:v7 q7.aA hz):lO q7 bz hz:=⟨h,dc,dc,dc,hh.1,fun k x a hx ha=>by
 have hm:=aQ hx
 have hs:=hh.2 k x a hx ha
 simp only [q7,bU,List.not_mem_nil,or_false] at hm
 rcases hm with rfl|rfl
 ·exact ⟨dc,hs,dc⟩
 ·exact ⟨dc,hs,dc⟩⟩
theorem Qw {bz:List RA} {hz:List cN} (h:ep iB bz) (hh:v7 q7.aA hz):gY ew bz hz:=⟨NJ h hh,dc,dc,dc⟩
end
section
open Go.RowKit
theorem QB:mo ew 0 0 0=0∧nJ ew 0 0 0=1:=by
 have e:=vx (j:=ew) (k:=0) (h:=0) (s:=0) (f:=⟨1,0,12600,13000⟩) (ht:=L7) (d:=p8) oY dc rfl rfl rfl
 exact ⟨e.2,e.1.trans Fk⟩
theorem Sb:mo ew 1 0 0=0∧nJ ew 1 0 0=2:=by
 have e:=vx (j:=ew) (k:=1) (h:=0) (s:=0) (f:=⟨2,1,11003,11100⟩) (ht:=L7) (d:=p8) oY dc rfl rfl rfl
 exact ⟨e.2,e.1.trans RS⟩
theorem RB:mo ew 3 0 0=0∧nJ ew 3 0 0=0:=by
 have e:=vx (j:=ew) (k:=3) (h:=0) (s:=0) (f:=⟨1,0,13000,14000⟩) (ht:=L7) (d:=p8) oY dc rfl rfl rfl
 exact ⟨e.2,e.1.trans Jt⟩
theorem QO:u0 ew 0=0∧wU ew 0=0:=by
 have e:=Bx (j:=ew) (i:=0) (p:=⟨2,0,0,0,72596⟩) oY dc rfl
 exact ⟨e.2,e.1.trans JT⟩
theorem Rg:u0 ew 1=0∧wU ew 1=2:=by
 have e:=Bx (j:=ew) (i:=1) (p:=⟨5,0,0,1,72603⟩) oY dc rfl
 exact ⟨e.2,e.1.trans MB⟩
theorem P1:iE ew=[0]:=(j2 oY).trans zy
theorem MK:fY ew=[[0],[]]:=(l4 oY).trans NA
theorem Pw:wm ew=500∧wc ew=1000:=⟨(oB oY).1.trans Cc.1,(oB oY).2.trans Cc.2⟩
theorem Py:r9 ew 0=0∧tT ew 0= -1000:=⟨by unfold r9; rw [if_pos oY,if_pos dc],by unfold tT; rw [if_pos ⟨oY,dc⟩]; exact IU⟩
end
section
open Go.RowKit
theorem pT (n lo hi:Int):
 dN Tryz.prog 135 [(vI n),(vI lo),(vI hi)] [] (vB (decide (lo≤n∧n≤hi))):=by
 refine bH kr Tryz.func135 U U fun D Q hQ hN=>?_
 try dsimp only
 refine WS fun _ B=>bG 1 U<|RK B<|WS fun _ A=>rP 4 [] mn ?_
 refine cg (t:=10) U (aV fun C=>?_) (aW fun C=>?_)
 ·refine rP 5 [] mn ?_
  refine RK A<|av<|Q1 hQ U U U ?_
  exact cB (g5.2 I)
 refine rP 5 [] mn ?_
 refine RK A<|av<|Q1 hQ U U U ?_
 exact cB (bI I).symm
theorem qj (s:ag) (lo hi:Int):
 dN Tryz.prog 136 [(vA (ag.cells s)),(vI lo),(vI hi)] [] (vB (decide (s.Lo≤s.Hi∧lo≤s.Lo∧s.Hi≤hi))):=by
 refine bH kr Tryz.func136 U U fun E Q hQ hN=>?_
 try dsimp only
 refine WS fun _ B=>eT U fun D=>bG 1 U<|RK B<|WS fun _ A=>fD 5 [] (mc 0 U mn) U<|rS (CL (pT s.Lo lo s.Hi) (aN) U)<|rP 1 [] mn ?_
 refine cu (t:=13) U (aW fun C=>?_) (aV fun C=>?_)
 ·refine rP 6 [] mn ?_
  refine RK A<|av<|Q1 hQ U U U ?_
  exact cB (bI I).symm
 refine rP 6 [] (mc 0 U mn) ?_
 refine RK A<|av<|Q1 hQ U U U ?_
 exact cB (g5.2 I)
theorem Pe (t:List ar) (tA:OA) (tC:Nat):
 dN Tryz.prog 100 [(vA (bO.cells (bO.mk (bE.mk tA t.length tC))))] [(rd tA t.length 9 (t.map ar.cells))] (vB (decide (20<(t.length:Int)))):=by
 refine bH kr Tryz.func100 U U fun D Q hQ hN=>?_
 try dsimp only
 refine WS fun _ A=>eT U fun C=>bG 1 U<|RK A<|WS fun _ B=>rP 5 [] (mc 0 U mn) ?_
 refine RK B<|av ?_
 exact Q1 hQ U U U U
theorem NM (l:List Int) (lA:OA) (lC:Nat) (f:Value) (p:Int→Bool) (X:aB) (hf: ∀ x0,x0∈l→EF Tryz.prog f [.int .i64 x0] [X] (.bool (p x0))) (hlen:l.length≤1000000):
 dN Tryz.prog 82 [(vS lA l.length lC),f] [(rd lA l.length 1 (l.map iC)),X] (vI (tF p l)):=by
 refine bH kr Tryz.func82 U U fun R Q hQ hN=>?_
 try dsimp only
 refine WS fun _ G=>bG 1 U<|RK G<|aq fun _ H=>WS fun _ AA=>rP 3 [] mn ?_
 refine RK AA<|aG ?_
 have B:(0≤l.length)∧((l.take 0).any p=false):=by simp
 refine bS (ι:={z:Nat // (z≤l.length)∧((l.take z).any p=false)}) [0,1,7] [0,1] U U (fun z=>[(8,(vI (z.1:Int)))]) (fun z=>[]) (fun _=>rfl) (fun _=>rfl) (fun z=>l.length-z.1) ⟨0,B⟩ (bw U) (aS [0,1]) ?_
 clear B
 rintro ⟨i,⟨N,A⟩⟩ J4 F
 try dsimp only
 refine WS fun _ J=>rP 1 [] mn ?_
 refine RK J<|aq fun _ K=>bV U (aW fun P=>?_) (aV fun P=>?_)
 ·refine bL<|ai<|ai<|aI<|KK H<|WS fun _ E=>rP 1 [] mn ?_
  refine RK E<|av<|Q1 hQ U U U ?_
  exact cI (qq I A).symm
 refine WK K<|aq fun _ L=>aG<|WS fun _ M=>bG 2 U<|RK M<|WS fun _ C=>rP 3 [] mn ?_
 obtain ⟨x,hx⟩:=aM l i I
 have O:=bQ iC hx
 refine rS (IA i U (aF 0 U) dJ dc I I)<|rS (hP i 0 (vI x) U cf (aF 0 U) O U dc U)<|rS (SX (qL U U U (hf x (aQ hx)) (bq [1])) U U)<|RK C<|cG U (fun hp=>?_) (fun hp=>?_)
 ·refine WS fun _ D=>rP 2 [] mn ?_
  refine RK D<|av<|Q1 hQ U U U ?_
  exact cI (uP hx hp A).symm
 refine cx<|aO<|KK L<|ay<|rP 2 [] mn ?_
 refine aJ ?_
 refine bj (F ⟨(i+1),⟨I,vq hx A hp⟩⟩ _ _ _ U os (bw U) (aS [0,1]))
theorem qs (l:List Int) (lA:OA) (lC:Nat) (f:Value) (p:Int→Bool) (X:aB) (hf: ∀ x0,x0∈l→EF Tryz.prog f [.int .i64 x0] [X] (.bool (p x0))) (hlen:l.length≤1000000):
 dN Tryz.prog 53 [(vS lA l.length lC),f] [(rd lA l.length 1 (l.map iC)),X] (vB (l.any p)):=by
 refine bH kr Tryz.func53 U U fun C Q hQ hN=>?_
 try dsimp only
 refine WS fun _ A=>bG 1 U<|RK A<|WS fun _ B=>bG 2 U<|rS (CL (NM l lA lC f p X (by exact hf) hlen) (bq [0,1]) U)<|rP 2 [] mn ?_
 refine RK B<|av<|Q1 hQ U U U ?_
 exact cB sQ
theorem Hm (n lo hi:Int) (g1 g2:Nat):
 dN Tryz.prog 129 [(vI n),(vP g1),(vP g2)] [(cv g1 3 [(vI lo)]),(cv g2 3 [(vI hi)])] (vB (decide (n<lo∨hi<n))):=by
 refine bH kr Tryz.func129 U U fun D Q hQ hN=>?_
 try dsimp only
 refine WS fun _ B=>bG 1 U<|RK B<|WS fun _ A=>rP 4 [] (mr 0 U mn) ?_
 refine cg (t:=8) U (aV fun C=>?_) (aW fun C=>?_)
 ·refine rP 5 [] mn ?_
  refine RK A<|av<|Q1 hQ U U U ?_
  exact cB (dM I).symm
 refine rP 5 [] (mr 1 U mn) ?_
 refine RK A<|av<|Q1 hQ U U U ?_
 exact cB (g5.2 I)
theorem qa (lo hi:Int) (l:List Int) (lA:OA) (lC:Nat) (hlen:l.length≤1000000):
 dN Tryz.prog 104 [(vI lo),(vI hi),(vS lA l.length lC)] [(rd lA l.length 1 (l.map iC))] (vB (qX lo hi l)):=by
 refine bH kr Tryz.func104 U U fun F Q hQ hN=>?_
 try dsimp only
 refine WS fun _ D=>xV U U fun A=>xV U U fun B=>bG 1 U<|RK D<|WS fun _ E=>rP 1 [] mn ?_
 refine rS (FU U) ?_
 refine rS (CL (qs l lA lC (Value.func (.func 129) [].toArray [(vP A),(vP B)].toArray) (fun C=>(decide (C<lo∨hi<C))) (dV [(cv A 3 [(vI lo)]),(cv B 3 [(vI hi)])]) (by intro C _; exact lJ (fi:=[]) (ca:=[(vP A),(vP B)]) (kh (Hm C lo hi A B) (bq [0,1]))) hlen) (gX 2 U U<|aD (kg (bq [1,0]))<|aN) U) ?_
 refine rP 2 [] mn ?_
 refine RK E<|av ?_
 exact Q1 hQ U U U U
theorem xN (s:ag) (lo hi:Int):
 dN Tryz.prog 105 [(vA (ag.cells s)),(vI lo),(vI hi)] [] (vB (decide (s.Lo≤s.Hi∧lo≤s.Lo∧s.Hi≤hi))):=by
 refine bH kr Tryz.func105 U U fun F Q hQ hN=>?_
 try dsimp only
 refine WS fun _ B=>eT U fun E=>bG 1 U<|RK B<|WS fun _ A=>rP 6 [] (mc 0 U mn) ?_
 refine eJ (xs:=[.tmp 10,.tmp 12]) (cs:=[(vI s.Lo),(vI s.Hi)]) U dJ kY U U U U (by simp [Value.cells]) U U fun C=>?_
 refine rS (CL (dN.eq (qa lo hi ([s.Lo,s.Hi]) (some ⟨C,0,none⟩) 2 (by (simp; done))) qd) (aD (br 0 U U (by simp [bR]) U)<|aN) U) ?_
 refine rP 1 [] mn ?_
 refine cu (t:=15) U (aW fun D=>?_) (aV fun D=>?_)
 ·refine rP 7 [] mn ?_
  refine RK A<|av<|Q1 hQ U U U ?_
  exact cB (bI I).symm
 refine rP 7 [] (mc 1 U mn) ?_
 refine RK A<|av<|Q1 hQ U U U ?_
 exact cB (g5.2 I)
theorem xQ (ts:List ar) (tsA:OA) (tsC:Nat) (hlen:ts.length≤1000000):
 dN Tryz.prog 120 [(vA (bO.cells (bO.mk (bE.mk tsA ts.length tsC))))] [(rd tsA ts.length 9 (ts.map ar.cells))] (vB (du ts)):=by
 refine bH kr Tryz.func120 U U fun w0 Q hQ hN=>?_
 try dsimp only
 refine WS fun _ C0=>eT U fun b2=>bG 1 U<|RK C0<|aq fun _ C1=>WS fun _ C2=>fD 3 [] (mc 0 U mn) U<|rS (CL (pT (ts.length:Int) 1 12) (aN) U)<|rP 1 [] mn ?_
 refine RK C2<|cG U (bB fun h5=>?_) (bx fun h5=>?_)
 ·refine WS fun _ C3=>rP 1 [] mn ?_
  refine RK C3<|av<|Q1 hQ U U U ?_
  exact cB (o6 I).symm
 refine WK C1<|aq fun _ Di=>WS fun _ Do=>rP 1 [] mn ?_
 refine RK Do<|aG ?_
 have E:(0≤ts.length)∧(e_ (-1) ts=e_ (gU ts 0) (ts.drop 0))∧(-1≤gU ts 0):=by (refine ⟨I,rfl,by simp [gU]⟩)
 refine bS (ι:={z:Nat // (z≤ts.length)∧(e_ (-1) ts=e_ (gU ts z) (ts.drop z))∧(-1≤gU ts z)}) [1] [0,1] U U (fun z=>[(3,(vI (z.1:Int)))]) (fun z=>[]) (fun _=>rfl) (fun _=>rfl) (fun z=>ts.length-z.1) ⟨0,E⟩ (bw U) (aS [0,1]) ?_
 clear E
 rintro ⟨i,⟨EQ,A,Eq⟩⟩ J9 D
 try dsimp only
 have hz:i=0→gU ts i= -1:=BW
 refine aq fun _ K=>WS fun _ L=>rP 5 [] (mc 0 U mn) ?_
 refine RK L<|bV U (aW fun v=>?_) (aV fun v=>?_)
 ·refine bL<|ai<|ai<|aI<|KK Di<|WS fun _ u=>rP 1 [] mn ?_
  refine RK u<|av<|Q1 hQ U U U ?_
  exact cB (xg A I I).symm
 refine WK K<|aq fun _ C=>aG<|WS fun _ M=>rP 3 [] (mc 0 U mn) ?_
 obtain ⟨x,hx⟩:=aM ts i I
 have E1:=bQ ar.cells hx
 refine rS (IA i U (aF 1 U) zJ dc I I)<|rS (mq i 0 (ar.cells x) U cf (aF 1 U) E1 U dc U U)<|AL U G2 fun Fd=>gl U L5 U<|RK M<|aq fun _ F=>aq fun _ B=>dy cy 38 kr<|mz 2 [] (mc 0 U mn) U<|dS (CL (pT x.Id 0 9999) (aN) U)<|dP 2 [] mn ?_
 refine iu (t:=26) U (bB fun w=>?_) (bx fun w=>?_)
 ·refine lP 11 U<|lP 22 U<|cO<|RK B<|aU U<|WS fun _ N=>rP 1 [] mn ?_
  refine RK N<|av<|Q1 hQ U U U ?_
  exact cB (ei A hx (by simp only [bX,er]; omega)).symm
 refine dP 3 [] mn ?_
 refine j0 (t:=29) U (aW fun AC=>?_) (aV fun AC=>?_)
 ·refine lP 8 U<|lP 6 U<|dS (LP (ag.cells x.lD) 0 U cf U U U)<|dS (CL (qj x.lD 1 30000) (aN) U)<|dP 3 [] mn ?_
  refine iu (t:=48) U (bB fun A8=>?_) (bx fun A8=>?_)
  ·refine lP 11 U<|cO<|RK B<|aU U<|WS fun _ e=>rP 1 [] mn ?_
   refine RK e<|av<|Q1 hQ U U U ?_
   exact cB (ei A hx (by simp only [bX,er]; omega)).symm
  refine lP 1 U<|dS (LP (ag.cells x.mR) 0 U cf U U U)<|dS (CL (qj x.mR 0 5000) (aN) U)<|dP 3 [] mn ?_
  refine iu (t:=54) U (bB fun A9=>?_) (bx fun A9=>?_)
  ·refine lP 5 U<|cO<|RK B<|aU U<|WS fun _ f=>rP 1 [] mn ?_
   refine RK f<|av<|Q1 hQ U U U ?_
   exact cB (ei A hx (by simp only [bX,er]; omega)).symm
  refine mz 2 [] (mc 0 U mn) U<|dS (CL (pT x.AD 0 5000) (aN) U)<|dP 2 [] mn ?_
  refine cO<|RK B<|cG U (bB fun BE=>?_) (bx fun BE=>?_)
  ·refine WS fun _ g=>rP 1 [] mn ?_
   refine RK g<|av<|Q1 hQ U U U ?_
   exact cB (ei A hx (by simp only [bX,er]; omega)).symm
  refine WK F<|WS fun _ h=>fD 2 [] (mc 0 U mn) U<|RK h<|aG<|WS fun _ j=>rS (BI U nP)<|rP 1 [] mn ?_
  refine RK j<|cG U (aV fun Bc=>?_) (aW fun Bc=>?_)
  ·refine WS fun _ AB=>rP 5 [] (mc 0 U mn) ?_
   refine cg (t:=68) U (bB fun B3=>?_) (bx fun B3=>?_)
   ·refine bG 5 U<|RK AB<|aU U<|WS fun _ k=>rP 1 [] mn ?_
    refine RK k<|av<|Q1 hQ U U U ?_
    exact cB (ei A hx (by simp only [bX,er]; omega)).symm
   refine rP 5 [] (mc 0 U mn) ?_
   refine RK AB<|bV U (bx fun B9=>?_) (bB fun B9=>?_)
   ·refine cx<|aO<|aO<|KK C<|ay<|rP 3 [] mn ?_
    refine aJ ?_
    refine bj (D ⟨(i+1),⟨I,iv A hx (by simp only [bX,er]; omega),by rw [gQ hx]; omega⟩⟩ _ _ _ U os (bw U) (aS [1,2]))
   refine WS fun _ l=>rP 1 [] mn ?_
   refine RK l<|av<|Q1 hQ U U U ?_
   exact cB (ei A hx (by simp only [bX,er]; omega)).symm
  refine aq fun _ J=>WS fun _ m=>rS (BI U nP)<|rP 1 [] mn ?_
  refine RK m<|cG U (aV fun Ci=>?_) (aW fun Ci=>?_)
  ·refine WK J<|bV U (aW fun Ck=>?_) (aV fun Ck=>?_)
   ·refine WS fun _ p=>rP 1 [] mn ?_
    refine RK p<|av<|Q1 hQ U U U ?_
    exact cB (o6 I).symm
   refine WS fun _ n=>bG 1 U<|rS (LP (ag.cells x.eQ) 0 U cf U U U)<|rS (CL (qj x.eQ 500 20000) (aN) U)<|rP 1 [] mn ?_
   refine RK n<|bV U (bx fun Cl=>?_) (bB fun Cl=>?_)
   ·refine cx<|aO<|aO<|KK C<|ay<|rP 3 [] mn ?_
    refine aJ ?_
    refine bj (D ⟨(i+1),⟨I,iv A hx (by simp only [bX,er]; omega),by rw [gQ hx]; omega⟩⟩ _ _ _ U os (bw U) (aS [1,2]))
   refine WS fun _ o=>rP 1 [] mn ?_
   refine RK o<|av<|Q1 hQ U U U ?_
   exact cB (ei A hx (by simp only [bX,er]; omega)).symm
  refine ay<|rS (BI U nP)<|rP 1 [] mn ?_
  refine RK J<|bV U (aW fun Cp=>?_) (aV fun Cp=>?_)
  ·refine WS fun _ s=>rP 1 [] mn ?_
   refine RK s<|av<|Q1 hQ U U U ?_
   exact cB (ei A hx (by simp only [bX,er]; omega)).symm
  refine WS fun _ q=>bG 1 U<|rS (LP (ag.cells x.eQ) 0 U cf U U U)<|rS (CL (qj x.eQ 500 20000) (aN) U)<|rP 1 [] mn ?_
  refine RK q<|bV U (bx fun Cx=>?_) (bB fun Cx=>?_)
  ·refine cx<|aO<|aO<|KK C<|ay<|rP 3 [] mn ?_
   refine aJ ?_
   refine bj (D ⟨(i+1),⟨I,iv A hx (by simp only [bX,er]; omega),by rw [gQ hx]; omega⟩⟩ _ _ _ U os (bw U) (aS [1,2]))
  refine WS fun _ r=>rP 1 [] mn ?_
  refine RK r<|av<|Q1 hQ U U U ?_
  exact cB (ei A hx (by simp only [bX,er]; omega)).symm
 refine dP 6 [0,1] (mc 0 U (mc 1 U mn)) ?_
 obtain ⟨y,hy⟩:=aM ts (i-1) I
 have FS:=bQ ar.cells hy
 refine dS (IA (i-1) U (aF 2 U) zJ dc I I)<|dS (nv ((i-1)*9) U (aF 2 U) (Nat.mul_pos I dc) eP U) ?_
 have GE:=FB I hy
 refine dS (hP (i-1) 0 (vI y.Id) U cf (aF 2 U) FS U dc U)<|dP 4 [] mn ?_
 refine iu (t:=42) U (aV fun AO=>?_) (aW fun AO=>?_)
 ·refine lP 17 U<|cO<|RK B<|aU U<|WS fun _ O=>rP 1 [] mn ?_
  refine RK O<|av<|Q1 hQ U U U ?_
  exact cB (ei A hx (by simp only [bX,er]; omega)).symm
 refine lP 1 U<|dS (LP (ag.cells x.lD) 0 U cf U U U)<|dS (CL (qj x.lD 1 30000) (aN) U)<|dP 3 [] mn ?_
 refine iu (t:=48) U (bB fun AR=>?_) (bx fun AR=>?_)
 ·refine lP 11 U<|cO<|RK B<|aU U<|WS fun _ P=>rP 1 [] mn ?_
  refine RK P<|av<|Q1 hQ U U U ?_
  exact cB (ei A hx (by simp only [bX,er]; omega)).symm
 refine lP 1 U<|dS (LP (ag.cells x.mR) 0 U cf U U U)<|dS (CL (qj x.mR 0 5000) (aN) U)<|dP 3 [] mn ?_
 refine iu (t:=54) U (bB fun AY=>?_) (bx fun AY=>?_)
 ·refine lP 5 U<|cO<|RK B<|aU U<|WS fun _ R=>rP 1 [] mn ?_
  refine RK R<|av<|Q1 hQ U U U ?_
  exact cB (ei A hx (by simp only [bX,er]; omega)).symm
 refine mz 2 [] (mc 0 U mn) U<|dS (CL (pT x.AD 0 5000) (aN) U)<|dP 2 [] mn ?_
 refine cO<|RK B<|cG U (bB fun Ae=>?_) (bx fun Ae=>?_)
 ·refine WS fun _ S=>rP 1 [] mn ?_
  refine RK S<|av<|Q1 hQ U U U ?_
  exact cB (ei A hx (by simp only [bX,er]; omega)).symm
 refine WK F<|WS fun _ T=>fD 2 [] (mc 0 U mn) U<|RK T<|aG<|WS fun _ AA=>rS (BI U nP)<|rP 1 [] mn ?_
 refine RK AA<|cG U (aV fun A0=>?_) (aW fun A0=>?_)
 ·refine WS fun _ G=>rP 5 [] (mc 0 U mn) ?_
  refine cg (t:=68) U (bB fun A1=>?_) (bx fun A1=>?_)
  ·refine bG 5 U<|RK G<|aU U<|WS fun _ V=>rP 1 [] mn ?_
   refine RK V<|av<|Q1 hQ U U U ?_
   exact cB (ei A hx (by simp only [bX,er]; omega)).symm
  refine rP 5 [] (mc 0 U mn) ?_
  refine RK G<|bV U (bx fun A2=>?_) (bB fun A2=>?_)
  ·refine cx<|aO<|aO<|KK C<|ay<|rP 3 [] mn ?_
   refine aJ ?_
   refine bj (D ⟨(i+1),⟨I,iv A hx (by simp only [bX,er]; omega),by rw [gQ hx]; omega⟩⟩ _ _ _ U os (bw U) (aS [1,2]))
  refine WS fun _ W=>rP 1 [] mn ?_
  refine RK W<|av<|Q1 hQ U U U ?_
  exact cB (ei A hx (by simp only [bX,er]; omega)).symm
 refine aq fun _ H=>WS fun _ X=>rS (BI U nP)<|rP 1 [] mn ?_
 refine RK X<|cG U (aV fun A3=>?_) (aW fun A3=>?_)
 ·refine WK H<|bV U (aW fun A4=>?_) (aV fun A4=>?_)
  ·refine WS fun _ a=>rP 1 [] mn ?_
   refine RK a<|av<|Q1 hQ U U U ?_
   exact cB (o6 I).symm
  refine WS fun _ Y=>bG 1 U<|rS (LP (ag.cells x.eQ) 0 U cf U U U)<|rS (CL (qj x.eQ 500 20000) (aN) U)<|rP 1 [] mn ?_
  refine RK Y<|bV U (bx fun A5=>?_) (bB fun A5=>?_)
  ·refine cx<|aO<|aO<|KK C<|ay<|rP 3 [] mn ?_
   refine aJ ?_
   refine bj (D ⟨(i+1),⟨I,iv A hx (by simp only [bX,er]; omega),by rw [gQ hx]; omega⟩⟩ _ _ _ U os (bw U) (aS [1,2]))
  refine WS fun _ Z=>rP 1 [] mn ?_
  refine RK Z<|av<|Q1 hQ U U U ?_
  exact cB (ei A hx (by simp only [bX,er]; omega)).symm
 refine ay<|rS (BI U nP)<|rP 1 [] mn ?_
 refine RK H<|bV U (aW fun A6=>?_) (aV fun A6=>?_)
 ·refine WS fun _ d=>rP 1 [] mn ?_
  refine RK d<|av<|Q1 hQ U U U ?_
  exact cB (ei A hx (by simp only [bX,er]; omega)).symm
 refine WS fun _ b=>bG 1 U<|rS (LP (ag.cells x.eQ) 0 U cf U U U)<|rS (CL (qj x.eQ 500 20000) (aN) U)<|rP 1 [] mn ?_
 refine RK b<|bV U (bx fun A7=>?_) (bB fun A7=>?_)
 ·refine cx<|aO<|aO<|KK C<|ay<|rP 3 [] mn ?_
  refine aJ ?_
  refine bj (D ⟨(i+1),⟨I,iv A hx (by simp only [bX,er]; omega),by rw [gQ hx]; omega⟩⟩ _ _ _ U os (bw U) (aS [1,2]))
 refine WS fun _ c=>rP 1 [] mn ?_
 refine RK c<|av<|Q1 hQ U U U ?_
 exact cB (ei A hx (by simp only [bX,er]; omega)).symm
theorem Df (ts:List ar) (tsA:OA) (tsC:Nat) (hlen:ts.length≤1000000) (hside: ∀ x∈ts,0≤x.jD∧x.jD≤255):
 dN Tryz.prog 91 [(vA (bO.cells (bO.mk (bE.mk tsA ts.length tsC))))] [(rd tsA ts.length 9 (ts.map ar.cells))] (vI (if du ts=true then 0 else 10)):=by
 refine bH kr Tryz.func91 U U fun w0 Q hQ hN=>?_
 try dsimp only
 refine WS fun _ v=>eT U fun b2=>bG 1 U<|RK v<|BB U<|aq fun _ w=>WS fun _ y=>rP 3 [] (mc 0 U mn) ?_
 refine eJ (xs:=[.tmp 11]) (cs:=[(vI (ts.length:Int))]) U dJ kY U U U U (by simp [Value.cells]) U U fun b5=>?_
 refine rS (CL (dN.eq (qa 1 12 ([(ts.length:Int)]) (some ⟨b5,0,none⟩) 1 (by (simp; done))) cH) (aD (br 0 U U (by simp [bR]) U)<|aN) U) ?_
 refine rP 1 [] mn ?_
 refine RK y<|cG U (bB fun h6=>?_) (bx fun h6=>?_)
 ·refine WS fun _ AC=>rP 1 [] mn ?_
  refine RK AC<|av<|Q1 hQ U U U ?_
  exact cI (if_neg (by rw [o6 I]; decide)).symm
 refine WK w<|WS fun _ AO=>bG 1 U<|RK AO<|WS fun _ AR=>bG 1 U<|RK AR<|aq fun _ J=>AN<|KK J<|aq fun _ B=>WS fun _ K=>rP 4 [] (mc 1 U mn) ?_
 refine RK K<|aG ?_
 have D:(0≤ts.length)∧(e_ (-1) ts=e_ (gU ts 0) (ts.drop 0))∧(-1≤gU ts 0)∧(gU ts 0≤9999):=by (refine ⟨I,rfl,by simp [gU],by simp [gU]⟩)
 refine bS (ι:={z:Nat // (z≤ts.length)∧(e_ (-1) ts=e_ (gU ts z) (ts.drop z))∧(-1≤gU ts z)∧(gU ts z≤9999)}) [1,4,16,17] [1,2] U U (fun z=>[(3,(vI (gU ts z.1))),(18,(vI (z.1:Int)))]) (fun z=>[]) (fun _=>rfl) (fun _=>rfl) (fun z=>ts.length-z.1) ⟨0,D⟩ (bw U) (aS [1,2]) ?_
 clear D
 rintro ⟨i,⟨AY,A,Ae,A0⟩⟩ J13 E
 try dsimp only
 refine WS fun _ L=>rP 1 [] mn ?_
 refine RK L<|aq fun _ M=>bV U (aW fun k=>?_) (aV fun k=>?_)
 ·refine bL<|ai<|ai<|aI<|KK B<|WS fun _ O=>rP 2 [] mn ?_
  refine RK O<|av<|Q1 hQ U U U ?_
  exact cI (if_pos (xg A I I)).symm
 refine WK M<|aq fun _ F=>aG<|WS fun _ N=>?_
 obtain ⟨x,hx⟩:=aM ts i I
 have A1:=bQ ar.cells hx
 refine rS (IA i U (aF 1 U) zJ dc I I) ?_
 have A5:=hside x (aQ hx)
 refine rS (mq i 0 (ar.cells x) U cf (aF 1 U) A1 U dc U U)<|AL U G2 fun A2=>gl U L5 U<|RK N ?_
 refine oW (ι:=Unit) [1,3,4,6,16,17,18] [0,1,2] U U (fun z=>[(7,(vB (decide (x.jD=0∧x.eQ.Lo=0∧x.eQ.Hi=0))))]) (fun z=>[]) (fun _=>rfl) (fun _=>rfl) ?_ fun K20 G=>?_
 ·intro _
  try dsimp only
  refine oW (ι:=Unit) [1,3,4,6,7,16,17,18] [0,1,2] U U (fun z=>[(8,(vB (decide ((1≤x.jD∧x.jD≤2)∧x.eQ.Lo≤x.eQ.Hi∧500≤x.eQ.Lo∧x.eQ.Hi≤20000))))]) (fun z=>[]) (fun _=>rfl) (fun _=>rfl) ?_ fun K21 H=>?_
  ·intro _
   try dsimp only
   refine aq fun _ AB=>WS fun _ C=>rP 4 [] (mc 0 U mn) ?_
   refine eJ (xs:=[.tmp 44]) (cs:=[(vI x.Id)]) U dJ kY U U U U (by simp [Value.cells]) U U fun h=>?_
   refine rS (CL (dN.eq (qa ((gU ts i)+1) 9999 ([x.Id]) (some ⟨h,0,none⟩) 1 (by (simp; done))) cH) (aD (br 0 U U (by simp [bR]) U)<|aN) U) ?_
   refine rP 2 [] mn ?_
   refine cg (t:=48) U (bB fun o=>?_) (bx fun o=>?_)
   ·refine bG 26 U<|RK C<|aU U<|WS fun _ P=>bG 1 U<|RK P<|bL<|ai<|fM U<|ai<|ai<|aI<|KK B<|WS fun _ R=>rP 2 [] mn ?_
    refine RK R<|av<|Q1 hQ U U U ?_
    exact cI (if_neg (by rw [ei A hx (by simp only [bX,er]; omega)]; decide)).symm
   refine bG 1 U<|rS (LP (ag.cells x.lD) 1 U cf U U U)<|rS (CL (xN x.lD 1 30000) (aN) U)<|rP 3 [] mn ?_
   refine cg (t:=54) U (bB fun p=>?_) (bx fun p=>?_)
   ·refine bG 20 U<|RK C<|aU U<|WS fun _ S=>bG 1 U<|RK S<|bL<|ai<|fM U<|ai<|ai<|aI<|KK B<|WS fun _ T=>rP 2 [] mn ?_
    refine RK T<|av<|Q1 hQ U U U ?_
    exact cI (if_neg (by rw [ei A hx (by simp only [bX,er]; omega)]; decide)).symm
   refine bG 1 U<|rS (LP (ag.cells x.mR) 1 U cf U U U)<|rS (CL (xN x.mR 0 5000) (aN) U)<|rP 3 [] mn ?_
   refine cg (t:=60) U (bB fun q=>?_) (bx fun q=>?_)
   ·refine bG 14 U<|RK C<|aU U<|WS fun _ AA=>bG 1 U<|RK AA<|bL<|ai<|fM U<|ai<|ai<|aI<|KK B<|WS fun _ V=>rP 2 [] mn ?_
    refine RK V<|av<|Q1 hQ U U U ?_
    exact cI (if_neg (by rw [ei A hx (by simp only [bX,er]; omega)]; decide)).symm
   refine rP 2 [] (mc 1 U mn) ?_
   refine eJ (xs:=[.tmp 62]) (cs:=[(vI x.AD)]) U dJ kY U U U U (by simp [Value.cells]) U U fun j=>?_
   refine rS (CL (dN.eq (qa 0 5000 ([x.AD]) (some ⟨j,0,none⟩) 1 (by (simp; done))) cH) (aD (br 0 U U (by simp [bR]) U)<|aN) U) ?_
   refine rP 3 [] mn ?_
   refine cg (t:=67) U (bB fun r=>?_) (bx fun r=>?_)
   ·refine bG 7 U<|RK C<|aU U<|WS fun _ W=>bG 1 U<|RK W<|bL<|ai<|fM U<|ai<|ai<|aI<|KK B<|WS fun _ X=>rP 2 [] mn ?_
    refine RK X<|av<|Q1 hQ U U U ?_
    exact cI (if_neg (by rw [ei A hx (by simp only [bX,er]; omega)]; decide)).symm
   refine rP 3 [] mn ?_
   refine cu (t:=70) U (bx fun s=>?_) (bB fun s=>?_)
   ·refine bG 4 U<|RK C<|ct U<|WK AB<|ay<|fD 3 [] (mc 2 U mn) U<|aJ<|aO<|KK F<|ay<|rP 2 [] mn ?_
    refine aJ ?_
    have f:(vI (gU ts (i+1)))=(vI x.Id):=by rw [gQ hx]
    refine bj (E ⟨(i+1),⟨I,iv A hx (by simp only [bX,er]; omega),by rw [gQ hx]; omega,by rw [gQ hx]; omega⟩⟩ _ _ _ U os (cQ 4<|bk U f<|bw U) (aS [3,4]))
   refine rP 4 [] mn ?_
   refine RK C<|bV U (bx fun u=>?_) (bB fun u=>?_)
   ·refine WK AB<|ay<|fD 3 [] (mc 2 U mn) U<|aJ<|aO<|KK F<|ay<|rP 2 [] mn ?_
    refine aJ ?_
    have e:(vI (gU ts (i+1)))=(vI x.Id):=by rw [gQ hx]
    refine bj (E ⟨(i+1),⟨I,iv A hx (by simp only [bX,er]; omega),by rw [gQ hx]; omega,by rw [gQ hx]; omega⟩⟩ _ _ _ U os (cQ 4<|bk U e<|bw U) (aS [3,4]))
   refine WS fun _ Y=>bG 1 U<|RK Y<|bL<|ai<|fM U<|ai<|ai<|aI<|KK B<|WS fun _ Z=>rP 2 [] mn ?_
   refine RK Z<|av<|Q1 hQ U U U ?_
   exact cI (if_neg (by rw [ei A hx (by simp only [bX,er]; omega)]; decide)).symm
  refine ay<|rP 2 [] (mc 0 U mn) ?_
  refine rS (SX (qo (m:=x.jD) U U Sg um (pf (by first|assumption|omega))) U U)<|eJ (xs:=[.tmp 33]) (cs:=[(vI x.jD)]) U dJ kY U U U U (by simp [Value.cells]) U U fun g=>?_
  refine rS (CL (dN.eq (qa 1 2 ([x.jD]) (some ⟨g,0,none⟩) 1 (by (simp; done))) cH) (aD (br 0 U U (by simp [bR]) U)<|aN) U) ?_
  refine rP 1 [] mn ?_
  refine cu (t:=36) U (aW fun n=>?_) (aV fun n=>?_)
  ·refine rP 5 [] mn ?_
   refine aJ ?_
   have d:(decide ((1≤x.jD∧x.jD≤2)∧x.eQ.Lo≤x.eQ.Hi∧500≤x.eQ.Lo∧x.eQ.Hi≤20000))=false:=bI I
   refine bj (km (cQ 8<|oO U d<|dx.nil _) (aS [1,2,3]) (H ()))
  refine bG 1 U<|rS (LP (ag.cells x.eQ) 1 U cf U U U)<|rS (CL (xN x.eQ 500 20000) (aN) U)<|rP 2 [] mn ?_
  refine aJ ?_
  have c:(decide ((1≤x.jD∧x.jD≤2)∧x.eQ.Lo≤x.eQ.Hi∧500≤x.eQ.Lo∧x.eQ.Hi≤20000))=(decide (x.eQ.Lo≤x.eQ.Hi∧500≤x.eQ.Lo∧x.eQ.Hi≤20000)):=g5.2 I
  refine bj (km (cQ 8<|oO U c<|dx.nil _) (aS [1,2,3]) (H ()))
 refine ay<|fD 2 [] (mc 0 U mn) U<|rS (BI U nP)<|rP 1 [] mn ?_
 refine cu (t:=25) U (aW fun l=>?_) (aV fun l=>?_)
 ·refine rP 6 [] mn ?_
  refine aJ ?_
  have b:(decide (x.jD=0∧x.eQ.Lo=0∧x.eQ.Hi=0))=false:=bI I
  refine bj (km (cQ 7<|oO U b<|dx.nil _) (aS [0,1,2]) (G ()))
 refine bG 1 U<|rS (LP (ag.cells x.eQ) 0 U cf U U U)<|rS (SX (bp (xs:=[]) (cs:=(ag.cells (ag.mk 0 0))) U U (bo hU U)) U U)<|rS (BI U (x5 _ _ x.eQ (ag.mk 0 0)))<|rP 2 [] mn ?_
 refine aJ ?_
 have a:(decide (x.jD=0∧x.eQ.Lo=0∧x.eQ.Hi=0))=(decide (x.eQ=(ag.mk 0 0))):=g5.2 (by (simp only [ag.ext_iff] at *; omega))
 refine bj (km (cQ 7<|oO U a<|dx.nil _) (aS [0,1,2]) (G ()))
theorem Q6 (ts:List ar) (tsA:OA) (tsC:Nat) (hlen:ts.length≤1000000):
 qB Tryz.prog 89 [(vA (bO.cells (bO.mk (bE.mk tsA ts.length tsC))))] [(rd tsA ts.length 9 (ts.map ar.cells))] (fun (x:(OA)×Nat)=>(vA (bO.cells (bO.mk (bE.mk x.1 ts.length x.2))))) (fun (x:(OA)×Nat)=>True) (fun (x:(OA)×Nat)=>[(own x.1 x.2 118 9 (ts.map ar.cells))]):=by
 refine fO kr Tryz.func89 U U fun H Q hQ hN=>?_
 try dsimp only
 refine WS fun _ A=>eT U fun F=>AL U Vr fun G=>RK A<|WS fun _ B=>qT U zJ U fun E=>rP 2 [] (mc 2 U mn) ?_
 refine fU (es:=(List.map ar.cells [])) (C':=[own (some ⟨E,0,none⟩) 0 118 9 (List.map ar.cells []),_,_,_]) 0 U sm U (by simp [maxLen]) U ?_
 refine dR (es2:=(List.map ar.cells ts)) (m':=ts.length) 0 U U U Wt U U sm (aF 3 U) (ue _) os (by first|(simp only [maxLen]; omega)|(simp [maxLen]; omega)) sm sm U fun C D=>?_
 try dsimp only
 refine rS (SX (bp (xs:=[(0,.tmp 6)]) (cs:=(bO.cells (bO.mk (bE.mk C ts.length D)))) U U (bo UC U)) U U)<|rV U Ux U<|RK B<|av<|LX hQ (C,D) [0] [0] (mc 1 U mn) U U U U ?_
 trivial
theorem yD (la:List Int) (laA:OA) (laC:Nat) (lb:List Int) (lbA:OA) (lbC:Nat) (h1:la.length≤1000000) (h2:lb.length≤1000000):
 dN Tryz.prog 19 [(vS laA la.length laC),(vS lbA lb.length lbC)] [(rd laA la.length 1 (la.map iC)),(rd lbA lb.length 1 (lb.map iC))] (vB (decide (la=lb))):=by
 refine bH kr Tryz.func19 U U fun V Q hQ hN=>?_
 try dsimp only
 refine WS fun _ J=>bG 1 U<|RK J<|aq fun _ K=>WS fun _ L=>rP 5 [] mn ?_
 refine RK L<|cG U (bB fun hl=>?_) (bx fun hl=>?_)
 ·refine WS fun _ M=>rP 1 [] mn ?_
  refine RK M<|av<|Q1 hQ U U U ?_
  first|exact cB (bI (rJ hx hy h)).symm|exact cB (dM (rK I A I)).symm|exact cB (bI (fun e=>by subst e; omega)).symm
 refine WK K<|aq fun _ N=>WS fun _ O=>rP 1 [] mn ?_
 refine RK O<|aG ?_
 have B:(0≤la.length)∧(la.take 0=lb.take 0):=by simp
 refine bS (ι:={z:Nat // (z≤la.length)∧(la.take z=lb.take z)}) [0,1] [0,1] U U (fun z=>[(5,(vI (z.1:Int)))]) (fun z=>[]) (fun _=>rfl) (fun _=>rfl) (fun z=>la.length-z.1) ⟨0,B⟩ (bw U) (aS [0,1]) ?_
 clear B
 rintro ⟨i,⟨S,A⟩⟩ J7 AB
 try dsimp only
 refine aq fun _ P=>WS fun _ R=>rP 4 [] mn ?_
 refine RK R<|bV U (aW fun H=>?_) (aV fun H=>?_)
 ·refine bL<|ai<|ai<|aI<|KK N<|WS fun _ F=>rP 1 [] mn ?_
  refine RK F<|av<|Q1 hQ U U U ?_
  first|exact cB (bI (rJ hx hy h)).symm|exact cB (dM (rK I A I)).symm|exact cB (bI (fun e=>by subst e; omega)).symm
 refine WK P<|aq fun _ C=>aG<|aq fun _ D=>dy cy 9 kr<|dP 2 [] mn ?_
 obtain ⟨x,hx⟩:=aM la i I
 have T:=bQ iC hx
 refine dS (IA i U (aF 0 U) dJ dc I I)<|dS (hP i 0 (vI x) U cf (aF 0 U) T U dc U)<|dP 2 [] mn ?_
 obtain ⟨y,hy⟩:=aM lb i I
 have AA:=bQ iC hy
 refine dS (IA i U (aF 1 U) dJ dc I I)<|dS (hP i 0 (vI y) U cf (aF 1 U) AA U dc U)<|dP 1 [] mn ?_
 refine cO<|RK D<|cG U (bB fun h=>?_) (bx fun h=>?_)
 ·refine WS fun _ E=>rP 1 [] mn ?_
  refine RK E<|av<|Q1 hQ U U U ?_
  first|exact cB (bI (rJ hx hy h)).symm|exact cB (dM (rK I A I)).symm|exact cB (bI (fun e=>by subst e; omega)).symm
 refine cx<|aO<|KK C<|ay<|rP 3 [] mn ?_
 refine aJ ?_
 have G:(vI (((i+1):Nat):Int))=(vI ((i:Int)+1)):=by exact cI I
 refine bj (AB ⟨(i+1),⟨I,wJ A hx hy h⟩⟩ _ _ _ U os (dx.cons U<|dx.cons U<|bk U G<|dx.nil _) (aS [0,1]))
end
section
open Go.RowKit
theorem O9 (l:bg) (kA:OA) (kC:Nat) (az:List RA) (cA:OA) (cC:Nat) (bA:OA) (bC:Nat) (hin:ep l az) (hng: ¬ mM l):
 qB Tryz.prog 58 [(vA (cw.cells (kj l kA kC cA cC bA bC)))] [(rd kA l.aR.length 9 (l.aR.map ar.cells)),(rd cA l.aj.length 2 (List.zipWith ax.cells l.aj az)),(dV (a_ ax.gG l.aj az)),(rd bA l.ab.length 4 (l.ab.map bJ.cells))] (fun (x:(OA)×Nat×(OA)×Nat×(List RA)×(OA)×Nat)=>(vA (cw.cells (cw.mk (bO.mk (bE.mk x.1 l.aR.length x.2.1)) l.iN (bE.mk x.2.2.1 l.aj.length x.2.2.2.1) (bE.mk x.2.2.2.2.2.1 l.ab.length x.2.2.2.2.2.2) l.bM l.fT l.dE)))) (fun (x:(OA)×Nat×(OA)×Nat×(List RA)×(OA)×Nat)=>x.2.2.2.2.1.length=l.aj.length∧vc l.aj x.2.2.2.2.1) (fun (x:(OA)×Nat×(OA)×Nat×(List RA)×(OA)×Nat)=>[(own x.1 x.2.1 118 9 (l.aR.map ar.cells)),(own x.2.2.1 x.2.2.2.1 73 2 (List.zipWith ax.cells l.aj x.2.2.2.2.1)),(bK (a_ ax.owns l.aj x.2.2.2.2.1)),(own x.2.2.2.2.2.1 x.2.2.2.2.2.2 122 4 (l.ab.map bJ.cells))]):=by
 have v:=hin.sZ
 have u:=hin.rn
 have G:=hin.n_
 have t:=hin.sB
 have Z:=DP hng
 refine fO V4 Tryz.func58 U U fun w0 Q hQ hN=>?_
 try dsimp only
 refine WS fun _ p=>eT U fun b2=>AL U Uj fun b3=>RK p<|WS fun _ q=>rP 1 [] mn ?_
 refine rS (LP (bO.cells (bO.mk (bE.mk kA l.aR.length kC))) 1 U UG U U U) ?_
 refine cX (Q6 l.aR kA kC sd) (bq [2]) U fun y w=>?_
 obtain ⟨c,d⟩:=y
 try dsimp only
 refine bG 1 U<|W3 (cw.cells (cw.mk (bO.mk (bE.mk c l.aR.length d)) l.iN (bE.mk cA l.aj.length cC) (bE.mk bA l.ab.length bC) l.bM l.fT l.dE)) U Ux U U<|RK q<|WS fun _ r=>qT U x9 U fun e=>rP 2 [] (mc 3 U mn) ?_
 refine fU (es:=(List.map dA.cells [])) (C':=[own (some ⟨e,0,none⟩) 0 73 2 (List.map dA.cells []),_,_,_,_,_,_,_]) 0 U sm U (by simp [maxLen]) U ?_
 refine dR (es2:=(List.zipWith ax.cells l.aj az)) (m':=l.aj.length) 0 U U U VY U U sm (aF 5 U) (FC _ _) os (by first|(simp only [maxLen]; omega)|(simp [maxLen]; omega)) sm (g7 G) U fun B D=>?_
 try dsimp only
 refine bG 1 U<|Rk (cw.cells (cw.mk (bO.mk (bE.mk c l.aR.length d)) l.iN (bE.mk B l.aj.length D) (bE.mk bA l.ab.length bC) l.bM l.fT l.dE)) U VD U U<|RK r<|aq fun _ N=>WS fun _ O=>rP 1 [] mn ?_
 refine RK O<|aG<|oM ?_
 have H:(0≤l.aj.length)∧(([]:List RA).length=0)∧(vc l.aj ([]:List RA)):=by exact ⟨Nat.zero_le _,rfl,fun k m a _ h=>by simp at h⟩
 refine bS (ι:={z:Nat×(List RA) // (z.1≤l.aj.length)∧(z.2.length=z.1)∧(vc l.aj z.2)}) [1,2] [2,3,4,5,6,7,8] U U (fun z=>[(3,(vI (z.1.1:Int)))]) (fun z=>[(bK (a_ ax.owns (l.aj.take z.1.1) z.1.2)),(own B D 73 2 (List.zipWith ax.cells l.aj (th z.1.2 az z.1.1)))]) (fun _=>rfl) (fun _=>rfl) (fun z=>l.aj.length-z.1.1) ⟨(0,([]:List RA)),H⟩ (bw U) (aS [2,3,4,5,6,7,8,0,1]) ?_
 clear H
 rintro ⟨⟨i,bz⟩,⟨AB,A,F⟩⟩ J15 M
 try dsimp only at AB A F
 try dsimp only
 refine aq fun _ P=>WS fun _ R=>rP 5 [] (mc 2 U mn) ?_
 refine RK R<|bV U (aW fun j=>?_) (aV fun j=>?_)
 ·refine bL<|ai<|ai<|aI<|KK N<|WS fun _ T=>qT U xz U fun g=>?_
  rw [show th bz az i=bz from Jv I]
  rw [show l.aj.take i=l.aj from List.take_of_length_le I]
  refine rP 2 [] (mc 3 U mn) ?_
  refine fU (es:=(List.map bJ.cells [])) (C':=[own (some ⟨g,0,none⟩) 0 122 4 (List.map bJ.cells []),_,_,_,_,_,_,_,_,_]) 0 U sm U (by simp [maxLen]) U ?_
  refine dR (es2:=(List.map bJ.cells l.ab)) (m':=l.ab.length) 0 U U U Wg U U sm (aF 7 U) (xC _) os (by first|(simp only [maxLen]; omega)|(simp [maxLen]; omega)) sm sm U fun K L=>?_
  try dsimp only
  refine bG 1 U<|Rk (cw.cells (cw.mk (bO.mk (bE.mk c l.aR.length d)) l.iN (bE.mk B l.aj.length D) (bE.mk K l.ab.length L) l.bM l.fT l.dE)) U WI U U<|RK T<|WS fun _ AA=>rP 1 [] (mc 3 U mn) ?_
  refine G6 U QX U<|RK AA<|av ?_
  refine LX hQ (c,d,B,D,bz,K,L) [1,9,8,0] [0] (mc 2 U mn) U (by simp only [fE,List.all_nil,nU,Bool.and_true]; rfl) U U ?_
  exact ⟨dso,F⟩
 refine WK P<|aq fun _ S=>aG<|dT cy [3,10,13] [6,7,8,9,10] [0,1] [0,1,2,3,4,5,6,7] [0,1,2,3,4,5,6,7,8] U U U U U<|eS U (FA 2 U M0 U)<|eS U (L1 (vS B l.aj.length D) 2 U Qs U U)<|eS U (MV U)<|eS U (FA 2 U M0 U)<|eS U (L1 (vS B l.aj.length D) 2 U Qs U U)<|eS U (MV U) ?_
 obtain ⟨x,hx⟩:=aM l.aj i I
 obtain ⟨xa,J⟩:=aM az i I
 have b:(List.zipWith ax.cells l.aj (th bz az i))[i]? =some (ax.cells x xa):=dH hx (Gf A J)
 refine fS U (IA i U (au (n:=l.aj.length) 8 U (g7 (by rw [se A I]; exact G))) x9 dc I I) ?_
 refine fS U (nv ((i*2)+1) U (au (n:=l.aj.length) 8 U (g7 (by rw [se A I]; exact G))) (Nat.mul_pos I dc) MG U) ?_
 refine fS U (hP i 1 (vS xa.1 x.bu.length xa.2) U T1 (au (n:=l.aj.length) 8 U (g7 (by rw [se A I]; exact G))) b U dc U) ?_
 refine fS U (IA i U (au (n:=l.aj.length) 8 U (g7 (by rw [se A I]; exact G))) x9 dc I I) ?_
 refine fS U (nv ((i*2)+1) U (au (n:=l.aj.length) 8 U (g7 (by rw [se A I]; exact G))) (Nat.mul_pos I dc) MG U) ?_
 refine eN U<|jZ U fun T20 V=>qT U vM U fun f=>aJ (V _ _ (aS [1,2,3,4,5,6,7,8]) (aS [1,2,3,4,5,6,7,8,9]) ?_)
 refine jZ U fun T22 W=>fU (es:=(List.map cz.cells [])) (C':=[own (some ⟨f,0,none⟩) 0 75 3 (List.map cz.cells []),_,_,_,_,_,_,_,_,_]) 0 U sm U (by simp [maxLen]) U ?_
 refine dR (es2:=(List.map cz.cells x.bu)) (m':=x.bu.length) 0 U U U Vt U U sm (show jC _ (rd xa.1 x.bu.length 3 (x.bu.map cz.cells)).holds from (cW 6 U (bT hx J (by simp [ax.gG])))) (xG _) (by have:=Z.2.2.2 x (aQ hx); simp; omega) (by have:=Z.2.2.2 x (aQ hx); simp only [maxLen]; simp; omega) sm sm U fun C E=>?_
 try dsimp only
 refine SQ 0 U fun s=>aJ (W _ _ (aS [1,2,3,4,5,6,7,8]) (aS [1,2,3,4,5,6,7,8,9]) ?_)
 refine cm U fun T25 X=>eE (k:=i) (o:=1) (vs:=[(vS C x.bu.length E)]) (es':=(List.zipWith ax.cells l.aj (th (bz++[(C,E)]) az (i+1)))) (C':=[_,_,_,_,_,_,_,_,_,(own B D 73 2 (List.zipWith ax.cells l.aj (th (bz++[(C,E)]) az (i+1))))]) 9 U U U V6 U U U U b U dc (by exact Oa (nw:=(C,E)) hx A J) U<|aJ (X _ _ (aS [1,2,3,4,5,6,7,8]) ?_)
 refine f_ U<|aO<|KK S<|ay<|rP 3 [] mn ?_
 refine aJ<|y7 (X':=a_ ax.owns (l.aj.take (i+1)) (bz++[(C,E)])) 8 0 U U (Hn (nw:=(C,E)) hx A) ?_
 have Y:(vI (((i+1):Nat):Int))=(vI ((i:Int)+1)):=by exact cI I
 refine bj (M ⟨((i+1),(bz++[(C,E)])),⟨I,by simp; omega,KX F A hx (by simpa using s)⟩⟩ _ _ _ U os (dx.cons U<|dx.cons U<|bk U Y<|dx.nil _) (aS [1,2,3,4,5,6,7,0,8]))
end
section
open Go.RowKit
structure MZ (S:BS) (w0:World) (X:aB) (C0:List aB) (w:World) (S':BS):Prop where
 st:St S w0 (X::C0) w
 w_: ∀ b,S'.w b↔ ∃ A∈C0,A.wf b
theorem Er {A B:aB} (h:D6 A B):D6 A.ro B:=fun b C D=>⟨fun h=>h,(h b C D).2⟩
theorem Du {E:fG} {c:Code} {Q:dk} {D:ik} {L:dC} {C C0:List aB} {X:aB} (i:Nat) (hn:decide (i::(List.range C.length).filter fun k=>k != i).Nodup=true) (hC:kv C (i::(List.range C.length).filter fun k=>k != i)=X::C0)
 (h: ∀ w S',MZ E.S E.w0 X C0 w S'→WJ ⟨E.P,E.r,E.n,S',w⟩ c Q D L (X.ro::C0)):WJ E c Q D L C:=fun a w hf hs=>by
 have F:=St.kv _ hn hC hs
 obtain ⟨G,H⟩:=List.pairwise_cons.1 F.sep
 refine h w ⟨fun b=> ∃ A∈C0,A.wf b,fun _=>True⟩ ⟨F,fun b=>Iff.rfl⟩ a w hf ⟨eg.refl _ _,fun A hA=>?_,List.Pairwise.cons (fun B hB=>Er (G B hB)) H,fun A hA b hb=>?_,fun A hA b hb=> .inr trivial⟩
 ·rcases bU.1 hA with rfl|hA
  ·exact F.holds X (cD ..)
  ·exact F.holds A (dU _ hA)
 ·rcases bU.1 hA with rfl|hA
  ·exact hb.elim
  ·exact .inr ⟨A,hA,hb⟩
theorem AX {E:fG} {S':BS} {w:World} {K:Act→World→Prop} {D:ik} {L:dC} {C0 C1 C2:List aB} {X:aB} (hz:MZ E.S E.w0 X C0 w S') (is:List Nat) (hn:decide is.Nodup=true) (hC:kv C2 is=C1) (hwr:C1.all (·.wr)=true)
 (h:KJ E K D L (X::C1)):KJ ⟨E.P,E.r,E.n,S',w⟩ K D L C2:=fun a w' hf hs=>by
 have F:=St.kv is hn hC hs
 have C:=hz.st
 obtain ⟨J,M⟩:=List.pairwise_cons.1 C.sep
 have AA: ∀ b,X.fQ b→ ¬ S'.w b:=fun b hb hw=>by
  obtain ⟨A,hA,hw⟩:=(hz.w_ b).1 hw
  exact (J A hA b hb (A.ld b hw)).2 hw
 have G: ∀ b,S'.w b→E.w0.heap.size≤b∨E.S.w b:=fun b hb=>by
  obtain ⟨A,hA,hw⟩:=(hz.w_ b).1 hb
  exact C.own A (dU _ hA) b hw
 have H: ∀ A∈C1,∀ b,A.fQ b→w.heap.size≤b∨S'.w b:=fun A hA b hb=>F.own A hA b (A.whole (de.1 hwr A hA) b hb)
 refine h a w' hf ⟨?_,fun A hA=>?_,List.Pairwise.cons (fun B hB b hb hb'=>?_) F.sep,fun A hA b hb=>?_,fun A hA b hb=>?_⟩
 ·refine ⟨F.keeps.os.trans C.keeps.os,F.keeps.tape.trans C.keeps.tape,F.keeps.output.trans C.keeps.output,Nat.le_trans C.keeps.size F.keeps.size,fun k hk hn'=>?_⟩
  refine (F.keeps.block k (Nat.lt_of_lt_of_le hk C.keeps.size) fun hw=>?_).trans (C.keeps.block k hk hn')
  rcases G k hw with q|q
  ·omega
  ·exact hn' q
 ·rcases bU.1 hA with rfl|hA
  ·have hh:=C.holds A (cD ..)
   exact A.pD w w' (fun b hb=>F.keeps.block b (A.lt w hh b hb) (AA b hb)) hh
  ·exact F.holds A hA
 ·exfalso
  have hl:=X.lt w (C.holds X (cD ..)) b hb
  rcases H B hB b hb' with q|q
  ·omega
  ·exact AA b hb q
 ·rcases bU.1 hA with rfl|hA
  ·exact C.own A (cD ..) b hb
  ·rcases F.own A hA b hb with q|q
   ·exact .inl (Nat.le_trans C.keeps.size q)
   ·exact G b q
 ·rcases bU.1 hA with rfl|hA
  ·exact C.seen A (cD ..) b hb
  ·rcases H A hA b hb with q|q
   ·exact .inl (Nat.le_trans C.keeps.size q)
   ·obtain ⟨B,hB,hw⟩:=(hz.w_ b).1 q
    exact C.seen B (dU _ hB) b (B.ld b hw)
/-- put back, as it was -/
theorem Im {M A:Type} {f:M→A→List aB} {S:BS} {w0 w:World} {C:List aB} {ms:List M} {asl:List A} {k:Nat} {m:M} {a:A} {X:aB} (hm:ms[k]? =some m) (ha:asl[k]? =some a) (hf:f m a=[X]) (h:St S w0 (X::bK (gP f ms asl k)::C) w):St S w0 (bK (a_ f ms asl)::C) w:=by
 have B:St S w0 (bK (gP f ms asl k)::X::C) w:=h.perm (List.Perm.swap _ _ _)
 have D:St S w0 ((f m a++gP f ms asl k)++C) w:=by
  rw [hf]
  exact B.je.perm (List.perm_middle (a:=X) (l₁:=gP f ms asl k) (l₂:=C))
 exact p6 (pW hm ha).symm D.tied
theorem K9 {E:fG} {K:Act→World→Prop} {D:ik} {L:dC} {C C1:List aB} {M A:Type} {f:M→A→List aB} {ms:List M} {asl:List A} {k:Nat} {m:M} {a:A} {X:aB} (i j:Nat) (hm:ms[k]? =some m) (ha:asl[k]? =some a) (hf:f m a=[X])
 (hn:decide (j::i::(List.range C.length).filter fun k=>k != i&&k != j).Nodup=true) (hC:kv C (j::i::(List.range C.length).filter fun k=>k != i&&k != j)=X::bK (gP f ms asl k)::C1)
 (h:KJ E K D L (bK (a_ f ms asl)::C1)):KJ E K D L C:=fun a w hf' hs=>h a w hf' (Im hm ha hf (St.kv _ hn hC hs))
theorem z9 {M A:Type} {f:M→A→List aB} {ms:List M} {asl:List A} {m:M} {a:A} {X:aB} (hl:ms.length=asl.length) (hf:f m a=[X]):a_ f ms asl++[X]=a_ f (ms++[m]) (asl++[a]):=by
 rw [jU hl,← hf]; simp [a_]
theorem z3 {E:fG} {K:Act→World→Prop} {D:ik} {L:dC} {C C1:List aB} {M A:Type} {f:M→A→List aB} {ms:List M} {asl:List A} {m:M} {a:A} {X:aB} (i j:Nat) (hf:f m a=[X])
 (hn:decide (j::i::(List.range C.length).filter fun k=>k != i&&k != j).Nodup=true) (hC:kv C (j::i::(List.range C.length).filter fun k=>k != i&&k != j)=X::bK (a_ f ms asl)::C1)
 (h:KJ E K D L (bK (a_ f (m::ms) (a::asl))::C1)):KJ E K D L C:=fun b w hf' hs=>by
 have B:=St.kv _ hn hC hs
 have F:St E.S E.w0 (bK (a_ f ms asl)::X::C1) w:=B.perm (List.Perm.swap _ _ _)
 have G:St E.S E.w0 (a_ f (m::ms) (a::asl)++C1) w:=by
  show St E.S E.w0 ((f m a++a_ f ms asl)++C1) w
  rw [hf]
  exact F.je.perm (List.perm_middle (a:=X) (l₁:=a_ f ms asl) (l₂:=C1))
 exact h b w hf' G.tied
end
section
open Go.RowKit
abbrev mO (r:Nat):aB:=jG r (.deferred (some []))
theorem O4 (rs:List Nat):(bK (rs.map mO)).wr=true:=by
 show (rs.map mO).all (·.wr)=true
 rw [de]
 intro X hX
 obtain ⟨r,_,rfl⟩:=cp.1 hX
 rfl
theorem xT {E:fG} {c:Code} {Q:dk} {D:ik} {L:dC} {C:List aB} {ι:Type} (Di:ι→ik) (Li:ι→dC) (Ci:ι→List aB) (μ:ι→Nat) (x0:ι)
 (hD:D=Di x0) (h0:dx L (Li x0)) (hC: ∀ w,St E.S E.w0 C w→St E.S E.w0 (Ci x0) w)
 (round: ∀ x (J:Act→World→Prop),(∀ y D' L' C',D'=Di y→μ y<μ x→dx L' (Li y)→(∀ w,St E.S E.w0 C' w→St E.S E.w0 (Ci y) w)→KJ E J D' L' C')→WJ E c (Exit.then J Q) (Di x) (Li x) (Ci x)):WJ E (.loop c) Q D L C:=by
 intro a w hf hs
 subst hD
 have H: ∃ x,Fr E.n (Di x) (Li x) a∧St E.S E.w0 (Ci x) w:=⟨x0,hf.sub h0,hC w hs⟩
 clear hf hs
 have key: ∀ (m:Nat) (a:Act) (w:World),(∃ x,μ x=m∧Fr E.n (Di x) (Li x) a∧St E.S E.w0 (Ci x) w)→(Code.loop c).wpIn (Fw E.r) 0 E.P Q a w:=by
  intro m a w hx
  refine wpIn_loop (fun a w=> ∃ x,Fr E.n (Di x) (Li x) a∧St E.S E.w0 (Ci x) w) (fun a w=>leastOf fun k=> ∃ x,μ x=k∧Fr E.n (Di x) (Li x) a∧St E.S E.w0 (Ci x) w) (by obtain ⟨x,_,h⟩:=hx; exact ⟨x,h⟩) ?_
  intro a w hx
  have F: ∃ k,∃ x,μ x=k∧Fr E.n (Di x) (Li x) a∧St E.S E.w0 (Ci x) w:=by obtain ⟨x,h⟩:=hx; exact ⟨_,x,rfl,h⟩
  obtain ⟨x,K,AA,M⟩:=(leastOf_spec F).1
  refine round x _ ?_ a w AA M
  intro y D' L' C' hD G A B a' w' hf' hs'
  subst hD
  refine ⟨⟨y,hf'.sub A,B _ hs'⟩,?_⟩
  rw [← K]
  exact Nat.lt_of_le_of_lt ((leastOf_spec ⟨_,y,U,hf'.sub A,B _ hs'⟩).2 _ ⟨y,U,hf'.sub A,B _ hs'⟩) G
 obtain ⟨x,h⟩:=H
 exact key _ a w ⟨x,U,h⟩
theorem St.WE {S:BS} {w0 w:World} {C X:List aB} {A:aB} (h:St S w0 (A::bK X::C) w):St S w0 (bK (A::X)::C) w:=by
 have B:St S w0 (bK X::A::C) w:=h.perm (List.Perm.swap _ _ _)
 have D:St S w0 ((A::X)++C) w:=B.je.perm (List.perm_middle (a:=A) (l₁:=X) (l₂:=C))
 exact D.tied
theorem Lj {E:fG} {K:Act→World→Prop} {D:ik} {L:dC} {C C1 X:List aB} {A:aB} (i j:Nat) (hn:decide (j::i::(List.range C.length).filter fun k=>k != i&&k != j).Nodup=true) (hC:kv C (j::i::(List.range C.length).filter fun k=>k != i&&k != j)=A::bK X::C1)
 (h:KJ E K D L (bK (A::X)::C1)):KJ E K D L C:=fun a w hf hs=>h a w hf ((St.kv _ hn hC hs).WE)
theorem Ej {E:fG} {K:Act→World→Prop} {D:ik} {L:dC} {C:List aB} (h:KJ E K D L (bK []::C)):KJ E K D L C:=fun a w hf hs=>h a w hf hs.QH
theorem RR {E:fG} {K:Act→World→Prop} {D:ik} {L:dC} (C1 C2:List aB) (h:KJ E K D L (bK C1::C2)):KJ E K D L (C1++C2):=fun a w hf hs=>h a w hf (St.tied hs)
theorem Oq {E:fG} {fn:Func} {R:Ending→World→Prop} {D:ik} {L:dC} {C C1:List aB} {rs:List Nat} (i:Nat) (hn:decide (i::(List.range C.length).filter fun k=>k != i).Nodup=true) (hC:kv C (i::(List.range C.length).filter fun k=>k != i)=bK (rs.map mO)::C1)
 (h:LJ E fn R D L C1):LJ E fn R (rs.map ke++D) L C:=by
 have key: ∀ rs:List Nat,LJ E fn R (rs.map ke++D) L (bK (rs.map mO)::C1):=by
  intro rs
  induction rs with
  |nil=>exact fun a w hf hs=>h a w hf (hs.take (List.sublist_cons_self _ _))
  |cons r rs ih=>
   have A:LJ E fn R (ke r::(rs.map ke++D)) L (mO r::bK (rs.map mO)::C1):=sf 0 rfl rfl (fun a w hf hs=>ih a w hf (hs.take (List.sublist_cons_self _ _)))
   intro a w hf hs
   refine A a w hf ?_
   have B:St E.S E.w0 ((mO r::rs.map mO)++C1) w:=St.je (C1:=mO r::rs.map mO) hs
   have F:St E.S E.w0 (rs.map mO++(mO r::C1)) w:=B.perm (List.perm_middle (a:=mO r) (l₁:=rs.map mO) (l₂:=C1)).symm
   exact F.tied.perm (List.Perm.swap _ _ _)
 exact fun a w hf hs=>key rs a w hf (St.kv _ hn hC hs)
theorem Jm {E:fG} {fn:Func} {R:Ending→World→Prop} {L:dC} {C C1:List aB} {rs:List Nat} (i:Nat) (hn:decide (i::(List.range C.length).filter fun k=>k != i).Nodup=true) (hC:kv C (i::(List.range C.length).filter fun k=>k != i)=bK (rs.map mO)::C1)
 (h:LJ E fn R [] L C1):LJ E fn R (rs.map ke) L C:=by
 have:=Oq (D:=[]) i hn hC h
 rwa [List.append_nil] at this
end
section
open Go.RowKit
theorem pX (fs:List FM) (fb:List Nat):(bK (a_ nM fs fb)).wr=true:=by
 show (a_ nM fs fb).all (·.wr)=true
 rw [de]
 intro X hX
 obtain ⟨k,m,a,_,_,h⟩:=ky hX
 simp only [nM,ck] at h
 subst h; rfl
theorem rr (fs:List TM) (fb:List Nat):(bK (a_ qp fs fb)).wr=true:=by
 show (a_ qp fs fb).all (·.wr)=true
 rw [de]
 intro X hX
 obtain ⟨k,m,a,_,_,h⟩:=ky hX
 simp only [qp,ck] at h
 subst h; rfl
end
section
def dI (bl:List Nat) (n:Nat):List (Option Nat):=bl.map some++List.replicate (n-bl.length) none
def iP (bl:List Nat) (n:Nat):List (Option Nat):=List.replicate (n-bl.length) none++bl.map some
theorem ob {bl:List Nat} {n:Nat} (h:bl.length≤n):(dI bl n).length=n:=by simp [dI]; omega
theorem zS {bl:List Nat} {n:Nat} (h:bl.length≤n):(iP bl n).length=n:=by simp [iP]; omega
theorem wy {n:Nat}:List.replicate n none=dI [] n:=by simp [dI]
theorem Ib {n:Nat}:List.replicate n none=iP [] n:=by simp [iP]
theorem Al {bl:List Nat} {n:Nat} (h:bl.length=n):dI bl n=bl.map some:=by simp [dI,h]
theorem IZ {bl:List Nat} {n:Nat} (h:bl.length=n):iP bl n=bl.map some:=by simp [iP,h]
theorem ng {bl:List Nat} {n k g:Nat} (h:bl[k]? =some g):(dI bl n)[k]? =some (some g):=by
 have hk:=(aX.1 h).1
 unfold dI
 rw [List.getElem?_append_left (by simpa using hk),dL,h]; rfl
theorem uE {bl:List Nat} {n k i g:Nat} (h:bl[i]? =some g) (hk:k=n-bl.length+i):(iP bl n)[k]? =some (some g):=by
 subst hk
 unfold iP
 rw [List.getElem?_append_right sm,dL,List.length_replicate,Nat.add_sub_cancel_left,h]; rfl
theorem s9 {bl:List Nat} {n k g:Nat} (hk:k=bl.length) (h:bl.length<n):(dI bl n).set k (some g)=dI (bl++[g]) n:=by
 subst hk
 unfold dI
 rw [List.set_append_right _ _ sm]
 have e:n-bl.length=(n-(bl++[g]).length)+1:=by simp; omega
 rw [e,List.replicate_succ]
 simp
theorem Hj {bl:List Nat} {n k g:Nat} (hk:k+1+bl.length=n):(iP bl n).set k (some g)=iP (g::bl) n:=by
 unfold iP
 have e:n-bl.length=k+1:=by omega
 have A:n-(g::bl).length=k:=by simp; omega
 rw [e,A,List.set_append_left _ _ sm,List.replicate_succ',List.set_append_right _ _ sm]
 simp
theorem qW {l:List (Option Nat)} {k g:Nat} (h:l[k]? =some (some g)):(l.map oC)[k]? =some (oC (some g)):=by rw [dL,h]; rfl
theorem BF {α:Type} {l:List α} {x:α} {k:Nat} (h:k=l.length):(l++[x])[k]? =some x:=by subst h; simp
theorem Kk {α:Type} {l:List α} {x y:α} {k:Nat} (h:l[k]? =some y):(l++[x])[k]? =some y:=by rw [List.getElem?_append_left (aX.1 h).1]; exact h
structure qZ (w:bZ) (fs:List FM):Prop where
 all: ∀ (b:Nat) m,fs[b]? =some m→uw m (fwd w b)∧(m.map (·.1)).Nodup
structure iS (w:bZ) (k:Nat) (bs:List FM):Prop where
 all: ∀ (i:Nat) m,bs[i]? =some m→xe m (back w (k+i))∧(m.map (·.1)).Nodup
variable {w:bZ} {b:Nat} {mb m left:List (aK×Int)} {o:Int×ag} {os:List (Int×ag)} {p:aK×Int}
theorem qZ.first:qZ w [[(⟨0,0⟩,w.Start)]]:=⟨fun b m h=>by
 match b with
 |0=>simp at h; subst h; exact ⟨IS,sm⟩
 |n+1=>simp at h⟩
theorem qZ.add {fs:List FM} (h:qZ w fs) (hl:fs.length=b+1) (hmb:fs[b]? =some mb) (hm:yp w b m) (hd:kD w b mb m left) (h0:left=[]):qZ w (fs++[m]):=⟨fun i x hx=>by
 rcases Nat.lt_or_ge i fs.length with q|q
 ·rw [List.getElem?_append_left q] at hx; exact h.all i x hx
 ·rw [List.getElem?_append_right q] at hx
  have hi:i-fs.length=0:=by
   rcases Nat.eq_zero_or_pos (i-fs.length) with z|z
   ·exact z
   ·rw [List.getElem?_eq_none (by simp; omega)] at hx; cases hx
  rw [hi] at hx
  simp at hx; subst hx
  obtain rfl:i=b+1:=by omega
  have A:=h.all b mb hmb
  exact ⟨Lw A.2 A.1 hm.snd (hd.fin h0),hm.keys⟩⟩
theorem qZ.ok {fs:List FM} (h:qZ w fs) (hl:fs.length=w.n+1):xj w fs:=⟨hl,fun b m hm=>(h.all b m hm).1,fun b m hm=>(h.all b m hm).2⟩
theorem iS.none_:iS w b []:=⟨fun i m h=>by simp at h⟩
theorem iS.last (hb:w.n≤b):iS w b [[(⟨0,0⟩,w.fI)]]:=⟨fun i m h=>by
 match i with
 |0=>simp at h; subst h; exact ⟨Jc I,sm⟩
 |n+1=>simp at h⟩
theorem iS.add {bs:List FM} (h:iS w (b+1) bs) (hb:b<w.n) (hmb:bs[0]? =some mb) (hm:xy w b m) (hd:kb w b mb m left) (h0:left=[]):iS w b (m::bs):=⟨fun i x hx=>by
 match i with
 |0=>
  simp at hx; subst hx
  have A:=h.all 0 mb hmb
  exact ⟨KY hb A.2 A.1 hm.snd hm.zero (hd.fin h0),hm.keys⟩
 |n+1=>
  have:=h.all n x (by simpa using hx)
  rw [show b+1+n=b+(n+1) by omega] at this
  exact this⟩
theorem iS.ok {bs:List FM} (h:iS w 0 bs) (hl:bs.length=w.n+1):ua w bs:=⟨hl,fun b m hm=>by have:=(h.all b m hm).1; rwa [Nat.zero_add] at this,fun b m hm=>(h.all b m hm).2⟩
/-- on the way through one entry's options -/
structure ot (w:bZ) (b:Nat) (mb left m:List (aK×Int)) (p:aK×Int) (os:List (Int×ag)):Prop where
 on:yp w b m
 uY:kD w b mb m left
 done:jM w b m p os
structure oI (w:bZ) (b:Nat) (mb left m:List (aK×Int)) (p:aK×Int) (os:List (Int×ag)):Prop where
 on:xy w b m
 uY:kb w b mb m left
 done:jQ w b m p os
theorem ot.start (h:yp w b m) (h2:kD w b mb m left):ot w b mb left m p []:=⟨h,h2,fun o ho=>by cases ho⟩
theorem oI.start (h:xy w b m) (h2:kb w b mb m left):oI w b mb left m p []:=⟨h,h2,fun o ho=>by cases ho⟩
theorem HE {q:aK×Int} (h:(m.lookup q.1).isSome=false∨q.2<(m.lookup q.1).getD 0):qg m q=eA m q.1 q.2:=by
 unfold qg
 cases e:m.lookup q.1 with
 |none=>rfl
 |some v=>rw [e] at h; simp at h; simp only; rw [if_pos h]
theorem En {q:aK×Int} (h:(m.lookup q.1).isSome=true) (h2: ¬ q.2<(m.lookup q.1).getD 0):qg m q=m:=by
 unfold qg
 cases e:m.lookup q.1 with
 |none=>rw [e] at h; cases h
 |some v=>rw [e] at h2; simp only [Option.getD_some] at h2; simp only; rw [if_neg h2]
theorem II {q:aK×Int} (h:(m.lookup q.1).isSome=false∨(m.lookup q.1).getD 0<q.2):qf m q=eA m q.1 q.2:=by
 unfold qf
 cases e:m.lookup q.1 with
 |none=>rfl
 |some v=>rw [e] at h; simp at h; simp only; rw [if_pos h]
theorem E8 {q:aK×Int} (h:(m.lookup q.1).isSome=true) (h2: ¬ (m.lookup q.1).getD 0<q.2):qf m q=m:=by
 unfold qf
 cases e:m.lookup q.1 with
 |none=>rw [e] at h; cases h
 |some v=>rw [e] at h2; simp only [Option.getD_some] at h2; simp only; rw [if_neg h2]
theorem BA {t:aK} {v y:Int} (hy:w.qe[b]? =some y) (h:max (v+y) o.2.Lo≤min o.2.Hi w.fI):lK w b (t,v) o=some (dK t (fV o.1),max (v+y) o.2.Lo):=by
 have e:=oD hy
 subst e
 exact Lb h
theorem KN {t:aK} {v y:Int} (hy:w.qe[b]? =some y) (h: ¬ max (v+y) o.2.Lo≤min o.2.Hi w.fI):lK w b (t,v) o=none:=by
 have e:=oD hy
 subst e
 exact NB h
theorem Bs {t:aK} {v y:Int} (hy:w.qe[b]? =some y) (h:o.2.Lo≤min v o.2.Hi):oU w b (t,v) o=some (dK t (fV o.1),min v o.2.Hi-y):=by
 have e:=oD hy
 subst e
 exact KV h
theorem ot.set {q:aK×Int} (h:ot w b mb left m p os) (hp:p∈fwd w b) (ho:o∈jl w b) (he:lK w b p o=some q) (hs:(m.lookup q.1).isSome=false∨q.2<(m.lookup q.1).getD 0):ot w b mb left (eA m q.1 q.2) p (os++[o]):=by
 rw [← HE hs]
 exact ⟨h.on.add hp ho he,h.uY.lower wV,h.done.JR he⟩
theorem ot.pD {q:aK×Int} (h:ot w b mb left m p os) (he:lK w b p o=some q) (hs:(m.lookup q.1).isSome=true) (h2: ¬ q.2<(m.lookup q.1).getD 0):ot w b mb left m p (os++[o]):=by
 have:=h.done.JR he
 rw [En hs h2] at this
 exact ⟨h.on,h.uY,this⟩
theorem ot.skip (h:ot w b mb left m p os) (he:lK w b p o=none):ot w b mb left m p (os++[o]):=⟨h.on,h.uY,h.done.none_ he⟩
theorem oI.set {q:aK×Int} (hb:b<w.n) (h:oI w b mb left m p os) (hp:p∈back w (b+1)) (ho:o∈jl w b) (he:oU w b p o=some q) (hs:(m.lookup q.1).isSome=false∨(m.lookup q.1).getD 0<q.2):oI w b mb left (eA m q.1 q.2) p (os++[o]):=by
 rw [← II hs]
 exact ⟨h.on.add hb hp ho he,h.uY.upper rH,h.done.JR he⟩
theorem oI.pD {q:aK×Int} (h:oI w b mb left m p os) (he:oU w b p o=some q) (hs:(m.lookup q.1).isSome=true) (h2: ¬ (m.lookup q.1).getD 0<q.2):oI w b mb left m p (os++[o]):=by
 have:=h.done.JR he
 rw [E8 hs h2] at this
 exact ⟨h.on,h.uY,this⟩
theorem oI.skip (h:oI w b mb left m p os) (he:oU w b p o=none):oI w b mb left m p (os++[o]):=⟨h.on,h.uY,h.done.none_ he⟩
theorem ot.next {t:aK} {v:Int} (hn:(left.map (·.1)).Nodup) (hm:(t,v)∈left) (h:ot w b mb left m (t,v) os) (ho: ∀ o∈jl w b,o∈os):kD w b mb m (fH left t):=h.uY.next hn hm h.done ho
theorem oI.next {t:aK} {v:Int} (hn:(left.map (·.1)).Nodup) (hm:(t,v)∈left) (h:oI w b mb left m (t,v) os) (ho: ∀ o∈jl w b,o∈os):kb w b mb m (fH left t):=h.uY.next hn hm h.done ho
theorem qZ.mem {fs:List FM} (h:qZ w fs) (hm:fs[b]? =some mb) (hp:p∈mb):p∈fwd w b:=(h.all b mb hm).1.1 _ _ ((gj (h.all b mb hm).2).1 hp)
theorem iS.W7 {bs:List FM} {k:Nat} (h:iS w k bs) (hk:k=b+1) (hm:bs[0]? =some mb) (hp:p∈mb):p∈back w (b+1):=by
 subst hk
 exact (h.all 0 mb hm).1.1 _ _ ((gj (h.all 0 mb hm).2).1 hp)
theorem iS.end_ {bs:List FM} {k j:Nat} (h:iS w k bs) (hj:bs.length=0) (hk:j=b) (hb:w.n≤b):iS w j ([(⟨0,0⟩,w.fI)]::bs):=by
 subst hk
 rw [iD hj]
 exact iS.last hb
theorem iS.more {bs:List FM} {k j:Nat} (h:iS w k bs) (hk:k=b+1) (hj:j=b) (hb:b<w.n) (hmb:bs[0]? =some mb) (hm:xy w b m) (hd:kb w b mb m left) (h0:left=[]):iS w j (m::bs):=by
 subst hk hj
 exact h.add hb hmb hm hd h0
end
section
open Go.RowKit
theorem jO {a:OA} {c e sz n:Nat} {es:List (List Value)} (h:es.length=n):JU (own a c e sz es) (rd a n sz es):=by subst h; exact Oy
theorem rW {L:List aB}:JU (bK L) (dV L):=⟨fun w h=>h.1,fun b h=>h⟩
theorem FX {b:Nat} {fb:List Nat} {g:Nat} (h:fb.length=b):a_ qp (List.replicate b ([]:TM)) fb++[kQ iV g (cT kl [])]=a_ qp (List.replicate (b+1) ([]:TM)) (fb++[g]):=by
 rw [List.replicate_succ']
 exact z9 (by rw [List.length_replicate]; exact h.symm) U
theorem Uq {α:Type} {ms:List α} {fb:List Nat} {n:Nat} (h:fb.length=n) (h2:ms.length=n):List.map oC (dI fb n)=List.zipWith gR ms fb:=by
 rw [Al h]; exact (Bm I).symm
theorem kX {l:bg} {r:cr} {i:Nat} {x:aH} (hx:r.aa[i]? =some x) (h: ¬ iz l r.aa i x): ¬ dW l r:=fun q=>h (q.sig i x hx)
theorem AZ {E:fG} {c:Code} {Q:dk} {D:ik} {L:dC} {C C':List aB} (e:C=C') (h:WJ E c Q D L C'):WJ E c Q D L C:=by subst e; exact h
end
section
open Go.RowKit
theorem Pm (r:cr) (sgA:OA) (sgC:Nat) (hsl:r.aa.length≤1000000):
 qB Tryz.prog 59 [(vA (cM.cells (jI r sgA sgC)))] [(rd sgA r.aa.length 2 (r.aa.map aH.cells))] (fun (x:(OA)×Nat)=>(vA (cM.cells (cM.mk r.Start r.fI (bE.mk x.1 r.aa.length x.2))))) (fun (x:(OA)×Nat)=>True) (fun (x:(OA)×Nat)=>[(own x.1 x.2 78 2 (r.aa.map aH.cells))]):=by
 refine fO kr Tryz.func59 U U fun AA Q hQ hN=>?_
 try dsimp only
 refine WS fun _ A=>eT U fun G=>AL U UL fun H=>RK A<|WS fun _ B=>qT U xI U fun F=>rP 2 [] (mc 2 U mn) ?_
 refine fU (es:=(List.map aH.cells [])) (C':=[own (some ⟨F,0,none⟩) 0 78 2 (List.map aH.cells []),_,_,_]) 0 U sm U (by simp [maxLen]) U ?_
 refine dR (es2:=(List.map aH.cells r.aa)) (m':=r.aa.length) 0 U U U WO U U sm (aF 3 U) (uy _) os (by first|(simp only [maxLen]; omega)|(simp [maxLen]; omega)) sm sm U fun D E=>?_
 try dsimp only
 refine bG 1 U<|W3 (cM.cells (jI r D E)) U Wc U U<|RK B<|WS fun _ C=>rP 1 [] (mc 2 U mn) ?_
 refine rV U Qj U<|RK C<|av<|LX hQ (D,E) [0] [0] (mc 1 U mn) U U U U ?_
 trivial
end
section
open Go.RowKit
theorem Ef (r:dY) (kA:OA) (kC:Nat) (az:List RA) (cA:OA) (cC:Nat) (bA:OA) (bC:Nat) (slA:OA) (slC:Nat) (drA:OA) (drC:Nat) (ha:List cN) (heA:OA) (heC:Nat) (hin:lO r az ha) (hng: ¬ mI r):
 qB Tryz.prog 37 [(vA (fu.cells (zH r kA kC cA cC bA bC slA slC drA drC heA heC)))] [(rd kA r.ak.aR.length 9 (r.ak.aR.map ar.cells)),(rd cA r.ak.aj.length 2 (List.zipWith ax.cells r.ak.aj az)),(dV (a_ ax.gG r.ak.aj az)),(rd bA r.ak.ab.length 4 (r.ak.ab.map bJ.cells)),(rd slA r.aY.length 1 (r.aY.map iC)),(rd drA r.b_.length 1 (r.b_.map iC)),(rd heA r.aA.length 1 (List.zipWith cq r.aA ha)),(dV (a_ eV r.aA ha))] (fun (x:(OA)×Nat×(OA)×Nat×(List RA)×(OA)×Nat×(OA)×Nat×(OA)×Nat×(OA)×Nat×(List cN))=>(vA (fu.cells (fu.mk (cw.mk (bO.mk (bE.mk x.1 r.ak.aR.length x.2.1)) r.ak.iN (bE.mk x.2.2.1 r.ak.aj.length x.2.2.2.1) (bE.mk x.2.2.2.2.2.1 r.ak.ab.length x.2.2.2.2.2.2.1) r.ak.bM r.ak.fT r.ak.dE) (bE.mk x.2.2.2.2.2.2.2.1 r.aY.length x.2.2.2.2.2.2.2.2.1) (bE.mk x.2.2.2.2.2.2.2.2.2.1 r.b_.length x.2.2.2.2.2.2.2.2.2.2.1) r.lG (bE.mk x.2.2.2.2.2.2.2.2.2.2.2.1 r.aA.length x.2.2.2.2.2.2.2.2.2.2.2.2.1))))) (fun (x:(OA)×Nat×(OA)×Nat×(List RA)×(OA)×Nat×(OA)×Nat×(OA)×Nat×(OA)×Nat×(List cN))=>(x.2.2.2.2.1.length=r.ak.aj.length∧vc r.ak.aj x.2.2.2.2.1)∧v7 r.aA x.2.2.2.2.2.2.2.2.2.2.2.2.2) (fun (x:(OA)×Nat×(OA)×Nat×(List RA)×(OA)×Nat×(OA)×Nat×(OA)×Nat×(OA)×Nat×(List cN))=>[(own x.1 x.2.1 118 9 (r.ak.aR.map ar.cells)),(own x.2.2.1 x.2.2.2.1 73 2 (List.zipWith ax.cells r.ak.aj x.2.2.2.2.1)),(bK (a_ ax.owns r.ak.aj x.2.2.2.2.1)),(own x.2.2.2.2.2.1 x.2.2.2.2.2.2.1 122 4 (r.ak.ab.map bJ.cells)),(own x.2.2.2.2.2.2.2.1 x.2.2.2.2.2.2.2.2.1 3 1 (r.aY.map iC)),(own x.2.2.2.2.2.2.2.2.2.1 x.2.2.2.2.2.2.2.2.2.2.1 3 1 (r.b_.map iC)),(own x.2.2.2.2.2.2.2.2.2.2.2.1 x.2.2.2.2.2.2.2.2.2.2.2.2.1 51 1 (List.zipWith cq r.aA x.2.2.2.2.2.2.2.2.2.2.2.2.2)),(bK (a_ jT r.aA x.2.2.2.2.2.2.2.2.2.2.2.2.2))]):=by
 have p:=hin.line
 have ID:=hin.iJ
 have G:=hin.has
 have Gq:=hin.iK
 have GE:=hin.draw
 have Hi:=kJ (r:=r)
 have Ci:=GP hng
 refine fO kr Tryz.func37 U U fun w0 Q hQ hN=>?_
 try dsimp only
 refine WS fun _ Di=>eT U fun b2=>AL U VA fun b3=>RK Di<|WS fun _ Do=>rP 1 [] mn ?_
 refine rS (LP (cw.cells (kj r.ak kA kC cA cC bA bC)) 1 U cf U U U)<|cX (O9 r.ak kA kC az cA cC bA bC (by exact p) (by exact Ci.1)) (bq [2,3,4,5]) U fun y5 Fd=>?_
 obtain ⟨T,V,AA,L,s,K,N⟩:=y5
 try dsimp only
 obtain ⟨EQ,Eq⟩:=Fd
 refine bG 1 U<|XZ (fu.cells (fu.mk (cw.mk (bO.mk (bE.mk T r.ak.aR.length V)) r.ak.iN (bE.mk AA r.ak.aj.length L) (bE.mk K r.ak.ab.length N) r.ak.bM r.ak.fT r.ak.dE) (bE.mk slA r.aY.length slC) (bE.mk drA r.b_.length drC) r.lG (bE.mk heA r.aA.length heC))) U QX U U<|RK Do<|WS fun _ v=>qT U dJ U fun Cp=>rP 2 [] (mc 6 U mn) ?_
 refine fU (es:=(List.map iC [])) (C':=[own (some ⟨Cp,0,none⟩) 0 3 1 (List.map iC []),_,_,_,_,_,_,_,_,_,_,_,_,_,_]) 0 U sm U (by simp [maxLen]) U ?_
 refine dR (es2:=(List.map iC r.aY)) (m':=r.aY.length) 0 U U U ti U U sm (aF 11 U) (lM _) (by simp; omega) (by simp only [maxLen]; simp; omega) sm sm U fun X Y=>?_
 try dsimp only
 refine bG 1 U<|XO (fu.cells (fu.mk (cw.mk (bO.mk (bE.mk T r.ak.aR.length V)) r.ak.iN (bE.mk AA r.ak.aj.length L) (bE.mk K r.ak.ab.length N) r.ak.bM r.ak.fT r.ak.dE) (bE.mk X r.aY.length Y) (bE.mk drA r.b_.length drC) r.lG (bE.mk heA r.aA.length heC))) U IF U U<|RK v<|WS fun _ w=>qT U dJ U fun Cx=>rP 2 [] (mc 7 U mn) ?_
 refine fU (es:=(List.map iC [])) (C':=[own (some ⟨Cx,0,none⟩) 0 3 1 (List.map iC []),_,_,_,_,_,_,_,_,_,_,_,_,_,_,_]) 0 U sm U (by simp [maxLen]) U ?_
 refine dR (es2:=(List.map iC r.b_)) (m':=r.b_.length) 0 U U U ti U U sm (aF 13 U) (lM _) (by simp; omega) (by simp only [maxLen]; simp; omega) sm sm U fun g j=>?_
 try dsimp only
 refine bG 1 U<|XJ (fu.cells (fu.mk (cw.mk (bO.mk (bE.mk T r.ak.aR.length V)) r.ak.iN (bE.mk AA r.ak.aj.length L) (bE.mk K r.ak.ab.length N) r.ak.bM r.ak.fT r.ak.dE) (bE.mk X r.aY.length Y) (bE.mk g r.b_.length j) r.lG (bE.mk heA r.aA.length heC))) U IF U U<|RK w<|WS fun _ AC=>qT U oQ U fun C0=>rP 2 [] (mc 8 U mn) ?_
 refine fU (es:=(List.map sC [])) (C':=[own (some ⟨C0,0,none⟩) 0 51 1 (List.map sC []),_,_,_,_,_,_,_,_,_,_,_,_,_,_,_,_]) 0 U sm U (by simp [maxLen]) U ?_
 refine dR (es2:=(List.zipWith cq r.aA ha)) (m':=r.aA.length) 0 U U U WM U U sm (aF 15 U) (H5 _ _) (by simp; omega) (by simp only [maxLen]; simp; omega) sm (fB G) U fun J M=>?_
 try dsimp only
 refine bG 1 U<|X0 (fu.cells (fu.mk (cw.mk (bO.mk (bE.mk T r.ak.aR.length V)) r.ak.iN (bE.mk AA r.ak.aj.length L) (bE.mk K r.ak.ab.length N) r.ak.bM r.ak.fT r.ak.dE) (bE.mk X r.aY.length Y) (bE.mk g r.b_.length j) r.lG (bE.mk J r.aA.length M))) U We U U<|RK AC<|aq fun _ AD=>WS fun _ AO=>rP 1 [] mn ?_
 refine RK AO<|aG<|oM ?_
 have F:(0≤r.aA.length)∧(([]:List cN).length=0)∧(∀ (k:Nat) y (a:cN),r.aA[k]? =some y→([]:List cN)[k]? =some a→a.2.length=y.length):=by exact ⟨Nat.zero_le _,rfl,fun k y a _ q=>by simp at q⟩
 refine bS (ι:={z:Nat×(List cN) // (z.1≤r.aA.length)∧(z.2.length=z.1)∧(∀ (k:Nat) y (a:cN),r.aA[k]? =some y→z.2[k]? =some a→a.2.length=y.length)}) [1,2] [2,3,4,5,6,7,8,9,10,11,12,13,14,15,16,17] U U (fun z=>[(3,(vI (z.1.1:Int)))]) (fun z=>[(bK (a_ jT (r.aA.take z.1.1) z.1.2)),(own J M 51 1 (List.zipWith cq r.aA (mW z.1.2 ha z.1.1)))]) (fun _=>rfl) (fun _=>rfl) (fun z=>r.aA.length-z.1.1) ⟨(0,([]:List cN)),F⟩ (bw U) (aS [2,3,4,5,6,7,8,9,10,11,12,13,14,15,16,17,0,1]) ?_
 clear F
 rintro ⟨⟨h,hz⟩,⟨m,B,S⟩⟩ J28 t
 try dsimp only at m B S
 try dsimp only
 refine aq fun _ AR=>WS fun _ AY=>rP 5 [] (mc 7 U mn) ?_
 refine RK AY<|bV U (aW fun C2=>?_) (aV fun C2=>?_)
 ·refine bL<|ai<|ai<|aI<|KK AD<|aq fun _ A5=>?_
  have E1:v7 r.aA hz:=⟨I,S⟩
  rw [show (mW hz ha h)=hz from CP I,show r.aA.take h=r.aA from List.take_of_length_le I]
  refine ay<|rP 1 [] (mc 7 U mn) ?_
  refine UI U SO U<|RK A5<|av ?_
  refine LX hQ (T,V,AA,L,s,K,N,X,Y,g,j,J,M,hz) [2,3,4,5,1,0,17,16] [0] (mc 6 U mn) U (by show List.all _ _=true; simp only [fE,List.all_nil,nU,zq,Bool.and_true]; rfl) U U ?_
  exact ⟨⟨EQ,Eq⟩,E1⟩
 refine WK AR<|aq fun _ Ae=>aG<|aq fun _ A0=>dT cy [3,9,11] [6,7,8] [0,1] [0,1,2,3,4,5,6,7,8,9,10,11,12,13,14,15,16] [0,1,2,3,4,5,6,7,8,9,10,11,12,13,14,15,16,17] U U U U U<|eS U (FA 10 U eP U)<|eS U (L1 (vS J r.aA.length M) 7 U cf U U)<|eS U (MV U)<|eS U (FA 10 U eP U)<|eS U (L1 (vS J r.aA.length M) 7 U cf U U)<|eS U (MV U) ?_
 obtain ⟨ht,AB⟩:=aM r.aA h I
 obtain ⟨C,O⟩:=aM ha h I
 have e:(List.zipWith cq r.aA (mW hz ha h))[h]? =some (cq ht C):=dH AB (F0 B O)
 have Ck:=hin.gM _ _ _ AB O
 have H:=Ck.n_
 have Cl:=Ci.2.2.2.2 ht (aQ AB)
 refine fS U (IA h U (au (n:=r.aA.length) 17 U (fB (by rw [jz B I]; exact G))) oQ dc I I) ?_
 refine fS U (hP h 0 (vS C.1.1 ht.length C.1.2) U cf (au (n:=r.aA.length) 17 U (fB (by rw [jz B I]; exact G))) e U dc U) ?_
 refine fS U (IA h U (au (n:=r.aA.length) 17 U (fB (by rw [jz B I]; exact G))) oQ dc I I) ?_
 refine eN U<|jZ U fun T34 A6=>qT U r8 U fun C1=>aJ (A6 _ _ (aS [1,2,3,4,5,6,7,8,9,10,11,12,13,14,15,16,17]) (aS [1,2,3,4,5,6,7,8,9,10,11,12,13,14,15,16,17,18]) ?_)
 refine jZ U fun T36 A7=>fU (es:=(List.map aP.cells [])) (C':=[own (some ⟨C1,0,none⟩) 0 58 7 (List.map aP.cells []),_,_,_,_,_,_,_,_,_,_,_,_,_,_,_,_,_,_]) 0 U sm U (by simp [maxLen]) U ?_
 refine dR (es2:=(List.zipWith ao.cells ht C.2)) (m':=ht.length) 0 U U U Xs U U sm (show jC _ (rd C.1.1 ht.length 7 (List.zipWith ao.cells ht C.2)).holds from (cW 16 U (bT AB O cD))) (N2 _ _) (by simp; omega) (by simp only [maxLen]; simp; omega) sm (oH H) U fun D E=>?_
 try dsimp only
 refine aJ (A7 _ _ (aS [1,2,3,4,5,6,7,8,9,10,11,12,13,14,15,16,17]) (aS [1,2,3,4,5,6,7,8,9,10,11,12,13,14,15,16,17,18]) ?_)
 refine cm U fun T39 A8=>eE (k:=h) (o:=0) (vs:=[(vS D ht.length E)]) (es':=(List.zipWith cq r.aA (mW (hz++[((D,E),C.2)]) ha (h+1)))) (C':=[_,_,_,_,_,_,_,_,_,_,_,_,_,_,_,_,_,_,(own J M 51 1 (List.zipWith cq r.aA (mW (hz++[((D,E),C.2)]) ha (h+1))))]) 18 U U U Vu U U U U e U dc (by exact De (b:=((D,E),C.2)) AB B O) U<|aJ (A8 _ _ (aS [1,2,3,4,5,6,7,8,9,10,11,12,13,14,15,16,17]) ?_)
 refine f_ U<|KK A0<|WS fun _ A1=>rP 1 [] mn ?_
 refine RK A1<|aG<|oM ?_
 have F:(0≤ht.length)∧(([]:List RA).length=0):=by exact ⟨Nat.zero_le _,rfl⟩
 refine bS (ι:={z:Nat×(List RA) // (z.1≤ht.length)∧(z.2.length=z.1)}) [1,2,3] [2,3,4,5,6,7,8,9,10,11,12,13,14,15,16,17,18,19] U U (fun z=>[(4,(vI (z.1.1:Int)))]) (fun z=>[(bK (a_ ru (ht.take z.1.1) z.1.2)),(own D E 58 7 (List.zipWith ao.cells ht (mW z.1.2 C.2 z.1.1)))]) (fun _=>rfl) (fun _=>rfl) (fun z=>ht.length-z.1.1) ⟨(0,([]:List RA)),F⟩ (bw U) (aS [2,3,4,5,6,7,8,9,10,11,12,13,14,15,16,17,18,19,0,1]) ?_
 clear F
 rintro ⟨⟨i,dz⟩,⟨Z,A⟩⟩ J41 u
 try dsimp only at Z A
 try dsimp only
 refine aq fun _ A2=>WS fun _ A3=>rP 4 [] (mc 7 U mn) ?_
 have W:(List.zipWith cq r.aA (mW (hz++[((D,E),C.2)]) ha (h+1)))[h]? =some (cq ht ((D,E),C.2)):=dH AB (Mb B)
 refine rS (IA h U (au (n:=r.aA.length) 17 U (fB (by rw [jz (by simp; omega) I]; exact G))) oQ dc I I) ?_
 refine rS (hP h 0 (vS D ht.length E) U cf (au (n:=r.aA.length) 17 U (fB (by rw [jz (by simp; omega) I]; exact G))) W U dc U) ?_
 refine rP 2 [] mn ?_
 refine RK A3<|bV U (aW fun C3=>?_) (aV fun C3=>?_)
 ·refine bL<|ai<|ai<|aI<|aO<|KK Ae<|ay<|rP 3 [] mn ?_
  refine aJ ?_
  have GT:dz.length=ht.length:=by omega
  rw [show (mW dz C.2 i)=dz from CP I,show ht.take i=ht from List.take_of_length_le I]
  refine Rj (Z':=a_ jT (r.aA.take (h+1)) (hz++[((D,E),dz)])) 16 18 19 U U (yj (f:=jT) (b:=((D,E),dz)) AB B) ?_
  rw [MP (y:=dz)]
  have B3:(vI (((h+1):Nat):Int))=(vI ((h:Int)+1)):=by exact cI I
  refine bj (t ⟨((h+1),(hz++[((D,E),dz)])),⟨I,by simp; omega,NX AB S B dso⟩⟩ _ _ _ U os (dx.cons U<|dx.cons U<|bk U B3<|dx.nil _) (aS [1,2,3,4,5,6,7,8,9,10,11,12,13,14,15,16,0,17]))
 refine WK A2<|aq fun _ A4=>aG<|dT cy [15,18] [12,13,14,15,16] [0] [0,1,2,3,4,5,6,7,8,9,10,11,12,13,14,15,16,17,18] [0,1,2,3,4,5,6,7,8,9,10,11,12,13,14,15,16,17,18,19] U U U U U<|eS U (FA 10 U eP U)<|eS U (L1 (vS J r.aA.length M) 7 U cf U U)<|eS U (MV U) ?_
 refine eS U (IA h U (au (n:=r.aA.length) 17 U (fB (by rw [jz (by simp; omega) I]; exact G))) oQ dc I I) ?_
 refine eS U (hP h 0 (vS D ht.length E) U cf (au (n:=r.aA.length) 17 U (fB (by rw [jz (by simp; omega) I]; exact G))) W U dc U) ?_
 refine eS U (MV U)<|eS U (FA 10 U eP U)<|eS U (L1 (vS J r.aA.length M) 7 U cf U U)<|eS U (MV U) ?_
 refine eS U (IA h U (au (n:=r.aA.length) 17 U (fB (by rw [jz (by simp; omega) I]; exact G))) oQ dc I I) ?_
 refine eS U (hP h 0 (vS D ht.length E) U cf (au (n:=r.aA.length) 17 U (fB (by rw [jz (by simp; omega) I]; exact G))) W U dc U) ?_
 refine eS U (MV U) ?_
 obtain ⟨d,hd⟩:=aM ht i I
 obtain ⟨da,l⟩:=aM C.2 i I
 have B9:(List.zipWith ao.cells ht (mW dz C.2 i))[i]? =some (ao.cells d da):=dH hd (F0 A l)
 have FS:=Ck.sig d (aQ hd)
 have Go:=Cl.2 d (aQ hd)
 refine fS U (IA i U (au (n:=ht.length) 19 U (oH (by rw [jz A I]; exact H))) r8 dc I I) ?_
 refine fS U (nv ((i*7)+4) U (au (n:=ht.length) 19 U (oH (by rw [jz A I]; exact H))) (Nat.mul_pos I dc) eP U) ?_
 refine fS U (mq i 4 (cM.cells (cM.mk d.aZ.Start d.aZ.fI (bE.mk da.1 d.aZ.aa.length da.2))) U cf (au (n:=ht.length) 19 U (oH (by rw [jz A I]; exact H))) B9 U dc U U) ?_
 refine fS U (IA i U (au (n:=ht.length) 19 U (oH (by rw [jz A I]; exact H))) r8 dc I I) ?_
 refine fS U (nv ((i*7)+4) U (au (n:=ht.length) 19 U (oH (by rw [jz A I]; exact H))) (Nat.mul_pos I dc) eP U) ?_
 refine eN U<|jZ U fun T46 A9=>cX (Pm d.aZ da.1 da.2 (by exact FS)) (aD (show jC _ (rd da.1 d.aZ.aa.length 2 (d.aZ.aa.map aH.cells)).holds from (cW 15 U (bT AB O (dU _ (bT hd l (by simp [ao.gG]))))))<|aN) U fun Fn H1=>?_
 obtain ⟨P,R⟩:=Fn
 try dsimp only
 refine aJ (A9 _ _ (aS [1,2,3,4,5,6,7,8,9,10,11,12,13,14,15,16,17,18,19]) (aS [1,2,3,4,5,6,7,8,9,10,11,12,13,14,15,16,17,18,19,20]) ?_)
 refine cm U fun T51 BE=>eE (k:=i) (o:=4) (vs:=(cM.cells (jI d.aZ P R))) (es':=(List.zipWith ao.cells ht (mW (dz++[(P,R)]) C.2 (i+1)))) (C':=[_,_,_,_,_,_,_,_,_,_,_,_,_,_,_,_,_,_,_,_,(own D E 58 7 (List.zipWith ao.cells ht (mW (dz++[(P,R)]) C.2 (i+1))))]) 20 U U U Qj U U U U B9 U dc (by exact De (c:=ao.cells) (b:=(P,R)) hd A l) U<|aJ (BE _ _ (aS [1,2,3,4,5,6,7,8,9,10,11,12,13,14,15,16,17,18,19]) ?_)
 refine f_ U<|aO<|KK A4<|ay<|rP 3 [] mn ?_
 refine aJ<|Rw (Y':=a_ ru (ht.take (i+1)) (dz++[(P,R)])) 19 0 U U (yj (f:=ru) (b:=(P,R)) hd A) ?_
 have Bc:(vI (((i+1):Nat):Int))=(vI ((i:Int)+1)):=by exact cI I
 refine bj (u ⟨((i+1),(dz++[(P,R)])),⟨I,by simp; omega⟩⟩ _ _ _ U os (cQ 3<|bk U Bc<|dx.nil _) (aS [1,2,3,4,5,6,7,8,9,10,11,12,13,14,15,16,17,18,0,19]))
end
section
open Go.RowKit
theorem Pq (j:cR) (kA:OA) (kC:Nat) (az:List RA) (cA:OA) (cC:Nat) (bA:OA) (bC:Nat) (slA:OA) (slC:Nat) (drA:OA) (drC:Nat) (ha:List cN) (heA:OA) (heC:Nat) (faA:OA) (faC:Nat) (prA:OA) (prC:Nat) (hin:gY j az ha) (hng: ¬ pI j):
 qB Tryz.prog 18 [(vA (eD.cells (nN j kA kC cA cC bA bC slA slC drA drC heA heC faA faC prA prC)))] [(rd kA j.Race.ak.aR.length 9 (j.Race.ak.aR.map ar.cells)),(rd cA j.Race.ak.aj.length 2 (List.zipWith ax.cells j.Race.ak.aj az)),(dV (a_ ax.gG j.Race.ak.aj az)),(rd bA j.Race.ak.ab.length 4 (j.Race.ak.ab.map bJ.cells)),(rd slA j.Race.aY.length 1 (j.Race.aY.map iC)),(rd drA j.Race.b_.length 1 (j.Race.b_.map iC)),(rd heA j.Race.aA.length 1 (List.zipWith cq j.Race.aA ha)),(dV (a_ eV j.Race.aA ha)),(rd faA j.aC.length 4 (j.aC.map aL.cells)),(rd prA j.aw.length 5 (j.aw.map aT.cells))] (fun (x:(OA)×Nat×(OA)×Nat×(List RA)×(OA)×Nat×(OA)×Nat×(OA)×Nat×(OA)×Nat×(List cN)×(OA)×Nat×(OA)×Nat)=>(vA (eD.cells (eD.mk (fu.mk (cw.mk (bO.mk (bE.mk x.1 j.Race.ak.aR.length x.2.1)) j.Race.ak.iN (bE.mk x.2.2.1 j.Race.ak.aj.length x.2.2.2.1) (bE.mk x.2.2.2.2.2.1 j.Race.ak.ab.length x.2.2.2.2.2.2.1) j.Race.ak.bM j.Race.ak.fT j.Race.ak.dE) (bE.mk x.2.2.2.2.2.2.2.1 j.Race.aY.length x.2.2.2.2.2.2.2.2.1) (bE.mk x.2.2.2.2.2.2.2.2.2.1 j.Race.b_.length x.2.2.2.2.2.2.2.2.2.2.1) j.Race.lG (bE.mk x.2.2.2.2.2.2.2.2.2.2.2.1 j.Race.aA.length x.2.2.2.2.2.2.2.2.2.2.2.2.1)) (bE.mk x.2.2.2.2.2.2.2.2.2.2.2.2.2.2.1 j.aC.length x.2.2.2.2.2.2.2.2.2.2.2.2.2.2.2.1) (bE.mk x.2.2.2.2.2.2.2.2.2.2.2.2.2.2.2.2.1 j.aw.length x.2.2.2.2.2.2.2.2.2.2.2.2.2.2.2.2.2) j.eh j.xA)))) (fun (x:(OA)×Nat×(OA)×Nat×(List RA)×(OA)×Nat×(OA)×Nat×(OA)×Nat×(OA)×Nat×(List cN)×(OA)×Nat×(OA)×Nat)=>(x.2.2.2.2.1.length=j.Race.ak.aj.length∧vc j.Race.ak.aj x.2.2.2.2.1)∧v7 j.Race.aA x.2.2.2.2.2.2.2.2.2.2.2.2.2.1) (fun (x:(OA)×Nat×(OA)×Nat×(List RA)×(OA)×Nat×(OA)×Nat×(OA)×Nat×(OA)×Nat×(List cN)×(OA)×Nat×(OA)×Nat)=>[(own x.1 x.2.1 118 9 (j.Race.ak.aR.map ar.cells)),(own x.2.2.1 x.2.2.2.1 73 2 (List.zipWith ax.cells j.Race.ak.aj x.2.2.2.2.1)),(bK (a_ ax.owns j.Race.ak.aj x.2.2.2.2.1)),(own x.2.2.2.2.2.1 x.2.2.2.2.2.2.1 122 4 (j.Race.ak.ab.map bJ.cells)),(own x.2.2.2.2.2.2.2.1 x.2.2.2.2.2.2.2.2.1 3 1 (j.Race.aY.map iC)),(own x.2.2.2.2.2.2.2.2.2.1 x.2.2.2.2.2.2.2.2.2.2.1 3 1 (j.Race.b_.map iC)),(own x.2.2.2.2.2.2.2.2.2.2.2.1 x.2.2.2.2.2.2.2.2.2.2.2.2.1 51 1 (List.zipWith cq j.Race.aA x.2.2.2.2.2.2.2.2.2.2.2.2.2.1)),(bK (a_ jT j.Race.aA x.2.2.2.2.2.2.2.2.2.2.2.2.2.1)),(own x.2.2.2.2.2.2.2.2.2.2.2.2.2.2.1 x.2.2.2.2.2.2.2.2.2.2.2.2.2.2.2.1 80 4 (j.aC.map aL.cells)),(own x.2.2.2.2.2.2.2.2.2.2.2.2.2.2.2.2.1 x.2.2.2.2.2.2.2.2.2.2.2.2.2.2.2.2.2 47 5 (j.aw.map aT.cells))]):=by
 have V:=hin.race
 have f:=hin.race.line
 have l:=hin.race.iJ
 have m:=hin.race.has
 have k:=hin.race.iK
 have h:=hin.nf
 have i:=hin.np
 have d:=Gb hng
 refine fO kr Tryz.func18 U U fun q Q hQ hN=>?_
 try dsimp only
 refine WS fun _ Z=>eT U fun o=>AL U Sj fun p=>RK Z<|WS fun _ a=>rP 1 [] mn ?_
 refine rS (LP (fu.cells (zH j.Race kA kC cA cC bA bC slA slC drA drC heA heC)) 1 U cf U U U)<|cX (Ef j.Race kA kC az cA cC bA bC slA slC drA drC ha heA heC (by exact V) (by exact d.1)) (bq [2,3,4,5,6,7,8,9]) U fun n g=>?_
 obtain ⟨J,L,K,E,P,A,F,B,G,C,H,D,AB,W⟩:=n
 try dsimp only
 obtain ⟨⟨b,c⟩,e⟩:=g
 refine bG 1 U<|XX (eD.cells (eD.mk (fu.mk (cw.mk (bO.mk (bE.mk J j.Race.ak.aR.length L)) j.Race.ak.iN (bE.mk K j.Race.ak.aj.length E) (bE.mk A j.Race.ak.ab.length F) j.Race.ak.bM j.Race.ak.fT j.Race.ak.dE) (bE.mk B j.Race.aY.length G) (bE.mk C j.Race.b_.length H) j.Race.lG (bE.mk D j.Race.aA.length AB)) (bE.mk faA j.aC.length faC) (bE.mk prA j.aw.length prC) j.eh j.xA)) U SO U U<|RK a<|WS fun _ S=>qT U vV U fun X=>rP 2 [] (mc 10 U mn) ?_
 refine fU (es:=(List.map aL.cells [])) (C':=[own (some ⟨X,0,none⟩) 0 80 4 (List.map aL.cells []),_,_,_,_,_,_,_,_,_,_,_,_,_,_,_,_,_,_,_,_]) 0 U sm U (by simp [maxLen]) U ?_
 refine dR (es2:=(List.map aL.cells j.aC)) (m':=j.aC.length) 0 U U U VJ U U sm (aF 19 U) (vW _) (by simp; omega) (by simp only [maxLen]; simp; omega) sm sm U fun M N=>?_
 try dsimp only
 refine bG 1 U<|UP (eD.cells (eD.mk (fu.mk (cw.mk (bO.mk (bE.mk J j.Race.ak.aR.length L)) j.Race.ak.iN (bE.mk K j.Race.ak.aj.length E) (bE.mk A j.Race.ak.ab.length F) j.Race.ak.bM j.Race.ak.fT j.Race.ak.dE) (bE.mk B j.Race.aY.length G) (bE.mk C j.Race.b_.length H) j.Race.lG (bE.mk D j.Race.aA.length AB)) (bE.mk M j.aC.length N) (bE.mk prA j.aw.length prC) j.eh j.xA)) U WL U U<|RK S<|WS fun _ T=>qT U zI U fun Y=>rP 2 [] (mc 11 U mn) ?_
 refine fU (es:=(List.map aT.cells [])) (C':=[own (some ⟨Y,0,none⟩) 0 47 5 (List.map aT.cells []),_,_,_,_,_,_,_,_,_,_,_,_,_,_,_,_,_,_,_,_,_]) 0 U sm U (by simp [maxLen]) U ?_
 refine dR (es2:=(List.map aT.cells j.aw)) (m':=j.aw.length) 0 U U U V1 U U sm (aF 21 U) (uh _) (by simp; omega) (by simp only [maxLen]; simp; omega) sm sm U fun O R=>?_
 try dsimp only
 refine bG 1 U<|Uo (eD.cells (eD.mk (fu.mk (cw.mk (bO.mk (bE.mk J j.Race.ak.aR.length L)) j.Race.ak.iN (bE.mk K j.Race.ak.aj.length E) (bE.mk A j.Race.ak.ab.length F) j.Race.ak.bM j.Race.ak.fT j.Race.ak.dE) (bE.mk B j.Race.aY.length G) (bE.mk C j.Race.b_.length H) j.Race.lG (bE.mk D j.Race.aA.length AB)) (bE.mk M j.aC.length N) (bE.mk O j.aw.length R) j.eh j.xA)) U VS U U<|RK T<|WS fun _ AA=>rP 1 [] (mc 11 U mn) ?_
 refine Xe U Rn U<|RK AA<|av ?_
 refine LX hQ (J,L,K,E,P,A,F,B,G,C,H,D,AB,W,M,N,O,R) [2,3,4,5,6,7,8,9,1,0] [0] (mc 10 U mn) U (by show List.all _ _=true; simp only [fE,List.all_nil,nU,zq,Bool.and_true]; rfl) U U ?_
 exact ⟨⟨b,c⟩,e⟩
end
section
theorem TN.sub {E:fG} {ops:Array Oper} {Q:dk} {D:ik} {C' C1 C:List aB} {tb rem:List Nat}: ∀ {n:Nat} {L L':dC},dx L L'→TN E ops D C' C1 (fun L C=>KJ E (Q .normal) D L C) tb n rem L' C→TN E ops D C' C1 (fun L C=>KJ E (Q .normal) D L C) tb n rem L C:=by
 intro n
 cases n with
 |zero=>intro L L' hs h; exact km hs (fun _ h=>h) h
 |succ n=>intro L L' hs h i hi o ho K hK; exact PI hs (fun _ h=>h) (h i hi o ho K hK)
theorem OU {E:fG} {ops:Array Oper} {Q:dk} {D:ik} {C' C1 C:List aB} {bs:List Bool} {os:List Oper} {L:dC} {tb rem:List Nat} {n:Nat} {t:Nat} {b:Bool} (h:L.lookup t=some (.bool b))
 (h1:b=true→rf E ops D C' C1 (fun L'=>TN E ops D C' C1 (fun L C=>KJ E (Q .normal) D L C) tb n rem L' C) bs os ((t,.bool true)::L)) (h2:b=false→rf E ops D C' C1 (fun L'=>TN E ops D C' C1 (fun L C=>KJ E (Q .normal) D L C) tb n rem L' C) bs os ((t,.bool false)::L)):
 rf E ops D C' C1 (fun L'=>TN E ops D C' C1 (fun L C=>KJ E (Q .normal) D L C) tb n rem L' C) bs os L:=by
 have A: ∀ v:Bool,b=v→dx L ((t,.bool v)::L):=fun v hv=>dx.cons (hv▸h) (fun _ _ h=>h)
 cases b
 ·exact rf.mono (fun _ _=>TN.sub) (A _ U) (h2 U)
 ·exact rf.mono (fun _ _=>TN.sub) (A _ U) (h1 U)
theorem UO {E:fG} {ops:Array Oper} {Q:dk} {D:List Deferred} {L:List (Nat×Value)} {C1 C2 C:List aB} {t n:Nat} {b:Bool} {bs:List Bool} {os:List Oper} {tb rem:List Nat} (h:L.lookup t=some (.bool b)) (h2:b=false→rf E ops D C2 C1 (fun L2=>TN E ops D C2 C1 (fun L C=>KJ E (Q .normal) D L C) tb n rem L2 C) bs os ((t,.bool false)::L)) (h1:b=true→rf E ops D C2 C1 (fun L2=>TN E ops D C2 C1 (fun L C=>KJ E (Q .normal) D L C) tb n rem L2 C) bs os ((t,.bool true)::L)):rf E ops D C2 C1 (fun L2=>TN E ops D C2 C1 (fun L C=>KJ E (Q .normal) D L C) tb n rem L2 C) bs os L:=OU h h1 h2
end
section
open Go.RowKit
section
variable {P:Program} {t:TypeId} {x y:Operand}
end
section
variable {E:fG} {ops:Array Oper} {Q:dk} {rest:List Oper} {D:List Deferred} {L:List (Nat×Value)} {C:List aB}
variable {dst:Option Tmp} {d:Nat} {ty:TypeId} {ps:String} {af:Array Edge} {g:Option (Nat×Bool)}
theorem OM {A:aB} (i:Nat) (h:C[i]? =some A.ro):jC C A.holds:=fun w hw=>by
 have B:=hw A.ro (aQ h)
 exact B
end
end
section
open Go.RowKit
def qQ (b:Bool):List Value:=[.bool b]
@[simp] theorem Bb (b:Bool):(qQ b).length=1:=rfl
theorem Iz (l:List Bool): ∀ v∈(l.map qQ).flatten,v.oneCell'=true:=lu (fun s=>rfl) l
end
section
def mK (r:dY) (i:Nat):Prop:= ∀ (j:Nat) x,j<i→r.aA[j]? =some x→ ¬ pV x
def n8 (x:List ao) (i:Nat):Prop:= ∀ (j:Nat) d,j<i→x[j]? =some d→ ¬ 15<(d.aZ.aa.length:Int)
section
variable {r:dY} {i:Nat} {x:List ao} {d:ao}
theorem Dh:mK r 0:=fun j x hj=>absurd hj (Nat.not_lt_zero _)
theorem Dn (h:mK r i) (hx:r.aA[i]? =some x) (ho: ¬ pV x):mK r (i+1):=fun j y hj hy=>by
 rcases Nat.lt_or_ge j i with q|q
 ·exact h j y q hy
 ·obtain rfl:j=i:=by omega
  rw [hx] at hy; cases hy; exact ho
theorem DE:n8 x 0:=fun j x hj=>absurd hj (Nat.not_lt_zero _)
theorem B5 (h:n8 x i) (hx:x[i]? =some d) (ho: ¬ 15<(d.aZ.aa.length:Int)):n8 x (i+1):=fun j y hj hy=>by
 rcases Nat.lt_or_ge j i with q|q
 ·exact h j y q hy
 ·obtain rfl:j=i:=by omega
  rw [hx] at hy; cases hy; exact ho
theorem Fb (hl: ¬ 8<(x.length:Int)) (h:n8 x i) (hi:x.length≤i): ¬ pV x:=by
 rintro (q|⟨d,hd,q⟩)
 ·exact hl q
 ·obtain ⟨j,hj⟩:=List.getElem?_of_mem hd
  exact h j d (by have:=(aX.1 hj).1; omega) hj q
theorem Iv (h1: ¬ mM r.ak) (h2: ¬ 8<(r.aY.length:Int)∧ ¬ 8<(r.b_.length:Int)∧ ¬ 5<(r.aA.length:Int)) (h:mK r i) (hi:r.aA.length≤i): ¬ mI r:=by
 rintro ((q|q)|⟨x,hx,q⟩)
 ·exact h1 q
 ·omega
 ·obtain ⟨j,hj⟩:=List.getElem?_of_mem hx
  exact h j x (by have:=(aX.1 hj).1; omega) hj q
theorem ql (h:mM r.ak∨8<(r.aY.length:Int)∨8<(r.b_.length:Int)∨5<(r.aA.length:Int)):mI r:= .inl h
theorem Dw (hx:r.aA[i]? =some x) (h:8<(x.length:Int)):mI r:= .inr ⟨x,aQ hx,.inl h⟩
theorem Eh {j:Nat} (hx:r.aA[i]? =some x) (hd:x[j]? =some d) (h:15<(d.aZ.aa.length:Int)):mI r:= .inr ⟨x,aQ hx,.inr ⟨d,aQ hd,h⟩⟩
end
noncomputable def pS (l:bg) (d:ao):ag:=if d.Out=true then gV else gr l d
theorem Km {l:bg} {d:ao} (h:iW l d):pS l d=gr l d:=by
 unfold pS
 split
 ·rename_i q
  rw [Gg q]
  rw [m_ q] at h
  exact h.2.1.symm
 ·rfl
theorem BM {l:bg} {d:ao} (h:d.Out=true):pS l d=gV:=if_pos h
theorem Gj {l:bg} {d:ao} (h:d.Out=false∧d.cY=true):pS l d=d.Time:=by unfold pS; rw [if_neg (by rw [h.1]; decide),GX h]
theorem Gs {l:bg} {d:ao} (h:d.Out=false∧d.cY=false):pS l d=Bv l d.aZ:=by unfold pS; rw [if_neg (by rw [h.1]; decide),GW h]
def Tn (r:dY) (j:Nat):Prop:= ∀ x,r.aY[j]? =some x→(0≤x∧x≤9999)∧ ∀ y,0<j→r.aY[j-1]? =some y→y<x
def Lv (r:dY) (j:Nat):Prop:= ∀ x,r.b_[j]? =some x→(0≤x∧x≤(r.aY.length:Int)-1)∧ ∀ (k:Nat) y,k<j→r.b_[k]? =some y→y≠x
def yi (r:dY) (i:Nat):Prop:= ∀ j,j<i→Tn r j∧Lv r j
section
variable {r:dY} {i k:Nat} {x:Int}
theorem Lg:yi r 0:=fun j hj=>absurd hj (Nat.not_lt_zero _)
theorem B8 (h:yi r i) (h1:Tn r i) (h2:Lv r i):yi r (i+1):=fun j hj=>by
 rcases Nat.lt_or_ge j i with q|q
 ·exact h j q
 ·obtain rfl:j=i:=by omega
  exact ⟨h1,h2⟩
theorem zl {l:List Int} {u v:Int} (h: ∀ (q:Nat) y,q<k→l[q]? =some y→y≠v) (hx:l[k]? =some u) (hne: ¬ u=v): ∀ (q:Nat) y,q<k+1→l[q]? =some y→y≠v:=fun q y hq hy=>by
 rcases Nat.lt_or_ge q k with c|c
 ·exact h q y c hy
 ·obtain rfl:q=k:=by omega
  rw [hx] at hy; cases hy; exact hne
theorem KQ (hl:r.b_.length=r.aY.length) (h:yi r r.aY.length):r.b_.Perm (Ig r.aY.length):=by
 have nd:r.b_.Nodup:=by
  rw [List.nodup_iff_pairwise_ne,fg]
  intro a b ha hb A
  exact ((h b I).2 _ (eU hb)).2 a _ A (eU ha)
 have hm: ∀ x∈r.b_,x∈Ig r.aY.length:=fun x hx=>by
  obtain ⟨j,hj⟩:=List.getElem?_of_mem hx
  have:=((h j (by have:=(aX.1 hj).1; omega)).2 x hj).1
  exact cp.2 ⟨x.toNat,List.mem_range.2 I,I⟩
 have ndu:(Ig r.aY.length).Nodup:=by
  unfold Ig
  rw [List.nodup_iff_pairwise_ne,List.pairwise_map]
  exact List.pairwise_lt_range.imp fun h=>by omega
 have e:oJ r.b_=(Ig r.aY.length).filter fun x=>decide (x∈r.b_):=by
  refine HK uB ((ym _).filter _) (mN.nodup_iff.2 nd) (ndu.filter _) fun x=>?_
  rw [mN.mem_iff,List.mem_filter,decide_eq_true_eq]
  exact ⟨fun q=>⟨hm x q,q⟩,fun q=>q.2⟩
 have B:=congrArg List.length e
 rw [uC,hl] at B
 have C:(Ig r.aY.length).filter (fun x=>decide (x∈r.b_))=Ig r.aY.length:=List.filter_sublist.eq_of_length (by rw [← B]; simp)
 rw [C] at e
 rw [← e]; exact mN.symm
theorem HH {n:Nat} (h1:1≤(r.aY.length:Int)∧(r.aY.length:Int)≤5) (h2:r.b_.length=r.aY.length) (h3:0≤r.lG∧r.lG≤5) (h4:1≤(r.aA.length:Int)∧(r.aA.length:Int)≤3)
 (hn:n=r.aY.length) (h6:yi r n) (h7:kT r i) (hi:r.aA.length≤i):fZ r:=by
 subst hn
 refine ⟨h1,h3,h4,fun k x hx=>(h6 k (aX.1 hx).1).1 x hx,KQ h2 h6,fun h hh=>?_⟩
 obtain ⟨j,hj⟩:=List.getElem?_of_mem hh
 exact h7 j h (by have:=(aX.1 hj).1; omega) hj
theorem fZ.Kc (h:fZ r) (hx:r.b_[i]? =some x):0≤x∧x≤(r.aY.length:Int)-1:=by
 obtain ⟨k,hk,rfl⟩:=cp.1 (h.draw.mem_iff.1 (aQ hx))
 have:=List.mem_range.1 hk
 omega
theorem fZ.Qi (h:fZ r):r.b_.Nodup:=by
 refine h.draw.nodup_iff.2 ?_
 rw [List.nodup_iff_pairwise_ne,List.pairwise_map]
 exact List.pairwise_lt_range.imp fun h=>by omega
theorem fZ.RU (h:fZ r) {u v:Int} (hki:k<i) (hu:r.b_[k]? =some u) (hv:r.b_[i]? =some v): ¬ u=v:=by
 have A:=h.Qi
 rw [List.nodup_iff_pairwise_ne,fg] at A
 obtain ⟨a,ea⟩:=aX.1 hu
 obtain ⟨b,eb⟩:=aX.1 hv
 subst ea eb
 exact A k i a b hki
end
section
variable {r:dY} {i k n:Nat} {s:ag} {l:bg} {hs:List (List ao)}
end
section
variable {r:dY} {i x:Int} {own s:ag} {k:Nat} {ys zs:List Int}
end
section
variable {B:List Bool} {P Q:Int→Prop} {k x:Nat} {m:nF} {i y a b:Int} {ys:List Int}
end
end
section
open Go.RowKit
theorem JX (n lo hi:Int) (g1 g2:Nat):
 dN Tryz.prog 54 [(vI n),(vP g1),(vP g2)] [(cv g1 3 [(vI lo)]),(cv g2 3 [(vI hi)])] (vB (decide (n<lo∨hi<n))):=by
 refine bH kr Tryz.func54 U U fun D Q hQ hN=>?_
 try dsimp only
 refine WS fun _ B=>bG 1 U<|RK B<|WS fun _ A=>rP 4 [] (mr 0 U mn) ?_
 refine cg (t:=8) U (aV fun C=>?_) (aW fun C=>?_)
 ·refine rP 5 [] mn ?_
  refine RK A<|av<|Q1 hQ U U U ?_
  exact cB (dM I).symm
 refine rP 5 [] (mr 1 U mn) ?_
 refine RK A<|av<|Q1 hQ U U U ?_
 exact cB (g5.2 I)
theorem jk (lo hi:Int) (l:List Int) (lA:OA) (lC:Nat) (hlen:l.length≤1000000):
 dN Tryz.prog 33 [(vI lo),(vI hi),(vS lA l.length lC)] [(rd lA l.length 1 (l.map iC))] (vB (qX lo hi l)):=by
 refine bH kr Tryz.func33 U U fun F Q hQ hN=>?_
 try dsimp only
 refine WS fun _ D=>xV U U fun A=>xV U U fun B=>bG 1 U<|RK D<|WS fun _ E=>rP 1 [] mn ?_
 refine rS (FU U) ?_
 refine rS (CL (qs l lA lC (Value.func (.func 54) [].toArray [(vP A),(vP B)].toArray) (fun C=>(decide (C<lo∨hi<C))) (dV [(cv A 3 [(vI lo)]),(cv B 3 [(vI hi)])]) (by intro C _; exact lJ (fi:=[]) (ca:=[(vP A),(vP B)]) (kh (JX C lo hi A B) (bq [0,1]))) hlen) (gX 2 U U<|aD (kg (bq [1,0]))<|aN) U) ?_
 refine rP 2 [] mn ?_
 refine RK E<|av ?_
 exact Q1 hQ U U U U
theorem vi (o fx:Bool) (tm:ag) (rv:cM):
 dN Tryz.prog 55 [(vA (aP.cells (aP.mk o fx tm rv)))] [] (vB (decide (o=false∧fx=false))):=by
 refine bH kr Tryz.func55 U U fun E Q hQ hN=>?_
 try dsimp only
 refine WS fun _ B=>eT U fun D=>bG 1 U<|RK B<|WS fun _ A=>rP 4 [] (mc 0 U mn) ?_
 refine cu (t:=6) U (fun C=>?_) (fun C=>?_)
 ·rw [Bool.not_eq_false'] at C
  refine rP 5 [] mn ?_
  refine RK A<|av<|Q1 hQ U U U ?_
  clear hQ hN A B
  refine cB ?_
  (simp_all; done)
 rw [Bool.not_eq_true'] at C
 refine rP 5 [] (mc 0 U mn) ?_
 refine RK A<|av<|Q1 hQ U U U ?_
 clear hQ hN A B
 refine cB ?_
 (simp_all; done)
theorem Nm (l:List aL) (lA:OA) (lC:Nat) (f:Value) (p:Int→aL→Bool) (X:aB) (hf: ∀ x0 x1,(∃ i_:Nat,x0=(i_:Int)∧l[i_]? =some x1)→EF Tryz.prog f [.int .i64 x0,.agg (aL.cells x1).toArray] [X] (.bool (p x0 x1))) (hlen:l.length≤1000000):
 qB Tryz.prog 80 [(vS lA l.length lC),f] [(rd lA l.length 4 (l.map aL.cells)),X] (fun (x:(OA)×Nat)=>(vS x.1 ((mA (iL l p) l.length).length) x.2)) (fun (x:(OA)×Nat)=>True) (fun (x:(OA)×Nat)=>[(own x.1 x.2 3 1 ((mA (iL l p) l.length).map iC))]):=by
 refine fO kr Tryz.func80 U U fun Z Q hQ hN=>?_
 try dsimp only
 refine WS fun _ M=>bG 1 U<|RK M<|WS fun _ N=>bG 1 U<|RK N<|aq fun _ O=>WS fun _ R=>rP 3 [] mn ?_
 refine RK R<|aG<|e9 3 1 ?_
 have A:(0≤l.length):=by exact Nat.zero_le _
 refine bS (ι:={z:Nat×(OA)×Nat // (z.1≤l.length)}) [1,8,9] [1,2] U U (fun z=>[(5,(vS z.1.2.1 ((mA (iL l p) z.1.1).length) z.1.2.2)),(10,(vI (z.1.1:Int)))]) (fun z=>[(own z.1.2.1 z.1.2.2 3 1 ((mA (iL l p) z.1.1).map iC))]) (fun _=>rfl) (fun _=>rfl) (fun z=>l.length-z.1.1) ⟨(0,none,0),A⟩ (bw U) (aS [1,2,0]) ?_
 clear A
 rintro ⟨⟨i,a,c⟩,C⟩ J5 D
 try dsimp only at C
 try dsimp only
 refine WS fun _ S=>rP 1 [] mn ?_
 refine RK S<|aq fun _ T=>bV U (aW fun Y=>?_) (aV fun Y=>?_)
 ·refine bL<|ai<|ai<|aI<|KK O<|WS fun _ G=>?_
  rw [show (mA (iL l p) i)=(mA (iL l p) l.length) from by rw [show i=l.length by omega]]
  refine rP 2 [] mn ?_
  refine RK G<|av<|LX hQ (a,c) [2] [] mn U U U U ?_
  trivial
 refine WK T<|aq fun _ H=>aG<|WS fun _ E=>rP 1 [] mn ?_
 obtain ⟨x,hx⟩:=aM l i I
 have AA:=bQ aL.cells hx
 refine rS (IA i U (aF 0 U) vV dc I I)<|rS (mq i 0 (aL.cells x) U cf (aF 0 U) AA U dc U U)<|AL U QK fun V=>bG 1 U<|gl U TO U<|RK E<|WS fun _ F=>rP 3 [] (mc 0 U mn) ?_
 refine rS (SX (qL U U U (hf (i:Int) x ⟨_,U,hx⟩) (bq [2])) U U)<|RK F<|bV U (fun B=>?_) (fun B=>?_)
 ·refine cx<|aO<|KK H<|ay<|rP 2 [] mn ?_
  refine aJ ?_
  rw [show mA (iL l p) i=mA (iL l p) (i+1) from (tq (by rw [sN hx]; simpa using B)).symm]
  have J:(vI (((i+1):Nat):Int))=(vI ((i:Int)+1)):=by exact cI I
  refine bj (D ⟨((i+1),a,c),(by first|omega|(simp only []; omega))⟩ _ _ _ U os (cQ 4<|bk U J<|dx.nil _) (aS [1,2,3]))
 refine ay<|rP 2 [] mn ?_
 refine eJ (xs:=[.tmp 20]) (cs:=[(vI (i:Int))]) U dJ kY U U U U (by simp [Value.cells]) U U fun W=>?_
 refine dR (es2:=(List.map iC (mA (iL l p) (i+1)))) (m':=(mA (iL l p) (i+1)).length) 4 U U U ti U U sm (br (es:=List.map iC [(i:Int)]) 0 U U (by simp [bR]) U) (lM _) (by have:=pG (P:=iL l p) (n:=i); omega) (by have:=pG (P:=iL l p) (n:=i); simp only [maxLen]; omega) (by rw [yW (by rw [sN hx]; exact B)]; simp) sm U fun K L=>?_
 try dsimp only
 refine bG 1 U<|aJ<|aO<|KK H<|ay<|rP 2 [] mn ?_
 refine aJ ?_
 have AB:(vI (((i+1):Nat):Int))=(vI ((i:Int)+1)):=by exact cI I
 refine bj (D ⟨((i+1),K,L),(by first|omega|(simp only []; omega))⟩ _ _ _ U os (cQ 4<|bk U AB<|dx.nil _) (aS [2,3,4]))
theorem AH (l:List aT) (lA:OA) (lC:Nat) (f:Value) (p:Int→aT→Bool) (X:aB) (hf: ∀ x0 x1,(∃ i_:Nat,x0=(i_:Int)∧l[i_]? =some x1)→EF Tryz.prog f [.int .i64 x0,.agg (aT.cells x1).toArray] [X] (.bool (p x0 x1))) (hlen:l.length≤1000000):
 qB Tryz.prog 30 [(vS lA l.length lC),f] [(rd lA l.length 5 (l.map aT.cells)),X] (fun (x:(OA)×Nat)=>(vS x.1 ((mA (iL l p) l.length).length) x.2)) (fun (x:(OA)×Nat)=>True) (fun (x:(OA)×Nat)=>[(own x.1 x.2 3 1 ((mA (iL l p) l.length).map iC))]):=by
 refine fO kr Tryz.func30 U U fun Z Q hQ hN=>?_
 try dsimp only
 refine WS fun _ M=>bG 1 U<|RK M<|WS fun _ N=>bG 1 U<|RK N<|aq fun _ O=>WS fun _ R=>rP 3 [] mn ?_
 refine RK R<|aG<|e9 3 1 ?_
 have A:(0≤l.length):=by exact Nat.zero_le _
 refine bS (ι:={z:Nat×(OA)×Nat // (z.1≤l.length)}) [1,8,9] [1,2] U U (fun z=>[(5,(vS z.1.2.1 ((mA (iL l p) z.1.1).length) z.1.2.2)),(10,(vI (z.1.1:Int)))]) (fun z=>[(own z.1.2.1 z.1.2.2 3 1 ((mA (iL l p) z.1.1).map iC))]) (fun _=>rfl) (fun _=>rfl) (fun z=>l.length-z.1.1) ⟨(0,none,0),A⟩ (bw U) (aS [1,2,0]) ?_
 clear A
 rintro ⟨⟨i,a,c⟩,C⟩ J5 D
 try dsimp only at C
 try dsimp only
 refine WS fun _ S=>rP 1 [] mn ?_
 refine RK S<|aq fun _ T=>bV U (aW fun Y=>?_) (aV fun Y=>?_)
 ·refine bL<|ai<|ai<|aI<|KK O<|WS fun _ G=>?_
  rw [show (mA (iL l p) i)=(mA (iL l p) l.length) from by rw [show i=l.length by omega]]
  refine rP 2 [] mn ?_
  refine RK G<|av<|LX hQ (a,c) [2] [] mn U U U U ?_
  trivial
 refine WK T<|aq fun _ H=>aG<|WS fun _ E=>rP 1 [] mn ?_
 obtain ⟨x,hx⟩:=aM l i I
 have AA:=bQ aT.cells hx
 refine rS (IA i U (aF 0 U) zI dc I I)<|rS (mq i 0 (aT.cells x) U cf (aF 0 U) AA U dc U U)<|AL U O_ fun V=>bG 1 U<|gl U QN U<|RK E<|WS fun _ F=>rP 3 [] (mc 0 U mn) ?_
 refine rS (SX (qL U U U (hf (i:Int) x ⟨_,U,hx⟩) (bq [2])) U U)<|RK F<|bV U (fun B=>?_) (fun B=>?_)
 ·refine cx<|aO<|KK H<|ay<|rP 2 [] mn ?_
  refine aJ ?_
  rw [show mA (iL l p) i=mA (iL l p) (i+1) from (tq (by rw [sN hx]; simpa using B)).symm]
  have J:(vI (((i+1):Nat):Int))=(vI ((i:Int)+1)):=by exact cI I
  refine bj (D ⟨((i+1),a,c),(by first|omega|(simp only []; omega))⟩ _ _ _ U os (cQ 4<|bk U J<|dx.nil _) (aS [1,2,3]))
 refine ay<|rP 2 [] mn ?_
 refine eJ (xs:=[.tmp 20]) (cs:=[(vI (i:Int))]) U dJ kY U U U U (by simp [Value.cells]) U U fun W=>?_
 refine dR (es2:=(List.map iC (mA (iL l p) (i+1)))) (m':=(mA (iL l p) (i+1)).length) 4 U U U ti U U sm (br (es:=List.map iC [(i:Int)]) 0 U U (by simp [bR]) U) (lM _) (by have:=pG (P:=iL l p) (n:=i); omega) (by have:=pG (P:=iL l p) (n:=i); simp only [maxLen]; omega) (by rw [yW (by rw [sN hx]; exact B)]; simp) sm U fun K L=>?_
 try dsimp only
 refine bG 1 U<|aJ<|aO<|KK H<|ay<|rP 2 [] mn ?_
 refine aJ ?_
 have AB:(vI (((i+1):Nat):Int))=(vI ((i:Int)+1)):=by exact cI I
 refine bj (D ⟨((i+1),K,L),(by first|omega|(simp only []; omega))⟩ _ _ _ U os (cQ 4<|bk U AB<|dx.nil _) (aS [2,3,4]))
end
section
open Go.RowKit
variable {E:fG} {ops:Array Oper} {D:List Deferred} {L:List (Nat×Value)} {C:List aB}
variable {dst:Option Tmp} {ty:TypeId} {ps:String} {af:Array Edge} {g:Option (Nat×Bool)}
theorem wu {x ix:Operand} {t e len sz:Nat} {cs vs:List Value} {j:Int} {kd:IntKind} (m:Nat) (hg:kx ops L g=true) (hx:ev L x=some (.agg cs.toArray)) (hi:ev L ix=some (.int kd j)) (ht:tX E.P t=some (len,e)) (hk:tK E.P e=some (true,sz)) (hj:j=(m:Int)) (hm:m<len) (hv:(cs.drop (m*sz)).take sz=vs):
 SD E ops ⟨dst,.index t x ix,ty,ps,af,g⟩ D L C (.agg vs.toArray):=
 eL hg sm fun a w A _=>by
  have B:(0:Int)≤(m:Int)∧(m:Int)<(len:Int):=by omega
  subst hj
  simp [execOp,A.ev hx,A.ev hi,Instr.index,asIntOf,run_underlying (Mm ht),B,hm,(px hk w).2,Cd hk hv w]
end
section
open Go.RowKit
theorem JQ (i:Int) (f:aL) (j:cR) (kA:OA) (kC:Nat) (cA:OA) (cC:Nat) (bA:OA) (bC:Nat) (slA:OA) (slC:Nat) (drA:OA) (drC:Nat) (heA:OA) (heC:Nat) (faA:OA) (faC:Nat) (prA:OA) (prC g1:Nat) (hk:0≤f.Kind∧f.Kind≤255):
 dN Tryz.prog 81 [(vI i),(vA (aL.cells f)),(vP g1)] [(cv g1 36 (eD.cells (nN j kA kC cA cC bA bC slA slC drA drC heA heC faA faC prA prC)))] (vB (decide (¬ pA j.Race.ak.bM f))):=by
 refine bH kr Tryz.func81 U U fun V Q hQ hN=>?_
 try dsimp only
 refine WS fun _ N=>eT U fun AA=>bG 1 U<|RK N<|WS fun _ O=>fD 5 [] (mr 1 U mn) U<|RK O<|aq fun _ D=>WS fun _ P=>rP 2 [] (mc 0 U mn) ?_
 refine rS (BI U nP)<|RK P<|bV U (aW fun A=>?_) (aV fun A=>?_)
 ·refine WK D<|WS fun _ B=>rP 2 [] (mc 0 U mn) ?_
  refine rS (SX (qo (m:=f.Kind) U U Sg um (pf (by first|assumption|omega))) U U)<|eJ (xs:=[.tmp 16]) (cs:=[(vI f.Kind)]) U dJ kY U U U U (by simp [Value.cells]) U U fun F=>?_
  refine rS (CL (dN.eq (jk 1 3 ([f.Kind]) (some ⟨F,0,none⟩) 1 (by (simp; done))) cH) (aD (br 0 U U (by simp [bR]) U)<|aN) U) ?_
  refine rP 2 [] mn ?_
  refine cg (t:=20) U (bB fun K=>?_) (bx fun K=>?_)
  ·refine rP 24 [] mn ?_
   refine RK B<|av<|Q1 hQ U U U ?_
   (refine cB (dM ?_).symm; (rw [uZ A]; omega))
  refine rP 4 [] (mc 1 U mn) ?_
  refine eJ (xs:=[.tmp 22,.tmp 24]) (cs:=[(vI f.gI),(vI f.To)]) U dJ kY U U U U (by simp [Value.cells]) U U fun G=>?_
  refine rS (CL (dN.eq (jk 0 86400000 ([f.gI,f.To]) (some ⟨G,0,none⟩) 2 (by (simp; done))) qd) (aD (br 0 U U (by simp [bR]) U)<|aN) U) ?_
  refine rP 3 [] mn ?_
  refine cg (t:=29) U (bB fun L=>?_) (bx fun L=>?_)
  ·refine rP 15 [] mn ?_
   refine RK B<|av<|Q1 hQ U U U ?_
   (refine cB (dM ?_).symm; (rw [uZ A]; omega))
  refine rP 7 [] (mc 2 U mn) ?_
  refine cg (t:=36) U (aV fun M=>?_) (aW fun M=>?_)
  ·refine rP 8 [] mn ?_
   refine RK B<|av<|Q1 hQ U U U ?_
   (refine cB (dM ?_).symm; (rw [uZ A]; omega))
  refine rP 3 [] (mc 2 U mn) ?_
  refine eJ (xs:=[.tmp 39]) (cs:=[(vI f.eW)]) U dJ kY U U U U (by simp [Value.cells]) U U fun H=>?_
  refine rS (CL (dN.eq (jk 0 j.Race.ak.bM ([f.eW]) (some ⟨H,0,none⟩) 1 (by (simp; done))) cH) (aD (br 0 U U (by simp [bR]) U)<|aN) U) ?_
  refine rP 3 [] mn ?_
  refine RK B<|av<|Q1 hQ U U U ?_
  (refine cB (decide_not.symm.trans (g5.2 ?_)); (rw [uZ A]; omega))
 refine ay<|bG 1 U<|RK D<|WS fun _ C=>rP 2 [] (mc 0 U mn) ?_
 refine rS (SX (qo (m:=f.Kind) U U Sg um (pf (by first|assumption|omega))) U U)<|eJ (xs:=[.tmp 16]) (cs:=[(vI f.Kind)]) U dJ kY U U U U (by simp [Value.cells]) U U fun R=>?_
 refine rS (CL (dN.eq (jk 1 3 ([f.Kind]) (some ⟨R,0,none⟩) 1 (by (simp; done))) cH) (aD (br 0 U U (by simp [bR]) U)<|aN) U) ?_
 refine rP 2 [] mn ?_
 refine cg (t:=20) U (bB fun T=>?_) (bx fun T=>?_)
 ·refine rP 24 [] mn ?_
  refine RK C<|av<|Q1 hQ U U U ?_
  (refine cB (dM ?_).symm; (rw [uD A]; omega))
 refine rP 4 [] (mc 1 U mn) ?_
 refine eJ (xs:=[.tmp 22,.tmp 24]) (cs:=[(vI f.gI),(vI f.To)]) U dJ kY U U U U (by simp [Value.cells]) U U fun S=>?_
 refine rS (CL (dN.eq (jk 0 86400000 ([f.gI,f.To]) (some ⟨S,0,none⟩) 2 (by (simp; done))) qd) (aD (br 0 U U (by simp [bR]) U)<|aN) U) ?_
 refine rP 3 [] mn ?_
 refine cg (t:=29) U (bB fun AB=>?_) (bx fun AB=>?_)
 ·refine rP 15 [] mn ?_
  refine RK C<|av<|Q1 hQ U U U ?_
  (refine cB (dM ?_).symm; (rw [uD A]; omega))
 refine rP 7 [] (mc 2 U mn) ?_
 refine cg (t:=36) U (aV fun J=>?_) (aW fun J=>?_)
 ·refine rP 8 [] mn ?_
  refine RK C<|av<|Q1 hQ U U U ?_
  (refine cB (dM ?_).symm; (rw [uD A]; omega))
 refine rP 3 [] (mc 2 U mn) ?_
 refine eJ (xs:=[.tmp 39]) (cs:=[(vI f.eW)]) U dJ kY U U U U (by simp [Value.cells]) U U fun E=>?_
 refine rS (CL (dN.eq (jk 0 0 ([f.eW]) (some ⟨E,0,none⟩) 1 (by (simp; done))) cH) (aD (br 0 U U (by simp [bR]) U)<|aN) U) ?_
 refine rP 3 [] mn ?_
 refine RK C<|av<|Q1 hQ U U U ?_
 (refine cB (decide_not.symm.trans (g5.2 ?_)); (rw [uD A]; omega))
theorem uW (fk fw:Int) (ff ft:Int) (al ah:Int) (ae an:Bool) (bl bh:Int) (be bn:Bool):
 dN Tryz.prog 83 [(vA (aL.cells (aL.mk fk fw ff ft))),(vA (k9.cells (k9.mk (ag.mk al ah) ae an))),(vA (k9.cells (k9.mk (ag.mk bl bh) be bn)))] [] (vB (decide (ah≤ft∧ff≤bl))):=by
 refine bH kr Tryz.func83 U U fun G Q hQ hN=>?_
 try dsimp only
 refine WS fun _ B=>eT U fun D=>eT U fun E=>eT U fun F=>bG 1 U<|RK B<|WS fun _ A=>rP 7 [0,1] (mc 1 U (mc 2 U mn)) ?_
 refine cu (t:=13) U (aW fun C=>?_) (aV fun C=>?_)
 ·refine rP 8 [] mn ?_
  refine RK A<|av<|Q1 hQ U U U ?_
  exact cB (bI I).symm
 refine rP 8 [0,1] (mc 0 U (mc 2 U mn)) ?_
 refine RK A<|av<|Q1 hQ U U U ?_
 exact cB (g5.2 I)
theorem Gd (fk fw:Int) (ff ft:Int) (al ah:Int) (ae an:Bool) (bl bh:Int) (be bn:Bool):
 dN Tryz.prog 87 [(vA (aL.cells (aL.mk fk fw ff ft))),(vA (k9.cells (k9.mk (ag.mk al ah) ae an))),(vA (k9.cells (k9.mk (ag.mk bl bh) be bn)))] [] (vB (decide (ag.mk (max al ff) (min ah ft)=ag.mk al ah))):=by
 refine bH kr Tryz.func87 U U fun F Q hQ hN=>?_
 try dsimp only
 refine WS fun _ A=>eT U fun C=>eT U fun D=>eT U fun E=>bG 1 U<|RK A<|WS fun _ B=>fD 5 [0,1] (mc 1 U (mc 2 U mn)) U<|rS (MX U)<|fD 5 [0,1] (mc 1 U (mc 2 U mn)) U<|rS (MN U)<|rS (SX (bp (xs:=[(0,.tmp 12),(1,.tmp 18)]) (cs:=(ag.cells (ag.mk (max al ff) (min ah ft)))) U U (bo hU U)) U U)<|bG 1 U<|rS (LP (ag.cells (ag.mk al ah)) 1 U cf U U U)<|rS (BI U (x5 _ _ (ag.mk (max al ff) (min ah ft)) (ag.mk al ah)))<|rP 1 [] mn ?_
 refine RK B<|av ?_
 exact Q1 hQ U U U U
theorem U9 (j:cR) (kA:OA) (kC:Nat) (cA:OA) (cC:Nat) (bA:OA) (bC:Nat) (slA:OA) (slC:Nat) (drA:OA) (drC:Nat) (heA:OA) (heC:Nat) (faA:OA) (faC:Nat) (prA:OA) (prC:Nat) (fk fw:Int) (ff ft:Int):
 dN Tryz.prog 84 [(vA (db.cells (db.mk (nN j kA kC cA cC bA bC slA slC drA drC heA heC faA faC prA prC)))),(vA (aL.cells (aL.mk fk fw ff ft)))] [] (vT [(vI (-1)),(vI j.Race.ak.bM)]):=by
 refine bH kr Tryz.func84 U U fun E Q hQ hN=>?_
 try dsimp only
 refine WS fun _ A=>eT U fun C=>eT U fun D=>bG 2 U<|RK A<|aq fun _ B=>dy cy 7 kr<|dP 7 [] (mc 1 U mn) ?_
 refine cO<|RK B<|av<|Q2 hQ U U U U ?_
 rfl
theorem SH (j:cR) (kA:OA) (kC:Nat) (cA:OA) (cC:Nat) (bA:OA) (bC:Nat) (slA:OA) (slC:Nat) (drA:OA) (drC:Nat) (heA:OA) (heC:Nat) (faA:OA) (faC:Nat) (prA:OA) (prC:Nat) (fk fw:Int) (ff ft:Int) (hw:0≤fw∧fw≤1000000):
 dN Tryz.prog 85 [(vA (db.cells (db.mk (nN j kA kC cA cC bA bC slA slC drA drC heA heC faA faC prA prC)))),(vA (aL.cells (aL.mk fk fw ff ft)))] [] (vT [(vI (fw-1)),(vI fw)]):=by
 refine bH kr Tryz.func85 U U fun E Q hQ hN=>?_
 try dsimp only
 refine WS fun _ A=>eT U fun C=>eT U fun D=>rP 2 [] mn ?_
 refine RK A<|aq fun _ B=>dy cy 7 kr ?_
 try dsimp only
 refine dP 7 [] (mc 0 U mn) ?_
 refine cO<|RK B<|av<|Q2 hQ U U U U ?_
 rfl
theorem UR (j:cR) (kA:OA) (kC:Nat) (cA:OA) (cC:Nat) (bA:OA) (bC:Nat) (slA:OA) (slC:Nat) (drA:OA) (drC:Nat) (heA:OA) (heC:Nat) (faA:OA) (faC:Nat) (prA:OA) (prC:Nat) (fk fw:Int) (ff ft:Int):
 dN Tryz.prog 86 [(vA (db.cells (db.mk (nN j kA kC cA cC bA bC slA slC drA drC heA heC faA faC prA prC)))),(vA (aL.cells (aL.mk fk fw ff ft)))] [] (vT [(vI fw),(vI fw)]):=by
 refine bH kr Tryz.func86 U U fun E Q hQ hN=>?_
 try dsimp only
 refine WS fun _ A=>eT U fun C=>eT U fun D=>bG 2 U<|RK A<|aq fun _ B=>dy cy 6 kr<|dP 6 [] (mc 0 U mn) ?_
 refine cO<|RK B<|av<|Q2 hQ U U U U ?_
 rfl
theorem yI:
 dN Tryz.prog 56 [] [] (vA ((fz.cells (fz.mk Value.nilFunc Value.nilFunc))++(fz.cells (fz.mk (Value.func (.func 84) [].toArray [].toArray) (Value.func (.func 83) [].toArray [].toArray)))++(fz.cells (fz.mk (Value.func (.func 85) [].toArray [].toArray) (Value.func (.func 83) [].toArray [].toArray)))++(fz.cells (fz.mk (Value.func (.func 86) [].toArray [].toArray) (Value.func (.func 87) [].toArray [].toArray))))):=by
 refine bH kr Tryz.func56 U U fun E Q hQ hN=>?_
 try dsimp only
 refine WS fun _ A=>AL U Uh fun D=>RK A<|WS fun _ B=>bG 1 U<|RK B<|WS fun _ C=>bG 1 U<|rS (SX (bp (xs:=[(0,.func 84),(1,.tmp 2)]) (cs:=(fz.cells (fz.mk (Value.func (.func 84) [].toArray [].toArray) (Value.func (.func 83) [].toArray [].toArray)))) U U (bo KL U)) U U)<|rP 1 [] mn ?_
 refine rS (SX (bp (xs:=[(0,.func 85),(1,.tmp 4)]) (cs:=(fz.cells (fz.mk (Value.func (.func 85) [].toArray [].toArray) (Value.func (.func 83) [].toArray [].toArray)))) U U (bo KL U)) U U)<|rS (SX (bp (xs:=[(0,.func 86),(1,.func 87)]) (cs:=(fz.cells (fz.mk (Value.func (.func 86) [].toArray [].toArray) (Value.func (.func 87) [].toArray [].toArray)))) U U (bo KL U)) U U)<|rS (SX (bp (xs:=[(1,.tmp 3),(2,.tmp 5),(3,.tmp 6)]) (cs:=((fz.cells (fz.mk Value.nilFunc Value.nilFunc))++(fz.cells (fz.mk (Value.func (.func 84) [].toArray [].toArray) (Value.func (.func 83) [].toArray [].toArray)))++(fz.cells (fz.mk (Value.func (.func 85) [].toArray [].toArray) (Value.func (.func 83) [].toArray [].toArray)))++(fz.cells (fz.mk (Value.func (.func 86) [].toArray [].toArray) (Value.func (.func 87) [].toArray [].toArray))))) U U (bo Ta U)) U U)<|gl U Ub U<|RK C<|av<|D8 hQ [0] (mc 0 U mn) U ?_
 rfl
theorem CB (l:List aL) (lA:OA) (lC:Nat) (f:aL) (hlen:l.length≤1000000):
 dN Tryz.prog 41 [(vS lA l.length lC),(vA (aL.cells f))] [(rd lA l.length 4 (l.map aL.cells))] (vI (pE l f)):=by
 refine bH kr Tryz.func41 U U fun AA Q hQ hN=>?_
 try dsimp only
 refine WS fun _ J=>eT U fun T=>bG 1 U<|RK J<|aq fun _ K=>WS fun _ L=>rP 3 [] mn ?_
 refine RK L<|aG ?_
 have B:(0≤l.length)∧(∀ (q:Nat) y,q<0→l[q]? =some y→y≠f):=by exact ⟨Nat.zero_le _,fun q y hq=>absurd hq (Nat.not_lt_zero _)⟩
 refine bS (ι:={z:Nat // (z≤l.length)∧(∀ (q:Nat) y,q<z→l[q]? =some y→y≠f)}) [0,3,7] [0,1] U U (fun z=>[(8,(vI (z.1:Int)))]) (fun z=>[]) (fun _=>rfl) (fun _=>rfl) (fun z=>l.length-z.1) ⟨0,B⟩ (bw U) (aS [0,1]) ?_
 clear B
 rintro ⟨i,⟨P,A⟩⟩ J5 AB
 try dsimp only
 refine WS fun _ M=>rP 1 [] mn ?_
 refine RK M<|aq fun _ N=>bV U (aW fun S=>?_) (aV fun S=>?_)
 ·refine bL<|ai<|ai<|aI<|KK K<|WS fun _ G=>rP 1 [] mn ?_
  refine RK G<|av<|Q1 hQ U U U ?_
  exact cI (ON A I).symm
 refine WK N<|aq fun _ O=>aG<|WS fun _ D=>bG 2 U<|RK D<|aq fun _ E=>dy cy 6 kr<|dP 3 [] (mc 0 U mn) ?_
 obtain ⟨x,hx⟩:=aM l i I
 have R:=bQ aL.cells hx
 refine dS (IA i U (aF 1 U) vV dc I I)<|dS (mq i 0 (aL.cells x) U cf (aF 1 U) R U dc U U)<|dS (BI U (T_ _ _ f x))<|cO<|RK E<|cG U (aV fun C=>?_) (aW fun C=>?_)
 ·refine WS fun _ F=>rP 2 [] mn ?_
  refine RK F<|av<|Q1 hQ U U U ?_
  exact cI (OD hx C.symm A).symm
 refine cx<|aO<|KK O<|ay<|rP 2 [] mn ?_
 refine aJ ?_
 have H:(vI (((i+1):Nat):Int))=(vI ((i:Int)+1)):=by exact cI I
 refine bj (AB ⟨(i+1),⟨I,fun q y hq hy=>by rcases Nat.lt_or_ge q i with c|c; exact A q y c hy; (obtain rfl:q=i:=by omega); rw [hx] at hy; cases hy; exact fun e=>C e.symm⟩⟩ _ _ _ rfl os (cQ 3<|bk rfl H<|dx.nil _) (aS [0,1]))
end
section
open Go.RowKit
theorem U5 (l:List Int) (lA:OA) (lC:Nat) (hne:1≤l.length) (hlen:l.length≤1000000):
 dN Tryz.prog 88 [(vS lA l.length lC)] [(rd lA l.length 1 (l.map iC))] (vI (oE l)):=by
 refine bH kr Tryz.func88 U U fun V Q hQ hN=>?_
 try dsimp only
 refine WS fun _ L=>bG 1 U<|RK L<|aq fun _ M=>WS fun _ N=>rP 3 [] mn ?_
 refine RK N<|cG U (aV fun AA=>?_) (aW fun AA=>?_)
 ·exfalso; omega
 refine WK M<|WS fun _ O=>rP 1 [] mn ?_
 obtain ⟨AB,B⟩:=aM l 0 I
 have hx0m:=bQ iC B
 refine rS (IA 0 U (aF 0 U) dJ dc U I)<|rS (hP 0 0 (vI AB) U cf (aF 0 U) hx0m U dc U)<|bG 1 U<|RK O<|aq fun _ P=>WS fun _ R=>rP 1 [] mn ?_
 refine RK R<|aG ?_
 have A:(1≤1∧1≤l.length):=by omega
 have S:(vI (oE (l.take 1)))=(vI AB):=by rw [HN B]
 refine bS (ι:={z:Nat // (1≤z∧z≤l.length)}) [0] [0] U U (fun z=>[(3,(vI (oE (l.take z.1)))),(4,(vI (z.1:Int)))]) (fun z=>[]) (fun _=>rfl) (fun _=>rfl) (fun z=>l.length-z.1) ⟨1,A⟩ (bk U S<|bw U) (aS [0]) ?_
 clear A
 rintro ⟨i,T⟩ J9 K
 try dsimp only
 refine aq fun _ C=>WS fun _ D=>rP 4 [] mn ?_
 refine RK D<|bV U (aW fun J=>?_) (aV fun J=>?_)
 ·refine bL<|ai<|ai<|aI<|KK P<|WS fun _ F=>rP 2 [] mn ?_
  refine RK F<|av<|Q1 hQ U U U ?_
  rw [List.take_of_length_le I]
 refine WK C<|aq fun _ E=>aG<|ay<|rP 3 [] mn ?_
 obtain ⟨AB,B⟩:=aM l i I
 have hx0m:=bQ iC B
 refine rS (IA i U (aF 0 U) dJ dc I I)<|rS (hP i 0 (vI AB) U cf (aF 0 U) hx0m U dc U)<|rS (MN U)<|bG 1 U<|aJ<|aO<|KK E<|ay<|rP 3 [] mn ?_
 refine aJ ?_
 have G:(vI (oE (l.take (i+1))))=(vI (min (oE (l.take i)) AB)):=by rw [K_ B I]
 have H:(vI (((i+1):Nat):Int))=(vI ((i:Int)+1)):=by exact cI I
 refine bj (K ⟨(i+1),(by first|omega|(simp only []; omega))⟩ _ _ _ U os (dx.cons U<|bk U G<|bk U H<|dx.nil _) (aS [0]))
end
section
open Go.RowKit
theorem pQ:wj Tryz.prog 158 eI:=OJ P8 (fun x y w=>QG 9998 x y w) (fun x y h=>by cases x; cases y; simp [aK.cells] at h; simp [h]) (fun x=>by simp [aK.cells,Instr.sameBits]) (fun x w=>⟨_,rfl,fun p hp=>by
 simp only [bU,List.not_mem_nil,or_false] at hp
 rcases hp with rfl|rfl
 ·exact ⟨⟨_,hZ cf U w⟩,_,um⟩
 ·exact ⟨⟨_,hZ cf U w⟩,_,um⟩⟩)
theorem Lm (s:Int):
 dN Tryz.prog 74 [(vI s)] [] (vA (aK.cells (fV s))):=by
 refine bH kr Tryz.func74 U U fun H Q hQ hN=>?_
 try dsimp only
 refine WS fun _ B=>AL U vv fun G=>RK B<|aq fun _ C=>WS fun _ D=>rP 2 [] mn ?_
 refine RK D<|cG U (aV fun A=>?_) (aW fun A=>?_)
 ·refine WS fun _ E=>rS (SX (bp (xs:=[(1,.const (vI 1))]) (cs:=(aK.cells (aK.mk 0 1))) U U (bo Cn U)) U U)<|gl U tv U<|RK E<|av<|D8 hQ [0] (mc 0 U mn) U ?_
  unfold fV; first|rw [if_pos A]|rw [if_neg A]
 refine WK C<|WS fun _ F=>rS (SX (bp (xs:=[(0,.const (vI 1))]) (cs:=(aK.cells (aK.mk 1 0))) U U (bo Cn U)) U U)<|gl U tv U<|RK F<|av<|D8 hQ [0] (mc 0 U mn) U ?_
 unfold fV; first|rw [if_pos A]|rw [if_neg A]
theorem xP (x:aK) (y:aK) (hx:(0≤x.right∧x.right≤1000)∧0≤x.fp∧x.fp≤1000) (hy:(0≤y.right∧y.right≤1000)∧0≤y.fp∧y.fp≤1000):
 dN Tryz.prog 73 [(vA (aK.cells x)),(vA (aK.cells y))] [] (vA (aK.cells (dK x y))):=by
 refine bH kr Tryz.func73 U U fun F Q hQ hN=>?_
 try dsimp only
 refine WS fun _ A=>eT U fun C=>eT U fun D=>AL U vv fun E=>RK A<|WS fun _ B=>rP 10 [0,1,0,1] (mc 2 U (mc 1 U mn)) ?_
 refine rS (SX (bp (xs:=[(0,.tmp 9),(1,.tmp 14)]) (cs:=(aK.cells (aK.mk (x.right+y.right) (x.fp+y.fp)))) U U (bo Cn U)) U U)<|gl U tv U<|RK B<|av ?_
 exact D8 hQ [0] (mc 0 U mn) U U
theorem P2 (ln:cw) (ri:cM) (e:List Int) (tms:List TM) (e_A:OA) (e_C:Nat) (tb:List Nat) (t_A:OA) (t_C:Nat) (fs:List FM) (bs:List FM) (fb:List Nat) (f_A:OA) (f_C:Nat) (bb:List Nat) (b_A:OA) (b_C gw:Nat) (x:aK) (hx:(0≤x.right∧x.right≤1000)∧0≤x.fp∧x.fp≤1000) (hn:ri.aa.n≤1000):
 dN Tryz.prog 72 [(vP gw),(vA (aK.cells x))] [(rd e_A e.length 1 (e.map iC)),(rd t_A tms.length 1 (List.zipWith gR tms tb)),(dV (a_ qp tms tb)),(rd f_A fs.length 1 (List.zipWith gR fs fb)),(dV (a_ nM fs fb)),(rd b_A bs.length 1 (List.zipWith gR bs bb)),(dV (a_ nM bs bb)),(cv gw 150 (cb.cells (cb.mk ln ri (bE.mk e_A e.length e_C) (bE.mk t_A tms.length t_C) (bE.mk f_A fs.length f_C) (bE.mk b_A bs.length b_C))))] (vB (lf (cU ln ri e tms) x)):=by
 refine bH kr Tryz.func72 U U fun E Q hQ hN=>?_
 try dsimp only
 refine WS fun _ C=>eT U fun D=>bG 1 U<|RK C<|aq fun _ B=>dy cy 26 kr<|mz 3 [] (mc 0 U mn) U<|dS (SX (cS U U) U U)<|dP 5 [] (mr 8 U mn) ?_
 refine j0 (t:=13) U (aW fun A=>?_) (aV fun A=>?_)
 ·refine dP 17 [] mn ?_
  refine cO<|RK B<|av<|Q1 hQ U U U ?_
  exact cB (bI (fun h=>A h.1)).symm
 refine lP 1 U<|dS (SX (cS U U) U U)<|mz 8 [0,1] (mr 8 U (mc 0 U mn)) U<|dS (SX (cS U U) U U)<|dP 6 [] (mr 8 U mn) ?_
 refine cO<|RK B<|av<|Q1 hQ U U U ?_
 exact cB (g5.2 ⟨fun h=>⟨A,h⟩,fun h=>h.2⟩)
end
section
open Go.RowKit
theorem wD (ln:cw) (ri:cM) (e:List Int) (tms:List TM) (e_A:OA) (e_C:Nat) (tb:List Nat) (t_A:OA) (t_C:Nat) (fs:List FM) (bs:List FM) (fb:List Nat) (f_A:OA) (f_C:Nat) (bb:List Nat) (b_A:OA) (b_C gw:Nat) (hw:HU (cU ln ri e tms)) (hsg:ri.aa.n≤1000) (hn:ln.ab.n=e.length) (hfw:xj (cU ln ri e tms) fs) (hfb:fb.length=fs.length):
 qB Tryz.prog 46 [(vP gw)] [(rd e_A e.length 1 (e.map iC)),(rd t_A tms.length 1 (List.zipWith gR tms tb)),(dV (a_ qp tms tb)),(rd f_A fs.length 1 (List.zipWith gR fs fb)),(dV (a_ nM fs fb)),(rd b_A bs.length 1 (List.zipWith gR bs bb)),(dV (a_ nM bs bb)),(cv gw 150 (cb.cells (cb.mk ln ri (bE.mk e_A e.length e_C) (bE.mk t_A tms.length t_C) (bE.mk f_A fs.length f_C) (bE.mk b_A bs.length b_C))))] (fun (x:(OA)×Nat)=>(vS x.1 ((iy (cU ln ri e tms)).length) x.2)) (fun (x:(OA)×Nat)=>True) (fun (x:(OA)×Nat)=>[(own x.1 x.2 3 1 ((iy (cU ln ri e tms)).map iC))]):=by
 have y:e.length≤6:=hw.n
 have u:fs.length=e.length+1:=hfw.len
 refine fO kr Tryz.func46 U U fun w0 Q hQ hN=>?_
 try dsimp only
 refine WS fun _ X=>bG 1 U<|RK X<|WS fun _ Y=>bG 1 U<|RK Y<|aq fun _ Z=>WS fun _ b=>bG 1 U<|rS (SX (cS U U) U U)<|rP 6 [] (mr 7 U mn) ?_
 refine RK b<|aG<|e9 3 1 ?_
 have A:(0≤e.length+1):=by exact Nat.zero_le _
 refine bS (ι:={z:Nat×(OA)×Nat // (z.1≤e.length+1)}) [0,12] [1,2,3,4,5,6,7,8] U U (fun z=>[(3,(vS z.1.2.1 ((lh (cU ln ri e tms) z.1.1).length) z.1.2.2)),(13,(vI (z.1.1:Int)))]) (fun z=>[(own z.1.2.1 z.1.2.2 3 1 ((lh (cU ln ri e tms) z.1.1).map iC))]) (fun _=>rfl) (fun _=>rfl) (fun z=>e.length+1-z.1.1) ⟨(0,none,0),A⟩ (bw U) (aS [1,2,3,4,5,6,7,8,0]) ?_
 clear A
 rintro ⟨⟨n,a,c⟩,G⟩ J5 AB
 try dsimp only at G
 try dsimp only
 refine WS fun _ d=>rP 1 [] mn ?_
 refine RK d<|aq fun _ g=>bV U (aW fun s=>?_) (aV fun s=>?_)
 ·refine bL<|ai<|ai<|aI<|KK Z<|WS fun _ P=>?_
  rw [show lh (cU ln ri e tms) n=iy (cU ln ri e tms) by (obtain rfl:n=e.length+1:=by omega); rfl]
  refine rP 2 [] mn ?_
  refine RK P<|av<|LX hQ (a,c) [8] [] mn U U U U ?_
  trivial
 refine WK g<|aq fun _ R=>aG<|WS fun _ J=>bG 2 U<|RK J<|WS fun _ K=>bG 1 U<|rS (SX (cS U U) U U)<|rP 3 [] (mr 7 U mn) ?_
 obtain ⟨m,B⟩:=aM fs n I
 obtain ⟨ma,hm0a⟩:=aM fb n I
 have hm0m:(List.zipWith gR fs fb)[n]? =some (gR m ma):=dH B hm0a
 refine rS (IA n U (aF 3 U) o5 dc I I)<|rS (hP n 0 (Value.map (some ma)) U cf (aF 3 U) hm0m U dc U)<|qD (kV:=eI) (m:=cT iV m) 4 U U pZ U ⟨⟨(kQ eI ma (cT iV m)),(bT B hm0a (by simp [nM])),U⟩,fun h=>h⟩ (show jC _ (kQ eI ma (cT iV m)).holds from cW 4 U (bT B hm0a (by simp [nM]))) U fun l=>?_
 try dsimp only
 refine RK K<|aG ?_
 have A:(∀ p∈m,p∈m)∧(∀ p∈m,p∈m∨lf (cU ln ri e tms) p.1=false):=by exact ⟨fun p hp=>hp,fun p hp=> .inl hp⟩
 refine bS (ι:={z:FM // (∀ p∈z,p∈m)∧(∀ p∈m,p∈z∨lf (cU ln ri e tms) p.1=false)}) [0,3,4,12,13,23] [1,2,3,4,5,6,7,8,9] U U (fun z=>[]) (fun z=>[(D9 eI l ma (cT iV m) (cT iV z.1) none)]) (fun _=>rfl) (fun _=>rfl) (fun z=>z.1.length) ⟨m,A⟩ (dx.nil _) (aS [1,2,3,4,5,6,7,8,9,0]) ?_
 clear A
 rintro ⟨left,⟨C,D⟩⟩ J13 H
 try dsimp only
 refine WS fun _ F=>o9 pQ.inj (f:=iV) 9 U U U U (fun W=>?_) (fun t v hm i=>?_)
 ·refine bG 1 U<|RK F<|aq fun _ o=>ct U<|bL<|ai<|ai<|aI<|aO<|KK R<|ay<|rP 2 [] mn ?_
  refine aJ ?_
  rw [← Ix (w:=(cU ln ri e tms)) (k:=n) ((C4 (hfw.min _ _ B) (hfw.keys _ _ B)).symm.trans (M1 D W))]
  have S:(vI (((n+1):Nat):Int))=(vI ((n:Int)+1)):=by exact cI I
  refine bj (AB ⟨((n+1),a,c),(by first|omega|(simp only []; omega))⟩ _ _ _ U os (cQ 3<|bk U S<|dx.nil _) (aS [0,1,2,3,4,5,6,7,8]))
 try dsimp only
 refine bG 1 U<|RK F<|aq fun _ L=>aU U<|WK L<|aG<|WS fun _ M=>rS (SX (pt 9 U U U) U U)<|bG 1 U<|AL U vv fun q=>gl U tv U<|RK M<|WS fun _ N=>rP 2 [] (mc 0 U mn) ?_
 have j:=Kl hw _ _ (hfw.mem B (C _ hm))
 dsimp only at j
 refine rS (CL (P2 ln ri e tms e_A e_C tb t_A t_C fs bs fb f_A f_C bb b_A b_C gw t I hsg) (bq [1,2,3,4,5,6,7,8]) U)<|RK N<|bV U (fun E=>?_) (fun E=>?_)
 ·refine cx<|aO<|rp 10 U pM U ?_
  refine bj (H ⟨(fH left t),⟨nc C,Lp i hm D (by first|exact E|simpa using E)⟩⟩ _ _ _ U (nm hm) (bw U) (aS [1,2,3,4,5,6,7,8,9,10]))
 refine WS fun _ O=>rP 2 [] mn ?_
 refine eJ (xs:=[.tmp 32]) (cs:=[(vI (n:Int))]) U dJ kY U U U U (by simp [Value.cells]) U U fun r=>?_
 have hy:jX (cU ln ri e tms) (fwd (cU ln ri e tms) n)=true:=(C4 (hfw.min _ _ B) (hfw.keys _ _ B)).symm.trans (Pc (C _ hm) E)
 refine dR (es2:=(List.map iC (lh (cU ln ri e tms) (n+1)))) (m':=(lh (cU ln ri e tms) (n+1)).length) 10 U U U ti U U sm (br (es:=List.map iC [(n:Int)]) 0 U U (by simp [bR]) U) (lM _) (by have:=uk (w:=(cU ln ri e tms)) (k:=n); first|omega|(simp; omega)) (by have:=uk (w:=(cU ln ri e tms)) (k:=n); simp only [maxLen]; omega) (by rw [Fg hy]; simp) sm U fun AA V=>?_
 try dsimp only
 refine bG 1 U<|RK O<|bL<|fM U<|ai<|aI<|aO<|KK R<|ay<|rP 2 [] mn ?_
 refine aJ ?_
 have T:(vI (((n+1):Nat):Int))=(vI ((n:Int)+1)):=by exact cI I
 refine bj (AB ⟨((n+1),AA,V),(by first|omega|(simp only []; omega))⟩ _ _ _ U os (cQ 3<|bk U T<|dx.nil _) (aS [2,3,4,5,6,7,8,9,10]))
end
end Go.Proofs.YtijpnoadncadoaaGreatDoor
