/-
 The statement raceTimes_said, part 5 of 8: OrdX, TabP, NestS, Grp, Twin, Fresh, Bits, Ord6, B1, B4, B2, B3, B5, B6, Rc1, Frozen, MarkD, Marks, Follow, OpenM, V2, V1, V4, V3, V5, V6, V8, Wh2.
 Conditions: none.
-/
import Derived.Test.YtcoejkiaokbmpaaGreatDoorTm1
import Derived.Test.YtcoejkiaokbmpaaGreatDoorTm2
import Derived.Test.YtcoejkiaokbmpaaGreatDoorTm3
import Derived.Test.YtcoejkiaokbmpaaGreatDoorTm4
import Derived.KernelRfl
namespace Go.Proofs.YtcoejkiaokbmpaaGreatDoor
set_option maxRecDepth 100000
set_option maxHeartbeats 4000000
set_option linter.unusedVariables false
section
open Go.RowKit
section
variable {key:Int→Int} {l q m:List Int} {i j:Nat} {x y:Int}
theorem C9:1=1∧l=[]∨qS key l 1 l:=by
 cases l with
 |nil=>exact .inl ⟨rfl,rfl⟩
 |cons a l=>exact .inr (EE sm)
theorem H0 (h:i<l.length) (hd:i=1∧l=[]∨qS key l i m):qS key l i m:=by
 rcases hd with ⟨_,rfl⟩|hd
 ·simp at h
 ·exact hd
theorem EF (hi: ¬ i<l.length) (hl:m.length=l.length) (hd:i=1∧l=[]∨qS key l i m):m=bG key l:=by
 rcases hd with ⟨_,rfl⟩|hd
 ·exact iz hl
 ·exact Ew I hd
theorem GK (hx:q[j]? =some x) (hy:q[j-1]? =some y) (h: ∀ z∈q,z∈l): ∀ z∈(q.set j y).set (j-1) x,z∈l:=fun z hz=>by
 rcases List.mem_or_eq_of_mem_set hz with hz|rfl
 ·rcases List.mem_or_eq_of_mem_set hz with hz|rfl
  ·exact h z hz
  ·exact h _ (aI hy)
 ·exact h _ (aI hx)
theorem oJ {p:Int→Bool} (hx:l[i]? =some x) (h:p x=true):(l.take (i+1)).filter p=(l.take i).filter p++[x]:=by
 rw [nW hx,List.filter_append]; simp [h]
theorem BM {p:Int→Bool} (hx:l[i]? =some x) (h:p x=false):(l.take (i+1)).filter p=(l.take i).filter p:=by
 rw [nW hx,List.filter_append]; simp [h]
end
section
variable {r:cV} {h:Int} {n:Nat}
theorem uM (e: ¬ eN r=0):g6 r h=eN r:=if_neg e
theorem vc (e:eN r=0) (q: ¬ (0≤h∧h≤(r.ay.length:Int))):g6 r h=2:=by unfold g6; rw [if_pos e,if_neg q]
theorem o7 (e:eN r=0) (q:0≤h∧h≤(r.ay.length:Int)):g6 r h=0:=by unfold g6; rw [if_pos e,if_pos q]
theorem zY (hd:r.bo.length≤12):(eP r h).length≤12:=by
 unfold eP
 split
 ·split
  ·exact hd
  ·unfold xH
   simp only [g5,il]
   exact Nat.le_trans (List.length_filter_le _ _) hd
 ·simp
theorem o9 (e: ¬ g6 r h=0):eP r h=[]:=if_neg e
theorem l6 (e:g6 r h=0) (q:h=0):eP r h=r.bo:=by unfold eP; rw [if_pos e,if_pos q]
theorem oT (e:g6 r (n:Int)=0) (q: ¬ (n:Int)=0):eP r (n:Int)=xH r n:=by unfold eP; rw [if_pos e,if_neg q,Int.toNat_natCast]
theorem rN {k:Nat} {l:List Int} (hl:l=bG (fun i=>(aY (aN r n) i).Hi) (r.bo.filter fun i=>((aN r n).lookup i).isSome)) (hk:k=min r.i_.toNat l.length):oh k l=xH r n:=by subst hl; subst hk; rfl
theorem NI {m:lZ} {l:List Int} (hb: ∀ p∈m,0≤p.2.Lo∧p.2.Lo≤p.2.Hi∧p.2.Hi≤30000000): ∀ x∈l,0≤(aY m x).Hi∧(aY m x).Hi≤30000000:=fun x _=>by have:=tH (i:=x) hb; omega
end
end
section
def Kp (f:Int→aa) (g:List Int):Prop:= ∀ t,(∃ a∈g,(f a).Lo<t)→(∃ b∈g,t≤(f b).Lo)→ ∃ c∈g,(f c).Lo<t∧t≤(f c).Hi
def JD (f:Int→aa) (g h:List Int):Prop:= ∀ a∈g,∀ b∈h,(f a).Hi<(f b).Lo
structure LL (f:Int→aa) (keys:List Int) (G:List (List Int)):Prop where
 perm:G.flatten.Perm keys
 some_: ∀ g∈G,g≠[]
 apart:G.Pairwise (JD f)
 tight: ∀ g∈G,Kp f g
section
variable {f:Int→aa} {keys:List Int} {G G':List (List Int)} {g h:List Int} {x:Int}
end
section
variable {f:Int→aa} {p:List Int} {G:List (List Int)} {g:List Int} {x last:Int}
end
end
section
open Go.RowKit
/-- a map, or nil -/
def oC (o:Option Nat):List Value:=[Value.map o]
theorem xj {α:Type}: ∀ {ms:List α} {asl:List Nat},ms.length=asl.length→List.zipWith fz ms asl=(asl.map some).map oC
 |[],[],_=>rfl
 |[],_::_,h=>by simp at h
 |_::_,[],h=>by simp at h
 |x::ms,y::asl,h=>by simp only [List.zipWith_cons_cons,List.map_cons,xj (ms:=ms) (asl:=asl) (by simpa using h)]; rfl
/-- what stands for all but one -/
def gH {M A:Type} (f:M→A→List ao) (ms:List M) (asl:List A) (k:Nat):List ao:=aZ f (ms.take k) (asl.take k)++aZ f (ms.drop (k+1)) (asl.drop (k+1))
theorem pq {M A:Type} {f:M→A→List ao}: ∀ {ms:List M} {asl:List A} {k:Nat} {m:M} {a:A},ms[k]? =some m→asl[k]? =some a→(aZ f ms asl).Perm (f m a++gH f ms asl k)
 |[],_,k,m,a,h,_=>by simp at h
 |_::_,[],k,m,a,_,h=>by simp at h
 |x::ms,y::asl,0,m,a,h,h2=>by
  simp at h h2; subst h h2
  simp [gH,aZ]
 |x::ms,y::asl,k+1,m,a,h,h2=>by
  have ih:=pq (f:=f) (ms:=ms) (asl:=asl) (k:=k) (by simpa using h) (by simpa using h2)
  show (f x y++aZ f ms asl).Perm (f m a++gH f (x::ms) (y::asl) (k+1))
  have e:gH f (x::ms) (y::asl) (k+1)=f x y++gH f ms asl k:=by simp [gH,aZ,List.append_assoc]
  rw [e]
  refine (ih.append_left (f x y)).trans ?_
  rw [← List.append_assoc,← List.append_assoc]
  exact List.perm_append_comm.append_right _
theorem DA {M A:Type} {f:M→A→List ao} {ms:List M} {asl:List A} {k:Nat} {m':M}:gH f (ms.set k m') asl k=gH f ms asl k:=by
 unfold gH
 rw [List.take_set_of_le (Nat.le_refl k),List.drop_set_of_lt (Nat.lt_succ_self k)]
theorem rU {S:BS} {w0 w:World} {C X Y:List ao} (hp:X.Perm Y) (h:St S w0 (bM X::C) w):St S w0 (bM Y::C) w:=by
 have A:St S w0 (X++C) w:=h.gR
 exact (A.perm (hp.append_right C)).tied
theorem St.out {M A:Type} {f:M→A→List ao} {S:BS} {w0 w:World} {C:List ao} {ms:List M} {asl:List A} {k:Nat} {m:M} {a:A} {X:ao} (hm:ms[k]? =some m) (ha:asl[k]? =some a) (hf:f m a=[X]) (h:St S w0 (bM (aZ f ms asl)::C) w):St S w0 (X::bM (gH f ms asl k)::C) w:=by
 have B:=(rU (pq hm ha) h).gR
 rw [hf] at B
 have D:St S w0 (gH f ms asl k++(X::C)) w:=B.perm (List.perm_middle (a:=X) (l₁:=gH f ms asl k) (l₂:=C)).symm
 exact D.tied.perm (List.Perm.swap _ _ _)
theorem St.back {M A:Type} {f:M→A→List ao} {S:BS} {w0 w:World} {C:List ao} {ms:List M} {asl:List A} {k:Nat} {m':M} {a:A} {X:ao} (hk:k<ms.length) (ha:asl[k]? =some a) (hf:f m' a=[X]) (h:St S w0 (X::bM (gH f ms asl k)::C) w):St S w0 (bM (aZ f (ms.set k m') asl)::C) w:=by
 have B:St S w0 (bM (gH f ms asl k)::X::C) w:=h.perm (List.Perm.swap _ _ _)
 have D:=B.gR
 have E:St S w0 ((f m' a++gH f (ms.set k m') asl k)++C) w:=by
  rw [hf,DA]
  exact D.perm (List.perm_middle (a:=X) (l₁:=gH f ms asl k) (l₂:=C))
 exact rU (pq (List.getElem?_set_self hk) ha).symm E.tied
section
variable {E:eB} {ops:Array Oper} {Q:cM} {rest:List Oper} {D:List Deferred} {L:List (Nat×Value)} {C C1:List ao}
variable {M A:Type} {f:M→A→List ao} {ms:List M} {asl:List A} {k:Nat} {m:M} {a:A} {X:ao}
theorem BC {c:Code} (i:Nat) (hm:ms[k]? =some m) (ha:asl[k]? =some a) (hf:f m a=[X]) (hn:decide (i::(List.range C.length).filter fun k=>k != i).Nodup=true) (hC:jt C (i::(List.range C.length).filter fun k=>k != i)=bM (aZ f ms asl)::C1)
 (h:WJ E c Q D L (X::bM (gH f ms asl k)::C1)):WJ E c Q D L C:=fun a w hf' hs=>h a w hf' (St.out hm ha hf (St.jt _ hn hC hs))
theorem Fj {K:Act→World→Prop} (i j:Nat) (hk:k<ms.length) (ha:asl[k]? =some a) (hf:f m a=[X]) (hn:decide (j::i::(List.range C.length).filter fun k=>k != i&&k != j).Nodup=true) (hC:jt C (j::i::(List.range C.length).filter fun k=>k != i&&k != j)=X::bM (gH f ms asl k)::C1)
 (h:KJ E K D L (bM (aZ f (ms.set k m) asl)::C1)):KJ E K D L C:=fun a w hf' hs=>h a w hf' (St.back hk ha hf (St.jt _ hn hC hs))
end
end
section
open Go.RowKit
section
variable {M A:Type} {f:M→A→List ao} {ms:List M} {asl:List A} {k:Nat} {m:M} {a:A} {X:ao}
theorem FK {β:Type} {c:M→A→β}:(List.zipWith c ms asl).set k (c m a)=List.zipWith c (ms.set k m) (asl.set k a):=by
 apply List.ext_getElem?
 intro j
 rw [List.getElem?_set]
 by_cases e:k=j
 ·subst e
  rw [if_pos rfl,List.length_zipWith,List.getElem?_zipWith,List.getElem?_set,List.getElem?_set,if_pos rfl,if_pos rfl]
  by_cases B:k<ms.length
  ·by_cases C:k<asl.length
   ·rw [if_pos I,if_pos B,if_pos C]
   ·rw [if_neg I,if_pos B,if_neg C]
  ·rw [if_neg I,if_neg B]
 ·rw [if_neg e,List.getElem?_zipWith,List.getElem?_zipWith,List.getElem?_set_ne e,List.getElem?_set_ne e]
variable {E:eB} {ops:Array Oper} {Q:cM} {rest:List Oper} {D:List Deferred} {L:List (Nat×Value)} {C C1:List ao}
abbrev MQ (C:List ao) (i j:Nat):List Nat:=j::i::(List.range C.length).filter fun k=>k != i&&k != j
theorem Kx {K:Act→World→Prop} {Y Y':List ao} (i j:Nat) (hn:decide (MQ C i j).Nodup=true) (hC:vH C (MQ C i j)=some (X::bM Y::C1)) (e:Y++[X]=Y') (h:KJ E K D L (bM Y'::C1)):KJ E K D L C:=fun a w hf hs=>h a w hf ((St.jt _ hn (tf hC) hs).tie e)
end
section
variable {f:Int→aa} {L:List Int} {G:List (List Int)} {g:List Int} {x last:Int} {i j:Nat}
end
end
section
open Go.RowKit
theorem Bm (l:List al) (az:List RA): ∀ v∈(List.zipWith al.cells l az).flatten,v.oneCell'=true:=by
 induction l generalizing az with
 |nil=>intro v hv; simp at hv
 |cons x l ih=>
  cases az with
  |nil=>intro v hv; simp at hv
  |cons a az=>
   intro v hv
   rw [List.zipWith_cons_cons,List.flatten_cons,qa] at hv
   rcases hv with hv|hv
   ·simp [al.cells,cT.cells] at hv
    rcases hv with rfl|rfl<;>rfl
   ·exact ih az v hv
theorem jR {l:List al} {az:List RA} (h:az.length=l.length):(List.zipWith al.cells l az).length=l.length:=by simp [h]
/-- addresses, of which some are new -/
def pA (bz az:List RA) (i:Nat):List RA:=bz++az.drop i
theorem o2 {bz az:List RA} {i:Nat} (hb:bz.length=i) (hi:i≤az.length):(pA bz az i).length=az.length:=by simp [pA,hb]; omega
theorem EP {bz az:List RA} {i:Nat} (h:az.length≤i):pA bz az i=bz:=by unfold pA; rw [List.drop_eq_nil_of_le h,List.append_nil]
theorem By {bz az:List RA} {i:Nat} {a:RA} (hb:bz.length=i) (h:az[i]? =some a):(pA bz az i)[i]? =some a:=by
 unfold pA
 rw [List.getElem?_append_right I,hb,Nat.sub_self,List.getElem?_drop]
 simpa using h
theorem FD {bz az:List RA} {i:Nat} {a b:RA} (hb:bz.length=i) (h:az[i]? =some a):(pA bz az i).set i b=pA (bz++[b]) az (i+1):=by
 unfold pA
 have hi:=(List.getElem?_eq_some_iff.1 h).1
 rw [List.set_append_right _ _ I,hb,Nat.sub_self,List.drop_eq_getElem_cons hi,List.set_cons_zero]
 simp
theorem Iv {l:List al} {bz az:List RA} {i:Nat} {x:al} {xa nw:RA} (hx:l[i]? =some x) (hb:bz.length=i) (ha:az[i]? =some xa):
 (List.zipWith al.cells l (pA bz az i)).set i (al.cells x nw)=List.zipWith al.cells l (pA (bz++[nw]) az (i+1)):=by
 rw [← FD hb ha]
 apply List.ext_getElem?
 intro k
 rw [List.getElem?_set]
 by_cases e:i=k
 ·subst e
  have A:=By hb ha
  have B:=(List.getElem?_eq_some_iff.1 A).1
  have C:=(List.getElem?_eq_some_iff.1 hx).1
  rw [if_pos rfl,List.getElem?_zipWith,hx,List.getElem?_set_self B,if_pos (by simp; omega)]
 ·rw [if_neg e,List.getElem?_zipWith,List.getElem?_zipWith,List.getElem?_set_ne e]
theorem Dz {l:List al} {bz:List RA} {i:Nat} {x:al} {nw:RA} (hx:l[i]? =some x) (hb:bz.length=i):aZ al.owns (l.take i) bz++al.owns x nw=aZ al.owns (l.take (i+1)) (bz++[nw]):=by
 have hi:=(List.getElem?_eq_some_iff.1 hx).1
 rw [List.take_add_one,hx,Option.toList_some,iJ (by rw [List.length_take,hb]; omega)]
 simp [aZ]
theorem qK {l:List al} {bz:List RA}:(bM (aZ al.owns l bz)).wr=true:=by
 show (aZ al.owns l bz).all (·.wr)=true
 rw [eo]
 intro X hX
 obtain ⟨k,m,a,_,_,h⟩:=jn hX
 simp only [al.owns,cu] at h
 subst h; rfl
/-- what is known of new rows -/
def sk (l:List al) (bz:List RA):Prop:= ∀ (k:Nat) m (a:RA),l[k]? =some m→bz[k]? =some a→m.aK.length≤a.2
theorem FG {l:List al} {bz:List RA} {i:Nat} {x:al} {nw:RA} (h:sk l bz) (hb:bz.length=i) (hx:l[i]? =some x) (hc:x.aK.length≤nw.2):sk l (bz++[nw]):=fun k m a hm ha=>by
 by_cases e:k<bz.length
 ·rw [List.getElem?_append_left e] at ha
  exact h k m a hm ha
 ·rw [List.getElem?_append_right I] at ha
  have hk:k-bz.length=0:=by
   rcases Nat.eq_zero_or_pos (k-bz.length) with A|A
   ·exact A
   ·rw [List.getElem?_eq_none (by simp; omega)] at ha; cases ha
  rw [hk] at ha
  simp at ha
  have:k=i:=by omega
  subst this
  rw [hx] at hm; cases hm
  subst ha; exact hc
theorem o0: ∀ (m:al) (a:RA) (w:World),(∀ X∈al.owns m a,X.holds w)→ ∀ X∈al.fB m a,X.holds w:=fun m a w h X hX=>by
 simp only [al.fB,cu] at hX
 subst hX
 have:=mI (h _ (List.mem_singleton.2 rfl))
 simpa using this
theorem dF.KA {l:aQ} {az bz:List RA} (h:dF l az) (hb:bz.length=l.ah.length) (hc:sk l.ah bz):dF l bz:=⟨h.pO,h.side,h.pJ,hb,h.pQ,fun k m a hm ha=>⟨hc k m a hm ha,by
 obtain ⟨A,B⟩: ∃ A,az[k]? =some A:=⟨az[k]'(by rw [h.mE]; exact (List.getElem?_eq_some_iff.1 hm).1),e_ _⟩
 exact (h.NB k m A hm B).2⟩⟩
theorem ve {x y:al} {k:Nat} (h1:x.cJ=y.cJ) (h2:(x.aK.length:Int)=(y.aK.length:Int)) (hk:x.aK.length≤k) (h:x.aK.take k=y.aK.take k):x=y:=by
 cases x; cases y
 simp only [al.mk.injEq] at *
 rw [List.take_of_length_le hk,List.take_of_length_le I] at h
 exact ⟨h1,h⟩
theorem fH {l m:aQ} (h1:l.aH=m.aH) (h2:l.gY=m.gY) (h3:l.cQ=m.cQ) (h4:l.eO=m.eO) (h5:l.cW=m.cW) (h6:l.ah=m.ah) (h7:l.ab=m.ab):l=m:=by
 cases l; cases m; simp_all
section
variable {E:eB} {ops:Array Oper} {Q:cM} {rest:List Oper} {D:List Deferred} {L:List (Nat×Value)} {C:List ao}
theorem MG {a:OA} {c e sz:Nat} {es:List (List Value)} (i:Nat) (hC:C[i]? =some (own a c e sz es)) (k:es.length≤c→RJ E ops Q rest D L C):RJ E ops Q rest D L C:=fun act w hf hs=>
 k (te (hs.holds _ (aI hC))) act w hf hs
end
end
section
open Go.RowKit
def z3 (m:aw) (a:RA):List ao:=[own a.1 a.2 MF 2 (m.bO.ag.map aD.cells)]
def tQ (m:List aw) (a:dv):List ao:=own a.1.1 a.1.2 MU 7 (List.zipWith aw.cells m a.2)::aZ z3 m a.2
theorem K2: ∀ (m:aw) (a:RA) (w:World),(∀ X∈z3 m a,X.holds w)→ ∀ X∈aw.fB m a,X.holds w:=fun m a w h X hX=>by
 simp only [aw.fB,cu] at hX
 subst hX
 have:=mI (h _ (List.mem_singleton.2 rfl))
 simpa using this
theorem lp {m:List aw} {asl:List RA} (h:asl.length=m.length):(List.zipWith aw.cells m asl).length=m.length:=by simp [h]
theorem gn {m:List (List aw)} {asl:List dv} (h:asl.length=m.length):(List.zipWith c_ m asl).length=m.length:=by simp [h]
theorem Hy {m:List aw} {asl:List RA}:(aZ z3 m asl).all (·.wr)=true:=by
 rw [eo]
 intro X hX
 obtain ⟨k,d,a,_,_,h⟩:=jn hX
 simp only [z3,cu] at h
 subst h; rfl
theorem Gc {m:List (List aw)} {asl:List dv}:(bM (aZ tQ m asl)).wr=true:=by
 show (aZ tQ m asl).all (·.wr)=true
 rw [eo]
 intro X hX
 obtain ⟨k,d,a,_,_,h⟩:=jn hX
 rcases List.mem_cons.1 h with rfl|h
 ·rfl
 ·exact List.all_eq_true.1 Hy X h
theorem IC (l:List aw) (az:List RA): ∀ v∈(List.zipWith aw.cells l az).flatten,v.oneCell'=true:=by
 induction l generalizing az with
 |nil=>intro v hv; simp at hv
 |cons x l ih=>
  cases az with
  |nil=>intro v hv; simp at hv
  |cons a az=>
   intro v hv
   rw [List.zipWith_cons_cons,List.flatten_cons,qa] at hv
   rcases hv with hv|hv
   ·simp [aw.cells,bq.cells,dZ.cells,aa.cells] at hv
    rcases hv with rfl|rfl|rfl|rfl|rfl|rfl|rfl<;>rfl
   ·exact ih az v hv
theorem Cy (l:List (List aw)) (az:List dv): ∀ v∈(List.zipWith c_ l az).flatten,v.oneCell'=true:=by
 induction l generalizing az with
 |nil=>intro v hv; simp at hv
 |cons x l ih=>
  cases az with
  |nil=>intro v hv; simp at hv
  |cons a az=>
   intro v hv
   rw [List.zipWith_cons_cons,List.flatten_cons,qa] at hv
   rcases hv with hv|hv
   ·simp [c_] at hv; subst hv; rfl
   ·exact ih az v hv
/-- every heat has as many places as descents -/
def Iz (H:List (List aw)) (hz:List dv):Prop:=hz.length=H.length∧ ∀ (k:Nat) h (a:dv),H[k]? =some h→hz[k]? =some a→a.2.length=h.length
theorem Iu {a:OA} {c e sz n:Nat} {es:List (List Value)} {w:World} (h:(own a c e sz es).holds w) (hn:es.length=n):(rd a n sz es).holds w:=by subst hn; exact mI h
theorem m6 {C:List ao} {H:List (List aw)} {hz:List dv} (i:Nat) (hC:C[i]? =some (bM (aZ tQ H hz))) (hh:Iz H hz):fR C (eg (aZ gP H hz)).holds:=fun w hw X hX=>by
 have hb:=hw _ (aI hC)
 obtain ⟨k,m,a,A,B,D⟩:=jn hX
 rcases List.mem_cons.1 D with rfl|D
 ·exact Iu (hb.1 _ (bk A B ck)) (lp (hh.2 k m a A B))
 ·obtain ⟨q,d,b,E,F,G⟩:=jn D
  exact K2 d b w (fun Y hY=>hb.1 Y (bk A B (dq _ (bk E F hY)))) X G
section
variable {α:Type}
def j9 (bz az:List α) (i:Nat):List α:=bz++az.drop i
variable {bz az:List α} {i:Nat} {a b:α}
theorem gz (hb:bz.length=i) (hi:i≤az.length):(j9 bz az i).length=az.length:=by simp [j9,hb]; omega
theorem yg (h:az.length≤i):j9 bz az i=bz:=by unfold j9; rw [List.drop_eq_nil_of_le h,List.append_nil]
theorem BD (hb:bz.length=i) (h:az[i]? =some a):(j9 bz az i)[i]? =some a:=by
 unfold j9
 rw [List.getElem?_append_right I,hb,Nat.sub_self,List.getElem?_drop]
 simpa using h
theorem Gf (hb:bz.length=i):(j9 (bz++[b]) az (i+1))[i]? =some b:=by
 unfold j9
 rw [List.getElem?_append_left (by simp; omega),List.getElem?_append_right I,hb,Nat.sub_self]; rfl
theorem Fq (hb:bz.length=i) (h:az[i]? =some a):(j9 bz az i).set i b=j9 (bz++[b]) az (i+1):=by
 unfold j9
 have hi:=(List.getElem?_eq_some_iff.1 h).1
 rw [List.set_append_right _ _ I,hb,Nat.sub_self,List.drop_eq_getElem_cons hi,List.set_cons_zero]
 simp
theorem zg {M β:Type} {c:M→α→β} {l:List M} {x:M} (hx:l[i]? =some x) (hb:bz.length=i) (h:az[i]? =some a):(List.zipWith c l (j9 bz az i)).set i (c x b)=List.zipWith c l (j9 (bz++[b]) az (i+1)):=by
 rw [FK,Fq hb h]
 congr 1
 obtain ⟨hi,rfl⟩:=List.getElem?_eq_some_iff.1 hx
 exact List.set_getElem_self hi
theorem tS {M:Type} {f:M→α→List ao} {l:List M} {x:M} (hx:l[i]? =some x) (hb:bz.length=i):aZ f (l.take i) bz++f x b=aZ f (l.take (i+1)) (bz++[b]):=by
 have hi:=(List.getElem?_eq_some_iff.1 hx).1
 rw [List.take_add_one,hx,Option.toList_some,iJ (by rw [List.length_take,hb]; omega)]
 simp [aZ]
end
theorem zf: ∀ {l:List (List aw)} {u v:List dv},u.map (·.1)=v.map (·.1)→List.zipWith c_ l u=List.zipWith c_ l v
 |[],u,v,_=>by simp
 |x::l,[],[],_=>rfl
 |x::l,[],b::v,h=>by simp at h
 |x::l,a::u,[],h=>by simp at h
 |x::l,a::u,b::v,h=>by
  simp only [List.map_cons,List.cons.injEq] at h
  rw [List.zipWith_cons_cons,List.zipWith_cons_cons,zf h.2]
  have e:c_ x a=c_ x b:=by simp only [c_,h.1]
  rw [e]
theorem F4 {l:List (List aw)} {hz ha:List dv} {p:RA} {x y:List RA} {i:Nat}:List.zipWith c_ l (j9 (hz++[(p,x)]) ha i)=List.zipWith c_ l (j9 (hz++[(p,y)]) ha i):=zf (by simp [j9])
theorem H6 {H:List (List aw)} {hz:List dv} {i:Nat} {x:List aw} {b:dv} (hx:H[i]? =some x) (h: ∀ (k:Nat) y (a:dv),H[k]? =some y→hz[k]? =some a→a.2.length=y.length) (hb:hz.length=i) (hl:b.2.length=x.length): ∀ (k:Nat) y (a:dv),H[k]? =some y→(hz++[b])[k]? =some a→a.2.length=y.length:=fun k y a hy ha=>by
 by_cases e:k<hz.length
 ·rw [List.getElem?_append_left e] at ha
  exact h k y a hy ha
 ·rw [List.getElem?_append_right I] at ha
  have hk:k-hz.length=0:=by
   rcases Nat.eq_zero_or_pos (k-hz.length) with A|A
   ·exact A
   ·rw [List.getElem?_eq_none (by simp; omega)] at ha; cases ha
  rw [hk] at ha
  simp at ha
  have:k=i:=by omega
  subst this
  rw [hx] at hy; cases hy
  subst ha; exact hl
theorem Il {S:BS} {w0 w:World} {C:List ao} {A:ao} {Y Z:List ao} (h:St S w0 (A::bM Y::bM Z::C) w):St S w0 (bM (Z++A::Y)::C) w:=by
 have D:St S w0 (bM Y::A::bM Z::C) w:=h.perm (List.Perm.swap _ _ _)
 have E:St S w0 (Y++(A::bM Z::C)) w:=D.gR
 have F:St S w0 (bM Z::(A::Y)++C) w:=E.perm (by
  have B:(Y++(A::bM Z::C)).Perm ((A::bM Z::C)++Y):=List.perm_append_comm
  refine B.trans ?_
  show (A::bM Z::(C++Y)).Perm (bM Z::A::(Y++C))
  exact (List.Perm.swap _ _ _).trans (((List.perm_append_comm (l₁:=C) (l₂:=Y)).cons A).cons _))
 have G:St S w0 (Z++((A::Y)++C)) w:=F.gR
 have H:St S w0 ((Z++A::Y)++C) w:=by simpa using G
 exact H.tied
abbrev M4 (C:List ao) (i j k:Nat):List Nat:=k::j::i::(List.range C.length).filter fun q=>q != i&&q != j&&q != k
section
variable {E:eB} {ops:Array Oper} {Q:cM} {rest:List Oper} {D:List Deferred} {L:List (Nat×Value)} {C C1:List ao} {K:Act→World→Prop}
variable {H:List (List aw)} {hz:List dv} {h h':List aw} {a a':dv} {k:Nat} {X:ao} {Y Z Z':List ao}
/-- i: the others, j: what hangs on the row, q: the row -/
theorem Kl (i j q:Nat) (hn:decide (M4 C i j q).Nodup=true) (hC:vH C (M4 C i j q)=some (X::bM Y::bM Z::C1)) (e:Z++X::Y=Z') (hk:KJ E K D L (bM Z'::C1)):KJ E K D L C:=fun a w hf hs=>by
 subst e; exact hk a w hf (Il (St.jt _ hn (tf hC) hs))
end
theorem mR {d e:aw}:d=e↔d.Out=e.Out∧d.de=e.de∧d.Time=e.Time∧d.bO.Start=e.bO.Start∧d.bO.eX=e.bO.eX∧d.bO.ag=e.bO.ag:=by
 obtain ⟨a,b,c,⟨x,y,z⟩⟩:=d
 obtain ⟨A,B,C,⟨D,E,F⟩⟩:=e
 simp only [aw.mk.injEq,cf.mk.injEq]
theorem jE {r q:cV} (h1:r.aF=q.aF) (h2:r.aT=q.aT) (h3:r.bo=q.bo) (h4:r.i_=q.i_) (h5:r.ay=q.ay):r=q:=by
 cases r; cases q; simp_all
theorem fZ.KA {r:cV} {az bz:List RA} {ha hz:List dv} (h:fZ r az ha) (hb:bz.length=r.aF.ah.length) (hc:sk r.aF.ah bz) (hh:Iz r.ay hz):fZ r bz hz:=⟨h.line.KA hb hc,h.iE,h.draw,h.iG,hh.1,fun k x a hx ha'=>by
 obtain ⟨A,C⟩: ∃ A,ha[k]? =some A:=⟨ha[k]'(by rw [h.has]; exact (List.getElem?_eq_some_iff.1 hx).1),e_ _⟩
 have B:=h.mH k x A hx C
 exact ⟨B.len,hh.2 k x a hx ha',B.sig⟩⟩
end
section
open Go.RowKit
section
variable {P:Program} {t:TypeId} {x y:Operand}
theorem Kk {e:TypeId} {a:OA} {n c:Nat} (ht:P.underlying t=some (.slice e)):fG P .eql t x y (.slice a n c) (.slice none 0 0) (.bool (decide (a=none))):=fun w=>by
 have A:(Op.equal t (.slice a n c) (.slice none 0 0)).run P w= .ok (decide (a=none)) w:=by
  unfold Op.equal
  show (Op.equalIn (9999+1) t (.slice a n c) (.slice none 0 0)).run P w=_
  unfold Op.equalIn
  cases a<;>simp [run_underlying ht]
 have B:eqGuard .eql t x y (.slice a n c) (.slice none 0 0)=pure ():=rfl
 rw [B]
 show (Sem.run P (do let b ← Op.equal t (.slice a n c) (.slice none 0 0); pure (vB b)) w)=_
 simp [A]
end
section
variable {E:eB} {ops:Array Oper} {Q:cM} {rest:List Oper} {D:List Deferred} {L:List (Nat×Value)} {C:List ao}
variable {dst:Option Tmp} {d:Nat} {ty:TypeId} {ps:String} {af:Array Edge} {g:Option (Nat×Bool)}
/-- a row that lies nowhere is empty -/
theorem GS {a:OA} {n sz:Nat} {es:List (List Value)} (hR:fR C (rd a n sz es).holds) (ha:a=none) (hz:0<sz) (k:es=[]→RJ E ops Q rest D L C):RJ E ops Q rest D L C:=fun act w hf hs=>by
 refine k ?_ act w hf hs
 obtain ⟨F,G,B⟩:=hs.has hR
 rcases Nat.eq_zero_or_pos (n*sz) with h|h
 ·have:n=0:=by
   rcases Nat.mul_eq_zero.1 h with h|h
   ·exact h
   ·omega
  exact iz I
 ·obtain ⟨ad,A,_⟩:=B h
  rw [ha] at A; cases A
theorem KW {a:OA} {c e sz:Nat} {es:List (List Value)} (i:Nat) (hC:C[i]? =some (own a c e sz es)) (k:es.length≤c→RJ E ops Q rest D L C):RJ E ops Q rest D L C:=fun act w hf hs=>
 k (te (hs.holds _ (aI hC))) act w hf hs
theorem BW {A:ao} (i:Nat) (h:C[i]? =some A.ro):fR C A.holds:=fun w hw=>by
 have B:=hw A.ro (aI h)
 exact B
end
end
section
open Go.RowKit
section
variable {r:cV} {n q:Nat} {x:Int}
theorem AI:(aN r n).lookup (q:Int)=if q<r.aT.length then eu r.aF r.ay q n else none:=m8 _ _
theorem rv (hx:0≤x∧x≤(r.aT.length:Int)-1):(aN r n).lookup x=eu r.aF r.ay x.toNat n:=by
 have:=AI (r:=r) (n:=n) (q:=x.toNat)
 rw [if_pos I] at this
 rwa [show (x.toNat:Int)=x by omega] at this
end
section
variable {key:Int→Int} {l D:List Int} {x y u:Int} {k n i:Nat}
theorem ti (hup:DS key l) (hk:k≤l.length) (hA:k=0∨ ∃ y,l[k-1]? =some y∧key y≤key x) (hB: ∀ y∈l.drop k,key x<key y):l.take k++[x]++l.drop k=ry key l x:=by
 have D: ∀ y∈l.take k,key y≤key x:=fun y hy=>by
  obtain ⟨q,hq,rfl⟩:=List.mem_iff_getElem.1 hy
  rw [List.length_take] at hq
  rw [List.getElem_take]
  rcases hA with rfl|⟨z,hz,B⟩
  ·omega
  ·obtain ⟨A,rfl⟩:=List.getElem?_eq_some_iff.1 hz
   by_cases e:q=k-1
   ·subst e; exact B
   ·have:=List.pairwise_iff_getElem.1 hup q (k-1) I A I
    omega
 have C:=pY (key:=key) (x:=x) D hB
 rw [List.take_append_drop] at C
 rw [C]; simp
theorem DB (hk:0<k) (hy:l[k-1]? =some y) (h:key x<key y) (hB: ∀ z∈l.drop k,key x<key z): ∀ z∈l.drop (k-1),key x<key z:=fun z hz=>by
 obtain ⟨A,rfl⟩:=List.getElem?_eq_some_iff.1 hy
 rw [List.drop_eq_getElem_cons A] at hz
 rcases List.mem_cons.1 hz with rfl|hz
 ·exact h
 ·rw [show k-1+1=k by omega] at hz; exact hB z hz
def rM (l:List Int) (n i:Nat) (D:List Int):Prop:=D.length=l.length∧ ∀ p,p<l.length→D[p]? =l[if p<i then n-1-p else p]?
theorem yr:rM l n 0 l:=⟨rfl,fun p _=>by rw [if_neg (Nat.not_lt_zero p)]⟩
theorem xW (hi:i<n) (h:rM l n i D) (hu:l[n-1-i]? =some u):rM l n (i+1) (D.set i u):=by
 refine ⟨by rw [List.length_set]; exact h.1,fun p hp=>?_⟩
 by_cases e:p=i
 ·subst e
  rw [List.getElem?_set_self (by rw [h.1]; exact hp),if_pos I,hu]
 ·rw [List.getElem?_set_ne (fun q=>e q.symm),h.2 p hp]
  by_cases c:p<i
  ·rw [if_pos c,if_pos I]
  ·rw [if_neg c,if_neg I]
theorem AR (hn:n≤l.length) (hi:i=n) (h:rM l n i D):D=oh n l:=by
 subst hi
 apply List.ext_getElem?
 intro p
 by_cases hp:p<l.length
 ·rw [h.2 p hp]
  unfold oh
  by_cases c:p<i
  ·rw [if_pos c,List.getElem?_append_left (by rw [List.length_reverse,List.length_take]; omega),List.getElem?_reverse (by rw [List.length_take]; omega),List.length_take,Nat.min_eq_left hn,List.getElem?_take,if_pos (show i-1-p<i by omega)]
  ·rw [if_neg c,List.getElem?_append_right (by rw [List.length_reverse,List.length_take]; omega),List.length_reverse,List.length_take,Nat.min_eq_left hn,List.getElem?_drop,show i+(p-i)=p by omega]
 ·rw [List.getElem?_eq_none (by rw [h.1]; omega),List.getElem?_eq_none (by rw [g5]; omega)]
end
theorem Er {E:eB} {c:Code} {Q:cM} {D:List Deferred} {L:List (Nat×Value)} {C:List ao} {a:OA} {k e sz:Nat} {es:List (List Value)} (i:Nat) (hC:C[i]? =some (own a k e sz es)) (h:es.length≤k→WJ E c Q D L C):WJ E c Q D L C:=fun act w hf hs=>
 h (te (hs.holds _ (aI hC))) act w hf hs
end
section
open Go.RowKit
theorem ng (n lo hi:Int):
 dL Tryz.prog 117 [(vI n),(vI lo),(vI hi)] [] (vB (decide (lo≤n∧n≤hi))):=by
 refine bu kr Tryz.func117 U U fun D Q hQ hN=>?_
 try dsimp only
 refine WS fun _ B=>bp 1 U<|RK B<|WS fun _ A=>rP 4 [] mn ?_
 refine cr (t:=10) U (aO fun C=>?_) (aP fun C=>?_)
 ·refine rP 5 [] mn ?_
  refine RK A<|an<|Q1 hQ U U U ?_
  exact cB (decide_eq_decide.2 I)
 refine rP 5 [] mn ?_
 refine RK A<|an<|Q1 hQ U U U ?_
 exact cB (bw I).symm
theorem nH (s:aa) (lo hi:Int):
 dL Tryz.prog 118 [(vA (aa.cells s)),(vI lo),(vI hi)] [] (vB (decide (s.Lo≤s.Hi∧lo≤s.Lo∧s.Hi≤hi))):=by
 refine bu kr Tryz.func118 U U fun E Q hQ hN=>?_
 try dsimp only
 refine WS fun _ B=>eQ U fun D=>bp 1 U<|RK B<|WS fun _ A=>eZ 5 [] (mc 0 U mn) U<|rS (CL (ng s.Lo lo s.Hi) (aR) U)<|rP 1 [] mn ?_
 refine dY (t:=13) U (aP fun C=>?_) (aO fun C=>?_)
 ·refine rP 6 [] mn ?_
  refine RK A<|an<|Q1 hQ U U U ?_
  exact cB (bw I).symm
 refine rP 6 [] (mc 0 U mn) ?_
 refine RK A<|an<|Q1 hQ U U U ?_
 exact cB (decide_eq_decide.2 I)
theorem Ik (t:List aj) (tA:OA) (tC:Nat):
 dL Tryz.prog 61 [(vA (bB.cells (bB.mk (bE.mk tA t.length tC))))] [(rd tA t.length 9 (t.map aj.cells))] (vB (decide (20<(t.length:Int)))):=by
 refine bu kr Tryz.func61 U U fun D Q hQ hN=>?_
 try dsimp only
 refine WS fun _ A=>eQ U fun C=>bp 1 U<|RK A<|WS fun _ B=>rP 5 [] (mc 0 U mn) ?_
 refine RK B<|an ?_
 exact Q1 hQ U U U U
theorem It (l:List Int) (lA:OA) (lC:Nat) (f:Value) (p:Int→Bool) (X:ao) (hf: ∀ x0,x0∈l→AF Tryz.prog f [.int .i64 x0] [X] (.bool (p x0))) (hlen:l.length≤1000000):
 dL Tryz.prog 96 [(vS lA l.length lC),f] [(rd lA l.length 1 (l.map iC)),X] (vI (qC p l)):=by
 refine bu kr Tryz.func96 U U fun R Q hQ hN=>?_
 try dsimp only
 refine WS fun _ G=>bp 1 U<|RK G<|ai fun _ H=>WS fun _ AA=>rP 3 [] mn ?_
 refine RK AA<|av ?_
 have B:(0≤l.length)∧((l.take 0).any p=false):=by simp
 refine bI (ι:={z:Nat // (z≤l.length)∧((l.take z).any p=false)}) [0,1,7] [0,1] U U (fun z=>[(8,(vI (z.1:Int)))]) (fun z=>[]) (fun _=>rfl) (fun _=>rfl) (fun z=>l.length-z.1) ⟨0,B⟩ (aU U) (aC [0,1]) ?_
 clear B
 rintro ⟨i,⟨N,A⟩⟩ J4 F
 try dsimp only
 refine WS fun _ J=>rP 1 [] mn ?_
 refine RK J<|ai fun _ K=>bH U (aP fun P=>?_) (aO fun P=>?_)
 ·refine bx<|ae<|ae<|ax<|KK H<|WS fun _ E=>rP 1 [] mn ?_
  refine RK E<|an<|Q1 hQ U U U ?_
  exact cI (pZ I A).symm
 refine WK K<|ai fun _ L=>av<|WS fun _ M=>bp 2 U<|RK M<|WS fun _ C=>rP 3 [] mn ?_
 obtain ⟨x,hx⟩:=aB l i I
 have O:=br iC hx
 refine rS (IA i U (aq 0 U) cN dc I I)<|rS (fE i 0 (vI x) U bQ (aq 0 U) O U dc U)<|rS (SX (pV U U U (hf x (aI hx)) (bf [1])) U U)<|RK C<|cw U (fun hp=>?_) (fun hp=>?_)
 ·refine WS fun _ D=>rP 2 [] mn ?_
  refine RK D<|an<|Q1 hQ U U U ?_
  exact cI (vb hx hp A).symm
 refine cy<|aG<|KK L<|ak<|rP 2 [] mn ?_
 refine aA ?_
 refine aS (F ⟨(i+1),⟨I,vr hx A hp⟩⟩ _ _ _ U os (aU U) (aC [0,1]))
theorem qd (l:List Int) (lA:OA) (lC:Nat) (f:Value) (p:Int→Bool) (X:ao) (hf: ∀ x0,x0∈l→AF Tryz.prog f [.int .i64 x0] [X] (.bool (p x0))) (hlen:l.length≤1000000):
 dL Tryz.prog 72 [(vS lA l.length lC),f] [(rd lA l.length 1 (l.map iC)),X] (vB (l.any p)):=by
 refine bu kr Tryz.func72 U U fun C Q hQ hN=>?_
 try dsimp only
 refine WS fun _ A=>bp 1 U<|RK A<|WS fun _ B=>bp 2 U<|rS (CL (It l lA lC f p X (by exact hf) hlen) (bf [0,1]) U)<|rP 2 [] mn ?_
 refine RK B<|an<|Q1 hQ U U U ?_
 exact cB sb
theorem Dl (n lo hi:Int) (g1 g2:Nat):
 dL Tryz.prog 152 [(vI n),(vP g1),(vP g2)] [(cd g1 3 [(vI lo)]),(cd g2 3 [(vI hi)])] (vB (decide (n<lo∨hi<n))):=by
 refine bu kr Tryz.func152 U U fun D Q hQ hN=>?_
 try dsimp only
 refine WS fun _ B=>bp 1 U<|RK B<|WS fun _ A=>rP 4 [] (mr 0 U mn) ?_
 refine cr (t:=8) U (aO fun C=>?_) (aP fun C=>?_)
 ·refine rP 5 [] mn ?_
  refine RK A<|an<|Q1 hQ U U U ?_
  exact cB (dw I).symm
 refine rP 5 [] (mr 1 U mn) ?_
 refine RK A<|an<|Q1 hQ U U U ?_
 exact cB (decide_eq_decide.2 I)
theorem nc (lo hi:Int) (l:List Int) (lA:OA) (lC:Nat) (hlen:l.length≤1000000):
 dL Tryz.prog 125 [(vI lo),(vI hi),(vS lA l.length lC)] [(rd lA l.length 1 (l.map iC))] (vB (oa lo hi l)):=by
 refine bu kr Tryz.func125 U U fun F Q hQ hN=>?_
 try dsimp only
 refine WS fun _ D=>xp U U fun A=>xp U U fun B=>bp 1 U<|RK D<|WS fun _ E=>rP 1 [] mn ?_
 refine rS (FU U) ?_
 refine rS (CL (qd l lA lC (Value.func (.func 152) [].toArray [(vP A),(vP B)].toArray) (fun C=>(decide (C<lo∨hi<C))) (eg [(cd A 3 [(vI lo)]),(cd B 3 [(vI hi)])]) (by intro C _; exact mB (fi:=[]) (ca:=[(vP A),(vP B)]) (kU (Dl C lo hi A B) (bf [0,1]))) hlen) (fM 2 U U<|aL (kR (bf [1,0]))<|aR) U) ?_
 refine rP 2 [] mn ?_
 refine RK E<|an ?_
 exact Q1 hQ U U U U
theorem tp (s:aa) (lo hi:Int):
 dL Tryz.prog 126 [(vA (aa.cells s)),(vI lo),(vI hi)] [] (vB (decide (s.Lo≤s.Hi∧lo≤s.Lo∧s.Hi≤hi))):=by
 refine bu kr Tryz.func126 U U fun F Q hQ hN=>?_
 try dsimp only
 refine WS fun _ B=>eQ U fun E=>bp 1 U<|RK B<|WS fun _ A=>rP 6 [] (mc 0 U mn) ?_
 refine fw (xs:=[.tmp 10,.tmp 12]) (cs:=[(vI s.Lo),(vI s.Hi)]) U cN lX U U U U (by simp [Value.cells]) U U fun C=>?_
 refine rS (CL (dL.eq (nc lo hi ([s.Lo,s.Hi]) (some ⟨C,0,none⟩) 2 (by (simp; done))) r_) (aL (bj 0 U U (by simp [bW]) U)<|aR) U) ?_
 refine rP 1 [] mn ?_
 refine dY (t:=15) U (aP fun D=>?_) (aO fun D=>?_)
 ·refine rP 7 [] mn ?_
  refine RK A<|an<|Q1 hQ U U U ?_
  exact cB (bw I).symm
 refine rP 7 [] (mc 1 U mn) ?_
 refine RK A<|an<|Q1 hQ U U U ?_
 exact cB (decide_eq_decide.2 I)
theorem td (ts:List aj) (tsA:OA) (tsC:Nat) (hlen:ts.length≤1000000):
 dL Tryz.prog 89 [(vA (bB.cells (bB.mk (bE.mk tsA ts.length tsC))))] [(rd tsA ts.length 9 (ts.map aj.cells))] (vB (cK ts)):=by
 refine bu kr Tryz.func89 U U fun w0 Q hQ hN=>?_
 try dsimp only
 refine WS fun _ Ab=>eQ U fun b2=>bp 1 U<|RK Ab<|ai fun _ Ac=>WS fun _ Ad=>eZ 3 [] (mc 0 U mn) U<|rS (CL (ng (ts.length:Int) 1 12) (aR) U)<|rP 1 [] mn ?_
 refine RK Ad<|cw U (aW fun h5=>?_) (aX fun h5=>?_)
 ·refine WS fun _ Ae=>rP 1 [] mn ?_
  refine RK Ae<|an<|Q1 hQ U U U ?_
  exact cB (mh I).symm
 refine WK Ac<|ai fun _ Af=>WS fun _ Ag=>rP 1 [] mn ?_
 refine RK Ag<|av ?_
 have E:(0≤ts.length)∧(dQ (-1) ts=dQ (fc ts 0) (ts.drop 0))∧(-1≤fc ts 0):=by (refine ⟨I,rfl,by simp [fc]⟩)
 refine bI (ι:={z:Nat // (z≤ts.length)∧(dQ (-1) ts=dQ (fc ts z) (ts.drop z))∧(-1≤fc ts z)}) [1] [0,1] U U (fun z=>[(3,(vI (z.1:Int)))]) (fun z=>[]) (fun _=>rfl) (fun _=>rfl) (fun z=>ts.length-z.1) ⟨0,E⟩ (aU U) (aC [0,1]) ?_
 clear E
 rintro ⟨i,⟨Ah,A,Aj⟩⟩ J9 D
 try dsimp only
 have hz:i=0→fc ts i= -1:=zi
 refine ai fun _ K=>WS fun _ L=>rP 5 [] (mc 0 U mn) ?_
 refine RK L<|bH U (aP fun AA=>?_) (aO fun AA=>?_)
 ·refine bx<|ae<|ae<|ax<|KK Af<|WS fun _ w=>rP 1 [] mn ?_
  refine RK w<|an<|Q1 hQ U U U ?_
  exact cB (sB A I I).symm
 refine WK K<|ai fun _ C=>av<|WS fun _ M=>rP 3 [] (mc 0 U mn) ?_
 obtain ⟨x,hx⟩:=aB ts i I
 have Ak:=br aj.cells hx
 refine rS (IA i U (aq 1 U) u6 dc I I)<|rS (j0 i 0 (aj.cells x) U bQ (aq 1 U) Ak U dc U U)<|AL U Gm fun Am=>fg U Fg U<|RK M<|ai fun _ F=>ai fun _ B=>cU bX 38 kr<|lg 2 [] (mc 0 U mn) U<|dS (CL (ng x.Id 0 9999) (aR) U)<|dP 2 [] mn ?_
 refine gX (t:=26) U (aW fun AB=>?_) (aX fun AB=>?_)
 ·refine jY 11 U<|jY 22 U<|cv<|RK B<|aJ U<|WS fun _ N=>rP 1 [] mn ?_
  refine RK N<|an<|Q1 hQ U U U ?_
  exact cB (df A hx (by simp only [bD,di]; omega)).symm
 refine dP 3 [] mn ?_
 refine fU (t:=29) U (aP fun AC=>?_) (aO fun AC=>?_)
 ·refine jY 8 U<|jY 6 U<|dS (LP (aa.cells x.ia) 0 U bQ U U U)<|dS (CL (nH x.ia 1 30000) (aR) U)<|dP 3 [] mn ?_
  refine gX (t:=48) U (aW fun AQ=>?_) (aX fun AQ=>?_)
  ·refine jY 11 U<|cv<|RK B<|aJ U<|WS fun _ e=>rP 1 [] mn ?_
   refine RK e<|an<|Q1 hQ U U U ?_
   exact cB (df A hx (by simp only [bD,di]; omega)).symm
  refine jY 1 U<|dS (LP (aa.cells x.jh) 0 U bQ U U U)<|dS (CL (nH x.jh 0 5000) (aR) U)<|dP 3 [] mn ?_
  refine gX (t:=54) U (aW fun AR=>?_) (aX fun AR=>?_)
  ·refine jY 5 U<|cv<|RK B<|aJ U<|WS fun _ f=>rP 1 [] mn ?_
   refine RK f<|an<|Q1 hQ U U U ?_
   exact cB (df A hx (by simp only [bD,di]; omega)).symm
  refine lg 2 [] (mc 0 U mn) U<|dS (CL (ng x.u3 0 5000) (aR) U)<|dP 2 [] mn ?_
  refine cv<|RK B<|cw U (aW fun AS=>?_) (aX fun AS=>?_)
  ·refine WS fun _ g=>rP 1 [] mn ?_
   refine RK g<|an<|Q1 hQ U U U ?_
   exact cB (df A hx (by simp only [bD,di]; omega)).symm
  refine WK F<|WS fun _ j=>eZ 2 [] (mc 0 U mn) U<|RK j<|av<|WS fun _ k=>rS (BI U pD)<|rP 1 [] mn ?_
  refine RK k<|cw U (aO fun AT=>?_) (aP fun AT=>?_)
  ·refine WS fun _ Ap=>rP 5 [] (mc 0 U mn) ?_
   refine cr (t:=68) U (aW fun AU=>?_) (aX fun AU=>?_)
   ·refine bp 5 U<|RK Ap<|aJ U<|WS fun _ l=>rP 1 [] mn ?_
    refine RK l<|an<|Q1 hQ U U U ?_
    exact cB (df A hx (by simp only [bD,di]; omega)).symm
   refine rP 5 [] (mc 0 U mn) ?_
   refine RK Ap<|bH U (aX fun AV=>?_) (aW fun AV=>?_)
   ·refine cy<|aG<|aG<|KK C<|ak<|rP 3 [] mn ?_
    refine aA ?_
    refine aS (D ⟨(i+1),⟨I,fP A hx (by simp only [bD,di]; omega),by rw [e8 hx]; omega⟩⟩ _ _ _ U os (aU U) (aC [1,2]))
   refine WS fun _ m=>rP 1 [] mn ?_
   refine RK m<|an<|Q1 hQ U U U ?_
   exact cB (df A hx (by simp only [bD,di]; omega)).symm
  refine ai fun _ J=>WS fun _ o=>rS (BI U pD)<|rP 1 [] mn ?_
  refine RK o<|cw U (aO fun AW=>?_) (aP fun AW=>?_)
  ·refine WK J<|bH U (aP fun AX=>?_) (aO fun AX=>?_)
   ·refine WS fun _ r=>rP 1 [] mn ?_
    refine RK r<|an<|Q1 hQ U U U ?_
    exact cB (mh I).symm
   refine WS fun _ p=>bp 1 U<|rS (LP (aa.cells x.dh) 0 U bQ U U U)<|rS (CL (nH x.dh 500 20000) (aR) U)<|rP 1 [] mn ?_
   refine RK p<|bH U (aX fun AY=>?_) (aW fun AY=>?_)
   ·refine cy<|aG<|aG<|KK C<|ak<|rP 3 [] mn ?_
    refine aA ?_
    refine aS (D ⟨(i+1),⟨I,fP A hx (by simp only [bD,di]; omega),by rw [e8 hx]; omega⟩⟩ _ _ _ U os (aU U) (aC [1,2]))
   refine WS fun _ q=>rP 1 [] mn ?_
   refine RK q<|an<|Q1 hQ U U U ?_
   exact cB (df A hx (by simp only [bD,di]; omega)).symm
  refine ak<|rS (BI U pD)<|rP 1 [] mn ?_
  refine RK J<|bH U (aP fun AZ=>?_) (aO fun AZ=>?_)
  ·refine WS fun _ v=>rP 1 [] mn ?_
   refine RK v<|an<|Q1 hQ U U U ?_
   exact cB (df A hx (by simp only [bD,di]; omega)).symm
  refine WS fun _ s=>bp 1 U<|rS (LP (aa.cells x.dh) 0 U bQ U U U)<|rS (CL (nH x.dh 500 20000) (aR) U)<|rP 1 [] mn ?_
  refine RK s<|bH U (aX fun Aa=>?_) (aW fun Aa=>?_)
  ·refine cy<|aG<|aG<|KK C<|ak<|rP 3 [] mn ?_
   refine aA ?_
   refine aS (D ⟨(i+1),⟨I,fP A hx (by simp only [bD,di]; omega),by rw [e8 hx]; omega⟩⟩ _ _ _ U os (aU U) (aC [1,2]))
  refine WS fun _ u=>rP 1 [] mn ?_
  refine RK u<|an<|Q1 hQ U U U ?_
  exact cB (df A hx (by simp only [bD,di]; omega)).symm
 refine dP 6 [0,1] (mc 0 U (mc 1 U mn)) ?_
 obtain ⟨y,hy⟩:=aB ts (i-1) I
 have Al:=br aj.cells hy
 refine dS (IA (i-1) U (aq 2 U) u6 dc I I)<|dS (mF ((i-1)*9) U (aq 2 U) (Nat.mul_pos I dc) fq U) ?_
 have Ao:=Ai I hy
 refine dS (fE (i-1) 0 (vI y.Id) U bQ (aq 2 U) Al U dc U)<|dP 4 [] mn ?_
 refine gX (t:=42) U (aO fun AD=>?_) (aP fun AD=>?_)
 ·refine jY 17 U<|cv<|RK B<|aJ U<|WS fun _ O=>rP 1 [] mn ?_
  refine RK O<|an<|Q1 hQ U U U ?_
  exact cB (df A hx (by simp only [bD,di]; omega)).symm
 refine jY 1 U<|dS (LP (aa.cells x.ia) 0 U bQ U U U)<|dS (CL (nH x.ia 1 30000) (aR) U)<|dP 3 [] mn ?_
 refine gX (t:=48) U (aW fun AE=>?_) (aX fun AE=>?_)
 ·refine jY 11 U<|cv<|RK B<|aJ U<|WS fun _ P=>rP 1 [] mn ?_
  refine RK P<|an<|Q1 hQ U U U ?_
  exact cB (df A hx (by simp only [bD,di]; omega)).symm
 refine jY 1 U<|dS (LP (aa.cells x.jh) 0 U bQ U U U)<|dS (CL (nH x.jh 0 5000) (aR) U)<|dP 3 [] mn ?_
 refine gX (t:=54) U (aW fun AF=>?_) (aX fun AF=>?_)
 ·refine jY 5 U<|cv<|RK B<|aJ U<|WS fun _ R=>rP 1 [] mn ?_
  refine RK R<|an<|Q1 hQ U U U ?_
  exact cB (df A hx (by simp only [bD,di]; omega)).symm
 refine lg 2 [] (mc 0 U mn) U<|dS (CL (ng x.u3 0 5000) (aR) U)<|dP 2 [] mn ?_
 refine cv<|RK B<|cw U (aW fun AG=>?_) (aX fun AG=>?_)
 ·refine WS fun _ S=>rP 1 [] mn ?_
  refine RK S<|an<|Q1 hQ U U U ?_
  exact cB (df A hx (by simp only [bD,di]; omega)).symm
 refine WK F<|WS fun _ T=>eZ 2 [] (mc 0 U mn) U<|RK T<|av<|WS fun _ An=>rS (BI U pD)<|rP 1 [] mn ?_
 refine RK An<|cw U (aO fun AH=>?_) (aP fun AH=>?_)
 ·refine WS fun _ G=>rP 5 [] (mc 0 U mn) ?_
  refine cr (t:=68) U (aW fun AI=>?_) (aX fun AI=>?_)
  ·refine bp 5 U<|RK G<|aJ U<|WS fun _ V=>rP 1 [] mn ?_
   refine RK V<|an<|Q1 hQ U U U ?_
   exact cB (df A hx (by simp only [bD,di]; omega)).symm
  refine rP 5 [] (mc 0 U mn) ?_
  refine RK G<|bH U (aX fun AJ=>?_) (aW fun AJ=>?_)
  ·refine cy<|aG<|aG<|KK C<|ak<|rP 3 [] mn ?_
   refine aA ?_
   refine aS (D ⟨(i+1),⟨I,fP A hx (by simp only [bD,di]; omega),by rw [e8 hx]; omega⟩⟩ _ _ _ U os (aU U) (aC [1,2]))
  refine WS fun _ W=>rP 1 [] mn ?_
  refine RK W<|an<|Q1 hQ U U U ?_
  exact cB (df A hx (by simp only [bD,di]; omega)).symm
 refine ai fun _ H=>WS fun _ X=>rS (BI U pD)<|rP 1 [] mn ?_
 refine RK X<|cw U (aO fun AK=>?_) (aP fun AK=>?_)
 ·refine WK H<|bH U (aP fun AM=>?_) (aO fun AM=>?_)
  ·refine WS fun _ a=>rP 1 [] mn ?_
   refine RK a<|an<|Q1 hQ U U U ?_
   exact cB (mh I).symm
  refine WS fun _ Y=>bp 1 U<|rS (LP (aa.cells x.dh) 0 U bQ U U U)<|rS (CL (nH x.dh 500 20000) (aR) U)<|rP 1 [] mn ?_
  refine RK Y<|bH U (aX fun AN=>?_) (aW fun AN=>?_)
  ·refine cy<|aG<|aG<|KK C<|ak<|rP 3 [] mn ?_
   refine aA ?_
   refine aS (D ⟨(i+1),⟨I,fP A hx (by simp only [bD,di]; omega),by rw [e8 hx]; omega⟩⟩ _ _ _ U os (aU U) (aC [1,2]))
  refine WS fun _ Z=>rP 1 [] mn ?_
  refine RK Z<|an<|Q1 hQ U U U ?_
  exact cB (df A hx (by simp only [bD,di]; omega)).symm
 refine ak<|rS (BI U pD)<|rP 1 [] mn ?_
 refine RK H<|bH U (aP fun AO=>?_) (aO fun AO=>?_)
 ·refine WS fun _ d=>rP 1 [] mn ?_
  refine RK d<|an<|Q1 hQ U U U ?_
  exact cB (df A hx (by simp only [bD,di]; omega)).symm
 refine WS fun _ b=>bp 1 U<|rS (LP (aa.cells x.dh) 0 U bQ U U U)<|rS (CL (nH x.dh 500 20000) (aR) U)<|rP 1 [] mn ?_
 refine RK b<|bH U (aX fun AP=>?_) (aW fun AP=>?_)
 ·refine cy<|aG<|aG<|KK C<|ak<|rP 3 [] mn ?_
  refine aA ?_
  refine aS (D ⟨(i+1),⟨I,fP A hx (by simp only [bD,di]; omega),by rw [e8 hx]; omega⟩⟩ _ _ _ U os (aU U) (aC [1,2]))
 refine WS fun _ c=>rP 1 [] mn ?_
 refine RK c<|an<|Q1 hQ U U U ?_
 exact cB (df A hx (by simp only [bD,di]; omega)).symm
theorem xV (ts:List aj) (tsA:OA) (tsC:Nat) (hlen:ts.length≤1000000) (hside: ∀ x∈ts,0≤x.gI∧x.gI≤255):
 dL Tryz.prog 92 [(vA (bB.cells (bB.mk (bE.mk tsA ts.length tsC))))] [(rd tsA ts.length 9 (ts.map aj.cells))] (vI (if cK ts=true then 0 else 10)):=by
 refine bu kr Tryz.func92 U U fun w0 Q hQ hN=>?_
 try dsimp only
 refine WS fun _ y=>eQ U fun b2=>bp 1 U<|RK y<|wU U<|ai fun _ AA=>WS fun _ AB=>rP 3 [] (mc 0 U mn) ?_
 refine fw (xs:=[.tmp 11]) (cs:=[(vI (ts.length:Int))]) U cN lX U U U U (by simp [Value.cells]) U U fun b5=>?_
 refine rS (CL (dL.eq (nc 1 12 ([(ts.length:Int)]) (some ⟨b5,0,none⟩) 1 (by (simp; done))) cZ) (aL (bj 0 U U (by simp [bW]) U)<|aR) U) ?_
 refine rP 1 [] mn ?_
 refine RK AB<|cw U (aW fun h6=>?_) (aX fun h6=>?_)
 ·refine WS fun _ AC=>rP 1 [] mn ?_
  refine RK AC<|an<|Q1 hQ U U U ?_
  exact cI (if_neg (by rw [mh I]; decide)).symm
 refine WK AA<|WS fun _ AD=>bp 1 U<|RK AD<|WS fun _ AE=>bp 1 U<|RK AE<|ai fun _ J=>xo<|KK J<|ai fun _ B=>WS fun _ K=>rP 4 [] (mc 1 U mn) ?_
 refine RK K<|av ?_
 have D:(0≤ts.length)∧(dQ (-1) ts=dQ (fc ts 0) (ts.drop 0))∧(-1≤fc ts 0)∧(fc ts 0≤9999):=by (refine ⟨I,rfl,by simp [fc],by simp [fc]⟩)
 refine bI (ι:={z:Nat // (z≤ts.length)∧(dQ (-1) ts=dQ (fc ts z) (ts.drop z))∧(-1≤fc ts z)∧(fc ts z≤9999)}) [1,4,16,17] [1,2] U U (fun z=>[(3,(vI (fc ts z.1))),(18,(vI (z.1:Int)))]) (fun z=>[]) (fun _=>rfl) (fun _=>rfl) (fun z=>ts.length-z.1) ⟨0,D⟩ (aU U) (aC [1,2]) ?_
 clear D
 rintro ⟨i,⟨AF,A,AG,AH⟩⟩ J13 E
 try dsimp only
 refine WS fun _ L=>rP 1 [] mn ?_
 refine RK L<|ai fun _ M=>bH U (aP fun l=>?_) (aO fun l=>?_)
 ·refine bx<|ae<|ae<|ax<|KK B<|WS fun _ O=>rP 2 [] mn ?_
  refine RK O<|an<|Q1 hQ U U U ?_
  exact cI (if_pos (sB A I I)).symm
 refine WK M<|ai fun _ F=>av<|WS fun _ N=>?_
 obtain ⟨x,hx⟩:=aB ts i I
 have AI:=br aj.cells hx
 refine rS (IA i U (aq 1 U) u6 dc I I) ?_
 have AN:=hside x (aI hx)
 refine rS (j0 i 0 (aj.cells x) U bQ (aq 1 U) AI U dc U U)<|AL U Gm fun AJ=>fg U Fg U<|RK N ?_
 refine mu (ι:=Unit) [1,3,4,6,16,17,18] [0,1,2] U U (fun z=>[(7,(vB (decide (x.gI=0∧x.dh.Lo=0∧x.dh.Hi=0))))]) (fun z=>[]) (fun _=>rfl) (fun _=>rfl) ?_ fun K20 G=>?_
 ·intro _
  try dsimp only
  refine mu (ι:=Unit) [1,3,4,6,7,16,17,18] [0,1,2] U U (fun z=>[(8,(vB (decide ((1≤x.gI∧x.gI≤2)∧x.dh.Lo≤x.dh.Hi∧500≤x.dh.Lo∧x.dh.Hi≤20000))))]) (fun z=>[]) (fun _=>rfl) (fun _=>rfl) ?_ fun K21 H=>?_
  ·intro _
   try dsimp only
   refine ai fun _ AM=>WS fun _ C=>rP 4 [] (mc 0 U mn) ?_
   refine fw (xs:=[.tmp 44]) (cs:=[(vI x.Id)]) U cN lX U U U U (by simp [Value.cells]) U U fun j=>?_
   refine rS (CL (dL.eq (nc ((fc ts i)+1) 9999 ([x.Id]) (some ⟨j,0,none⟩) 1 (by (simp; done))) cZ) (aL (bj 0 U U (by simp [bW]) U)<|aR) U) ?_
   refine rP 2 [] mn ?_
   refine cr (t:=48) U (aW fun q=>?_) (aX fun q=>?_)
   ·refine bp 26 U<|RK C<|aJ U<|WS fun _ P=>bp 1 U<|RK P<|bx<|ae<|gd U<|ae<|ae<|ax<|KK B<|WS fun _ R=>rP 2 [] mn ?_
    refine RK R<|an<|Q1 hQ U U U ?_
    exact cI (if_neg (by rw [df A hx (by simp only [bD,di]; omega)]; decide)).symm
   refine bp 1 U<|rS (LP (aa.cells x.ia) 1 U bQ U U U)<|rS (CL (tp x.ia 1 30000) (aR) U)<|rP 3 [] mn ?_
   refine cr (t:=54) U (aW fun r=>?_) (aX fun r=>?_)
   ·refine bp 20 U<|RK C<|aJ U<|WS fun _ S=>bp 1 U<|RK S<|bx<|ae<|gd U<|ae<|ae<|ax<|KK B<|WS fun _ T=>rP 2 [] mn ?_
    refine RK T<|an<|Q1 hQ U U U ?_
    exact cI (if_neg (by rw [df A hx (by simp only [bD,di]; omega)]; decide)).symm
   refine bp 1 U<|rS (LP (aa.cells x.jh) 1 U bQ U U U)<|rS (CL (tp x.jh 0 5000) (aR) U)<|rP 3 [] mn ?_
   refine cr (t:=60) U (aW fun s=>?_) (aX fun s=>?_)
   ·refine bp 14 U<|RK C<|aJ U<|WS fun _ AK=>bp 1 U<|RK AK<|bx<|ae<|gd U<|ae<|ae<|ax<|KK B<|WS fun _ V=>rP 2 [] mn ?_
    refine RK V<|an<|Q1 hQ U U U ?_
    exact cI (if_neg (by rw [df A hx (by simp only [bD,di]; omega)]; decide)).symm
   refine rP 2 [] (mc 1 U mn) ?_
   refine fw (xs:=[.tmp 62]) (cs:=[(vI x.u3)]) U cN lX U U U U (by simp [Value.cells]) U U fun k=>?_
   refine rS (CL (dL.eq (nc 0 5000 ([x.u3]) (some ⟨k,0,none⟩) 1 (by (simp; done))) cZ) (aL (bj 0 U U (by simp [bW]) U)<|aR) U) ?_
   refine rP 3 [] mn ?_
   refine cr (t:=67) U (aW fun u=>?_) (aX fun u=>?_)
   ·refine bp 7 U<|RK C<|aJ U<|WS fun _ W=>bp 1 U<|RK W<|bx<|ae<|gd U<|ae<|ae<|ax<|KK B<|WS fun _ X=>rP 2 [] mn ?_
    refine RK X<|an<|Q1 hQ U U U ?_
    exact cI (if_neg (by rw [df A hx (by simp only [bD,di]; omega)]; decide)).symm
   refine rP 3 [] mn ?_
   refine dY (t:=70) U (aX fun v=>?_) (aW fun v=>?_)
   ·refine bp 4 U<|RK C<|bU U<|WK AM<|ak<|eZ 3 [] (mc 2 U mn) U<|aA<|aG<|KK F<|ak<|rP 2 [] mn ?_
    refine aA ?_
    have f:(vI (fc ts (i+1)))=(vI x.Id):=by rw [e8 hx]
    refine aS (E ⟨(i+1),⟨I,fP A hx (by simp only [bD,di]; omega),by rw [e8 hx]; omega,by rw [e8 hx]; omega⟩⟩ _ _ _ U os (cE 4<|aV U f<|aU U) (aC [3,4]))
   refine rP 4 [] mn ?_
   refine RK C<|bH U (aX fun w=>?_) (aW fun w=>?_)
   ·refine WK AM<|ak<|eZ 3 [] (mc 2 U mn) U<|aA<|aG<|KK F<|ak<|rP 2 [] mn ?_
    refine aA ?_
    have e:(vI (fc ts (i+1)))=(vI x.Id):=by rw [e8 hx]
    refine aS (E ⟨(i+1),⟨I,fP A hx (by simp only [bD,di]; omega),by rw [e8 hx]; omega,by rw [e8 hx]; omega⟩⟩ _ _ _ U os (cE 4<|aV U e<|aU U) (aC [3,4]))
   refine WS fun _ Y=>bp 1 U<|RK Y<|bx<|ae<|gd U<|ae<|ae<|ax<|KK B<|WS fun _ Z=>rP 2 [] mn ?_
   refine RK Z<|an<|Q1 hQ U U U ?_
   exact cI (if_neg (by rw [df A hx (by simp only [bD,di]; omega)]; decide)).symm
  refine ak<|rP 2 [] (mc 0 U mn) ?_
  refine rS (SX (tq (m:=x.gI) U U Mm p_ (sr (by first|assumption|omega))) U U)<|fw (xs:=[.tmp 33]) (cs:=[(vI x.gI)]) U cN lX U U U U (by simp [Value.cells]) U U fun g=>?_
  refine rS (CL (dL.eq (nc 1 2 ([x.gI]) (some ⟨g,0,none⟩) 1 (by (simp; done))) cZ) (aL (bj 0 U U (by simp [bW]) U)<|aR) U) ?_
  refine rP 1 [] mn ?_
  refine dY (t:=36) U (aP fun p=>?_) (aO fun p=>?_)
  ·refine rP 5 [] mn ?_
   refine aA ?_
   have d:(decide ((1≤x.gI∧x.gI≤2)∧x.dh.Lo≤x.dh.Hi∧500≤x.dh.Lo∧x.dh.Hi≤20000))=false:=bw I
   refine aS (iy (cE 8<|lH U d<|cS.nil _) (aC [1,2,3]) (H ()))
  refine bp 1 U<|rS (LP (aa.cells x.dh) 1 U bQ U U U)<|rS (CL (tp x.dh 500 20000) (aR) U)<|rP 2 [] mn ?_
  refine aA ?_
  have c:(decide ((1≤x.gI∧x.gI≤2)∧x.dh.Lo≤x.dh.Hi∧500≤x.dh.Lo∧x.dh.Hi≤20000))=(decide (x.dh.Lo≤x.dh.Hi∧500≤x.dh.Lo∧x.dh.Hi≤20000)):=decide_eq_decide.2 I
  refine aS (iy (cE 8<|lH U c<|cS.nil _) (aC [1,2,3]) (H ()))
 refine ak<|eZ 2 [] (mc 0 U mn) U<|rS (BI U pD)<|rP 1 [] mn ?_
 refine dY (t:=25) U (aP fun o=>?_) (aO fun o=>?_)
 ·refine rP 6 [] mn ?_
  refine aA ?_
  have b:(decide (x.gI=0∧x.dh.Lo=0∧x.dh.Hi=0))=false:=bw I
  refine aS (iy (cE 7<|lH U b<|cS.nil _) (aC [0,1,2]) (G ()))
 refine bp 1 U<|rS (LP (aa.cells x.dh) 0 U bQ U U U)<|rS (SX (bg (xs:=[]) (cs:=(aa.cells (aa.mk 0 0))) U U (bh eM U)) U U)<|rS (BI U (q7 _ _ x.dh (aa.mk 0 0)))<|rP 2 [] mn ?_
 refine aA ?_
 have a:(decide (x.gI=0∧x.dh.Lo=0∧x.dh.Hi=0))=(decide (x.dh=(aa.mk 0 0))):=decide_eq_decide.2 (by (simp only [aa.ext_iff] at *; omega))
 refine aS (iy (cE 7<|lH U a<|cS.nil _) (aC [0,1,2]) (G ()))
theorem K9 (ts:List aj) (tsA:OA) (tsC:Nat) (hlen:ts.length≤1000000):
 pH Tryz.prog 69 [(vA (bB.cells (bB.mk (bE.mk tsA ts.length tsC))))] [(rd tsA ts.length 9 (ts.map aj.cells))] (fun (x:(OA)×Nat)=>(vA (bB.cells (bB.mk (bE.mk x.1 ts.length x.2))))) (fun (x:(OA)×Nat)=>True) (fun (x:(OA)×Nat)=>[(own x.1 x.2 163 9 (ts.map aj.cells))]):=by
 refine fm kr Tryz.func69 U U fun H Q hQ hN=>?_
 try dsimp only
 refine WS fun _ A=>eQ U fun F=>AL U OT fun G=>RK A<|WS fun _ B=>mX U u6 U fun E=>rP 2 [] (mc 2 U mn) ?_
 refine fp (es:=(List.map aj.cells [])) (C':=[own (some ⟨E,0,none⟩) 0 163 9 (List.map aj.cells []),_,_,_]) 0 U sm U (by simp [maxLen]) U ?_
 refine cG (es2:=(List.map aj.cells ts)) (m':=ts.length) 0 U U U O2 U U sm (aq 3 U) (qc _) os (by first|(simp only [maxLen]; omega)|(simp [maxLen]; omega)) sm sm U fun C D=>?_
 try dsimp only
 refine rS (SX (bg (xs:=[(0,.tmp 6)]) (cs:=(bB.cells (bB.mk (bE.mk C ts.length D)))) U U (bh Ow U)) U U)<|qf U Mu U<|RK B<|an<|LX hQ (C,D) [0] [0] (mc 1 U mn) U U U U ?_
 trivial
theorem JE (la:List aj) (laA:OA) (laC:Nat) (lb:List aj) (lbA:OA) (lbC:Nat) (h1:la.length≤1000000) (h2:lb.length≤1000000):
 dL Tryz.prog 76 [(vA (bB.cells (bB.mk (bE.mk laA la.length laC)))),(vA (bB.cells (bB.mk (bE.mk lbA lb.length lbC))))] [(rd laA la.length 9 (la.map aj.cells)),(rd lbA lb.length 9 (lb.map aj.cells))] (vB (decide (la=lb))):=by
 refine bu kr Tryz.func76 U U fun X Q hQ hN=>?_
 try dsimp only
 refine WS fun _ L=>eQ U fun V=>eQ U fun W=>bp 1 U<|RK L<|ai fun _ M=>WS fun _ N=>rP 7 [0,1] (mc 1 U (mc 0 U mn)) ?_
 refine RK N<|cw U (aW fun hl=>?_) (aX fun hl=>?_)
 ·refine WS fun _ O=>rP 1 [] mn ?_
  refine RK O<|an<|Q1 hQ U U U ?_
  first|exact cB (bw (lT hx hy h)).symm|exact cB (dw (b_ I A I)).symm|exact cB (bw (fun e=>by subst e; omega)).symm
 refine WK M<|ai fun _ P=>WS fun _ R=>rP 1 [] mn ?_
 refine RK R<|av ?_
 have B:(0≤la.length)∧(la.take 0=lb.take 0):=by simp
 refine bI (ι:={z:Nat // (z≤la.length)∧(la.take z=lb.take z)}) [2,3] [0,1,2,3] U U (fun z=>[(5,(vI (z.1:Int)))]) (fun z=>[]) (fun _=>rfl) (fun _=>rfl) (fun z=>la.length-z.1) ⟨0,B⟩ (aU U) (aC [0,1,2,3]) ?_
 clear B
 rintro ⟨i,⟨S,A⟩⟩ J9 K
 try dsimp only
 refine ai fun _ C=>WS fun _ D=>rP 5 [] (mc 1 U mn) ?_
 refine RK D<|bH U (aP fun J=>?_) (aO fun J=>?_)
 ·refine bx<|ae<|ae<|ax<|KK P<|WS fun _ H=>rP 1 [] mn ?_
  refine RK H<|an<|Q1 hQ U U U ?_
  first|exact cB (bw (lT hx hy h)).symm|exact cB (dw (b_ I A I)).symm|exact cB (bw (fun e=>by subst e; omega)).symm
 refine WK C<|ai fun _ E=>av<|ai fun _ F=>cU bX 11 kr<|dP 3 [] (mc 1 U mn) ?_
 obtain ⟨x,hx⟩:=aB la i I
 have T:=br aj.cells hx
 refine dS (IA i U (aq 2 U) u6 dc I I)<|dS (j0 i 0 (aj.cells x) U bQ (aq 2 U) T U dc U U)<|dP 3 [] (mc 0 U mn) ?_
 obtain ⟨y,hy⟩:=aB lb i I
 have AA:=br aj.cells hy
 refine dS (IA i U (aq 3 U) u6 dc I I)<|dS (j0 i 0 (aj.cells y) U bQ (aq 3 U) AA U dc U U)<|dS (BI U (Jz _ _ x y))<|cv<|RK F<|cw U (aW fun h=>?_) (aX fun h=>?_)
 ·refine WS fun _ G=>rP 1 [] mn ?_
  refine RK G<|an<|Q1 hQ U U U ?_
  first|exact cB (bw (lT hx hy h)).symm|exact cB (dw (b_ I A I)).symm|exact cB (bw (fun e=>by subst e; omega)).symm
 refine cy<|aG<|KK E<|ak<|rP 3 [] mn ?_
 refine aA ?_
 have AB:(vI (((i+1):Nat):Int))=(vI ((i:Int)+1)):=by exact cI I
 refine aS (K ⟨(i+1),⟨I,ir A hx hy h⟩⟩ _ _ _ U os (cS.cons U<|cS.cons U<|aV U AB<|cS.nil _) (aC [0,1,2,3]))
end
section
open Go.RowKit
theorem Fp (n lo hi:Int) (g1 g2:Nat):
 dL Tryz.prog 153 [(vI n),(vP g1),(vP g2)] [(cd g1 3 [(vI lo)]),(cd g2 3 [(vI hi)])] (vB (decide (n<lo∨hi<n))):=by
 refine bu kr Tryz.func153 U U fun D Q hQ hN=>?_
 try dsimp only
 refine WS fun _ B=>bp 1 U<|RK B<|WS fun _ A=>rP 4 [] (mr 0 U mn) ?_
 refine cr (t:=8) U (aO fun C=>?_) (aP fun C=>?_)
 ·refine rP 5 [] mn ?_
  refine RK A<|an<|Q1 hQ U U U ?_
  exact cB (dw I).symm
 refine rP 5 [] (mr 1 U mn) ?_
 refine RK A<|an<|Q1 hQ U U U ?_
 exact cB (decide_eq_decide.2 I)
theorem gQ (lo hi:Int) (l:List Int) (lA:OA) (lC:Nat) (hlen:l.length≤1000000):
 dL Tryz.prog 128 [(vI lo),(vI hi),(vS lA l.length lC)] [(rd lA l.length 1 (l.map iC))] (vB (oa lo hi l)):=by
 refine bu kr Tryz.func128 U U fun F Q hQ hN=>?_
 try dsimp only
 refine WS fun _ D=>xp U U fun A=>xp U U fun B=>bp 1 U<|RK D<|WS fun _ E=>rP 1 [] mn ?_
 refine rS (FU U) ?_
 refine rS (CL (qd l lA lC (Value.func (.func 153) [].toArray [(vP A),(vP B)].toArray) (fun C=>(decide (C<lo∨hi<C))) (eg [(cd A 3 [(vI lo)]),(cd B 3 [(vI hi)])]) (by intro C _; exact mB (fi:=[]) (ca:=[(vP A),(vP B)]) (kU (Fp C lo hi A B) (bf [0,1]))) hlen) (fM 2 U U<|aL (kR (bf [1,0]))<|aR) U) ?_
 refine rP 2 [] mn ?_
 refine RK E<|an ?_
 exact Q1 hQ U U U U
theorem OJ (n d:Int) (hd:2≤d):
 dL Tryz.prog 155 [(vI n),(vI d)] [] (vI (Nl n d)):=by
 refine bu kr Tryz.func155 U U fun C Q hQ hN=>?_
 try dsimp only
 refine WS fun _ A=>bp 1 U<|RK A<|WS fun _ B=>bp 2 U<|rS (BI U Ks)<|rS (BI U F8)<|bp 1 U<|rS (BI U (Ju I (Le (Nk _) hd)))<|rP 1 [] mn ?_
 refine RK B<|an ?_
 exact Q1 hQ U U U U
theorem I5 (n d:Int) (hd:1≤d∧d≤1000000) (hn:0≤n∧n≤1000000000000000):
 dL Tryz.prog 155 [(vI n),(vI d)] [] (vI (nv n d)):=by
 refine bu kr Tryz.func155 U U fun C Q hQ hN=>?_
 try dsimp only
 refine WS fun _ A=>bp 1 U<|RK A<|WS fun _ B=>bp 5 U<|rS (BI U (oS I I I))<|rP 1 [] mn ?_
 refine RK B<|an ?_
 exact Q1 hQ U U U U
theorem B4 (c:al) (sA:OA) (sC:Nat) (at_:Int) (hc:ed c) (ha:0≤at_∧at_≤90000000):
 dL Tryz.prog 218 [(vA (cT.cells (cT.mk c.cJ (bE.mk sA c.aK.length sC)))),(vI at_)] [(rd sA c.aK.length 3 (c.aK.map bY.cells))] (vA (aa.cells (gp c at_))):=by
 have X:=hc.len
 have J:=hc.pI
 refine bu kr Tryz.func218 U U fun e Q hQ hN=>?_
 try dsimp only
 refine WS fun _ M=>eQ U fun b=>AL U cR fun d=>RK M<|WS fun _ N=>rS (SX (bg (xs:=[(0,.const (vI (-1099511627776))),(1,.const (vI 1099511627776))]) (cs:=(aa.cells (aa.mk (-1099511627776) 1099511627776))) U U (bh eM U)) U U)<|AL U cR fun W=>fg U bS U<|RK N<|ai fun _ O=>ai fun _ P=>?_
 have R:(aa.cells (aa.mk (-1099511627776) 1099511627776))=(aa.cells (fj c at_ 0)):=by rfl
 rw [R]
 refine ak<|rP 4 [] (mc 2 U mn) ?_
 refine RK P<|av ?_
 have A:(0≤c.aK.length):=by exact Nat.zero_le _
 refine bI (ι:={z:Nat // (z≤c.aK.length)}) [1,2,4,5,11,12] [1,2,3] U U (fun z=>[(13,(vI (z.1:Int)))]) (fun z=>[(cd W 47 (aa.cells (fj c at_ z.1)))]) (fun _=>rfl) (fun _=>rfl) (fun z=>c.aK.length-z.1) ⟨0,A⟩ (aU U) (aC [1,2,3,0]) ?_
 clear A
 rintro ⟨i,S⟩ J9 L
 try dsimp only
 refine WS fun _ B=>rP 1 [] mn ?_
 refine RK B<|ai fun _ C=>bH U (aP fun K=>?_) (aO fun K=>?_)
 ·refine bx<|ae<|ae<|ax<|KK O<|WS fun _ G=>rP 1 [] (mc 3 U mn) ?_
  refine fg U bS U<|RK G<|an<|Ir hQ [0] (mc 0 U mn) U ?_
  rw [lE (show c.aK.length≤i by omega)]
 refine WK C<|ai fun _ D=>av<|WS fun _ E=>?_
 obtain ⟨x,hx⟩:=aB c.aK i I
 have AA:=br bY.cells hx
 refine rS (IA i U (aq 2 U) ml dc I I)<|rS (j0 i 0 (bY.cells x) U bQ (aq 2 U) AA U dc U U)<|AL U qU fun V=>fg U qh U<|RK E<|WS fun _ F=>rP 5 [0,1] (mc 2 U (mc 0 U mn)) ?_
 have T:=hc.rH hx
 have Z:=zd hc ha i
 have Y:=B2 J ha (show 0≤x.At∧x.At≤90000000 by omega)
 refine eZ 5 [] (mc 0 U mn) U<|rS (MX U)<|rS (BI U (Cb ⟨I,I⟩))<|rS (CL (I5 (c.cJ*(max (at_-x.At) (x.At-at_))) 1000000 I I) (aR) U)<|bp 1 U<|RK F<|ak<|rP 6 [0,1] (mc 4 U (mc 0 U mn)) ?_
 have a:0≤nv (c.cJ*max (at_-x.At) (x.At-at_)) 1000000∧nv (c.cJ*max (at_-x.At) (x.At-at_)) 1000000≤90001:=rR J ha T.1
 refine bp 1 U<|rS (MX U)<|rP 7 [0,1] (mc 4 U (mc 0 U mn)) ?_
 refine rS (MN U)<|rS (SX (bg (xs:=[(0,.tmp 37),(1,.tmp 45)]) (cs:=(aa.cells (aa.mk (max ((fj c at_ i).Lo) (x.dg.Lo-(nv (c.cJ*(max (at_-x.At) (x.At-at_))) 1000000))) (min ((fj c at_ i).Hi) (x.dg.Hi+(nv (c.cJ*(max (at_-x.At) (x.At-at_))) 1000000)))))) U U (bh eM U)) U U)<|Nh U bS U<|aA<|aG<|KK D ?_
 have H:(aa.cells (aa.mk (max ((fj c at_ i).Lo) (x.dg.Lo-(nv (c.cJ*(max (at_-x.At) (x.At-at_))) 1000000))) (min ((fj c at_ i).Hi) (x.dg.Hi+(nv (c.cJ*(max (at_-x.At) (x.At-at_))) 1000000)))))=(aa.cells (fj c at_ (i+1))):=by rw [iO hx]; rfl
 rw [H]
 refine ak<|rP 2 [] mn ?_
 refine aA ?_
 have AB:(vI (((i+1):Nat):Int))=(vI ((i:Int)+1)):=by exact cI I
 refine aS (L ⟨(i+1),(by first|omega|(simp only []; omega))⟩ _ _ _ U os (cE 6<|aV U AB<|cS.nil _) (aC [1,2,3,4]))
theorem Kh (c:al) (sA:OA) (sC:Nat) (hlen:c.aK.length≤1000000) (hcap:c.aK.length≤sC):
 dL Tryz.prog 132 [(vA (cT.cells (cT.mk c.cJ (bE.mk sA c.aK.length sC))))] [(rd sA c.aK.length 3 (c.aK.map bY.cells))] (vB (decide (ed c))):=by
 refine bu kr Tryz.func132 U U fun w0 Q hQ hN=>?_
 try dsimp only
 refine WS fun _ AP=>eQ U fun b2=>bp 1 U<|RK AP<|wU U<|ai fun _ AQ=>WS fun _ r=>rP 2 [] (mc 0 U mn) ?_
 refine fw (xs:=[.tmp 11]) (cs:=[(vI c.cJ)]) U cN lX U U U U (by simp [Value.cells]) U U fun b5=>?_
 refine rS (CL (dL.eq (gQ 0 1000 ([c.cJ]) (some ⟨b5,0,none⟩) 1 (by (simp; done))) cZ) (aL (bj 0 U U (by simp [bW]) U)<|aR) U) ?_
 refine rP 2 [] mn ?_
 refine cr (t:=15) U (aW fun AZ=>?_) (aX fun AZ=>?_)
 ·refine bp 7 U<|RK r<|aJ U<|WS fun _ AR=>rP 1 [] mn ?_
  refine RK AR<|an<|Q1 hQ U U U ?_
  exact cB (bw fun h=>AZ h.pI).symm
 refine rP 3 [] (mc 1 U mn) ?_
 refine fw (xs:=[.tmp 18]) (cs:=[(vI (c.aK.length:Int))]) U cN lX U U U U (by simp [Value.cells]) U U fun b7=>?_
 refine rS (CL (dL.eq (gQ 1 5 ([(c.aK.length:Int)]) (some ⟨b7,0,none⟩) 1 (by (simp; done))) cZ) (aL (bj 0 U U (by simp [bW]) U)<|aR) U) ?_
 refine rP 2 [] mn ?_
 refine RK r<|cw U (aW fun O=>?_) (aX fun O=>?_)
 ·refine WS fun _ AS=>rP 1 [] mn ?_
  refine RK AS<|an<|Q1 hQ U U U ?_
  exact cB (bw fun h=>O (by have:=h.len; omega)).symm
 refine WK AQ<|WS fun _ AT=>bp 1 U<|RK AT<|WS fun _ R=>bp 1 U<|RK R<|ai fun _ S=>xo<|KK S<|ai fun _ K=>WS fun _ T=>rP 4 [] (mc 2 U mn) ?_
 refine RK T<|av ?_
 have B:(0≤c.aK.length)∧(p8 c 0):=by exact ⟨Nat.zero_le _,Ds⟩
 have s:(vI (jd c 0))=(vI (-1)):=by rw [fr rfl]
 refine bI (ι:={z:Nat // (z≤c.aK.length)∧(p8 c z)}) [1,2,4,24,25] [2,3] U U (fun z=>[(3,(vI (jd c z.1))),(26,(vI (z.1:Int)))]) (fun z=>[]) (fun _=>rfl) (fun _=>rfl) (fun z=>c.aK.length-z.1) ⟨0,B⟩ (aV U s<|aU U) (aC [2,3]) ?_
 clear B
 rintro ⟨i,⟨L,C⟩⟩ J15 P
 try dsimp only
 have Ab: -1≤jd c i∧jd c i≤86400000:=Kw L C
 refine WS fun _ AK=>rP 1 [] mn ?_
 refine RK AK<|ai fun _ V=>bH U (aP fun AJ=>?_) (aO fun AJ=>?_)
 ·refine bx<|ae<|ae<|ax<|KK K<|WS fun _ f=>rP 2 [] mn ?_
  refine RK f<|an<|Q1 hQ U U U ?_
  exact cB (dw (Dj AZ I (by have e:i=c.aK.length:=I; rw [← e]; exact C))).symm
 refine WK V<|ai fun _ W=>av<|WS fun _ X=>rP 1 [] mn ?_
 obtain ⟨x,hx⟩:=aB c.aK i I
 have AW:=br bY.cells hx
 refine rS (IA i U (aq 1 U) ml dc I I)<|rS (j0 i 0 (bY.cells x) U bQ (aq 1 U) AW U dc U U)<|AL U qU fun AX=>rP 1 [] mn ?_
 refine fg U qh U<|RK X ?_
 refine mu (ι:=Unit) [1,2,3,5,6,24,25,26] [0,1,2] U U (fun z=>[(4,(vB (decide (eE c i x))))]) (fun z=>[]) (fun _=>rfl) (fun _=>rfl) ?_ fun K22 G=>?_
 ·intro _
  try dsimp only
  refine ai fun _ Y=>WS fun _ Z=>eZ 3 [] (mc 1 U mn) U<|rS (NX i U ml I I)<|rP 2 [] mn ?_
  refine RK Z<|av ?_
  have B:(0≤i)∧((decide (eE c i x))=(decide (kj c i x 0))):=by exact ⟨Nat.zero_le _,decide_eq_decide.2 Al.symm⟩
  refine bI (ι:={z:Nat×Bool // (z.1≤i)∧(z.2=(decide (kj c i x z.1)))}) [1,2,3,5,6,24,25,26,59,60] [0,1,2] U U (fun z=>[(4,(vB z.1.2)),(61,(vI (z.1.1:Int)))]) (fun z=>[]) (fun _=>rfl) (fun _=>rfl) (fun z=>i-z.1.1) ⟨(0,(decide (eE c i x))),B⟩ (aU U) (aC [0,1,2]) ?_
  clear B
  rintro ⟨⟨k,b⟩,⟨M,A⟩⟩ J25 F
  try dsimp only at M A
  try dsimp only
  refine WS fun _ a=>rP 1 [] mn ?_
  refine RK a<|ai fun _ d=>bH U (aP fun AM=>?_) (aO fun AM=>?_)
  ·refine bx<|ae<|ae<|ax<|KK Y<|ai fun _ m=>WS fun _ p=>rP 2 [] mn ?_
   refine RK p<|cw U (fun D=>?_) (fun D=>?_)
   ·rw [Bool.not_eq_true'] at D
    refine bx<|ae<|gd U<|ae<|ae<|ax<|KK K<|WS fun _ q=>rP 2 [] mn ?_
    refine RK q<|an<|Q1 hQ U U U ?_
    exact cB (by have e:k=i:=I; rw [e] at A; rw [D] at A ⊢; exact (bw (Fa hx (of_decide_eq_false A.symm))).symm)
   rw [Bool.not_eq_false'] at D
   refine WK m<|ak<|eZ 3 [] (mc 0 U mn) U<|aA<|aG<|KK W<|ak<|rP 2 [] mn ?_
   refine aA ?_
   have AD:(vB true)=(vB b):=by exact cB D.symm
   have AE:(vI (jd c (i+1)))=(vI x.At):=by rw [mx hx]
   have AF:(vI (((i+1):Nat):Int))=(vI ((i:Int)+1)):=by exact cI I
   refine aS (P ⟨(i+1),⟨I,CG C hx (by have e:k=i:=I; rw [e] at A; exact of_decide_eq_true (A.symm.trans D))⟩⟩ _ _ _ U os (cS.cons U<|cS.cons U<|aV U AD<|cS.cons U<|cS.cons U<|aV U AE<|aV U AF<|cS.nil _) (aC [1,2]))
  refine WK d<|ai fun _ H=>av<|WS fun _ g=>?_
  obtain ⟨o,ho⟩:=aB c.aK k I
  have AU:=br bY.cells ho
  refine rS (L4 k U (aq 2 U) ml dc I I I)<|rS (j0 k 0 (bY.cells o) U bQ (aq 2 U) AU U dc U U)<|AL U qU fun AY=>fg U qh U<|RK g<|WS fun _ l=>eZ 6 [0,1,2] (mc 2 U (mc 1 U (mc 0 U mn))) U<|rS (BI U F8)<|rS (BI U KP)<|rS (CL (OJ (xO (c.cJ*(xO (x.At-o.At)))) 1000000 I) (aR) U)<|bp 1 U<|RK l<|ak<|rP 2 [] mn ?_
  refine dY (t:=75) U (fun J=>?_) (fun J=>?_)
  ·refine bp 6 U<|bp 16 U<|aA<|aG<|KK H<|ak<|rP 2 [] mn ?_
   refine aA ?_
   have AC:(vI (((k+1):Nat):Int))=(vI ((k:Int)+1)):=by exact cI I
   refine aS (F ⟨((k+1),false),⟨I,by exact (bw fun h=>by have h2:=((pU ho).1 h).1; rw [A] at J; exact absurd (dw h2) (by rw [J]; decide)).symm⟩⟩ _ _ _ U os (cE 11<|aV U AC<|cS.nil _) (aC [1,2,3]))
  refine rP 6 [0,1] (mc 1 U (mc 0 U mn)) ?_
  have AG:kj c i x k:=of_decide_eq_true (A.symm.trans J)
  obtain ⟨AV,Ac,Ad⟩:=rF (fun j y hj hy=>(C j y hj hy).1) hx AG.1 I ho
  have N:=HN AZ AV
  refine rP 5 [] mn ?_
  refine dY (t:=86) U (aP fun E=>?_) (aO fun E=>?_)
  ·refine bp 11 U<|aA<|aG<|KK H<|ak<|rP 2 [] mn ?_
   refine aA ?_
   have AB:(vI (((k+1):Nat):Int))=(vI ((k:Int)+1)):=by exact cI I
   refine aS (F ⟨((k+1),false),⟨I,by exact (bw fun h=>by have h2:=((pU ho).1 h).2; rw [N] at E; exact E h2.1).symm⟩⟩ _ _ _ U os (cE 11<|aV U AB<|cS.nil _) (aC [1,2,3]))
  refine eZ 11 [0,1] (mc 0 U (mc 1 U mn)) U<|aA<|aG<|KK H<|ak<|rP 2 [] mn ?_
  refine aA ?_
  have AA:(vI (((k+1):Nat):Int))=(vI ((k:Int)+1)):=by exact cI I
  refine aS (F ⟨((k+1),(decide ((o.dg.Lo-x.dg.Hi)≤(Nl (xO (c.cJ*(xO (x.At-o.At)))) 1000000)))),⟨I,by exact decide_eq_decide.2 (by rw [pU ho,N]; rw [N] at E; exact ⟨fun h=>⟨AG,E,h⟩,fun h=>h.2.2⟩)⟩⟩ _ _ _ U os (cE 11<|aV U AA<|cS.nil _) (aC [1,2,3]))
 refine ak<|rP 4 [] (mc 0 U mn) ?_
 refine fw (xs:=[.tmp 34]) (cs:=[(vI x.At)]) U cN lX U U U U (by simp [Value.cells]) U U fun AH=>?_
 refine rS (CL (dL.eq (gQ ((jd c i)+1) 86400000 ([x.At]) (some ⟨AH,0,none⟩) 1 (by (simp; done))) cZ) (aL (bj 0 U U (by simp [bW]) U)<|aR) U) ?_
 refine rP 1 [] mn ?_
 refine dY (t:=37) U (aP fun AN=>?_) (aO fun AN=>?_)
 ·refine rP 19 [] mn ?_
  refine aA ?_
  have w:(decide (eE c i x))=false:=bw (by unfold eE; omega)
  refine aS (iy (cE 8<|lH U w<|cS.nil _) (aC [1,2,3]) (G ()))
 refine rP 6 [] (mc 1 U mn) ?_
 refine fw (xs:=[.tmp 40,.tmp 43]) (cs:=[(vI x.dg.Lo),(vI x.dg.Hi)]) U cN lX U U U U (by simp [Value.cells]) U U fun AI=>?_
 refine rS (CL (dL.eq (gQ (-10000) 10000 ([x.dg.Lo,x.dg.Hi]) (some ⟨AI,0,none⟩) 2 (by (simp; done))) r_) (aL (bj 0 U U (by simp [bW]) U)<|aR) U) ?_
 refine rP 2 [] mn ?_
 refine dY (t:=47) U (aP fun AO=>?_) (aO fun AO=>?_)
 ·refine rP 9 [] mn ?_
  refine aA ?_
  have v:(decide (eE c i x))=false:=bw (by unfold eE; omega)
  refine aS (iy (cE 8<|lH U v<|cS.nil _) (aC [2,3,4]) (G ()))
 refine rP 9 [] (mc 2 U mn) ?_
 refine aA ?_
 have u:(decide (eE c i x))=(decide (x.dg.Lo≤x.dg.Hi)):=decide_eq_decide.2 (by unfold eE; omega)
 refine aS (iy (cE 8<|lH U u<|cS.nil _) (aC [2,3,4]) (G ()))
theorem MC (ms:List al) (az:List RA) (k:Nat) (m:al) (a:RA) (hm:ms[k]? =some m) (ha:az[k]? =some a) (hc:m.aK.length≤a.2∧m.aK.length≤1000000):
 dL Tryz.prog 131 [(vA (cT.cells (cT.mk m.cJ (bE.mk a.1 m.aK.length a.2))))] [(eg (aZ al.fB ms az))] (vB (!(decide (ed m)))):=by
 obtain ⟨C,D⟩:=hc
 refine bu kr Tryz.func131 U U fun F Q hQ hN=>?_
 try dsimp only
 refine WS fun _ A=>eQ U fun E=>bp 1 U<|RK A<|WS fun _ B=>eZ 1 [] (mc 0 U mn) U<|rS (CL (Kh m a.1 a.2 asm asm) (aL (show fR _ (rd a.1 m.aK.length 3 (m.aK.map bY.cells)).holds from (bT 1 U (bk hm ha (by simp [al.fB]))))<|aR) U)<|rP 2 [] mn ?_
 refine RK B<|an ?_
 exact Q1 hQ U U U U
theorem Dp (l:List al) (az:List RA) (lA:OA) (lC:Nat) (f:Value) (p:al→Bool) (X:ao) (hf: ∀ (k:Nat) m a,l[k]? =some m→az[k]? =some a→AF Tryz.prog f [.agg (al.cells m a).toArray] [X] (.bool (p m))) (hlen:l.length≤1000000) (has:az.length=l.length):
 dL Tryz.prog 154 [(vS lA l.length lC),f] [(rd lA l.length 2 (List.zipWith al.cells l az)),(eg (aZ al.fB l az)),X] (vI (qC p l)):=by
 refine bu kr Tryz.func154 U U fun T Q hQ hN=>?_
 try dsimp only
 refine WS fun _ AA=>bp 1 U<|RK AA<|ai fun _ J=>WS fun _ K=>rP 3 [] mn ?_
 refine RK K<|av ?_
 have B:(0≤l.length)∧((l.take 0).any p=false):=by simp
 refine bI (ι:={z:Nat // (z≤l.length)∧((l.take z).any p=false)}) [0,1,7] [0,1,2] U U (fun z=>[(8,(vI (z.1:Int)))]) (fun z=>[]) (fun _=>rfl) (fun _=>rfl) (fun z=>l.length-z.1) ⟨0,B⟩ (aU U) (aC [0,1,2]) ?_
 clear B
 rintro ⟨i,⟨P,A⟩⟩ J4 H
 try dsimp only
 refine WS fun _ L=>rP 1 [] mn ?_
 refine RK L<|ai fun _ M=>bH U (aP fun S=>?_) (aO fun S=>?_)
 ·refine bx<|ae<|ae<|ax<|KK J<|WS fun _ E=>rP 1 [] mn ?_
  refine RK E<|an<|Q1 hQ U U U ?_
  exact cI (pZ I A).symm
 refine WK M<|ai fun _ N=>av<|WS fun _ O=>bp 2 U<|RK O<|WS fun _ C=>rP 3 [] mn ?_
 obtain ⟨x,hx⟩:=aB l i I
 obtain ⟨xa,G⟩:=aB az i I
 have R:(List.zipWith al.cells l az)[i]? =some (al.cells x xa):=db hx G
 refine rS (IA i U (aq 0 U) vw dc I I)<|rS (j0 i 0 (cT.cells (cT.mk x.cJ (bE.mk xa.1 x.aK.length xa.2))) U bQ (aq 0 U) R U dc U U)<|rS (SX (pV U U U (hf i x xa hx G) (bf [2])) U U)<|RK C<|cw U (fun hp=>?_) (fun hp=>?_)
 ·refine WS fun _ D=>rP 2 [] mn ?_
  refine RK D<|an<|Q1 hQ U U U ?_
  exact cI (vb hx hp A).symm
 refine cy<|aG<|KK N<|ak<|rP 2 [] mn ?_
 refine aA ?_
 have F:(vI (((i+1):Nat):Int))=(vI ((i:Int)+1)):=by exact cI I
 refine aS (H ⟨(i+1),⟨I,vr hx A hp⟩⟩ _ _ _ U os (cE 3<|aV U F<|cS.nil _) (aC [0,1,2]))
theorem xx (l:List al) (az:List RA) (lA:OA) (lC:Nat) (f:Value) (p:al→Bool) (X:ao) (hf: ∀ (k:Nat) m a,l[k]? =some m→az[k]? =some a→AF Tryz.prog f [.agg (al.cells m a).toArray] [X] (.bool (p m))) (hlen:l.length≤1000000) (has:az.length=l.length):
 dL Tryz.prog 130 [(vS lA l.length lC),f] [(rd lA l.length 2 (List.zipWith al.cells l az)),(eg (aZ al.fB l az)),X] (vB (l.any p)):=by
 refine bu kr Tryz.func130 U U fun C Q hQ hN=>?_
 try dsimp only
 refine WS fun _ A=>bp 1 U<|RK A<|WS fun _ B=>bp 2 U<|rS (CL (Dp l az lA lC f p X (by exact hf) hlen has) (JV 0 1 2 U U U U U U) U)<|rP 2 [] mn ?_
 refine RK B<|an<|Q1 hQ U U U ?_
 exact cB sb
theorem D0 (l:List bL) (lA:OA) (lC:Nat) (f:Value) (p:bL→Bool) (X:ao) (hf: ∀ x0,x0∈l→AF Tryz.prog f [.agg (bL.cells x0).toArray] [X] (.bool (p x0))) (hlen:l.length≤1000000):
 dL Tryz.prog 156 [(vS lA l.length lC),f] [(rd lA l.length 4 (l.map bL.cells)),X] (vI (qC p l)):=by
 refine bu kr Tryz.func156 U U fun S Q hQ hN=>?_
 try dsimp only
 refine WS fun _ H=>bp 1 U<|RK H<|ai fun _ AA=>WS fun _ J=>rP 3 [] mn ?_
 refine RK J<|av ?_
 have B:(0≤l.length)∧((l.take 0).any p=false):=by simp
 refine bI (ι:={z:Nat // (z≤l.length)∧((l.take z).any p=false)}) [0,1,7] [0,1] U U (fun z=>[(8,(vI (z.1:Int)))]) (fun z=>[]) (fun _=>rfl) (fun _=>rfl) (fun z=>l.length-z.1) ⟨0,B⟩ (aU U) (aC [0,1]) ?_
 clear B
 rintro ⟨i,⟨O,A⟩⟩ J4 G
 try dsimp only
 refine WS fun _ K=>rP 1 [] mn ?_
 refine RK K<|ai fun _ L=>bH U (aP fun R=>?_) (aO fun R=>?_)
 ·refine bx<|ae<|ae<|ax<|KK AA<|WS fun _ E=>rP 1 [] mn ?_
  refine RK E<|an<|Q1 hQ U U U ?_
  exact cI (pZ I A).symm
 refine WK L<|ai fun _ M=>av<|WS fun _ N=>bp 2 U<|RK N<|WS fun _ C=>rP 3 [] mn ?_
 obtain ⟨x,hx⟩:=aB l i I
 have P:=br bL.cells hx
 refine rS (IA i U (aq 0 U) rO dc I I)<|rS (j0 i 0 (bL.cells x) U bQ (aq 0 U) P U dc U U)<|rS (SX (pV U U U (hf x (aI hx)) (bf [1])) U U)<|RK C<|cw U (fun hp=>?_) (fun hp=>?_)
 ·refine WS fun _ D=>rP 2 [] mn ?_
  refine RK D<|an<|Q1 hQ U U U ?_
  exact cI (vb hx hp A).symm
 refine cy<|aG<|KK M<|ak<|rP 2 [] mn ?_
 refine aA ?_
 have F:(vI (((i+1):Nat):Int))=(vI ((i:Int)+1)):=by exact cI I
 refine aS (G ⟨(i+1),⟨I,vr hx A hp⟩⟩ _ _ _ U os (cE 3<|aV U F<|cS.nil _) (aC [0,1]))
theorem xK (l:List bL) (lA:OA) (lC:Nat) (f:Value) (p:bL→Bool) (X:ao) (hf: ∀ x0,x0∈l→AF Tryz.prog f [.agg (bL.cells x0).toArray] [X] (.bool (p x0))) (hlen:l.length≤1000000):
 dL Tryz.prog 134 [(vS lA l.length lC),f] [(rd lA l.length 4 (l.map bL.cells)),X] (vB (l.any p)):=by
 refine bu kr Tryz.func134 U U fun C Q hQ hN=>?_
 try dsimp only
 refine WS fun _ A=>bp 1 U<|RK A<|WS fun _ B=>bp 2 U<|rS (CL (D0 l lA lC f p X (by exact hf) hlen) (bf [0,1]) U)<|rP 2 [] mn ?_
 refine RK B<|an<|Q1 hQ U U U ?_
 exact cB sb
end
section
open Go.RowKit
theorem nI (a:aa) (l:List aa) (lA:OA) (lC:Nat) (ha:jX a) (hl: ∀ z∈l,jX z) (hlen:l.length≤4):
 dL Tryz.prog 160 [(vA (aa.cells a)),(vS lA l.length lC)] [(rd lA l.length 2 (l.map aa.cells))] (vA (aa.cells (jm a l))):=by
 refine bu kr Tryz.func160 U U fun AA Q hQ hN=>?_
 try dsimp only
 refine WS fun _ AB=>eQ U fun R=>AL U cR fun T=>RK AB<|ai fun _ J=>WS fun _ K=>rP 3 [] mn ?_
 refine RK K<|av ?_
 have A:(0≤l.length):=by exact Nat.zero_le _
 refine bI (ι:={z:Nat // (z≤l.length)}) [2,4,7,8] [0,2] U U (fun z=>[(9,(vI (z.1:Int)))]) (fun z=>[(cd R 47 (aa.cells (jm a (l.take z.1))))]) (fun _=>rfl) (fun _=>rfl) (fun z=>l.length-z.1) ⟨0,A⟩ (aU U) (aC [0,2,1]) ?_
 clear A
 rintro ⟨i,N⟩ J6 H
 try dsimp only
 refine WS fun _ L=>rP 1 [] mn ?_
 refine RK L<|ai fun _ M=>bH U (aP fun S=>?_) (aO fun S=>?_)
 ·refine bx<|ae<|ae<|ax<|KK J<|ai fun _ D=>?_
  have G:(aa.cells (jm a (l.take i)))=(aa.cells (jm a l)):=by rw [GG I]
  rw [G]
  refine ak<|rP 1 [] (mc 2 U mn) ?_
  refine fg U bS U<|RK D<|an ?_
  exact Ir hQ [0] (mc 0 U mn) U U
 refine WK M<|ai fun _ B=>av<|WS fun _ C=>?_
 obtain ⟨x,hx⟩:=aB l i I
 have O:=br aa.cells hx
 refine rS (IA i U (aq 1 U) kB dc I I)<|rS (j0 i 0 (aa.cells x) U bQ (aq 1 U) O U dc U U)<|AL U cR fun P=>fg U bS U<|RK C<|ak ?_
 have hb:=K_ ha hl i
 have hz:=hl x (aI hx)
 unfold jX at hz
 refine rP 10 [0,1,0,1] (mc 3 U (mc 0 U mn)) ?_
 refine rS (SX (bg (xs:=[(0,.tmp 17),(1,.tmp 22)]) (cs:=(aa.cells (aa.mk (((jm a (l.take i)).Lo)+x.Lo) (((jm a (l.take i)).Hi)+x.Hi)))) U U (bh eM U)) U U)<|Ll U bS U<|aA<|aG<|KK B ?_
 have E:(aa.cells (aa.mk (((jm a (l.take i)).Lo)+x.Lo) (((jm a (l.take i)).Hi)+x.Hi)))=(aa.cells (jm a (l.take (i+1)))):=by rw [vR hx]; rfl
 rw [E]
 refine ak<|rP 2 [] mn ?_
 refine aA ?_
 have F:(vI ((i+1):Int))=(vI ((i:Int)+1)):=by exact cI I
 refine aS (H ⟨(i+1),(by first|omega|(simp only []; omega))⟩ _ _ _ U os (cE 4<|aV U F<|cS.nil _) (aC [1,2,3]))
theorem BB (ts:List aj) (tsA:OA) (tsC:Nat) (hlen:ts.length≤1000000) (hside: ∀ x∈ts,0≤x.gI∧x.gI≤255):
 dL Tryz.prog 157 [(vA (bB.cells (bB.mk (bE.mk tsA ts.length tsC))))] [(rd tsA ts.length 9 (ts.map aj.cells))] (vT [(vA (dD.cells (dD.mk (bB.mk (bE.mk tsA ts.length tsC))))),(vI (if cK ts=true then 0 else 10))]):=by
 refine bu kr Tryz.func157 U U fun E Q hQ hN=>?_
 try dsimp only
 refine WS fun _ A=>eQ U fun C=>AL U EK fun D=>bp 1 U<|RK A<|ai fun _ B=>cU bX 4 kr<|lg 1 [] (mc 1 U mn) U<|dS (SX (bg (xs:=[(0,.tmp 4)]) (cs:=(dD.cells (dD.mk (bB.mk (bE.mk tsA ts.length tsC))))) U U (bh My U)) U U)<|lg 1 [] (mc 1 U mn) U<|dS (CL (xV ts tsA tsC hlen hside) (bf [2]) U)<|cv<|fg U Ej U<|rP 1 [] mn ?_
 refine RK B<|an ?_
 exact ja hQ [0] (mc 0 U mn) U U
theorem Hz (f:Int) (tsA:OA) (tsN tsC:Nat):
 pH Tryz.prog 171 [(vA (dD.cells (dD.mk (bB.mk (bE.mk tsA tsN tsC))))),(vI f)] [] (fun (x:Nat×Nat)=>(Value.func (.func 177) [].toArray [(Value.pointer (some ⟨x.1,0,none⟩)),(Value.pointer (some ⟨x.2,0,none⟩))].toArray)) (fun (x:Nat×Nat)=>True) (fun (x:Nat×Nat)=>[(cd x.1 3 [(vI f)]),(cd x.2 216 (dD.cells (dD.mk (bB.mk (bE.mk tsA tsN tsC)))))]):=by
 refine fm kr Tryz.func171 U U fun E Q hQ hN=>?_
 try dsimp only
 refine WS fun _ A=>eQ U fun C=>xp U U fun D=>bp 1 U<|RK A<|WS fun _ B=>rS (FU U)<|rP 1 [] mn ?_
 refine RK B<|an<|LX hQ (D,C) [0,1] [] mn U U U U ?_
 trivial
theorem CJ (ts:List aj) (tsA:OA) (tsC:Nat) (f:Int) (g1 g2:Nat) (hst: ∀ x∈ts,bD x) (hlen:ts.length≤12) (hf:0≤f∧f≤ts.length):
 Iy Tryz.prog 177 [] [(vP g1),(vP g2)] [(rd tsA ts.length 9 (ts.map aj.cells)),(cd g1 3 [(vI f)]),(cd g2 216 (dD.cells (dD.mk (bB.mk (bE.mk tsA ts.length tsC)))))] (qq ts f.toNat):=by
 refine BY kr Tryz.func177 U U fun l J Z A0 r Q hY g d hQ hN=>?_
 try dsimp only
 refine WS fun _ i=>AL U cR fun p=>AL U cR fun q=>RK i<|WS fun _ j=>rP 2 [] (mr 4 U mn) ?_
 refine RK j<|av ?_
 have P:(0≤ts.length-f.toNat)∧(J 0 A0)∧(Fo A0 r A0):=by exact ⟨Nat.zero_le _,g,d⟩
 have o:(vI (f+(0:Int)))=(vI f):=by exact cI I
 refine bI (ι:={z:Nat×ao // (z.1≤ts.length-f.toNat)∧(J z.1 z.2)∧(Fo A0 r z.2)}) [0,1,2,4,5] [3,4,5] U U (fun z=>[(6,(vI (f+(z.1.1:Int))))]) (fun z=>[(cd q 47 (aa.cells (ff ts f.toNat z.1.1))),(cd p 47 (aa.cells (dI ts f.toNat z.1.1))),z.1.2]) (fun _=>rfl) (fun _=>rfl) (fun z=>ts.length-f.toNat-z.1.1) ⟨(0,A0),P⟩ (aV U o<|cS.nil _) (aC [3,4,5,0,1,2]) ?_
 clear P
 rintro ⟨⟨k,A⟩,⟨W,R,S⟩⟩ J6 V
 try dsimp only at W R S
 try dsimp only
 refine ai fun _ m=>WS fun _ X=>rP 3 [0,1] (mc 4 U (mc 3 U mn)) ?_
 refine BR 5 hY R S U U U (wK I) U U (fun B9 C B=>?_) (fun B9 C B=>?_)
 rotate_left 1
 ·refine rP 8 [] mn ?_
  refine RK X<|bU U<|bx<|ae<|ae<|ax ?_
  refine hN _ _ _ (jN (vs:=[]) trivial fun w hs=>IS 5 U C B hs)
 refine rP 8 [] (mr 2 U mn) ?_
 refine RK X<|bH U (aP fun c=>?_) (aO fun c=>?_)
 ·refine bx<|ae<|ae<|ax ?_
  refine hN _ _ _ (jN (vs:=[]) trivial fun w hs=>Nd 5 U (by rw [qZ]; have e:ts.length-f.toNat+1=k+1:=I; rw [e]; exact C) B hs)
 refine WK m<|ai fun _ M=>av<|kS bX [0,1,2,3,4,5,6,7,10,11,12,13,14,15,16,17] [8,9,18,19,20,21] [true,false,false,false,false,false,false,false,true,false,false,false,false,false,false,false] [8,9,18] [(rd tsA ts.length 9 (ts.map aj.cells)).ro,(cd g1 3 [(vI f)]).ro,(cd g2 216 (dD.cells (dD.mk (bB.mk (bE.mk tsA ts.length tsC))))).ro,B9] [(rd tsA ts.length 9 (ts.map aj.cells)).ro,(cd g1 3 [(vI f)]).ro,(cd g2 216 (dD.cells (dD.mk (bB.mk (bE.mk tsA ts.length tsC))))).ro,(cd q 47 (aa.cells (ff ts f.toNat k))),(cd p 47 (aa.cells (dI ts f.toNat k))),B9] kr (aC [0,1,2,5]) (aC [0,1,2,3,4,5])<|fS U (LW 4 U bQ U U)<|eS U (FA 0 U fq U)<|eS U (FA 0 U fq U)<|eS U (FC (vS tsA ts.length tsC) 2 U bQ U U)<|eS U (MV U) ?_
 obtain ⟨x,hx⟩:=aB ts (f.toNat+k) I
 have a:=br aj.cells hx
 refine eS U (IA (f.toNat+k) U (aq 0 U) u6 dc I I) ?_
 have L:=hst x (aI hx)
 refine eS U (mF (((f.toNat+k)*9)+1) U (aq 0 U) (Nat.mul_pos I dc) fq U)<|eS U (j0 (f.toNat+k) 1 (aa.cells x.ia) U bQ (aq 0 U) a U dc U U)<|fS U (LW 3 U bQ U U)<|eS U (FA 0 U fq U)<|eS U (FA 0 U fq U)<|eS U (FC (vS tsA ts.length tsC) 2 U bQ U U)<|eS U (MV U)<|eS U (IA (f.toNat+k) U (aq 0 U) u6 dc I I)<|eS U (mF (((f.toNat+k)*9)+3) U (aq 0 U) (Nat.mul_pos I dc) fq U)<|eS U (j0 (f.toNat+k) 3 (aa.cells x.jh) U bQ (aq 0 U) a U dc U U)<|dW U<|mD [8,18] kr (g_ ?_<|g_ ?_<|pP)
 rotate_left 1
 ·refine sx (rem':=[8,9,19,20,21]) U kr fun T14 N=>fw (xs:=[.tmp 39]) (cs:=(aa.cells x.jh)) U kB cR U U U U (by simp [Value.cells,aa.a_]) U U fun T=>aA (N _ _ (aC [1,2,3,6]) (aC [1,2,3,4,5,6]) ?_)
  refine N1 8<|sx (rem':=[9,19,20,21]) U kr fun T16 D=>fw (xs:=[.tmp 29]) (cs:=(aa.cells x.ia)) U kB cR U U U U (by simp [Value.cells,aa.a_]) U U fun AA=>aA (D _ _ (aC [2,3,4,7]) (aC [2,3,4,5,6,7]) ?_)
  refine N1 9<|sx (rem':=[19,20,21]) U kr fun T18 O=>?_
  refine rS (CL (dL.eq (nI (dI ts f.toNat k) ([x.ia]) (some ⟨AA,0,none⟩) 1 (by exact oF hst I) (by intro z hz; simp only [cu] at hz; subst hz; exact rX L) sm) lx) (aL (bj 0 rfl rfl (by simp [aa.a_]) rfl)<|aR) rfl) ?_
  refine aA (O _ _ (aC [2,3,4,7]) (aC [2,3,4,5,6,7]) ?_)
  refine N1 19<|NO U U [20,21] fun T19 E=>?_
  refine rS (CL (dL.eq (nI (ff ts f.toNat k) ([x.jh]) (some ⟨T,0,none⟩) 1 (by exact vd hst I) (by intro z hz; simp only [cu] at hz; subst hz; exact rp L) sm) lx) (aL (bj 1 rfl rfl (by simp [aa.a_]) rfl)<|aR) rfl) ?_
  refine aA (E _ _ (aC [2,3,4,7]) ?_)
  refine N1 20<|NO U U [21] fun T20 F=>Hu U bS U<|aA (F _ _ (aC [2,3,4,7]) ?_)
  refine N1 21<|NO U U [] fun T21 G=>Ec U bS U<|aA (G _ _ (aC [2,3,4,7]) ?_)
  refine mm<|aG<|KK M ?_
  have H:(aa.cells (kp (dI ts f.toNat k) x.ia))=(aa.cells (dI ts f.toNat (k+1))):=by rw [nS hx]
  rw [H]
  have AB:(aa.cells (kp (ff ts f.toNat k) x.jh))=(aa.cells (ff ts f.toNat (k+1))):=by rw [nG hx]
  rw [AB]
  refine ak<|rP 3 [] mn ?_
  refine aA ?_
  have K:(vI (f+(((k+1):Nat):Int)))=(vI ((f+(k:Int))+1)):=by exact cI I
  refine aS (V ⟨((k+1),B9),⟨I,C,B⟩⟩ _ _ _ U os (cE 5<|aV U K<|cS.nil _) (aC [2,3,4,5,6,7]))
 refine sx (rem':=[9,18,19,20,21]) U kr fun T14 N=>fw (xs:=[.tmp 29]) (cs:=(aa.cells x.ia)) U kB cR U U U U (by simp [Value.cells,aa.a_]) U U fun T=>aA (N _ _ (aC [1,2,3,6]) (aC [1,2,3,4,5,6]) ?_)
 refine mD [9,18] kr (g_ ?_<|g_ ?_<|pP)
 rotate_left 1
 ·refine sx (rem':=[9,19,20,21]) U kr fun T16 D=>fw (xs:=[.tmp 39]) (cs:=(aa.cells x.jh)) U kB cR U U U U (by simp [Value.cells,aa.a_]) U U fun AA=>aA (D _ _ (aC [2,3,4,7]) (aC [2,3,4,5,6,7]) ?_)
  refine N1 9<|sx (rem':=[19,20,21]) U kr fun T18 O=>?_
  refine rS (CL (dL.eq (nI (dI ts f.toNat k) ([x.ia]) (some ⟨T,0,none⟩) 1 (by exact oF hst I) (by intro z hz; simp only [cu] at hz; subst hz; exact rX L) sm) lx) (aL (bj 1 rfl rfl (by simp [aa.a_]) rfl)<|aR) rfl) ?_
  refine aA (O _ _ (aC [2,3,4,7]) (aC [2,3,4,5,6,7]) ?_)
  refine N1 19<|NO U U [20,21] fun T19 E=>?_
  refine rS (CL (dL.eq (nI (ff ts f.toNat k) ([x.jh]) (some ⟨AA,0,none⟩) 1 (by exact vd hst I) (by intro z hz; simp only [cu] at hz; subst hz; exact rp L) sm) lx) (aL (bj 0 rfl rfl (by simp [aa.a_]) rfl)<|aR) rfl) ?_
  refine aA (E _ _ (aC [2,3,4,7]) ?_)
  refine N1 20<|NO U U [21] fun T20 F=>Hu U bS U<|aA (F _ _ (aC [2,3,4,7]) ?_)
  refine N1 21<|NO U U [] fun T21 G=>Ec U bS U<|aA (G _ _ (aC [2,3,4,7]) ?_)
  refine mm<|aG<|KK M ?_
  have H:(aa.cells (kp (dI ts f.toNat k) x.ia))=(aa.cells (dI ts f.toNat (k+1))):=by rw [nS hx]
  rw [H]
  have AB:(aa.cells (kp (ff ts f.toNat k) x.jh))=(aa.cells (ff ts f.toNat (k+1))):=by rw [nG hx]
  rw [AB]
  refine ak<|rP 3 [] mn ?_
  refine aA ?_
  have K:(vI (f+(((k+1):Nat):Int)))=(vI ((f+(k:Int))+1)):=by exact cI I
  refine aS (V ⟨((k+1),B9),⟨I,C,B⟩⟩ _ _ _ U os (cE 5<|aV U K<|cS.nil _) (aC [2,3,4,5,6,7]))
 refine sx (rem':=[18,19,20,21]) U kr fun T16 D=>?_
 refine rS (CL (dL.eq (nI (dI ts f.toNat k) ([x.ia]) (some ⟨T,0,none⟩) 1 (by exact oF hst I) (by intro z hz; simp only [cu] at hz; subst hz; exact rX L) sm) lx) (aL (bj 0 rfl rfl (by simp [aa.a_]) rfl)<|aR) rfl) ?_
 refine aA (D _ _ (aC [1,2,3,6]) (aC [1,2,3,4,5,6]) ?_)
 refine N1 18<|sx (rem':=[19,20,21]) U kr fun T17 Y=>fw (xs:=[.tmp 39]) (cs:=(aa.cells x.jh)) U kB cR U U U U (by simp [Value.cells,aa.a_]) U U fun b=>aA (Y _ _ (aC [2,3,4,7]) (aC [2,3,4,5,6,7]) ?_)
 refine N1 19<|NO U U [20,21] fun T19 E=>?_
 refine rS (CL (dL.eq (nI (ff ts f.toNat k) ([x.jh]) (some ⟨b,0,none⟩) 1 (by exact vd hst I) (by intro z hz; simp only [cu] at hz; subst hz; exact rp L) sm) lx) (aL (bj 0 rfl rfl (by simp [aa.a_]) rfl)<|aR) rfl) ?_
 refine aA (E _ _ (aC [2,3,4,7]) ?_)
 refine N1 20<|NO U U [21] fun T20 F=>Hu U bS U<|aA (F _ _ (aC [2,3,4,7]) ?_)
 refine N1 21<|NO U U [] fun T21 G=>Ec U bS U<|aA (G _ _ (aC [2,3,4,7]) ?_)
 refine mm<|aG<|KK M ?_
 have H:(aa.cells (kp (dI ts f.toNat k) x.ia))=(aa.cells (dI ts f.toNat (k+1))):=by rw [nS hx]
 rw [H]
 have AB:(aa.cells (kp (ff ts f.toNat k) x.jh))=(aa.cells (ff ts f.toNat (k+1))):=by rw [nG hx]
 rw [AB]
 refine ak<|rP 3 [] mn ?_
 refine aA ?_
 have K:(vI (f+(((k+1):Nat):Int)))=(vI ((f+(k:Int))+1)):=by exact cI I
 refine aS (V ⟨((k+1),B9),⟨I,C,B⟩⟩ _ _ _ U os (cE 5<|aV U K<|cS.nil _) (aC [2,3,4,5,6,7]))
theorem Eu (ts:List aj) (tsA:OA) (tsC:Nat) (f t:Int) (hst: ∀ x∈ts,bD x) (hlen:ts.length≤12) (hf:0≤f∧f≤t∧t≤ts.length):
 dL Tryz.prog 159 [(vA (dD.cells (dD.mk (bB.mk (bE.mk tsA ts.length tsC))))),(vI f),(vI t)] [(rd tsA ts.length 9 (ts.map aj.cells))] (vT [(vA (aa.cells (dI ts f.toNat (t-f).toNat))),(vA (aa.cells (ff ts f.toNat (t-f).toNat)))]):=by
 refine bu kr Tryz.func159 U U fun w0 Q hQ hN=>?_
 try dsimp only
 refine WS fun _ M=>eQ U fun a=>xp U U fun b=>xp U U fun d=>AL U cR fun e=>AL U cR fun g=>RK M<|ai fun _ AA=>WS fun _ V=>rP 2 [0,1] (mc 4 U (mc 3 U mn)) ?_
 refine cX (Hz f tsA ts.length tsC) (aR) U fun v o=>?_
 obtain ⟨B,C⟩:=v
 try dsimp only
 refine RK V<|av<|lR 7 U (by exact fun _ h=>h) ?_
 refine B6 (L0:=[(3,(vP a)),(4,(vP b)),(5,(vP d)),(6,(vP e)),(7,(vP g))]) (F:=[(rd tsA ts.length 9 (ts.map aj.cells)).ro,(cd B 3 [(vI f)]),(cd C 216 (dD.cells (dD.mk (bB.mk (bE.mk tsA ts.length tsC)))))]) (xs:=(qq ts f.toNat)) (fun k (y:aa×aa×Int)=>(k≤(t-f).toNat)∧(y.2.2=f+(k:Int))) (fun k y=>[(cd g 47 (aa.cells y.2.1)),(cd e 47 (aa.cells y.1)),(cd d 3 [(vI t)]),(cd b 3 [(vI y.2.2)]),(cd a 216 (dD.cells (dD.mk (bB.mk (bE.mk tsA ts.length tsC))))),(rd tsA ts.length 9 (ts.map aj.cells)).ro]) (fun c (z:Unit)=>(c= .exit 0)) (fun _ z=>[(cd g 47 (aa.cells (ff ts f.toNat (t-f).toNat))),(cd e 47 (aa.cells (dI ts f.toNat (t-f).toNat))),(cd d 3 [(vI t)]),(cd b 3 [(vI t)]),(cd a 216 (dD.cells (dD.mk (bB.mk (bE.mk tsA ts.length tsC))))),(rd tsA ts.length 9 (ts.map aj.cells)).ro]) [3,4,5,6,7,8] [0,1,2] (cg,cg,f) U U (CJ ts tsA tsC f B C (by first|assumption|omega|(simp; done)) (by first|assumption|omega|(simp; done)) I) U U U (by exact ⟨Nat.zero_le _,sm⟩) (by simp only [List.forall_mem_cons,List.not_mem_nil,false_imp_iff,implies_true,and_true]; exact ⟨⟨_,sm,(dH (bP _))⟩,⟨_,sm,(bP _)⟩,⟨_,sm,(bP _)⟩⟩) (by exact AN) U (aU U) ?_ ?_ ?_ ?_
 rotate_left 1
 ·rintro r ⟨z1,z2,m⟩ J
  obtain ⟨A,K⟩:=J
  try dsimp only at A K
  try dsimp only
  exfalso; rw [qZ] at A; omega
 ·rintro s id _ Y
  have hc:=Y
  cases hc
  try dsimp only
  refine ax<|KK AA<|ai fun _ D=>dj bX [2,3] [] [] [0,1,2,3,4,5,6,7,8,9] [] U U U U U<|eS U (LW 5 U bQ U U)<|eS U (LW 4 U bQ U U)<|dW U<|bV U fun T30 E=>Ec U bS U<|aA (E _ _ (aC [0,1,2,3,4,5,6,7,8,9]) ?_)
  refine bV U fun T31 G=>Nh U bS U<|aA (G _ _ (aC [0,1,2,3,4,5,6,7,8,9]) ?_)
  refine eU U<|KK D<|an<|hQ _ _ _ (p9 0 U U<|jN (vs:=[(vA (aa.cells (dI ts f.toNat (t-f).toNat))),(vA (aa.cells (ff ts f.toNat (t-f).toNat)))]) ⟨⟨_,U,.inl ⟨_,_,bQ,nz (vs:=(aa.cells (dI ts f.toNat (t-f).toNat))) 5 U U,U,U⟩⟩,⟨_,U,.inl ⟨_,_,bQ,nz (vs:=(aa.cells (ff ts f.toNat (t-f).toNat))) 4 U U,U,U⟩⟩,trivial⟩ fun w hs=>DV ?_ hs)
  show (vT [(vA (aa.cells (dI ts f.toNat (t-f).toNat))),(vA (aa.cells (ff ts f.toNat (t-f).toNat)))])=(vT [(vA (aa.cells (dI ts f.toNat (t-f).toNat))),(vA (aa.cells (ff ts f.toNat (t-f).toNat)))])
  clear hs w hQ hN G T31 E T30 D V AA M
  rfl
 ·rintro u _ Z
  cases Z
 rintro k x ⟨z1,z2,m⟩ l ra rb S w1 K13 Qr14 hx AB N H L j
 obtain ⟨hk,rfl⟩:=D1 hx
 obtain ⟨A,K⟩:=AB
 try dsimp only at A K
 try dsimp only
 refine WS fun _ O=>AL U cR fun p=>fg U bS U<|RK O<|ak<|AL U cR fun q=>fg U bS U<|aA<|iy (fun _ _ h=>h) (aC [2,0,1,3,4,5,6,7,8])<|aS (N _ _ ?_)
 refine av<|ai fun _ P=>ai fun _ R=>dj bX [2,3] [] [] [0,1,2,5,6,7,8] [] U U U U U<|eS U (LW 2 U bQ U U)<|eS U (LW 1 U bQ U U)<|dW U<|bV U fun T21 W=>Nh U bS U<|aA (W _ _ (aC [0,1,2,5,6,7,8]) ?_)
 refine bV U fun T22 X=>Ll U bS U<|aA (X _ _ (aC [0,1,2,5,6,7,8]) ?_)
 refine eU U<|KK R<|WS fun _ T=>rP 3 [0,1] (mc 6 U (mc 5 U mn)) ?_
 refine RK T<|cw U (aO fun i=>?_) (aP fun i=>?_)
 ·refine bx<|ae<|gd U ?_
  rw [show m=t from by omega]
  obtain rfl:k=(t-f).toNat:=by omega
  exact L _ () _ _ (by exact U) (aC [0,3,4,5,6,7,8])
 refine WK P<|ak<|rP 2 [] (mc 6 U mn) ?_
 refine PI U xN U U<|aA<|aG ?_
 exact H ((dI ts f.toNat k),(ff ts f.toNat k),(m+1)) _ _ (by refine ⟨I,?_⟩; dsimp only; omega) (aC [0,3,4,5,6,7,8])
end
section
open Go.RowKit
theorem CX (i:Int) (s:ct) (ts:List aj) (tsA:OA) (tsC g1:Nat) (hst: ∀ x∈ts,bD x) (hlen:ts.length≤12):
 dL Tryz.prog 170 [(vI i),(vA (ct.cells s)),(vP g1)] [(rd tsA ts.length 9 (ts.map aj.cells)),(cd g1 216 (dD.cells (dD.mk (bB.mk (bE.mk tsA ts.length tsC)))))] (vB (!(decide (eH ts s)))):=by
 refine bu kr Tryz.func170 U U fun AA Q hQ hN=>?_
 try dsimp only
 refine WS fun _ C=>eQ U fun G=>rP 1 [] mn ?_
 refine RK C<|ai fun _ A=>kS bX [0,1,2,3,4,5,6] [7,8,9,10,11,12,13,14,15,16,17,18,19,20,21,22,23,24,25,26] [false,false,false,false,false,false,false] [] [(cd G 139 (ct.cells s)),(rd tsA ts.length 9 (ts.map aj.cells)).ro,(cd g1 216 (dD.cells (dD.mk (bB.mk (bE.mk tsA ts.length tsC))))).ro] [] kr (aC [0,1,2]) (aC [])<|eS U (FA 0 U fq U)<|eS U (FA 0 U fq U)<|eS U (FC (vS tsA ts.length tsC) 2 U bQ U U)<|eS U (LN U Ny)<|eS U (BI U (pG ⟨I,I⟩))<|eS U (FA 0 U fq U)<|eS U (L1 (vI s.aM) 0 U bQ U U)<|dW U<|N1 7<|NO U U [8,9,10,11,12,13,14,15,16,17,18,19,20,21,22,23,24,25,26] fun T4 D=>fw (xs:=[.tmp 12]) (cs:=[(vI s.aM)]) U cN lX U U U U (by simp [Value.cells]) U U fun H=>RD D 1 U<|Jy [14,15,16,17,18,19,20,21,22,23,24,25,26,27,28,29,30,31,5] kr kr U _ U U (aC [1,2,3]) ?_
 refine dS (CL (dL.eq (nc 0 ((ts.length:Int)-1) ([s.aM]) (some ⟨H,0,none⟩) 1 (by (simp; done))) cZ) (aL (bj 0 U U (by simp [bW]) U)<|aR) U) ?_
 refine dP 2 [] mn ?_
 refine gX (t:=16) U (aW fun B=>?_) (aX fun B=>?_)
 ·refine jY 9 U<|dP 7 [] mn ?_
  refine cv<|RK A<|an<|Q1 hQ U U U ?_
  (refine cB ?_; rw [bw (yA I)]; rfl)
 refine jY 1 U<|dS (LP (aa.cells s.jW) 1 U bQ U U U)<|dP 5 [0,1] (mr 3 U (mc 1 U mn)) ?_
 obtain ⟨x,hx⟩:=aB ts ((s.aM).toNat) I
 have E:=br aj.cells hx
 refine dS (IA ((s.aM).toNat) U (aq 2 U) u6 dc I I)<|dS (mF ((((s.aM).toNat)*9)+1) U (aq 2 U) (Nat.mul_pos I dc) fq U) ?_
 have F:=(hst x (aI hx)).2.1
 simp only [di] at F
 refine dS (mF ((((s.aM).toNat)*9)+1) U (aq 2 U) (Nat.mul_pos I dc) fq U)<|dS (fE ((s.aM).toNat) 1 (vI x.ia.Lo) U bQ (aq 2 U) E U dc U)<|jY 1 U<|dS (CL (tp s.jW 0 (x.ia.Lo-1)) (aR) U)<|dP 3 [] mn ?_
 refine cv<|RK A<|an<|Q1 hQ U U U ?_
 exact congrArg (fun b=>vB (!b)) (decide_eq_decide.2 (zk I hx).symm)
theorem zR (l:List ct) (lA:OA) (lC:Nat) (f:Value) (p:Int→ct→Bool) (X:ao) (hf: ∀ x0 x1,(∃ k:Nat,x0=(k:Int)∧l[k]? =some x1)→AF Tryz.prog f [.int .i64 x0,.agg (ct.cells x1).toArray] [X] (.bool (p x0 x1))) (hlen:l.length≤1000000):
 pH Tryz.prog 169 [(vS lA l.length lC),f] [(rd lA l.length 3 (l.map ct.cells)),X] (fun (x:(OA)×Nat)=>(vS x.1 ((Fx (fun jj yy=>p (jj:Int) yy) l).length) x.2)) (fun (x:(OA)×Nat)=>True) (fun (x:(OA)×Nat)=>[(own x.1 x.2 3 1 ((Fx (fun jj yy=>p (jj:Int) yy) l).map iC))]):=by
 refine fm kr Tryz.func169 U U fun W Q hQ hN=>?_
 try dsimp only
 refine WS fun _ L=>bp 1 U<|RK L<|WS fun _ M=>bp 1 U<|RK M<|ai fun _ N=>WS fun _ O=>rP 3 [] mn ?_
 refine RK O<|av<|fT 3 1 ?_
 have A:(0≤l.length):=by exact Nat.zero_le _
 refine bI (ι:={z:Nat×(OA)×Nat // (z.1≤l.length)}) [0,1,8,9] [1,2] U U (fun z=>[(5,(vS z.1.2.1 ((qb (fun jj yy=>p (jj:Int) yy) l z.1.1).length) z.1.2.2)),(10,(vI (z.1.1:Int)))]) (fun z=>[(own z.1.2.1 z.1.2.2 3 1 ((qb (fun jj yy=>p (jj:Int) yy) l z.1.1).map iC))]) (fun _=>rfl) (fun _=>rfl) (fun z=>l.length-z.1.1) ⟨(0,none,0),A⟩ (aU U) (aC [1,2,0]) ?_
 clear A
 rintro ⟨⟨i,a,c⟩,B⟩ J5 C
 try dsimp only at B
 try dsimp only
 refine WS fun _ P=>rP 1 [] mn ?_
 refine RK P<|ai fun _ R=>bH U (aP fun V=>?_) (aO fun V=>?_)
 ·refine bx<|ae<|ae<|ax<|KK N<|WS fun _ F=>?_
  rw [HG (p:=fun (i:Nat) x=>p (i:Int) x) (show i=l.length by omega)]
  refine rP 2 [] mn ?_
  refine RK F<|an<|LX hQ (a,c) [2] [] mn U U U U ?_
  trivial
 refine WK R<|ai fun _ G=>av<|WS fun _ D=>rP 1 [] mn ?_
 obtain ⟨x,hx⟩:=aB l i I
 have S:=br ct.cells hx
 refine rS (IA i U (aq 0 U) ED dc I I)<|rS (j0 i 0 (ct.cells x) U bQ (aq 0 U) S U dc U U)<|AL U Br fun T=>bp 1 U<|fg U Jc U<|RK D<|WS fun _ E=>rP 3 [] (mc 0 U mn) ?_
 refine rS (SX (pV U U U (hf (i:Int) x ⟨i,U,hx⟩) (bf [2])) U U)<|RK E<|bH U (fun hp=>?_) (fun hp=>?_)
 ·refine cy<|aG<|KK G<|ak ?_
  rw [← IJ (p:=fun (i:Nat) x=>p (i:Int) x) hx hp]
  refine rP 2 [] mn ?_
  refine aA ?_
  have AB:(vI (((i+1):Nat):Int))=(vI ((i:Int)+1)):=by exact cI I
  refine aS (C ⟨((i+1),a,c),(by first|omega|(simp only []; omega))⟩ _ _ _ U os (cE 5<|aV U AB<|cS.nil _) (aC [1,2,3]))
 refine ak<|rP 2 [] mn ?_
 refine fw (xs:=[.tmp 20]) (cs:=[(vI (i:Int))]) U cN lX U U U U (by simp [Value.cells]) U U fun AA=>?_
 refine cG (es2:=(List.map iC (qb (fun jj yy=>p (jj:Int) yy) l (i+1)))) (m':=(qb (fun jj yy=>p (jj:Int) yy) l (i+1)).length) 4 U U U l0 U U sm (bj (es:=List.map iC [(i:Int)]) 0 U U (by simp [bW]) U) (gL _) (by have:=x3 (p:=fun (i:Nat) x=>p (i:Int) x) (l:=l) (n:=i); simp; omega) (by have:=x3 (p:=fun (i:Nat) x=>p (i:Int) x) (l:=l) (n:=i); simp only [maxLen]; omega) (by rw [E9 hx hp]; simp) sm U fun J K=>?_
 try dsimp only
 refine bp 1 U<|aA<|aG<|KK G<|ak<|rP 2 [] mn ?_
 refine aA ?_
 have H:(vI (((i+1):Nat):Int))=(vI ((i:Int)+1)):=by exact cI I
 refine aS (C ⟨((i+1),J,K),(by first|omega|(simp only []; omega))⟩ _ _ _ U os (cE 5<|aV U H<|cS.nil _) (aC [2,3,4]))
theorem zj (ts:List aj) (tsA:OA) (tsC:Nat) (l:List ct) (lA:OA) (lC:Nat) (hst: ∀ x∈ts,bD x) (hlen:ts.length≤12) (hl:l.length≤4):
 dL Tryz.prog 158 [(vA (dD.cells (dD.mk (bB.mk (bE.mk tsA ts.length tsC))))),(vS lA l.length lC)] [(rd tsA ts.length 9 (ts.map aj.cells)),(rd lA l.length 3 (l.map ct.cells))] (vB (decide (∀ s∈l,eH ts s))):=by
 refine bu kr Tryz.func158 U U fun J Q hQ hN=>?_
 try dsimp only
 refine WS fun _ B=>eQ U fun A=>bp 1 U<|RK B<|WS fun _ C=>rP 1 [] mn ?_
 refine rS (FU U) ?_
 refine cX (zR l lA lC (Value.func (.func 170) [].toArray [(vP A)].toArray) (fun E D=>(!(decide (eH ts D)))) (eg [(rd tsA ts.length 9 (ts.map aj.cells)),(cd A 216 (dD.cells (dD.mk (bB.mk (bE.mk tsA ts.length tsC)))))]) (by intro E D _; exact mB (fi:=[]) (ca:=[(vP A)]) (kU (CX E D ts tsA tsC A (by first|assumption|omega) (by first|assumption|omega)) (bf [0,1]))) I) (fM 2 U U<|aL (kR (bf [1,0]))<|aR) U fun G F=>?_
 obtain ⟨H,AA⟩:=G
 try dsimp only
 refine rP 3 [] mn ?_
 refine RK C<|an<|Q1 hQ U U U ?_
 exact congrArg Value.bool (decide_eq_decide.2 (by rw [show ∀ n:Nat,((n:Int)=0)↔n=0 from fun n=>by omega,D7]; simp only [Bool.not_eq_false',decide_eq_true_eq]; exact ⟨fun h s hs=>by obtain ⟨k,hk⟩:=List.getElem?_of_mem hs; exact h k s hk,fun h k s hk=>h s (List.mem_of_getElem? hk)⟩))
theorem Ak (z:aa) (hz:jX z):
 dL Tryz.prog 172 [(vA (aa.cells z))] [] (vA (aa.cells (mo z))):=by
 unfold jX at hz
 refine bu kr Tryz.func172 U U fun E Q hQ hN=>?_
 try dsimp only
 refine WS fun _ A=>eQ U fun C=>AL U cR fun D=>RK A<|WS fun _ B=>eZ 2 [] (mc 1 U mn) U<|rS (NG U ⟨I,I⟩)<|rP 2 [] (mc 1 U mn) ?_
 refine rS (NG U ⟨I,I⟩)<|rS (SX (bg (xs:=[(0,.tmp 5),(1,.tmp 8)]) (cs:=(aa.cells (aa.mk (-z.Hi) (-z.Lo)))) U U (bh eM U)) U U)<|fg U bS U<|RK B<|an ?_
 exact Ir hQ [0] (mc 0 U mn) U U
theorem Mf (ts:List aj) (tsA:OA) (tsC:Nat) (s:ct) (hlen:ts.length≤1000000) (hside: ∀ x∈ts,0≤x.gI∧x.gI≤255):
 dL Tryz.prog 136 [(vA (bB.cells (bB.mk (bE.mk tsA ts.length tsC)))),(vA (ct.cells s))] [(rd tsA ts.length 9 (ts.map aj.cells))] (vT [(vA (aa.cells (Ka ts s))),(vI (BE ts s))]):=by
 refine bu kr Tryz.func136 U U fun Z Q hQ hN=>?_
 try dsimp only
 refine WS fun _ K=>eQ U fun V=>eQ U fun W=>AL U cR fun X=>bp 1 U<|RK K<|WS fun _ L=>eZ 1 [] (mc 2 U mn) U<|rS (CL (BB ts tsA tsC hlen hside) (bf [3]) U)<|bp 3 U<|AL U EK fun Y=>fg U Ej U<|bp 1 U<|RK L<|ai fun _ M=>WS fun _ N=>rP 2 [] mn ?_
 refine RK N<|cw U (aW fun he=>?_) (aX fun he=>?_)
 ·refine WS fun _ O=>rS (SX (bg (xs:=[]) (cs:=(aa.cells (aa.mk 0 0))) U U (bh eM U)) U U)<|bp 1 U<|qf U bS U<|rP 1 [] mn ?_
  refine RK O<|an<|ja hQ [0] (mc 1 U mn) U ?_
  (have e:=FV (s:=s) (vJ he).1; rw [e.1,e.2,(vJ he).2]<;>rfl)
 refine WK M<|ai fun _ C=>WS fun _ D=>?_
 have B:=AB he
 have H:=iN B
 have R:=jw B
 refine rP 2 [0,1] (mc 0 U (mc 2 U mn)) ?_
 refine fw (xs:=[.tmp 20]) (cs:=(ct.cells s)) U ED Br U U U U (by simp [Value.cells,ct.a_]) U U fun AC=>?_
 refine rS (CL (dL.eq (zj ts tsA tsC ([s]) (some ⟨AC,0,none⟩) 1 asm asm (by (simp; done))) Bf) (fM 5 U U<|aL (bj 0 U U (by simp [ct.a_]) U)<|aR) U) ?_
 refine rP 1 [] mn ?_
 refine RK D<|cw U (aW fun A=>?_) (aX fun A=>?_)
 ·refine WS fun _ E=>rS (SX (bg (xs:=[]) (cs:=(aa.cells (aa.mk 0 0))) U U (bh eM U)) U U)<|zO U bS U<|rP 1 [] mn ?_
  refine RK E<|an<|ja hQ [0] (mc 2 U mn) U ?_
  (have e:=E5 B A; rw [e.1,e.2]<;>rfl)
 refine WK C<|WS fun _ F=>?_
 have AA:=A.1
 have P:=oQ H A
 refine eZ 3 [0,1] (mc 1 U (mc 3 U mn)) U<|rS (CL (Eu ts tsA tsC 0 s.aM asm asm I) (bf [5]) U)<|bp 3 U<|AL U cR fun S=>AL U cR fun T=>qf U bS U<|fg U bS U<|RK F<|WS fun _ G=>rP 2 [] (mc 1 U mn) ?_
 refine rS (LP (aa.cells s.jW) 5 U bQ U U U)<|fw (xs:=[.tmp 34]) (cs:=(aa.cells s.jW)) U kB cR U U U U (by simp [Value.cells,aa.a_]) U U fun J=>?_
 refine rS (CL (dL.eq (nI (dI ts (0:Int).toNat (s.aM-0).toNat) ([s.jW]) (some ⟨J,0,none⟩) 1 (by exact oF H I) (by intro z hz; simp only [cu] at hz; subst hz; exact P) sm) lx) (aL (bj 0 rfl rfl (by simp [aa.a_]) rfl)<|aR) rfl) ?_
 refine Ec U bS U<|rP 1 [] mn ?_
 refine RK G<|an<|ja hQ [0] (mc 5 U mn) U ?_
 (have e:=ua B A; rw [e.1,e.2]; unfold G_; rw [show (s.aM-0).toNat=s.aM.toNat by rw [Int.sub_zero]]<;>rfl)
theorem HY (ts:List aj) (tsA:OA) (tsC:Nat) (p:ct) (q:ct) (hlen:ts.length≤1000000) (hside: ∀ x∈ts,0≤x.gI∧x.gI≤255):
 dL Tryz.prog 161 [(vA (bB.cells (bB.mk (bE.mk tsA ts.length tsC)))),(vA (ct.cells p)),(vA (ct.cells q))] [(rd tsA ts.length 9 (ts.map aj.cells))] (vT [(vA (aa.cells (jy ts p q))),(vI (j8 ts p q))]):=by
 refine bu kr Tryz.func161 U U fun w0 Q hQ hN=>?_
 try dsimp only
 refine WS fun _ c=>eQ U fun t=>eQ U fun u=>eQ U fun v=>AL U cR fun w=>bp 1 U<|RK c<|WS fun _ d=>eZ 1 [] (mc 3 U mn) U<|rS (CL (BB ts tsA tsC hlen hside) (bf [4]) U)<|bp 3 U<|AL U EK fun y=>fg U Ej U<|bp 1 U<|RK d<|ai fun _ g=>WS fun _ i=>rP 2 [] mn ?_
 refine RK i<|cw U (aW fun he=>?_) (aX fun he=>?_)
 ·refine WS fun _ G=>rS (SX (bg (xs:=[]) (cs:=(aa.cells (aa.mk 0 0))) U U (bh eM U)) U U)<|bp 1 U<|qf U bS U<|rP 1 [] mn ?_
  refine RK G<|an<|ja hQ [0] (mc 1 U mn) U ?_
  (have e:=rz (a:=p) (b:=q) (vJ he).1; rw [e.1,e.2,(vJ he).2]<;>rfl)
 refine WK g<|ai fun _ H=>WS fun _ AC=>?_
 have A:=AB he
 have F:=iN A
 have l:=jw A
 refine rP 3 [0,1,2] (mc 0 U (mc 3 U (mc 2 U mn))) ?_
 refine fw (xs:=[.tmp 22,.tmp 23]) (cs:=((ct.cells p)++(ct.cells q))) U ED Br U U U U (by simp [Value.cells,ct.a_]) U U fun X=>?_
 refine rS (CL (dL.eq (zj ts tsA tsC ([p,q]) (some ⟨X,0,none⟩) 2 asm asm (by (simp; done))) Ad) (fM 6 U U<|aL (bj 0 U U (by simp [ct.a_]) U)<|aR) U) ?_
 refine rP 1 [] mn ?_
 refine RK AC<|cw U (aW fun D=>?_) (aX fun D=>?_)
 ·refine WS fun _ J=>rS (SX (bg (xs:=[]) (cs:=(aa.cells (aa.mk 0 0))) U U (bh eM U)) U U)<|zO U bS U<|rP 1 [] mn ?_
  refine RK J<|an<|ja hQ [0] (mc 2 U mn) U ?_
  (have e:=mN A D; rw [e.1,e.2]<;>rfl)
 refine WK H<|WS fun _ K=>?_
 obtain ⟨hp,hq⟩:=D
 have r:=hp.1
 have s:=hq.1
 have j:=oQ F hp
 have W:=oQ F hq
 have V:=w8 j
 have B:=oF F (f:=(min p.aM q.aM).toNat) (k:=(max p.aM q.aM-min p.aM q.aM).toNat) I
 refine eZ 5 [0,1,2] (mc 1 U (mc 4 U (mc 3 U mn))) U<|rS (MN U)<|eZ 4 [0,1] (mc 4 U (mc 3 U mn)) U<|rS (MX U)<|rS (CL (Eu ts tsA tsC (min p.aM q.aM) (max p.aM q.aM) asm asm I) (bf [6]) U)<|bp 3 U<|AL U cR fun m=>AL U cR fun o=>qf U bS U<|fg U bS U<|RK K<|ai fun _ C=>WS fun _ L=>rP 5 [0,1] (mc 5 U (mc 6 U mn)) ?_
 refine RK L<|bH U (aP fun E=>?_) (aO fun E=>?_)
 ·refine WK C<|ai fun _ N=>dj bX [6,7,8] [] [] [0,1,2,3,5,6,7,8] [] U U U U U<|eS U (LW 1 U bQ U U)<|eS U (FA 1 U fq U)<|eS U (LP (aa.cells q.jW) 4 U bQ U U U)<|eS U (FA 1 U fq U)<|eS U (LP (aa.cells p.jW) 5 U bQ U U U)<|eS U (CL (Ak p.jW asm) (aR) U)<|eS U (AG U)<|dW U<|bV U fun T26 S=>fw (xs:=[.tmp 52,.tmp 55]) (cs:=((aa.cells q.jW)++(aa.cells (mo p.jW)))) U kB cR U U U U (by simp [Value.cells,aa.a_]) U U fun Z=>aA (S _ _ (aC [1,2,3,4,6,7,8,9]) ?_)
  refine bV U fun T28 T=>?_
  refine rS (CL (dL.eq (nI (dI ts (min p.aM q.aM).toNat ((max p.aM q.aM)-(min p.aM q.aM)).toNat) ([q.jW,(mo p.jW)]) (some ⟨Z,0,none⟩) 2 (by first|exact B|exact w8 B) (by intro z hz; simp only [g8,List.not_mem_nil,or_false] at hz; rcases hz with rfl|rfl; exact W; exact V) sm) zF) (aL (bj 0 rfl rfl (by simp [aa.a_]) rfl)<|aR) rfl) ?_
  refine aA (T _ _ (aC [1,2,3,4,6,7,8,9]) ?_)
  refine bV U fun T29 AA=>Ec U bS U<|aA (AA _ _ (aC [1,2,3,4,6,7,8,9]) ?_)
  refine eU U<|KK N<|an<|ja hQ [0] (mc 5 U mn) U ?_
  (have e:=jP A ⟨hp,hq⟩; rw [e.1,e.2]; unfold iM um; rw [if_neg E]<;>rfl)
 refine ak<|rP 1 [] (mc 1 U mn) ?_
 refine rS (CL (Ak (dI ts (min p.aM q.aM).toNat ((max p.aM q.aM)-(min p.aM q.aM)).toNat) asm) (aR) U)<|qf U bS U<|RK C<|ai fun _ M=>dj bX [6,7,8] [] [] [0,1,2,3,5,6,7,8] [] U U U U U<|eS U (LW 1 U bQ U U)<|eS U (FA 1 U fq U)<|eS U (LP (aa.cells q.jW) 4 U bQ U U U)<|eS U (FA 1 U fq U)<|eS U (LP (aa.cells p.jW) 5 U bQ U U U)<|eS U (CL (Ak p.jW asm) (aR) U)<|eS U (AG U)<|dW U<|bV U fun T21 O=>fw (xs:=[.tmp 52,.tmp 55]) (cs:=((aa.cells q.jW)++(aa.cells (mo p.jW)))) U kB cR U U U U (by simp [Value.cells,aa.a_]) U U fun Y=>aA (O _ _ (aC [1,2,3,4,6,7,8,9]) ?_)
 refine bV U fun T23 P=>?_
 refine rS (CL (dL.eq (nI (mo (dI ts (min p.aM q.aM).toNat ((max p.aM q.aM)-(min p.aM q.aM)).toNat)) ([q.jW,(mo p.jW)]) (some ⟨Y,0,none⟩) 2 (by first|exact B|exact w8 B) (by intro z hz; simp only [g8,List.not_mem_nil,or_false] at hz; rcases hz with rfl|rfl; exact W; exact V) sm) zF) (aL (bj 0 rfl rfl (by simp [aa.a_]) rfl)<|aR) rfl) ?_
 refine aA (P _ _ (aC [1,2,3,4,6,7,8,9]) ?_)
 refine bV U fun T24 R=>Ec U bS U<|aA (R _ _ (aC [1,2,3,4,6,7,8,9]) ?_)
 refine eU U<|KK M<|an<|ja hQ [0] (mc 5 U mn) U ?_
 (have e:=jP A ⟨hp,hq⟩; rw [e.1,e.2]; unfold iM um; rw [if_pos E]<;>rfl)
theorem pg (ts:List aj) (tsA:OA) (tsC:Nat) (s:ct) (hst: ∀ x∈ts,bD x) (hlen:ts.length≤12):
 dL Tryz.prog 121 [(vA (bB.cells (bB.mk (bE.mk tsA ts.length tsC)))),(vA (ct.cells s))] [(rd tsA ts.length 9 (ts.map aj.cells))] (vB (decide (eH ts s))):=by
 refine bu kr Tryz.func121 U U fun H Q hQ hN=>?_
 try dsimp only
 refine WS fun _ C=>eQ U fun F=>eQ U fun G=>bp 1 U<|RK C<|ai fun _ A=>cU bX 22 kr<|lg 6 [0,1] (mc 0 U (mc 1 U mn)) U<|dS (CL (ng s.aM 0 ((ts.length:Int)-1)) (aR) U)<|dP 1 [] mn ?_
 refine fU (t:=12) U (aP fun B=>?_) (aO fun B=>?_)
 ·refine jY 8 U<|dP 6 [] mn ?_
  refine cv<|RK A<|an<|Q1 hQ U U U ?_
  (refine cB ?_; rw [bw (yA I)])
 refine jY 1 U<|dS (LP (aa.cells s.jW) 0 U bQ U U U)<|dP 4 [0,1] (mc 1 U (mc 0 U mn)) ?_
 obtain ⟨x,hx⟩:=aB ts ((s.aM).toNat) I
 have D:=br aj.cells hx
 refine dS (IA ((s.aM).toNat) U (aq 2 U) u6 dc I I)<|dS (mF ((((s.aM).toNat)*9)+1) U (aq 2 U) (Nat.mul_pos I dc) fq U) ?_
 have E:=(hst x (aI hx)).2.1
 simp only [di] at E
 refine dS (mF ((((s.aM).toNat)*9)+1) U (aq 2 U) (Nat.mul_pos I dc) fq U)<|dS (fE ((s.aM).toNat) 1 (vI x.ia.Lo) U bQ (aq 2 U) D U dc U)<|jY 1 U<|dS (CL (nH s.jW 0 (x.ia.Lo-1)) (aR) U)<|dP 2 [] mn ?_
 refine cv<|RK A<|an<|Q1 hQ U U U ?_
 exact cB (decide_eq_decide.2 (zk I hx).symm)
theorem xy (ts:List aj) (tsA:OA) (tsC:Nat) (f t:Int) (hst: ∀ x∈ts,bD x) (hlen:ts.length≤12) (hf:0≤f∧f≤t∧t≤ts.length):
 dL Tryz.prog 165 [(vA (bB.cells (bB.mk (bE.mk tsA ts.length tsC)))),(vI f),(vI t)] [(rd tsA ts.length 9 (ts.map aj.cells))] (vT [(vA (aa.cells (dI ts f.toNat (t-f).toNat))),(vA (aa.cells (ff ts f.toNat (t-f).toNat)))]):=by
 refine bu kr Tryz.func165 U U fun j Q hQ hN=>?_
 try dsimp only
 refine WS fun _ R=>eQ U fun e=>AL U cR fun g=>AL U cR fun i=>RK R<|WS fun _ S=>AL U cR fun a=>AL U cR fun b=>RK S<|ai fun _ T=>WS fun _ AA=>rP 2 [] mn ?_
 refine RK AA<|av ?_
 have A:(0≤(t-f).toNat):=by exact Nat.zero_le _
 have K:(vI (f+(0:Int)))=(vI f):=by exact cI I
 refine bI (ι:={z:Nat // (z≤(t-f).toNat)}) [1,2,3,6,7,8,9] [2,3,4,5] U U (fun z=>[(10,(vI (f+(z.1:Int))))]) (fun z=>[(cd b 47 (aa.cells (ff ts f.toNat z.1))),(cd a 47 (aa.cells (dI ts f.toNat z.1)))]) (fun _=>rfl) (fun _=>rfl) (fun z=>(t-f).toNat-z.1) ⟨0,A⟩ (aV U K<|cS.nil _) (aC [2,3,4,5,0,1]) ?_
 clear A
 rintro ⟨k,V⟩ J11 B
 try dsimp only
 refine ai fun _ C=>WS fun _ D=>rP 3 [] mn ?_
 refine RK D<|bH U (aP fun P=>?_) (aO fun P=>?_)
 ·refine bx<|ae<|ae<|ax<|KK T<|ai fun _ H=>dj bX [2,3] [] [] [2,3,4,5] [] U U U U U<|eS U (LW 3 U bQ U U)<|eS U (LW 2 U bQ U U)<|dW U<|bV U fun T23 AB=>qf U bS U<|aA (AB _ _ (aC [2,3,4,5]) ?_)
  refine bV U fun T24 J=>fg U bS U<|aA (J _ _ (aC [2,3,4,5]) ?_)
  refine eU U<|KK H<|an<|ja hQ [0,1] (mc 1 U (mc 0 U mn)) U ?_
  obtain rfl:k=(t-f).toNat:=I; rfl
 refine WK C<|ai fun _ E=>av<|WS fun _ F=>rP 3 [] (mc 2 U mn) ?_
 obtain ⟨x,hx⟩:=aB ts (f.toNat+k) I
 have Y:=br aj.cells hx
 refine rS (IA (f.toNat+k) U (aq 3 U) u6 dc I I)<|rS (j0 (f.toNat+k) 0 (aj.cells x) U bQ (aq 3 U) Y U dc U U)<|AL U Gm fun Z=>fg U Fg U<|RK F<|WS fun _ G=>?_
 have O:=hst x (aI hx)
 have d:=ki hst f.toNat k
 have c:=Bv hst f.toNat k
 have W:=O.2.1
 have X:=O.2.2.1
 simp only [di] at W X
 refine eZ 12 [0,1,0,1] (mc 6 U (mc 0 U mn)) U<|rS (SX (bg (xs:=[(0,.tmp 28),(1,.tmp 34)]) (cs:=(aa.cells (aa.mk (((dI ts f.toNat k).Lo)+x.ia.Lo) (((dI ts f.toNat k).Hi)+x.ia.Hi)))) U U (bh eM U)) U U)<|Hu U bS U<|RK G<|ak<|rP 12 [0,1,0,1] (mc 5 U (mc 0 U mn)) ?_
 refine rS (SX (bg (xs:=[(0,.tmp 41),(1,.tmp 47)]) (cs:=(aa.cells (aa.mk (((ff ts f.toNat k).Lo)+x.jh.Lo) (((ff ts f.toNat k).Hi)+x.jh.Hi)))) U U (bh eM U)) U U)<|Ec U bS U<|aA<|aG<|KK E ?_
 have L:(aa.cells (aa.mk (((dI ts f.toNat k).Lo)+x.ia.Lo) (((dI ts f.toNat k).Hi)+x.ia.Hi)))=(aa.cells (dI ts f.toNat (k+1))):=by rw [nS hx]; rfl
 rw [L]
 have M:(aa.cells (aa.mk (((ff ts f.toNat k).Lo)+x.jh.Lo) (((ff ts f.toNat k).Hi)+x.jh.Hi)))=(aa.cells (ff ts f.toNat (k+1))):=by rw [nG hx]; rfl
 rw [M]
 refine ak<|rP 3 [] mn ?_
 refine aA ?_
 have N:(vI (f+(((k+1):Nat):Int)))=(vI ((f+(k:Int))+1)):=by exact cI I
 refine aS (B ⟨(k+1),(by first|omega|(simp only []; omega))⟩ _ _ _ U os (cE 7<|aV U N<|cS.nil _) (aC [1,2,3,4,5,6]))
end
section
open Go.RowKit
theorem JL (l:aQ) (kA:OA) (kC:Nat) (az:List RA) (cA:OA) (cC:Nat) (bA:OA) (bC:Nat) (hin:dF l az):
 dL Tryz.prog 127 [(vA (cb.cells (jI l kA kC cA cC bA bC)))] [(rd kA l.aH.length 9 (l.aH.map aj.cells)),(rd cA l.ah.length 2 (List.zipWith al.cells l.ah az)),(eg (aZ al.fB l.ah az)),(rd bA l.ab.length 4 (l.ab.map bL.cells))] (vB (decide (fu l))):=by
 have R:=hin.pO
 have P:=hin.pJ
 have N:=hin.mE
 have O:=hin.pQ
 refine bu kr Tryz.func127 U U fun T Q hQ hN=>?_
 try dsimp only
 refine WS fun _ G=>eQ U fun S=>bp 1 U<|RK G<|WS fun _ A=>rP 2 [] (mc 0 U mn) ?_
 refine fw (xs:=[.tmp 4]) (cs:=[(vI l.gY)]) U cN lX U U U U (by simp [Value.cells]) U U fun H=>?_
 refine rS (CL (dL.eq (gQ 1 5000 ([l.gY]) (some ⟨H,0,none⟩) 1 (by (simp; done))) cZ) (aL (bj 0 U U (by simp [bW]) U)<|aR) U) ?_
 refine rP 1 [] mn ?_
 refine dY (t:=7) U (aP fun K=>?_) (aO fun K=>?_)
 ·refine rP 36 [] mn ?_
  refine RK A<|an<|Q1 hQ U U U ?_
  exact cB (bw (by unfold fu; omega)).symm
 refine rP 3 [] (mc 1 U mn) ?_
 refine fw (xs:=[.tmp 10]) (cs:=[(vI (l.ah.length:Int))]) U cN lX U U U U (by simp [Value.cells]) U U fun AA=>?_
 refine rS (CL (dL.eq (gQ 1 4 ([(l.ah.length:Int)]) (some ⟨AA,0,none⟩) 1 (by (simp; done))) cZ) (aL (bj 0 U U (by simp [bW]) U)<|aR) U) ?_
 refine rP 2 [] mn ?_
 refine dY (t:=14) U (aP fun L=>?_) (aO fun L=>?_)
 ·refine rP 29 [] mn ?_
  refine RK A<|an<|Q1 hQ U U U ?_
  exact cB (bw (by unfold fu; omega)).symm
 refine rP 3 [] (mc 2 U mn) ?_
 refine fw (xs:=[.tmp 17]) (cs:=[(vI (l.ab.length:Int))]) U cN lX U U U U (by simp [Value.cells]) U U fun J=>?_
 refine rS (CL (dL.eq (gQ 1 6 ([(l.ab.length:Int)]) (some ⟨J,0,none⟩) 1 (by (simp; done))) cZ) (aL (bj 0 U U (by simp [bW]) U)<|aR) U) ?_
 refine rP 2 [] mn ?_
 refine dY (t:=21) U (aP fun M=>?_) (aO fun M=>?_)
 ·refine rP 22 [] mn ?_
  refine RK A<|an<|Q1 hQ U U U ?_
  exact cB (bw (by unfold fu; omega)).symm
 refine rP 6 [] (mc 3 U mn) ?_
 refine fw (xs:=[.tmp 27]) (cs:=[(vI l.cQ)]) U cN lX U U U U (by simp [Value.cells]) U U fun B=>?_
 refine rS (CL (dL.eq (gQ 0 ((l.ab.length:Int)-1) ([l.cQ]) (some ⟨B,0,none⟩) 1 (by (simp; done))) cZ) (aL (bj 0 U U (by simp [bW]) U)<|aR) U) ?_
 refine rP 2 [] mn ?_
 refine dY (t:=31) U (aP fun E=>?_) (aO fun E=>?_)
 ·refine rP 12 [] mn ?_
  refine RK A<|an<|Q1 hQ U U U ?_
  exact cB (bw (by unfold fu; omega)).symm
 refine rP 2 [] (mc 4 U mn) ?_
 refine fw (xs:=[.tmp 33]) (cs:=[(vI l.eO)]) U cN lX U U U U (by simp [Value.cells]) U U fun C=>?_
 refine rS (CL (dL.eq (gQ 0 3 ([l.eO]) (some ⟨C,0,none⟩) 1 (by (simp; done))) cZ) (aL (bj 0 U U (by simp [bW]) U)<|aR) U) ?_
 refine rP 2 [] mn ?_
 refine dY (t:=37) U (aP fun F=>?_) (aO fun F=>?_)
 ·refine rP 6 [] mn ?_
  refine RK A<|an<|Q1 hQ U U U ?_
  exact cB (bw (by unfold fu; omega)).symm
 refine rP 2 [] (mc 5 U mn) ?_
 refine fw (xs:=[.tmp 39]) (cs:=[(vI l.cW)]) U cN lX U U U U (by simp [Value.cells]) U U fun D=>?_
 refine rS (CL (dL.eq (gQ 0 3 ([l.cW]) (some ⟨D,0,none⟩) 1 (by (simp; done))) cZ) (aL (bj 0 U U (by simp [bW]) U)<|aR) U) ?_
 refine rP 2 [] mn ?_
 refine RK A<|an<|Q1 hQ U U U ?_
 exact cB (decide_eq_decide.2 (by unfold fu; omega))
theorem KV (l:aQ) (kA:OA) (kC:Nat) (az:List RA) (cA:OA) (cC:Nat) (bA:OA) (bC:Nat) (hin:dF l az):
 dL Tryz.prog 129 [(vA (cb.cells (jI l kA kC cA cC bA bC)))] [(rd kA l.aH.length 9 (l.aH.map aj.cells)),(rd cA l.ah.length 2 (List.zipWith al.cells l.ah az)),(eg (aZ al.fB l.ah az)),(rd bA l.ab.length 4 (l.ab.map bL.cells))] (vB (decide (∀ c∈l.ah,ed c))):=by
 have H:=hin.pO
 have G:=hin.pJ
 have E:=hin.mE
 have F:=hin.pQ
 refine bu kr Tryz.func129 U U fun K Q hQ hN=>?_
 try dsimp only
 refine WS fun _ C=>eQ U fun J=>bp 1 U<|RK C<|WS fun _ D=>rP 2 [] (mc 0 U mn) ?_
 refine rS (CL (xx l.ah az cA cC (Value.func (.func 131) [].toArray [].toArray) (fun m=>(!(decide (ed m)))) (eg (aZ al.fB l.ah az)) (by intro AA m a B A; exact mB (fi:=[]) (ca:=[]) (MC l.ah az AA m a (by exact B) (by exact A) (by exact hin.NB _ _ _ B A))) asm asm) (JV 2 3 3 U U U U U U) U) ?_
 refine rP 2 [] mn ?_
 refine RK D<|an<|Q1 hQ U U U ?_
 exact cB (by rw [Bool.eq_iff_iff,decide_eq_true_eq]; exact AD)
theorem K1 (b:bL) (l:aQ) (kA:OA) (kC:Nat) (az:List RA) (cA:OA) (cC:Nat) (bA:OA) (bC g1:Nat) (hin:dF l az) (htr:cK l.aH=true):
 dL Tryz.prog 135 [(vA (bL.cells b)),(vP g1)] [(rd kA l.aH.length 9 (l.aH.map aj.cells)),(rd cA l.ah.length 2 (List.zipWith al.cells l.ah az)),(eg (aZ al.fB l.ah az)),(rd bA l.ab.length 4 (l.ab.map bL.cells)),(cd g1 28 (cb.cells (jI l kA kC cA cC bA bC)))] (vB (!(decide (iK l b)))):=by
 have J:=hin.pO
 have H:=hin.pJ
 have F:=hin.mE
 have G:=hin.pQ
 have AA:=hin.side
 refine bu kr Tryz.func135 U U fun M Q hQ hN=>?_
 try dsimp only
 refine WS fun _ C=>eQ U fun K=>bp 1 U<|RK C<|WS fun _ D=>bp 1 U<|rS (PJ (bB.cells (bB.mk (bE.mk kA l.aH.length kC))) 5 U bQ U U U)<|bp 1 U<|rS (LP (ct.cells b.jx) 0 U bQ U U U)<|rS (CL (Mf l.aH kA kC b.jx asm asm) (bf [1]) U)<|bp 3 U<|AL U cR fun L=>fg U bS U<|bp 1 U<|RK D<|WS fun _ B=>rP 3 [] mn ?_
 refine cr (t:=16) U (aW fun A=>?_) (aX fun A=>?_)
 ·refine rP 11 [] mn ?_
  refine RK B<|an<|Q1 hQ U U U ?_
  (refine cB ?_; rw [bw (fun h:iK l b=>A ((BU htr).2 h.1))]; rfl)
 refine rP 6 [0,1] (mr 6 U (mc 1 U mn)) ?_
 refine fw (xs:=[.tmp 22]) (cs:=[(vI b.ig)]) U cN lX U U U U (by simp [Value.cells]) U U fun E=>?_
 refine rS (CL (dL.eq (gQ 0 ((l.ah.length:Int)-1) ([b.ig]) (some ⟨E,0,none⟩) 1 (by (simp; done))) cZ) (aL (bj 0 U U (by simp [bW]) U)<|aR) U) ?_
 refine rP 3 [] mn ?_
 refine RK B<|an<|Q1 hQ U U U ?_
 (refine cB ?_; refine congrArg Bool.not (decide_eq_decide.2 ⟨fun h=>⟨(BU htr).1 A,I,I⟩,fun h=>by have:=h.2; omega⟩))
theorem J1 (l:aQ) (kA:OA) (kC:Nat) (az:List RA) (cA:OA) (cC:Nat) (bA:OA) (bC:Nat) (hin:dF l az) (htr:cK l.aH=true):
 dL Tryz.prog 133 [(vA (cb.cells (jI l kA kC cA cC bA bC)))] [(rd kA l.aH.length 9 (l.aH.map aj.cells)),(rd cA l.ah.length 2 (List.zipWith al.cells l.ah az)),(eg (aZ al.fB l.ah az)),(rd bA l.ab.length 4 (l.ab.map bL.cells))] (vB (decide (∀ b∈l.ab,iK l b))):=by
 have H:=hin.pO
 have G:=hin.pJ
 have E:=hin.mE
 have F:=hin.pQ
 refine bu kr Tryz.func133 U U fun AA Q hQ hN=>?_
 try dsimp only
 refine WS fun _ B=>eQ U fun A=>bp 1 U<|RK B<|WS fun _ C=>rP 2 [] (mc 0 U mn) ?_
 refine rS (FU U) ?_
 refine rS (CL (xK l.ab bA bC (Value.func (.func 135) [].toArray [(vP A)].toArray) (fun D=>(!(decide (iK l D)))) (eg [(rd kA l.aH.length 9 (l.aH.map aj.cells)),(rd cA l.ah.length 2 (List.zipWith al.cells l.ah az)),(eg (aZ al.fB l.ah az)),(rd bA l.ab.length 4 (l.ab.map bL.cells)),(cd A 28 (cb.cells (jI l kA kC cA cC bA bC)))]) (by intro D _; exact mB (fi:=[]) (ca:=[(vP A)]) (kU (K1 D l kA kC az cA cC bA bC A (by first|assumption|omega) (by first|assumption|omega)) (bf [0,1,2,3,4]))) asm) (fM 4 U U<|aL (kR (bf [1,2,3,4,0]))<|aR) U) ?_
 refine rP 2 [] mn ?_
 refine RK C<|an<|Q1 hQ U U U ?_
 exact cB (by rw [Bool.eq_iff_iff,decide_eq_true_eq]; exact D5)
theorem Jk (l:aQ) (kA:OA) (kC:Nat) (az:List RA) (cA:OA) (cC:Nat) (bA:OA) (bC:Nat) (n:Int) (hin:dF l az) (htr:cK l.aH=true) (hbk: ∀ b∈l.ab,iK l b) (hn:0≤n∧n<(l.ab.length:Int)):
 dL Tryz.prog 138 [(vA (cb.cells (jI l kA kC cA cC bA bC))),(vI n)] [(rd kA l.aH.length 9 (l.aH.map aj.cells)),(rd cA l.ah.length 2 (List.zipWith al.cells l.ah az)),(eg (aZ al.fB l.ah az)),(rd bA l.ab.length 4 (l.ab.map bL.cells))] (vI (kZ l n.toNat)):=by
 have P:=hin.pO
 have N:=hin.pJ
 have L:=hin.mE
 have M:=hin.pQ
 have O:=hin.side
 refine bu kr Tryz.func138 U U fun AA Q hQ hN=>?_
 try dsimp only
 refine WS fun _ E=>eQ U fun R=>bp 1 U<|RK E<|WS fun _ F=>rP 3 [] (mc 0 U mn) ?_
 obtain ⟨x,hx⟩:=aB l.ab ((n).toNat) I
 have J:=br bL.cells hx
 refine rS (IA ((n).toNat) U (aq 4 U) rO dc I I)<|rS (mF (((n).toNat)*4) U (aq 4 U) (Nat.mul_pos I dc) fq U)<|rS (j0 ((n).toNat) 0 (ct.cells x.jx) U bQ (aq 4 U) J U dc U U)<|AL U Br fun S=>fg U Jc U<|RK F<|WS fun _ G=>bp 1 U<|rS (LP (bB.cells (bB.mk (bE.mk kA l.aH.length kC))) 1 U bQ U U U)<|eZ 1 [] (mc 0 U mn) U<|rS (CL (Mf l.aH kA kC x.jx asm asm) (bf [2]) U)<|bp 3 U<|AL U cR fun T=>fg U bS U<|bp 1 U<|RK G<|ai fun _ C=>WS fun _ H=>rP 2 [] mn ?_
 refine RK H<|bH U (aP fun D=>?_) (aO fun D=>?_)
 ·refine WK C<|WS fun _ B=>rP 3 [] (mc 0 U mn) ?_
  refine RK B<|an<|Q1 hQ U U U ?_
  (refine congrArg (Value.int .i64) ?_; rw [show n.toNat=0 by omega] at hx ⊢; rw [wx hx,(ua htr (hbk _ (List.mem_of_getElem? hx)).1).2])
 refine dj bX [14] [] [] [1,2,3,4,5,6] [] U U U U U<|eS U (FA 0 U fq U)<|eS U (LP (bB.cells (bB.mk (bE.mk kA l.aH.length kC))) 1 U bQ U U U)<|eS U (FA 3 U fq U)<|eS U (L1 (vS bA l.ab.length bC) 1 U bQ U U)<|eS U (MV U)<|eS U (BI U (pG ⟨I,I⟩)) ?_
 obtain ⟨y,hy⟩:=aB l.ab (((n-1)).toNat) I
 have K:=br bL.cells hy
 refine eS U (IA (((n-1)).toNat) U (aq 5 U) rO dc I I)<|eS U (mF ((((n-1)).toNat)*4) U (aq 5 U) (Nat.mul_pos I dc) fq U)<|eS U (j0 (((n-1)).toNat) 0 (ct.cells y.jx) U bQ (aq 5 U) K U dc U U)<|eS U (LW 0 U bQ U U)<|eS U (CL (HY l.aH kA kC y.jx x.jx asm asm) (bf [2]) U)<|eS U (MV U)<|eS U (EX U)<|eS U (EX U)<|dW U<|bV U fun T9 AB=>fg U bS U<|aA (AB _ _ (aC [1,2,3,4,5,6]) ?_)
 refine eU U<|KK C<|WS fun _ A=>rP 3 [] (mc 0 U mn) ?_
 refine RK A<|an<|Q1 hQ U U U ?_
 (refine congrArg (Value.int .i64) ?_; rw [zm I hx (by rw [show n.toNat-1=(n-1).toNat by omega]; exact hy),(jP htr ⟨(hbk _ (List.mem_of_getElem? hy)).1,(hbk _ (List.mem_of_getElem? hx)).1⟩).2])
theorem JP (l:aQ) (kA:OA) (kC:Nat) (az:List RA) (cA:OA) (cC:Nat) (bA:OA) (bC:Nat) (hin:dF l az) (htr:cK l.aH=true) (hbk: ∀ b∈l.ab,iK l b):
 dL Tryz.prog 137 [(vA (cb.cells (jI l kA kC cA cC bA bC)))] [(rd kA l.aH.length 9 (l.aH.map aj.cells)),(rd cA l.ah.length 2 (List.zipWith al.cells l.ah az)),(eg (aZ al.fB l.ah az)),(rd bA l.ab.length 4 (l.ab.map bL.cells))] (vB (decide (∀ i,i<l.ab.length→1≤kZ l i))):=by
 have V:=hin.pO
 have AA:=hin.pJ
 have S:=hin.mE
 have T:=hin.pQ
 refine bu kr Tryz.func137 U U fun X Q hQ hN=>?_
 try dsimp only
 refine WS fun _ J=>eQ U fun W=>bp 1 U<|RK J<|ai fun _ K=>WS fun _ L=>rP 4 [] (mc 0 U mn) ?_
 refine RK L<|av ?_
 have A:(0≤l.ab.length)∧(∀ j,j<0→1≤kZ l j):=by exact ⟨Nat.zero_le _,fun j hj=>absurd hj (Nat.not_lt_zero _)⟩
 refine bI (ι:={z:Nat // (z≤l.ab.length)∧(∀ j,j<z→1≤kZ l j)}) [1,6] [0,1,2,3,4] U U (fun z=>[(7,(vI (z.1:Int)))]) (fun z=>[]) (fun _=>rfl) (fun _=>rfl) (fun z=>l.ab.length-z.1) ⟨0,A⟩ (aU U) (aC [0,1,2,3,4]) ?_
 clear A
 rintro ⟨i,⟨P,B⟩⟩ J5 AB
 try dsimp only
 refine WS fun _ M=>rP 1 [] mn ?_
 refine RK M<|ai fun _ N=>bH U (aP fun R=>?_) (aO fun R=>?_)
 ·refine bx<|ae<|ae<|ax<|KK K<|WS fun _ G=>rP 1 [] mn ?_
  refine RK G<|an<|Q1 hQ U U U ?_
  exact cB (dw (fun j hj=>B j I)).symm
 refine WK N<|ai fun _ O=>av<|WS fun _ D=>bp 2 U<|RK D<|WS fun _ E=>eZ 2 [] (mc 0 U mn) U<|rS (CL (Jk l kA kC az cA cC bA bC (i:Int) hin htr hbk I) (bf [1,2,3,4]) U)<|rP 1 [] mn ?_
 refine RK E<|cw U (aO fun C=>?_) (aP fun C=>?_)
 ·refine WS fun _ F=>rP 1 [] mn ?_
  refine RK F<|an<|Q1 hQ U U U ?_
  exact cB (bw (fun h=>by have:=h i I; simp only [Int.toNat_natCast] at C; omega)).symm
 refine cy<|aG<|KK O<|ak<|rP 2 [] mn ?_
 refine aA ?_
 have H:(vI (((i+1):Nat):Int))=(vI ((i:Int)+1)):=by exact cI I
 refine aS (AB ⟨(i+1),⟨I,fun j hj=>by rcases Nat.lt_or_ge j i with q|q; exact B j q; (obtain rfl:j=i:=by omega); simp only [Int.toNat_natCast] at C; omega⟩⟩ _ _ _ rfl os (cS.cons rfl<|cS.cons rfl<|aV rfl H<|cS.nil _) (aC [0,1,2,3,4]))
end
section
open Go.RowKit
theorem KO:
 dL Tryz.prog 93 [] [] (vA ((fJ.cells (fJ.mk (Value.func (.func 127) [].toArray [].toArray)))++(fJ.cells (fJ.mk (Value.func (.func 129) [].toArray [].toArray)))++(fJ.cells (fJ.mk (Value.func (.func 133) [].toArray [].toArray)))++(fJ.cells (fJ.mk (Value.func (.func 137) [].toArray [].toArray))))):=by
 refine bu kr Tryz.func93 U U fun D Q hQ hN=>?_
 try dsimp only
 refine WS fun _ A=>AL U ND fun C=>RK A<|WS fun _ B=>rS (SX (bg (xs:=[(0,.func 127)]) (cs:=(fJ.cells (fJ.mk (Value.func (.func 127) [].toArray [].toArray)))) U U (bh Cf U)) U U)<|rS (SX (bg (xs:=[(0,.func 129)]) (cs:=(fJ.cells (fJ.mk (Value.func (.func 129) [].toArray [].toArray)))) U U (bh Cf U)) U U)<|rS (SX (bg (xs:=[(0,.func 133)]) (cs:=(fJ.cells (fJ.mk (Value.func (.func 133) [].toArray [].toArray)))) U U (bh Cf U)) U U)<|rS (SX (bg (xs:=[(0,.func 137)]) (cs:=(fJ.cells (fJ.mk (Value.func (.func 137) [].toArray [].toArray)))) U U (bh Cf U)) U U)<|rS (SX (bg (xs:=[(0,.tmp 1),(1,.tmp 2),(2,.tmp 3),(3,.tmp 4)]) (cs:=((fJ.cells (fJ.mk (Value.func (.func 127) [].toArray [].toArray)))++(fJ.cells (fJ.mk (Value.func (.func 129) [].toArray [].toArray)))++(fJ.cells (fJ.mk (Value.func (.func 133) [].toArray [].toArray)))++(fJ.cells (fJ.mk (Value.func (.func 137) [].toArray [].toArray))))) U U (bh Lv U)) U U)<|fg U Nf U<|RK B<|an ?_
 exact Ir hQ [0] (mc 0 U mn) U U
theorem yD (l:aQ) (kA:OA) (kC:Nat) (az:List RA) (cA:OA) (cC:Nat) (bA:OA) (bC:Nat) (hin:dF l az):
 dL Tryz.prog 70 [(vA (cb.cells (jI l kA kC cA cC bA bC)))] [(rd kA l.aH.length 9 (l.aH.map aj.cells)),(rd cA l.ah.length 2 (List.zipWith al.cells l.ah az)),(eg (aZ al.fB l.ah az)),(rd bA l.ab.length 4 (l.ab.map bL.cells))] (vI (cY l)):=by
 have AH:=hin.pO
 have AF:=hin.pJ
 have AD:=hin.mE
 have AE:=hin.pQ
 have AG:=hin.side
 refine bu kr Tryz.func70 U U fun w0 Q hQ hN=>?_
 try dsimp only
 refine WS fun _ m=>eQ U fun b2=>bp 1 U<|RK m<|ai fun _ o=>WS fun _ p=>bp 1 U<|rS (LP (bB.cells (bB.mk (bE.mk kA l.aH.length kC))) 0 U bQ U U U)<|rS (CL (xV l.aH kA kC asm asm) (bf [1]) U)<|bp 1 U<|RK p<|WS fun _ q=>rP 2 [] mn ?_
 refine RK q<|cw U (aW fun B=>?_) (aX fun B=>?_)
 ·refine WS fun _ s=>rP 2 [] mn ?_
  refine RK s<|an<|Q1 hQ U U U ?_
  (refine cI ?_; rw [(vJ B).2,wg (vJ B).1])
 refine WK o<|ai fun _ t=>WS fun _ u=>?_
 have A:=AB B
 refine rS (CL KO (aR) U)<|bp 1 U<|RK u<|av<|ly 5<|g7 fun R9 v=>WS fun _ C=>rS (SX (dG (r:= .bool true) U U U lq) U U)<|RK C<|ai fun _ D=>aJ U<|WK D<|ai fun _ E=>av<|WS fun _ F=>rS (SX (qx (vs:=(fJ.cells (fJ.mk (Value.func (.func 127) [].toArray [].toArray)))) 0 U U U BZ bQ U dc U) U U)<|AL U BJ fun y=>fg U Cr U<|RK F<|WS fun _ G=>eZ 3 [0,1] (mc 0 U (mc 1 U mn)) U<|rS (CL (JL l kA kC az cA cC bA bC hin) (bf [2,3,4,5]) U)<|rP 1 [] mn ?_
 refine RK G<|cw U (aW fun g=>?_) (aX fun g=>?_)
 ·refine WS fun _ H=>rP 1 [] mn ?_
  refine RK H<|an<|Q1 hQ U U U ?_
  exact cI (ou A fun h=>absurd h.head asm).symm
 refine cy<|aG<|KK E<|ak<|rS (SX (dG (r:= .int .i64 1) U U U (kK ⟨dc,dc⟩)) U U)<|bp 1 U<|RK v<|g7 fun R18 d=>WS fun _ AJ=>rS (SX (dG (r:= .bool true) U U U lq) U U)<|RK AJ<|ai fun _ J=>aJ U<|WK J<|ai fun _ K=>av<|WS fun _ L=>rS (SX (qx (vs:=(fJ.cells (fJ.mk (Value.func (.func 129) [].toArray [].toArray)))) 1 U U U BZ bQ U dc U) U U)<|AL U BJ fun z=>fg U Cr U<|RK L<|WS fun _ M=>eZ 3 [0,1] (mc 0 U (mc 2 U mn)) U<|rS (CL (KV l kA kC az cA cC bA bC hin) (bf [3,4,5,6]) U)<|rP 1 [] mn ?_
 refine RK M<|cw U (aW fun i=>?_) (aX fun i=>?_)
 ·refine WS fun _ N=>rP 1 [] mn ?_
  refine RK N<|an<|Q1 hQ U U U ?_
  exact cI (ou A fun h=>absurd h.clock asm).symm
 refine cy<|aG<|KK K<|ak<|rS (SX (dG (r:= .int .i64 2) U U U (kK ⟨dc,dc⟩)) U U)<|bp 1 U<|RK d<|g7 fun R27 e=>WS fun _ O=>rS (SX (dG (r:= .bool true) U U U lq) U U)<|RK O<|ai fun _ P=>aJ U<|WK P<|ai fun _ R=>av<|WS fun _ S=>rS (SX (qx (vs:=(fJ.cells (fJ.mk (Value.func (.func 133) [].toArray [].toArray)))) 2 U U U BZ bQ U dc U) U U)<|AL U BJ fun AA=>fg U Cr U<|RK S<|WS fun _ T=>eZ 3 [0,1] (mc 0 U (mc 3 U mn)) U<|rS (CL (J1 l kA kC az cA cC bA bC hin asm) (bf [4,5,6,7]) U)<|rP 1 [] mn ?_
 refine RK T<|cw U (aW fun j=>?_) (aX fun j=>?_)
 ·refine WS fun _ AI=>rP 1 [] mn ?_
  refine RK AI<|an<|Q1 hQ U U U ?_
  exact cI (ou A fun h=>absurd h.sQ asm).symm
 refine cy<|aG<|KK R<|ak<|rS (SX (dG (r:= .int .i64 3) U U U (kK ⟨dc,dc⟩)) U U)<|bp 1 U<|RK e<|g7 fun R36 f=>WS fun _ V=>rS (SX (dG (r:= .bool true) U U U lq) U U)<|RK V<|ai fun _ W=>aJ U<|WK W<|ai fun _ X=>av<|WS fun _ Y=>rS (SX (qx (vs:=(fJ.cells (fJ.mk (Value.func (.func 137) [].toArray [].toArray)))) 3 U U U BZ bQ U dc U) U U)<|AL U BJ fun AC=>fg U Cr U<|RK Y<|WS fun _ Z=>eZ 3 [0,1] (mc 0 U (mc 4 U mn)) U<|rS (CL (JP l kA kC az cA cC bA bC hin asm asm) (bf [5,6,7,8]) U)<|rP 1 [] mn ?_
 refine RK Z<|cw U (aW fun k=>?_) (aX fun k=>?_)
 ·refine WS fun _ a=>rP 1 [] mn ?_
  refine RK a<|an<|Q1 hQ U U U ?_
  exact cI (ou A fun h=>absurd h.Ln asm).symm
 refine cy<|aG<|KK X<|ak<|rS (SX (dG (r:= .int .i64 4) U U U (kK ⟨dc,dc⟩)) U U)<|bp 1 U<|RK f<|g7 fun R45 x=>WS fun _ b=>rS (SX (dG (r:= .bool false) U U U lq) U U)<|RK b<|ai fun _ w=>bU U<|bx<|ae<|ae<|ax<|KK t<|WS fun _ c=>rP 1 [] mn ?_
 refine RK c<|an<|Q1 hQ U U U ?_
 exact cI (yo A (v9 asm asm asm asm)).symm
theorem yH (lo hi:Int) (f:Value) (p:Int→Bool) (X:ao) (r:Int) (hf: ∀ x0,0≤x0∧x0<hi→AF Tryz.prog f [.int .i64 x0] [X] (.bool (p x0))) (hb:0≤lo∧lo≤r∧r≤hi∧hi≤100000000) (hno: ∀ x,lo≤x→x<r→p x=false) (hyes: ∀ x,r≤x→x<hi→p x=true):
 dL Tryz.prog 216 [(vI lo),(vI hi),f] [X] (vI r):=by
 refine bu kr Tryz.func216 U U fun N Q hQ hN=>?_
 try dsimp only
 refine WS fun _ F=>rP 1 [] mn ?_
 refine RK F<|ai fun _ G=>av ?_
 have A:(lo≤lo∧lo≤r)∧(r≤hi∧hi≤hi):=by omega
 refine bI (ι:={z:Int×Int // (lo≤z.1∧z.1≤r)∧(r≤z.2∧z.2≤hi)}) [2] [0] U U (fun z=>[(0,(vI z.1.1)),(1,(vI z.1.2))]) (fun z=>[]) (fun _=>rfl) (fun _=>rfl) (fun z=>(z.1.2-z.1.1).toNat) ⟨(lo,hi),A⟩ (aU U) (aC [0]) ?_
 clear A
 rintro ⟨⟨a,b⟩,⟨B,C⟩⟩ J3 D
 try dsimp only at B C
 try dsimp only
 refine ai fun _ H=>WS fun _ AA=>rP 3 [] mn ?_
 refine RK AA<|bH U (aP fun M=>?_) (aO fun M=>?_)
 ·refine bx<|ae<|ae<|ax<|KK G<|WS fun _ L=>rP 2 [] mn ?_
  refine RK L<|an<|Q1 hQ U U U ?_
  exact cI I
 refine WK H<|av<|WS fun _ J=>bp 4 U<|rS (BI U (oS I I I))<|bp 2 U<|RK J<|WS fun _ K=>rP 2 [] mn ?_
 refine rS (SX (pV U U U (hf (a+((b-a)/2)) I) (bf [0])) U U)<|RK K<|cw U (fun hp=>?_) (fun hp=>?_)
 ·refine ak<|rP 2 [] mn ?_
  refine aA<|aG ?_
  refine aS (D ⟨(a,(a+((b-a)/2))),(by dsimp only; rcases Int.lt_or_le (a+(b-a)/2) r with q|q; (have E:=hno _ I q; (rw [E] at hp; cases hp)); (have E:=hyes _ q I; (refine ⟨⟨I,I⟩,I,I⟩)))⟩ _ _ _ rfl (by simp only []; omega) (aU rfl) (aC [0]))
 refine ak<|rP 3 [] mn ?_
 refine aA<|aG ?_
 refine aS (D ⟨(((a+((b-a)/2))+1),b),(by dsimp only; rcases Int.lt_or_le (a+(b-a)/2) r with q|q; (have E:=hno _ I q; (refine ⟨⟨I,I⟩,I,I⟩)); (have E:=hyes _ q I; (rw [E] at hp; cases hp)))⟩ _ _ _ rfl (by simp only []; omega) (aU rfl) (aC [0]))
theorem ER (u:Int) (c:al) (sA:OA) (sC g1:Nat) (s:aD) (g2:Nat) (hc:ed c) (hu:0≤u∧u≤90000000):
 dL Tryz.prog 217 [(vI u),(vP g1),(vP g2)] [(rd sA c.aK.length 3 (c.aK.map bY.cells)),(cd g1 119 (cT.cells (cT.mk c.cJ (bE.mk sA c.aK.length sC)))),(cd g2 165 (aD.cells s))] (vB (decide (s.Read≤u+(gp c u).Hi))):=by
 have C:=ox hc hu
 refine bu kr Tryz.func217 U U fun D Q hQ hN=>?_
 try dsimp only
 refine WS fun _ A=>bp 1 U<|RK A<|ai fun _ B=>cU bX 10 kr<|lg 3 [] (mr 1 U mn) U<|dS (CL (B4 c sA sC u hc hu) (bf [0]) U)<|dS (SX (k6 (v:=(vI ((gp c u).Hi))) U U fq xh U) U U)<|dP 5 [] (mr 2 U mn) ?_
 refine cv<|RK B<|an ?_
 exact Q1 hQ U U U U
theorem GC (u:Int) (c:al) (sA:OA) (sC g1:Nat) (s:aD) (g2:Nat) (hc:ed c) (hu:0≤u∧u≤90000000):
 dL Tryz.prog 219 [(vI u),(vP g1),(vP g2)] [(rd sA c.aK.length 3 (c.aK.map bY.cells)),(cd g1 119 (cT.cells (cT.mk c.cJ (bE.mk sA c.aK.length sC)))),(cd g2 165 (aD.cells s))] (vB (decide (s.Read<u+(gp c u).Lo))):=by
 have C:=ox hc hu
 refine bu kr Tryz.func219 U U fun D Q hQ hN=>?_
 try dsimp only
 refine WS fun _ A=>bp 1 U<|RK A<|ai fun _ B=>cU bX 10 kr<|lg 3 [] (mr 1 U mn) U<|dS (CL (B4 c sA sC u hc hu) (bf [0]) U)<|dS (SX (k6 (v:=(vI ((gp c u).Lo))) U U fq F2 U) U U)<|dP 5 [] (mr 2 U mn) ?_
 refine cv<|RK B<|an ?_
 exact Q1 hQ U U U U
theorem FB (l:aQ) (kA:OA) (kC:Nat) (az:List RA) (cA:OA) (cC:Nat) (bA:OA) (bC:Nat) (s:aD) (hin:dF l az) (hok:ke l) (hs:(0≤s.e7∧s.e7≤(l.ab.length:Int)-1)∧0≤s.Read∧s.Read≤86400000):
 dL Tryz.prog 208 [(vA (cb.cells (jI l kA kC cA cC bA bC))),(vA (aD.cells s))] [(rd kA l.aH.length 9 (l.aH.map aj.cells)),(rd cA l.ah.length 2 (List.zipWith al.cells l.ah az)),(eg (aZ al.fB l.ah az)),(rd bA l.ab.length 4 (l.ab.map bL.cells))] (vA (aa.cells (cD l s))):=by
 have V:=hin.pO
 have S:=hin.pJ
 have P:=hin.mE
 have R:=hin.pQ
 refine bu kr Tryz.func208 U U fun Z Q hQ hN=>?_
 try dsimp only
 refine WS fun _ AB=>eQ U fun X=>eQ U fun D=>AL U cR fun Y=>RK AB<|ai fun _ J=>dj bX [11,12] [] [] [0,1,2,3,4,5,6] [] U U U U U<|eS U (FA 2 U fq U)<|eS U (L1 (vS cA l.ah.length cC) 2 U bQ U U)<|eS U (FA 3 U fq U)<|eS U (L1 (vS bA l.ab.length bC) 2 U bQ U U)<|eS U (FA 0 U fq U)<|eS U (L1 (vI s.e7) 1 U bQ U U) ?_
 obtain ⟨y,hy⟩:=aB l.ab ((s.e7).toNat) I
 have O:=br bL.cells hy
 refine eS U (IA ((s.e7).toNat) U (aq 6 U) rO dc I I)<|eS U (mF ((((s.e7).toNat)*4)+3) U (aq 6 U) (Nat.mul_pos I dc) fq U)<|eS U (fE ((s.e7).toNat) 3 (vI y.ig) U bQ (aq 6 U) O U dc U) ?_
 have W:=(hok.sQ _ (aI hy)).2
 obtain ⟨x,hx⟩:=aB l.ah ((y.ig).toNat) I
 obtain ⟨xa,F⟩:=aB az ((y.ig).toNat) I
 have N:(List.zipWith al.cells l.ah az)[(y.ig).toNat]? =some (al.cells x xa):=db hx F
 refine eS U (IA ((y.ig).toNat) U (aq 4 U) vw dc I I)<|eS U (j0 ((y.ig).toNat) 0 (cT.cells (cT.mk x.cJ (bE.mk xa.1 x.aK.length xa.2))) U bQ (aq 4 U) N U dc U U)<|dW U<|bV U fun T6 L=>AL U wD fun E=>aA (L _ _ (aC [1,2,3,4,5,6,7]) ?_)
 refine bV U fun T8 M=>fg U vY U<|aA (M _ _ (aC [1,2,3,4,5,6,7]) ?_)
 refine eU U<|KK J<|WS fun _ K=>?_
 have A:=hok.clock _ (aI hx)
 have AA:=gF (p:=fV x s.Read) (n:=86400001)
 have T:=gF (p:=fW x s.Read) (n:=86400001)
 refine rS (FU U) ?_
 refine rS (CL (yH 0 86400001 (Value.func (.func 217) [].toArray [(vP E),(vP D)].toArray) (fun B=>(decide (s.Read≤B+(gp x B).Hi))) (eg [(rd xa.1 x.aK.length 3 (x.aK.map bY.cells)),(cd E 119 (cT.cells (cT.mk x.cJ (bE.mk xa.1 x.aK.length xa.2)))),(cd D 165 (aD.cells s))]) (eV (fV x s.Read) 86400001) (by intro B _; exact mB (fi:=[]) (ca:=[(vP E),(vP D)]) (kU (ER B x xa.1 xa.2 E s D (by first|assumption|omega) (by first|assumption|omega)) (JV 0 1 2 U U U U U U))) I (by intro z G hz; exact (jG A G I).1 hz) (by intro z hz H; exact (jG A I H).2.1 hz)) (aL (kR (aL (show fR _ (rd xa.1 x.aK.length 3 (x.aK.map bY.cells)).holds from (bT 6 U (bk hx F (by simp [al.fB]))))<|fM 0 U U<|fM 2 U U<|aR))<|aR) U) ?_
 refine rS (FU U) ?_
 refine rS (CL (yH 0 86400001 (Value.func (.func 219) [].toArray [(vP E),(vP D)].toArray) (fun C=>(decide (s.Read<C+(gp x C).Lo))) (eg [(rd xa.1 x.aK.length 3 (x.aK.map bY.cells)),(cd E 119 (cT.cells (cT.mk x.cJ (bE.mk xa.1 x.aK.length xa.2)))),(cd D 165 (aD.cells s))]) (eV (fW x s.Read) 86400001) (by intro C _; exact mB (fi:=[]) (ca:=[(vP E),(vP D)]) (kU (GC C x xa.1 xa.2 E s D (by first|assumption|omega) (by first|assumption|omega)) (JV 0 1 2 U U U U U U))) I (by intro z G hz; exact (jG A G I).2.2.1 hz) (by intro z hz H; exact (jG A I H).2.2.2 hz)) (aL (kR (aL (show fR _ (rd xa.1 x.aK.length 3 (x.aK.map bY.cells)).holds from (bT 6 U (bk hx F (by simp [al.fB]))))<|fM 0 U U<|fM 2 U U<|aR))<|aR) U) ?_
 refine rP 1 [] mn ?_
 refine rS (SX (bg (xs:=[(0,.tmp 18),(1,.tmp 21)]) (cs:=(aa.cells (aa.mk (eV (fV x s.Read) 86400001) ((eV (fW x s.Read) 86400001)-1)))) U U (bh eM U)) U U)<|qf U bS U<|RK K<|an<|Ir hQ [0] (mc 1 U mn) U ?_
 unfold cD yF; rw [uC hy hx]
end
section
open Go.RowKit
theorem F_ (n lo hi:Int) (g1 g2:Nat):
 dL Tryz.prog 73 [(vI n),(vP g1),(vP g2)] [(cd g1 3 [(vI lo)]),(cd g2 3 [(vI hi)])] (vB (decide (n<lo∨hi<n))):=by
 refine bu kr Tryz.func73 U U fun D Q hQ hN=>?_
 try dsimp only
 refine WS fun _ B=>bp 1 U<|RK B<|WS fun _ A=>rP 4 [] (mr 0 U mn) ?_
 refine cr (t:=8) U (aO fun C=>?_) (aP fun C=>?_)
 ·refine rP 5 [] mn ?_
  refine RK A<|an<|Q1 hQ U U U ?_
  exact cB (dw I).symm
 refine rP 5 [] (mr 1 U mn) ?_
 refine RK A<|an<|Q1 hQ U U U ?_
 exact cB (decide_eq_decide.2 I)
theorem l7 (lo hi:Int) (l:List Int) (lA:OA) (lC:Nat) (hlen:l.length≤1000000):
 dL Tryz.prog 43 [(vI lo),(vI hi),(vS lA l.length lC)] [(rd lA l.length 1 (l.map iC))] (vB (oa lo hi l)):=by
 refine bu kr Tryz.func43 U U fun F Q hQ hN=>?_
 try dsimp only
 refine WS fun _ D=>xp U U fun A=>xp U U fun B=>bp 1 U<|RK D<|WS fun _ E=>rP 1 [] mn ?_
 refine rS (FU U) ?_
 refine rS (CL (qd l lA lC (Value.func (.func 73) [].toArray [(vP A),(vP B)].toArray) (fun C=>(decide (C<lo∨hi<C))) (eg [(cd A 3 [(vI lo)]),(cd B 3 [(vI hi)])]) (by intro C _; exact mB (fi:=[]) (ca:=[(vP A),(vP B)]) (kU (F_ C lo hi A B) (bf [0,1]))) hlen) (fM 2 U U<|aL (kR (bf [1,0]))<|aR) U) ?_
 refine rP 2 [] mn ?_
 refine RK E<|an ?_
 exact Q1 hQ U U U U
theorem Ic (s:aa):
 dL Tryz.prog 82 [(vA (aa.cells s))] [] (vB (decide (kG s))):=by
 refine bu kr Tryz.func82 U U fun F Q hQ hN=>?_
 try dsimp only
 refine WS fun _ B=>eQ U fun E=>bp 1 U<|RK B<|WS fun _ A=>rP 4 [] (mc 0 U mn) ?_
 refine fw (xs:=[.tmp 4,.tmp 6]) (cs:=[(vI s.Lo),(vI s.Hi)]) U cN lX U U U U (by simp [Value.cells]) U U fun C=>?_
 refine rS (CL (dL.eq (l7 1 600000 ([s.Lo,s.Hi]) (some ⟨C,0,none⟩) 2 (by (simp; done))) r_) (aL (bj 0 U U (by simp [bW]) U)<|aR) U) ?_
 refine rP 1 [] mn ?_
 refine dY (t:=9) U (aP fun D=>?_) (aO fun D=>?_)
 ·refine rP 7 [] mn ?_
  refine RK A<|an<|Q1 hQ U U U ?_
  simp only [kG]
  exact cB (bw I).symm
 refine rP 7 [] (mc 1 U mn) ?_
 refine RK A<|an<|Q1 hQ U U U ?_
 simp only [kG]
 exact cB (decide_eq_decide.2 I)
theorem Gt (d:aw) (sgA:OA) (sgC:Nat):
 dL Tryz.prog 198 [(vA (bq.cells (bq.mk d.Out d.de d.Time (j1 d.bO sgA sgC))))] [(rd sgA d.bO.ag.length 2 (d.bO.ag.map aD.cells))] (vB (decide (kI d.bO))):=by
 refine bu kr Tryz.func198 U U fun F Q hQ hN=>?_
 try dsimp only
 refine WS fun _ B=>eQ U fun E=>bp 1 U<|RK B<|WS fun _ A=>rP 5 [] (mc 0 U mn) ?_
 refine dY (t:=7) U (aP fun C=>?_) (aO fun C=>?_)
 ·refine rP 13 [] mn ?_
  refine RK A<|an<|Q1 hQ U U U ?_
  simp only [kI]
  exact cB (bw I).symm
 refine rP 6 [] (mc 0 U mn) ?_
 refine dY (t:=13) U (aP fun D=>?_) (aO fun D=>?_)
 ·refine rP 7 [] mn ?_
  refine RK A<|an<|Q1 hQ U U U ?_
  simp only [kI]
  exact cB (bw I).symm
 refine rP 7 [] (mc 0 U mn) ?_
 refine RK A<|an<|Q1 hQ U U U ?_
 simp only [kI]
 exact cB (decide_eq_decide.2 I)
theorem M7 (d:aw) (sgA:OA) (sgC:Nat):
 dL Tryz.prog 196 [(vA (bq.cells (bq.mk d.Out d.de d.Time (j1 d.bO sgA sgC))))] [(rd sgA d.bO.ag.length 2 (d.bO.ag.map aD.cells))] (vB d.Out):=by
 refine bu kr Tryz.func196 U U fun D Q hQ hN=>?_
 try dsimp only
 refine WS fun _ A=>eQ U fun C=>bp 1 U<|RK A<|WS fun _ B=>rP 3 [] (mc 0 U mn) ?_
 refine RK B<|an<|Q1 hQ U U U ?_
 rfl
theorem Lq (d:aw) (sgA:OA) (sgC:Nat):
 dL Tryz.prog 199 [(vA (bq.cells (bq.mk d.Out d.de d.Time (j1 d.bO sgA sgC))))] [(rd sgA d.bO.ag.length 2 (d.bO.ag.map aD.cells))] (vB d.de):=by
 refine bu kr Tryz.func199 U U fun D Q hQ hN=>?_
 try dsimp only
 refine WS fun _ A=>eQ U fun C=>bp 1 U<|RK A<|WS fun _ B=>rP 3 [] (mc 0 U mn) ?_
 refine RK B<|an<|Q1 hQ U U U ?_
 rfl
theorem M3 (d:aw) (sgA:OA) (sgC:Nat):
 dL Tryz.prog 201 [(vA (bq.cells (bq.mk d.Out d.de d.Time (j1 d.bO sgA sgC))))] [(rd sgA d.bO.ag.length 2 (d.bO.ag.map aD.cells))] (vB true):=by
 refine bu kr Tryz.func201 U U fun D Q hQ hN=>?_
 try dsimp only
 refine WS fun _ A=>eQ U fun C=>bp 1 U<|RK A<|WS fun _ B=>rP 1 [] mn ?_
 refine RK B<|an<|Q1 hQ U U U ?_
 rfl
end
section
open Go.RowKit
structure Ff (S:BS) (w0:World) (X:ao) (C0:List ao) (w:World) (S':BS):Prop where
 st:St S w0 (X::C0) w
 w_: ∀ b,S'.w b↔ ∃ A∈C0,A.wf b
theorem Aq {A B:ao} (h:zQ A B):zQ A.ro B:=fun b C D=>⟨fun h=>h,(h b C D).2⟩
theorem zC {E:eB} {c:Code} {Q:cM} {D:List Deferred} {L:List (Nat×Value)} {C C0:List ao} {X:ao} (i:Nat) (hn:decide (i::(List.range C.length).filter fun k=>k != i).Nodup=true) (hC:jt C (i::(List.range C.length).filter fun k=>k != i)=X::C0)
 (h: ∀ w S',Ff E.S E.w0 X C0 w S'→WJ ⟨E.P,E.r,E.n,S',w⟩ c Q D L (X.ro::C0)):WJ E c Q D L C:=fun a w hf hs=>by
 have F:=St.jt _ hn hC hs
 obtain ⟨G,H⟩:=List.pairwise_cons.1 F.sep
 refine h w ⟨fun b=> ∃ A∈C0,A.wf b,fun _=>True⟩ ⟨F,fun b=>Iff.rfl⟩ a w hf ⟨dk.refl _ _,fun A hA=>?_,List.Pairwise.cons (fun B hB=>Aq (G B hB)) H,fun A hA b hb=>?_,fun A hA b hb=> .inr trivial⟩
 ·rcases List.mem_cons.1 hA with rfl|hA
  ·exact F.holds X (ck ..)
  ·exact F.holds A (dq _ hA)
 ·rcases List.mem_cons.1 hA with rfl|hA
  ·exact hb.elim
  ·exact .inr ⟨A,hA,hb⟩
theorem wX {E:eB} {S':BS} {w:World} {K:Act→World→Prop} {D:List Deferred} {L:List (Nat×Value)} {C0 C1 C2:List ao} {X:ao} (hz:Ff E.S E.w0 X C0 w S') (is:List Nat) (hn:decide is.Nodup=true) (hC:jt C2 is=C1) (hwr:C1.all (·.wr)=true)
 (h:KJ E K D L (X::C1)):KJ ⟨E.P,E.r,E.n,S',w⟩ K D L C2:=fun a w' hf hs=>by
 have F:=St.jt is hn hC hs
 have C:=hz.st
 obtain ⟨J,M⟩:=List.pairwise_cons.1 C.sep
 have AA: ∀ b,X.eA b→ ¬ S'.w b:=fun b hb hw=>by
  obtain ⟨A,hA,hw⟩:=(hz.w_ b).1 hw
  exact (J A hA b hb (A.jr b hw)).2 hw
 have G: ∀ b,S'.w b→E.w0.heap.size≤b∨E.S.w b:=fun b hb=>by
  obtain ⟨A,hA,hw⟩:=(hz.w_ b).1 hb
  exact C.own A (dq _ hA) b hw
 have H: ∀ A∈C1,∀ b,A.eA b→w.heap.size≤b∨S'.w b:=fun A hA b hb=>F.own A hA b (A.whole (List.all_eq_true.1 hwr A hA) b hb)
 refine h a w' hf ⟨?_,fun A hA=>?_,List.Pairwise.cons (fun B hB b hb hb'=>?_) F.sep,fun A hA b hb=>?_,fun A hA b hb=>?_⟩
 ·refine ⟨F.keeps.os.trans C.keeps.os,F.keeps.tape.trans C.keeps.tape,F.keeps.output.trans C.keeps.output,Nat.le_trans C.keeps.size F.keeps.size,fun k hk hn'=>?_⟩
  refine (F.keeps.block k (Nat.lt_of_lt_of_le hk C.keeps.size) fun hw=>?_).trans (C.keeps.block k hk hn')
  rcases G k hw with q|q
  ·omega
  ·exact hn' q
 ·rcases List.mem_cons.1 hA with rfl|hA
  ·have hh:=C.holds A (ck ..)
   exact A.mG w w' (fun b hb=>F.keeps.block b (A.lt w hh b hb) (AA b hb)) hh
  ·exact F.holds A hA
 ·exfalso
  have hl:=X.lt w (C.holds X (ck ..)) b hb
  rcases H B hB b hb' with q|q
  ·omega
  ·exact AA b hb q
 ·rcases List.mem_cons.1 hA with rfl|hA
  ·exact C.own A (ck ..) b hb
  ·rcases F.own A hA b hb with q|q
   ·exact .inl (Nat.le_trans C.keeps.size q)
   ·exact G b q
 ·rcases List.mem_cons.1 hA with rfl|hA
  ·exact C.seen A (ck ..) b hb
  ·rcases H A hA b hb with q|q
   ·exact .inl (Nat.le_trans C.keeps.size q)
   ·obtain ⟨B,hB,hw⟩:=(hz.w_ b).1 q
    exact C.seen B (dq _ hB) b (B.jr b hw)
/-- put back, as it was -/
theorem Dr {M A:Type} {f:M→A→List ao} {S:BS} {w0 w:World} {C:List ao} {ms:List M} {asl:List A} {k:Nat} {m:M} {a:A} {X:ao} (hm:ms[k]? =some m) (ha:asl[k]? =some a) (hf:f m a=[X]) (h:St S w0 (X::bM (gH f ms asl k)::C) w):St S w0 (bM (aZ f ms asl)::C) w:=by
 have B:St S w0 (bM (gH f ms asl k)::X::C) w:=h.perm (List.Perm.swap _ _ _)
 have D:St S w0 ((f m a++gH f ms asl k)++C) w:=by
  rw [hf]
  exact B.gR.perm (List.perm_middle (a:=X) (l₁:=gH f ms asl k) (l₂:=C))
 exact rU (pq hm ha).symm D.tied
theorem Ep {E:eB} {K:Act→World→Prop} {D:List Deferred} {L:List (Nat×Value)} {C C1:List ao} {M A:Type} {f:M→A→List ao} {ms:List M} {asl:List A} {k:Nat} {m:M} {a:A} {X:ao} (i j:Nat) (hm:ms[k]? =some m) (ha:asl[k]? =some a) (hf:f m a=[X])
 (hn:decide (j::i::(List.range C.length).filter fun k=>k != i&&k != j).Nodup=true) (hC:jt C (j::i::(List.range C.length).filter fun k=>k != i&&k != j)=X::bM (gH f ms asl k)::C1)
 (h:KJ E K D L (bM (aZ f ms asl)::C1)):KJ E K D L C:=fun a w hf' hs=>h a w hf' (Dr hm ha hf (St.jt _ hn hC hs))
theorem wu {M A:Type} {f:M→A→List ao} {ms:List M} {asl:List A} {m:M} {a:A} {X:ao} (hl:ms.length=asl.length) (hf:f m a=[X]):aZ f ms asl++[X]=aZ f (ms++[m]) (asl++[a]):=by
 rw [iJ hl,← hf]; simp [aZ]
theorem v7 {E:eB} {K:Act→World→Prop} {D:List Deferred} {L:List (Nat×Value)} {C C1:List ao} {M A:Type} {f:M→A→List ao} {ms:List M} {asl:List A} {m:M} {a:A} {X:ao} (i j:Nat) (hf:f m a=[X])
 (hn:decide (j::i::(List.range C.length).filter fun k=>k != i&&k != j).Nodup=true) (hC:jt C (j::i::(List.range C.length).filter fun k=>k != i&&k != j)=X::bM (aZ f ms asl)::C1)
 (h:KJ E K D L (bM (aZ f (m::ms) (a::asl))::C1)):KJ E K D L C:=fun b w hf' hs=>by
 have B:=St.jt _ hn hC hs
 have F:St E.S E.w0 (bM (aZ f ms asl)::X::C1) w:=B.perm (List.Perm.swap _ _ _)
 have G:St E.S E.w0 (aZ f (m::ms) (a::asl)++C1) w:=by
  show St E.S E.w0 ((f m a++aZ f ms asl)++C1) w
  rw [hf]
  exact F.gR.perm (List.perm_middle (a:=X) (l₁:=aZ f ms asl) (l₂:=C1))
 exact h b w hf' G.tied
end
section
open Go.RowKit
abbrev j_ (r:Nat):ao:=jU r (.deferred (some []))
theorem Ih (rs:List Nat):(bM (rs.map j_)).wr=true:=by
 show (rs.map j_).all (·.wr)=true
 rw [eo]
 intro X hX
 obtain ⟨r,_,rfl⟩:=List.mem_map.1 hX
 rfl
theorem tg {E:eB} {c:Code} {Q:cM} {D:List Deferred} {L:List (Nat×Value)} {C:List ao} {ι:Type} (Di:ι→List Deferred) (Li:ι→List (Nat×Value)) (Ci:ι→List ao) (μ:ι→Nat) (x0:ι)
 (hD:D=Di x0) (h0:cS L (Li x0)) (hC: ∀ w,St E.S E.w0 C w→St E.S E.w0 (Ci x0) w)
 (round: ∀ x (J:Act→World→Prop),(∀ y D' L' C',D'=Di y→μ y<μ x→cS L' (Li y)→(∀ w,St E.S E.w0 C' w→St E.S E.w0 (Ci y) w)→KJ E J D' L' C')→WJ E c (Exit.then J Q) (Di x) (Li x) (Ci x)):WJ E (.loop c) Q D L C:=by
 intro a w hf hs
 subst hD
 have H: ∃ x,Fr E.n (Di x) (Li x) a∧St E.S E.w0 (Ci x) w:=⟨x0,hf.sub h0,hC w hs⟩
 clear hf hs
 have key: ∀ (m:Nat) (a:Act) (w:World),(∃ x,μ x=m∧Fr E.n (Di x) (Li x) a∧St E.S E.w0 (Ci x) w)→(Code.loop c).wpIn (Fw E.r) 0 E.P Q a w:=by
  intro m a w hx
  refine wpIn_loop (fun a w=> ∃ x,Fr E.n (Di x) (Li x) a∧St E.S E.w0 (Ci x) w) (fun a w=>leastOf fun k=> ∃ x,μ x=k∧Fr E.n (Di x) (Li x) a∧St E.S E.w0 (Ci x) w) (by obtain ⟨x,_,h⟩:=hx; exact ⟨x,h⟩) ?_
  intro a w hx
  have F: ∃ k,∃ x,μ x=k∧Fr E.n (Di x) (Li x) a∧St E.S E.w0 (Ci x) w:=by obtain ⟨x,h⟩:=hx; exact ⟨_,x,rfl,h⟩
  obtain ⟨x,K,AA,M⟩:=(leastOf_spec F).1
  refine round x _ ?_ a w AA M
  intro y D' L' C' hD G A B a' w' hf' hs'
  subst hD
  refine ⟨⟨y,hf'.sub A,B _ hs'⟩,?_⟩
  rw [← K]
  exact Nat.lt_of_le_of_lt ((leastOf_spec ⟨_,y,U,hf'.sub A,B _ hs'⟩).2 _ ⟨y,U,hf'.sub A,B _ hs'⟩) G
 obtain ⟨x,h⟩:=H
 exact key _ a w ⟨x,U,h⟩
theorem St.Pm {S:BS} {w0 w:World} {C X:List ao} {A:ao} (h:St S w0 (A::bM X::C) w):St S w0 (bM (A::X)::C) w:=by
 have B:St S w0 (bM X::A::C) w:=h.perm (List.Perm.swap _ _ _)
 have D:St S w0 ((A::X)++C) w:=B.gR.perm (List.perm_middle (a:=A) (l₁:=X) (l₂:=C))
 exact D.tied
theorem FE {E:eB} {K:Act→World→Prop} {D:List Deferred} {L:List (Nat×Value)} {C C1 X:List ao} {A:ao} (i j:Nat) (hn:decide (j::i::(List.range C.length).filter fun k=>k != i&&k != j).Nodup=true) (hC:jt C (j::i::(List.range C.length).filter fun k=>k != i&&k != j)=A::bM X::C1)
 (h:KJ E K D L (bM (A::X)::C1)):KJ E K D L C:=fun a w hf hs=>h a w hf ((St.jt _ hn hC hs).Pm)
theorem Bd {E:eB} {K:Act→World→Prop} {D:List Deferred} {L:List (Nat×Value)} {C:List ao} (h:KJ E K D L (bM []::C)):KJ E K D L C:=fun a w hf hs=>h a w hf hs.Jx
theorem KD {E:eB} {K:Act→World→Prop} {D:List Deferred} {L:List (Nat×Value)} (C1 C2:List ao) (h:KJ E K D L (bM C1::C2)):KJ E K D L (C1++C2):=fun a w hf hs=>h a w hf (St.tied hs)
theorem IB {E:eB} {fn:Func} {R:Ending→World→Prop} {D:List Deferred} {L:List (Nat×Value)} {C C1:List ao} {rs:List Nat} (i:Nat) (hn:decide (i::(List.range C.length).filter fun k=>k != i).Nodup=true) (hC:jt C (i::(List.range C.length).filter fun k=>k != i)=bM (rs.map j_)::C1)
 (h:LJ E fn R D L C1):LJ E fn R (rs.map jZ++D) L C:=by
 have key: ∀ rs:List Nat,LJ E fn R (rs.map jZ++D) L (bM (rs.map j_)::C1):=by
  intro rs
  induction rs with
  |nil=>exact fun a w hf hs=>h a w hf (hs.take (List.sublist_cons_self _ _))
  |cons r rs ih=>
   have A:LJ E fn R (jZ r::(rs.map jZ++D)) L (j_ r::bM (rs.map j_)::C1):=p9 0 rfl rfl (fun a w hf hs=>ih a w hf (hs.take (List.sublist_cons_self _ _)))
   intro a w hf hs
   refine A a w hf ?_
   have B:St E.S E.w0 ((j_ r::rs.map j_)++C1) w:=St.gR (C1:=j_ r::rs.map j_) hs
   have F:St E.S E.w0 (rs.map j_++(j_ r::C1)) w:=B.perm (List.perm_middle (a:=j_ r) (l₁:=rs.map j_) (l₂:=C1)).symm
   exact F.tied.perm (List.Perm.swap _ _ _)
 exact fun a w hf hs=>key rs a w hf (St.jt _ hn hC hs)
theorem Fm {E:eB} {fn:Func} {R:Ending→World→Prop} {L:List (Nat×Value)} {C C1:List ao} {rs:List Nat} (i:Nat) (hn:decide (i::(List.range C.length).filter fun k=>k != i).Nodup=true) (hC:jt C (i::(List.range C.length).filter fun k=>k != i)=bM (rs.map j_)::C1)
 (h:LJ E fn R [] L C1):LJ E fn R (rs.map jZ) L C:=by
 have:=IB (D:=[]) i hn hC h
 rwa [List.append_nil] at this
end
section
open Go.RowKit
theorem Gz (fs:List FM) (fb:List Nat):(bM (aZ lW fs fb)).wr=true:=by
 show (aZ lW fs fb).all (·.wr)=true
 rw [eo]
 intro X hX
 obtain ⟨k,m,a,_,_,h⟩:=jn hX
 simp only [lW,cu] at h
 subst h; rfl
theorem MR (fs:List TM) (fb:List Nat):(bM (aZ pz fs fb)).wr=true:=by
 show (aZ pz fs fb).all (·.wr)=true
 rw [eo]
 intro X hX
 obtain ⟨k,m,a,_,_,h⟩:=jn hX
 simp only [pz,cu] at h
 subst h; rfl
end
section
def dE (bl:List Nat) (n:Nat):List (Option Nat):=bl.map some++List.replicate (n-bl.length) none
def fY (bl:List Nat) (n:Nat):List (Option Nat):=List.replicate (n-bl.length) none++bl.map some
theorem pd {bl:List Nat} {n:Nat} (h:bl.length≤n):(dE bl n).length=n:=by simp [dE]; omega
theorem v8 {bl:List Nat} {n:Nat} (h:bl.length≤n):(fY bl n).length=n:=by simp [fY]; omega
theorem vX {n:Nat}:List.replicate n none=dE [] n:=by simp [dE]
theorem DP {n:Nat}:List.replicate n none=fY [] n:=by simp [fY]
theorem vU {bl:List Nat} {n:Nat} (h:bl.length=n):dE bl n=bl.map some:=by simp [dE,h]
theorem C6 {bl:List Nat} {n:Nat} (h:bl.length=n):fY bl n=bl.map some:=by simp [fY,h]
theorem mV {bl:List Nat} {n k g:Nat} (h:bl[k]? =some g):(dE bl n)[k]? =some (some g):=by
 have hk:=(List.getElem?_eq_some_iff.1 h).1
 unfold dE
 rw [List.getElem?_append_left (by simpa using hk),eG,h]; rfl
theorem qz {bl:List Nat} {n k i g:Nat} (h:bl[i]? =some g) (hk:k=n-bl.length+i):(fY bl n)[k]? =some (some g):=by
 subst hk
 unfold fY
 rw [List.getElem?_append_right sm,eG,List.length_replicate,Nat.add_sub_cancel_left,h]; rfl
theorem rr {bl:List Nat} {n k g:Nat} (hk:k=bl.length) (h:bl.length<n):(dE bl n).set k (some g)=dE (bl++[g]) n:=by
 subst hk
 unfold dE
 rw [List.set_append_right _ _ sm]
 have e:n-bl.length=(n-(bl++[g]).length)+1:=by simp; omega
 rw [e,List.replicate_succ]
 simp
theorem CF {bl:List Nat} {n k g:Nat} (hk:k+1+bl.length=n):(fY bl n).set k (some g)=fY (g::bl) n:=by
 unfold fY
 have e:n-bl.length=k+1:=by omega
 have A:n-(g::bl).length=k:=by simp; omega
 rw [e,A,List.set_append_left _ _ sm,List.replicate_succ',List.set_append_right _ _ sm]
 simp
theorem pC {l:List (Option Nat)} {k g:Nat} (h:l[k]? =some (some g)):(l.map oC)[k]? =some (oC (some g)):=by rw [eG,h]; rfl
theorem xe {α:Type} {l:List α} {x:α} {k:Nat} (h:k=l.length):(l++[x])[k]? =some x:=by subst h; simp
theorem F1 {α:Type} {l:List α} {x y:α} {k:Nat} (h:l[k]? =some y):(l++[x])[k]? =some y:=by rw [List.getElem?_append_left (List.getElem?_eq_some_iff.1 h).1]; exact h
structure ob (w:bJ) (fs:List FM):Prop where
 all: ∀ (b:Nat) m,fs[b]? =some m→qH m (fwd w b)∧(m.map (·.1)).Nodup
structure f_ (w:bJ) (k:Nat) (bs:List FM):Prop where
 all: ∀ (i:Nat) m,bs[i]? =some m→sO m (back w (k+i))∧(m.map (·.1)).Nodup
variable {w:bJ} {b:Nat} {mb m left:List (ar×Int)} {o:Int×aa} {os:List (Int×aa)} {p:ar×Int}
theorem ob.first:ob w [[(⟨0,0⟩,w.Start)]]:=⟨fun b m h=>by
 match b with
 |0=>simp at h; subst h; exact ⟨CI,sm⟩
 |n+1=>simp at h⟩
theorem ob.add {fs:List FM} (h:ob w fs) (hl:fs.length=b+1) (hmb:fs[b]? =some mb) (hm:tJ w b m) (hd:iS w b mb m left) (h0:left=[]):ob w (fs++[m]):=⟨fun i x hx=>by
 rcases Nat.lt_or_ge i fs.length with q|q
 ·rw [List.getElem?_append_left q] at hx; exact h.all i x hx
 ·rw [List.getElem?_append_right q] at hx
  have hi:i-fs.length=0:=by
   rcases Nat.eq_zero_or_pos (i-fs.length) with z|z
   ·exact z
   ·rw [List.getElem?_eq_none (by simp; omega)] at hx; cases hx
  rw [hi] at hx
  simp at hx; subst hx
  obtain rfl:i=b+1:=by omega
  have A:=h.all b mb hmb
  exact ⟨Gx A.2 A.1 hm.snd (hd.fin h0),hm.keys⟩⟩
theorem ob.ok {fs:List FM} (h:ob w fs) (hl:fs.length=w.n+1):uG w fs:=⟨hl,fun b m hm=>(h.all b m hm).1,fun b m hm=>(h.all b m hm).2⟩
theorem f_.none_:f_ w b []:=⟨fun i m h=>by simp at h⟩
theorem f_.last (hb:w.n≤b):f_ w b [[(⟨0,0⟩,w.eX)]]:=⟨fun i m h=>by
 match i with
 |0=>simp at h; subst h; exact ⟨En I,sm⟩
 |n+1=>simp at h⟩
theorem f_.add {bs:List FM} (h:f_ w (b+1) bs) (hb:b<w.n) (hmb:bs[0]? =some mb) (hm:sT w b m) (hd:iv w b mb m left) (h0:left=[]):f_ w b (m::bs):=⟨fun i x hx=>by
 match i with
 |0=>
  simp at hx; subst hx
  have A:=h.all 0 mb hmb
  exact ⟨GB hb A.2 A.1 hm.snd hm.zero (hd.fin h0),hm.keys⟩
 |n+1=>
  have:=h.all n x (by simpa using hx)
  rw [show b+1+n=b+(n+1) by omega] at this
  exact this⟩
theorem f_.ok {bs:List FM} (h:f_ w 0 bs) (hl:bs.length=w.n+1):rW w bs:=⟨hl,fun b m hm=>by have:=(h.all b m hm).1; rwa [Nat.zero_add] at this,fun b m hm=>(h.all b m hm).2⟩
/-- on the way through one entry's options -/
structure lU (w:bJ) (b:Nat) (mb left m:List (ar×Int)) (p:ar×Int) (os:List (Int×aa)):Prop where
 on:tJ w b m
 q6:iS w b mb m left
 done:gS w b m p os
structure lv (w:bJ) (b:Nat) (mb left m:List (ar×Int)) (p:ar×Int) (os:List (Int×aa)):Prop where
 on:sT w b m
 q6:iv w b mb m left
 done:gV w b m p os
theorem lU.start (h:tJ w b m) (h2:iS w b mb m left):lU w b mb left m p []:=⟨h,h2,fun o ho=>by cases ho⟩
theorem lv.start (h:sT w b m) (h2:iv w b mb m left):lv w b mb left m p []:=⟨h,h2,fun o ho=>by cases ho⟩
theorem CA {q:ar×Int} (h:(m.lookup q.1).isSome=false∨q.2<(m.lookup q.1).getD 0):nt m q=ei m q.1 q.2:=by
 unfold nt
 cases e:m.lookup q.1 with
 |none=>rfl
 |some v=>rw [e] at h; simp at h; simp only; rw [if_pos h]
theorem AT {q:ar×Int} (h:(m.lookup q.1).isSome=true) (h2: ¬ q.2<(m.lookup q.1).getD 0):nt m q=m:=by
 unfold nt
 cases e:m.lookup q.1 with
 |none=>rw [e] at h; cases h
 |some v=>rw [e] at h2; simp only [Option.getD_some] at h2; simp only; rw [if_neg h2]
theorem DM {q:ar×Int} (h:(m.lookup q.1).isSome=false∨(m.lookup q.1).getD 0<q.2):mW m q=ei m q.1 q.2:=by
 unfold mW
 cases e:m.lookup q.1 with
 |none=>rfl
 |some v=>rw [e] at h; simp at h; simp only; rw [if_pos h]
theorem AA {q:ar×Int} (h:(m.lookup q.1).isSome=true) (h2: ¬ (m.lookup q.1).getD 0<q.2):mW m q=m:=by
 unfold mW
 cases e:m.lookup q.1 with
 |none=>rw [e] at h; cases h
 |some v=>rw [e] at h2; simp only [Option.getD_some] at h2; simp only; rw [if_neg h2]
theorem xd {t:ar} {v y:Int} (hy:w.oc[b]? =some y) (h:max (v+y) o.2.Lo≤min o.2.Hi w.eX):jB w b (t,v) o=some (cP t (ej o.1),max (v+y) o.2.Lo):=by
 have e:=lL hy
 subst e
 exact Gs h
theorem GN {t:ar} {v y:Int} (hy:w.oc[b]? =some y) (h: ¬ max (v+y) o.2.Lo≤min o.2.Hi w.eX):jB w b (t,v) o=none:=by
 have e:=lL hy
 subst e
 exact HP h
theorem xD {t:ar} {v y:Int} (hy:w.oc[b]? =some y) (h:o.2.Lo≤min v o.2.Hi):lY w b (t,v) o=some (cP t (ej o.1),min v o.2.Hi-y):=by
 have e:=lL hy
 subst e
 exact FN h
theorem lU.set {q:ar×Int} (h:lU w b mb left m p os) (hp:p∈fwd w b) (ho:o∈gr w b) (he:jB w b p o=some q) (hs:(m.lookup q.1).isSome=false∨q.2<(m.lookup q.1).getD 0):lU w b mb left (ei m q.1 q.2) p (os++[o]):=by
 rw [← CA hs]
 exact ⟨h.on.add hp ho he,h.q6.lower sD,h.done.EW he⟩
theorem lU.mG {q:ar×Int} (h:lU w b mb left m p os) (he:jB w b p o=some q) (hs:(m.lookup q.1).isSome=true) (h2: ¬ q.2<(m.lookup q.1).getD 0):lU w b mb left m p (os++[o]):=by
 have:=h.done.EW he
 rw [AT hs h2] at this
 exact ⟨h.on,h.q6,this⟩
theorem lU.skip (h:lU w b mb left m p os) (he:jB w b p o=none):lU w b mb left m p (os++[o]):=⟨h.on,h.q6,h.done.none_ he⟩
theorem lv.set {q:ar×Int} (hb:b<w.n) (h:lv w b mb left m p os) (hp:p∈back w (b+1)) (ho:o∈gr w b) (he:lY w b p o=some q) (hs:(m.lookup q.1).isSome=false∨(m.lookup q.1).getD 0<q.2):lv w b mb left (ei m q.1 q.2) p (os++[o]):=by
 rw [← DM hs]
 exact ⟨h.on.add hb hp ho he,h.q6.upper oD,h.done.EW he⟩
theorem lv.mG {q:ar×Int} (h:lv w b mb left m p os) (he:lY w b p o=some q) (hs:(m.lookup q.1).isSome=true) (h2: ¬ (m.lookup q.1).getD 0<q.2):lv w b mb left m p (os++[o]):=by
 have:=h.done.EW he
 rw [AA hs h2] at this
 exact ⟨h.on,h.q6,this⟩
theorem lv.skip (h:lv w b mb left m p os) (he:lY w b p o=none):lv w b mb left m p (os++[o]):=⟨h.on,h.q6,h.done.none_ he⟩
theorem lU.next {t:ar} {v:Int} (hn:(left.map (·.1)).Nodup) (hm:(t,v)∈left) (h:lU w b mb left m (t,v) os) (ho: ∀ o∈gr w b,o∈os):iS w b mb m (ep left t):=h.q6.next hn hm h.done ho
theorem lv.next {t:ar} {v:Int} (hn:(left.map (·.1)).Nodup) (hm:(t,v)∈left) (h:lv w b mb left m (t,v) os) (ho: ∀ o∈gr w b,o∈os):iv w b mb m (ep left t):=h.q6.next hn hm h.done ho
theorem ob.mem {fs:List FM} (h:ob w fs) (hm:fs[b]? =some mb) (hp:p∈mb):p∈fwd w b:=(h.all b mb hm).1.1 _ _ ((ew (h.all b mb hm).2).1 hp)
theorem f_.Oc {bs:List FM} {k:Nat} (h:f_ w k bs) (hk:k=b+1) (hm:bs[0]? =some mb) (hp:p∈mb):p∈back w (b+1):=by
 subst hk
 exact (h.all 0 mb hm).1.1 _ _ ((ew (h.all 0 mb hm).2).1 hp)
theorem f_.end_ {bs:List FM} {k j:Nat} (h:f_ w k bs) (hj:bs.length=0) (hk:j=b) (hb:w.n≤b):f_ w j ([(⟨0,0⟩,w.eX)]::bs):=by
 subst hk
 rw [iz hj]
 exact f_.last hb
theorem f_.more {bs:List FM} {k j:Nat} (h:f_ w k bs) (hk:k=b+1) (hj:j=b) (hb:b<w.n) (hmb:bs[0]? =some mb) (hm:sT w b m) (hd:iv w b mb m left) (h0:left=[]):f_ w j (m::bs):=by
 subst hk hj
 exact h.add hb hmb hm hd h0
end
section
open Go.RowKit
theorem iY {a:OA} {c e sz n:Nat} {es:List (List Value)} (h:es.length=n):Hb (own a c e sz es) (rd a n sz es):=by subst h; exact Hw
theorem qw {L:List ao}:Hb (bM L) (eg L):=⟨fun w h=>h.1,fun b h=>h⟩
theorem IK {b:Nat} {fb:List Nat} {g:Nat} (h:fb.length=b):aZ pz (List.replicate b ([]:TM)) fb++[jV iV g (cz gE [])]=aZ pz (List.replicate (b+1) ([]:TM)) (fb++[g]):=by
 rw [List.replicate_succ']
 exact wu (by rw [List.length_replicate]; exact h.symm) U
theorem Og {α:Type} {ms:List α} {fb:List Nat} {n:Nat} (h:fb.length=n) (h2:ms.length=n):List.map oC (dE fb n)=List.zipWith fz ms fb:=by
 rw [vU h]; exact (xj I).symm
theorem tn {l:aQ} {r:cf} {i:Nat} {x:aD} (hx:r.ag[i]? =some x) (h: ¬ jS l r.ag i x): ¬ er l r:=fun q=>h (q.sig i x hx)
end
section
open Go.RowKit
theorem p5 (ln:cb) (ri:dZ) (e:List Int) (tms:List TM) (e_A:OA) (e_C:Nat) (tb:List Nat) (t_A:OA) (t_C:Nat) (fA:OA) (fN fC:Nat) (bA:OA) (bN bC:Nat) (gw b:Nat) (g1 g2:Nat) (hb:b<tms.length) (htb:tb.length=tms.length):
 Hg Tryz.prog 220 [] [(vP g1),(vP g2)] [(rd e_A e.length 1 (e.map iC)),(rd t_A tms.length 1 (List.zipWith fz tms tb)),(eg (aZ pz tms tb)),(cd gw 276 (bR.cells (bR.mk ln ri (bE.mk e_A e.length e_C) (bE.mk t_A tms.length t_C) (bE.mk fA fN fC) (bE.mk bA bN bC)))),(cd g1 265 [(vP gw)]),(cd g2 3 [(vI (b:Int))])] ([]:List (Int×aa)) (fun ys x ys'=> ∃ o,o∈gr (cp ln ri e tms) b∧x=IT o∧ys'=ys++[o]) (fun ys=> ∀ o∈gr (cp ln ri e tms) b,o∈ys):=by
 refine Cq kr Tryz.func220 U U fun l J Z A0 d Q hY V AA hQ hN=>?_
 try dsimp only
 refine ai fun _ X=>ai fun _ R=>cU bX 12 kr<|lg 2 [] (mr 5 U mn) U<|dS (SX (cm U U) U U)<|lg 4 [0,1] (mr 4 U (mr 5 U mn)) U<|dS (SX (cm U U) U U)<|dP 3 [] (mr 4 U mn) ?_
 refine dS (SX (bg (xs:=[(0,.tmp 11),(1,.tmp 16)]) (cs:=(aa.cells (aa.mk ri.Start ri.eX))) U U (bh eM U)) U U)<|cv<|uR (k:=([]:List (Int×aa))) (k':=(([]:List (Int×aa))++[((-1),(aa.mk ri.Start ri.eX))])) 0 (by first|exact hsz|exact Nat.le_refl _) hY V AA U U U (by exact ⟨(-1,⟨ri.Start,ri.eX⟩),ck ..,U,U⟩) U U (fun B3 N M=>?_) (fun B3 N M=>?_)
 rotate_left 1
 ·refine rP 1 [] mn ?_
  refine RK R<|aJ U<|an ?_
  refine hQ _ _ _ (jN (vs:=[]) trivial fun w hs=>EI 0 U N M hs)
 refine bp 1 U<|RK R<|bU U<|WK X<|ai fun _ Y=>cU bX 7 kr<|lg 1 [] (mr 5 U mn) U<|dS (SX (cm U U) U U)<|dP 3 [0,1] (mr 4 U (mr 6 U mn)) ?_
 obtain ⟨x,hx⟩:=aB tms b I
 obtain ⟨xa,L⟩:=aB tb b I
 have a:(List.zipWith fz tms tb)[b]? =some (fz x xa):=db hx L
 refine dS (IA b U (aq 2 U) Cl dc I I)<|dS (fE b 0 (Value.map (some xa)) U bQ (aq 2 U) a U dc U)<|cv<|nZ (kV:=iV) (m:=cz gE x) 3 U U sZ U ⟨⟨(jV iV xa (cz gE x)),(bk hx L (by simp [pz])),U⟩,fun h=>h⟩ (show fR _ (jV iV xa (cz gE x)).holds from bT 3 U (bk hx L (by simp [pz]))) U fun j=>?_
 try dsimp only
 refine RK Y<|av ?_
 have G:(∀ o∈x,o∈x∨o∈(([]:List (Int×aa))++[((-1),(aa.mk ri.Start ri.eX))]))∧(∀ o∈x,o∈x)∧(J (([]:List (Int×aa))++[((-1),(aa.mk ri.Start ri.eX))]) B3)∧(Fo A0 d B3)∧((-1,(⟨ri.Start,ri.eX⟩:aa))∈(([]:List (Int×aa))++[((-1),(aa.mk ri.Start ri.eX))])):=by exact ⟨fun o ho=> .inl ho,fun o ho=>ho,asm,asm,sm⟩
 refine bI (ι:={z:TM×(List (Int×aa))×ao // (∀ o∈x,o∈z.1∨o∈z.2.1)∧(∀ o∈z.1,o∈x)∧(J z.2.1 z.2.2)∧(Fo A0 d z.2.2)∧((-1,(⟨ri.Start,ri.eX⟩:aa))∈z.2.1)}) [0,1,2,27] [2,3,4,6,7] U U (fun z=>[]) (fun z=>[(zN iV j xa (cz gE x) (cz gE z.1.1) none),z.1.2.2]) (fun _=>rfl) (fun _=>rfl) (fun z=>z.1.1.length) ⟨(x,(([]:List (Int×aa))++[((-1),(aa.mk ri.Start ri.eX))]),B3),G⟩ (cS.nil _) (aC [2,3,4,6,7,0,1]) ?_
 clear G
 rintro ⟨⟨left,ys,A⟩,⟨B,C,D,E,F⟩⟩ J8 W
 try dsimp only at B C D E F
 try dsimp only
 refine WS fun _ S=>mq (h_ p_).inj (f:=gE) 5 U U U U (fun T=>?_) (fun i z hm hn=>?_)
 ·refine rP 1 [] mn ?_
  refine RK S<|ai fun _ c=>bU U<|bx<|ae<|ae<|ax ?_
  refine hN _ _ _ (jN (vs:=[]) trivial fun w hs=>Ns 6 U (by exact C_ hx B T F) D E hs)
 try dsimp only
 refine bp 1 U<|RK S<|ai fun _ O=>aJ U<|WK O<|av<|WS fun _ P=>rS (SX (my 5 U U U) U U)<|bp 2 U<|AL U cR fun g=>bp 1 U<|fg U bS U<|RK P<|WS fun _ K=>rP 3 [] (mc 0 U mn) ?_
 refine uR (k:=ys) (k':=(ys++[(i,z)])) 7 (by first|exact hsz|exact Nat.le_refl _) hY D E U U U (by exact ⟨(i,z),(vp hx).2 (.inr (C _ hm)),U,U⟩) U U (fun B15 AB H=>?_) (fun B15 AB H=>?_)
 rotate_left 1
 ·refine rP 1 [] mn ?_
  refine RK K<|aJ U<|an ?_
  refine hQ _ _ _ (jN (vs:=[]) trivial fun w hs=>EI 7 U AB H hs)
 refine rP 1 [] mn ?_
 refine RK K<|bU U<|cy<|aG<|oz 6 U mP U ?_
 refine aS (W ⟨((ep left i),(ys++[(i,z)]),B15),⟨DI hn hm B,kq C,asm,asm,by simp [F]⟩⟩ _ _ _ U (ky hm) (aU U) (aC [1,2,3,4,5,6,7]))
theorem rQ (gw b:Nat):
 pH Tryz.prog 212 [(vP gw),(vI (b:Int))] [] (fun (x:Nat×Nat)=>(Value.func (.func 220) [].toArray [(Value.pointer (some ⟨x.1,0,none⟩)),(Value.pointer (some ⟨x.2,0,none⟩))].toArray)) (fun (x:Nat×Nat)=>True) (fun (x:Nat×Nat)=>[(cd x.1 265 [(vP gw)]),(cd x.2 3 [(vI (b:Int))])]):=by
 refine fm kr Tryz.func212 U U fun E Q hQ hN=>?_
 try dsimp only
 refine WS fun _ A=>xp U U fun C=>xp U U fun D=>bp 1 U<|RK A<|WS fun _ B=>rS (FU U)<|rP 1 [] mn ?_
 refine RK B<|an<|LX hQ (C,D) [1,0] [] mn U U U U ?_
 trivial
theorem Eg (gw b:Nat):
 pH Tryz.prog 207 [(vP gw),(vI (b:Int))] [] (fun (x:Nat×Nat)=>(Value.func (.func 211) [].toArray [(Value.pointer (some ⟨x.1,0,none⟩)),(Value.pointer (some ⟨x.2,0,none⟩))].toArray)) (fun (x:Nat×Nat)=>True) (fun (x:Nat×Nat)=>[(cd x.1 265 [(vP gw)]),(cd x.2 3 [(vI (b:Int))])]):=by
 refine fm kr Tryz.func207 U U fun E Q hQ hN=>?_
 try dsimp only
 refine WS fun _ A=>xp U U fun C=>xp U U fun D=>bp 1 U<|RK A<|WS fun _ B=>rS (FU U)<|rP 1 [] mn ?_
 refine RK B<|an<|LX hQ (C,D) [1,0] [] mn U U U U ?_
 trivial
end
section
open Go.RowKit
theorem mQ:rY Tryz.prog 282 dA:=Ix IZ (fun x y w=>Lc 9998 x y w) (fun x y h=>by cases x; cases y; simp [ar.cells] at h; simp [h]) (fun x=>by simp [ar.cells,Instr.sameBits]) (fun x w=>⟨_,rfl,fun p hp=>by
 simp only [g8,List.not_mem_nil,or_false] at hp
 rcases hp with rfl|rfl
 ·exact ⟨⟨_,dN bQ U w⟩,_,p_⟩
 ·exact ⟨⟨_,dN bQ U w⟩,_,p_⟩⟩)
theorem Gk (s:Int):
 dL Tryz.prog 215 [(vI s)] [] (vA (ar.cells (ej s))):=by
 refine bu kr Tryz.func215 U U fun H Q hQ hN=>?_
 try dsimp only
 refine WS fun _ B=>AL U qk fun G=>RK B<|ai fun _ C=>WS fun _ D=>rP 2 [] mn ?_
 refine RK D<|cw U (aO fun A=>?_) (aP fun A=>?_)
 ·refine WS fun _ E=>rS (SX (bg (xs:=[(1,.const (vI 1))]) (cs:=(ar.cells (ar.mk 0 1))) U U (bh xZ U)) U U)<|fg U pM U<|RK E<|an<|Ir hQ [0] (mc 0 U mn) U ?_
  unfold ej; first|rw [if_pos A]|rw [if_neg A]
 refine WK C<|WS fun _ F=>rS (SX (bg (xs:=[(0,.const (vI 1))]) (cs:=(ar.cells (ar.mk 1 0))) U U (bh xZ U)) U U)<|fg U pM U<|RK F<|an<|Ir hQ [0] (mc 0 U mn) U ?_
 unfold ej; first|rw [if_pos A]|rw [if_neg A]
theorem th (x:ar) (y:ar) (hx:(0≤x.right∧x.right≤1000)∧0≤x.dT∧x.dT≤1000) (hy:(0≤y.right∧y.right≤1000)∧0≤y.dT∧y.dT≤1000):
 dL Tryz.prog 214 [(vA (ar.cells x)),(vA (ar.cells y))] [] (vA (ar.cells (cP x y))):=by
 refine bu kr Tryz.func214 U U fun F Q hQ hN=>?_
 try dsimp only
 refine WS fun _ A=>eQ U fun C=>eQ U fun D=>AL U qk fun E=>RK A<|WS fun _ B=>rP 10 [0,1,0,1] (mc 2 U (mc 1 U mn)) ?_
 refine rS (SX (bg (xs:=[(0,.tmp 9),(1,.tmp 14)]) (cs:=(ar.cells (ar.mk (x.right+y.right) (x.dT+y.dT)))) U U (bh xZ U)) U U)<|fg U pM U<|RK B<|an ?_
 exact Ir hQ [0] (mc 0 U mn) U U
theorem Jm (ln:cb) (ri:dZ) (e:List Int) (tms:List TM) (e_A:OA) (e_C:Nat) (tb:List Nat) (t_A:OA) (t_C:Nat) (fs:List FM) (bs:List FM) (fb:List Nat) (f_A:OA) (f_C:Nat) (bb:List Nat) (b_A:OA) (b_C gw:Nat) (x:ar) (hx:(0≤x.right∧x.right≤1000)∧0≤x.dT∧x.dT≤1000) (hn:ri.ag.n≤1000):
 dL Tryz.prog 213 [(vP gw),(vA (ar.cells x))] [(rd e_A e.length 1 (e.map iC)),(rd t_A tms.length 1 (List.zipWith fz tms tb)),(eg (aZ pz tms tb)),(rd f_A fs.length 1 (List.zipWith fz fs fb)),(eg (aZ lW fs fb)),(rd b_A bs.length 1 (List.zipWith fz bs bb)),(eg (aZ lW bs bb)),(cd gw 276 (bR.cells (bR.mk ln ri (bE.mk e_A e.length e_C) (bE.mk t_A tms.length t_C) (bE.mk f_A fs.length f_C) (bE.mk b_A bs.length b_C))))] (vB (jl (cp ln ri e tms) x)):=by
 refine bu kr Tryz.func213 U U fun E Q hQ hN=>?_
 try dsimp only
 refine WS fun _ C=>eQ U fun D=>bp 1 U<|RK C<|ai fun _ B=>cU bX 26 kr<|lg 3 [] (mc 0 U mn) U<|dS (SX (cm U U) U U)<|dP 5 [] (mr 8 U mn) ?_
 refine fU (t:=13) U (aP fun A=>?_) (aO fun A=>?_)
 ·refine dP 17 [] mn ?_
  refine cv<|RK B<|an<|Q1 hQ U U U ?_
  exact cB (bw (fun h=>A h.1)).symm
 refine jY 1 U<|dS (SX (cm U U) U U)<|lg 8 [0,1] (mr 8 U (mc 0 U mn)) U<|dS (SX (cm U U) U U)<|dP 6 [] (mr 8 U mn) ?_
 refine cv<|RK B<|an<|Q1 hQ U U U ?_
 exact cB (decide_eq_decide.2 ⟨fun h=>⟨A,h⟩,fun h=>h.2⟩)
end
section
open Go.RowKit
theorem CV (ln:cb) (ri:dZ) (e:List Int) (tms:List TM) (e_A:OA) (e_C:Nat) (tb:List Nat) (t_A:OA) (t_C:Nat) (fs:List FM) (bs:List FM) (fb:List Nat) (f_A:OA) (f_C:Nat) (bb:List Nat) (b_A:OA) (b_C gw:Nat) (b g1 g2:Nat) (mf:FM) (mb:FM) (hb:b<e.length) (hw:D_ (cp ln ri e tms)) (htb:tb.length=tms.length) (hfw:uG (cp ln ri e tms) fs) (hfb:fb.length=fs.length) (hbw:rW (cp ln ri e tms) bs) (hbb:bb.length=bs.length) (hsg:ri.ag.n≤1000) (hm1:fs[b]? =some mf) (hm2:bs[b+1]? =some mb):
 Hg Tryz.prog 211 [] [(vP g1),(vP g2)] [(rd e_A e.length 1 (e.map iC)),(rd t_A tms.length 1 (List.zipWith fz tms tb)),(eg (aZ pz tms tb)),(rd f_A fs.length 1 (List.zipWith fz fs fb)),(eg (aZ lW fs fb)),(rd b_A bs.length 1 (List.zipWith fz bs bb)),(eg (aZ lW bs bb)),(cd gw 276 (bR.cells (bR.mk ln ri (bE.mk e_A e.length e_C) (bE.mk t_A tms.length t_C) (bE.mk f_A fs.length f_C) (bE.mk b_A bs.length b_C)))),(cd g1 265 [(vP gw)]),(cd g2 3 [(vI (b:Int))])] ([]:List (Int×aa)) (fun ys x ys'=> ∃ q,q∈oe (cp ln ri e tms) b mf mb∧x=IT q∧ys'=ys++[q]) (fun ys=> ∀ q∈oe (cp ln ri e tms) b mf mb,q∈ys):=by
 have A7:e.length≤6:=hw.n
 have A8:tms.length=e.length:=hw.times
 have Az:fs.length=e.length+1:=hfw.len
 have Ay:bs.length=e.length+1:=hbw.len
 refine Cq kr Tryz.func211 U U fun l J Z A0 w0 Q hY Ae Ad hQ hN=>?_
 try dsimp only
 refine WS fun _ Af=>xp U U fun b2=>RK Af<|WS fun _ Ag=>rP 2 [0,1] (mr 10 U (mr 11 U mn)) ?_
 refine cX (rQ gw b) (aR) U fun y4 A9=>?_
 obtain ⟨AX,AY⟩:=y4
 try dsimp only
 refine RK Ag<|av<|lR 4 U (by exact fun _ h=>h)<|lR 6 U (by exact fun _ h=>h)<|lR 8 U (by exact fun _ h=>h)<|lR 14 U (by exact fun _ h=>h) ?_
 refine qB (L0:=[(0,(Value.func (.yield l) #[] #[])),(1,(vP g1)),(2,(vP g2)),(3,(vP b2))]) (F:=[(rd e_A e.length 1 (e.map iC)).ro,(rd t_A tms.length 1 (List.zipWith fz tms tb)).ro,(eg (aZ pz tms tb)).ro,(cd gw 276 (bR.cells (bR.mk ln ri (bE.mk e_A e.length e_C) (bE.mk t_A tms.length t_C) (bE.mk f_A fs.length f_C) (bE.mk b_A bs.length b_C)))).ro,(cd AX 265 [(vP gw)]),(cd AY 3 [(vI (b:Int))])]) (fun k (y:(List (Int×aa))×ao)=>(j2 (cp ln ri e tms) b mf mb k y.1)∧(J y.1 y.2)∧(Fo A0 w0 y.2)) (fun k y=>[(cd b2 279 [(Value.func (.yield l) #[] #[])]),y.2,(rd e_A e.length 1 (e.map iC)).ro,(rd t_A tms.length 1 (List.zipWith fz tms tb)).ro,(eg (aZ pz tms tb)).ro,(rd f_A fs.length 1 (List.zipWith fz fs fb)).ro,(eg (aZ lW fs fb)).ro,(rd b_A bs.length 1 (List.zipWith fz bs bb)).ro,(eg (aZ lW bs bb)).ro,(cd gw 276 (bR.cells (bR.mk ln ri (bE.mk e_A e.length e_C) (bE.mk t_A tms.length t_C) (bE.mk f_A fs.length f_C) (bE.mk b_A bs.length b_C)))).ro,(cd g1 265 [(vP gw)]).ro,(cd g2 3 [(vI (b:Int))]).ro]) (fun c (z:ao)=>(c= .ret∧(Z z)∧(Fo A0 w0 z))) (fun _ z=>[(cd b2 279 [(Value.func (.yield l) #[] #[])]),z,(rd e_A e.length 1 (e.map iC)).ro,(rd t_A tms.length 1 (List.zipWith fz tms tb)).ro,(eg (aZ pz tms tb)).ro,(rd f_A fs.length 1 (List.zipWith fz fs fb)).ro,(eg (aZ lW fs fb)).ro,(rd b_A bs.length 1 (List.zipWith fz bs bb)).ro,(eg (aZ lW bs bb)).ro,(cd gw 276 (bR.cells (bR.mk ln ri (bE.mk e_A e.length e_C) (bE.mk t_A tms.length t_C) (bE.mk f_A fs.length f_C) (bE.mk b_A bs.length b_C)))).ro,(cd g1 265 [(vP gw)]).ro,(cd g2 3 [(vI (b:Int))]).ro]) [6,7,8,9,10,11,12,13,14,15,16,17] [3,2,1,0,4,5] (([]:List (Int×aa)),A0) rfl rfl (p5 ln ri e tms e_A e_C tb t_A t_C f_A fs.length f_C b_A bs.length b_C gw b AX AY I I) rfl rfl rfl (by exact ⟨j2.nil,Ae,Ad⟩) (by simp only [List.forall_mem_cons,List.not_mem_nil,false_imp_iff,implies_true,and_true]; exact ⟨⟨_,aI (i:=0) rfl,(dH (bP _))⟩,⟨_,aI (i:=1) rfl,(dH (bP _))⟩,⟨_,aI (i:=2) rfl,(dH (bP _))⟩,⟨_,aI (i:=3) rfl,(dH (bP _))⟩,⟨_,aI (i:=4) rfl,(bP _)⟩,⟨_,aI (i:=5) rfl,(bP _)⟩⟩) (by rintro k x k2 ⟨o,_,rfl,_⟩; rfl) rfl (aU rfl) ?_ ?_ ?_ ?_
 rotate_left 1
 ·rintro BA k ⟨ys,A⟩ AS AC
  obtain ⟨X,Y,a⟩:=AC
  try dsimp only at X Y a
  try dsimp only
  refine aG ?_
  refine hN _ _ _ (p9 0 U U<|jN (vs:=[]) trivial fun w hs=>Ns 8 U (by exact j2.fin X AS) Y a hs)
 ·rintro BB id A AV
  simp at AV
 ·rintro BC A AW
  obtain ⟨hc,Ak,Al⟩:=AW
  try dsimp only
  refine hQ _ _ _ (p9 0 U U<|jN (vs:=[]) trivial fun w hs=>EI 8 U Ak Al hs)
 rintro k x k2 ⟨ys,A⟩ lr ra rb S w1 K8 Qr9 Am hx AB Ah AP At AZ
 obtain ⟨o,ho,rfl,rfl⟩:=hx
 obtain ⟨X,Y,a⟩:=AB
 try dsimp only at X Y a
 try dsimp only
 refine WS fun _ AG=>rP 1 [] mn ?_
 refine RK AG<|ak<|AL U cR fun Au=>fg U bS U<|aA<|iy (fun _ _ h=>h) (aC [1,0,2,3,4,5,6,7,8,9,10,11,12,13])<|aS (Ah _ _ ?_)
 refine av<|ai fun _ AH=>cU bX 7 kr<|lg 1 [] (mr 12 U mn) U<|dS (SX (cm U U) U U)<|dP 3 [0,1] (mr 11 U (mr 13 U mn)) ?_
 obtain ⟨ga,s⟩:=aB fb b I
 have AT:(List.zipWith fz fs fb)[b]? =some (fz mf ga):=db hm1 s
 refine dS (IA b U (aq 7 U) l4 dc I I)<|dS (fE b 0 (Value.map (some ga)) U bQ (aq 7 U) AT U dc U)<|cv<|nZ (kV:=dA) (m:=cz iV mf) 8 U U mZ U ⟨⟨(jV dA ga (cz iV mf)),(bk hm1 s (by simp [lW])),U⟩,fun h=>h⟩ (show fR _ (jV dA ga (cz iV mf)).holds from bT 8 U (bk hm1 s (by simp [lW]))) U fun Ap=>?_
 try dsimp only
 refine RK AH<|av ?_
 have C:(∀ p∈mf,p∈mf)∧(lD (cp ln ri e tms) b mf mb o mf ys)∧(j2 (cp ln ri e tms) b mf mb k ys)∧(J ys A)∧(Fo A0 w0 A):=by exact ⟨fun p hp=>hp,lD.start,X,Y,a⟩
 refine bI (ι:={z:FM×(List (Int×aa))×ao // (∀ p∈z.1,p∈mf)∧(lD (cp ln ri e tms) b mf mb o z.1 z.2.1)∧(j2 (cp ln ri e tms) b mf mb k z.2.1)∧(J z.2.1 z.2.2)∧(Fo A0 w0 z.2.2)}) [0,1,2,3,4,5,23] [1,2,3,5,6,7,8,9,10,11,12,13,14] U U (fun z=>[]) (fun z=>[(zN dA Ap ga (cz iV mf) (cz iV z.1.1) none),z.1.2.2]) (fun _=>rfl) (fun _=>rfl) (fun z=>z.1.1.length) ⟨(mf,ys,A),C⟩ (cS.nil _) (aC [1,2,3,5,6,7,8,9,10,11,12,13,14,0,4]) ?_
 clear C
 rintro ⟨⟨left,ys,A⟩,⟨K,M,N,O,P⟩⟩ J15 AF
 try dsimp only at K M N O P
 try dsimp only
 refine WS fun _ j=>mq mQ.inj (f:=iV) 13 U U U U (fun Ab=>?_) (fun t v hm hn=>?_)
 ·refine rP 1 [] mn ?_
  refine RK j<|ai fun _ Ar=>bU U<|bx<|ae<|ae<|ax<|aG ?_
  exact AP (ys,A) _ _ (by exact ⟨j2.next N M Ab,O,P⟩) (aC [0,2,14,3,4,5,6,7,8,9,10,11,12])
 try dsimp only
 refine bp 1 U<|RK j<|ai fun _ AI=>aJ U<|WK AI<|av<|WS fun _ AJ=>rS (SX (my 13 U U U) U U)<|bp 2 U<|AL U qk fun Av=>fg U pM U<|bp 1 U<|RK AJ<|ai fun _ AK=>cU bX 8 kr<|lg 1 [] (mr 12 U mn) U<|dS (SX (cm U U) U U)<|dP 4 [0,1] (mr 11 U (mr 13 U mn)) ?_
 obtain ⟨gb,AA⟩:=aB bb (b+1) I
 have AU:(List.zipWith fz bs bb)[(b+1)]? =some (fz mb gb):=db hm2 AA
 refine dS (IA (b+1) U (aq 9 U) l4 dc I I)<|dS (fE (b+1) 0 (Value.map (some gb)) U bQ (aq 9 U) AU U dc U)<|cv<|nZ (kV:=dA) (m:=cz iV mb) 10 U U mZ U ⟨⟨(jV dA gb (cz iV mb)),(bk hm2 AA (by simp [lW])),U⟩,fun h=>h⟩ (show fR _ (jV dA gb (cz iV mb)).holds from bT 10 U (bk hm2 AA (by simp [lW]))) U fun Aq=>?_
 try dsimp only
 refine RK AK<|av ?_
 have C:(∀ p∈mb,p∈mb)∧(lJ (cp ln ri e tms) b mb o (t,v) mb ys)∧(lD (cp ln ri e tms) b mf mb o left ys)∧(j2 (cp ln ri e tms) b mf mb k ys)∧(J ys A)∧(Fo A0 w0 A):=by exact ⟨fun p hp=>hp,lJ.start,M,N,O,P⟩
 refine bI (ι:={z:FM×(List (Int×aa))×ao // (∀ p∈z.1,p∈mb)∧(lJ (cp ln ri e tms) b mb o (t,v) z.1 z.2.1)∧(lD (cp ln ri e tms) b mf mb o left z.2.1)∧(j2 (cp ln ri e tms) b mf mb k z.2.1)∧(J z.2.1 z.2.2)∧(Fo A0 w0 z.2.2)}) [0,1,2,3,4,5,6,7,23,37] [1,2,3,4,5,6,7,8,9,10,11,12,13,14,15] U U (fun z=>[]) (fun z=>[(zN dA Aq gb (cz iV mb) (cz iV z.1.1) none),z.1.2.2]) (fun _=>rfl) (fun _=>rfl) (fun z=>z.1.1.length) ⟨(mb,ys,A),C⟩ (cS.nil _) (aC [1,2,3,4,5,6,7,8,9,10,11,12,13,14,15,0,16]) ?_
 clear C
 rintro ⟨⟨l2,T,A2⟩,⟨B,D,E,G,H,Aa⟩⟩ J23 V
 try dsimp only at B D E G H Aa
 try dsimp only
 refine WS fun _ r=>mq mQ.inj (f:=iV) 15 U U U U (fun Ac=>?_) (fun u z L AD=>?_)
 ·refine rP 1 [] mn ?_
  refine RK r<|ai fun _ As=>bU U<|bx<|ae<|ae<|ax<|aG<|oz 14 U mP U ?_
  refine aS (AF ⟨((ep left t),T,A2),⟨kq K,lD.next hn hm E D Ac,G,H,Aa⟩⟩ _ _ _ U (ky hm) (aU U) (aC [1,2,3,4,5,6,7,8,9,10,11,12,13,14,16]))
 try dsimp only
 refine bp 1 U<|RK r<|ai fun _ AM=>aJ U<|WK AM<|av<|WS fun _ AN=>rS (SX (my 15 U U U) U U)<|bp 2 U<|AL U qk fun Aw=>fg U pM U<|rP 1 [] mn ?_
 refine RK AN<|ai fun _ AO=>dj bX [17,18] [] [] [0,1,2,3,4,5,6,7,8,9,10,11,12,13,14,15,16,17] [] U U U U U<|eS U (MV U)<|eS U (Pp 13 U bQ U)<|eS U (SX (cm U U) U U)<|eS U (FA 10 U fq U)<|eS U (FC (vS e_A e.length e_C) 12 U bQ U U)<|eS U (Pp 14 U bQ U) ?_
 obtain ⟨y,hy⟩:=aB e b I
 have An:=br iC hy
 refine eS U (IA b U (aq 5 U) cN dc I I)<|eS U (fE b 0 (vI y) U bQ (aq 5 U) An U dc U) ?_
 have A1:=hw.least y (aI hy)
 have Aj:=EC hw _ _ (hfw.mem hm1 (K _ hm))
 have Ai:=Fb hw (hbw.mem hm2 (B _ L))
 have A3:=rj o.1
 have A4:=hw.opt ho
 dsimp only at Aj Ai
 refine eS U (BI U (kK ⟨I,I⟩))<|eS U (FA 0 U fq U)<|eS U (L1 (vI o.2.Lo) 3 U bQ U U)<|eS U (MX U)<|eS U (MV U)<|eS U (FA 1 U fq U)<|eS U (L1 (vI o.2.Hi) 3 U bQ U U)<|eS U (MN U)<|eS U (SX (bg (xs:=[(0,.tmp 54),(1,.tmp 58)]) (cs:=(aa.cells (aa.mk (max (v+y) o.2.Lo) (min z o.2.Hi)))) U U (bh eM U)) U U)<|dW U<|bV U fun T30 AQ=>AL U cR fun Ax=>aA (AQ _ _ (aC [1,2,3,4,5,6,7,8,9,10,11,12,13,14,15,16,17,18]) ?_)
 refine bV U fun T32 AR=>fg U bS U<|aA (AR _ _ (aC [1,2,3,4,5,6,7,8,9,10,11,12,13,14,15,16,17,18]) ?_)
 refine eU U<|KK AO<|ai fun _ R=>cU bX 19 kr<|dP 6 [] (mc 0 U mn) ?_
 refine fU (t:=65) U (aP fun d=>?_) (aO fun d=>?_)
 ·refine jY 3 U<|jY 10 U<|cv<|rP 3 [] mn ?_
  refine RK R<|bU U<|cy<|aG<|oz 17 U mP U ?_
  refine aS (V ⟨((ep l2 u),T,A2),⟨kq B,lJ.skip AD L D (by exact CT hy d),E,G,H,Aa⟩⟩ _ _ _ U (ky L) (aU U) (aC [2,3,4,5,6,7,8,9,10,11,12,13,14,15,16,17,18]))
 refine dP 3 [0,1,2] (mr 14 U (mc 2 U (mc 1 U mn))) ?_
 have A6:(0≤(cP t u).right∧(cP t u).right≤1000)∧0≤(cP t u).dT∧(cP t u).dT≤1000:=by simp only [cP]; omega
 have A5:(0≤(cP (cP t u) (ej o.1)).right∧(cP (cP t u) (ej o.1)).right≤1000)∧0≤(cP (cP t u) (ej o.1)).dT∧(cP (cP t u) (ej o.1)).dT≤1000:=by simp only [cP]; omega
 refine dS (CL (th t u I I) (aR) U)<|jY 1 U<|dS (CL (Gk o.1) (aR) U)<|dS (CL (th (cP t u) (ej o.1) asm I) (aR) U)<|dS (CL (Jm ln ri e tms e_A e_C tb t_A t_C fs bs fb f_A f_C bb b_A b_C gw (cP (cP t u) (ej o.1)) asm hsg) (bf [6,7,8,9,10,11,12,13]) U)<|dP 2 [] mn ?_
 refine fU (t:=75) U (fun g=>?_) (fun g=>?_)
 ·refine jY 3 U<|cv<|rP 3 [] mn ?_
  refine RK R<|bU U<|cy<|aG<|oz 17 U mP U ?_
  refine aS (V ⟨((ep l2 u),T,A2),⟨kq B,lJ.skip AD L D (by exact Dh g),E,G,H,Aa⟩⟩ _ _ _ U (ky L) (aU U) (aC [2,3,4,5,6,7,8,9,10,11,12,13,14,15,16,17,18]))
 refine dP 3 [0,1] (mc 5 U (mc 0 U mn)) ?_
 refine cv<|uR (k:=T) (k':=(T++[(o.1,(aa.mk (max (v+y) o.2.Lo) (min z o.2.Hi)))])) 18 (by first|exact Am|exact Nat.le_refl _) hY H Aa U U U (by exact ⟨(o.1,_),gj.2 ⟨o,ho,(t,v),K _ hm,(u,z),B _ L,(yB hy d g)⟩,U,U⟩) U U (fun B34 W AE=>?_) (fun B34 W AE=>?_)
 rotate_left 1
 ·refine rP 2 [] mn ?_
  refine RK R<|aJ U<|an ?_
  exact AZ B34 _ _ (by exact ⟨U,W,AE⟩) (aC [3,5,18,6,7,8,9,10,11,12,13,14,15])
 refine rP 2 [] mn ?_
 refine RK R<|bU U<|cy<|aG<|oz 17 U mP U ?_
 refine aS (V ⟨((ep l2 u),(T++[(o.1,(aa.mk (max (v+y) o.2.Lo) (min z o.2.Hi)))]),B34),⟨kq B,lJ.N4 AD L D (yB hy d g),E.app,G.app,W,AE⟩⟩ _ _ _ U (ky L) (aU U) (aC [2,3,4,5,6,7,8,9,10,11,12,13,14,15,16,17,18]))
end
section
open Go.RowKit
theorem DC (ln:cb) (ri:dZ) (e:List Int) (tms:List TM) (e_A:OA) (e_C:Nat) (tb:List Nat) (t_A:OA) (t_C:Nat) (fs:List FM) (bs:List FM) (fb:List Nat) (f_A:OA) (f_C:Nat) (bb:List Nat) (b_A:OA) (b_C gw:Nat) (hw:D_ (cp ln ri e tms)) (hsg:ri.ag.n≤1000) (hn:ln.ab.n=e.length) (hfw:uG (cp ln ri e tms) fs) (hfb:fb.length=fs.length):
 pH Tryz.prog 210 [(vP gw)] [(rd e_A e.length 1 (e.map iC)),(rd t_A tms.length 1 (List.zipWith fz tms tb)),(eg (aZ pz tms tb)),(rd f_A fs.length 1 (List.zipWith fz fs fb)),(eg (aZ lW fs fb)),(rd b_A bs.length 1 (List.zipWith fz bs bb)),(eg (aZ lW bs bb)),(cd gw 276 (bR.cells (bR.mk ln ri (bE.mk e_A e.length e_C) (bE.mk t_A tms.length t_C) (bE.mk f_A fs.length f_C) (bE.mk b_A bs.length b_C))))] (fun (x:(OA)×Nat)=>(vS x.1 ((iI (cp ln ri e tms)).length) x.2)) (fun (x:(OA)×Nat)=>True) (fun (x:(OA)×Nat)=>[(own x.1 x.2 3 1 ((iI (cp ln ri e tms)).map iC))]):=by
 have y:e.length≤6:=hw.n
 have u:fs.length=e.length+1:=hfw.len
 refine fm kr Tryz.func210 U U fun w0 Q hQ hN=>?_
 try dsimp only
 refine WS fun _ X=>bp 1 U<|RK X<|WS fun _ Y=>bp 1 U<|RK Y<|ai fun _ Z=>WS fun _ b=>bp 1 U<|rS (SX (cm U U) U U)<|rP 6 [] (mr 7 U mn) ?_
 refine RK b<|av<|fT 3 1 ?_
 have A:(0≤e.length+1):=by exact Nat.zero_le _
 refine bI (ι:={z:Nat×(OA)×Nat // (z.1≤e.length+1)}) [0,12] [1,2,3,4,5,6,7,8] U U (fun z=>[(3,(vS z.1.2.1 ((jg (cp ln ri e tms) z.1.1).length) z.1.2.2)),(13,(vI (z.1.1:Int)))]) (fun z=>[(own z.1.2.1 z.1.2.2 3 1 ((jg (cp ln ri e tms) z.1.1).map iC))]) (fun _=>rfl) (fun _=>rfl) (fun z=>e.length+1-z.1.1) ⟨(0,none,0),A⟩ (aU U) (aC [1,2,3,4,5,6,7,8,0]) ?_
 clear A
 rintro ⟨⟨n,a,c⟩,G⟩ J5 AB
 try dsimp only at G
 try dsimp only
 refine WS fun _ d=>rP 1 [] mn ?_
 refine RK d<|ai fun _ g=>bH U (aP fun s=>?_) (aO fun s=>?_)
 ·refine bx<|ae<|ae<|ax<|KK Z<|WS fun _ P=>?_
  rw [show jg (cp ln ri e tms) n=iI (cp ln ri e tms) by (obtain rfl:n=e.length+1:=by omega); rfl]
  refine rP 2 [] mn ?_
  refine RK P<|an<|LX hQ (a,c) [8] [] mn U U U U ?_
  trivial
 refine WK g<|ai fun _ R=>av<|WS fun _ J=>bp 2 U<|RK J<|WS fun _ K=>bp 1 U<|rS (SX (cm U U) U U)<|rP 3 [] (mr 7 U mn) ?_
 obtain ⟨m,B⟩:=aB fs n I
 obtain ⟨ma,hm0a⟩:=aB fb n I
 have hm0m:(List.zipWith fz fs fb)[n]? =some (fz m ma):=db B hm0a
 refine rS (IA n U (aq 3 U) l4 dc I I)<|rS (fE n 0 (Value.map (some ma)) U bQ (aq 3 U) hm0m U dc U)<|nZ (kV:=dA) (m:=cz iV m) 4 U U mZ U ⟨⟨(jV dA ma (cz iV m)),(bk B hm0a (by simp [lW])),U⟩,fun h=>h⟩ (show fR _ (jV dA ma (cz iV m)).holds from bT 4 U (bk B hm0a (by simp [lW]))) U fun l=>?_
 try dsimp only
 refine RK K<|av ?_
 have A:(∀ p∈m,p∈m)∧(∀ p∈m,p∈m∨jl (cp ln ri e tms) p.1=false):=by exact ⟨fun p hp=>hp,fun p hp=> .inl hp⟩
 refine bI (ι:={z:FM // (∀ p∈z,p∈m)∧(∀ p∈m,p∈z∨jl (cp ln ri e tms) p.1=false)}) [0,3,4,12,13,23] [1,2,3,4,5,6,7,8,9] U U (fun z=>[]) (fun z=>[(zN dA l ma (cz iV m) (cz iV z.1) none)]) (fun _=>rfl) (fun _=>rfl) (fun z=>z.1.length) ⟨m,A⟩ (cS.nil _) (aC [1,2,3,4,5,6,7,8,9,0]) ?_
 clear A
 rintro ⟨left,⟨C,D⟩⟩ J13 H
 try dsimp only
 refine WS fun _ F=>mq mQ.inj (f:=iV) 9 U U U U (fun W=>?_) (fun t v hm i=>?_)
 ·refine bp 1 U<|RK F<|ai fun _ o=>bU U<|bx<|ae<|ae<|ax<|aG<|KK R<|ak<|rP 2 [] mn ?_
  refine aA ?_
  rw [← CD (w:=(cp ln ri e tms)) (k:=n) ((x5 (hfw.min _ _ B) (hfw.keys _ _ B)).symm.trans (E1 D W))]
  have S:(vI (((n+1):Nat):Int))=(vI ((n:Int)+1)):=by exact cI I
  refine aS (AB ⟨((n+1),a,c),(by first|omega|(simp only []; omega))⟩ _ _ _ U os (cE 3<|aV U S<|cS.nil _) (aC [0,1,2,3,4,5,6,7,8]))
 try dsimp only
 refine bp 1 U<|RK F<|ai fun _ L=>aJ U<|WK L<|av<|WS fun _ M=>rS (SX (my 9 U U U) U U)<|bp 1 U<|AL U qk fun q=>fg U pM U<|RK M<|WS fun _ N=>rP 2 [] (mc 0 U mn) ?_
 have j:=EC hw _ _ (hfw.mem B (C _ hm))
 dsimp only at j
 refine rS (CL (Jm ln ri e tms e_A e_C tb t_A t_C fs bs fb f_A f_C bb b_A b_C gw t I hsg) (bf [1,2,3,4,5,6,7,8]) U)<|RK N<|bH U (fun E=>?_) (fun E=>?_)
 ·refine cy<|aG<|oz 10 U mP U ?_
  refine aS (H ⟨(ep left t),⟨kq C,E8 i hm D (by first|exact E|simpa using E)⟩⟩ _ _ _ U (ky hm) (aU U) (aC [1,2,3,4,5,6,7,8,9,10]))
 refine WS fun _ O=>rP 2 [] mn ?_
 refine fw (xs:=[.tmp 32]) (cs:=[(vI (n:Int))]) U cN lX U U U U (by simp [Value.cells]) U U fun r=>?_
 have hy:g9 (cp ln ri e tms) (fwd (cp ln ri e tms) n)=true:=(x5 (hfw.min _ _ B) (hfw.keys _ _ B)).symm.trans (Hl (C _ hm) E)
 refine cG (es2:=(List.map iC (jg (cp ln ri e tms) (n+1)))) (m':=(jg (cp ln ri e tms) (n+1)).length) 10 U U U l0 U U sm (bj (es:=List.map iC [(n:Int)]) 0 U U (by simp [bW]) U) (gL _) (by have:=uH (w:=(cp ln ri e tms)) (k:=n); first|omega|(simp; omega)) (by have:=uH (w:=(cp ln ri e tms)) (k:=n); simp only [maxLen]; omega) (by rw [Ap hy]; simp) sm U fun AA V=>?_
 try dsimp only
 refine bp 1 U<|RK O<|bx<|gd U<|ae<|ax<|aG<|KK R<|ak<|rP 2 [] mn ?_
 refine aA ?_
 have T:(vI (((n+1):Nat):Int))=(vI ((n:Int)+1)):=by exact cI I
 refine aS (AB ⟨((n+1),AA,V),(by first|omega|(simp only []; omega))⟩ _ _ _ U os (cE 3<|aV U T<|cS.nil _) (aC [2,3,4,5,6,7,8,9,10]))
end
section
open Go.RowKit
theorem FT (ln:cb) (ri:dZ) (e:List Int) (tms:List TM) (e_A:OA) (e_C:Nat) (tb:List Nat) (t_A:OA) (t_C gw:Nat) (hw:D_ (cp ln ri e tms)) (hn:ln.ab.n=e.length) (htb:tb.length=tms.length):
 zS Tryz.prog 209 [(vP gw)] [(rd e_A e.length 1 (e.map iC)),(rd t_A tms.length 1 (List.zipWith fz tms tb)),(eg (aZ pz tms tb))] (cd gw 276 (bR.cells (bR.mk ln ri (bE.mk e_A e.length e_C) (bE.mk t_A tms.length t_C) (bE.mk none 0 0) (bE.mk none 0 0)))) (fun (x:(List FM)×(List Nat)×(OA)×Nat×(List FM)×(List Nat)×(OA)×Nat)=>(vT [])) (fun (x:(List FM)×(List Nat)×(OA)×Nat×(List FM)×(List Nat)×(OA)×Nat)=>uG (cp ln ri e tms) x.1∧rW (cp ln ri e tms) x.2.2.2.2.1∧x.2.1.length=x.1.length∧x.2.2.2.2.2.1.length=x.2.2.2.2.1.length) (fun (x:(List FM)×(List Nat)×(OA)×Nat×(List FM)×(List Nat)×(OA)×Nat)=>(bM [(cd gw 276 (bR.cells (bR.mk ln ri (bE.mk e_A e.length e_C) (bE.mk t_A tms.length t_C) (bE.mk x.2.2.1 x.1.length x.2.2.2.1) (bE.mk x.2.2.2.2.2.2.1 x.2.2.2.2.1.length x.2.2.2.2.2.2.2)))),(own x.2.2.1 x.2.2.2.1 280 1 (List.zipWith fz x.1 x.2.1)),(bM (aZ lW x.1 x.2.1)),(own x.2.2.2.2.2.2.1 x.2.2.2.2.2.2.2 280 1 (List.zipWith fz x.2.2.2.2.1 x.2.2.2.2.2.1)),(bM (aZ lW x.2.2.2.2.1 x.2.2.2.2.2.1))])):=by
 have Cc:e.length≤6:=hw.n
 have Cd:tms.length=e.length:=hw.times
 refine lS kr Tryz.func209 U U fun w0 Q hQ hN=>?_
 try dsimp only
 refine WS fun _ Ab=>xp U U fun W=>RK Ab<|WS fun _ Ae=>eZ 1 [] (mc 0 U mn) U<|rS (SX (cm U U) U U)<|rP 5 [] (mc 1 U mn) ?_
 refine RK Ae ?_
 refine mu (ι:={z:(OA)×(OA) // True}) [0,1,2] [0,2,3,4] U U (fun z=>[]) (fun z=>[(own z.1.1 (ln.ab.n+1) 280 1 (List.map oC (List.replicate (ln.ab.n+1) (none:Option Nat)))),(own z.1.2 (ln.ab.n+1) 280 1 (List.map oC (List.replicate (ln.ab.n+1) (none:Option Nat)))),(cd gw 276 (bR.cells (bR.mk ln ri (bE.mk e_A e.length e_C) (bE.mk t_A tms.length t_C) (bE.mk z.1.1 (ln.ab.n+1) (ln.ab.n+1)) (bE.mk z.1.2 (ln.ab.n+1) (ln.ab.n+1)))))]) (fun _=>rfl) (fun _=>rfl) ?_ fun K4 Af=>?_
 ·rintro ⟨⟨fA,bA⟩,_⟩
  try dsimp only
  refine zC 6 U U fun wz Sz hz=>?_
  have CZ:(List.replicate (ln.ab.n+1) (none:Option Nat)).length=(ln.ab.n+1):=List.length_replicate
  try dsimp only
  refine mu (ι:={z:Nat // True}) [0,1,2] [0,1,2,3,4,6] U U (fun z=>[]) (fun z=>[(bM (aZ lW [[((ar.mk 0 0),ri.Start)]] [z.1])),(own fA (ln.ab.n+1) 280 1 (List.map oC (dE [z.1] (ln.ab.n+1))))]) (fun _=>rfl) (fun _=>rfl) ?_ fun K5 B4=>?_
  ·rintro ⟨ga,_⟩
   try dsimp only
   refine ai fun _ Ag=>WS fun _ Ah=>rP 2 [] mn ?_
   refine RK Ah<|av<|nU ?_
   have C:(0≤ln.ab.n)∧(([[((ar.mk 0 0),ri.Start)]]).length=0+1)∧(([ga]).length=0+1)∧(ob (cp ln ri e tms) ([[((ar.mk 0 0),ri.Start)]])):=by exact ⟨Nat.zero_le _,rfl,rfl,ob.first⟩
   refine tg (ι:={z:Nat×(List FM)×(List Nat)×(List Nat) // (z.1≤ln.ab.n)∧(z.2.1.length=z.1+1)∧(z.2.2.1.length=z.1+1)∧(ob (cp ln ri e tms) z.2.1)}) (fun z=>z.1.2.2.2.map jZ) (fun z=>[(0,(vP gw)),(1,(vP W)),(2,(vI (ln.ab.n:Int))),(52,(vI (ln.ab.n:Int))),(53,(vI (z.1.1:Int)))]) (fun z=>[(bM (z.1.2.2.2.map j_)),(cd gw 276 (bR.cells (bR.mk ln ri (bE.mk e_A e.length e_C) (bE.mk t_A tms.length t_C) (bE.mk fA (ln.ab.n+1) (ln.ab.n+1)) (bE.mk bA (ln.ab.n+1) (ln.ab.n+1))))).ro,(cd W 265 [(vP gw)]),(rd e_A e.length 1 (e.map iC)).ro,(rd t_A tms.length 1 (List.zipWith fz tms tb)).ro,(eg (aZ pz tms tb)).ro,(own bA (ln.ab.n+1) 280 1 (List.map oC (List.replicate (ln.ab.n+1) (none:Option Nat)))),(bM (aZ lW z.1.2.1 z.1.2.2.1)),(own fA (ln.ab.n+1) 280 1 (List.map oC (dE z.1.2.2.1 (ln.ab.n+1))))]) (fun z=>ln.ab.n-z.1.1) ⟨(0,[[((ar.mk 0 0),ri.Start)]],[ga],([]:List Nat)),C⟩ U (aU U) (aC [0,1,2,3,4,5,6,7,8]) ?_
   clear C
   rintro ⟨⟨b,fs,fb,By⟩,⟨Au,AJ,Av,M⟩⟩ J8 B3
   try dsimp only at Au AJ Av M
   try dsimp only
   have Ca:(dE fb (ln.ab.n+1)).length=(ln.ab.n+1):=pd I
   refine WS fun _ Ai=>rP 1 [] mn ?_
   refine RK Ai<|ai fun _ AB=>cw U (aO fun B1=>?_) (aP fun B1=>?_)
   ·refine WK AB<|ai fun _ A9=>av<|WS fun _ A_=>rP 1 [] mn ?_
    refine AL U lX fun s=>Ha U xN U U<|RK A_<|ai fun _ BA=>dj bX [6,8] [6] [0] [0,1,2,3,4,5,6,7,8] [0,1,2,3,4,5,6,7,8,9] U U U U U<|eS U (Bo 3 U bQ U)<|eS U (SX (cm U U) U U)<|eS U (FA 12 U fq U)<|eS U (FC (vS fA (ln.ab.n+1) (ln.ab.n+1)) 2 U bQ U U)<|eS U (Bo 0 U bQ U)<|eS U (BI U (kK ⟨I,I⟩)) ?_
    obtain ⟨CG,Bv⟩:=aB (dE fb (ln.ab.n+1)) (b+1) I
    have hx17m:(List.map oC (dE fb (ln.ab.n+1)))[(b+1)]? =some (oC CG):=by rw [eG,Bv]; rfl
    refine fS U (IA (b+1) U (au (n:=(ln.ab.n+1)) 9 U sq) l4 dc I I) ?_
    refine dW U<|iB U fun T18 Ba=>oY (kV:=dA) U U fun B=>?_
    try dsimp only
    refine aA (Ba _ _ (aC [1,2,3,4,5,6,7,8,9]) (aC [1,2,3,4,5,6,7,8,9,10]) ?_)
    refine bV U fun T20 Bb=>?_
    have Bl:((dE fb (ln.ab.n+1)).set (b+1) (some B))=(dE (fb++[B]) (ln.ab.n+1)):=by exact rr I I
    refine d_ (k:=(b+1)) (o:=0) (vs:=[(Value.map (some B))]) (es':=(List.map oC (dE (fb++[B]) (ln.ab.n+1)))) (C':=[_,_,_,_,_,_,_,_,_,_,(own fA (ln.ab.n+1) 280 1 (List.map oC (dE (fb++[B]) (ln.ab.n+1))))]) 10 U U U F5 U U U U hx17m U dc (by exact (List.map_set (f:=oC) (l:=(dE fb (ln.ab.n+1))) (i:=(b+1)) (a:=(some B))).symm.trans (congrArg _ Bl)) U<|aA (Bb _ _ (aC [1,2,3,4,5,6,7,8,9]) ?_)
    refine eU U<|KK BA<|ai fun _ BB=>?_
    have B8:(dE (fb++[B]) (ln.ab.n+1)).length=(ln.ab.n+1):=pd (by simp; omega)
    obtain ⟨mb,N⟩:=aB fs b I
    obtain ⟨ga,Z⟩:=aB fb b I
    refine BC 9 N Z U U U ?_
    try dsimp only
    refine cU bX 7 kr<|lg 1 [] (mc 6 U mn) U<|dS (SX (cm U U) U U)<|dP 3 [0,1] (mr 5 U (mc 3 U mn)) ?_
    have Bq:(List.map oC (dE (fb++[B]) (ln.ab.n+1)))[b]? =some (oC (some ga)):=pC (mV (F1 Z))
    refine dS (IA b U (au (n:=(ln.ab.n+1)) 11 U sq) l4 dc I I) ?_
    refine dS (fE b 0 (Value.map (some ga)) U bQ (au (n:=(dE (fb++[B]) (ln.ab.n+1)).length) 11 U sm) Bq U dc U)<|cv<|wM 0 U U mZ U U fun AR=>?_
    try dsimp only
    refine RK BB<|av ?_
    have C:(∀ p∈mb,p∈mb)∧(tJ (cp ln ri e tms) b ([]:FM))∧(iS (cp ln ri e tms) b mb ([]:FM) mb):=by exact ⟨fun p hp=>hp,tJ.start,iS.start⟩
    refine tg (ι:={z:FM×FM×(List Nat) // (∀ p∈z.1,p∈mb)∧(tJ (cp ln ri e tms) b z.2.1)∧(iS (cp ln ri e tms) b mb z.2.1 z.1)}) (fun z=>z.1.2.2.map jZ) (fun z=>[(0,(vP gw)),(1,(vP W)),(2,(vI (ln.ab.n:Int))),(3,(vP s)),(52,(vI (ln.ab.n:Int))),(53,(vI (b:Int))),(71,(vP AR))]) (fun z=>[(w7 dA AR ga (cz iV mb) (cz iV z.1.1) none),(bM (gH lW fs fb b)),(jV dA B (cz iV z.1.2.1)),(cd s 3 [(vI (b:Int))]),(bM (z.1.2.2.map j_)),(cd gw 276 (bR.cells (bR.mk ln ri (bE.mk e_A e.length e_C) (bE.mk t_A tms.length t_C) (bE.mk fA (ln.ab.n+1) (ln.ab.n+1)) (bE.mk bA (ln.ab.n+1) (ln.ab.n+1))))).ro,(cd W 265 [(vP gw)]),(rd e_A e.length 1 (e.map iC)).ro,(rd t_A tms.length 1 (List.zipWith fz tms tb)).ro,(eg (aZ pz tms tb)).ro,(own bA (ln.ab.n+1) 280 1 (List.map oC (List.replicate (ln.ab.n+1) (none:Option Nat)))),(own fA (ln.ab.n+1) 280 1 (List.map oC (dE (fb++[B]) (ln.ab.n+1))))]) (fun z=>z.1.1.length) ⟨(mb,([]:FM),By),C⟩ U (aU U) (aC [0,1,2,3,4,5,6,7,8,9,10,11]) ?_
    clear C
    rintro ⟨⟨left,m,AK⟩,⟨c,d,g⟩⟩ J26 A7
    try dsimp only at c d g
    try dsimp only
    refine WS fun _ AU=>uu mQ.inj (f:=iV) 0 U U U U (fun B2=>?_) (fun t v hm Aw=>?_)
    ·refine bp 1 U<|RK AU<|ai fun _ CQ=>bU U<|bx<|ae<|ae<|ax<|aG<|KK A9<|ak<|rP 2 [] mn ?_
     refine aA<|Ez (C':=[(jV dA ga (cz iV mb)),(bM (gH lW fs fb b)),(jV dA B (cz iV m)),(cd s 3 [(vI (b:Int))]),(bM (AK.map j_)),(cd gw 276 (bR.cells (bR.mk ln ri (bE.mk e_A e.length e_C) (bE.mk t_A tms.length t_C) (bE.mk fA (ln.ab.n+1) (ln.ab.n+1)) (bE.mk bA (ln.ab.n+1) (ln.ab.n+1))))).ro,(cd W 265 [(vP gw)]),(rd e_A e.length 1 (e.map iC)).ro,(rd t_A tms.length 1 (List.zipWith fz tms tb)).ro,(eg (aZ pz tms tb)).ro,(own bA (ln.ab.n+1) 280 1 (List.map oC (List.replicate (ln.ab.n+1) (none:Option Nat)))),(own fA (ln.ab.n+1) 280 1 (List.map oC (dE (fb++[B]) (ln.ab.n+1))))]) 0 U GL U<|Ep 1 0 N Z U U U ?_
     try dsimp only
     refine wq (X':=aZ lW (fs++[m]) (fb++[B])) 0 1 U U (wu I U) ?_
     try dsimp only
     have Bm:(vI (((b+1):Nat):Int))=(vI ((b:Int)+1)):=by exact cI I
     refine aS (B3 ⟨((b+1),(fs++[m]),(fb++[B]),AK),⟨I,by simp; omega,by simp; omega,M.add AJ N d g B2⟩⟩ _ _ _ U os (cE 4<|aV U Bm<|cS.nil _) (aC [2,3,4,5,6,7,8,0,9]))
    try dsimp only
    refine bp 1 U<|RK AU<|ai fun _ BD=>aJ U<|WK BD<|av<|WS fun _ BE=>rS (SX (u9 0 U U U) U U)<|bp 2 U<|AL U qk fun Az=>AL U lX fun A0=>qf U pM U<|Ha U xN U U<|RK BE<|WS fun _ BF=>rP 2 [0,1] (mc 8 U (mc 5 U mn)) ?_
    refine cX (rQ gw b) (aR) U fun CK CT=>?_
    obtain ⟨AX,AZ⟩:=CK
    try dsimp only
    refine RK BF<|av<|lR 11 U (by exact fun _ h=>h)<|lR 13 U (by exact fun _ h=>h)<|lR 15 U (by exact fun _ h=>h)<|lR 12 U (by exact fun _ h=>h) ?_
    refine qB (L0:=[(0,(vP gw)),(1,(vP W)),(2,(vI (ln.ab.n:Int))),(3,(vP s)),(4,(vP Az)),(5,(vP A0)),(52,(vI (ln.ab.n:Int))),(53,(vI (b:Int))),(71,(vP AR))]) (F:=[(rd e_A e.length 1 (e.map iC)).ro,(rd t_A tms.length 1 (List.zipWith fz tms tb)).ro,(eg (aZ pz tms tb)).ro,(cd gw 276 (bR.cells (bR.mk ln ri (bE.mk e_A e.length e_C) (bE.mk t_A tms.length t_C) (bE.mk fA (ln.ab.n+1) (ln.ab.n+1)) (bE.mk bA (ln.ab.n+1) (ln.ab.n+1))))).ro,(cd AX 265 [(vP gw)]),(cd AZ 3 [(vI (b:Int))])]) (fun k (y:FM)=>(lU (cp ln ri e tms) b mb left y (t,v) k)) (fun k y=>[(cd A0 3 [(vI v)]),(cd Az 282 (ar.cells t)),(w7 dA AR ga (cz iV mb) (cz iV (ep left t)) (some (t,(vI v)))),(bM (gH lW fs fb b)),(jV dA B (cz iV y)),(cd s 3 [(vI (b:Int))]),(bM (AK.map j_)),(cd gw 276 (bR.cells (bR.mk ln ri (bE.mk e_A e.length e_C) (bE.mk t_A tms.length t_C) (bE.mk fA (ln.ab.n+1) (ln.ab.n+1)) (bE.mk bA (ln.ab.n+1) (ln.ab.n+1))))).ro,(cd W 265 [(vP gw)]),(rd e_A e.length 1 (e.map iC)).ro,(rd t_A tms.length 1 (List.zipWith fz tms tb)).ro,(eg (aZ pz tms tb)).ro,(own bA (ln.ab.n+1) 280 1 (List.map oC (List.replicate (ln.ab.n+1) (none:Option Nat)))),(own fA (ln.ab.n+1) 280 1 (List.map oC (dE (fb++[B]) (ln.ab.n+1))))]) (fun _ (_:Unit)=>False) (fun _ _=>[]) [6,7,8,9,10,11,12,13,14,15,16,17,18,19] [3,2,1,0,4,5] m rfl rfl (p5 ln ri e tms e_A e_C tb t_A t_C fA (ln.ab.n+1) (ln.ab.n+1) bA (ln.ab.n+1) (ln.ab.n+1) gw b AX AZ I I) rfl rfl rfl (by exact lU.start d g) (by simp only [List.forall_mem_cons,List.not_mem_nil,false_imp_iff,implies_true,and_true]; exact ⟨⟨_,aI (i:=0) rfl,(dH (bP _))⟩,⟨_,aI (i:=1) rfl,(dH (bP _))⟩,⟨_,aI (i:=2) rfl,(dH (bP _))⟩,⟨_,aI (i:=3) rfl,(dH (bP _))⟩,⟨_,aI (i:=4) rfl,(bP _)⟩,⟨_,aI (i:=5) rfl,(bP _)⟩⟩) (by rintro k x k2 ⟨o,_,rfl,_⟩; rfl) rfl (aU rfl) ?_ ?_ (fun _ _ _ h=>h.elim) (fun _ _ h=>h.elim)
    rotate_left 1
    ·rintro CE k O AI Ap
     have D:=Ap
     try dsimp only
     refine aG<|aG<|FE (X:=AK.map j_) 13 0 U U ?_
     try dsimp only
     refine oz 9 U yc U ?_
     refine aS (A7 ⟨((ep left t),O,(CE::AK)),⟨kq c,D.on,D.next Aw hm AI⟩⟩ _ _ _ U (ky hm) (aU U) (aC [9,10,11,12,0,4,14,1,2,3,18,19]))
    rintro k x k2 O l ra rb S w1 K39 Qr40 CB hx Ao BG H CI CN
    obtain ⟨o,ho,rfl,rfl⟩:=hx
    have D:=Ao
    try dsimp only
    refine WS fun _ BH=>rP 1 [] mn ?_
    refine RK BH<|ak<|AL U cR fun CV=>fg U bS U<|aA<|iy (fun _ _ h=>h) (aC [1,0,2,3,4,5,6,7,8,9,10,11,12,13,14,15])<|aS (BG _ _ ?_)
    refine av<|ai fun _ BJ=>dj bX [16,18] [] [] [0,1,2,3,4,5,6,7,8,9,10,11,12,13,14,15] [] U U U U U<|eS U (Bo 2 U bQ U)<|eS U (Bo 10 U bQ U)<|eS U (SX (cm U U) U U)<|eS U (FA 10 U fq U)<|eS U (FC (vS e_A e.length e_C) 9 U bQ U U)<|eS U (Bo 7 U bQ U) ?_
    obtain ⟨y,hy⟩:=aB e b I
    have Ax:=br iC hy
    refine eS U (IA b U (aq 11 U) cN dc I I)<|eS U (fE b 0 (vI y) U bQ (aq 11 U) Ax U dc U) ?_
    have B7:=hw.least y (aI hy)
    have hp:=M.mem N (c _ hm)
    have B6:=EC hw _ _ hp
    have B_:=rj o.1
    have CA:=hw.opt ho
    have Cb:=hw.now
    dsimp only at B6
    refine eS U (BI U (kK ⟨I,I⟩))<|eS U (FA 0 U fq U)<|eS U (L1 (vI o.2.Lo) 1 U bQ U U)<|eS U (MX U)<|eS U (LW 3 U bQ U U)<|eS U (MV U)<|eS U (CL (Gk o.1) (aR) U)<|eS U (CL (th t (ej o.1) I I) (aR) U)<|eS U (AG U)<|dW U<|bV U fun T45 Bc=>AL U qk fun CW=>aA (Bc _ _ (aC [1,2,3,4,5,6,7,8,9,10,11,12,13,14,15,16]) ?_)
    refine bV U fun T47 Be=>fg U pM U<|aA (Be _ _ (aC [1,2,3,4,5,6,7,8,9,10,11,12,13,14,15,16]) ?_)
    refine eU U<|KK BJ<|ai fun _ BK=>cU bX 15 kr<|lg 1 [] (mc 11 U mn) U<|dS (SX (cm U U) U U)<|dP 4 [0,1] (mr 10 U (mc 8 U mn)) ?_
    have Br:(List.map oC (dE (fb++[B]) (ln.ab.n+1)))[(b+1)]? =some (oC (some B)):=pC (mV (xe I))
    refine dS (IA (b+1) U (au (n:=(ln.ab.n+1)) 16 U sq) l4 dc I I) ?_
    refine dS (fE (b+1) 0 (Value.map (some B)) U bQ (au (n:=(dE (fb++[B]) (ln.ab.n+1)).length) 16 U sm) Br U dc U)<|lg 1 [] (mc 0 U mn) U<|dS (SX (lI (kV:=dA) (x:=(cP t (ej o.1))) (l:=O) (f:=iV) (z:=0) U U U mZ mQ Pu (by exact aq 7 U)) U U)<|jY 5 U<|cv<|RK BK<|ai fun _ AC=>cU bX 19 kr<|lg 4 [0,1] (mc 2 U (mc 11 U mn)) U<|dS (SX (cm U U) U U)<|lg 3 [] (mr 10 U mn) U<|dS (MN U)<|dP 2 [] mn ?_
    refine fU (t:=121) U (aP fun P=>?_) (aO fun P=>?_)
    ·refine dP 8 [] mn ?_
     refine cv<|RK AC<|bU U<|cy<|aG ?_
     exact H O _ _ (by exact D.skip (GN hy P)) (aC [1,3,4,5,6,7,8,9,10,11,12,13,14,15,16])
    refine dP 3 [] mn ?_
    refine gX (t:=124) U (fun R=>?_) (fun R=>?_)
    ·rw [Bool.not_eq_true'] at R
     refine jY 5 U<|cv<|RK AC<|aJ U<|cU bX 10 kr<|lg 1 [] (mc 11 U mn) U<|dS (SX (cm U U) U U)<|dP 4 [0,1] (mr 10 U (mc 8 U mn)) ?_
     have Bs:(List.map oC (dE (fb++[B]) (ln.ab.n+1)))[(b+1)]? =some (oC (some B)):=pC (mV (xe I))
     refine dS (IA (b+1) U (au (n:=(ln.ab.n+1)) 16 U sq) l4 dc I I) ?_
     refine dS (fE (b+1) 0 (Value.map (some B)) U bQ (au (n:=(dE (fb++[B]) (ln.ab.n+1)).length) 16 U sm) Bs U dc U)<|dP 2 [] (mc 0 U mn) ?_
     refine cv<|jF (kV:=dA) (x:=(cP t (ej o.1))) (C':=[_,_,_,_,_,_,_,(jV dA B (cz iV (ei O (cP t (ej o.1)) (max (v+y) o.2.Lo)))),_,_,_,_,_,_,_,_,_]) 7 U U U U mZ mQ U (gJ _ _ _ _).symm U<|aA<|aG ?_
     exact H (ei O (cP t (ej o.1)) (max (v+y) o.2.Lo)) _ _ (by exact D.set hp ho (xd hy P) (.inl (by simpa using R))) (aC [1,3,4,5,6,7,8,9,10,11,12,13,14,15,16])
    rw [Bool.not_eq_false'] at R
    refine dP 5 [] mn ?_
    refine cv<|RK AC<|bH U (aP fun u=>?_) (aO fun u=>?_)
    ·refine cy<|aG ?_
     exact H O _ _ (by exact D.mG (xd hy P) (by simpa using R) u) (aC [1,3,4,5,6,7,8,9,10,11,12,13,14,15,16])
    refine cU bX 10 kr<|lg 1 [] (mc 11 U mn) U<|dS (SX (cm U U) U U)<|dP 4 [0,1] (mr 10 U (mc 8 U mn)) ?_
    have Bt:(List.map oC (dE (fb++[B]) (ln.ab.n+1)))[(b+1)]? =some (oC (some B)):=pC (mV (xe I))
    refine dS (IA (b+1) U (au (n:=(ln.ab.n+1)) 16 U sq) l4 dc I I) ?_
    refine dS (fE (b+1) 0 (Value.map (some B)) U bQ (au (n:=(dE (fb++[B]) (ln.ab.n+1)).length) 16 U sm) Bt U dc U)<|dP 2 [] (mc 0 U mn) ?_
    refine cv<|jF (kV:=dA) (x:=(cP t (ej o.1))) (C':=[_,_,_,_,_,_,_,(jV dA B (cz iV (ei O (cP t (ej o.1)) (max (v+y) o.2.Lo)))),_,_,_,_,_,_,_,_,_]) 7 U U U U mZ mQ U (gJ _ _ _ _).symm U<|aA<|aG ?_
    exact H (ei O (cP t (ej o.1)) (max (v+y) o.2.Lo)) _ _ (by exact D.set hp ho (xd hy P) (.inr u)) (aC [1,3,4,5,6,7,8,9,10,11,12,13,14,15,16])
   refine bx<|ae<|ae<|ax<|KK Ag<|WS fun _ AD=>rP 1 [] mn ?_
   refine AL U lX fun Bz=>Ha U xN U U<|RK AD<|av ?_
   rw [DP]
   refine nU ?_
   have C:(0≤ln.ab.n+1)∧(([]:List FM).length=0)∧(([]:List Nat).length=0)∧(f_ (cp ln ri e tms) (ln.ab.n+1-0) ([]:List FM)):=by exact ⟨Nat.zero_le _,rfl,rfl,f_.none_⟩
   refine tg (ι:={z:Nat×(List FM)×(List Nat)×Nat×(List Nat) // (z.1≤ln.ab.n+1)∧(z.2.1.length=z.1)∧(z.2.2.1.length=z.1)∧(f_ (cp ln ri e tms) (ln.ab.n+1-z.1) z.2.1)}) (fun z=>z.1.2.2.2.2.map jZ) (fun z=>[(0,(vP gw)),(1,(vP W)),(2,(vI (ln.ab.n:Int))),(12,(Value.pointer (some ⟨z.1.2.2.2.1,0,none⟩)))]) (fun z=>[(bM (aZ lW z.1.2.1 z.1.2.2.1)),(cd z.1.2.2.2.1 3 [(vI ((ln.ab.n:Int)-(z.1.1:Int)))]),(bM (z.1.2.2.2.2.map j_)),(cd gw 276 (bR.cells (bR.mk ln ri (bE.mk e_A e.length e_C) (bE.mk t_A tms.length t_C) (bE.mk fA (ln.ab.n+1) (ln.ab.n+1)) (bE.mk bA (ln.ab.n+1) (ln.ab.n+1))))).ro,(cd W 265 [(vP gw)]),(rd e_A e.length 1 (e.map iC)).ro,(rd t_A tms.length 1 (List.zipWith fz tms tb)).ro,(eg (aZ pz tms tb)).ro,(own bA (ln.ab.n+1) 280 1 (List.map oC (fY z.1.2.2.1 (ln.ab.n+1)))),(bM (aZ lW fs fb)),(own fA (ln.ab.n+1) 280 1 (List.map oC (dE fb (ln.ab.n+1))))]) (fun z=>ln.ab.n+1-z.1.1) ⟨(0,([]:List FM),([]:List Nat),Bz,By),C⟩ U (aU U) (aC [0,1,2,3,4,5,6,7,8,9,10]) ?_
   clear C
   rintro ⟨⟨j,bs,bb,gq,q⟩,⟨AO,AP,AQ,E⟩⟩ J57 AT
   try dsimp only at AO AP AQ E
   try dsimp only
   refine ai fun _ AE=>WS fun _ AF=>rP 2 [] (mc 1 U mn) ?_
   refine RK AF<|bH U (aP fun A4=>?_) (aO fun A4=>?_)
   ·refine bx<|ae<|ae<|ax ?_
    rw [show (List.map oC (dE fb (ln.ab.n+1)))=(List.zipWith fz fs fb) from by rw [vU I]; exact (xj I).symm]
    rw [show (List.map oC (fY bb (ln.ab.n+1)))=(List.zipWith fz bs bb) from by rw [C6 I]; exact (xj I).symm]
    refine wX (C1:=[(own fA (ln.ab.n+1) 280 1 (List.zipWith fz fs fb)),(bM (aZ lW fs fb)),(own bA (ln.ab.n+1) 280 1 (List.zipWith fz bs bb)),(bM (aZ lW bs bb)),(bM (q.map j_))]) hz [10,9,8,0,2] U U (by simp only [iD,List.all_nil,Gz,Ih,Bool.and_true]; rfl) ?_
    rw [show (cd gw 276 (bR.cells (bR.mk ln ri (bE.mk e_A e.length e_C) (bE.mk t_A tms.length t_C) (bE.mk fA (ln.ab.n+1) (ln.ab.n+1)) (bE.mk bA (ln.ab.n+1) (ln.ab.n+1)))))=(cd gw 276 (bR.cells (bR.mk ln ri (bE.mk e_A e.length e_C) (bE.mk t_A tms.length t_C) (bE.mk fA fs.length (ln.ab.n+1)) (bE.mk bA bs.length (ln.ab.n+1))))) from by rw [show fs.length=(ln.ab.n+1) from by omega,show bs.length=(ln.ab.n+1) from by omega]]
    refine KD [(cd gw 276 (bR.cells (bR.mk ln ri (bE.mk e_A e.length e_C) (bE.mk t_A tms.length t_C) (bE.mk fA fs.length (ln.ab.n+1)) (bE.mk bA bs.length (ln.ab.n+1))))),(own fA (ln.ab.n+1) 280 1 (List.zipWith fz fs fb)),(bM (aZ lW fs fb)),(own bA (ln.ab.n+1) 280 1 (List.zipWith fz bs bb)),(bM (aZ lW bs bb))] [(bM (q.map j_))] ?_
    refine hN _ _ _ (Fm 1 U U<|jN (vs:=[]) trivial fun w hs=>LI (fs,fb,fA,(ln.ab.n+1),bs,bb,bA,(ln.ab.n+1)) 0 ?_ ?_ U (by show List.all _ _=true; simp only [iD,List.all_nil,Gz,Bool.and_true]; rfl) hs)
    ·clear hs w hQ hN AF AE AD AB Ai Ah Ag Ae Ab; rfl
    ·clear hs w hQ hN AF AE AD AB Ai Ah Ag Ae Ab; exact ⟨M.ok (by show fs.length=e.length+1; omega),f_.ok (by have:=E; rwa [show ln.ab.n+1-j=0 by omega] at this) (by show bs.length=e.length+1; omega),dso,dso⟩
   refine WK AE<|ai fun _ AV=>av<|ai fun _ BL=>?_
   obtain ⟨b,CY⟩: ∃ b:Nat,b+j=ln.ab.n:=⟨ln.ab.n-j,I⟩
   rw [show (ln.ab.n:Int)-(j:Int)=(b:Int) from by omega]
   have CS:(fY bb (ln.ab.n+1)).length=(ln.ab.n+1):=v8 I
   refine dj bX [5,12,13,15] [11] [0,1,2] [0,1,2,3,4,5,6,7,9,10] [0,1,2,3,4,5,6,7,8,9,10] U U U U U<|eS U (Bo 4 U bQ U)<|eS U (SX (cm U U) U U)<|eS U (FA 13 U fq U)<|eS U (FC (vS bA (ln.ab.n+1) (ln.ab.n+1)) 3 U bQ U U)<|eS U (Bo 1 U bQ U)<|eS U (SX (bg (xs:=[]) (cs:=(ar.cells (ar.mk 0 0))) U U (bh xZ U)) U U)<|eS U (Bo 4 U bQ U)<|eS U (SX (cm U U) U U)<|eS U (FA 7 U fq U)<|eS U (FA 8 U fq U)<|eS U (FC (vI ri.eX) 3 U bQ U U) ?_
   obtain ⟨CH,Bw⟩:=aB (fY bb (ln.ab.n+1)) b I
   have hx63m:(List.map oC (fY bb (ln.ab.n+1)))[b]? =some (oC CH):=by rw [eG,Bw]; rfl
   refine fS U (IA b U (au (n:=(ln.ab.n+1)) 8 U sq) l4 dc I I) ?_
   refine dW U<|iB U fun T64 Bf=>oY (kV:=dA) U U fun A=>?_
   try dsimp only
   refine aA (Bf _ _ (aC [1,2,3,4,5,6,7,8,10,11]) (aC [1,2,3,4,5,6,7,8,9,10,11]) ?_)
   refine iB U fun T66 Bg=>?_
   have Bn:(ei ([]:List (ar×Int)) (ar.mk 0 0) ri.eX)=[((ar.mk 0 0),ri.eX)]:=by rfl
   refine v_ (kV:=dA) (x:=(ar.mk 0 0)) (C':=[(jV dA A (cz iV ([((ar.mk 0 0),ri.eX)]))),_,_,_,_,_,_,_,_,_,_,_]) 0 U U U U mZ mQ U ((gJ _ _ _ _).symm.trans (congrArg _ Bn)) U<|aA (Bg _ _ (aC [1,2,3,4,5,6,7,8,10,11]) (aC [1,2,3,4,5,6,7,8,9,10,11]) ?_)
   refine iB U fun T68 Bh=>rS (MV U)<|aA (Bh _ _ (aC [1,2,3,4,5,6,7,8,10,11]) (aC [1,2,3,4,5,6,7,8,9,10,11]) ?_)
   refine bV U fun T69 Bi=>?_
   have Bp:((fY bb (ln.ab.n+1)).set b (some A))=(fY (A::bb) (ln.ab.n+1)):=by exact CF I
   refine d_ (k:=b) (o:=0) (vs:=[(Value.map (some A))]) (es':=(List.map oC (fY (A::bb) (ln.ab.n+1)))) (C':=[_,_,_,_,_,_,_,_,_,(own bA (ln.ab.n+1) 280 1 (List.map oC (fY (A::bb) (ln.ab.n+1)))),_,_]) 9 U U U F5 U U U U hx63m U dc (by exact (List.map_set (f:=oC) (l:=(fY bb (ln.ab.n+1))) (i:=b) (a:=(some A))).symm.trans (congrArg _ Bp)) U<|aA (Bi _ _ (aC [1,2,3,4,5,6,7,8,10,11]) ?_)
   refine eU U<|KK BL<|ai fun _ BM=>WS fun _ BN=>rP 3 [] (mc 2 U mn) ?_
   refine RK BN<|cw U (aO fun A5=>?_) (aP fun A5=>?_)
   ·refine bx<|ae<|ax<|KK AV<|ai fun _ BO=>WS fun _ BP=>eZ 1 [] (mc 2 U mn) U<|RK BP<|ak<|AL U lX fun B0=>Ha U xN U U<|RK BO<|ak<|rP 2 [] (mc 0 U mn) ?_
    refine Ha U xN U U<|aA ?_
    rw [show (b:Int)-1=(ln.ab.n:Int)-(((j+1):Nat):Int) from by omega]
    refine v7 (ms:=bs) (m:=[((ar.mk 0 0),ri.eX)]) (a:=A) 2 1 U U U ?_
    try dsimp only
    refine aS (AT ⟨((j+1),([((ar.mk 0 0),ri.eX)]::bs),(A::bb),B0,q),⟨I,by simp; omega,by simp; omega,by exact f_.end_ (b:=b) E I I (by show e.length≤b; omega)⟩⟩ _ _ _ U os (aU U) (aC [0,1,3,4,5,6,7,8,9,10,11]))
   refine WK BM<|ai fun _ BQ=>?_
   have B9:(fY (A::bb) (ln.ab.n+1)).length=(ln.ab.n+1):=v8 (by simp; omega)
   obtain ⟨mb,N⟩:=aB bs 0 I
   obtain ⟨ga,Z⟩:=aB bb 0 I
   refine BC 1 N Z U U U ?_
   try dsimp only
   refine cU bX 8 kr<|lg 1 [] (mc 6 U mn) U<|dS (SX (cm U U) U U)<|dP 4 [0,1] (mr 5 U (mc 3 U mn)) ?_
   have Bu:(List.map oC (fY (A::bb) (ln.ab.n+1)))[(b+1)]? =some (oC (some ga)):=pC (qz (i:=1) (by simpa using Z) (by simp; omega))
   refine dS (IA (b+1) U (au (n:=(ln.ab.n+1)) 10 U sq) l4 dc I I) ?_
   refine dS (fE (b+1) 0 (Value.map (some ga)) U bQ (au (n:=(fY (A::bb) (ln.ab.n+1)).length) 10 U sm) Bu U dc U)<|cv<|wM 0 U U mZ U U fun AS=>?_
   try dsimp only
   refine RK BQ<|av ?_
   have C:(∀ p∈mb,p∈mb)∧(sT (cp ln ri e tms) b ([((ar.mk 0 0),ri.eX)]))∧(iv (cp ln ri e tms) b mb ([((ar.mk 0 0),ri.eX)]) mb):=by exact ⟨fun p hp=>hp,sT.start (by show b<e.length; omega),iv.start⟩
   refine tg (ι:={z:FM×FM×(List Nat) // (∀ p∈z.1,p∈mb)∧(sT (cp ln ri e tms) b z.2.1)∧(iv (cp ln ri e tms) b mb z.2.1 z.1)}) (fun z=>z.1.2.2.map jZ) (fun z=>[(0,(vP gw)),(1,(vP W)),(2,(vI (ln.ab.n:Int))),(12,(vP gq)),(171,(vP AS))]) (fun z=>[(w7 dA AS ga (cz iV mb) (cz iV z.1.1) none),(bM (gH lW bs bb 0)),(jV dA A (cz iV z.1.2.1)),(cd gq 3 [(vI (b:Int))]),(bM (z.1.2.2.map j_)),(cd gw 276 (bR.cells (bR.mk ln ri (bE.mk e_A e.length e_C) (bE.mk t_A tms.length t_C) (bE.mk fA (ln.ab.n+1) (ln.ab.n+1)) (bE.mk bA (ln.ab.n+1) (ln.ab.n+1))))).ro,(cd W 265 [(vP gw)]),(rd e_A e.length 1 (e.map iC)).ro,(rd t_A tms.length 1 (List.zipWith fz tms tb)).ro,(eg (aZ pz tms tb)).ro,(own bA (ln.ab.n+1) 280 1 (List.map oC (fY (A::bb) (ln.ab.n+1)))),(bM (aZ lW fs fb)),(own fA (ln.ab.n+1) 280 1 (List.map oC (dE fb (ln.ab.n+1))))]) (fun z=>z.1.1.length) ⟨(mb,[((ar.mk 0 0),ri.eX)],q),C⟩ U (aU U) (aC [0,1,2,3,4,5,6,7,8,9,10,11,12]) ?_
   clear C
   rintro ⟨⟨left,m,V⟩,⟨J,K,L⟩⟩ J80 A8
   try dsimp only at J K L
   try dsimp only
   refine WS fun _ AW=>uu mQ.inj (f:=iV) 0 U U U U (fun A6=>?_) (fun t v hm Aw=>?_)
   ·refine bp 1 U<|RK AW<|ai fun _ CR=>bU U<|bx<|ae<|ae<|ax<|aG<|KK AV<|ai fun _ BR=>WS fun _ BS=>eZ 1 [] (mc 3 U mn) U<|RK BS<|ak<|AL U lX fun A1=>Ha U xN U U<|RK BR<|ak<|rP 2 [] (mc 0 U mn) ?_
    refine Ha U xN U U<|aA<|Ez (C':=[(cd A1 3 [(vI ((b:Int)-1))]),(jV dA ga (cz iV mb)),(bM (gH lW bs bb 0)),(jV dA A (cz iV m)),(cd gq 3 [(vI (b:Int))]),(bM (V.map j_)),(cd gw 276 (bR.cells (bR.mk ln ri (bE.mk e_A e.length e_C) (bE.mk t_A tms.length t_C) (bE.mk fA (ln.ab.n+1) (ln.ab.n+1)) (bE.mk bA (ln.ab.n+1) (ln.ab.n+1))))).ro,(cd W 265 [(vP gw)]),(rd e_A e.length 1 (e.map iC)).ro,(rd t_A tms.length 1 (List.zipWith fz tms tb)).ro,(eg (aZ pz tms tb)).ro,(own bA (ln.ab.n+1) 280 1 (List.map oC (fY (A::bb) (ln.ab.n+1)))),(bM (aZ lW fs fb)),(own fA (ln.ab.n+1) 280 1 (List.map oC (dE fb (ln.ab.n+1))))]) 1 U GL U<|Ep 2 1 N Z U U U ?_
    try dsimp only
    rw [show (b:Int)-1=(ln.ab.n:Int)-(((j+1):Nat):Int) from by omega]
    refine v7 (ms:=bs) (m:=m) (a:=A) 0 2 U U U ?_
    try dsimp only
    refine aS (AT ⟨((j+1),(m::bs),(A::bb),A1,V),⟨I,by simp; omega,by simp; omega,by exact f_.more (b:=b) E I I (by show b<e.length; omega) N K L A6⟩⟩ _ _ _ U os (aU U) (aC [0,1,3,4,5,6,7,8,9,10,11]))
   try dsimp only
   refine bp 1 U<|RK AW<|ai fun _ BT=>aJ U<|WK BT<|av<|WS fun _ BU=>rS (SX (u9 0 U U U) U U)<|bp 2 U<|AL U qk fun A2=>AL U lX fun A3=>qf U pM U<|Ha U xN U U<|RK BU<|WS fun _ BV=>rP 2 [0,1] (mc 8 U (mc 5 U mn)) ?_
   refine cX (rQ gw b) (aR) U fun CM CU=>?_
   obtain ⟨AY,Aa⟩:=CM
   try dsimp only
   refine RK BV<|av<|lR 11 U (by exact fun _ h=>h)<|lR 13 U (by exact fun _ h=>h)<|lR 15 U (by exact fun _ h=>h)<|lR 12 U (by exact fun _ h=>h) ?_
   refine qB (L0:=[(0,(vP gw)),(1,(vP W)),(2,(vI (ln.ab.n:Int))),(12,(vP gq)),(13,(vP A2)),(14,(vP A3)),(171,(vP AS))]) (F:=[(rd e_A e.length 1 (e.map iC)).ro,(rd t_A tms.length 1 (List.zipWith fz tms tb)).ro,(eg (aZ pz tms tb)).ro,(cd gw 276 (bR.cells (bR.mk ln ri (bE.mk e_A e.length e_C) (bE.mk t_A tms.length t_C) (bE.mk fA (ln.ab.n+1) (ln.ab.n+1)) (bE.mk bA (ln.ab.n+1) (ln.ab.n+1))))).ro,(cd AY 265 [(vP gw)]),(cd Aa 3 [(vI (b:Int))])]) (fun k (y:FM)=>(lv (cp ln ri e tms) b mb left y (t,v) k)) (fun k y=>[(cd A3 3 [(vI v)]),(cd A2 282 (ar.cells t)),(w7 dA AS ga (cz iV mb) (cz iV (ep left t)) (some (t,(vI v)))),(bM (gH lW bs bb 0)),(jV dA A (cz iV y)),(cd gq 3 [(vI (b:Int))]),(bM (V.map j_)),(cd gw 276 (bR.cells (bR.mk ln ri (bE.mk e_A e.length e_C) (bE.mk t_A tms.length t_C) (bE.mk fA (ln.ab.n+1) (ln.ab.n+1)) (bE.mk bA (ln.ab.n+1) (ln.ab.n+1))))).ro,(cd W 265 [(vP gw)]),(rd e_A e.length 1 (e.map iC)).ro,(rd t_A tms.length 1 (List.zipWith fz tms tb)).ro,(eg (aZ pz tms tb)).ro,(own bA (ln.ab.n+1) 280 1 (List.map oC (fY (A::bb) (ln.ab.n+1)))),(bM (aZ lW fs fb)),(own fA (ln.ab.n+1) 280 1 (List.map oC (dE fb (ln.ab.n+1))))]) (fun _ (_:Unit)=>False) (fun _ _=>[]) [6,7,8,9,10,11,12,13,14,15,16,17,18,19,20] [3,2,1,0,4,5] m rfl rfl (p5 ln ri e tms e_A e_C tb t_A t_C fA (ln.ab.n+1) (ln.ab.n+1) bA (ln.ab.n+1) (ln.ab.n+1) gw b AY Aa I I) rfl rfl rfl (by exact lv.start K L) (by simp only [List.forall_mem_cons,List.not_mem_nil,false_imp_iff,implies_true,and_true]; exact ⟨⟨_,aI (i:=0) rfl,(dH (bP _))⟩,⟨_,aI (i:=1) rfl,(dH (bP _))⟩,⟨_,aI (i:=2) rfl,(dH (bP _))⟩,⟨_,aI (i:=3) rfl,(dH (bP _))⟩,⟨_,aI (i:=4) rfl,(bP _)⟩,⟨_,aI (i:=5) rfl,(bP _)⟩⟩) (by rintro k x k2 ⟨o,_,rfl,_⟩; rfl) rfl (aU rfl) ?_ ?_ (fun _ _ _ h=>h.elim) (fun _ _ h=>h.elim)
   rotate_left 1
   ·rintro Bx k O AI AN
    have D:=AN
    try dsimp only
    refine aG<|aG<|FE (X:=V.map j_) 13 0 U U ?_
    try dsimp only
    refine oz 9 U yc U ?_
    refine aS (A8 ⟨((ep left t),O,(Bx::V)),⟨kq J,D.on,D.next Aw hm AI⟩⟩ _ _ _ U (ky hm) (aU U) (aC [9,10,11,12,0,4,14,1,2,3,18,19,20]))
   rintro k x k2 O l ra rb S w1 K95 Qr96 CB hx Aq BW Ay CJ CO
   obtain ⟨o,ho,rfl,rfl⟩:=hx
   have D:=Aq
   try dsimp only
   refine WS fun _ BX=>rP 1 [] mn ?_
   refine RK BX<|ak<|AL U cR fun CX=>fg U bS U<|aA<|iy (fun _ _ h=>h) (aC [1,0,2,3,4,5,6,7,8,9,10,11,12,13,14,15,16])<|aS (BW _ _ ?_)
   refine av<|ai fun _ Ac=>dj bX [16,18] [] [] [0,1,2,3,4,5,6,7,8,9,10,11,12,13,14,15,16] [] U U U U U<|eS U (Bo 2 U bQ U)<|eS U (FA 1 U fq U)<|eS U (L1 (vI o.2.Hi) 1 U bQ U U) ?_
   have hp:=E.Oc (b:=b) I N (J _ hm)
   have B5:=Fb hw hp
   have B_:=rj o.1
   have CA:=hw.opt ho
   dsimp only at B5
   refine eS U (MN U)<|eS U (Bo 10 U bQ U)<|eS U (SX (cm U U) U U)<|eS U (FA 10 U fq U)<|eS U (FC (vS e_A e.length e_C) 9 U bQ U U)<|eS U (Bo 7 U bQ U) ?_
   obtain ⟨y,hy⟩:=aB e b I
   have Ax:=br iC hy
   refine eS U (IA b U (aq 11 U) cN dc I I)<|eS U (fE b 0 (vI y) U bQ (aq 11 U) Ax U dc U) ?_
   have B7:=hw.least y (aI hy)
   refine eS U (BI U (pG ⟨I,I⟩))<|eS U (LW 3 U bQ U U)<|eS U (MV U)<|eS U (CL (Gk o.1) (aR) U)<|eS U (CL (th t (ej o.1) I I) (aR) U)<|eS U (AG U)<|dW U<|bV U fun T101 Aj=>AL U qk fun CP=>aA (Aj _ _ (aC [1,2,3,4,5,6,7,8,9,10,11,12,13,14,15,16,17]) ?_)
   refine bV U fun T103 Ak=>fg U pM U<|aA (Ak _ _ (aC [1,2,3,4,5,6,7,8,9,10,11,12,13,14,15,16,17]) ?_)
   refine eU U<|KK Ac<|ai fun _ Ad=>cU bX 14 kr<|lg 1 [] (mc 11 U mn) U<|dS (SX (cm U U) U U)<|dP 3 [0,1] (mr 10 U (mc 8 U mn)) ?_
   have Ar:(List.map oC (fY (A::bb) (ln.ab.n+1)))[b]? =some (oC (some A)):=pC (qz (i:=0) rfl (by simp; omega))
   refine dS (IA b U (au (n:=(ln.ab.n+1)) 15 U sq) l4 dc I I) ?_
   refine dS (fE b 0 (Value.map (some A)) U bQ (au (n:=(fY (A::bb) (ln.ab.n+1)).length) 15 U sm) Ar U dc U)<|lg 1 [] (mc 0 U mn) U<|dS (SX (lI (kV:=dA) (x:=(cP t (ej o.1))) (l:=O) (f:=iV) (z:=0) U U U mZ mQ Pu (by exact aq 7 U)) U U)<|jY 5 U<|cv<|RK Ad<|WS fun _ Y=>eZ 3 [0,1] (mc 3 U (mc 2 U mn)) U<|rS (MN U)<|rP 4 [] (mc 2 U mn) ?_
   refine dY (t:=217) U (aP fun T=>?_) (aO fun T=>?_)
   ·refine rP 8 [] mn ?_
    refine RK Y<|bU U<|cy<|aG ?_
    exact Ay O _ _ (by exact D.skip (Hk T)) (aC [1,3,4,5,6,7,8,9,10,11,12,13,14,15,16,17])
   refine rP 3 [] mn ?_
   refine cr (t:=220) U (fun AM=>?_) (fun AM=>?_)
   ·rw [Bool.not_eq_true'] at AM
    refine bp 5 U<|RK Y<|aJ U<|cU bX 9 kr<|lg 1 [] (mc 11 U mn) U<|dS (SX (cm U U) U U)<|dP 3 [0,1] (mr 10 U (mc 8 U mn)) ?_
    have As:(List.map oC (fY (A::bb) (ln.ab.n+1)))[b]? =some (oC (some A)):=pC (qz (i:=0) rfl (by simp; omega))
    refine dS (IA b U (au (n:=(ln.ab.n+1)) 15 U sq) l4 dc I I) ?_
    refine dS (fE b 0 (Value.map (some A)) U bQ (au (n:=(fY (A::bb) (ln.ab.n+1)).length) 15 U sm) As U dc U)<|dP 2 [] (mc 0 U mn) ?_
    refine cv<|jF (kV:=dA) (x:=(cP t (ej o.1))) (C':=[_,_,_,_,_,_,_,(jV dA A (cz iV (ei O (cP t (ej o.1)) ((min v o.2.Hi)-y)))),_,_,_,_,_,_,_,_,_,_]) 7 U U U U mZ mQ U (gJ _ _ _ _).symm U<|aA<|aG ?_
    exact Ay (ei O (cP t (ej o.1)) ((min v o.2.Hi)-y)) _ _ (by exact D.set (by show b<e.length; omega) hp ho (xD hy T) (.inl (by simpa using AM))) (aC [1,3,4,5,6,7,8,9,10,11,12,13,14,15,16,17])
   rw [Bool.not_eq_false'] at AM
   refine rP 5 [] mn ?_
   refine RK Y<|bH U (aP fun AA=>?_) (aO fun AA=>?_)
   ·refine cy<|aG ?_
    exact Ay O _ _ (by exact D.mG (xD hy T) (by simpa using AM) AA) (aC [1,3,4,5,6,7,8,9,10,11,12,13,14,15,16,17])
   refine cU bX 9 kr<|lg 1 [] (mc 11 U mn) U<|dS (SX (cm U U) U U)<|dP 3 [0,1] (mr 10 U (mc 8 U mn)) ?_
   have At:(List.map oC (fY (A::bb) (ln.ab.n+1)))[b]? =some (oC (some A)):=pC (qz (i:=0) rfl (by simp; omega))
   refine dS (IA b U (au (n:=(ln.ab.n+1)) 15 U sq) l4 dc I I) ?_
   refine dS (fE b 0 (Value.map (some A)) U bQ (au (n:=(fY (A::bb) (ln.ab.n+1)).length) 15 U sm) At U dc U)<|dP 2 [] (mc 0 U mn) ?_
   refine cv<|jF (kV:=dA) (x:=(cP t (ej o.1))) (C':=[_,_,_,_,_,_,_,(jV dA A (cz iV (ei O (cP t (ej o.1)) ((min v o.2.Hi)-y)))),_,_,_,_,_,_,_,_,_,_]) 7 U U U U mZ mQ U (gJ _ _ _ _).symm U<|aA<|aG ?_
   exact Ay (ei O (cP t (ej o.1)) ((min v o.2.Hi)-y)) _ _ (by exact D.set (by show b<e.length; omega) hp ho (xD hy T) (.inr AA)) (aC [1,3,4,5,6,7,8,9,10,11,12,13,14,15,16,17])
  refine dj bX [4,11,12,14] [10] [0,1,2] [0,1,2,3,4,6] [0,1,2,3,4,5,6] U U U U U<|eS U (Bo 1 U bQ U)<|eS U (SX (cm U U) U U)<|eS U (FA 12 U fq U)<|eS U (FC (vS fA (ln.ab.n+1) (ln.ab.n+1)) 0 U bQ U U)<|eS U (SX (bg (xs:=[]) (cs:=(ar.cells (ar.mk 0 0))) U U (bh xZ U)) U U)<|eS U (Bo 1 U bQ U)<|eS U (SX (cm U U) U U)<|eS U (FA 7 U fq U)<|eS U (FA 7 U fq U)<|eS U (FC (vI ri.Start) 0 U bQ U U) ?_
  obtain ⟨x6,CC⟩:=aB (List.replicate (ln.ab.n+1) (none:Option Nat)) 0 I
  have hx7m:(List.map oC (List.replicate (ln.ab.n+1) (none:Option Nat)))[0]? =some (oC x6):=by rw [eG,CC]; rfl
  refine fS U (IA 0 U (au (n:=(ln.ab.n+1)) 5 U sq) l4 dc U I) ?_
  refine dW U<|iB U fun T8 Am=>oY (kV:=dA) U U fun r=>?_
  try dsimp only
  refine aA (Am _ _ (aC [1,2,3,4,5,7]) (aC [1,2,3,4,5,6,7]) ?_)
  refine iB U fun T10 G=>?_
  have Bj:(ei ([]:List (ar×Int)) (ar.mk 0 0) ri.Start)=[((ar.mk 0 0),ri.Start)]:=by rfl
  refine v_ (kV:=dA) (x:=(ar.mk 0 0)) (C':=[(jV dA r (cz iV ([((ar.mk 0 0),ri.Start)]))),_,_,_,_,_,_,_]) 0 U U U U mZ mQ U ((gJ _ _ _ _).symm.trans (congrArg _ Bj)) U<|aA (G _ _ (aC [1,2,3,4,5,7]) (aC [1,2,3,4,5,6,7]) ?_)
  refine iB U fun T12 BY=>rS (MV U)<|aA (BY _ _ (aC [1,2,3,4,5,7]) (aC [1,2,3,4,5,6,7]) ?_)
  refine bV U fun T13 BZ=>?_
  have Bk:((List.replicate (ln.ab.n+1) (none:Option Nat)).set 0 (some r))=(dE [r] (ln.ab.n+1)):=by rw [vX]; exact rr rfl sm
  refine d_ (k:=0) (o:=0) (vs:=[(Value.map (some r))]) (es':=(List.map oC (dE [r] (ln.ab.n+1)))) (C':=[_,_,_,_,_,_,(own fA (ln.ab.n+1) 280 1 (List.map oC (dE [r] (ln.ab.n+1)))),_]) 6 U U U F5 U U U U hx7m U dc (by exact (List.map_set (f:=oC) (l:=(List.replicate (ln.ab.n+1) (none:Option Nat))) (i:=0) (a:=(some r))).symm.trans (congrArg _ Bk)) U<|aA (BZ _ _ (aC [1,2,3,4,5,7]) ?_)
  refine eU U<|Bd<|wq (X:=[]) (X':=aZ lW [[((ar.mk 0 0),ri.Start)]] [r]) 0 1 U U U ?_
  try dsimp only
  refine aS (iy (aU U) (aC [1,2,3,4,5,7,0,6]) (B4 ⟨r,trivial⟩))
 refine kS bX [0,1,2,3,5,6,8,9,11,12] [4,7,10,13] [false,false,false,false,false,false,false,false,false,false] [] [(cd W 265 [(vP gw)]),(rd e_A e.length 1 (e.map iC)).ro,(rd t_A tms.length 1 (List.zipWith fz tms tb)).ro,(eg (aZ pz tms tb)).ro] [] kr (aC [0,2,3,4]) (aC [])<|eS U (Bo 0 U bQ U)<|eS U (Bo 0 U bQ U)<|eS U (MV U)<|eS U (BI U (kK ⟨I,I⟩))<|eS U (MV U)<|eS U (BI U (kK ⟨I,I⟩))<|eS U (SX (cm U U) U U)<|eS U (FA 12 U fq U)<|eS U (SX (cm U U) U U)<|eS U (FA 13 U fq U)<|dW U<|mD [4,7] kr (g_ ?_<|g_ ?_<|pP)
 rotate_left 1
 ·refine NO U U [4,10,13] fun T5 Al=>?_
  refine uI (n:=(ln.ab.n+1)) (es:=(List.map oC (List.replicate (ln.ab.n+1) (none:Option Nat)))) U U U xR I I (by simp only [maxLen]; omega) (by rw [List.map_replicate]; rfl) U fun b6=>?_
  try dsimp only
  refine aA (Al _ _ (aC [1,3,4,5]) ?_)
  refine N1 4<|NO U U [10,13] fun T7 AH=>?_
  refine uI (n:=(ln.ab.n+1)) (es:=(List.map oC (List.replicate (ln.ab.n+1) (none:Option Nat)))) U U U xR I I (by simp only [maxLen]; omega) (by rw [List.map_replicate]; rfl) U fun b8=>?_
  try dsimp only
  refine aA (AH _ _ (aC [2,4,5,6]) ?_)
  refine N1 10<|NO U U [13] fun T9 An=>KB (bR.cells (bR.mk ln ri (bE.mk e_A e.length e_C) (bE.mk t_A tms.length t_C) (bE.mk (some ⟨b8,0,none⟩) (ln.ab.n+1) (ln.ab.n+1)) (bE.mk none 0 0))) U vO U U<|aA (An _ _ (aC [2,4,5,6]) ?_)
  refine N1 13<|NO U U [] fun T10 G=>KB (bR.cells (bR.mk ln ri (bE.mk e_A e.length e_C) (bE.mk t_A tms.length t_C) (bE.mk (some ⟨b8,0,none⟩) (ln.ab.n+1) (ln.ab.n+1)) (bE.mk (some ⟨b6,0,none⟩) (ln.ab.n+1) (ln.ab.n+1)))) U vO U U<|aA (G _ _ (aC [2,4,5,6]) ?_)
  refine mm ?_
  refine aS (iy (aU U) (aC [2,4,5,6,0,1,3]) (Af ⟨((some ⟨b8,0,none⟩),(some ⟨b6,0,none⟩)),trivial⟩))
 refine NO U U [7,10,13] fun T5 Al=>?_
 refine uI (n:=(ln.ab.n+1)) (es:=(List.map oC (List.replicate (ln.ab.n+1) (none:Option Nat)))) U U U xR I I (by simp only [maxLen]; omega) (by rw [List.map_replicate]; rfl) U fun b6=>?_
 try dsimp only
 refine aA (Al _ _ (aC [1,3,4,5]) ?_)
 refine mD [7,10] kr (g_ ?_<|g_ ?_<|pP)
 rotate_left 1
 ·refine NO U U [7,13] fun T7 AH=>Pb (bR.cells (bR.mk ln ri (bE.mk e_A e.length e_C) (bE.mk t_A tms.length t_C) (bE.mk (some ⟨b6,0,none⟩) (ln.ab.n+1) (ln.ab.n+1)) (bE.mk none 0 0))) U vO U U<|aA (AH _ _ (aC [1,3,4,5]) ?_)
  refine N1 7<|NO U U [13] fun T8 Am=>?_
  refine uI (n:=(ln.ab.n+1)) (es:=(List.map oC (List.replicate (ln.ab.n+1) (none:Option Nat)))) U U U xR I I (by simp only [maxLen]; omega) (by rw [List.map_replicate]; rfl) U fun r=>?_
  try dsimp only
  refine aA (Am _ _ (aC [2,4,5,6]) ?_)
  refine N1 13<|NO U U [] fun T10 G=>KB (bR.cells (bR.mk ln ri (bE.mk e_A e.length e_C) (bE.mk t_A tms.length t_C) (bE.mk (some ⟨b6,0,none⟩) (ln.ab.n+1) (ln.ab.n+1)) (bE.mk (some ⟨r,0,none⟩) (ln.ab.n+1) (ln.ab.n+1)))) U vO U U<|aA (G _ _ (aC [2,4,5,6]) ?_)
  refine mm ?_
  refine aS (iy (aU U) (aC [2,4,5,6,1,0,3]) (Af ⟨((some ⟨b6,0,none⟩),(some ⟨r,0,none⟩)),trivial⟩))
 refine NO U U [10,13] fun T7 AH=>?_
 refine uI (n:=(ln.ab.n+1)) (es:=(List.map oC (List.replicate (ln.ab.n+1) (none:Option Nat)))) U U U xR I I (by simp only [maxLen]; omega) (by rw [List.map_replicate]; rfl) U fun b8=>?_
 try dsimp only
 refine aA (AH _ _ (aC [2,4,5,6]) ?_)
 refine N1 10<|NO U U [13] fun T9 An=>KB (bR.cells (bR.mk ln ri (bE.mk e_A e.length e_C) (bE.mk t_A tms.length t_C) (bE.mk (some ⟨b6,0,none⟩) (ln.ab.n+1) (ln.ab.n+1)) (bE.mk none 0 0))) U vO U U<|aA (An _ _ (aC [2,4,5,6]) ?_)
 refine N1 13<|NO U U [] fun T10 G=>KB (bR.cells (bR.mk ln ri (bE.mk e_A e.length e_C) (bE.mk t_A tms.length t_C) (bE.mk (some ⟨b6,0,none⟩) (ln.ab.n+1) (ln.ab.n+1)) (bE.mk (some ⟨b8,0,none⟩) (ln.ab.n+1) (ln.ab.n+1)))) U vO U U<|aA (G _ _ (aC [2,4,5,6]) ?_)
 refine mm ?_
 refine aS (iy (aU U) (aC [2,4,5,6,1,0,3]) (Af ⟨((some ⟨b6,0,none⟩),(some ⟨b8,0,none⟩)),trivial⟩))
end
section
open Go.RowKit
theorem Aa (l:aQ) (kA:OA) (kC:Nat) (az:List RA) (cA:OA) (cC:Nat) (bA:OA) (bC g1:Nat) (bm:Int) (g2:Nat) (hin:dF l az):
 dL Tryz.prog 206 [(vP g1),(vP g2)] [(rd kA l.aH.length 9 (l.aH.map aj.cells)),(rd cA l.ah.length 2 (List.zipWith al.cells l.ah az)),(eg (aZ al.fB l.ah az)),(rd bA l.ab.length 4 (l.ab.map bL.cells)),(cd g1 28 (cb.cells (jI l kA kC cA cC bA bC))),(cd g2 3 [(vI bm)])] (vI (iT l bm)):=by
 have K:=hin.pO
 have J:=hin.pJ
 have H:=hin.mE
 have AA:=hin.pQ
 refine bu kr Tryz.func206 U U fun L Q hQ hN=>?_
 try dsimp only
 refine WS fun _ B=>bp 1 U<|RK B<|ai fun _ C=>WS fun _ D=>rP 5 [0,1] (mr 4 U (mr 5 U mn)) ?_
 refine fw (xs:=[.tmp 7]) (cs:=[(vI bm)]) U cN lX U U U U (by simp [Value.cells]) U U fun G=>?_
 refine rS (CL (dL.eq (gQ 0 ((l.ab.length:Int)-1) ([bm]) (some ⟨G,0,none⟩) 1 (by (simp; done))) cZ) (aL (bj 0 U U (by simp [bW]) U)<|aR) U) ?_
 refine rP 1 [] mn ?_
 refine RK D<|cw U (aW fun A=>?_) (aX fun A=>?_)
 ·refine WS fun _ E=>rP 1 [] mn ?_
  refine RK E<|an<|Q1 hQ U U U ?_
  exact cI (if_neg I).symm
 refine WK C<|WS fun _ F=>rP 1 [] mn ?_
 refine RK F<|an<|Q1 hQ U U U ?_
 exact cI (if_pos I).symm
end
section
open Go.RowKit
theorem H5 (l:aQ) (kA:OA) (kC:Nat) (az:List RA) (cA:OA) (cC:Nat) (bA:OA) (bC:Nat) (r:cf) (sgA:OA) (sgC:Nat) (f:Value) (X:ao) (me:Int) (gm:Nat) (hf:AF Tryz.prog f [] [X] (.int .i64 me)) (hin:dF l az) (hsl:r.ag.length≤1000000):
 pH Tryz.prog 205 [(vA (cb.cells (jI l kA kC cA cC bA bC))),(vA (dZ.cells (j1 r sgA sgC))),(vS (some ⟨gm,0,none⟩) 1 1)] [(rd kA l.aH.length 9 (l.aH.map aj.cells)),(rd cA l.ah.length 2 (List.zipWith al.cells l.ah az)),(eg (aZ al.fB l.ah az)),(rd bA l.ab.length 4 (l.ab.map bL.cells)),(rd sgA r.ag.length 2 (r.ag.map aD.cells)),X,(cd gm 268 [f])] (fun (x:Bool×Int×Nat×(OA)×Nat×(OA)×Nat×(List Nat)×(List FM)×(List Nat)×(OA)×Nat×(List FM)×(List Nat)×(OA)×Nat)=>bif x.1 then (vT [(Value.pointer (some ⟨x.2.2.1,0,none⟩)),(vI 0)]) else (vT [(Value.pointer none),(vI x.2.1)])) (fun (x:Bool×Int×Nat×(OA)×Nat×(OA)×Nat×(List Nat)×(List FM)×(List Nat)×(OA)×Nat×(List FM)×(List Nat)×(OA)×Nat)=>(x.1=true→(dM l r me=0∧uG (bZ l r) x.2.2.2.2.2.2.2.2.1∧rW (bZ l r) x.2.2.2.2.2.2.2.2.2.2.2.2.1∧x.2.2.2.2.2.2.2.2.2.1.length=x.2.2.2.2.2.2.2.2.1.length∧x.2.2.2.2.2.2.2.2.2.2.2.2.2.1.length=x.2.2.2.2.2.2.2.2.2.2.2.2.1.length∧x.2.2.2.2.2.2.2.1.length=(dB l r.ag r.ag.length).length))∧(x.1=false→(x.2.1=dM l r me∧ ¬ dM l r me=0))) (fun (x:Bool×Int×Nat×(OA)×Nat×(OA)×Nat×(List Nat)×(List FM)×(List Nat)×(OA)×Nat×(List FM)×(List Nat)×(OA)×Nat)=>bif x.1 then [(cd x.2.2.1 276 (bR.cells (bR.mk (jI l kA kC cA cC bA bC) (j1 r sgA sgC) (bE.mk x.2.2.2.1 ((cq l l.ab.length).length) x.2.2.2.2.1) (bE.mk x.2.2.2.2.2.1 ((dB l r.ag r.ag.length).length) x.2.2.2.2.2.2.1) (bE.mk x.2.2.2.2.2.2.2.2.2.2.1 x.2.2.2.2.2.2.2.2.1.length x.2.2.2.2.2.2.2.2.2.2.2.1) (bE.mk x.2.2.2.2.2.2.2.2.2.2.2.2.2.2.1 x.2.2.2.2.2.2.2.2.2.2.2.2.1.length x.2.2.2.2.2.2.2.2.2.2.2.2.2.2.2)))),(own x.2.2.2.1 x.2.2.2.2.1 3 1 ((cq l l.ab.length).map iC)),(own x.2.2.2.2.2.1 x.2.2.2.2.2.2.1 86 1 (List.zipWith fz (dB l r.ag r.ag.length) x.2.2.2.2.2.2.2.1)),(bM (aZ pz (dB l r.ag r.ag.length) x.2.2.2.2.2.2.2.1)),(own x.2.2.2.2.2.2.2.2.2.2.1 x.2.2.2.2.2.2.2.2.2.2.2.1 280 1 (List.zipWith fz x.2.2.2.2.2.2.2.2.1 x.2.2.2.2.2.2.2.2.2.1)),(bM (aZ lW x.2.2.2.2.2.2.2.2.1 x.2.2.2.2.2.2.2.2.2.1)),(own x.2.2.2.2.2.2.2.2.2.2.2.2.2.2.1 x.2.2.2.2.2.2.2.2.2.2.2.2.2.2.2 280 1 (List.zipWith fz x.2.2.2.2.2.2.2.2.2.2.2.2.1 x.2.2.2.2.2.2.2.2.2.2.2.2.2.1)),(bM (aZ lW x.2.2.2.2.2.2.2.2.2.2.2.2.1 x.2.2.2.2.2.2.2.2.2.2.2.2.2.1))] else []):=by
 have B6:=hin.pO
 have B4:=hin.pJ
 have B2:=hin.mE
 have B3:=hin.pQ
 have B5:=hin.side
 refine fm kr Tryz.func205 U U fun w0 Q hQ hN=>?_
 try dsimp only
 refine WS fun _ Bc=>eQ U fun b2=>eQ U fun b3=>bp 2 U<|RK Bc<|ai fun _ Bd=>WS fun _ Bf=>eZ 1 [] (mc 1 U mn) U<|rS (CL (yD l kA kC az cA cC bA bC hin) (bf [2,3,4,5]) U)<|bp 1 U<|RK Bf<|WS fun _ Bg=>rP 2 [] mn ?_
 refine RK Bg<|cw U (aW fun j=>?_) (aX fun j=>?_)
 ·refine WS fun _ Bh=>rP 3 [] mn ?_
  refine RK Bh<|an<|LX hQ (false,(cY l),0,none,0,none,0,[],[],[],none,0,[],[],none,0) [] [] mn U (by rfl) U U ?_
  exact rf<|Lj (mg (r:=r) (me:=me) j) j
 refine WK Bd<|ai fun _ Bi=>WS fun _ AC=>?_
 have C:cY l=0:=j
 obtain ⟨BM,d⟩:=fF C
 have Bk:=d.head
 unfold fu at Bk
 refine rP 2 [] (mc 0 U mn) ?_
 refine fw (xs:=[.tmp 24]) (cs:=[(vI r.Start)]) U cN lX U U U U (by simp [Value.cells]) U U fun BS=>?_
 refine rS (CL (dL.eq (gQ 0 86400000 ([r.Start]) (some ⟨BS,0,none⟩) 1 (by (simp; done))) cZ) (aL (bj 0 U U (by simp [bW]) U)<|aR) U) ?_
 refine rP 2 [] mn ?_
 refine cr (t:=28) U (aW fun BW=>?_) (aX fun BW=>?_)
 ·refine bp 14 U<|RK AC<|aJ U<|WS fun _ AO=>rP 2 [] mn ?_
  refine RK AO<|an<|LX hQ (false,51,0,none,0,none,0,[],[],[],none,0,[],[],none,0) [] [] mn U (by rfl) U U ?_
  exact rf<|vv (g3 (me:=me) C (fun q:er l r=>by have q1:=q.time; have q2:=q.len; omega))
 refine rP 4 [] (mc 1 U mn) ?_
 refine fw (xs:=[.tmp 32]) (cs:=[(vI r.eX)]) U cN lX U U U U (by simp [Value.cells]) U U fun BT=>?_
 refine rS (CL (dL.eq (gQ r.Start 86400000 ([r.eX]) (some ⟨BT,0,none⟩) 1 (by (simp; done))) cZ) (aL (bj 0 U U (by simp [bW]) U)<|aR) U) ?_
 refine rP 3 [] mn ?_
 refine cr (t:=37) U (aW fun BY=>?_) (aX fun BY=>?_)
 ·refine bp 5 U<|RK AC<|aJ U<|WS fun _ AP=>rP 2 [] mn ?_
  refine RK AP<|an<|LX hQ (false,51,0,none,0,none,0,[],[],[],none,0,[],[],none,0) [] [] mn U (by rfl) U U ?_
  exact rf<|vv (g3 (me:=me) C (fun q:er l r=>by have q1:=q.time; have q2:=q.len; omega))
 refine rP 5 [] (mc 2 U mn) ?_
 refine RK AC<|cw U (aO fun BZ=>?_) (aP fun BZ=>?_)
 ·refine WS fun _ AQ=>rP 2 [] mn ?_
  refine RK AQ<|an<|LX hQ (false,51,0,none,0,none,0,[],[],[],none,0,[],[],none,0) [] [] mn U (by rfl) U U ?_
  exact rf<|vv (g3 (me:=me) C (fun q:er l r=>by have q1:=q.time; have q2:=q.len; omega))
 refine WK Bi<|WS fun _ AR=>rS (SX (bg (xs:=[(0,.const (vI (-1)))]) (cs:=(aD.cells (aD.mk (-1) 0))) U U (bh Lr U)) U U)<|AL U F7 fun V=>fg U tY U<|RK AR<|ai fun _ AS=>dj bX [5,6,7,8] [] [] [0,1,2,3,4,5,6,7,8,9,10,11] [] U U U U U<|eS U (LW 4 U bQ U U)<|eS U (LW 3 U bQ U U)<|eS U (FA 3 U fq U)<|eS U (L1 (vS bA l.ab.length bC) 4 U bQ U U)<|eS U (LN U MK)<|dW U<|bV U fun T18 Az=>?_
 refine uI (n:=l.ab.length) (es:=(List.map oC (List.replicate l.ab.length (none:Option Nat)))) U U U NF I I (by simp only [maxLen]; omega) (by rw [List.map_replicate]; rfl) U fun B=>?_
 try dsimp only
 refine aA (Az _ _ (aC [1,2,3,4,5,6,7,8,9,10,11,12]) ?_)
 refine bV U fun T20 A0=>rS (SX (bg (xs:=[(0,.tmp 44),(1,.tmp 45),(3,.tmp 49)]) (cs:=(bR.cells (bR.mk (jI l kA kC cA cC bA bC) (j1 r sgA sgC) (bE.mk none 0 0) (bE.mk (some ⟨B,0,none⟩) l.ab.length l.ab.length) (bE.mk none 0 0) (bE.mk none 0 0)))) U U (bh Mi U)) U U)<|aA (A0 _ _ (aC [1,2,3,4,5,6,7,8,9,10,11,12]) ?_)
 refine bV U fun T21 A1=>eQ U fun Bx=>aA (A1 _ _ (aC [2,3,4,5,6,7,8,9,10,11,12,13]) ?_)
 refine bV U fun T23 A2=>rS (AG U)<|aA (A2 _ _ (aC [2,3,4,5,6,7,8,9,10,11,12,13]) ?_)
 refine eU U<|KK AS<|ai fun _ AT=>WS fun _ AU=>rP 4 [] (mc 6 U mn) ?_
 refine RK AU<|av ?_
 rw [vX]
 refine fT 3 1<|nU ?_
 have E:(0≤l.ab.length)∧(([]:List Nat).length=0):=by exact ⟨Nat.zero_le _,rfl⟩
 refine bI (ι:={z:Nat×(OA)×Nat×(List Nat) // (z.1≤l.ab.length)∧(z.2.2.2.length=z.1)}) [2,3,4,6,7,9,10,54] [4,7,8,9,10,11,12,13,14,15] U U (fun z=>[(55,(vI (z.1.1:Int)))]) (fun z=>[(bM (aZ pz (List.replicate z.1.1 ([]:TM)) z.1.2.2.2)),(own z.1.2.1 z.1.2.2.1 3 1 ((cq l z.1.1).map iC)),(cd Bx 276 (bR.cells (bR.mk (jI l kA kC cA cC bA bC) (j1 r sgA sgC) (bE.mk z.1.2.1 ((cq l z.1.1).length) z.1.2.2.1) (bE.mk (some ⟨B,0,none⟩) l.ab.length l.ab.length) (bE.mk none 0 0) (bE.mk none 0 0)))),(own (some ⟨B,0,none⟩) l.ab.length 86 1 (List.map oC (dE z.1.2.2.2 l.ab.length)))]) (fun _=>rfl) (fun _=>rfl) (fun z=>l.ab.length-z.1.1) ⟨(0,none,0,([]:List Nat)),E⟩ (aU U) (aC [4,7,8,9,10,11,12,13,14,15,0,1,2,3]) ?_
 clear E
 rintro ⟨⟨b,a,c,fb⟩,⟨AD,Y⟩⟩ J26 AN
 try dsimp only at AD Y
 try dsimp only
 have Bl:(dE fb l.ab.length).length=l.ab.length:=pd I
 refine WS fun _ AV=>rP 1 [] mn ?_
 refine RK AV<|ai fun _ AW=>cw U (aO fun BX=>?_) (aP fun BX=>?_)
 ·refine WK AW<|ai fun _ AX=>av<|WS fun _ AY=>rP 2 [] mn ?_
  refine RK AY<|ai fun _ AZ=>dj bX [12,13,16] [4] [0] [0,1,2,3,4,5,6,7,8,9,10,13] [0,1,2,3,4,5,6,7,8,9,10,11,12,13] U U U U U<|eS U (MV U)<|eS U (MV U)<|eS U (SX (cm U U) U U)<|eS U (FA 10 U fq U)<|fS U (L1 (vS a ((cq l b).length) c) 12 U bQ U U)<|eS U (LW 2 U bQ U U)<|eS U (MV U)<|eS U (CL (Jk l kA kC az cA cC bA bC (b:Int) hin asm (by exact d.sQ) I) (bf [3,4,5,6]) U) ?_
  have B7:=Bt BM d.sQ b
  have B8:=d.Ln b I
  simp only [Int.toNat_natCast]
  refine eS U (BI U (Cb ⟨I,I⟩))<|eS U (FA 1 U fq U)<|eS U (L1 (vI l.gY) 2 U bQ U U) ?_
  refine eS U (CL (I5 (1000*(kZ l (b:Int).toNat)) l.gY I (by (simp; omega))) (aR) U) ?_
  refine eS U (SX (cm U U) U U)<|eS U (FA 10 U fq U)<|dW U<|iB U fun T33 A3=>fw (xs:=[.tmp 69]) (cs:=[(vI (nv (1000*(kZ l (b:Int).toNat)) l.gY))]) U cN lX U U U U (by simp [Value.cells]) U U fun By=>aA (A3 _ _ (aC [1,2,3,4,5,6,7,8,9,10,11,14]) (aC [1,2,3,4,5,6,7,8,9,10,11,12,13,14]) ?_)
  refine bV U fun T35 A4=>?_
  refine cG (es2:=(List.map iC (cq l (b+1)))) (m':=(cq l (b+1)).length) 12 U U U l0 U U (by simp [dx]) (bj (es:=List.map iC [(nv (1000*(kZ l (b:Int).toNat)) l.gY)]) 0 U U (by simp [bW]) U) (gL _) (by have:=dx (l:=l) (n:=b); first|omega|(simp; omega)) (by simp only [maxLen,dx]; omega) (by rw [se]; simp [dp]) (by simp [dx]) U fun e g=>?_
  try dsimp only
  refine aA (A4 _ _ (aC [1,2,3,4,5,6,7,8,9,10,11,14]) ?_)
  refine bV U fun T38 A5=>hO (vs:=[(vS e ((cq l (b+1)).length) g)]) (cs':=(bR.cells (bR.mk (jI l kA kC cA cC bA bC) (j1 r sgA sgC) (bE.mk e ((cq l (b+1)).length) g) (bE.mk (some ⟨B,0,none⟩) l.ab.length l.ab.length) (bE.mk none 0 0) (bE.mk none 0 0)))) (C':=[_,_,_,_,_,_,_,_,_,_,_,_,_,(cd Bx 276 (bR.cells (bR.mk (jI l kA kC cA cC bA bC) (j1 r sgA sgC) (bE.mk e ((cq l (b+1)).length) g) (bE.mk (some ⟨B,0,none⟩) l.ab.length l.ab.length) (bE.mk none 0 0) (bE.mk none 0 0)))),_]) 13 U U U FW U U U U U U U<|aA (A5 _ _ (aC [1,2,3,4,5,6,7,8,9,10,11,14]) ?_)
  refine eU U<|KK AZ<|ak<|bp 1 U<|rS (SX (cm U U) U U)<|rP 3 [] (mc 13 U mn) ?_
  refine oY (kV:=iV) U U fun J=>?_
  try dsimp only
  obtain ⟨Bp,BO⟩:=aB (dE fb l.ab.length) b I
  have hx41m:(List.map oC (dE fb l.ab.length))[b]? =some (oC Bp):=by rw [eG,BO]; rfl
  refine rS (IA b U (au (n:=l.ab.length) 15 U sq) Cl dc I I) ?_
  have A6:((dE fb l.ab.length).set b (some J))=(dE (fb++[J]) l.ab.length):=by exact rr I I
  refine d_ (k:=b) (o:=0) (vs:=[(Value.map (some J))]) (es':=(List.map oC (dE (fb++[J]) l.ab.length))) (C':=[_,_,_,_,_,_,_,_,_,_,_,_,_,_,_,(own (some ⟨B,0,none⟩) l.ab.length 86 1 (List.map oC (dE (fb++[J]) l.ab.length)))]) 15 U U U Hr U U U U hx41m U dc (by exact (List.map_set (f:=oC) (l:=(dE fb l.ab.length)) (i:=b) (a:=(some J))).symm.trans (congrArg _ A6)) U<|aA<|aG<|KK AX<|ak<|rP 2 [] mn ?_
  refine aA<|wq (X':=aZ pz (List.replicate (b+1) ([]:TM)) (fb++[J])) 12 0 U U (IK Y) ?_
  try dsimp only
  have A7:(vI (((b+1):Nat):Int))=(vI ((b:Int)+1)):=by exact cI I
  refine aS (AN ⟨((b+1),e,g,(fb++[J])),⟨I,by simp; omega⟩⟩ _ _ _ U os (cE 8<|aV U A7<|cS.nil _) (aC [2,3,4,5,6,7,8,9,10,11,0,12,13,14]))
 refine bx<|ae<|ae<|ax<|KK AT<|ai fun _ Aa=>WS fun _ Ab=>rP 4 [] (mc 1 U mn) ?_
 refine RK Ab<|av ?_
 rw [show (List.replicate b ([]:TM))=dB l r.ag 0 from by rw [Be,show b=l.ab.length by omega]]
 rw [show cq l b=cq l l.ab.length from by rw [show b=l.ab.length by omega]]
 have E:(0≤r.ag.length)∧(oP l r.ag 0):=by exact ⟨Nat.zero_le _,wv⟩
 refine bI (ι:={z:Nat // (z≤r.ag.length)∧(oP l r.ag z)}) [2,3,4,6,7,9,10,83,84] [1,2,3,4,5,6,7,8,9,11,12,13] U U (fun z=>[(85,(vI (z.1:Int)))]) (fun z=>[(cd V 165 (aD.cells (nq r.ag z.1))),(bM (aZ pz (dB l r.ag z.1) fb))]) (fun _=>rfl) (fun _=>rfl) (fun z=>r.ag.length-z.1) ⟨0,E⟩ (aU U) (aC [1,2,3,4,5,6,7,8,9,11,12,13,0,10]) ?_
 clear E
 rintro ⟨i,⟨BR,A⟩⟩ J46 T
 try dsimp only
 have Bm:(dB l r.ag i).length=l.ab.length:=hE
 have Bl:(dE fb l.ab.length).length=l.ab.length:=pd I
 refine WS fun _ Ac=>rP 1 [] mn ?_
 refine RK Ac<|ai fun _ Ad=>bH U (aP fun Ba=>?_) (aO fun Ba=>?_)
 ·refine bx<|ae<|ae<|ax<|KK Aa<|ai fun _ An=>ai fun _ Ao=>?_
  have p:er l r:=yj I I A I
  refine ak<|bp 3 U<|RK Ao<|av<|ly 2<|g7 fun R81 Ay=>WS fun _ Ap=>rS (SX (dG (r:= .bool true) U U U lq) U U)<|RK Ap<|ai fun _ Aq=>aJ U<|WK Aq<|ai fun _ Ar=>av<|WS fun _ As=>rS (Pt 0 0 U Jf U dc U)<|eZ 2 [] (mr 8 U mn) U<|RK As<|WS fun _ At=>bp 1 U<|rS (SX (pV U U U (hf) (bf [7])) U U)<|bp 1 U<|RK At<|WS fun _ Au=>rP 2 [] mn ?_
  refine RK Au<|cw U (aW fun K=>?_) (aX fun K=>?_)
  ·refine WS fun _ Av=>rP 3 [] mn ?_
   refine RK Av<|an<|LX hQ (false,me,0,none,0,none,0,[],[],[],none,0,[],[],none,0) [] [] mn U (by rfl) U U ?_
   exact rf<|Lj (oM C p K) K
  refine cy<|aG<|KK Ar<|ak<|rS (SX (dG (r:= .int .i64 1) U U U (kK ⟨dc,dc⟩)) U U)<|rP 1 [] mn ?_
  refine RK Ay<|g7 fun R89 Bu=>WS fun _ Aw=>rS (SX (dG (r:= .bool false) U U U lq) U U)<|RK Aw<|ai fun _ Bs=>bU U<|bx<|ae<|ae<|ax<|KK An<|ai fun _ Ax=>?_
  rw [show dB l r.ag i=dB l r.ag r.ag.length from by rw [show i=r.ag.length by omega]]
  have AH:(dB l r.ag r.ag.length).length=l.ab.length:=hE
  rw [show (List.map oC (dE fb l.ab.length))=(List.zipWith fz (dB l r.ag r.ag.length) fb) from Og I AH]
  rw [show (cd Bx 276 (bR.cells (bR.mk (jI l kA kC cA cC bA bC) (j1 r sgA sgC) (bE.mk a ((cq l l.ab.length).length) c) (bE.mk (some ⟨B,0,none⟩) l.ab.length l.ab.length) (bE.mk none 0 0) (bE.mk none 0 0))))=(cd Bx 276 (bR.cells (bR.mk (jI l kA kC cA cC bA bC) (j1 r sgA sgC) (bE.mk a ((cq l l.ab.length).length) c) (bE.mk (some ⟨B,0,none⟩) ((dB l r.ag r.ag.length).length) l.ab.length) (bE.mk none 0 0) (bE.mk none 0 0)))) from by rw [AH]]
  have BN:=m7 BM d p
  have Bv:(cq l l.ab.length).length=l.ab.length:=dx
  refine ak<|rP 1 [] mn ?_
  refine js 10 U U U U (FT (jI l kA kC cA cC bA bC) (j1 r sgA sgC) (cq l l.ab.length) (dB l r.ag r.ag.length) a c fb (some ⟨B,0,none⟩) l.ab.length Bx (by exact BN) (by exact dx.symm) (by rw [AH]; omega)) U (du 9 U U (iY sm) (du 11 U U (iY (by rw [List.length_zipWith]; omega)) (du 13 U U qw kE))) U (fun BP Bj=>?_)
  obtain ⟨G,S,P,R,F,O,N,H⟩:=BP
  refine Hn (X:=[(cd Bx 276 (bR.cells (bR.mk (jI l kA kC cA cC bA bC) (j1 r sgA sgC) (bE.mk a ((cq l l.ab.length).length) c) (bE.mk (some ⟨B,0,none⟩) ((dB l r.ag r.ag.length).length) l.ab.length) (bE.mk P G.length R) (bE.mk N F.length H)))),(own P R 280 1 (List.zipWith fz G S)),(bM (aZ lW G S)),(own N H 280 1 (List.zipWith fz F O)),(bM (aZ lW F O))]) 10 U U ?_
  try dsimp only
  obtain ⟨AE,BJ,BK,BL⟩:=Bj
  dsimp only at AE BJ BK BL
  refine RK Ax<|ai fun _ w=>WS fun _ y=>rP 1 [] mn ?_
  refine cX (DC (jI l kA kC cA cC bA bC) (j1 r sgA sgC) (cq l l.ab.length) (dB l r.ag r.ag.length) a c fb (some ⟨B,0,none⟩) l.ab.length G F S P R O N H Bx (by exact BN) (by (simp; omega)) (by exact dx.symm) (by exact AE) asm) (aL (au (n:=(cq l l.ab.length).length) 14 U sm)<|aL (au (n:=(dB l r.ag r.ag.length).length) 15 U (by rw [List.length_zipWith]; omega))<|aL (eY 17 U uc)<|aL (au (n:=G.length) 1 U (by rw [List.length_zipWith]; omega))<|aL (eY 2 U uc)<|aL (au (n:=F.length) 3 U (by rw [List.length_zipWith]; omega))<|aL (eY 4 U uc)<|fM 0 U U<|aR) U fun BQ Bo=>?_
  obtain ⟨Bq,Br⟩:=BQ
  try dsimp only
  refine rP 2 [] mn ?_
  refine RK y<|bH U (aP fun W=>?_) (aO fun W=>?_)
  ·refine WK w<|WS fun _ AB=>rP 3 [] mn ?_
   refine RK AB<|an ?_
   refine LX hQ (true,0,Bx,a,c,(some ⟨B,0,none⟩),l.ab.length,fb,G,S,P,R,F,O,N,H) [1,15,16,18,2,3,4,5] [] mn U (by (show List.all _ _=true; simp only [cond_true,iD,List.all_nil,Gz,MR,Bool.and_true]; rfl)) U U ?_
   exact ⟨fun _=>⟨lj C p (by first|rfl|exact K) (fun q=>W (congrArg (fun z:List Int=>(z.length:Int)) q)),AE,BJ,BK,BL,dso⟩,Lm⟩
  refine WS fun _ AA=>rP 2 [] mn ?_
  refine RK AA<|an<|LX hQ (false,8,0,none,0,none,0,[],[],[],none,0,[],[],none,0) [] [] mn U (by rfl) U U ?_
  exact rf<|vv (nN (me:=me) C p (by first|rfl|exact K) (show iI (bZ l r)=[] from iz (Int.natCast_eq_zero.1 W)))
 refine WK Ad<|ai fun _ Bw=>av<|WS fun _ Ae=>rP 1 [] mn ?_
 obtain ⟨x,hx⟩:=aB r.ag i I
 have Bn:=br aD.cells hx
 refine rS (IA i U (aq 6 U) vy dc I I)<|rS (j0 i 0 (aD.cells x) U bQ (aq 6 U) Bn U dc U U)<|AL U F7 fun Bz=>bp 1 U<|fg U tY U<|RK Ae<|ai fun _ s=>WS fun _ L=>rP 6 [0,1] (mc 2 U (mc 0 U mn)) ?_
 refine fw (xs:=[.tmp 95]) (cs:=[(vI x.e7)]) U cN lX U U U U (by simp [Value.cells]) U U fun BU=>?_
 refine rS (CL (dL.eq (gQ 0 ((l.ab.length:Int)-1) ([x.e7]) (some ⟨BU,0,none⟩) 1 (by (simp; done))) cZ) (aL (bj 0 U U (by simp [bW]) U)<|aR) U) ?_
 refine rP 2 [] mn ?_
 refine cr (t:=99) U (aW fun Bb=>?_) (aX fun Bb=>?_)
 ·refine bp 27 U<|RK L<|aJ U<|WS fun _ Af=>rP 2 [] mn ?_
  refine RK Af<|an<|LX hQ (false,51,0,none,0,none,0,[],[],[],none,0,[],[],none,0) [] [] mn U (by rfl) U U ?_
  exact rf<|vv (g3 (me:=me) C (tn hx (by unfold jS kN; omega)))
 refine rP 2 [] (mc 1 U mn) ?_
 refine fw (xs:=[.tmp 101]) (cs:=[(vI x.Read)]) U cN lX U U U U (by simp [Value.cells]) U U fun BV=>?_
 refine rS (CL (dL.eq (gQ 0 86400000 ([x.Read]) (some ⟨BV,0,none⟩) 1 (by (simp; done))) cZ) (aL (bj 0 U U (by simp [bW]) U)<|aR) U) ?_
 refine rP 3 [] mn ?_
 refine cr (t:=106) U (aW fun AI=>?_) (aX fun AI=>?_)
 ·refine bp 20 U<|RK L<|aJ U<|WS fun _ Ag=>rP 2 [] mn ?_
  refine RK Ag<|an<|LX hQ (false,51,0,none,0,none,0,[],[],[],none,0,[],[],none,0) [] [] mn U (by rfl) U U ?_
  exact rf<|vv (g3 (me:=me) C (tn hx (by unfold jS kN; omega)))
 refine rP 7 [0,1] (mc 2 U (mc 15 U mn)) ?_
 refine cr (t:=113) U (aO fun AJ=>?_) (aP fun AJ=>?_)
 ·refine bp 13 U<|RK L<|aJ U<|WS fun _ Ah=>rP 2 [] mn ?_
  refine RK Ah<|an<|LX hQ (false,51,0,none,0,none,0,[],[],[],none,0,[],[],none,0) [] [] mn U (by rfl) U U ?_
  exact rf<|vv (g3 (me:=me) C (tn hx (by unfold jS kN; omega)))
 refine rP 6 [0,1] (mc 2 U (mc 15 U mn)) ?_
 refine dY (t:=119) U (aP fun AK=>?_) (aO fun AK=>?_)
 ·refine bp 7 U<|RK L<|bU U<|WK s<|ai fun _ v=>WS fun _ Al=>eZ 2 [0,1] (mc 4 U (mc 2 U mn)) U<|rS (CL (FB l kA kC az cA cC bA bC x hin asm I) (bf [5,6,7,8]) U)<|AL U cR fun B1=>fg U bS U<|RK Al<|WS fun _ Am=>rP 5 [] (mc 0 U mn) ?_
  refine RK Am<|bH U (aP fun D=>?_) (aO fun D=>?_)
  ·refine WK v<|ak<|rP 1 [] (mc 3 U mn) ?_
   refine hO (vs:=(aD.cells x)) (cs':=(aD.cells x)) (C':=[_,_,_,_,_,_,_,_,_,_,_,_,_,_,_,_,(cd V 165 (aD.cells x)),_]) 16 U U U tY U U U U U U U<|aA<|aG<|KK Bw ?_
   have BE:(aD.cells x)=(aD.cells (nq r.ag (i+1))):=by rw [nx hx]
   rw [BE]
   refine ak<|rP 2 [] mn ?_
   refine aA ?_
   rw [show (dB l r.ag i)=(dB l r.ag (i+1)) from (tU hx D).symm]
   have BF:(vI (((i+1):Nat):Int))=(vI ((i:Int)+1)):=by exact cI I
   refine aS (T ⟨(i+1),⟨I,j6 A hx (by unfold jS kN; omega)⟩⟩ _ _ _ U os (cE 9<|aV U BF<|cS.nil _) (aC [4,5,6,7,8,9,10,11,12,13,14,15,16,17]))
  obtain ⟨mb,Z⟩:=aB (dB l r.ag i) ((x.e7).toNat) I
  obtain ⟨ga,M⟩:=aB fb ((x.e7).toNat) I
  refine BC 17 Z M U U U ?_
  try dsimp only
  refine cU bX 10 kr<|jY 1 U<|dS (SX (cm U U) U U)<|dP 4 [0,1] (mc 16 U (mc 5 U mn)) ?_
  have BH:(List.map oC (dE fb l.ab.length))[(x.e7).toNat]? =some (oC (some ga)):=pC (mV M)
  refine dS (IA ((x.e7).toNat) U (au (n:=l.ab.length) 17 U sq) Cl dc I I) ?_
  refine dS (fE ((x.e7).toNat) 0 (Value.map (some ga)) U bQ (au (n:=(dE fb l.ab.length).length) 17 U sm) BH U dc U)<|lg 2 [] (mc 2 U mn) U<|cv<|jF (kV:=iV) (x:=(i:Int)) (C':=[(jV iV ga (cz gE (ei mb (i:Int) (cD l x)))),_,_,_,_,_,_,_,_,_,_,_,_,_,_,_,_,_,_]) 0 U U U U sZ (h_ p_) U (gJ _ _ _ _).symm U<|RK v<|ak<|rP 1 [] (mc 5 U mn) ?_
  refine hO (vs:=(aD.cells x)) (cs':=(aD.cells x)) (C':=[_,_,_,_,_,_,_,_,_,_,_,_,_,_,_,_,_,_,(cd V 165 (aD.cells x))]) 18 U U U tY U U U U U U U<|aA<|aG<|KK Bw ?_
  have BB:(aD.cells x)=(aD.cells (nq r.ag (i+1))):=by rw [nx hx]
  rw [BB]
  refine ak<|rP 2 [] mn ?_
  refine aA ?_
  refine Fj (f:=pz) (ms:=(dB l r.ag i)) (m:=(ei mb (i:Int) (cD l x))) 1 0 (by rw [hE]; omega) M U U U ?_
  rw [vM hx I D Z]
  have BD:(vI (((i+1):Nat):Int))=(vI ((i:Int)+1)):=by exact cI I
  refine aS (T ⟨(i+1),⟨I,j6 A hx (by unfold jS kN; omega)⟩⟩ _ _ _ U os (cE 9<|aV U BD<|cS.nil _) (aC [5,6,7,8,9,10,11,12,13,14,15,16,17,0]))
 refine rP 7 [0,1] (mc 2 U (mc 15 U mn)) ?_
 refine RK L<|cw U (aO fun AM=>?_) (aP fun AM=>?_)
 ·refine WS fun _ Ai=>rP 2 [] mn ?_
  refine RK Ai<|an<|LX hQ (false,51,0,none,0,none,0,[],[],[],none,0,[],[],none,0) [] [] mn U (by rfl) U U ?_
  exact rf<|vv (g3 (me:=me) C (tn hx (by unfold jS kN; omega)))
 refine WK s<|ai fun _ u=>WS fun _ Aj=>eZ 2 [0,1] (mc 4 U (mc 2 U mn)) U<|rS (CL (FB l kA kC az cA cC bA bC x hin asm I) (bf [5,6,7,8]) U)<|AL U cR fun B0=>fg U bS U<|RK Aj<|WS fun _ Ak=>rP 5 [] (mc 0 U mn) ?_
 refine RK Ak<|bH U (aP fun D=>?_) (aO fun D=>?_)
 ·refine WK u<|ak<|rP 1 [] (mc 3 U mn) ?_
  refine hO (vs:=(aD.cells x)) (cs':=(aD.cells x)) (C':=[_,_,_,_,_,_,_,_,_,_,_,_,_,_,_,_,(cd V 165 (aD.cells x)),_]) 16 U U U tY U U U U U U U<|aA<|aG<|KK Bw ?_
  have A_:(aD.cells x)=(aD.cells (nq r.ag (i+1))):=by rw [nx hx]
  rw [A_]
  refine ak<|rP 2 [] mn ?_
  refine aA ?_
  rw [show (dB l r.ag i)=(dB l r.ag (i+1)) from (tU hx D).symm]
  have BA:(vI (((i+1):Nat):Int))=(vI ((i:Int)+1)):=by exact cI I
  refine aS (T ⟨(i+1),⟨I,j6 A hx (by unfold jS kN; omega)⟩⟩ _ _ _ U os (cE 9<|aV U BA<|cS.nil _) (aC [4,5,6,7,8,9,10,11,12,13,14,15,16,17]))
 obtain ⟨mb,Z⟩:=aB (dB l r.ag i) ((x.e7).toNat) I
 obtain ⟨ga,M⟩:=aB fb ((x.e7).toNat) I
 refine BC 17 Z M U U U ?_
 try dsimp only
 refine cU bX 10 kr<|jY 1 U<|dS (SX (cm U U) U U)<|dP 4 [0,1] (mc 16 U (mc 5 U mn)) ?_
 have BG:(List.map oC (dE fb l.ab.length))[(x.e7).toNat]? =some (oC (some ga)):=pC (mV M)
 refine dS (IA ((x.e7).toNat) U (au (n:=l.ab.length) 17 U sq) Cl dc I I) ?_
 refine dS (fE ((x.e7).toNat) 0 (Value.map (some ga)) U bQ (au (n:=(dE fb l.ab.length).length) 17 U sm) BG U dc U)<|lg 2 [] (mc 2 U mn) U<|cv<|jF (kV:=iV) (x:=(i:Int)) (C':=[(jV iV ga (cz gE (ei mb (i:Int) (cD l x)))),_,_,_,_,_,_,_,_,_,_,_,_,_,_,_,_,_,_]) 0 U U U U sZ (h_ p_) U (gJ _ _ _ _).symm U<|RK u<|ak<|rP 1 [] (mc 5 U mn) ?_
 refine hO (vs:=(aD.cells x)) (cs':=(aD.cells x)) (C':=[_,_,_,_,_,_,_,_,_,_,_,_,_,_,_,_,_,_,(cd V 165 (aD.cells x))]) 18 U U U tY U U U U U U U<|aA<|aG<|KK Bw ?_
 have A8:(aD.cells x)=(aD.cells (nq r.ag (i+1))):=by rw [nx hx]
 rw [A8]
 refine ak<|rP 2 [] mn ?_
 refine aA ?_
 refine Fj (f:=pz) (ms:=(dB l r.ag i)) (m:=(ei mb (i:Int) (cD l x))) 1 0 (by rw [hE]; omega) M U U U ?_
 rw [vM hx I D Z]
 have A9:(vI (((i+1):Nat):Int))=(vI ((i:Int)+1)):=by exact cI I
 refine aS (T ⟨(i+1),⟨I,j6 A hx (by unfold jS kN; omega)⟩⟩ _ _ _ U os (cE 9<|aV U A9<|cS.nil _) (aC [5,6,7,8,9,10,11,12,13,14,15,16,17,0]))
end
section
open Go.RowKit
theorem FH (l:aQ) (kA:OA) (kC:Nat) (az:List RA) (cA:OA) (cC:Nat) (bA:OA) (bC:Nat) (r:cf) (sgA:OA) (sgC:Nat) (bq_:Int) (hin:dF l az) (hsl:r.ag.length≤1000000):
 dL Tryz.prog 204 [(vA (cb.cells (jI l kA kC cA cC bA bC))),(vA (dZ.cells (j1 r sgA sgC))),(vI bq_)] [(rd kA l.aH.length 9 (l.aH.map aj.cells)),(rd cA l.ah.length 2 (List.zipWith al.cells l.ah az)),(eg (aZ al.fB l.ah az)),(rd bA l.ab.length 4 (l.ab.map bL.cells)),(rd sgA r.ag.length 2 (r.ag.map aD.cells))] (vT [(vA (aa.cells (eD l r bq_))),(vI (ek l r bq_))]):=by
 have A3:=hin.pO
 have Aw:=hin.pJ
 have Ar:=hin.mE
 have Au:=hin.pQ
 have A1:=hin.side
 refine bu kr Tryz.func204 U U fun w0 Q hQ hN=>?_
 try dsimp only
 refine WS fun _ AF=>eQ U fun b2=>eQ U fun b3=>xp U U fun b4=>AL U cR fun b5=>bp 1 U<|RK AF<|WS fun _ p=>rP 2 [0,1] (mc 3 U (mc 2 U mn)) ?_
 refine rS (FU U)<|fw (xs:=[.tmp 17]) (cs:=[(Value.func (.func 206) [].toArray [(vP b2),(vP b4)].toArray)]) U Jf LB U U U U (by simp [Value.cells]) U U fun b7=>cX (H5 l kA kC az cA cC bA bC r sgA sgC (Value.func (.func 206) [].toArray [(vP b2),(vP b4)].toArray) (eg [(rd kA l.aH.length 9 (l.aH.map aj.cells)),(rd cA l.ah.length 2 (List.zipWith al.cells l.ah az)),(eg (aZ al.fB l.ah az)),(rd bA l.ab.length 4 (l.ab.map bL.cells)),(cd b2 28 (cb.cells (jI l kA kC cA cC bA bC))),(cd b4 3 [(vI bq_)])]) (iT l bq_) b7 (by exact mB (fi:=[]) (ca:=[(vP b2),(vP b4)]) (kU (Aa l kA kC az cA cC bA bC b2 bq_ b4 (by first|assumption|omega)) (bf [0,1,2,3,4,5]))) hin hsl) (kF [5,6,7,8,9]<|aL (kR (bf [5,6,7,8,4,2]))<|fM 0 U U<|aR) U fun y8 AW=>?_
 obtain ⟨AX,Am,E,H,AD,g,j,m,B,L,J,K,A,G,d,f⟩:=y8
 cases AX
 ·obtain ⟨AS,he⟩:=AW.2 rfl
  try dsimp only at AS he
  subst AS
  try dsimp only [cond_true,cond_false,List.cons_append,List.nil_append]
  refine bp 5 U<|RK p<|ai fun _ An=>WS fun _ AO=>rP 2 [] mn ?_
  refine RK AO<|bH U (aX fun AN=>?_) (aW fun AN=>?_)
  ·exact absurd AN he
  refine WS fun _ AP=>rS (SX (bg (xs:=[]) (cs:=(aa.cells (aa.mk 0 0))) U U (bh eM U)) U U)<|bp 1 U<|qf U bS U<|rP 1 [] mn ?_
  refine RK AP<|an<|ja hQ [0] (mc 1 U mn) U ?_
  (have e:=lF (b:=bq_) he; rw [e.1,e.2]<;>rfl)
 obtain ⟨he,D,C,Ac,Ab,Af⟩:=AW.1 rfl
 try dsimp only [cond_true,cond_false,List.cons_append,List.nil_append]
 dsimp only at D C Ac Ab Af
 obtain ⟨AZ,AJ,Ae,Ay⟩:=iL he
 obtain ⟨Ag,AU⟩:=fF AZ
 have Ad:=AU.head
 unfold fu at Ad
 have Ah:=m7 Ag AU AJ
 have A0:=AJ.time
 have Az:=AJ.len
 have AT:(cq l l.ab.length).length=l.ab.length:=dx
 have AV:(dB l r.ag r.ag.length).length=l.ab.length:=hE
 have Ax:B.length=l.ab.length+1:=by have:=D.len; rw [show (bZ l r).n=l.ab.length from dx] at this; exact this
 have Av:A.length=l.ab.length+1:=by have:=C.len; rw [show (bZ l r).n=l.ab.length from dx] at this; exact this
 obtain ⟨As,At⟩:=Bk Ae
 obtain ⟨b,AG⟩: ∃ b:Nat,bq_=(b:Int):=⟨bq_.toNat,I⟩
 rw [AG]
 refine bp 5 U<|RK p<|ai fun _ N=>WS fun _ O=>bp 1 U<|rS (SX (dG (r:= .bool false) U U U pN) U U)<|RK O<|bU U<|WK N<|WS fun _ P=>rS (SX (bg (xs:=[(0,.const (vI 1))]) (cs:=(aa.cells (aa.mk 1 0))) U U (bh eM U)) U U)<|AL U cR fun AK=>fg U bS U<|RK P<|WS fun _ R=>eZ 1 [] (mc 0 U mn) U<|AL U cR fun AM=>fg U bS U<|RK R<|ai fun _ T=>WS fun _ AC=>rP 2 [] (mc 12 U mn) ?_
 obtain ⟨mf,Y⟩:=aB B b I
 obtain ⟨mb,Z⟩:=aB A (b+1) I
 refine cX (Eg E b) (aR) U fun Aj Ao=>?_
 obtain ⟨AA,AB⟩:=Aj
 try dsimp only
 refine RK AC<|av ?_
 refine qB (L0:=[(3,(vP b2)),(4,(vP b3)),(5,(vP b4)),(6,(vP b5)),(7,(vI 0)),(10,(vP AK)),(11,(vP AM))]) (F:=[(own H AD 3 1 ((cq l l.ab.length).map iC)),(own g j 86 1 (List.zipWith fz (dB l r.ag r.ag.length) m)),(bM (aZ pz (dB l r.ag r.ag.length) m)),(own J K 280 1 (List.zipWith fz B L)),(bM (aZ lW B L)),(own d f 280 1 (List.zipWith fz A G)),(bM (aZ lW A G)),(cd E 276 (bR.cells (bR.mk (jI l kA kC cA cC bA bC) (j1 r sgA sgC) (bE.mk H ((cq l l.ab.length).length) AD) (bE.mk g ((dB l r.ag r.ag.length).length) j) (bE.mk J B.length K) (bE.mk d A.length f)))),(cd AA 265 [(vP E)]),(cd AB 3 [(vI (b:Int))])]) (fun k (y:aa)=>(je k y)∧(∀ q∈k,q∈oe (bZ l r) b mf mb)) (fun k y=>[(cd AM 47 (aa.cells y)),(cd AK 47 (aa.cells (aa.mk 1 0))),(cd b5 47 (aa.cells (aa.mk 0 0))),(cd b4 3 [(vI (b:Int))]),(cd b3 74 (dZ.cells (j1 r sgA sgC))),(cd b2 28 (cb.cells (jI l kA kC cA cC bA bC))),(rd kA l.aH.length 9 (l.aH.map aj.cells)).ro,(rd cA l.ah.length 2 (List.zipWith al.cells l.ah az)).ro,(eg (aZ al.fB l.ah az)).ro,(rd bA l.ab.length 4 (l.ab.map bL.cells)).ro,(rd sgA r.ag.length 2 (r.ag.map aD.cells)).ro]) (fun _ (_:Unit)=>False) (fun _ _=>[]) [2,3,13,14,15,16,17,18,19,20,21] [5,6,7,8,9,10,11,4,0,1] kM rfl rfl (CV (jI l kA kC cA cC bA bC) (j1 r sgA sgC) (cq l l.ab.length) (dB l r.ag r.ag.length) H AD m g j B A L J K G d f E b AA AB mf mb (by rw [AT]; omega) (by exact Ah) (by rw [AV]; omega) (by exact D) I (by exact C) I (by show r.ag.length≤1000; omega) (by exact Y) (by exact Z)) rfl rfl rfl (by exact ⟨zG,fun q hq=>by cases hq⟩) (by simp only [List.forall_mem_cons,List.not_mem_nil,false_imp_iff,implies_true,and_true]; exact ⟨⟨_,aI (i:=0) rfl,(iY sm)⟩,⟨_,aI (i:=1) rfl,(iY (by rw [List.length_zipWith]; omega))⟩,⟨_,aI (i:=2) rfl,qw⟩,⟨_,aI (i:=3) rfl,(iY (by rw [List.length_zipWith]; omega))⟩,⟨_,aI (i:=4) rfl,qw⟩,⟨_,aI (i:=5) rfl,(iY (by rw [List.length_zipWith]; omega))⟩,⟨_,aI (i:=6) rfl,qw⟩,⟨_,aI (i:=7) rfl,(bP _)⟩,⟨_,aI (i:=8) rfl,(bP _)⟩,⟨_,aI (i:=9) rfl,(bP _)⟩⟩) (by rintro k x k2 ⟨o,_,rfl,_⟩; rfl) rfl (aU rfl) ?_ ?_ (fun _ _ _ h=>h.elim) (fun _ _ h=>h.elim)
 ·rintro k x k2 h lr ra rb S w1 K41 Qr42 A2 hx AH AQ X Ai Ak
  obtain ⟨q,hq,rfl,rfl⟩:=hx
  obtain ⟨a,c⟩:=AH
  try dsimp only
  refine ak<|AL U cR fun Ap=>fg U bS U<|aA<|iy (fun _ _ h=>h) (aC [1,0,2,3,4,5,6,7,8,9,10,11,12])<|aS (AQ _ _ ?_)
  refine av<|ai fun _ s=>WS fun _ AR=>rP 2 [0,1] (mc 2 U (mc 3 U mn)) ?_
  refine rS (BI U (Ml _ _ h (aa.mk 1 0)))<|RK AR<|bH U (aX fun M=>?_) (aW fun M=>?_)
  ·refine WK s<|ak<|rP 1 [] (mc 1 U mn) ?_
   refine zO U bS U<|aA<|aG ?_
   exact X q.2 _ _ (by refine ⟨wh a (kW hq) ?_,fun z hz=>?_⟩; (first|exact if_neg M|exact if_pos M); (rcases List.mem_append.1 hz with hz|hz; exact c z hz; (rw [List.mem_singleton.1 hz]; exact hq))) (aC [0,2,3,4,5,6,7,8,9,10,11,12])
  refine ak<|eZ 4 [0,1] (mc 1 U (mc 2 U mn)) U<|rS (MN U)<|eZ 4 [0,1] (mc 1 U (mc 2 U mn)) U<|rS (MX U)<|rS (SX (bg (xs:=[(0,.tmp 40),(1,.tmp 45)]) (cs:=(aa.cells (aa.mk (min q.2.Lo h.Lo) (max q.2.Hi h.Hi)))) U U (bh eM U)) U U)<|qf U bS U<|RK s<|ak<|rP 1 [] (mc 1 U mn) ?_
  refine zO U bS U<|aA<|aG ?_
  exact X (aa.mk (min q.2.Lo h.Lo) (max q.2.Hi h.Hi)) _ _ (by refine ⟨wh a (kW hq) ?_,fun z hz=>?_⟩; (first|exact if_neg M|exact if_pos M); (rcases List.mem_append.1 hz with hz|hz; exact c z hz; (rw [List.mem_singleton.1 hz]; exact hq))) (aC [0,2,3,4,5,6,7,8,9,10,11,12])
 rintro A5 k h v AI
 obtain ⟨a,c⟩:=AI
 try dsimp only
 refine aG<|KK T<|ai fun _ V=>WS fun _ W=>rP 2 [0,1] (mc 11 U (mc 12 U mn)) ?_
 refine rS (BI U (q7 _ _ h (aa.mk 1 0)))<|RK W<|bH U (aP fun AE=>?_) (aO fun AE=>?_)
 ·refine WK V<|WS fun _ u=>eZ 1 [] (mc 11 U mn) U<|hO (vs:=(aa.cells h)) (cs':=(aa.cells h)) (C':=[_,_,_,_,_,_,_,_,_,_,_,_,_,(cd b5 47 (aa.cells h)),_,_,_,_,_,_,_,_]) 13 U U U bS U U U U U U U<|rP 1 [] mn ?_
  refine RK u<|an<|hQ _ _ _ (p9 0 U U<|jN (vs:=[(vA (aa.cells h)),(vI 0)]) ⟨⟨_,U,.inl ⟨_,_,bQ,nz (vs:=(aa.cells h)) 13 U U,U,U⟩⟩,U,trivial⟩ fun w hs=>DV ?_ hs)
  show (vT [(vA (aa.cells h)),(vI 0)])=(vT [(vA (aa.cells (eD l r bq_))),(vI (ek l r bq_))])
  clear hs w hQ hN u W V AC T R P O N p AF
  (rw [AG] at he ⊢; have hh:h=lB l r b:=wL (D.min _ _ Y) (C.max _ _ Z) (D.keys _ _ Y) (C.keys _ _ Z) c v a; (have e:=oE he (fun q=>AE (hh.trans q)); rw [e.1,e.2,hh]<;>rfl))
 refine WS fun _ t=>rS (SX (bg (xs:=[]) (cs:=(aa.cells (aa.mk 0 0))) U U (bh eM U)) U U)<|hO (vs:=(aa.cells (aa.mk 0 0))) (cs':=(aa.cells (aa.mk 0 0))) (C':=[_,_,_,_,_,_,_,_,_,_,_,_,_,(cd b5 47 (aa.cells (aa.mk 0 0))),_,_,_,_,_,_,_,_]) 13 U U U bS U U U U U U U<|rP 1 [] mn ?_
 refine RK t<|an<|hQ _ _ _ (p9 0 U U<|jN (vs:=[(vA (aa.cells (aa.mk 0 0))),(vI 6)]) ⟨⟨_,U,.inl ⟨_,_,bQ,nz (vs:=(aa.cells (aa.mk 0 0))) 13 U U,U,U⟩⟩,U,trivial⟩ fun w hs=>DV ?_ hs)
 show (vT [(vA (aa.cells (aa.mk 0 0))),(vI 6)])=(vT [(vA (aa.cells (eD l r bq_))),(vI (ek l r bq_))])
 clear hs w hQ hN t W V AC T R P O N p AF
 (rw [AG] at he ⊢; have hh:h=lB l r b:=wL (D.min _ _ Y) (C.max _ _ Z) (D.keys _ _ Y) (C.keys _ _ Z) c v a; (have e:=o1 he (hh.symm.trans AE); rw [e.1,e.2]<;>rfl))
theorem L5 (l:aQ) (kA:OA) (kC:Nat) (az:List RA) (cA:OA) (cC:Nat) (bA:OA) (bC:Nat) (r:cf) (sgA:OA) (sgC:Nat) (hin:dF l az) (hsl:r.ag.length≤1000000):
 dL Tryz.prog 203 [(vA (cb.cells (jI l kA kC cA cC bA bC))),(vA (dZ.cells (j1 r sgA sgC)))] [(rd kA l.aH.length 9 (l.aH.map aj.cells)),(rd cA l.ah.length 2 (List.zipWith al.cells l.ah az)),(eg (aZ al.fB l.ah az)),(rd bA l.ab.length 4 (l.ab.map bL.cells)),(rd sgA r.ag.length 2 (r.ag.map aD.cells))] (vT [(vA (aa.cells (ze l r))),(vI (ek l r l.cQ))]):=by
 have N:=hin.pO
 have J:=hin.pJ
 have H:=hin.mE
 have AA:=hin.pQ
 have M:=hin.side
 refine bu kr Tryz.func203 U U fun T Q hQ hN=>?_
 try dsimp only
 refine WS fun _ C=>eQ U fun O=>eQ U fun P=>AL U cR fun R=>bp 1 U<|RK C<|WS fun _ D=>eZ 4 [0,1] (mc 2 U (mc 1 U mn)) U<|rS (CL (FH l kA kC az cA cC bA bC r sgA sgC l.cQ hin hsl) (bf [3,4,5,6,7]) U)<|bp 3 U<|AL U cR fun S=>fg U bS U<|bp 1 U<|RK D<|ai fun _ E=>WS fun _ F=>rP 2 [] mn ?_
 refine RK F<|cw U (aW fun A=>?_) (aX fun A=>?_)
 ·refine WS fun _ G=>rS (SX (bg (xs:=[]) (cs:=(aa.cells (aa.mk 0 0))) U U (bh eM U)) U U)<|bp 1 U<|qf U bS U<|rP 1 [] mn ?_
  refine RK G<|an<|ja hQ [0] (mc 1 U mn) U ?_
  (rw [AK A]<;>rfl)
 refine WK E<|WS fun _ B=>rP 4 [0,1] (mc 0 U (mc 2 U mn)) ?_
 have K:=uv A
 have L:=(sE A).time
 refine eZ 6 [0,1] (mc 0 U (mc 2 U mn)) U<|rS (SX (bg (xs:=[(0,.tmp 24),(1,.tmp 29)]) (cs:=(aa.cells (aa.mk (((eD l r l.cQ).Lo)-r.Start) (((eD l r l.cQ).Hi)-r.Start)))) U U (bh eM U)) U U)<|qf U bS U<|rP 1 [] mn ?_
 refine RK B<|an<|ja hQ [0] (mc 1 U mn) U ?_
 (rw [Af A,A]<;>rfl)
end
end Go.Proofs.YtcoejkiaokbmpaaGreatDoor
