/-
 The statement raceReached_said, part 5 of 8: RaceV, RankP, OrdX, TabP, NestS, Grp, Twin, Fresh, Rep, Ex6, Win6, BoolC, RaceR, Tied6, Sel6, Rea7, Bits, B1, Rc1, Rs5, CloneM, Rs1, S2, Rs2, MapD, B4, B2, B3, B5, B6, Frozen, MarkD, Marks, Follow, OpenM, V2, V1.
 Conditions: none.
-/
import Derived.Test.YtdllkkdchkhimaaGreatDoorTy1
import Derived.Test.YtdllkkdchkhimaaGreatDoorTy2
import Derived.Test.YtdllkkdchkhimaaGreatDoorTy3
import Derived.Test.YtdllkkdchkhimaaGreatDoorTy4
import Derived.KernelRfl
import Derived.MapKept
import Derived.Laws.Externs
namespace Go.Proofs.YtdllkkdchkhimaaGreatDoor
set_option maxRecDepth 100000
set_option maxHeartbeats 4000000
set_option linter.unusedVariables false
section
def aF (m:gp) (i:Int):aa:=(m.lookup i).getD dD
def qK (r:cf) (i:Int):Prop:=0≤i∧i≤(r.aI.length:Int)-1
instance (r:cf) (i:Int):Decidable (qK r i):=by unfold qK; infer_instance
noncomputable def jy (r:cf) (i:Int):Int:=if bX r=0 then (if qK r i then (if (aB r).lookup i=none then 6 else 0) else 2) else bX r
noncomputable def pq (r:cf) (i:Int):aa:=if jy r i=0 then aF (aB r) i else dD
noncomputable def m_ (r:cf) (a b:Int):Int:=if bX r=0 then (if qK r a∧qK r b∧a≠b then (if (aB r).lookup a=none∨(aB r).lookup b=none then 6 else 0) else 2) else bX r
def By (s t:aa):Int:=if s.Hi<t.Lo then 2 else if s.Lo<t.Hi then 1 else 0
def rz (s t:aa):Int:=if s=t∧s.Lo=s.Hi then 2 else if s.Lo≤t.Hi∧t.Lo≤s.Hi then 1 else 0
noncomputable def vq (r:cf) (a b:Int):Int:=if m_ r a b=0 then By (aF (aB r) a) (aF (aB r) b) else 0
noncomputable def qp (r:cf) (a b:Int):Int:=if m_ r a b=0 then rz (aF (aB r) a) (aF (aB r) b) else 0
noncomputable def fU (r:cf) (i:Int):List Int:=if jy r i=0 then di (aB r) i (aF (aB r) i) else []
noncomputable def gM (r:cf) (h i:Int):Int:=if bX r=0 then (if (0≤h∧h≤(r.aq.length:Int)-1)∧qK r i then (if ((r.aq[h.toNat]?).bind (·[i.toNat]?)).any (·.Out)=true then 6 else 0) else 2) else bX r
noncomputable def eJ (r:cf) (h i:Int):aa:=if gM r h i=0 then ((((r.aq[h.toNat]?).bind (·[i.toNat]?)).map (dE r.ah)).getD dD) else dD
noncomputable def tR (r:cf) (h:Nat):List Int:=let l:=eD (fun i=>(aF (eM r h) i).Hi) (r.bD.filter fun i=>((eM r h).lookup i).isSome); rF (min r.ed.toNat l.length) l
noncomputable def iK (r:cf) (h:Int):Int:=if bX r=0 then (if 0≤h∧h≤(r.aq.length:Int) then 0 else 2) else bX r
noncomputable def g5 (r:cf) (h:Int):List Int:=if iK r h=0 then (if h=0 then r.bD else tR r h.toNat) else []
section
variable {r:cf} {i a b:Int}
theorem tT {m:gp} {i:Int} (h:(m.lookup i).isSome=true): ¬ m.lookup i=none:=fun e=>by rw [e] at h; cases h
theorem uH {m:gp} {i:Int} (h:(m.lookup i).isSome=false):m.lookup i=none:=by cases e:m.lookup i with |none=>rfl|some v=>rw [e] at h; cases h
theorem uM (h:jy r i=0):bX r=0∧qK r i∧(aB r).lookup i≠none:=by
 unfold jy at h
 split at h
 ·split at h
  ·split at h
   ·cases h
   ·exact ⟨asm,asm,asm⟩
  ·cases h
 ·exact absurd h asm
theorem zo (h:m_ r a b=0):bX r=0∧(qK r a∧qK r b∧a≠b)∧(aB r).lookup a≠none∧(aB r).lookup b≠none:=by
 unfold m_ at h
 split at h
 ·split at h
  ·split at h
   ·cases h
   ·rename_i _ _ q
    exact ⟨asm,asm,fun e=>q (.inl e),fun e=>q (.inr e)⟩
  ·cases h
 ·exact absurd h asm
theorem yS {k:Nat} {p:Int×aa} (h:p∈eM r k): ∃ q:Nat,q<r.aI.length∧p.1=(q:Int)∧fT r.ah r.aq q k=some p.2:=by
 unfold eM at h
 obtain ⟨q,hq,e⟩:=List.mem_filterMap.1 h
 obtain ⟨s,hs,rfl⟩:=Option.map_eq_some_iff.1 e
 exact ⟨q,List.mem_range.1 hq,U,hs⟩
theorem Fp {k:Nat} (h:bX r=0) (hk:k≤r.aq.length): ∀ p∈eM r k,0≤p.2.Lo∧p.2.Lo≤p.2.Hi∧p.2.Hi≤30000000:=fun p hp=>by
 obtain ⟨q,_,_,hs⟩:=yS hp
 have A:=Ax (iG h).2.AF hk hs
 have B:=(iG h).2.nh
 omega
theorem lM (h:bX r=0): ∀ p∈aB r,0≤p.2.Lo∧p.2.Lo≤p.2.Hi∧p.2.Hi≤30000000:=Fp h (Nat.le_refl _)
theorem uK {k:Nat}:(eM r k).length≤r.aI.length:=by
 unfold eM
 refine Nat.le_trans (List.length_filterMap_le _ _) ?_
 rw [List.length_range]; exact Nat.le_refl _
theorem ni (h:bX r=0):(aB r).length≤5:=by
 have A:=uK (r:=r) (k:=r.aq.length)
 have B:=(iG h).2.num
 unfold aB; omega
theorem Ml {s t:aa}:(if decide (s.Hi<t.Lo)=true then (2:Int) else if decide (s.Lo<t.Hi)=true then 1 else 0)=By s t:=by simp only [decide_eq_true_eq]; rfl
theorem H_ {s t:aa} (h:s=t):(if decide (max s.Lo t.Lo=min s.Hi t.Hi)=true then (2:Int) else if decide (max s.Lo t.Lo≤min s.Hi t.Hi)=true then 1 else 0)=rz s t:=by
 subst h
 simp only [decide_eq_true_eq,rz,Int.max_self,Int.min_self,true_and,and_self]
theorem MK {s t:aa} (hs:s.Lo≤s.Hi) (ht:t.Lo≤t.Hi) (h: ¬ s=t):(if false=true then (2:Int) else if decide (max s.Lo t.Lo≤min s.Hi t.Hi)=true then 1 else 0)=rz s t:=by
 unfold rz
 rw [if_neg dc,if_neg (fun q:s=t∧s.Lo=s.Hi=>h q.1)]
 by_cases c:s.Lo≤t.Hi∧t.Lo≤s.Hi
 ·rw [if_pos c,if_pos (fO om)]
 ·rw [if_neg c,if_neg (by rw [decide_eq_true_eq]; omega)]
theorem Kw (h: ¬ bX r=0):jy r i=bX r:=if_neg h
theorem Kc (h:bX r=0) (hi: ¬ (0≤i∧i≤(r.aI.length:Int)-1)):jy r i=2:=by unfold jy; rw [if_pos h,if_neg (show ¬ qK r i from hi)]
theorem ug (h:bX r=0) (hi:0≤i∧i≤(r.aI.length:Int)-1) (hl:((aB r).lookup i).isSome=false):jy r i=6:=by unfold jy; rw [if_pos h,if_pos (show qK r i from hi),if_pos (uH hl)]
theorem FV (h:bX r=0) (hi:0≤i∧i≤(r.aI.length:Int)-1) (hl:((aB r).lookup i).isSome=true):jy r i=0:=by unfold jy; rw [if_pos h,if_pos (show qK r i from hi),if_neg (tT hl)]
theorem KH (h: ¬ bX r=0):m_ r a b=bX r:=if_neg h
theorem BN (h:bX r=0) (hi: ¬ ((0≤a∧a≤(r.aI.length:Int)-1)∧(0≤b∧b≤(r.aI.length:Int)-1)∧a≠b)):m_ r a b=2:=by unfold m_; rw [if_pos h,if_neg (show ¬ (qK r a∧qK r b∧a≠b) from hi)]
theorem zx (h:bX r=0) (hi:(0≤a∧a≤(r.aI.length:Int)-1)∧(0≤b∧b≤(r.aI.length:Int)-1)∧a≠b) (hl:((aB r).lookup a).isSome=false∨((aB r).lookup b).isSome=false):m_ r a b=6:=by
 unfold m_; rw [if_pos h,if_pos (show qK r a∧qK r b∧a≠b from hi),if_pos (hl.imp uH uH)]
theorem MI (h:bX r=0) (hi:(0≤a∧a≤(r.aI.length:Int)-1)∧(0≤b∧b≤(r.aI.length:Int)-1)∧a≠b) (h1:((aB r).lookup a).isSome=true) (h2:((aB r).lookup b).isSome=true):m_ r a b=0:=by
 unfold m_; rw [if_pos h,if_pos (show qK r a∧qK r b∧a≠b from hi),if_neg (fun q=>q.elim (tT h1) (tT h2))]
end
end
section
abbrev ly:=List (Int×Bool)
def ib (m:ly) (P:Int→Prop):Prop:=(m.map (·.1)).Nodup∧ ∀ k,k∈m.map (·.1)↔P k
section
variable {m:ly} {P Q:Int→Prop} {k:Int}
theorem ib.rT (h:ib m P) (e: ∀ k,P k↔Q k):ib m Q:=⟨h.1,fun k=>(h.2 k).trans (e k)⟩
theorem Da (h: ∀ k,¬ P k):ib [] P:=⟨List.Pairwise.nil,fun k=>⟨fun q=>by simp at q,fun q=>absurd q (h k)⟩⟩
theorem qG:k∈m.map (·.1)↔(m.lookup k).isSome=true:=by
 induction m with
 |nil=>simp
 |cons p m ih=>
  obtain ⟨a,b⟩:=p
  by_cases e:k=a
  ·subst e; simp [List.lookup]
  ·have:(k==a)=false:=by simpa using e
   simp only [List.map_cons,eA,e,false_or,List.lookup,this]
   exact ih
theorem Ct {b:Bool} (h:ib m P) (hk: ¬ P k):ib (dK m k b) fun q=>P q∨q=k:=by
 have hn:(m.lookup k).isSome=false:=by
  rw [Bool.eq_false_iff]
  exact fun q=>hk ((h.2 k).1 (qG.2 q))
 unfold dK
 rw [hn]
 simp only [Bool.false_eq_true,if_false]
 refine ⟨?_,fun q=>?_⟩
 ·rw [List.map_append]
  refine List.nodup_append.2 ⟨h.1,sm,fun a ha b hb e=>?_⟩
  simp at hb
  subst hb; subst e
  exact hk ((h.2 _).1 ha)
 ·rw [List.map_append,kM,h.2 q]
  simp
theorem B0 (h:ib m P):ib (cd m k) fun q=>P q∧q≠k:=by
 have hs:((cd m k).map (·.1)).Sublist (m.map (·.1)):=List.Sublist.map _ List.filter_sublist
 refine ⟨h.1.sublist hs,fun q=>?_⟩
 constructor
 ·intro hq
  obtain ⟨p,hp,rfl⟩:=List.mem_map.1 hq
  obtain ⟨A,B⟩:=jv.1 hp
  exact ⟨(h.2 _).1 (List.mem_map_of_mem A),B⟩
 ·rintro ⟨A,B⟩
  obtain ⟨p,hp,rfl⟩:=List.mem_map.1 ((h.2 q).2 A)
  exact List.mem_map_of_mem (jv.2 ⟨hp,B⟩)
end
/-- two rows that go up and have the same numbers, each once -/
theorem q8 {a b:List Int} (ha:a.Pairwise (· ≤ ·)) (hb:b.Pairwise (· ≤ ·)) (na:a.Nodup) (nb:b.Nodup) (h: ∀ x,x∈a↔x∈b):a=b:=
 rE ((List.perm_ext_iff_of_nodup na nb).2 h) ha hb
def K3 (l:List Int):Nat:=if l.length=2∧l[1]? =l[0]? then 1 else l.length
theorem yW {l:List Int} {x y:Int} (h:l.length=2) (h0:l[0]? =some y) (h1:l[1]? =some x) (e:x=y):K3 l=1:=if_pos ⟨h,by rw [h0,h1,e]⟩
theorem Bi {l:List Int} {x y:Int} (h:l.length=2) (h0:l[0]? =some y) (h1:l[1]? =some x) (e: ¬ x=y):K3 l=l.length:=if_neg fun q=>e (by have:=q.2; rw [h0,h1] at this; exact Option.some.inj this)
theorem JK (a b:Int):(a=b∧K3 (dk [a,b])=1)∨(¬ a=b∧K3 (dk [a,b])=2):=by
 have hl:(dk [a,b]).length=2:=by simp
 have hp:(dk [a,b]).Perm [a,b]:=fF
 match hs:dk [a,b],hl with
 |[x,y],_=>
  rw [hs] at hp
  by_cases e:a=b
  ·subst e
   left
   refine ⟨U,yW U U U ?_⟩
   have A:x∈[a,a]:=hp.mem_iff.1 sm
   have B:y∈[a,a]:=hp.mem_iff.1 sm
   simp at A B; omega
  ·right
   refine ⟨e,(Bi (x:=y) (y:=x) U U U fun q=>?_).trans U⟩
   subst q
   have A:=hp.nodup_iff.2 (show [a,b].Nodup by simp [e])
   simp at A
section
variable {m left:gp} {i n x:Int} {y:aa}
theorem lU {p:Int×aa→Bool} (hn:(left.map (·.1)).Nodup) (hm:(x,y)∈left):left.countP p=(cd left x).countP p+(if p (x,y)=true then 1 else 0):=by
 induction left with
 |nil=>cases hm
 |cons q left ih=>
  obtain ⟨a,b⟩:=q
  simp only [List.map_cons,List.nodup_cons] at hn
  rcases List.mem_cons.1 hm with e|hm
  ·cases e
   have A:cd ((x,y)::left) x=left:=by
    unfold cd
    rw [List.filter_cons_of_neg sm]
    exact List.filter_eq_self.2 fun q hq=>by
     have:q.1≠x:=fun e=>hn.1 (e▸List.mem_map_of_mem hq)
     simpa using this
   rw [A,List.countP_cons]
  ·have B:a≠x:=fun e=>hn.1 (e▸List.mem_map_of_mem (f:=fun z:Int×aa=>z.1) hm)
   have A:cd ((a,b)::left) x=(a,b)::cd left x:=by
    unfold cd
    rw [List.filter_cons_of_pos (by simpa using B)]
   rw [A,List.countP_cons,List.countP_cons,ih hn.2 hm]
   omega
theorem n_:gD left i n=left.countP fun p=>decide (p.2.Hi<n)&& !decide (p.1=i):=by unfold gD mM; rw [List.countP_filter]
theorem qB:jt left i n=left.countP fun p=>decide (p.2.Lo<n)&& !decide (p.1=i):=by unfold jt mM; rw [List.countP_filter]
theorem jw (hn:(left.map (·.1)).Nodup) (hm:(x,y)∈left) (h:x=i):gD left i n=gD (cd left x) i n:=by
 rw [n_,n_,lU hn hm]; simp [h]
theorem kl (hn:(left.map (·.1)).Nodup) (hm:(x,y)∈left) (h:x=i):jt left i n=jt (cd left x) i n:=by
 rw [qB,qB,lU hn hm]; simp [h]
theorem iW (hn:(left.map (·.1)).Nodup) (hm:(x,y)∈left) (h: ¬ x=i) (hy:y.Hi<n):gD left i n=gD (cd left x) i n+1:=by
 rw [n_,n_,lU hn hm]; simp [h,hy]
theorem jQ (hn:(left.map (·.1)).Nodup) (hm:(x,y)∈left) (h: ¬ x=i) (hy: ¬ y.Hi<n):gD left i n=gD (cd left x) i n:=by
 rw [n_,n_,lU hn hm]; simp [h,hy]
theorem jX (hn:(left.map (·.1)).Nodup) (hm:(x,y)∈left) (h: ¬ x=i) (hy:y.Lo<n):jt left i n=jt (cd left x) i n+1:=by
 rw [qB,qB,lU hn hm]; simp [h,hy]
theorem k6 (hn:(left.map (·.1)).Nodup) (hm:(x,y)∈left) (h: ¬ x=i) (hy: ¬ y.Lo<n):jt left i n=jt (cd left x) i n:=by
 rw [qB,qB,lU hn hm]; simp [h,hy]
theorem ub:gD [] i n=0:=rfl
theorem xe:jt [] i n=0:=rfl
theorem vU:gD m i n≤m.length:=by unfold gD mM; exact Nat.le_trans List.countP_le_length (List.length_filter_le _ _)
theorem Ap:jt m i n≤m.length:=by unfold jt mM; exact Nat.le_trans List.countP_le_length (List.length_filter_le _ _)
end
def oj {β:Type} (m left:List (Int×β)) (ys:List Int):Prop:=(ys++left.map (·.1)).Perm (m.map (·.1))
theorem uY {β:Type} {m:List (Int×β)}:oj m m []:=List.Perm.refl _
theorem wq {β:Type} {m:List (Int×β)} {ys:List Int} (h:oj m [] ys):ys.Perm (m.map (·.1)):=by simpa [oj] using h
theorem Jt {β:Type} {left:List (Int×β)} {x:Int} {y:β} (hn:(left.map (·.1)).Nodup) (hm:(x,y)∈left):(left.map (·.1)).Perm (x::(cd left x).map (·.1)):=by
 induction left with
 |nil=>cases hm
 |cons q left ih=>
  obtain ⟨a,b⟩:=q
  simp only [List.map_cons,List.nodup_cons] at hn
  rcases List.mem_cons.1 hm with e|hm
  ·cases e
   have A:cd ((x,y)::left) x=left:=by
    unfold cd
    rw [List.filter_cons_of_neg sm]
    exact List.filter_eq_self.2 fun q hq=>by
     have:q.1≠x:=fun e=>hn.1 (e▸List.mem_map_of_mem hq)
     simpa using this
   rw [A]; exact List.Perm.refl _
  ·have B:a≠x:=fun e=>hn.1 (e▸List.mem_map_of_mem (f:=fun z:Int×β=>z.1) hm)
   have A:cd ((a,b)::left) x=(a,b)::cd left x:=by
    unfold cd
    rw [List.filter_cons_of_pos (by simpa using B)]
   rw [A,List.map_cons,List.map_cons]
   exact ((ih hn.2 hm).cons a).trans (List.Perm.swap _ _ _)
theorem nT {β:Type} {m left:List (Int×β)} {ys:List Int} {x:Int} {y:β} (hn:(left.map (·.1)).Nodup) (hm:(x,y)∈left) (h:oj m left ys):oj m (cd left x) (ys++[x]):=by
 unfold oj at h ⊢
 refine List.Perm.trans ?_ h
 rw [List.append_assoc]
 exact (Jt hn hm).symm.append_left ys
theorem dC {β:Type} {m left:List (Int×β)} {x:Int} (h: ∀ p∈left,p∈m): ∀ p∈cd left x,p∈m:=fun p hp=>h p (jv.1 hp).1
theorem gR {m:gp} {i:Int} (h: ∀ p∈m,0≤p.2.Lo∧p.2.Lo≤p.2.Hi∧p.2.Hi≤30000000):0≤(aF m i).Lo∧(aF m i).Lo≤(aF m i).Hi∧(aF m i).Hi≤30000000:=by
 unfold aF
 cases e:m.lookup i with
 |none=>simp [dD]
 |some v=>
  have hm:(i,v)∈m:=by
   clear h
   induction m with
   |nil=>cases e
   |cons p m ih=>
    obtain ⟨a,b⟩:=p
    by_cases c:i=a
    ·subst c; simp [List.lookup] at e; subst e; exact cm
    ·have:(i==a)=false:=by simpa using c
     simp only [List.lookup,this] at e
     exact cS _ (ih e)
  simpa using h _ hm
/-- not reached by the numbers so far -/
def uL (m:gp) (i:Int) (ys:List Int) (k:Int):Prop:=(1≤k∧k≤(m.length:Int))∧ ∀ n∈ys,¬ ((gD m i n:Int)+1≤k∧k≤(jt m i n:Int)+1)
section
variable {m:gp} {i:Int} {own:aa} {ys:List Int} {nev ranks:ly} {n a b:Int}
theorem JT (h:ib nev fun k=>1≤k∧k≤(m.length:Int)):ib nev (uL m i []):=h.rT fun k=>⟨fun h=>⟨h,fun n hn=>by cases hn⟩,fun h=>h.1⟩
theorem IL (ha:a=(gD m i n:Int)+1) (hb:b=(jt m i n:Int)+1) (h:ib nev fun q=>uL m i ys q∧ ¬ (a≤q∧q≤b)):ib nev (uL m i (ys++[n])):=by
 subst ha hb
 refine h.rT fun k=>?_
 unfold uL
 constructor
 ·rintro ⟨⟨B,A⟩,C⟩
  refine ⟨B,fun x hx=>?_⟩
  rcases List.mem_append.1 hx with hx|hx
  ·exact A x hx
  ·rw [bW] at hx; subst hx; exact C
 ·rintro ⟨B,A⟩
  exact ⟨⟨B,fun x hx=>A x (List.mem_append_left _ hx)⟩,A n sm⟩
theorem Ec {P:Int→Prop} {k:Int} (hk:a≤k) (h:ib nev fun q=>P q∧ ¬ (a≤q∧q<k)):ib (cd nev k) fun q=>P q∧ ¬ (a≤q∧q<k+1):=
 (B0 (k:=k) h).rT fun q=>by
  constructor
  ·rintro ⟨⟨B,A⟩,E⟩; exact ⟨B,fun ⟨C,D⟩=>A ⟨C,om⟩⟩
  ·rintro ⟨B,A⟩; exact ⟨⟨B,fun ⟨C,D⟩=>A ⟨C,om⟩⟩,fun e=>A ⟨om,om⟩⟩
theorem FF (hall: ∀ n,n∈ys↔n∈iO m i own) {k:Int} (hk:1≤k∧k≤(m.length:Int)): ¬ uL m i ys k↔qC m i own k:=by
 unfold uL qC
 constructor
 ·intro h
  refine Classical.byContradiction fun q=>h ⟨hk,fun n hn hc=>q ⟨n,(hall n).1 hn,hc.1,hc.2⟩⟩
 ·rintro ⟨n,hn,A,B⟩ h
  exact h.2 n ((hall n).2 hn) ⟨A,B⟩
/-- the ranks, from what is left of the map -/
theorem EM (hi:m.lookup i≠none) (hall: ∀ n,n∈ys↔n∈iO m i own) (h:ib ranks fun k=>(1≤k∧k≤(m.length:Int))∧ ¬ uL m i ys k):dk (ranks.map (·.1))=di m i own:=by
 refine q8 kY ?_ ((fF (l:=ranks.map (·.1))).nodup_iff.2 h.1) ?_ fun k=>?_
 ·unfold di
  refine List.Pairwise.filter _ ?_
  rw [List.pairwise_map]
  exact List.pairwise_lt_range.imp fun h=>by omega
 ·unfold di
  refine List.Pairwise.filter _ ?_
  rw [List.pairwise_map]
  exact List.pairwise_lt_range.imp fun h=>by omega
 ·rw [(fF (l:=ranks.map (·.1))).mem_iff,h.2 k,yu hi]
  constructor
  ·rintro ⟨A,B⟩; exact (FF hall A).1 B
  ·intro A
   have hk:1≤k∧k≤(m.length:Int):=by
    obtain ⟨n,_,B,C⟩:=A
    have:=Jp hi (x:=n)
    omega
   exact ⟨hk,(FF hall hk).2 A⟩
end
section
variable {nw left rk:ly} {N R:Int→Prop} {u:Int} {v:Bool}
theorem Nz (hl: ∀ p∈left,p∈nw) (hk:ib nw N) (hm:(u,v)∈left) (h:ib rk fun w=>R w∧ ¬ (N w∧w ∉ left.map (·.1))):ib (cd rk u) fun w=>R w∧ ¬ (N w∧w ∉ (cd left u).map (·.1)):=
 (B0 (k:=u) h).rT fun w=>by
  have hd:w∈(cd left u).map (·.1)↔w∈left.map (·.1)∧w≠u:=by
   constructor
   ·intro q
    obtain ⟨p,hp,rfl⟩:=List.mem_map.1 q
    exact ⟨List.mem_map_of_mem (jv.1 hp).1,(jv.1 hp).2⟩
   ·rintro ⟨D,E⟩
    obtain ⟨p,hp,rfl⟩:=List.mem_map.1 D
    exact List.mem_map_of_mem (jv.2 ⟨hp,E⟩)
  constructor
  ·rintro ⟨⟨B,A⟩,C⟩
   exact ⟨B,fun q=>A ⟨q.1,fun z=>q.2 (hd.2 ⟨z,C⟩)⟩⟩
  ·rintro ⟨B,A⟩
   refine ⟨⟨B,fun q=>A ⟨q.1,fun z=>q.2 (hd.1 z).1⟩⟩,fun e=>A ⟨?_,fun z=>(hd.1 z).2 e⟩⟩
   subst e
   exact (hk.2 _).1 (List.mem_map_of_mem (f:=fun z:Int×Bool=>z.1) (hl _ hm))
theorem K6 {n:Nat} (h:ib rk R) (hR: ∀ k,R k→1≤k∧k≤(n:Int)):rk.length≤n:=by
 have hp:((List.range n).map fun (k:Nat)=>(k:Int)+1).Pairwise (· < ·):=by
  rw [List.pairwise_map]
  exact List.pairwise_lt_range.imp fun h=>by omega
 have e:dk (rk.map (·.1))=((List.range n).map fun (k:Nat)=>(k:Int)+1).filter fun k=>decide (k∈rk.map (·.1)):=by
  refine q8 kY ((hp.filter _).imp fun h=>by omega) ((fF (l:=rk.map (·.1))).nodup_iff.2 h.1) ((hp.filter _).imp fun h=>by omega) fun k=>?_
  rw [(fF (l:=rk.map (·.1))).mem_iff,List.mem_filter,decide_eq_true_eq]
  refine ⟨fun q=>⟨?_,q⟩,fun q=>q.2⟩
  have:=hR k ((h.2 k).1 q)
  exact List.mem_map.2 ⟨(k-1).toNat,List.mem_range.2 om,om⟩
 have A:=congrArg List.length e
 have B:=List.length_filter_le (fun k=>decide (k∈rk.map (·.1))) ((List.range n).map fun (k:Nat)=>(k:Int)+1)
 rw [gn,List.length_map] at A
 rw [List.length_map,List.length_range] at B
 omega
end
section
variable {m left:gp} {i x n:Int} {own y:aa} {ys:List Int}
/-- what was told so far: all of those who are not left -/
def zt (m:gp) (i:Int) (own:aa) (left:gp) (ys:List Int):Prop:=(∀ n∈ys,n∈iO m i own)∧own.Lo∈ys∧ ∀ p∈m,p.1≠i→p ∉ left→ ∀ n∈[p.2.Lo+1,p.2.Hi+1],own.Lo≤n∧n≤own.Hi→n∈ys
theorem l0 {p:Int×aa} (hp:p∈m) (hi:p.1≠i) (hn:n=p.2.Lo+1∨n=p.2.Hi+1) (hb:own.Lo≤n∧n≤own.Hi):n∈iO m i own:=
 cS _ (List.mem_filter.2 ⟨List.mem_flatMap.2 ⟨p,List.mem_filter.2 ⟨hp,by simpa using hi⟩,by simpa using hn⟩,fO hb⟩)
theorem Ll:zt m i own m [own.Lo]:=⟨fun n hn=>by rw [bW] at hn; subst hn; exact cm,sm,fun p hp _ hl=>absurd hp hl⟩
theorem Od (h:zt m i own [] ys) (n:Int):n∈ys↔n∈iO m i own:=by
 refine ⟨h.1 n,fun hn=>?_⟩
 rcases List.mem_cons.1 hn with rfl|hn
 ·exact h.2.1
 ·obtain ⟨C,D⟩:=List.mem_filter.1 hn
  obtain ⟨p,hp,hx⟩:=List.mem_flatMap.1 C
  obtain ⟨A,B⟩:=List.mem_filter.1 hp
  exact h.2.2 p A (by simpa using B) sm n hx (of_decide_eq_true D)
theorem kU {ys':List Int} (hm:(left.map (·.1)).Nodup) (hx:(x,y)∈left) (hl: ∀ p∈left,p∈m) (h:zt m i own left ys) (hs: ∀ n∈ys,n∈ys') (hn: ∀ n∈ys',n∈ys∨n∈iO m i own)
 (hy:x≠i→ ∀ n∈[y.Lo+1,y.Hi+1],own.Lo≤n∧n≤own.Hi→n∈ys'):zt m i own (cd left x) ys':=by
 refine ⟨fun n A=>?_,hs _ h.2.1,fun p hp hi B n A hb=>?_⟩
 ·rcases hn n A with q|q
  ·exact h.1 n q
  ·exact q
 ·by_cases e:p∈left
  ·have C:p.1=x:=by
    refine Classical.byContradiction fun q=>B (jv.2 ⟨e,q⟩)
   have E:p=(x,y):=by
    obtain ⟨G,H⟩:=p
    simp only at C; subst C
    have F:=(iD hm).1 e
    have D:=(iD hm).1 hx
    rw [F] at D; cases D; rfl
   subst E
   exact hy hi n A hb
  ·exact hs n (h.2.2 p hp hi e n A hb)
end
section
variable {r:cf} {h i:Int} {ht:List aA} {d:aA}
theorem oK (he: ¬ bX r=0):gM r h i=bX r:=if_neg he
theorem oJ (he:bX r=0) (hi: ¬ ((0≤h∧h≤(r.aq.length:Int)-1)∧0≤i∧i≤(r.aI.length:Int)-1)):gM r h i=2:=by
 unfold gM; rw [if_pos he,if_neg (show ¬ ((0≤h∧h≤(r.aq.length:Int)-1)∧qK r i) from hi)]
theorem Cn (he:bX r=0) (hi:(0≤h∧h≤(r.aq.length:Int)-1)∧0≤i∧i≤(r.aI.length:Int)-1) (h1:r.aq[h.toNat]? =some ht) (h2:ht[i.toNat]? =some d):gM r h i=if d.Out=true then 6 else 0:=by
 unfold gM; rw [if_pos he,if_pos (show (0≤h∧h≤(r.aq.length:Int)-1)∧qK r i from hi),h1]
 simp [h2]
theorem nB (he:bX r=0) (hi:(0≤h∧h≤(r.aq.length:Int)-1)∧0≤i∧i≤(r.aI.length:Int)-1) (h1:r.aq[h.toNat]? =some ht) (h2:ht[i.toNat]? =some d) (ho:d.Out=true):gM r h i=6:=by rw [Cn he hi h1 h2,if_pos ho]
theorem qk (he:bX r=0) (hi:(0≤h∧h≤(r.aq.length:Int)-1)∧0≤i∧i≤(r.aI.length:Int)-1) (h1:r.aq[h.toNat]? =some ht) (h2:ht[i.toNat]? =some d) (ho:d.Out=false):gM r h i=0∧eJ r h i=dE r.ah d:=by
 have e:gM r h i=0:=by rw [Cn he hi h1 h2,if_neg (by rw [ho]; decide)]
 refine ⟨e,?_⟩
 unfold eJ
 rw [if_pos e,h1]
 simp [h2]
end
theorem oS {r:cf} {i:Int} (h: ¬ jy r i=0):fU r i=[]:=if_neg h
theorem yO {r:cf} {i:Int} (h:jy r i=0):fU r i=di (aB r) i (aF (aB r) i):=if_pos h
end
section
open Go.RowKit
section
variable {key:Int→Int} {l q m:List Int} {i j:Nat} {x y:Int}
theorem Hb:1=1∧l=[]∨sQ key l 1 l:=by
 cases l with
 |nil=>exact .inl ⟨rfl,rfl⟩
 |cons a l=>exact .inr (H3 sm)
theorem Nc (h:i<l.length) (hd:i=1∧l=[]∨sQ key l i m):sQ key l i m:=by
 rcases hd with ⟨_,rfl⟩|hd
 ·simp at h
 ·exact hd
theorem JH (hi: ¬ i<l.length) (hl:m.length=l.length) (hd:i=1∧l=[]∨sQ key l i m):m=eD key l:=by
 rcases hd with ⟨_,rfl⟩|hd
 ·exact jB hl
 ·exact KT om hd
theorem H7 (hx:q[j]? =some x) (hy:q[j-1]? =some y) (h: ∀ z∈q,z∈l): ∀ z∈(q.set j y).set (j-1) x,z∈l:=fun z hz=>by
 rcases List.mem_or_eq_of_mem_set hz with hz|rfl
 ·rcases List.mem_or_eq_of_mem_set hz with hz|rfl
  ·exact h z hz
  ·exact h _ (aX hy)
 ·exact h _ (aX hx)
theorem xN {p:Int→Bool} (hx:l[i]? =some x) (h:p x=true):(l.take (i+1)).filter p=(l.take i).filter p++[x]:=by
 rw [jS hx,List.filter_append]; simp [h]
theorem F_ {p:Int→Bool} (hx:l[i]? =some x) (h:p x=false):(l.take (i+1)).filter p=(l.take i).filter p:=by
 rw [jS hx,List.filter_append]; simp [h]
end
section
variable {r:cf} {h:Int} {n:Nat}
theorem Dx (e: ¬ bX r=0):iK r h=bX r:=if_neg e
theorem Dz (e:bX r=0) (q: ¬ (0≤h∧h≤(r.aq.length:Int))):iK r h=2:=by unfold iK; rw [if_pos e,if_neg q]
theorem yo (e:bX r=0) (q:0≤h∧h≤(r.aq.length:Int)):iK r h=0:=by unfold iK; rw [if_pos e,if_pos q]
theorem DV (hd:r.bD.length≤12):(g5 r h).length≤12:=by
 unfold g5
 split
 ·split
  ·exact hd
  ·unfold tR
   simp only [j9,ko]
   exact Nat.le_trans (List.length_filter_le _ _) hd
 ·simp
theorem zh (e: ¬ iK r h=0):g5 r h=[]:=if_neg e
theorem uQ (e:iK r h=0) (q:h=0):g5 r h=r.bD:=by unfold g5; rw [if_pos e,if_pos q]
theorem vc (e:iK r (n:Int)=0) (q: ¬ (n:Int)=0):g5 r (n:Int)=tR r n:=by unfold g5; rw [if_pos e,if_neg q,Int.toNat_natCast]
theorem zu {k:Nat} {l:List Int} (hl:l=eD (fun i=>(aF (eM r n) i).Hi) (r.bD.filter fun i=>((eM r n).lookup i).isSome)) (hk:k=min r.ed.toNat l.length):rF k l=tR r n:=by subst hl; subst hk; rfl
theorem Tk {m:gp} {l:List Int} (hb: ∀ p∈m,0≤p.2.Lo∧p.2.Lo≤p.2.Hi∧p.2.Hi≤30000000): ∀ x∈l,0≤(aF m x).Hi∧(aF m x).Hi≤30000000:=fun x _=>by have:=gR (i:=x) hb; omega
theorem RZ {m:gp} {l:List Int} (hb: ∀ p∈m,0≤p.2.Lo∧p.2.Lo≤p.2.Hi∧p.2.Hi≤30000000): ∀ x∈l,0≤(aF m x).Lo∧(aF m x).Lo≤30000000:=fun x _=>by have:=gR (i:=x) hb; omega
end
end
section
def JZ (f:Int→aa) (g:List Int):Prop:= ∀ t,(∃ a∈g,(f a).Lo<t)→(∃ b∈g,t≤(f b).Lo)→ ∃ c∈g,(f c).Lo<t∧t≤(f c).Hi
def JM (f:Int→aa) (g h:List Int):Prop:= ∀ a∈g,∀ b∈h,(f a).Hi<(f b).Lo
structure ic (f:Int→aa) (keys:List Int) (G:List (List Int)):Prop where
 perm:G.flatten.Perm keys
 some_: ∀ g∈G,g≠[]
 apart:G.Pairwise (JM f)
 tight: ∀ g∈G,JZ f g
def Cr (G:List (List Int)):Prop:= ∀ g∈G,g.Pairwise (· ≤ ·)
section
variable {f:Int→aa} {keys:List Int} {G G':List (List Int)} {g h:List Int} {x:Int}
theorem xh: ∀ {g:List Int},g≠[]→ ∃ a∈g,∀ b∈g,(f a).Lo≤(f b).Lo
 |[],h=>absurd rfl h
 |[a],_=>⟨a,sm,fun b hb=>by simp at hb; subst hb; omega⟩
 |a::b::g,_=>by
  obtain ⟨c,hc,hm⟩:=xh (g:=b::g) sm
  rcases Int.le_total (f a).Lo (f c).Lo with q|q
  ·refine ⟨a,sm,fun d hd=>?_⟩
   rcases List.mem_cons.1 hd with rfl|hd
   ·omega
   ·have:=hm d hd; omega
  ·refine ⟨c,cS _ hc,fun d hd=>?_⟩
   rcases List.mem_cons.1 hd with rfl|hd
   ·exact q
   ·exact hm d hd
/-- the first group is what no cut parts from the least -/
theorem qW (hf: ∀ i∈keys,(f i).Lo≤(f i).Hi) (h:ic f keys (g::G)) {a:Int} (ha:a∈keys) (hm: ∀ b∈keys,(f a).Lo≤(f b).Lo) {b:Int} (hb:b∈keys):b∈g↔ ∀ t,(f a).Lo<t→t≤(f b).Lo→ ∃ c∈keys,(f c).Lo<t∧t≤(f c).Hi:=by
 have hk: ∀ x,x∈keys↔x∈g∨x∈G.flatten:=fun x=>by rw [← h.perm.mem_iff,List.flatten_cons,kM]
 have A:=List.pairwise_cons.1 h.apart
 have B:a∈g:=by
  rcases (hk a).1 ha with q|q
  ·exact q
  ·obtain ⟨y,hy⟩:=List.exists_mem_of_ne_nil _ (h.some_ g cm)
   obtain ⟨g',hg',hag'⟩:=List.mem_flatten.1 q
   have F:=A.1 g' hg' y hy a hag'
   have H:=hm y ((hk y).2 (.inl hy))
   have E:=hf y ((hk y).2 (.inl hy))
   omega
 constructor
 ·intro AA t F H
  obtain ⟨c,hc,E⟩:=h.tight g cm t ⟨a,B,F⟩ ⟨b,AA,H⟩
  exact ⟨c,(hk c).2 (.inl hc),E⟩
 ·intro C
  rcases (hk b).1 hb with q|q
  ·exact q
  ·exfalso
   obtain ⟨d,hd,D⟩:=xh (f:=f) (g:=G.flatten) (fun e=>by rw [e] at q; cases q)
   obtain ⟨g',hg',hdg'⟩:=List.mem_flatten.1 hd
   have F:=A.1 g' hg' a B d hdg'
   have H:=hf a ha
   have E:=D b q
   obtain ⟨c,hc,K,L⟩:=C (f d).Lo om E
   rcases (hk c).1 hc with J|J
   ·have:=A.1 g' hg' c J d hdg'; omega
   ·have:=D c J; omega
theorem vf (h:ic f keys (g::G)):ic f G.flatten G:=
 ⟨List.Perm.refl _,fun x hx=>h.some_ x (cS _ hx),(List.pairwise_cons.1 h.apart).2,fun x hx=>h.tight x (cS _ hx)⟩
theorem qn {k2:List Int} (h:ic f keys G) (p:keys.Perm k2):ic f k2 G:=⟨h.perm.trans p,h.some_,h.apart,h.tight⟩
theorem rK: ∀ {G G':List (List Int)} {keys:List Int},keys.Nodup→(∀ i∈keys,(f i).Lo≤(f i).Hi)→ic f keys G→ic f keys G'→Cr G→Cr G'→G=G'
 |[],[],keys,_,_,_,_,_,_=>rfl
 |[],g'::G',keys,_,_,h,h',_,_=>by
  exfalso
  have F:keys=[]:=List.Perm.eq_nil (by simpa using h.perm.symm)
  subst F
  have:=h'.perm.eq_nil
  simp at this
  exact h'.some_ g' cm this.1
 |g::G,[],keys,_,_,h,h',_,_=>by
  exfalso
  have F:keys=[]:=List.Perm.eq_nil (by simpa using h'.perm.symm)
  subst F
  have:=h.perm.eq_nil
  simp at this
  exact h.some_ g cm this.1
 |g::G,g'::G',keys,hn,hf,h,h',ha,ha'=>by
  have H:keys≠[]:=fun e=>by
   subst e
   have:=h.perm.eq_nil
   simp at this
   exact h.some_ g cm this.1
  obtain ⟨a,A,B⟩:=xh (f:=f) H
  have D:=h.perm.nodup_iff.2 hn
  have E:=h'.perm.nodup_iff.2 hn
  rw [List.flatten_cons,List.nodup_append] at D E
  have Ab: ∀ b∈g,b∈keys:=fun b hb=>h.perm.mem_iff.1 (by rw [List.flatten_cons]; exact List.mem_append_left _ hb)
  have C: ∀ b∈g',b∈keys:=fun b hb=>h'.perm.mem_iff.1 (by rw [List.flatten_cons]; exact List.mem_append_left _ hb)
  have e:g=g':=by
   refine q8 (ha g cm) (ha' g' cm) D.1 E.1 fun b=>?_
   constructor
   ·intro hb
    exact (qW hf h' A B (Ab b hb)).2 ((qW hf h A B (Ab b hb)).1 hb)
   ·intro hb
    exact (qW hf h A B (C b hb)).2 ((qW hf h' A B (C b hb)).1 hb)
  subst e
  have p:G.flatten.Perm G'.flatten:=by
   have:=h.perm.trans h'.perm.symm
   rw [List.flatten_cons,List.flatten_cons] at this
   exact (List.perm_append_left_iff g).1 this
  rw [rK (G:=G) (G':=G') D.2.1 (fun i hi=>hf i (h.perm.mem_iff.1 (by rw [List.flatten_cons]; exact List.mem_append_right _ hi))) (vf h) (qn (vf h') p.symm) (fun x hx=>ha x (cS _ hx)) (fun x hx=>ha' x (cS _ hx))]
/-- groups, each one put in order -/
theorem vj (h:ic f keys G):ic f keys (G.map dk)∧Cr (G.map dk):=by
 have hp: ∀ G:List (List Int),(G.map dk).flatten.Perm G.flatten:=fun G=>by
  induction G with
  |nil=>simp
  |cons g G ih=>simp only [List.map_cons,List.flatten_cons]; exact fF.append ih
 have hm: ∀ {g:List Int} {x:Int},x∈dk g↔x∈g:=fF.mem_iff
 refine ⟨⟨(hp G).trans h.perm,fun g hg=>?_,?_,fun g hg=>?_⟩,fun g hg=>?_⟩
 ·obtain ⟨y,hy,rfl⟩:=List.mem_map.1 hg
  intro e
  have:=(fF (l:=y)).symm
  rw [e] at this
  exact h.some_ y hy this.eq_nil
 ·rw [List.pairwise_map]
  exact h.apart.imp fun q a ha b hb=>q a (hm.1 ha) b (hm.1 hb)
 ·obtain ⟨y,hy,rfl⟩:=List.mem_map.1 hg
  rintro t ⟨a,ha,A⟩ ⟨b,hb,B⟩
  obtain ⟨c,hc,C⟩:=h.tight y hy t ⟨a,hm.1 ha,A⟩ ⟨b,hm.1 hb,B⟩
  exact ⟨c,hm.2 hc,C⟩
 ·obtain ⟨y,hy,rfl⟩:=List.mem_map.1 hg
  exact kY
end
/-- so far: groups, and the greatest of all -/
structure l9 (f:Int→aa) (p:List Int) (G:List (List Int)) (last:Int):Prop where
 ok:ic f p G
 Pw: ∀ a∈p,(f a).Hi≤last
 at_:p=[]∧last= -1∨ ∃ a∈p,(f a).Hi=last
section
variable {f:Int→aa} {p:List Int} {G:List (List Int)} {g:List Int} {x last:Int}
theorem Fs:l9 f [] [] (-1):=⟨⟨sm,fun g hg=>(by cases hg),List.Pairwise.nil,fun g hg=>by cases hg⟩,fun a ha=>(by cases ha),.inl ⟨rfl,rfl⟩⟩
theorem HR:JZ f [x]:=by
 rintro t ⟨a,ha,A⟩ ⟨b,hb,B⟩
 simp at ha hb; subst ha hb; omega
theorem qR (h0: -1≤(f x).Hi) (h:l9 f p G last):(∀ a∈p++[x],(f a).Hi≤max last (f x).Hi)∧((p++[x])=[]∧max last (f x).Hi= -1∨ ∃ a∈p++[x],(f a).Hi=max last (f x).Hi):=by
 refine ⟨fun a ha=>?_,.inr ?_⟩
 ·rcases List.mem_append.1 ha with ha|ha
  ·have:=h.Pw a ha; omega
  ·rw [bW] at ha; subst ha; omega
 ·rcases Int.le_total last (f x).Hi with q|q
  ·exact ⟨x,sm,om⟩
  ·rcases h.at_ with ⟨rfl,e⟩|⟨a,ha,e⟩
   ·exact ⟨x,sm,om⟩
   ·exact ⟨a,List.mem_append_left _ ha,om⟩
theorem Na (h0: -1≤(f x).Hi) (h:l9 f p G last) (hl:last<(f x).Lo):l9 f (p++[x]) (G++[[x]]) (max last (f x).Hi):=by
 have A: ∀ y∈G,∀ a∈y,a∈p:=fun y hy a ha=>h.ok.perm.mem_iff.1 (List.mem_flatten.2 ⟨y,hy,ha⟩)
 refine ⟨⟨?_,fun y hy=>?_,?_,fun y hy=>?_⟩,(qR h0 h).1,(qR h0 h).2⟩
 ·rw [List.flatten_append]
  exact h.ok.perm.append sm
 ·rcases List.mem_append.1 hy with hy|hy
  ·exact h.ok.some_ y hy
  ·rw [bW] at hy; subst hy; simp
 ·rw [List.pairwise_append]
  refine ⟨h.ok.apart,List.pairwise_singleton _ _,fun y hy z hz a ha b hb=>?_⟩
  rw [bW] at hz; subst hz
  rw [bW] at hb; subst hb
  have:=h.Pw a (A y hy a ha); omega
 ·rcases List.mem_append.1 hy with hy|hy
  ·exact h.ok.tight y hy
  ·rw [bW] at hy; subst hy; exact HR
theorem It (h0: -1≤(f x).Hi) (hf: ∀ i∈p,(f i).Lo≤(f i).Hi) (hx: ∀ a∈p,(f a).Lo≤(f x).Lo) (h:l9 f p (G++[g]) last) (hl: ¬ last<(f x).Lo):l9 f (p++[x]) (G++[g++[x]]) (max last (f x).Hi):=by
 have A: ∀ y∈G++[g],∀ a∈y,a∈p:=fun y hy a ha=>h.ok.perm.mem_iff.1 (List.mem_flatten.2 ⟨y,hy,ha⟩)
 have C:=List.pairwise_append.1 h.ok.apart
 have B:=h.ok.some_ g sm
 refine ⟨⟨?_,fun y hy=>?_,?_,fun y hy=>?_⟩,(qR h0 h).1,(qR h0 h).2⟩
 ·have:=h.ok.perm
  rw [List.flatten_append] at this ⊢
  simp only [List.flatten_cons,List.flatten_nil,List.append_nil] at this ⊢
  rw [← List.append_assoc]
  exact this.append_right _
 ·rcases List.mem_append.1 hy with hy|hy
  ·exact h.ok.some_ y (List.mem_append_left _ hy)
  ·rw [bW] at hy; subst hy; simp
 ·rw [List.pairwise_append]
  refine ⟨C.1,List.pairwise_singleton _ _,fun y hy z hz a ha b hb=>?_⟩
  rw [bW] at hz; subst hz
  rcases List.mem_append.1 hb with hb|hb
  ·exact C.2.2 y hy g sm a ha b hb
  ·rw [bW] at hb; subst hb
   obtain ⟨c,hc⟩:=List.exists_mem_of_ne_nil _ B
   have K:=C.2.2 y hy g sm a ha c hc
   have H:=hx c (A g sm c hc)
   omega
 ·rcases List.mem_append.1 hy with hy|hy
  ·exact h.ok.tight y (List.mem_append_left _ hy)
  ·rw [bW] at hy; subst hy
   rintro t ⟨a,ha,K⟩ ⟨b,hb,H⟩
   by_cases D: ∃ b∈g,t≤(f b).Lo
   ·obtain ⟨b',hb',L⟩:=D
    have AA:a∈g:=by
     rcases List.mem_append.1 ha with q|q
     ·exact q
     ·rw [bW] at q; subst q
      have:=hx b' (A g sm b' hb'); omega
    obtain ⟨c,hc,M⟩:=h.ok.tight g sm t ⟨a,AA,K⟩ ⟨b',hb',L⟩
    exact ⟨c,List.mem_append_left _ hc,M⟩
   ·have J: ∀ c∈g,(f c).Lo<t:=fun c hc=>by
     refine Classical.byContradiction fun q=>D ⟨c,hc,om⟩
    have N:t≤(f x).Lo:=by
     rcases List.mem_append.1 hb with q|q
     ·exact absurd ⟨b,q,H⟩ D
     ·rw [bW] at q; subst q; exact H
    rcases h.at_ with ⟨e,_⟩|⟨c,hc,e⟩
    ·exfalso
     obtain ⟨c,hc⟩:=List.exists_mem_of_ne_nil _ B
     have:=A g sm c hc
     rw [e] at this; cases this
    ·have E:c∈g:=by
      obtain ⟨y,hy,F⟩:=List.mem_flatten.1 (h.ok.perm.mem_iff.2 hc)
      rcases List.mem_append.1 hy with hy|hy
      ·exfalso
       obtain ⟨d,hd⟩:=List.exists_mem_of_ne_nil _ B
       have L:=C.2.2 y hy g sm c F d hd
       have M:=hf d (A g sm d hd)
       have O:=h.Pw d (A g sm d hd)
       omega
      ·rw [bW] at hy; subst hy; exact F
     exact ⟨c,List.mem_append_left _ E,J c E,om⟩
theorem Iq (h:l9 f p G last) (hp:p≠[]):G≠[]:=fun e=>by
 subst e
 exact hp (by simpa using h.ok.perm.symm.eq_nil)
end
end
section
open Go.RowKit
/-- a map, or nil -/
def oC (o:Option Nat):List Value:=[Value.map o]
theorem zY {α:Type}: ∀ {ms:List α} {asl:List Nat},ms.length=asl.length→List.zipWith gJ ms asl=(asl.map some).map oC
 |[],[],_=>rfl
 |[],_::_,h=>by simp at h
 |_::_,[],h=>by simp at h
 |x::ms,y::asl,h=>by simp only [List.zipWith_cons_cons,List.map_cons,zY (ms:=ms) (asl:=asl) (by simpa using h)]; rfl
/-- what stands for all but one -/
def fz {M A:Type} (f:M→A→List av) (ms:List M) (asl:List A) (k:Nat):List av:=aU f (ms.take k) (asl.take k)++aU f (ms.drop (k+1)) (asl.drop (k+1))
theorem kP {M A:Type} {f:M→A→List av}: ∀ {ms:List M} {asl:List A} {k:Nat} {m:M} {a:A},ms[k]? =some m→asl[k]? =some a→(aU f ms asl).Perm (f m a++fz f ms asl k)
 |[],_,k,m,a,h,_=>by simp at h
 |_::_,[],k,m,a,_,h=>by simp at h
 |x::ms,y::asl,0,m,a,h,h2=>by
  simp at h h2; subst h h2
  simp [fz,aU]
 |x::ms,y::asl,k+1,m,a,h,h2=>by
  have ih:=kP (f:=f) (ms:=ms) (asl:=asl) (k:=k) (by simpa using h) (by simpa using h2)
  show (f x y++aU f ms asl).Perm (f m a++fz f (x::ms) (y::asl) (k+1))
  have e:fz f (x::ms) (y::asl) (k+1)=f x y++fz f ms asl k:=by simp [fz,aU,List.append_assoc]
  rw [e]
  refine (ih.append_left (f x y)).trans ?_
  rw [← List.append_assoc,← List.append_assoc]
  exact List.perm_append_comm.append_right _
theorem HI {M A:Type} {f:M→A→List av} {ms:List M} {asl:List A} {k:Nat} {m':M}:fz f (ms.set k m') asl k=fz f ms asl k:=by
 unfold fz
 rw [List.take_set_of_le (Nat.le_refl k),List.drop_set_of_lt (Nat.lt_succ_self k)]
theorem kR {S:BS} {w0 w:World} {C X Y:List av} (hp:X.Perm Y) (h:St S w0 (bo X::C) w):St S w0 (bo Y::C) w:=by
 have A:St S w0 (X++C) w:=h.ig
 exact (A.perm (hp.append_right C)).tied
theorem St.out {M A:Type} {f:M→A→List av} {S:BS} {w0 w:World} {C:List av} {ms:List M} {asl:List A} {k:Nat} {m:M} {a:A} {X:av} (hm:ms[k]? =some m) (ha:asl[k]? =some a) (hf:f m a=[X]) (h:St S w0 (bo (aU f ms asl)::C) w):St S w0 (X::bo (fz f ms asl k)::C) w:=by
 have B:=(kR (kP hm ha) h).ig
 rw [hf] at B
 have D:St S w0 (fz f ms asl k++(X::C)) w:=B.perm (List.perm_middle (a:=X) (l₁:=fz f ms asl k) (l₂:=C)).symm
 exact D.tied.perm (List.Perm.swap _ _ _)
theorem St.back {M A:Type} {f:M→A→List av} {S:BS} {w0 w:World} {C:List av} {ms:List M} {asl:List A} {k:Nat} {m':M} {a:A} {X:av} (hk:k<ms.length) (ha:asl[k]? =some a) (hf:f m' a=[X]) (h:St S w0 (X::bo (fz f ms asl k)::C) w):St S w0 (bo (aU f (ms.set k m') asl)::C) w:=by
 have B:St S w0 (bo (fz f ms asl k)::X::C) w:=h.perm (List.Perm.swap _ _ _)
 have D:=B.ig
 have E:St S w0 ((f m' a++fz f (ms.set k m') asl k)++C) w:=by
  rw [hf,HI]
  exact D.perm (List.perm_middle (a:=X) (l₁:=fz f ms asl k) (l₂:=C))
 exact kR (kP (List.getElem?_set_self hk) ha).symm E.tied
section
variable {E:ff} {ops:Array Oper} {Q:cZ} {rest:List Oper} {D:List Deferred} {L:List (Nat×Value)} {C C1:List av}
variable {M A:Type} {f:M→A→List av} {ms:List M} {asl:List A} {k:Nat} {m:M} {a:A} {X:av}
theorem Ff {c:Code} (i:Nat) (hm:ms[k]? =some m) (ha:asl[k]? =some a) (hf:f m a=[X]) (hn:decide (i::(List.range C.length).filter fun k=>k != i).Nodup=true) (hC:kj C (i::(List.range C.length).filter fun k=>k != i)=bo (aU f ms asl)::C1)
 (h:WJ E c Q D L (X::bo (fz f ms asl k)::C1)):WJ E c Q D L C:=fun a w hf' hs=>h a w hf' (St.out hm ha hf (St.kj _ hn hC hs))
theorem Jx {K:Act→World→Prop} (i j:Nat) (hk:k<ms.length) (ha:asl[k]? =some a) (hf:f m a=[X]) (hn:decide (j::i::(List.range C.length).filter fun k=>k != i&&k != j).Nodup=true) (hC:kj C (j::i::(List.range C.length).filter fun k=>k != i&&k != j)=X::bo (fz f ms asl k)::C1)
 (h:KJ E K D L (bo (aU f (ms.set k m) asl)::C1)):KJ E K D L C:=fun a w hf' hs=>h a w hf' (St.back hk ha hf (St.kj _ hn hC hs))
end
end
section
open Go.RowKit
def kg (l:List Int) (a:RA):List Value:=[vS a.1 l.length a.2]
def QO (l:List Int) (a:RA):List av:=[rd a.1 l.length 1 (l.map iC)]
def nE (l:List Int) (a:RA):List av:=[own a.1 a.2 QS 1 (l.map iC)]
theorem FK: ∀ (m:List Int) (a:RA) (w:World),(∀ X∈nE m a,X.holds w)→ ∀ X∈QO m a,X.holds w:=fun m a w h X hX=>by
 simp only [QO,bW] at hX
 subst hX
 have:=nD (h _ (List.mem_singleton.2 rfl))
 simpa using this
theorem IU {l:List (List Int)} {bz:List RA}:(bo (aU nE l bz)).wr=true:=by
 show (aU nE l bz).all (·.wr)=true
 rw [fc]
 intro X hX
 obtain ⟨k,m,a,_,_,h⟩:=jJ hX
 simp only [nE,bW] at h
 subst h; rfl
theorem kX {ls:List (List Int)} {az:List RA} (h:az.length=ls.length):(List.zipWith kg ls az).length=ls.length:=by simp [h]
theorem Mk (l:List (List Int)) (az:List RA): ∀ v∈(List.zipWith kg l az).flatten,v.oneCell'=true:=by
 induction l generalizing az with
 |nil=>intro v hv; simp at hv
 |cons x l ih=>
  cases az with
  |nil=>intro v hv; simp at hv
  |cons a az=>
   intro v hv
   rw [List.zipWith_cons_cons,List.flatten_cons,kM] at hv
   rcases hv with hv|hv
   ·simp [kg] at hv; subst hv; rfl
   ·exact ih az v hv
section
variable {M A:Type} {f:M→A→List av} {ms:List M} {asl:List A} {k:Nat} {m:M} {a:A} {X:av}
theorem si:fz f (ms.set k m) (asl.set k a) k=fz f ms asl k:=by
 unfold fz
 rw [List.take_set_of_le (Nat.le_refl k),List.drop_set_of_lt (Nat.lt_succ_self k),List.take_set_of_le (Nat.le_refl k),List.drop_set_of_lt (Nat.lt_succ_self k)]
theorem St.RE {S:BS} {w0 w:World} {C:List av} (hk:k<ms.length) (hk2:k<asl.length) (hf:f m a=[X]) (h:St S w0 (X::bo (fz f ms asl k)::C) w):St S w0 (bo (aU f (ms.set k m) (asl.set k a))::C) w:=by
 have A:St S w0 (bo (fz f ms asl k)::X::C) w:=h.perm (List.Perm.swap _ _ _)
 have B:=A.ig
 have D:St S w0 ((f m a++fz f (ms.set k m) (asl.set k a) k)++C) w:=by
  rw [hf,si]
  exact B.perm (List.perm_middle (a:=X) (l₁:=fz f ms asl k) (l₂:=C))
 exact kR (kP (List.getElem?_set_self hk) (List.getElem?_set_self hk2)).symm D.tied
theorem qh {β:Type} {c:M→A→β}:(List.zipWith c ms asl).set k (c m a)=List.zipWith c (ms.set k m) (asl.set k a):=by
 apply List.ext_getElem?
 intro j
 rw [List.getElem?_set]
 by_cases e:k=j
 ·subst e
  rw [if_pos rfl,List.length_zipWith,List.getElem?_zipWith,List.getElem?_set,List.getElem?_set,if_pos rfl,if_pos rfl]
  by_cases B:k<ms.length
  ·by_cases C:k<asl.length
   ·rw [if_pos om,if_pos B,if_pos C]
   ·rw [if_neg om,if_pos B,if_neg C]
  ·rw [if_neg om,if_neg B]
 ·rw [if_neg e,List.getElem?_zipWith,List.getElem?_zipWith,List.getElem?_set_ne e,List.getElem?_set_ne e]
variable {E:ff} {ops:Array Oper} {Q:cZ} {rest:List Oper} {D:List Deferred} {L:List (Nat×Value)} {C C1:List av}
abbrev Cg (C:List av) (i j:Nat):List Nat:=j::i::(List.range C.length).filter fun k=>k != i&&k != j
abbrev Hw (C:List av) (i:Nat):List Nat:=i::(List.range C.length).filter fun k=>k != i
theorem E_ (i j:Nat) (hk:k<ms.length) (hk2:k<asl.length) (hf:f m a=[X]) (hn:decide (Cg C i j).Nodup=true) (hC:o2 C (Cg C i j)=some (X::bo (fz f ms asl k)::C1))
 (h:RJ E ops Q rest D L (bo (aU f (ms.set k m) (asl.set k a))::C1)):RJ E ops Q rest D L C:=fun a w hf' hs=>h a w hf' (St.RE hk hk2 hf (St.kj _ hn (jF hC) hs))
theorem Dp {c:Code} (i:Nat) (hm:ms[k]? =some m) (ha:asl[k]? =some a) (hf:f m a=[X]) (hn:decide (Hw C i).Nodup=true) (hC:o2 C (Hw C i)=some (bo (aU f ms asl)::C1))
 (h:WJ E c Q D L (X::bo (fz f ms asl k)::C1)):WJ E c Q D L C:=fun a w hf' hs=>h a w hf' (St.out hm ha hf (St.kj _ hn (jF hC) hs))
theorem Nk {K:Act→World→Prop} (i j:Nat) (hk:k<ms.length) (ha:asl[k]? =some a) (hf:f m a=[X]) (hn:decide (Cg C i j).Nodup=true) (hC:o2 C (Cg C i j)=some (X::bo (fz f ms asl k)::C1))
 (h:KJ E K D L (bo (aU f (ms.set k m) asl)::C1)):KJ E K D L C:=fun a w hf' hs=>h a w hf' (St.back hk ha hf (St.kj _ hn (jF hC) hs))
theorem PT {Y Y':List av} (i j:Nat) (hn:decide (Cg C i j).Nodup=true) (hC:o2 C (Cg C i j)=some (X::bo Y::C1)) (e:Y++[X]=Y') (h:RJ E ops Q rest D L (bo Y'::C1)):RJ E ops Q rest D L C:=fun a w hf hs=>h a w hf ((St.kj _ hn (jF hC) hs).tie e)
theorem Iz {K:Act→World→Prop} {Y Y':List av} (i j:Nat) (hn:decide (Cg C i j).Nodup=true) (hC:o2 C (Cg C i j)=some (X::bo Y::C1)) (e:Y++[X]=Y') (h:KJ E K D L (bo Y'::C1)):KJ E K D L C:=fun a w hf hs=>h a w hf ((St.kj _ hn (jF hC) hs).tie e)
end
theorem Es {M A:Type} {f:M→A→List av} {ms:List M} {asl:List A} {m:M} {a:A} {X:av} (h:ms.length=asl.length) (hf:f m a=[X]):aU f ms asl++[X]=aU f (ms++[m]) (asl++[a]):=by
 rw [jN h]; simp [aU,hf]
theorem GO {M A β:Type} {f:M→A→β} {ms:List M} {asl:List A} {m:M} {a:A} (h:ms.length=asl.length):List.zipWith f ms asl++List.zipWith f [m] [a]=List.zipWith f (ms++[m]) (asl++[a]):=(List.zipWith_append h).symm
theorem su {r:cf} {k:Nat}:((eM r k).map (·.1)).Nodup:=by
 unfold eM
 rw [List.map_filterMap]
 refine List.Pairwise.filterMap _ ?_ (List.nodup_range (n:=r.aI.length))
 intro a b A x hx y hy e
 subst e
 simp only [Option.map_map,Option.map_eq_some_iff,Function.comp] at hx hy
 obtain ⟨_,_,rfl⟩:=hx
 obtain ⟨_,_,h⟩:=hy
 exact A om
noncomputable def bG (r:cf):List (List Int):=if bX r=0 then Classical.epsilon (fun G=>ic (aF (aB r)) ((aB r).map (·.1)) G∧Cr G) else []
theorem Bj {r:cf} (h: ¬ bX r=0):bG r=[]:=if_neg h
theorem tH {r:cf} {G:List (List Int)} (he:bX r=0) (h1:ic (aF (aB r)) ((aB r).map (·.1)) G) (h2:Cr G):G=bG r:=by
 unfold bG
 rw [if_pos he]
 have A:=Classical.epsilon_spec (p:=fun G=>ic (aF (aB r)) ((aB r).map (·.1)) G∧Cr G) ⟨G,h1,h2⟩
 exact rK su (fun i hi=>(gR (lM he)).2.1) h1 A.1 h2 A.2
section
variable {f:Int→aa} {L:List Int} {G:List (List Int)} {g:List Int} {x last:Int} {i j:Nat}
theorem Aj (h:l9 f (L.take i) G last) (hg:g∈G):g.length≤L.length:=by
 have A:=h.ok.perm.length_eq
 have B:g.length≤G.flatten.length:=(List.sublist_flatten_of_mem hg).length_le
 rw [List.length_take] at A; omega
theorem E2 (h:l9 f (L.take i) G last):G.length≤L.length:=by
 have A:=h.ok.perm.length_eq
 have B: ∀ G:List (List Int),(∀ g∈G,g≠[])→G.length≤G.flatten.length:=fun G=>by
  induction G with
  |nil=>intro _; simp
  |cons g G ih=>
   intro hG
   have C:=ih fun y hy=>hG y (cS _ hy)
   have D:=List.length_pos_iff.2 (hG g cm)
   simp only [List.flatten_cons,List.length_cons,List.length_append]; omega
 have C:=B G h.ok.some_
 rw [List.length_take] at A; omega
theorem pz (h0: -1≤(f x).Hi) (hx:L[i]? =some x) (hg:(G++[[]])[(G++[([]:List Int)]).length-1]? =some g) (h:l9 f (L.take i) G last) (hl:last<(f x).Lo):l9 f (L.take (i+1)) ((G++[[]]).set ((G++[([]:List Int)]).length-1) (g++[x])) (max last (f x).Hi):=by
 have A:(G++[([]:List Int)]).length-1=G.length:=by simp
 rw [A] at hg ⊢
 simp at hg
 subst hg
 rw [jS hx]
 have B:(G++[([]:List Int)]).set G.length ([]++[x])=G++[[x]]:=by simp
 rw [B]
 exact Na h0 h hl
theorem oh (h0: -1≤(f x).Hi) (hf: ∀ i∈L,(f i).Lo≤(f i).Hi) (hup:Ew (fun u=>(f u).Lo) L) (hx:L[i]? =some x) (hg:G[G.length-1]? =some g) (h:l9 f (L.take i) G last) (hl: ¬ last<(f x).Lo):l9 f (L.take (i+1)) (G.set (G.length-1) (g++[x])) (max last (f x).Hi):=by
 obtain ⟨A,F⟩:=List.getElem?_eq_some_iff.1 hg
 obtain ⟨G',y,rfl⟩: ∃ G' y,G=G'++[y]:=⟨G.dropLast,G.getLast (by intro e; subst e; simp at A),(List.dropLast_concat_getLast _).symm⟩
 have D:(G'++[y]).length-1=G'.length:=by simp
 simp only [D] at hg ⊢
 simp at hg
 subst hg
 have E:(G'++[y]).set G'.length (y++[x])=G'++[y++[x]]:=by simp
 rw [jS hx,E]
 refine It h0 (fun i hi=>hf i (List.mem_of_mem_take hi)) (fun a ha=>?_) h hl
 obtain ⟨C,B⟩:=List.getElem?_eq_some_iff.1 hx
 obtain ⟨q,hq,rfl⟩:=List.mem_iff_getElem.1 ha
 rw [List.length_take] at hq
 rw [List.getElem_take]
 have:=List.pairwise_iff_getElem.1 hup q i om C om
 rw [B] at this
 exact this
theorem Gb (hlo:0≤(f x).Lo) (h:l9 f (L.take i) G last) (hl: ¬ last<(f x).Lo):1≤G.length:=by
 rcases h.at_ with ⟨_,e⟩|⟨a,ha,_⟩
 ·omega
 ·exact List.length_pos_iff.2 (Iq h (fun e=>by rw [e] at ha; cases ha))
/-- the first groups are in order -/
def np (G:List (List Int)) (j:Nat):List (List Int):=(G.take j).map dk++G.drop j
theorem DQ (h:G.length≤j):np G j=G.map dk:=by unfold np; rw [List.take_of_length_le h,List.drop_eq_nil_of_le h,List.append_nil]
theorem DP:(np G j).length=G.length:=by unfold np; rw [List.length_append,List.length_map,List.length_take,List.length_drop]; omega
theorem Hq (h:G[j]? =some g):(np G j)[j]? =some g:=by
 have hj:=(List.getElem?_eq_some_iff.1 h).1
 unfold np
 rw [List.getElem?_append_right (by rw [List.length_map,List.length_take]; omega),List.length_map,List.length_take,Nat.min_eq_left om,Nat.sub_self,List.getElem?_drop]
 simpa using h
theorem DX (h:G[j]? =some g):(np G j).set j (dk g)=np G (j+1):=by
 have hj:=(List.getElem?_eq_some_iff.1 h).1
 unfold np
 rw [List.set_append_right _ _ (by rw [List.length_map,List.length_take]; omega),List.length_map,List.length_take,Nat.min_eq_left om,Nat.sub_self,List.drop_eq_getElem_cons hj,List.set_cons_zero,List.take_add_one,h]
 simp
theorem IV {gz:List RA}:List.zipWith kg (G.map dk) gz=List.zipWith kg G gz:=by
 induction G generalizing gz with
 |nil=>rfl
 |cons g G ih=>
  cases gz with
  |nil=>rfl
  |cons a gz=>simp only [List.map_cons,List.zipWith_cons_cons,ih]; simp [kg]
end
end
section
open Go.RowKit
theorem Ee (l:List au) (az:List RA): ∀ v∈(List.zipWith au.cells l az).flatten,v.oneCell'=true:=by
 induction l generalizing az with
 |nil=>intro v hv; simp at hv
 |cons x l ih=>
  cases az with
  |nil=>intro v hv; simp at hv
  |cons a az=>
   intro v hv
   rw [List.zipWith_cons_cons,List.flatten_cons,kM] at hv
   rcases hv with hv|hv
   ·simp [au.cells,dv.cells] at hv
    rcases hv with rfl|rfl<;>rfl
   ·exact ih az v hv
theorem g3 {l:List au} {az:List RA} (h:az.length=l.length):(List.zipWith au.cells l az).length=l.length:=by simp [h]
theorem gv {l:List au} {bz:List RA}:(bo (aU au.owns l bz)).wr=true:=by
 show (aU au.owns l bz).all (·.wr)=true
 rw [fc]
 intro X hX
 obtain ⟨k,m,a,_,_,h⟩:=jJ hX
 simp only [au.owns,bW] at h
 subst h; rfl
/-- what is known of new rows -/
def rH (l:List au) (bz:List RA):Prop:= ∀ (k:Nat) m (a:RA),l[k]? =some m→bz[k]? =some a→m.bu.length≤a.2
theorem Ky {l:List au} {bz:List RA} {i:Nat} {x:au} {nw:RA} (h:rH l bz) (hb:bz.length=i) (hx:l[i]? =some x) (hc:x.bu.length≤nw.2):rH l (bz++[nw]):=fun k m a hm ha=>by
 by_cases e:k<bz.length
 ·rw [List.getElem?_append_left e] at ha
  exact h k m a hm ha
 ·rw [List.getElem?_append_right om] at ha
  have hk:k-bz.length=0:=by
   rcases Nat.eq_zero_or_pos (k-bz.length) with A|A
   ·exact A
   ·rw [List.getElem?_eq_none (by simp; omega)] at ha; cases ha
  rw [hk] at ha
  simp at ha
  have:k=i:=by omega
  subst this
  rw [hx] at hm; cases hm
  subst ha; exact hc
theorem iY: ∀ (m:au) (a:RA) (w:World),(∀ X∈au.owns m a,X.holds w)→ ∀ X∈au.gY m a,X.holds w:=fun m a w h X hX=>by
 simp only [au.gY,bW] at hX
 subst hX
 have:=nD (h _ (List.mem_singleton.2 rfl))
 simpa using this
theorem eE.QG {l:bf} {az bz:List RA} (h:eE l az) (hb:bz.length=l.ai.length) (hc:rH l.ai bz):eE l bz:=⟨h.sE,h.side,h.sD,hb,h.sB,fun k m a hm ha=>⟨hc k m a hm ha,by
 obtain ⟨A,B⟩: ∃ A,az[k]? =some A:=⟨az[k]'(by rw [h.og]; exact (List.getElem?_eq_some_iff.1 hm).1),e9 _⟩
 exact (h.QL k m A hm B).2⟩⟩
section
variable {E:ff} {ops:Array Oper} {Q:cZ} {rest:List Oper} {D:List Deferred} {L:List (Nat×Value)} {C:List av}
end
end
section
open Go.RowKit
def ov (m:aA) (a:RA):List av:=[own a.1 a.2 OL 2 (m.cx.aj.map aN.cells)]
def gT (m:List aA) (a:cQ):List av:=own a.1.1 a.1.2 CY 7 (List.zipWith aA.cells m a.2)::aU ov m a.2
theorem Qo: ∀ (m:aA) (a:RA) (w:World),(∀ X∈ov m a,X.holds w)→ ∀ X∈aA.gY m a,X.holds w:=fun m a w h X hX=>by
 simp only [aA.gY,bW] at hX
 subst hX
 have:=nD (h _ (List.mem_singleton.2 rfl))
 simpa using this
theorem qf {m:List aA} {asl:List RA} (h:asl.length=m.length):(List.zipWith aA.cells m asl).length=m.length:=by simp [h]
theorem fw {m:List (List aA)} {asl:List cQ} (h:asl.length=m.length):(List.zipWith cz m asl).length=m.length:=by simp [h]
theorem NX {m:List aA} {asl:List RA}:(aU ov m asl).all (·.wr)=true:=by
 rw [fc]
 intro X hX
 obtain ⟨k,d,a,_,_,h⟩:=jJ hX
 simp only [ov,bW] at h
 subst h; rfl
theorem kp {m:List (List aA)} {asl:List cQ}:(bo (aU gT m asl)).wr=true:=by
 show (aU gT m asl).all (·.wr)=true
 rw [fc]
 intro X hX
 obtain ⟨k,d,a,_,_,h⟩:=jJ hX
 rcases List.mem_cons.1 h with rfl|h
 ·rfl
 ·exact List.all_eq_true.1 NX X h
theorem MZ (l:List aA) (az:List RA): ∀ v∈(List.zipWith aA.cells l az).flatten,v.oneCell'=true:=by
 induction l generalizing az with
 |nil=>intro v hv; simp at hv
 |cons x l ih=>
  cases az with
  |nil=>intro v hv; simp at hv
  |cons a az=>
   intro v hv
   rw [List.zipWith_cons_cons,List.flatten_cons,kM] at hv
   rcases hv with hv|hv
   ·simp [aA.cells,br.cells,eK.cells,aa.cells] at hv
    rcases hv with rfl|rfl|rfl|rfl|rfl|rfl|rfl<;>rfl
   ·exact ih az v hv
theorem Hj (l:List (List aA)) (az:List cQ): ∀ v∈(List.zipWith cz l az).flatten,v.oneCell'=true:=by
 induction l generalizing az with
 |nil=>intro v hv; simp at hv
 |cons x l ih=>
  cases az with
  |nil=>intro v hv; simp at hv
  |cons a az=>
   intro v hv
   rw [List.zipWith_cons_cons,List.flatten_cons,kM] at hv
   rcases hv with hv|hv
   ·simp [cz] at hv; subst hv; rfl
   ·exact ih az v hv
/-- every heat has as many places as descents -/
def te (H:List (List aA)) (hz:List cQ):Prop:=hz.length=H.length∧ ∀ (k:Nat) h (a:cQ),H[k]? =some h→hz[k]? =some a→a.2.length=h.length
theorem Nf {a:OA} {c e sz n:Nat} {es:List (List Value)} {w:World} (h:(own a c e sz es).holds w) (hn:es.length=n):(rd a n sz es).holds w:=by subst hn; exact nD h
theorem hO {C:List av} {H:List (List aA)} {hz:List cQ} (i:Nat) (hC:C[i]? =some (bo (aU gT H hz))) (hh:te H hz):jc C (e7 (aU hU H hz)).holds:=fun w hw X hX=>by
 have hb:=hw _ (aX hC)
 obtain ⟨k,m,a,A,B,D⟩:=jJ hX
 rcases List.mem_cons.1 D with rfl|D
 ·exact Nf (hb.1 _ (cj A B cm)) (qf (hh.2 k m a A B))
 ·obtain ⟨q,d,b,E,F,G⟩:=jJ D
  exact Qo d b w (fun Y hY=>hb.1 Y (cj A B (cS _ (cj E F hY)))) X G
section
variable {α:Type}
def ks (bz az:List α) (i:Nat):List α:=bz++az.drop i
variable {bz az:List α} {i:Nat} {a b:α}
theorem iF (hb:bz.length=i) (hi:i≤az.length):(ks bz az i).length=az.length:=by simp [ks,hb]; omega
theorem wE (h:az.length≤i):ks bz az i=bz:=by unfold ks; rw [List.drop_eq_nil_of_le h,List.append_nil]
theorem zP (hb:bz.length=i) (h:az[i]? =some a):(ks bz az i)[i]? =some a:=by
 unfold ks
 rw [List.getElem?_append_right om,hb,Nat.sub_self,List.getElem?_drop]
 simpa using h
theorem LD (hb:bz.length=i):(ks (bz++[b]) az (i+1))[i]? =some b:=by
 unfold ks
 rw [List.getElem?_append_left (by simp; omega),List.getElem?_append_right om,hb,Nat.sub_self]; rfl
theorem Lg (hb:bz.length=i) (h:az[i]? =some a):(ks bz az i).set i b=ks (bz++[b]) az (i+1):=by
 unfold ks
 have hi:=(List.getElem?_eq_some_iff.1 h).1
 rw [List.set_append_right _ _ om,hb,Nat.sub_self,List.drop_eq_getElem_cons hi,List.set_cons_zero]
 simp
theorem xC {M β:Type} {c:M→α→β} {l:List M} {x:M} (hx:l[i]? =some x) (hb:bz.length=i) (h:az[i]? =some a):(List.zipWith c l (ks bz az i)).set i (c x b)=List.zipWith c l (ks (bz++[b]) az (i+1)):=by
 rw [qh,Lg hb h]
 congr 1
 obtain ⟨hi,rfl⟩:=List.getElem?_eq_some_iff.1 hx
 exact List.set_getElem_self hi
theorem rQ {M:Type} {f:M→α→List av} {l:List M} {x:M} (hx:l[i]? =some x) (hb:bz.length=i):aU f (l.take i) bz++f x b=aU f (l.take (i+1)) (bz++[b]):=by
 have hi:=(List.getElem?_eq_some_iff.1 hx).1
 rw [List.take_add_one,hx,Option.toList_some,jN (by rw [List.length_take,hb]; omega)]
 simp [aU]
end
theorem Co: ∀ {l:List (List aA)} {u v:List cQ},u.map (·.1)=v.map (·.1)→List.zipWith cz l u=List.zipWith cz l v
 |[],u,v,_=>by simp
 |x::l,[],[],_=>rfl
 |x::l,[],b::v,h=>by simp at h
 |x::l,a::u,[],h=>by simp at h
 |x::l,a::u,b::v,h=>by
  simp only [List.map_cons,List.cons.injEq] at h
  rw [List.zipWith_cons_cons,List.zipWith_cons_cons,Co h.2]
  have e:cz x a=cz x b:=by simp only [cz,h.1]
  rw [e]
theorem IH {l:List (List aA)} {hz ha:List cQ} {p:RA} {x y:List RA} {i:Nat}:List.zipWith cz l (ks (hz++[(p,x)]) ha i)=List.zipWith cz l (ks (hz++[(p,y)]) ha i):=Co (by simp [ks])
theorem Mx {H:List (List aA)} {hz:List cQ} {i:Nat} {x:List aA} {b:cQ} (hx:H[i]? =some x) (h: ∀ (k:Nat) y (a:cQ),H[k]? =some y→hz[k]? =some a→a.2.length=y.length) (hb:hz.length=i) (hl:b.2.length=x.length): ∀ (k:Nat) y (a:cQ),H[k]? =some y→(hz++[b])[k]? =some a→a.2.length=y.length:=fun k y a hy ha=>by
 by_cases e:k<hz.length
 ·rw [List.getElem?_append_left e] at ha
  exact h k y a hy ha
 ·rw [List.getElem?_append_right om] at ha
  have hk:k-hz.length=0:=by
   rcases Nat.eq_zero_or_pos (k-hz.length) with A|A
   ·exact A
   ·rw [List.getElem?_eq_none (by simp; omega)] at ha; cases ha
  rw [hk] at ha
  simp at ha
  have:k=i:=by omega
  subst this
  rw [hx] at hy; cases hy
  subst ha; exact hl
theorem Fg {S:BS} {w0 w:World} {C:List av} {A:av} {Y Z:List av} (h:St S w0 (A::bo Y::bo Z::C) w):St S w0 (bo (Z++A::Y)::C) w:=by
 have D:St S w0 (bo Y::A::bo Z::C) w:=h.perm (List.Perm.swap _ _ _)
 have E:St S w0 (Y++(A::bo Z::C)) w:=D.ig
 have F:St S w0 (bo Z::(A::Y)++C) w:=E.perm (by
  have B:(Y++(A::bo Z::C)).Perm ((A::bo Z::C)++Y):=List.perm_append_comm
  refine B.trans ?_
  show (A::bo Z::(C++Y)).Perm (bo Z::A::(Y++C))
  exact (List.Perm.swap _ _ _).trans (((List.perm_append_comm (l₁:=C) (l₂:=Y)).cons A).cons _))
 have G:St S w0 (Z++((A::Y)++C)) w:=F.ig
 have H:St S w0 ((Z++A::Y)++C) w:=by simpa using G
 exact H.tied
theorem HS {S:BS} {w0 w:World} {C:List av} {A:av} {Y Z:List av} (h:St S w0 (bo (A::Y++Z)::C) w):St S w0 (A::bo Y::bo Z::C) w:=by
 have D:St S w0 ((A::Y++Z)++C) w:=h.ig
 have E:St S w0 (Z++(A::(Y++C))) w:=D.perm (by
  show (A::(Y++Z)++C).Perm (Z++(A::(Y++C)))
  have B:(A::(Y++Z)++C).Perm (A::(Z++(Y++C))):=by
   show (A::((Y++Z)++C)).Perm _
   refine List.Perm.cons A ?_
   rw [← List.append_assoc]
   exact List.perm_append_comm.append_right C
  exact B.trans (List.perm_middle (a:=A) (l₁:=Z) (l₂:=Y++C)).symm)
 have F:=E.tied
 have G:St S w0 (Y++(A::bo Z::C)) w:=F.perm (by
  show (bo Z::A::(Y++C)).Perm (Y++(A::bo Z::C))
  have B:(Y++(A::bo Z::C)).Perm (A::bo Z::(Y++C)):=by
   have:=List.perm_append_comm (l₁:=Y) (l₂:=A::bo Z::C)
   refine this.trans ?_
   show (A::bo Z::(C++Y)).Perm _
   exact (List.perm_append_comm.cons _).cons _
  exact (B.trans (List.Perm.swap _ _ _)).symm)
 have H:=G.tied
 exact H.perm (List.Perm.swap _ _ _)
theorem xM {H:List (List aA)} {hz:List cQ} {k:Nat} {h:List aA} {a:cQ} (hh:H[k]? =some h) (ha:hz[k]? =some a):(aU gT H hz).Perm (own a.1.1 a.1.2 CY 7 (List.zipWith aA.cells h a.2)::aU ov h a.2++fz gT H hz k):=kP hh ha
theorem Qq {E:ff} {K:Act→World→Prop} {D:List Deferred} {L:List (Nat×Value)} {C:List av} {a:OA} {c e sz:Nat} {es:List (List Value)} (i:Nat) (hC:C[i]? =some (own a c e sz es)) (k:es.length≤c→KJ E K D L C):KJ E K D L C:=fun act w hf hs=>k (Fb (hs.holds _ (aX hC))) act w hf hs
abbrev NI (C:List av) (i j k:Nat):List Nat:=k::j::i::(List.range C.length).filter fun q=>q != i&&q != j&&q != k
section
variable {E:ff} {ops:Array Oper} {Q:cZ} {rest:List Oper} {D:List Deferred} {L:List (Nat×Value)} {C C1:List av} {K:Act→World→Prop}
variable {H:List (List aA)} {hz:List cQ} {h h':List aA} {a a':cQ} {k:Nat} {X:av} {Y Z Z':List av}
/-- i: the others, j: what hangs on the row, q: the row -/
theorem Po (i j q:Nat) (hn:decide (NI C i j q).Nodup=true) (hC:o2 C (NI C i j q)=some (X::bo Y::bo Z::C1)) (e:Z++X::Y=Z') (hk:KJ E K D L (bo Z'::C1)):KJ E K D L C:=fun a w hf hs=>by
 subst e; exact hk a w hf (Fg (St.kj _ hn (jF hC) hs))
theorem P5 {c:Code} (i:Nat) (hh:H[k]? =some h) (ha:hz[k]? =some a) (hn:decide (Hw C i).Nodup=true) (hC:o2 C (Hw C i)=some (bo (aU gT H hz)::C1))
 (hk:WJ E c Q D L (own a.1.1 a.1.2 CY 7 (List.zipWith aA.cells h a.2)::bo (aU ov h a.2)::bo (fz gT H hz k)::C1)):WJ E c Q D L C:=fun act w hf hs=>
 hk act w hf (HS (kR (xM hh ha) (St.kj _ hn (jF hC) hs)))
theorem Jf {S:BS} {w0 w:World} (hk:k<H.length) (hk2:k<hz.length) (hs:St S w0 (own a'.1.1 a'.1.2 CY 7 (List.zipWith aA.cells h' a'.2)::bo (aU ov h' a'.2)::bo (fz gT H hz k)::C) w):St S w0 (bo (aU gT (H.set k h') (hz.set k a'))::C) w:=by
 have B:=Fg hs
 refine kR ?_ B
 have A:=xM (H:=H.set k h') (hz:=hz.set k a') (List.getElem?_set_self hk) (List.getElem?_set_self hk2)
 rw [si] at A
 exact (List.perm_append_comm).trans A.symm
end
theorem HN {H:List (List aA)} {hz:List cQ} {k:Nat} {h h':List aA} {a:cQ} {bs:List RA} (hh:H[k]? =some h) (ha:hz[k]? =some a) (hl:h'.length=h.length):List.zipWith cz (H.set k h') (hz.set k (a.1,bs))=List.zipWith cz H hz:=by
 rw [← qh]
 have e:cz h' (a.1,bs)=cz h a:=by simp only [cz,hl]
 rw [e]
 have hz':=dZ (f:=cz) hh ha
 obtain ⟨hi,A⟩:=List.getElem?_eq_some_iff.1 hz'
 rw [← A]
 exact List.set_getElem_self hi
theorem N2 {S:BS} {w0 w:World} {C:List av} {h:List aA} {bs:List RA} {i:Nat} {d:aA} {b:RA} {d':aA} (hd:h[i]? =some d) (hb:bs[i]? =some b) (hs':d'.cx.aj=[]) (hs:St S w0 (bo (aU ov h bs)::C) w):St S w0 (bo (aU ov (h.set i d') (bs.set i (none,0)))::C) w:=by
 have A:=(kR (kP hd hb) hs).ig
 have B:St S w0 (fz ov h bs i++C) w:=St.take (by simpa using A) (List.sublist_append_right (ov d b) (fz ov h bs i++C))
 have D:=B.qS OL 2
 have E:St S w0 ((ov d' (none,0)++fz ov (h.set i d') (bs.set i (none,0)) i)++C) w:=by
  rw [si]
  simpa [ov,hs'] using D
 exact kR (kP (List.getElem?_set_self (List.getElem?_eq_some_iff.1 hd).1) (List.getElem?_set_self (List.getElem?_eq_some_iff.1 hb).1)).symm E.tied
theorem fg.QG {r:cf} {az bz:List RA} {ha hz:List cQ} (h:fg r az ha) (hb:bz.length=r.ah.ai.length) (hc:rH r.ah.ai bz) (hh:te r.aq hz):fg r bz hz:=⟨h.line.QG hb hc,h.iN,h.draw,h.iM,hh.1,fun k x a hx ha'=>by
 obtain ⟨A,C⟩: ∃ A,ha[k]? =some A:=⟨ha[k]'(by rw [h.has]; exact (List.getElem?_eq_some_iff.1 hx).1),e9 _⟩
 have B:=h.oI k x A hx C
 exact ⟨B.len,hh.2 k x a hx ha',B.sig⟩⟩
end
section
open Go.RowKit
def kK (t:aa):aA:=⟨false,true,t,⟨0,0,[]⟩⟩
def dL (H:List (List aA)) (h i:Int) (t:aa):List (List aA):=H.set h.toNat ((H[h.toNat]?.getD []).set i.toNat (kK t))
def jz (r:cf) (h i:Int) (t:aa):cf:=⟨r.ah,r.aI,r.bD,r.ed,dL r.aq h i t⟩
@[simp] theorem QK {r:cf} {h i:Int} {t:aa}:(jz r h i t).ah=r.ah:=rfl
@[simp] theorem P7 {r:cf} {h i:Int} {t:aa}:(jz r h i t).aI=r.aI:=rfl
@[simp] theorem QN {r:cf} {h i:Int} {t:aa}:(jz r h i t).bD=r.bD:=rfl
theorem xK {m:gp} {i:Int} {s:aa}:(di m i s).length≤m.length:=by
 unfold di
 refine Nat.le_trans (List.length_filter_le _ _) ?_
 rw [List.length_map,List.length_range]; exact Nat.le_refl _
noncomputable def qu (r:cf) (h i:Int) (t:aa):Int:=if ((0≤h∧h≤(r.aq.length:Int)-1)∧qK r i)∧iJ t then (if ((r.aq[h.toNat]?).bind (·[i.toNat]?)).any (·.Out)=true then 8 else 0) else 2
noncomputable def dQ (r:cf) (h i:Int) (t:aa):Int:=if bX r=0 then qu r h i t else bX r
noncomputable def cw (r:cf) (h i:Int) (t:aa):List Int:=if dQ r h i t=0 then (dk ((aB r).map (·.1))).filter (fun k=> !decide (di (aB r) k (aF (aB r) k)=di (aB (jz r h i t)) k (aF (aB (jz r h i t)) k))) else []
section
variable {r:cf} {h i:Int} {t:aa} {ht:List aA} {d:aA}
theorem vW {H:List (List aA)} (hh:H[h.toNat]? =some ht):dL H h i t=H.set h.toNat (ht.set i.toNat (kK t)):=by unfold dL; rw [hh]; rfl
theorem ja {H:List (List aA)}:(dL H h i t).length=H.length:=by unfold dL; rw [List.length_set]
theorem l_ (q: ¬ (((0≤h∧h≤(r.aq.length:Int)-1)∧0≤i∧i≤(r.aI.length:Int)-1)∧iJ t)):qu r h i t=2:=if_neg q
theorem FT (q:((0≤h∧h≤(r.aq.length:Int)-1)∧0≤i∧i≤(r.aI.length:Int)-1)∧iJ t) (h1:r.aq[h.toNat]? =some ht) (h2:ht[i.toNat]? =some d):qu r h i t=if d.Out=true then 8 else 0:=by
 unfold qu
 rw [if_pos (show ((0≤h∧h≤(r.aq.length:Int)-1)∧qK r i)∧iJ t from q),h1,Option.bind_some,h2,Option.any_some]
theorem sO (q:((0≤h∧h≤(r.aq.length:Int)-1)∧0≤i∧i≤(r.aI.length:Int)-1)∧iJ t) (h1:r.aq[h.toNat]? =some ht) (h2:ht[i.toNat]? =some d) (ho:d.Out=true):qu r h i t=8:=by rw [FT q h1 h2,if_pos ho]
theorem NB (q:((0≤h∧h≤(r.aq.length:Int)-1)∧0≤i∧i≤(r.aI.length:Int)-1)∧iJ t) (h1:r.aq[h.toNat]? =some ht) (h2:ht[i.toNat]? =some d) (ho:d.Out=false):qu r h i t=0:=by rw [FT q h1 h2,if_neg (by rw [ho]; decide)]
/-- what it means that there is no error -/
theorem yP (e:qu r h i t=0):((0≤h∧h≤(r.aq.length:Int)-1)∧qK r i)∧iJ t∧((r.aq[h.toNat]?).bind (·[i.toNat]?)).any (·.Out)=false:=by
 unfold qu at e
 split at e
 ·rename_i q
  split at e
  ·cases e
  ·rename_i A; exact ⟨q.1,q.2,by simpa using A⟩
 ·cases e
theorem Cj (e:dQ r h i t=0):bX r=0∧qu r h i t=0:=by
 unfold dQ at e
 split at e
 ·exact ⟨asm,e⟩
 ·exact absurd e asm
theorem rN (e: ¬ bX r=0):dQ r h i t=bX r:=if_neg e
theorem oU (e:bX r=0):dQ r h i t=qu r h i t:=if_pos e
theorem CA {H:List (List aA)} {k:Nat} {y:List aA} (hy:(dL H h i t)[k]? =some y): ∃ x,H[k]? =some x∧y.length=x.length∧ ∀ d∈y,d∈x∨d=kK t:=by
 unfold dL at hy
 rw [List.getElem?_set] at hy
 split at hy
 ·rename_i e
  split at hy
  ·rename_i hl
   have A:H[h.toNat]? =some H[h.toNat]:=e9 hl
   rw [A] at hy
   simp only [Option.getD_some,Option.some.injEq] at hy
   subst hy
   refine ⟨H[h.toNat],by rw [← e]; exact A,by rw [List.length_set],fun d hd=>?_⟩
   exact List.mem_or_eq_of_mem_set hd
  ·cases hy
 ·exact ⟨y,hy,U,fun d hd=> .inl hd⟩
theorem El (hr:eX r) (ht:iJ t):eX (jz r h i t):=⟨hr.num,hr.xH,by
 have:=hr.nh
 show 1≤((dL r.aq h i t).length:Int)∧((dL r.aq h i t).length:Int)≤3
 rw [ja]; exact this,hr.ids,hr.draw,fun y hy=>by
 obtain ⟨k,hk⟩:=List.mem_iff_getElem?.1 hy
 obtain ⟨x,hx,hl,hm⟩:=CA hk
 have A:=hr.oI x (aX hx)
 refine ⟨hl.trans A.1,fun d hd=>?_⟩
 rcases hm d hd with q|rfl
 ·exact A.2 d q
 ·unfold hZ
  rw [if_neg (by simp [kK]),if_pos (by rfl)]
  exact ⟨ht,by simp [l6,kK]⟩⟩
theorem yq (e:dQ r h i t=0):bX (jz r h i t)=0:=by
 obtain ⟨A,B⟩:=Cj e
 obtain ⟨C,D⟩:=iG A
 unfold bX
 rw [if_pos (show dw (jz r h i t).ah=0 from C),if_pos (El D (yP B).2.1)]
theorem fg.rep {az bz:List RA} {ha hz:List cQ} (hin:fg r az ha) (hb:bz.length=r.ah.ai.length) (hc:rH r.ah.ai bz) (hh:te (dL r.aq h i t) hz):fg (jz r h i t) bz hz:=⟨hin.line.QG hb hc,hin.iN,hin.draw,by
 show (dL r.aq h i t).length≤1000000
 rw [ja]; exact hin.iM,hh.1,fun k y a hy ha'=>by
 obtain ⟨x,hx,hl,hm⟩:=CA hy
 obtain ⟨b,hb⟩: ∃ b,ha[k]? =some b:=⟨ha[k]'(by rw [hin.has]; exact (List.getElem?_eq_some_iff.1 hx).1),e9 _⟩
 have A:=hin.oI k x b hx hb
 refine ⟨by rw [hl]; exact A.len,hh.2 k y a hy ha',fun d hd=>?_⟩
 rcases hm d hd with q|rfl
 ·exact A.sig d q
 ·simp [kK]⟩
theorem JY {H:List (List aA)} {k q:Nat}:((dL H h i t)[k]?).bind (·[q]?)=(H[k]?).bind (·[q]?)∨(k=h.toNat∧q=i.toNat∧(∃ d,(H[k]?).bind (·[q]?)=some d)∧((dL H h i t)[k]?).bind (·[q]?)=some (kK t)):=by
 by_cases e:h.toNat=k
 ·cases hk:H[k]? with
  |none=>
   left
   have:(dL H h i t)[k]? =none:=by rw [List.getElem?_eq_none_iff,ja]; exact List.getElem?_eq_none_iff.1 hk
   rw [this]
  |some x=>
   have B:(dL H h i t)[k]? =some (x.set i.toNat (kK t)):=by
    subst e
    rw [vW hk]
    exact List.getElem?_set_self (List.getElem?_eq_some_iff.1 hk).1
   rw [B,Option.bind_some,Option.bind_some]
   by_cases A:i.toNat=q
   ·cases hq:x[q]? with
    |none=>
     left
     rw [List.getElem?_eq_none_iff,List.length_set]; exact List.getElem?_eq_none_iff.1 hq
    |some d=>
     right
     subst A
     exact ⟨e.symm,U,⟨d,U⟩,List.getElem?_set_self (List.getElem?_eq_some_iff.1 hq).1⟩
   ·left; rw [List.getElem?_set_ne A]
 ·left
  unfold dL
  rw [List.getElem?_set_ne e]
theorem yN {l:bf} {H:List (List aA)} {q:Nat} (ho:((H[h.toNat]?).bind (·[i.toNat]?)).any (·.Out)=false): ∀ n,(fT l (dL H h i t) q n).isSome=(fT l H q n).isSome
 |0=>rfl
 |n+1=>by
  have ih:=yN (l:=l) (q:=q) ho n
  unfold fT
  rcases JY (H:=H) (h:=h) (i:=i) (t:=t) (k:=n) (q:=q) with e|⟨rfl,rfl,⟨d,hd⟩,e⟩
  ·rw [e]
   cases e1:fT l (dL H h i t) q n<;>cases e2:fT l H q n<;>simp_all
   cases (H[n]?).bind (·[q]?) with
   |none=>rfl
   |some d=>by_cases c:d.Out=true<;>simp [c]
  ·rw [e,hd]
   have A:d.Out=false:=by rw [hd] at ho; simpa using ho
   cases e1:fT l (dL H h i t) i.toNat h.toNat<;>cases e2:fT l H i.toNat h.toNat<;>simp_all [kK]
theorem OP {r:cf} {k:Nat} {x:Int}:(eM r k).lookup x=if 0≤x∧x<(r.aI.length:Int) then fT r.ah r.aq x.toNat k else none:=by
 by_cases c:0≤x∧x<(r.aI.length:Int)
 ·rw [if_pos c]
  have:=oN (f:=fun q=>fT r.ah r.aq q k) r.aI.length x.toNat
  rw [if_pos om,show (x.toNat:Int)=x by omega] at this
  exact this
 ·rw [if_neg c]
  cases e:(eM r k).lookup x with
  |none=>rfl
  |some v=>
   exfalso
   obtain ⟨q,hq,A,_⟩:=yS ((wK su).2 e)
   simp only at A
   omega
theorem Jr (e:qu r h i t=0) (k:Int):((aB (jz r h i t)).lookup k).isSome=((aB r).lookup k).isSome:=by
 obtain ⟨_,_,ho⟩:=yP e
 unfold aB
 rw [OP,OP]
 show (if 0≤k∧k<(r.aI.length:Int) then fT r.ah (dL r.aq h i t) k.toNat (dL r.aq h i t).length else none).isSome=_
 rw [ja]
 split
 ·exact yN ho _
 ·rfl
theorem BO {m:gp} {k:Int} (h:k∈dk (m.map (·.1))):m.lookup k≠none:=by
 obtain ⟨p,hp,rfl⟩:=List.mem_map.1 (fF.mem_iff.1 h)
 intro e
 exact absurd (List.lookup_eq_none_iff.1 e p hp) sm
theorem Pg {hz:List cQ} {hza:cQ} (hh:te r.aq hz) (h1:r.aq[h.toNat]? =some ht) (h2:hz[h.toNat]? =some hza):te (dL r.aq h i t) (hz.set h.toNat (hza.1,hza.2.set i.toNat (none,0))):=by
 refine ⟨by rw [List.length_set,ja]; exact hh.1,fun k y a hy ha=>?_⟩
 rw [vW h1] at hy
 rw [List.getElem?_set] at hy ha
 by_cases e:h.toNat=k
 ·rw [if_pos e,if_pos (List.getElem?_eq_some_iff.1 h1).1] at hy
  rw [if_pos e,if_pos (List.getElem?_eq_some_iff.1 h2).1] at ha
  cases hy; cases ha
  simp only [List.length_set]
  exact hh.2 _ _ _ h1 h2
 ·rw [if_neg e] at hy ha
  exact hh.2 k y a hy ha
theorem xO (e: ¬ dQ r h i t=0):cw r h i t=[]:=if_neg e
theorem D0 (e:dQ r h i t=0):cw r h i t=(dk ((aB r).map (·.1))).filter (fun k=> !decide (di (aB r) k (aF (aB r) k)=di (aB (jz r h i t)) k (aF (aB (jz r h i t)) k))):=if_pos e
end
section
variable {E:ff} {Q:cZ} {D:List Deferred} {L:List (Nat×Value)} {C C1:List av} {c:Code}
variable {H:List (List aA)} {hz:List cQ} {h h':List aA} {a a':cQ} {k:Nat} {bs:List RA} {i:Nat} {d d':aA} {b:RA}
theorem Pz (j:Nat) (hd:h[i]? =some d) (hb:bs[i]? =some b) (hs':d'.cx.aj=[]) (hn:decide (Hw C j).Nodup=true) (hC:o2 C (Hw C j)=some (bo (aU ov h bs)::C1))
 (hk:WJ E c Q D L (bo (aU ov (h.set i d') (bs.set i (none,0)))::C1)):WJ E c Q D L C:=fun act w hf hs=>hk act w hf (N2 hd hb hs' (St.kj _ hn (jF hC) hs))
theorem M_ (i j q:Nat) (hk:k<H.length) (hk2:k<hz.length) (hn:decide (NI C i j q).Nodup=true) (hC:o2 C (NI C i j q)=some (own a'.1.1 a'.1.2 CY 7 (List.zipWith aA.cells h' a'.2)::bo (aU ov h' a'.2)::bo (fz gT H hz k)::C1))
 (hr:WJ E c Q D L (bo (aU gT (H.set k h') (hz.set k a'))::C1)):WJ E c Q D L C:=fun act w hf hs=>hr act w hf (Jf hk hk2 (St.kj _ hn (jF hC) hs))
end
end
section
set_option maxRecDepth 20000
def BU (x y:Int):aA:=kK ⟨x,y⟩
def ab:cf:=⟨mK,[4,7,9],[2,0,1],2,[[⟨false,false,dD,mC⟩,BU 2600 2600,BU 2580 2609],[BU 2555 2559,BU 2540 2549,BU 2570 2575]]⟩
theorem Ac {l:bf} {x y:Int} (h:iJ ⟨x,y⟩):hZ l (BU x y):=by rw [sS ⟨rfl,rfl⟩]; exact ⟨h,rfl,rfl,rfl⟩
theorem QC:eX ab:=by
 refine ⟨dc,dc,dc,fun i x hx=>?_,dc,fun h hh=>?_⟩
 ·match i with
  |0=>simp [ab] at hx; subst hx; exact ⟨dc,fun y h=>absurd h dc⟩
  |1=>simp [ab] at hx; subst hx; exact ⟨dc,fun y _ h=>by simp [ab] at h; omega⟩
  |2=>simp [ab] at hx; subst hx; exact ⟨dc,fun y _ h=>by simp [ab] at h; omega⟩
  |n+3=>simp [ab] at hx
 ·simp only [ab,eA,List.not_mem_nil,or_false] at hh
  rcases hh with rfl|rfl
  ·refine ⟨U,fun d hd=>?_⟩
   simp only [eA,List.not_mem_nil,or_false] at hd
   rcases hd with rfl|rfl|rfl
   ·rw [tn ⟨rfl,rfl⟩]; exact ⟨Dk.1,rfl⟩
   ·exact Ac dc
   ·exact Ac dc
  ·refine ⟨U,fun d hd=>?_⟩
   simp only [eA,List.not_mem_nil,or_false] at hd
   rcases hd with rfl|rfl|rfl<;>exact Ac dc
theorem pY:bX ab=0:=by unfold bX; rw [if_pos (show dw ab.ah=0 from OH),if_pos QC]
theorem O4:gM ab 0 0=0∧eJ ab 0 0=⟨2596,2602⟩:=by
 have h:gM ab 0 0=0:=by unfold gM; rw [if_pos pY]; decide
 refine ⟨h,?_⟩
 unfold eJ
 rw [if_pos h]
 show dE mK ⟨false,false,dD,mC⟩=_
 rw [vV ⟨rfl,rfl⟩]; exact Dk.2
/-- the sums of a race of three sleds and two heats, all of which run -/
theorem Kj {l:bf} {ids dr:List Int} {t:Int} {H:List (List aA)} {a b c d e f:aA} (hH:H=[[a,b,c],[d,e,f]]) (hi:ids.length=3) (hoa: ∀ x∈[a,b,c,d,e,f],x.Out=false):
 aB ⟨l,ids,dr,t,H⟩=[(0,⟨(dE l a).Lo/10+(dE l d).Lo/10,(dE l a).Hi/10+(dE l d).Hi/10⟩),(1,⟨(dE l b).Lo/10+(dE l e).Lo/10,(dE l b).Hi/10+(dE l e).Hi/10⟩),(2,⟨(dE l c).Lo/10+(dE l f).Lo/10,(dE l c).Hi/10+(dE l f).Hi/10⟩)]∧
 eM ⟨l,ids,dr,t,H⟩ 1=[(0,⟨(dE l a).Lo/10,(dE l a).Hi/10⟩),(1,⟨(dE l b).Lo/10,(dE l b).Hi/10⟩),(2,⟨(dE l c).Lo/10,(dE l c).Hi/10⟩)]:=by
 subst hH
 simp only [eA,List.not_mem_nil,or_false,forall_eq_or_imp,forall_eq] at hoa
 obtain ⟨A,B,C,D,E,F⟩:=hoa
 simp [aB,eM,hi,List.range_succ,fT,A,B,C,D,E,F]
def Mp:gp:=[(0,⟨514,515⟩),(1,⟨514,514⟩),(2,⟨515,517⟩)]
def MG:gp:=[(0,⟨514,515⟩),(1,⟨514,514⟩),(2,⟨516,516⟩)]
def RF:gp:=[(0,⟨259,260⟩),(1,⟨260,260⟩),(2,⟨258,260⟩)]
theorem Az:dE mK ⟨false,false,dD,mC⟩=⟨2596,2602⟩:=by rw [vV ⟨rfl,rfl⟩]; exact Dk.2
theorem pN {l:bf} {x y:Int}:dE l (BU x y)=⟨x,y⟩:=zN ⟨rfl,rfl⟩
theorem vl:aB ab=Mp∧eM ab 1=RF:=by
 obtain ⟨A,B⟩:=Kj (l:=mK) (ids:=[4,7,9]) (dr:=[2,0,1]) (t:=2) (H:=ab.aq) rfl rfl dc
 refine ⟨A.trans ?_,B.trans ?_⟩
 ·rw [Az,pN,pN,pN,pN,pN]; rfl
 ·rw [Az,pN,pN]; rfl
def eW:cf:=jz ab 0 2 ⟨2590,2599⟩
theorem AZ:dQ ab 0 2 ⟨2590,2599⟩=0:=by unfold dQ; rw [if_pos pY]; unfold qu; decide
theorem xz:bX eW=0:=yq AZ
theorem Im:aB eW=MG:=by
 obtain ⟨A,B⟩:=Kj (l:=mK) (ids:=[4,7,9]) (dr:=[2,0,1]) (t:=2) (H:=eW.aq) (a:=⟨false,false,dD,mC⟩) (b:=BU 2600 2600) (c:=BU 2590 2599) (d:=BU 2555 2559) (e:=BU 2540 2549) (f:=BU 2570 2575) rfl rfl dc
 refine A.trans ?_
 rw [Az,pN,pN,pN,pN,pN]; rfl
/-- ranks, as they can be reckoned -/
def Er (m:gp) (i:Int) (own:aa):List Int:=((List.range m.length).map fun (k:Nat)=>(k:Int)+1).filter fun k=>(iO m i own).any fun n=>decide ((gD m i n:Int)+1≤k∧k≤(jt m i n:Int)+1)
theorem FE {m:gp} {i:Int} {own:aa}:di m i own=Er m i own:=by
 unfold di Er
 congr 1
 funext k
 rw [Bool.eq_iff_iff,decide_eq_true_eq,List.any_eq_true]
 simp only [decide_eq_true_eq,qC]
theorem Ai {r:cf} {m:gp} {i:Int} {s:aa} (he:bX r=0) (hm:aB r=m) (hi:qK r i) (hl:m.lookup i=some s):jy r i=0∧pq r i=s∧fU r i=Er m i s:=by
 have h:jy r i=0:=by unfold jy; rw [if_pos he,if_pos hi,hm,hl]; rfl
 refine ⟨h,?_,?_⟩
 ·unfold pq aF; rw [if_pos h,hm,hl]; rfl
 ·unfold fU aF; rw [if_pos h,hm,hl,FE]; rfl
theorem Gc {r:cf} {m:gp} {a b:Int} {s t:aa} (he:bX r=0) (hm:aB r=m) (hi:qK r a∧qK r b∧a≠b) (hs:m.lookup a=some s) (ht:m.lookup b=some t):m_ r a b=0∧vq r a b=By s t∧qp r a b=rz s t:=by
 have h:m_ r a b=0:=by unfold m_; rw [if_pos he,if_pos hi,hm,hs,ht]; simp
 refine ⟨h,?_,?_⟩
 ·unfold vq aF; rw [if_pos h,hm,hs,ht]; rfl
 ·unfold qp aF; rw [if_pos h,hm,hs,ht]; rfl
theorem mh:jy ab 0=0∧pq ab 0=⟨514,515⟩∧fU ab 0=[1,2]:=by have h:=Ai (i:=0) (s:=⟨514,515⟩) pY vl.1 dc rfl; exact ⟨h.1,h.2.1,h.2.2.trans dc⟩
theorem Bn:jy ab 2=0∧pq ab 2=⟨515,517⟩∧fU ab 2=[2,3]:=by have h:=Ai (i:=2) (s:=⟨515,517⟩) pY vl.1 dc rfl; exact ⟨h.1,h.2.1,h.2.2.trans dc⟩
theorem KV:jy eW 2=0∧pq eW 2=⟨516,516⟩:=by have h:=Ai (i:=2) (s:=⟨516,516⟩) xz Im dc rfl; exact ⟨h.1,h.2.1⟩
theorem AJ:m_ ab 1 2=0∧vq ab 1 2=2∧qp ab 1 2=0:=by have h:=Gc (a:=1) (b:=2) (s:=⟨514,514⟩) (t:=⟨515,517⟩) pY vl.1 dc rfl rfl; exact ⟨h.1,h.2.1.trans dc,h.2.2.trans dc⟩
theorem zK:m_ ab 0 1=0∧vq ab 0 1=0∧qp ab 0 1=1:=by have h:=Gc (a:=0) (b:=1) (s:=⟨514,515⟩) (t:=⟨514,514⟩) pY vl.1 dc rfl rfl; exact ⟨h.1,h.2.1.trans dc,h.2.2.trans dc⟩
theorem Lx:iK ab 1=0∧g5 ab 1=[0,2,1]:=by
 have h:iK ab 1=0:=by unfold iK; rw [if_pos pY]; decide
 refine ⟨h,?_⟩
 unfold g5
 rw [if_pos h,if_neg dc]
 unfold tR
 rw [show eM ab (1:Int).toNat=RF from vl.2]
 decide
theorem Le:iK ab 2=0∧g5 ab 2=[0,1,2]:=by
 have h:iK ab 2=0:=by unfold iK; rw [if_pos pY]; decide
 refine ⟨h,?_⟩
 unfold g5
 rw [if_pos h,if_neg dc]
 unfold tR
 rw [show eM ab (2:Int).toNat=Mp from vl.1]
 decide
theorem MD:bG ab=[[0,1,2]]:=by
 refine (tH pY ?_ ?_).symm
 ·rw [vl.1]
  refine ⟨dc,dc,sm,fun g hg t A B=>?_⟩
  rw [List.mem_singleton.1 hg] at A B ⊢
  simp [Mp,aF,List.lookup] at A B ⊢
  omega
 ·intro g hg; rw [List.mem_singleton.1 hg]; decide
theorem Ji:bG eW=[[0,1],[2]]:=by
 refine (tH xz ?_ ?_).symm
 ·rw [Im]
  refine ⟨dc,dc,?_,fun g hg t A B=>?_⟩
  ·simp [JM,MG,aF,List.lookup]
  ·simp only [eA,List.not_mem_nil,or_false] at hg
   rcases hg with rfl|rfl<;>(simp [MG,aF,List.lookup] at A B ⊢; omega)
 ·intro g hg; simp only [eA,List.not_mem_nil,or_false] at hg; rcases hg with rfl|rfl<;>decide
theorem NJ:cw ab 0 2 ⟨2590,2599⟩=[2]:=by
 unfold cw
 rw [if_pos AZ,vl.1,show aB (jz ab 0 2 ⟨2590,2599⟩)=MG from Im]
 simp only [FE]
 rw [show dk (Mp.map (·.1))=[0,1,2] from uT (n:=3) dc]
 decide
end
section
open Go.RowKit
section
variable {E:ff} {ops:Array Oper} {Q:cZ} {rest:List Oper} {D:List Deferred} {L:List (Nat×Value)} {C C1:List av}
theorem wx (X:List av) (ix:List Nat) (hn:decide ix.Nodup=true) (hC:o2 C ix=some (X++C1)) (h:RJ E ops Q rest D L (bo X::C1)):RJ E ops Q rest D L C:=fun a w hf hs=>h a w hf (St.tied (St.kj _ hn (jF hC) hs))
end
theorem qb {E:ff} {ops:Array Oper} {Q:cZ} {rest:List Oper} {D:List Deferred} {L:List (Nat×Value)} {C C1:List av} (ix:List Nat) (hn:decide ix.Nodup=true) (hC:o2 C ix=some C1) (h:RJ E ops Q rest D L C1):RJ E ops Q rest D L C:=fun a w hf hs=>h a w hf (St.kj _ hn (jF hC) hs)
theorem oY {M A B:Type} {f:M→A→List B} {n:Nat} (h: ∀ m a,(f m a).length=n): ∀ {ms:List M} {asl:List A},∀ x∈List.zipWith f ms asl,x.length=n
 |[],asl,x,hx=>by simp at hx
 |m::ms,[],x,hx=>by simp at hx
 |m::ms,a::asl,x,hx=>by
  rw [List.zipWith_cons_cons] at hx
  rcases List.mem_cons.1 hx with rfl|hx
  ·exact h m a
  ·exact oY h x hx
theorem E0 (m:aA) (a:RA):(aA.cells m a).length=7:=rfl
theorem Jh (m:List aA) (a:cQ):(cz m a).length=1:=rfl
theorem Ku (m:List Int) (a:RA):(kg m a).length=1:=rfl
def Sg:List aA:=[⟨false,false,dD,mC⟩,BU 2600 2600,BU 2580 2609]
def SC:List aA:=[BU 2555 2559,BU 2540 2549,BU 2570 2575]
theorem Jv {p q s t u v x y:RA}:te ab.aq [(p,[s,t,u]),(q,[v,x,y])]:=⟨rfl,fun k h a hk ha=>by
 match k with
 |0=>simp [ab] at hk ha; subst hk; subst ha; rfl
 |1=>simp [ab] at hk ha; subst hk; subst ha; rfl
 |n+2=>simp at ha⟩
theorem Pb {bz:List RA} {hz:List cQ} (h:eE mK bz) (hh:te ab.aq hz):fg ab bz hz:=⟨h,dc,dc,dc,hh.1,fun k x a hx ha=>by
 have hm:=aX hx
 have hs:=hh.2 k x a hx ha
 simp only [ab,eA,List.not_mem_nil,or_false] at hm
 rcases hm with rfl|rfl
 ·exact ⟨dc,hs,dc⟩
 ·exact ⟨dc,hs,dc⟩⟩
end
section
open Go.RowKit
def pQ (b:Bool):List Value:=[.bool b]
@[simp] theorem Aa (b:Bool):(pQ b).length=1:=rfl
theorem GC (l:List Bool): ∀ v∈(l.map pQ).flatten,v.oneCell'=true:=my (fun s=>rfl) l
end
section
def lQ (r:cf) (i:Nat):Prop:= ∀ (j:Nat) x,j<i→r.aq[j]? =some x→ ¬ oV x
def mX (x:List aA) (i:Nat):Prop:= ∀ (j:Nat) d,j<i→x[j]? =some d→ ¬ 15<(d.cx.aj.length:Int)
section
variable {r:cf} {i:Nat} {x:List aA} {d:aA}
theorem Bx:lQ r 0:=fun j x hj=>absurd hj (Nat.not_lt_zero _)
theorem BX (h:lQ r i) (hx:r.aq[i]? =some x) (ho: ¬ oV x):lQ r (i+1):=fun j y hj hy=>by
 rcases Nat.lt_or_ge j i with q|q
 ·exact h j y q hy
 ·obtain rfl:j=i:=by omega
  rw [hx] at hy; cases hy; exact ho
theorem Cb:mX x 0:=fun j x hj=>absurd hj (Nat.not_lt_zero _)
theorem B1 (h:mX x i) (hx:x[i]? =some d) (ho: ¬ 15<(d.cx.aj.length:Int)):mX x (i+1):=fun j y hj hy=>by
 rcases Nat.lt_or_ge j i with q|q
 ·exact h j y q hy
 ·obtain rfl:j=i:=by omega
  rw [hx] at hy; cases hy; exact ho
theorem Dv (hl: ¬ 8<(x.length:Int)) (h:mX x i) (hi:x.length≤i): ¬ oV x:=by
 rintro (q|⟨d,hd,q⟩)
 ·exact hl q
 ·obtain ⟨j,hj⟩:=List.getElem?_of_mem hd
  exact h j d (by have:=(List.getElem?_eq_some_iff.1 hj).1; omega) hj q
theorem GB (h1: ¬ mD r.ah) (h2: ¬ 8<(r.aI.length:Int)∧ ¬ 8<(r.bD.length:Int)∧ ¬ 5<(r.aq.length:Int)) (h:lQ r i) (hi:r.aq.length≤i): ¬ oy r:=by
 rintro ((q|q)|⟨x,hx,q⟩)
 ·exact h1 q
 ·omega
 ·obtain ⟨j,hj⟩:=List.getElem?_of_mem hx
  exact h j x (by have:=(List.getElem?_eq_some_iff.1 hj).1; omega) hj q
theorem pw (h:mD r.ah∨8<(r.aI.length:Int)∨8<(r.bD.length:Int)∨5<(r.aq.length:Int)):oy r:= .inl h
theorem CQ (hx:r.aq[i]? =some x) (h:8<(x.length:Int)):oy r:= .inr ⟨x,aX hx,.inl h⟩
theorem ET {j:Nat} (hx:r.aq[i]? =some x) (hd:x[j]? =some d) (h:15<(d.cx.aj.length:Int)):oy r:= .inr ⟨x,aX hx,.inr ⟨d,aX hd,h⟩⟩
end
noncomputable def oQ (l:bf) (d:aA):aa:=if d.Out=true then dD else dE l d
theorem KR {l:bf} {d:aA} (h:hZ l d):oQ l d=dE l d:=by
 unfold oQ
 split
 ·rename_i q
  rw [FW q]
  rw [qw q] at h
  exact h.2.1.symm
 ·rfl
theorem zR {l:bf} {d:aA} (h:d.Out=true):oQ l d=dD:=if_pos h
theorem Fh {l:bf} {d:aA} (h:d.Out=false∧d.eO=true):oQ l d=d.Time:=by unfold oQ; rw [if_neg (by rw [h.1]; decide),zN h]
theorem E6 {l:bf} {d:aA} (h:d.Out=false∧d.eO=false):oQ l d=Au l d.cx:=by unfold oQ; rw [if_neg (by rw [h.1]; decide),vV h]
def SP (r:cf) (j:Nat):Prop:= ∀ x,r.aI[j]? =some x→(0≤x∧x≤9999)∧ ∀ y,0<j→r.aI[j-1]? =some y→y<x
def IB (r:cf) (j:Nat):Prop:= ∀ x,r.bD[j]? =some x→(0≤x∧x≤(r.aI.length:Int)-1)∧ ∀ (k:Nat) y,k<j→r.bD[k]? =some y→y≠x
def xo (r:cf) (i:Nat):Prop:= ∀ j,j<i→SP r j∧IB r j
section
variable {r:cf} {i k:Nat} {x:Int}
theorem K_:xo r 0:=fun j hj=>absurd hj (Nat.not_lt_zero _)
theorem Bf (h:xo r i) (h1:SP r i) (h2:IB r i):xo r (i+1):=fun j hj=>by
 rcases Nat.lt_or_ge j i with q|q
 ·exact h j q
 ·obtain rfl:j=i:=by omega
  exact ⟨h1,h2⟩
theorem xR {l:List Int} {u v:Int} (h: ∀ (q:Nat) y,q<k→l[q]? =some y→y≠v) (hx:l[k]? =some u) (hne: ¬ u=v): ∀ (q:Nat) y,q<k+1→l[q]? =some y→y≠v:=fun q y hq hy=>by
 rcases Nat.lt_or_ge q k with c|c
 ·exact h q y c hy
 ·obtain rfl:q=k:=by omega
  rw [hx] at hy; cases hy; exact hne
theorem H6 (hl:r.bD.length=r.aI.length) (h:xo r r.aI.length):r.bD.Perm (HU r.aI.length):=by
 have nd:r.bD.Nodup:=by
  rw [List.nodup_iff_pairwise_ne,nS]
  intro a b ha hb A
  exact ((h b om).2 _ (e9 hb)).2 a _ A (e9 ha)
 have hm: ∀ x∈r.bD,x∈HU r.aI.length:=fun x hx=>by
  obtain ⟨j,hj⟩:=List.getElem?_of_mem hx
  have:=((h j (by have:=(List.getElem?_eq_some_iff.1 hj).1; omega)).2 x hj).1
  exact List.mem_map.2 ⟨x.toNat,List.mem_range.2 om,om⟩
 have ndu:(HU r.aI.length).Nodup:=by
  unfold HU
  rw [List.nodup_iff_pairwise_ne,List.pairwise_map]
  exact List.pairwise_lt_range.imp fun h=>by omega
 have e:dk r.bD=(HU r.aI.length).filter fun x=>decide (x∈r.bD):=by
  refine q8 kY ((xd _).filter _) (fF.nodup_iff.2 nd) (ndu.filter _) fun x=>?_
  rw [fF.mem_iff,List.mem_filter,decide_eq_true_eq]
  exact ⟨fun q=>⟨hm x q,q⟩,fun q=>q.2⟩
 have B:=congrArg List.length e
 rw [gn,hl] at B
 have C:(HU r.aI.length).filter (fun x=>decide (x∈r.bD))=HU r.aI.length:=List.filter_sublist.eq_of_length (by rw [← B]; simp)
 rw [C] at e
 rw [← e]; exact fF.symm
theorem Gh {n:Nat} (h1:1≤(r.aI.length:Int)∧(r.aI.length:Int)≤5) (h2:r.bD.length=r.aI.length) (h3:0≤r.ed∧r.ed≤5) (h4:1≤(r.aq.length:Int)∧(r.aq.length:Int)≤3)
 (hn:n=r.aI.length) (h6:xo r n) (h7:j5 r i) (hi:r.aq.length≤i):eX r:=by
 subst hn
 refine ⟨h1,h3,h4,fun k x hx=>(h6 k (List.getElem?_eq_some_iff.1 hx).1).1 x hx,H6 h2 h6,fun h hh=>?_⟩
 obtain ⟨j,hj⟩:=List.getElem?_of_mem hh
 exact h7 j h (by have:=(List.getElem?_eq_some_iff.1 hj).1; omega) hj
theorem eX.Lj (h:eX r) (hx:r.bD[i]? =some x):0≤x∧x≤(r.aI.length:Int)-1:=by
 obtain ⟨k,hk,rfl⟩:=List.mem_map.1 (h.draw.mem_iff.1 (aX hx))
 have:=List.mem_range.1 hk
 omega
theorem eX.Qu (h:eX r):r.bD.Nodup:=by
 refine h.draw.nodup_iff.2 ?_
 rw [List.nodup_iff_pairwise_ne,List.pairwise_map]
 exact List.pairwise_lt_range.imp fun h=>by omega
theorem eX.Qk (h:eX r) {u v:Int} (hki:k<i) (hu:r.bD[k]? =some u) (hv:r.bD[i]? =some v): ¬ u=v:=by
 have A:=h.Qu
 rw [List.nodup_iff_pairwise_ne,nS] at A
 obtain ⟨a,ea⟩:=List.getElem?_eq_some_iff.1 hu
 obtain ⟨b,eb⟩:=List.getElem?_eq_some_iff.1 hv
 subst ea eb
 exact A k i a b hki
end
section
variable {r:cf} {i k n:Nat} {s:aa} {l:bf} {hs:List (List aA)}
end
section
variable {r:cf} {i x:Int} {own s:aa} {k:Nat} {ys zs:List Int}
end
section
variable {B:List Bool} {P Q:Int→Prop} {k x:Nat} {m:gp} {i y a b:Int} {ys:List Int}
end
theorem v_ {r:cf} {i:Int}:(fU r i).length≤r.aI.length:=by
 unfold fU
 split
 ·unfold di
  refine Nat.le_trans (List.length_filter_le _ _) ?_
  rw [List.length_map,List.length_range]
  exact uK
 ·simp
end
section
theorem zZ: ∀ {m:gp} {a:Int} {s:aa},m.lookup a=some s→(a,s)∈m
 |[],a,s,h=>by cases h
 |(b,u)::m,a,s,h=>by
  by_cases e:a=b
  ·subst e
   simp [List.lookup] at h; subst h; exact cm
  ·have:(a==b)=false:=by simpa using e
   simp only [List.lookup,this] at h
   exact cS _ (zZ h)
theorem E3: ∀ {m:gp} {a:Int} {s:aa},(m.map (·.1)).Nodup→(a,s)∈m→m.lookup a=some s
 |[],a,s,_,h=>by cases h
 |(b,u)::m,a,s,hn,h=>by
  rw [List.map_cons,List.nodup_cons] at hn
  rcases List.mem_cons.1 h with e|h
  ·cases e; simp [List.lookup]
  ·have e:a≠b:=fun e=>hn.1 (by rw [← e]; exact List.mem_map_of_mem (f:=(·.1)) h)
   have:(a==b)=false:=by simpa using e
   simp only [List.lookup,this]
   exact E3 hn.2 h
/-- sums, each of another sled -/
structure rW (m:gp):Prop where
 nd:(m.map (·.1)).Nodup
 le: ∀ p∈m,p.2.Lo≤p.2.Hi
theorem Nh {r:cf} (h:bX r=0):rW (aB r):=⟨su,fun p hp=>(lM h p hp).2.1⟩
section
variable {m:gp} {a b i n:Int} {s t own:aa}
theorem rW.at (h:rW m) (hs:m.lookup a=some s):s.Lo≤s.Hi:=h.le _ (zZ hs)
theorem rW.one (h:rW m) (hs:m.lookup a=some s) {p:Int×aa} (hp:p∈m) (e:p.1=a):p.2=s:=by
 obtain ⟨x,y⟩:=p
 cases e
 have:=E3 h.nd hp
 rw [hs] at this; cases this; rfl
theorem CM:(di m i own).Pairwise (· < ·):=by
 unfold di
 refine List.Pairwise.filter _ ?_
 rw [List.pairwise_map]
 exact List.pairwise_lt_range.imp fun h=>by omega
/-- who is surely tied has the same ranks -/
theorem GN (h:rW m) (hs:m.lookup a=some s) (ht:m.lookup b=some s) (he:s.Lo=s.Hi):di m a s=di m b s:=by
 have C:gD m a s.Lo=gD m b s.Lo:=by
  rw [n_,n_]
  apply List.countP_congr
  intro p hp
  simp only [cR,decide_eq_true_eq,Bool.not_eq_true',decide_eq_false_iff_not]
  exact ⟨fun q=>⟨q.1,fun e=>by have:=h.one ht hp e; rw [this] at q; omega⟩,fun q=>⟨q.1,fun e=>by have:=h.one hs hp e; rw [this] at q; omega⟩⟩
 have D:jt m a s.Lo=jt m b s.Lo:=by
  rw [qB,qB]
  apply List.countP_congr
  intro p hp
  simp only [cR,decide_eq_true_eq,Bool.not_eq_true',decide_eq_false_iff_not]
  exact ⟨fun q=>⟨q.1,fun e=>by have:=h.one ht hp e; rw [this] at q; omega⟩,fun q=>⟨q.1,fun e=>by have:=h.one hs hp e; rw [this] at q; omega⟩⟩
 unfold di
 congr 1
 funext k
 rw [Rb,BE (h.at hs),BE (h.at hs)]
 constructor<;>rintro ⟨x,A,B,E,F⟩<;>(have:x=s.Lo:=by omega)<;>subst this<;>exact ⟨s.Lo,A,B,om,om⟩
end
section
variable {r:cf} {a b i:Int} {s t:aa}
/-- what is known of two sleds that have sums -/
structure O5 (r:cf) (a b:Int) (s t:aa):Prop where
 ne:a≠b
 Py:rW (aB r)
 sa:(aB r).lookup a=some s
 sb:(aB r).lookup b=some t
 ea:jy r a=0
 eb:jy r b=0
 va:pq r a=s
 vb:pq r b=t
 ra:fU r a=di (aB r) a s
 rb:fU r b=di (aB r) b t
 Vu:vq r a b=By s t
 QQ:vq r b a=By t s
 tied:qp r a b=rz s t
theorem Fm (he:bX r=0) (hi:qK r i) (hl:(aB r).lookup i=some s):jy r i=0∧pq r i=s∧fU r i=di (aB r) i s:=by
 have h:jy r i=0:=by unfold jy; rw [if_pos he,if_pos hi,hl]; rfl
 have A:aF (aB r) i=s:=by unfold aF; rw [hl]; rfl
 exact ⟨h,by unfold pq; rw [if_pos h,A],by rw [yO h,A]⟩
theorem O5.tie (h:O5 r a b s t) (e:qp r a b=2):s=t∧s.Lo=s.Hi∧fU r a=fU r b∧vq r a b=0∧vq r b a=0:=by
 rw [h.tied] at e
 unfold rz at e
 split at e
 ·rename_i q
  obtain ⟨rfl,q⟩:=q
  have hb:By s s=0:=by unfold By; rw [if_neg om,if_neg om]
  exact ⟨U,q,by rw [h.ra,h.rb,GN h.Py h.sa h.sb q],h.Vu.trans hb,h.QQ.trans hb⟩
 ·split at e<;>cases e
end
end
section
section
variable {r:cf} {h i:Nat} {ht:List aA} {d:aA} {bl:List Int} {n:Int} {out:Bool}
structure Ln (r:cf) (h i:Nat) (d:aA):Prop where
 off:d.Out=true→gM r ↑h ↑i=6
 on:d.Out=false→gM r ↑h ↑i=0∧eJ r ↑h ↑i=dE r.ah d
 b:0≤(eJ r ↑h ↑i).Lo∧(eJ r ↑h ↑i).Lo≤(eJ r ↑h ↑i).Hi∧(eJ r ↑h ↑i).Hi≤86400000
 at_:(r.aq[h]?).bind (·[i]?)=some d
theorem Ln.same (q:Ln r h i d):d.Out=decide (gM r ↑h ↑i=6):=by
 cases ho:d.Out with
 |true=>rw [q.off ho]; rfl
 |false=>rw [(q.on ho).1]; rfl
end
/-- the sums of the first sleds -/
noncomputable def jO (r:cf) (i:Nat):gp:=(List.range i).filterMap fun q=>(fT r.ah r.aq q r.aq.length).map fun s=>((q:Int),s)
section
variable {r:cf} {i:Nat} {k:Int}
theorem vh:jO r (i+1)=jO r i++((fT r.ah r.aq i r.aq.length).map fun s=>((i:Int),s)).toList:=by
 unfold jO
 rw [List.range_succ,List.filterMap_append]
 cases h:fT r.ah r.aq i r.aq.length<;>simp [h]
theorem EP:(jO r i).lookup (i:Int)=none:=by
 rw [iv]
 intro p hp e
 unfold jO at hp
 obtain ⟨q,hq,A⟩:=List.mem_filterMap.1 hp
 obtain ⟨s,_,rfl⟩:=Option.map_eq_some_iff.1 A
 have:=List.mem_range.1 hq
 simp only at e; omega
theorem B8 (hi:i<r.aI.length):(aB r).lookup (i:Int)=fT r.ah r.aq i r.aq.length:=by unfold aB; rw [B5,if_pos hi]
theorem x7 (he:bX r=0) (hi:qK r k):(jy r k=0∧((aB r).lookup k).isSome=true)∨(jy r k=6∧((aB r).lookup k).isSome=false):=by
 cases h:((aB r).lookup k).isSome with
 |true=>exact .inl ⟨FV he hi h,rfl⟩
 |false=>exact .inr ⟨ug he hi h,rfl⟩
theorem Ny (he:bX r=0) (hi:qK r k):((aB r).lookup k).isSome=decide (jy r k=0):=by
 rcases x7 he hi with ⟨A,B⟩|⟨A,B⟩<;>rw [A,B]<;>rfl
theorem CR (he:bX r=0) (hi:i<r.aI.length) (h:jy r (i:Int)=0):dK (jO r i) (i:Int) (pq r (i:Int))=jO r (i+1):=by
 obtain ⟨_,A,hl⟩:=uM h
 obtain ⟨s,hs⟩:=Option.ne_none_iff_exists'.1 hl
 have e:fT r.ah r.aq i r.aq.length=some s:=(B8 hi).symm.trans hs
 have hv:=(Fm he A hs).2.1
 rw [vh,e,hv]
 unfold dK; rw [EP]; rfl
theorem yz (he:bX r=0) (hi:i<r.aI.length) (h: ¬ jy r (i:Int)=0):jO r i=jO r (i+1):=by
 have A:qK r (i:Int):=by unfold qK; omega
 rcases x7 he A with ⟨C,_⟩|⟨_,B⟩
 ·exact absurd C h
 ·rw [B8 hi] at B
  rw [vh,Option.isSome_eq_false_iff.1 B |> Option.isNone_iff_eq_none.1]
  simp
end
theorem Pn {l:List Int} {q:Nat} {u v:Int} (h:l.Pairwise (· < ·)) (hu:l[q]? =some u) (hv:l[q-1]? =some v) (hq:0<q):v<u:=by
 obtain ⟨A,rfl⟩:=List.getElem?_eq_some_iff.1 hu
 obtain ⟨B,rfl⟩:=List.getElem?_eq_some_iff.1 hv
 exact List.pairwise_iff_getElem.1 h (q-1) q B A om
end
section
def yg (m:gp) (i:Int) (own:aa) (left:gp) (ys:List Int):Prop:=(∀ n∈ys,own.Lo≤n→n≤own.Hi→n∈iO m i own)∧own.Lo∈ys∧ ∀ p∈m,p.1≠i→p ∉ left→ ∀ n∈[p.2.Lo+1,p.2.Hi+1],n∈ys
section
variable {m left:gp} {i x n:Int} {own y:aa} {ys:List Int}
theorem HF:yg m i own m [own.Lo]:=⟨fun n hn _ _=>by rw [bW] at hn; subst hn; exact cm,sm,fun p hp _ hl=>absurd hp hl⟩
theorem Ce (ho:own.Lo≤own.Hi) (h:yg m i own [] ys) (n:Int):(n∈ys∧own.Lo≤n∧n≤own.Hi)↔n∈iO m i own:=by
 refine ⟨fun q=>h.1 n q.1 q.2.1 q.2.2,fun hn=>⟨?_,CU ho hn⟩⟩
 rcases List.mem_cons.1 hn with rfl|hn
 ·exact h.2.1
 ·obtain ⟨C,D⟩:=List.mem_filter.1 hn
  obtain ⟨p,hp,hx⟩:=List.mem_flatMap.1 C
  obtain ⟨A,B⟩:=List.mem_filter.1 hp
  exact h.2.2 p A (by simpa using B) sm n hx
theorem zB (hm:(left.map (·.1)).Nodup) (hx:(x,y)∈left) {p:Int×aa} (e:p∈left) (hl2:p ∉ cd left x):p=(x,y):=by
 have A:p.1=x:=Classical.byContradiction fun q=>hl2 (jv.2 ⟨e,q⟩)
 obtain ⟨D,E⟩:=p
 simp only at A; subst A
 have C:=(iD hm).1 e
 have B:=(iD hm).1 hx
 rw [C] at B; cases B; rfl
theorem yU (hm:(left.map (·.1)).Nodup) (hx:(x,y)∈left) (e:x=i) (h:yg m i own left ys):yg m i own (cd left x) ys:=by
 refine ⟨h.1,h.2.1,fun p hp hi A n hn=>?_⟩
 by_cases c:p∈left
 ·have:=zB hm hx c A; subst this; exact absurd e hi
 ·exact h.2.2 p hp hi c n hn
theorem Ch (hm:(left.map (·.1)).Nodup) (hx:(x,y)∈left) (hl: ∀ p∈left,p∈m) (e: ¬ x=i) (h:yg m i own left ys):yg m i own (cd left x) (ys++[y.Lo+1,y.Hi+1]):=by
 refine ⟨fun n hn B C=>?_,List.mem_append_left _ h.2.1,fun p hp hi A n hn=>?_⟩
 ·rcases List.mem_append.1 hn with hn|hn
  ·exact h.1 n hn B C
  ·exact l0 (hl _ hx) e (by simpa using hn) ⟨B,C⟩
 ·by_cases c:p∈left
  ·have:=zB hm hx c A; subst this; exact List.mem_append_right _ hn
  ·exact List.mem_append_left _ (h.2.2 p hp hi c n hn)
end
def Ls (m:ly):Prop:= ∀ p∈m,p.2=true
section
variable {c:ly} {P:Int→Prop} {k x a b n:Int}
theorem G7 (h:Ls c) (hk:k∈c.map (·.1)):c.lookup k=some true:=by
 have A:=qG.1 hk
 cases e:c.lookup k with
 |none=>rw [e] at A; cases A
 |some v=>
  have: ∀ {c:ly},c.lookup k=some v→(k,v)∈c:=fun {c}=>by
   induction c with
   |nil=>intro h; cases h
   |cons p c ih=>
    obtain ⟨u,w⟩:=p
    intro h
    by_cases q:k=u
    ·subst q; simp [List.lookup] at h; subst h; exact cm
    ·have B:(k==u)=false:=by simpa using q
     simp only [List.lookup,B] at h
     exact cS _ (ih h)
  exact congrArg some (h _ (this e))
theorem Lp (h:ib c P) (ha:Ls c):ib (dK c k true) (fun q=>P q∨q=k)∧Ls (dK c k true):=by
 by_cases hk:k∈c.map (·.1)
 ·have e:dK c k true=c:=by
   unfold dK
   rw [qG.1 hk]
   simp only [if_true]
   conv=>rhs; rw [← List.map_id c]
   apply List.map_congr_left
   intro p hp
   by_cases q:p.1=k
   ·rw [if_pos q]; obtain ⟨u,w⟩:=p; have:=ha _ hp; simp only at this q; subst this; subst q; rfl
   ·rw [if_neg q]; rfl
  rw [e]
  exact ⟨h.rT fun q=>⟨.inl,fun r=>r.elim id fun r=>by rw [r]; exact (h.2 k).1 hk⟩,ha⟩
 ·refine ⟨Ct h fun q=>hk ((h.2 k).2 q),fun p hp=>?_⟩
  unfold dK at hp
  have:(c.lookup k).isSome=false:=by rw [Bool.eq_false_iff]; exact fun q=>hk (qG.2 q)
  rw [this] at hp
  rcases List.mem_append.1 hp with hp|hp
  ·exact ha p hp
  ·rw [List.mem_singleton.1 hp]
/-- which ranks come about at the first of some sums -/
def Il (m:gp) (i:Int) (own:aa) (ys:List Int) (x:Int):Prop:= ∃ n∈ys,(own.Lo≤n∧n≤own.Hi)∧(gD m i n:Int)+1≤x∧x≤(jt m i n:Int)+1
structure u9 (m:gp) (i:Int) (own:aa) (ys:List Int) (c:ly):Prop where
 keys:ib c (Il m i own ys)
 all:Ls c
/-- and of the next sum those ahead of x -/
structure G_ (m:gp) (i:Int) (own:aa) (ys:List Int) (a x:Int) (c:ly):Prop where
 keys:ib c fun q=>Il m i own ys q∨(a≤q∧q<x)
 all:Ls c
end
section
variable {c:ly} {m:gp} {i a b x n:Int} {own:aa} {ys l:List Int} {j:Nat}
theorem Gs:u9 m i own [] []:=⟨Da fun k ⟨n,h,_⟩=>(by cases h),fun p h=>(by cases h)⟩
theorem AE (h:u9 m i own (l.take j) c) (hn:l[j]? =some n) (ho: ¬ (own.Lo≤n∧n≤own.Hi)):u9 m i own (l.take (j+1)) c:=by
 rw [jS hn]
 refine ⟨h.keys.rT fun q=>⟨fun ⟨n',A,B⟩=>⟨n',List.mem_append_left _ A,B⟩,fun ⟨n',A,B⟩=>?_⟩,h.all⟩
 rcases List.mem_append.1 A with A|A
 ·exact ⟨n',A,B⟩
 ·rw [List.mem_singleton.1 A] at B; exact absurd B.1 ho
theorem DW (h:u9 m i own ys c):G_ m i own ys a a c:=⟨h.keys.rT fun q=>⟨.inl,fun r=>r.elim id fun r=>by omega⟩,h.all⟩
theorem Gi (h:G_ m i own ys a x c) (hx:a≤x):G_ m i own ys a (x+1) (dK c x true):=by
 have A:=Lp (k:=x) h.keys h.all
 exact ⟨A.1.rT fun q=>⟨fun r=>r.elim (fun r=>r.imp id fun r=>by omega) fun r=> .inr om,fun r=>r.elim (fun r=> .inl (.inl r)) fun r=>by
  by_cases c:q<x
  ·exact .inl (.inr om)
  ·exact .inr om⟩,A.2⟩
theorem uN (h:G_ m i own (l.take j) ((gD m i n:Int)+1) x c) (hn:l[j]? =some n) (ho:own.Lo≤n∧n≤own.Hi) (hx:(jt m i n:Int)+1<x∧x≤max ((gD m i n:Int)+1) ((jt m i n:Int)+2)):u9 m i own (l.take (j+1)) c:=by
 rw [jS hn]
 refine ⟨h.keys.rT fun q=>⟨fun r=>?_,fun ⟨n',A,B⟩=>?_⟩,h.all⟩
 ·rcases r with ⟨n',A,B⟩|r
  ·exact ⟨n',List.mem_append_left _ A,B⟩
  ·exact ⟨n,List.mem_append_right _ sm,ho,om,om⟩
 ·rcases List.mem_append.1 A with A|A
  ·exact .inl ⟨n',A,B⟩
  ·rw [List.mem_singleton.1 A] at B; exact .inr om
/-- in the end they are the ranks that are told -/
theorem JU (hm:m.lookup i=some own) (ho:own.Lo≤own.Hi) (ha:yg m i own [] ys) (h:u9 m i own ys c):c.length=(di m i own).length∧ ∀ n∈di m i own,c.lookup n=some true:=by
 have hk: ∀ x,x∈c.map (·.1)↔x∈di m i own:=fun x=>by
  rw [h.keys.2 x,yu (by rw [hm]; simp)]
  unfold Il qC
  constructor
  ·rintro ⟨n,A,E,B⟩; exact ⟨n,(Ce ho ha n).1 ⟨A,E⟩,B⟩
  ·rintro ⟨n,A,B⟩; have:=(Ce ho ha n).2 A; exact ⟨n,this.1,this.2,B⟩
 have C:(di m i own).Nodup:=CM.imp fun h=>by omega
 refine ⟨?_,fun n hn=>G7 h.all ((hk n).2 hn)⟩
 have D:c.length=(c.map (·.1)).length:=by simp
 rw [D]
 exact ((List.perm_ext_iff_of_nodup h.keys.1 C).2 hk).length_eq
end
end
section
open Go.RowKit
section
variable {P:Program} {t:TypeId} {x y:Operand}
theorem qE {e:TypeId} {a:OA} {n c:Nat} (ht:P.underlying t=some (.slice e)):g6 P .eql t x y (.slice a n c) (.slice none 0 0) (.bool (decide (a=none))):=fun w=>by
 have A:(Op.equal t (.slice a n c) (.slice none 0 0)).run P w= .ok (decide (a=none)) w:=by
  unfold Op.equal
  show (Op.equalIn (9999+1) t (.slice a n c) (.slice none 0 0)).run P w=_
  unfold Op.equalIn
  cases a<;>simp [run_underlying ht]
 have B:eqGuard .eql t x y (.slice a n c) (.slice none 0 0)=pure ():=rfl
 rw [B]
 show (Sem.run P (do let b ← Op.equal t (.slice a n c) (.slice none 0 0); pure (vB b)) w)=_
 simp [A]
end
section
variable {E:ff} {ops:Array Oper} {Q:cZ} {rest:List Oper} {D:List Deferred} {L:List (Nat×Value)} {C:List av}
variable {dst:Option Tmp} {d:Nat} {ty:TypeId} {ps:String} {af:Array Edge} {g:Option (Nat×Bool)}
/-- a row that lies nowhere is empty -/
theorem mo {a:OA} {n sz:Nat} {es:List (List Value)} (hR:jc C (rd a n sz es).holds) (ha:a=none) (hz:0<sz) (k:es=[]→RJ E ops Q rest D L C):RJ E ops Q rest D L C:=fun act w hf hs=>by
 refine k ?_ act w hf hs
 obtain ⟨F,G,B⟩:=hs.has hR
 rcases Nat.eq_zero_or_pos (n*sz) with h|h
 ·have:n=0:=by
   rcases Nat.mul_eq_zero.1 h with h|h
   ·exact h
   ·omega
  exact jB om
 ·obtain ⟨ad,A,_⟩:=B h
  rw [ha] at A; cases A
theorem KO {a:OA} {c e sz:Nat} {es:List (List Value)} (i:Nat) (hC:C[i]? =some (own a c e sz es)) (k:es.length≤c→RJ E ops Q rest D L C):RJ E ops Q rest D L C:=fun act w hf hs=>
 k (Fb (hs.holds _ (aX hC))) act w hf hs
theorem jG {A:av} (i:Nat) (h:C[i]? =some A.ro):jc C A.holds:=fun w hw=>by
 have B:=hw A.ro (aX h)
 exact B
/-- the end of a row is set to zero: it is no more of it -/
theorem NW {x:Operand} {t e sz by_ k n c c':Nat} {z:Value} {a:OA} {es:List (List Value)} (i:Nat) (hg:ju ops L g=true) (hx:ev L x=some (.slice (Ab a c k sz) (n-k) c')) (ht:tA E.P t=some (e,sz,by_,z)) (hz1: ∀ v∈z.cells.toList,v.oneCell'=true)
 (hC:C[i]? =some (own a c e sz es)) (hn:n=es.length) (hk:k≤n) (K:RJ E ops Q rest D L (C.set i (own a c e sz (es.take k)))):
 RJ E ops Q (⟨none,.call {callee:= .builtin .clear,args:= #[x],argTypes:= #[t]},ty,ps,af,g⟩::rest) D L C:=by
 intro act w A F
 obtain ⟨inf,hu,hi,f,h3,h4,s⟩:=DA ht
 unfold rq
 rw [if_pos (d_ A hg)]
 subst hn
 obtain ⟨W,N⟩:(own a c e sz es).holds w:=F.holds _ (aX hC)
 have B: ∀ y∈es.take k,y.length=sz:=fun y hy=>W y (List.mem_of_mem_take hy)
 have V:(es.take k).flatten=es.flatten.take (k*sz):=by
  have h:=List.take_append_drop k es
  have l:es.flatten=(es.take k).flatten++(es.drop k).flatten:=by rw [← List.flatten_append,h]
  have m:(es.take k).flatten.length=k*sz:=by rw [iB B,List.length_take]; congr 1; omega
  rw [l,← m,List.take_left]
 by_cases r:es.length-k=0
 ·have AC:es.take k=es:=List.take_of_length_le om
  refine gO sm (w':=w) (v:= .tuple #[]) ?_ ?_
  ·rw [r] at hx
   cases hs:Ab a c k sz with
   |none=>rw [hs] at hx; simp [execOp,resolve,invoke,builtin,Builtin.clear_,A.ev hx,run_underlying hu]
   |some q=>rw [hs] at hx; simp [execOp,resolve,invoke,builtin,Builtin.clear_,A.ev hx,run_underlying hu]
  ·rw [AC] at K
   exact K _ _ A (by
    have:C.set i (own a c e sz es)=C:=by
     apply List.ext_getElem?
     intro q
     rw [List.getElem?_set]
     by_cases j:i=q
     ·subst j; rw [if_pos rfl,if_pos (List.getElem?_eq_some_iff.1 hC).1,hC]
     ·rw [if_neg j]
    rw [this]; exact F)
 ·rcases N.2 with ⟨l,m⟩|⟨gg,cap,cur,hv,AA,M,Y,T,J,G⟩
  ·omega
  ·injection hv with Z AB d
   subst Z d
   have R:Ab (some (⟨gg,0,none⟩:Addr)) c k sz=some ⟨gg,k*sz,none⟩:=by
    unfold Ab; rw [if_neg om]; simp [Addr.add_lit]
   rw [R] at hx
   have H:(Builtin.zeroCells z.cells (es.length-k)).toList.length=(es.length-k)*sz:=by
    rw [Array.length_toList,size_zeroCells,s]
   have p:k*sz+(es.length-k)*sz=es.length*sz:=by rw [← Nat.add_mul]; congr 1; omega
   have o:es.length*sz≤cur.size:=by rw [J]; exact Nat.mul_le_mul_right _ Y
   have h1': ∀ v∈(Builtin.zeroCells z.cells (es.length-k)).toList,v.oneCell'=true:=fun v hv=>by
    refine hz1 v ?_
    simp [Builtin.zeroCells] at hv
    obtain ⟨q,hq,hv⟩:=hv
    have O:0<z.cells.size:=by
     rcases Nat.eq_zero_or_pos z.cells.size with AD|AD
     ·rw [AD] at hq; simp at hq
     ·exact AD
    have X:q % z.cells.size<z.cells.size:=Nat.mod_lt _ O
    rw [getElem!_pos z.cells _ X] at hv
    rw [← hv]; simp
   have hst':=run_storeCells_at E.P gg (k*sz) e (Builtin.zeroCells z.cells (es.length-k)).toList 0 cur w M (by rw [H]; omega) h1'
   simp only [Nat.add_zero] at hst'
   obtain ⟨q,hq⟩: ∃ q,es.length-k=q+1:=⟨es.length-k-1,om⟩
   refine gO sm (w':=w.setRow gg (cur.toList.take (k*sz)++(Builtin.zeroCells z.cells (es.length-k)).toList++cur.toList.drop (k*sz+(Builtin.zeroCells z.cells (es.length-k)).toList.length)).toArray) (v:= .tuple #[]) ?_ ?_
   ·rw [hq] at hx hst' ⊢
    simp [execOp,resolve,invoke,builtin,Builtin.clear_,A.ev hx,run_underlying hu,zeroValue,typeInfo,hi,f,hst']
   ·refine K _ _ A ?_
    refine F.move i hC (row:=some gg) (fun b hb=>by cases hb; exact ⟨_,rfl,rfl⟩) rfl ⟨rfl,rfl,rfl,sm,fun k' _ hk'=>setRow_other w gg k' _ (fun e=>hk' (by simp [e]))⟩ (fun y hy=>by
     obtain ⟨ad,AD,rfl⟩:=hy
     cases AD; exact .inl rfl) ?_
    refine ⟨B,?_,.inr ⟨gg,c,_,U,Nat.zero_le _,setRow_heap w gg cur _ e _ M,?_,T,?_,?_⟩⟩
    ·exact iB B
    ·rw [List.length_take]; omega
    ·simp only [List.size_toArray,List.length_append,List.length_take,List.length_drop,Array.length_toList,H]
     have:=J
     simp only [Array.length_toList] at H
     omega
    ·have u:(es.take k).length*sz=k*sz:=by rw [List.length_take]; congr 1; omega
     have S:(cur.toList.take (k*sz)).length=k*sz:=by rw [List.length_take,Array.length_toList]; omega
     rw [u,V,← G,List.take_take,Nat.min_eq_left om]
     show List.take (k*sz) (_++_++_)=_
     rw [List.append_assoc,List.take_left' S]
end
end
section
open Go.RowKit
theorem oT (n lo hi:Int):
 ej Tryz.prog 130 [(vI n),(vI lo),(vI hi)] [] (vB (decide (lo≤n∧n≤hi))):=by
 refine bI kr Tryz.func130 U U fun D Q hQ hN=>?_
 try dsimp only
 refine WS fun _ B=>bg 1 U<|RK B<|WS fun _ A=>rP 4 [] I ?_
 refine db (t:=10) U (aS fun C=>?_) (aR fun C=>?_)
 ·refine rP 5 [] I ?_
  refine RK A<|ar<|Q1 hQ U U U ?_
  exact cB (decide_eq_decide.2 om)
 refine rP 5 [] I ?_
 refine RK A<|ar<|Q1 hQ U U U ?_
 exact cB (cr om).symm
theorem o_ (s:aa) (lo hi:Int):
 ej Tryz.prog 131 [(vA (aa.cells s)),(vI lo),(vI hi)] [] (vB (decide (s.Lo≤s.Hi∧lo≤s.Lo∧s.Hi≤hi))):=by
 refine bI kr Tryz.func131 U U fun E Q hQ hN=>?_
 try dsimp only
 refine WS fun _ B=>fV U fun D=>bg 1 U<|RK B<|WS fun _ A=>fE 5 [] (mc 0 U I) U<|rS (CL (oT s.Lo lo s.Hi) (aL) U)<|rP 1 [] I ?_
 refine cb (t:=13) U (aR fun C=>?_) (aS fun C=>?_)
 ·refine rP 6 [] I ?_
  refine RK A<|ar<|Q1 hQ U U U ?_
  exact cB (cr om).symm
 refine rP 6 [] (mc 0 U I) ?_
 refine RK A<|ar<|Q1 hQ U U U ?_
 exact cB (decide_eq_decide.2 om)
theorem Oh (t:List ao) (tA:OA) (tC:Nat):
 ej Tryz.prog 71 [(vA (aZ.cells (aZ.mk (aM.mk tA t.length tC))))] [(rd tA t.length 9 (t.map ao.cells))] (vB (decide (20<(t.length:Int)))):=by
 refine bI kr Tryz.func71 U U fun D Q hQ hN=>?_
 try dsimp only
 refine WS fun _ A=>fV U fun C=>bg 1 U<|RK A<|WS fun _ B=>rP 5 [] (mc 0 U I) ?_
 refine RK B<|ar ?_
 exact Q1 hQ U U U U
theorem Nv (l:List Int) (lA:OA) (lC:Nat) (f:Value) (p:Int→Bool) (X:av) (hf: ∀ x0,x0∈l→D_ Tryz.prog f [.int .i64 x0] [X] (.bool (p x0))) (hlen:l.length≤1000000):
 ej Tryz.prog 80 [(vS lA l.length lC),f] [(rd lA l.length 1 (l.map iC)),X] (vI (tI p l)):=by
 refine bI kr Tryz.func80 U U fun R Q hQ hN=>?_
 try dsimp only
 refine WS fun _ G=>bg 1 U<|RK G<|al fun _ H=>WS fun _ AA=>rP 3 [] I ?_
 refine RK AA<|aw ?_
 have B:(0≤l.length)∧((l.take 0).any p=false):=by simp
 refine bO (ι:={z:Nat // (z≤l.length)∧((l.take z).any p=false)}) [0,1,7] [0,1] U U (fun z=>[(8,(vI (z.1:Int)))]) (fun z=>[]) (fun _=>rfl) (fun _=>rfl) (fun z=>l.length-z.1) ⟨0,B⟩ (aQ U) (aK [0,1]) ?_
 clear B
 rintro ⟨i,⟨N,A⟩⟩ J4 F
 try dsimp only
 refine WS fun _ J=>rP 1 [] I ?_
 refine RK J<|al fun _ K=>bR U (aR fun P=>?_) (aS fun P=>?_)
 ·refine bB<|ae<|ae<|ax<|KK H<|WS fun _ E=>rP 1 [] I ?_
  refine RK E<|ar<|Q1 hQ U U U ?_
  exact cI (sr om A).symm
 refine WK K<|al fun _ L=>aw<|WS fun _ M=>bg 2 U<|RK M<|WS fun _ C=>rP 3 [] I ?_
 obtain ⟨x,hx⟩:=aO l i om
 have O:=bP iC hx
 refine rS (IA i U (aG 0 U) cy dc om om)<|rS (gF i 0 (vI x) U cq (aG 0 U) O U dc U)<|rS (SX (sh U U U (hf x (aX hx)) (bp [1])) U U)<|RK C<|cM U (fun hp=>?_) (fun hp=>?_)
 ·refine WS fun _ D=>rP 2 [] I ?_
  refine RK D<|ar<|Q1 hQ U U U ?_
  exact cI (wB hx hp A).symm
 refine bY<|aD<|KK L<|an<|rP 2 [] I ?_
 refine aH ?_
 refine aT (F ⟨(i+1),⟨om,xB hx A hp⟩⟩ _ _ _ U os (aQ U) (aK [0,1]))
theorem rR (l:List Int) (lA:OA) (lC:Nat) (f:Value) (p:Int→Bool) (X:av) (hf: ∀ x0,x0∈l→D_ Tryz.prog f [.int .i64 x0] [X] (.bool (p x0))) (hlen:l.length≤1000000):
 ej Tryz.prog 54 [(vS lA l.length lC),f] [(rd lA l.length 1 (l.map iC)),X] (vB (l.any p)):=by
 refine bI kr Tryz.func54 U U fun C Q hQ hN=>?_
 try dsimp only
 refine WS fun _ A=>bg 1 U<|RK A<|WS fun _ B=>bg 2 U<|rS (CL (Nv l lA lC f p X (by exact hf) hlen) (bp [0,1]) U)<|rP 2 [] I ?_
 refine RK B<|ar<|Q1 hQ U U U ?_
 exact cB uJ
theorem Gx (n lo hi:Int) (g1 g2:Nat):
 ej Tryz.prog 139 [(vI n),(vP g1),(vP g2)] [(bZ g1 3 [(vI lo)]),(bZ g2 3 [(vI hi)])] (vB (decide (n<lo∨hi<n))):=by
 refine bI kr Tryz.func139 U U fun D Q hQ hN=>?_
 try dsimp only
 refine WS fun _ B=>bg 1 U<|RK B<|WS fun _ A=>rP 4 [] (mr 0 U I) ?_
 refine db (t:=8) U (aS fun C=>?_) (aR fun C=>?_)
 ·refine rP 5 [] I ?_
  refine RK A<|ar<|Q1 hQ U U U ?_
  exact cB (fO om).symm
 refine rP 5 [] (mr 1 U I) ?_
 refine RK A<|ar<|Q1 hQ U U U ?_
 exact cB (decide_eq_decide.2 om)
theorem o0 (lo hi:Int) (l:List Int) (lA:OA) (lC:Nat) (hlen:l.length≤1000000):
 ej Tryz.prog 108 [(vI lo),(vI hi),(vS lA l.length lC)] [(rd lA l.length 1 (l.map iC))] (vB (pP lo hi l)):=by
 refine bI kr Tryz.func108 U U fun F Q hQ hN=>?_
 try dsimp only
 refine WS fun _ D=>uy U U fun A=>uy U U fun B=>bg 1 U<|RK D<|WS fun _ E=>rP 1 [] I ?_
 refine rS (FU U) ?_
 refine rS (CL (rR l lA lC (Value.func (.func 139) [].toArray [(vP A),(vP B)].toArray) (fun C=>(decide (C<lo∨hi<C))) (e7 [(bZ A 3 [(vI lo)]),(bZ B 3 [(vI hi)])]) (by intro C _; exact nq (fi:=[]) (ca:=[(vP A),(vP B)]) (lW (Gx C lo hi A B) (bp [0,1]))) hlen) (fH 2 U U<|ay (l3 (bp [1,0]))<|aL) U) ?_
 refine rP 2 [] I ?_
 refine RK E<|ar ?_
 exact Q1 hQ U U U U
theorem vH (s:aa) (lo hi:Int):
 ej Tryz.prog 109 [(vA (aa.cells s)),(vI lo),(vI hi)] [] (vB (decide (s.Lo≤s.Hi∧lo≤s.Lo∧s.Hi≤hi))):=by
 refine bI kr Tryz.func109 U U fun F Q hQ hN=>?_
 try dsimp only
 refine WS fun _ B=>fV U fun E=>bg 1 U<|RK B<|WS fun _ A=>rP 6 [] (mc 0 U I) ?_
 refine cU (xs:=[.tmp 10,.tmp 12]) (cs:=[(vI s.Lo),(vI s.Hi)]) U cy jd U U U U (by simp [Value.cells]) U U fun C=>?_
 refine rS (CL (ej.eq (o0 lo hi ([s.Lo,s.Hi]) (some ⟨C,0,none⟩) 2 (by (simp; done))) q7) (ay (aY 0 U U (by simp [bJ]) U)<|aL) U) ?_
 refine rP 1 [] I ?_
 refine cb (t:=15) U (aR fun D=>?_) (aS fun D=>?_)
 ·refine rP 7 [] I ?_
  refine RK A<|ar<|Q1 hQ U U U ?_
  exact cB (cr om).symm
 refine rP 7 [] (mc 1 U I) ?_
 refine RK A<|ar<|Q1 hQ U U U ?_
 exact cB (decide_eq_decide.2 om)
theorem vK (ts:List ao) (tsA:OA) (tsC:Nat) (hlen:ts.length≤1000000):
 ej Tryz.prog 104 [(vA (aZ.cells (aZ.mk (aM.mk tsA ts.length tsC))))] [(rd tsA ts.length 9 (ts.map ao.cells))] (vB (cV ts)):=by
 refine bI kr Tryz.func104 U U fun w0 Q hQ hN=>?_
 try dsimp only
 refine WS fun _ AZ=>fV U fun b2=>bg 1 U<|RK AZ<|al fun _ Aa=>WS fun _ Ab=>fE 3 [] (mc 0 U I) U<|rS (CL (oT (ts.length:Int) 1 12) (aL) U)<|rP 1 [] I ?_
 refine RK Ab<|cM U (bx fun h5=>?_) (bw fun h5=>?_)
 ·refine WS fun _ Ac=>rP 1 [] I ?_
  refine RK Ac<|ar<|Q1 hQ U U U ?_
  exact cB (nV om).symm
 refine WK Aa<|al fun _ Ad=>WS fun _ Ae=>rP 1 [] I ?_
 refine RK Ae<|aw ?_
 have E:(0≤ts.length)∧(eP (-1) ts=eP (f_ ts 0) (ts.drop 0))∧(-1≤f_ ts 0):=by (refine ⟨om,rfl,by simp [f_]⟩)
 refine bO (ι:={z:Nat // (z≤ts.length)∧(eP (-1) ts=eP (f_ ts z) (ts.drop z))∧(-1≤f_ ts z)}) [1] [0,1] U U (fun z=>[(3,(vI (z.1:Int)))]) (fun z=>[]) (fun _=>rfl) (fun _=>rfl) (fun z=>ts.length-z.1) ⟨0,E⟩ (aQ U) (aK [0,1]) ?_
 clear E
 rintro ⟨i,⟨Af,A,Ag⟩⟩ J9 D
 try dsimp only
 have hz:i=0→f_ ts i= -1:=CK
 refine al fun _ K=>WS fun _ L=>rP 5 [] (mc 0 U I) ?_
 refine RK L<|bR U (aR fun v=>?_) (aS fun v=>?_)
 ·refine bB<|ae<|ae<|ax<|KK Ad<|WS fun _ u=>rP 1 [] I ?_
  refine RK u<|ar<|Q1 hQ U U U ?_
  exact cB (uX A om om).symm
 refine WK K<|al fun _ C=>aw<|WS fun _ M=>rP 3 [] (mc 0 U I) ?_
 obtain ⟨x,hx⟩:=aO ts i om
 have Ah:=bP ao.cells hx
 refine rS (IA i U (aG 1 U) yi dc om om)<|rS (oB i 0 (ao.cells x) U cq (aG 1 U) Ah U dc U U)<|AL U E5 fun Aj=>fR U JQ U<|RK M<|al fun _ F=>al fun _ B=>dF cD 38 kr<|mI 2 [] (mc 0 U I) U<|dS (CL (oT x.Id 0 9999) (aL) U)<|dP 2 [] I ?_
 refine iS (t:=26) U (bx fun w=>?_) (bw fun w=>?_)
 ·refine lz 11 U<|lz 22 U<|cO<|RK B<|aP U<|WS fun _ N=>rP 1 [] I ?_
  refine RK N<|ar<|Q1 hQ U U U ?_
  exact cB (dN A hx (by simp only [bS,dV]; omega)).symm
 refine dP 3 [] I ?_
 refine jk (t:=29) U (aR fun AA=>?_) (aS fun AA=>?_)
 ·refine lz 8 U<|lz 6 U<|dS (LP (aa.cells x.km) 0 U cq U U U)<|dS (CL (o_ x.km 1 30000) (aL) U)<|dP 3 [] I ?_
  refine iS (t:=48) U (bx fun AO=>?_) (bw fun AO=>?_)
  ·refine lz 11 U<|cO<|RK B<|aP U<|WS fun _ e=>rP 1 [] I ?_
   refine RK e<|ar<|Q1 hQ U U U ?_
   exact cB (dN A hx (by simp only [bS,dV]; omega)).symm
  refine lz 1 U<|dS (LP (aa.cells x.lx) 0 U cq U U U)<|dS (CL (o_ x.lx 0 5000) (aL) U)<|dP 3 [] I ?_
  refine iS (t:=54) U (bx fun AP=>?_) (bw fun AP=>?_)
  ·refine lz 5 U<|cO<|RK B<|aP U<|WS fun _ f=>rP 1 [] I ?_
   refine RK f<|ar<|Q1 hQ U U U ?_
   exact cB (dN A hx (by simp only [bS,dV]; omega)).symm
  refine mI 2 [] (mc 0 U I) U<|dS (CL (oT x.zH 0 5000) (aL) U)<|dP 2 [] I ?_
  refine cO<|RK B<|cM U (bx fun AQ=>?_) (bw fun AQ=>?_)
  ·refine WS fun _ g=>rP 1 [] I ?_
   refine RK g<|ar<|Q1 hQ U U U ?_
   exact cB (dN A hx (by simp only [bS,dV]; omega)).symm
  refine WK F<|WS fun _ h=>fE 2 [] (mc 0 U I) U<|RK h<|aw<|WS fun _ j=>rS (BI U mq)<|rP 1 [] I ?_
  refine RK j<|cM U (aS fun AR=>?_) (aR fun AR=>?_)
  ·refine WS fun _ Am=>rP 5 [] (mc 0 U I) ?_
   refine db (t:=68) U (bx fun AS=>?_) (bw fun AS=>?_)
   ·refine bg 5 U<|RK Am<|aP U<|WS fun _ k=>rP 1 [] I ?_
    refine RK k<|ar<|Q1 hQ U U U ?_
    exact cB (dN A hx (by simp only [bS,dV]; omega)).symm
   refine rP 5 [] (mc 0 U I) ?_
   refine RK Am<|bR U (bw fun AT=>?_) (bx fun AT=>?_)
   ·refine bY<|aD<|aD<|KK C<|an<|rP 3 [] I ?_
    refine aH ?_
    refine aT (D ⟨(i+1),⟨om,gQ A hx (by simp only [bS,dV]; omega),by rw [fY hx]; omega⟩⟩ _ _ _ U os (aQ U) (aK [1,2]))
   refine WS fun _ l=>rP 1 [] I ?_
   refine RK l<|ar<|Q1 hQ U U U ?_
   exact cB (dN A hx (by simp only [bS,dV]; omega)).symm
  refine al fun _ J=>WS fun _ m=>rS (BI U mq)<|rP 1 [] I ?_
  refine RK m<|cM U (aS fun AU=>?_) (aR fun AU=>?_)
  ·refine WK J<|bR U (aR fun AV=>?_) (aS fun AV=>?_)
   ·refine WS fun _ p=>rP 1 [] I ?_
    refine RK p<|ar<|Q1 hQ U U U ?_
    exact cB (nV om).symm
   refine WS fun _ n=>bg 1 U<|rS (LP (aa.cells x.eL) 0 U cq U U U)<|rS (CL (o_ x.eL 500 20000) (aL) U)<|rP 1 [] I ?_
   refine RK n<|bR U (bw fun AW=>?_) (bx fun AW=>?_)
   ·refine bY<|aD<|aD<|KK C<|an<|rP 3 [] I ?_
    refine aH ?_
    refine aT (D ⟨(i+1),⟨om,gQ A hx (by simp only [bS,dV]; omega),by rw [fY hx]; omega⟩⟩ _ _ _ U os (aQ U) (aK [1,2]))
   refine WS fun _ o=>rP 1 [] I ?_
   refine RK o<|ar<|Q1 hQ U U U ?_
   exact cB (dN A hx (by simp only [bS,dV]; omega)).symm
  refine an<|rS (BI U mq)<|rP 1 [] I ?_
  refine RK J<|bR U (aR fun AX=>?_) (aS fun AX=>?_)
  ·refine WS fun _ s=>rP 1 [] I ?_
   refine RK s<|ar<|Q1 hQ U U U ?_
   exact cB (dN A hx (by simp only [bS,dV]; omega)).symm
  refine WS fun _ q=>bg 1 U<|rS (LP (aa.cells x.eL) 0 U cq U U U)<|rS (CL (o_ x.eL 500 20000) (aL) U)<|rP 1 [] I ?_
  refine RK q<|bR U (bw fun AY=>?_) (bx fun AY=>?_)
  ·refine bY<|aD<|aD<|KK C<|an<|rP 3 [] I ?_
   refine aH ?_
   refine aT (D ⟨(i+1),⟨om,gQ A hx (by simp only [bS,dV]; omega),by rw [fY hx]; omega⟩⟩ _ _ _ U os (aQ U) (aK [1,2]))
  refine WS fun _ r=>rP 1 [] I ?_
  refine RK r<|ar<|Q1 hQ U U U ?_
  exact cB (dN A hx (by simp only [bS,dV]; omega)).symm
 refine dP 6 [0,1] (mc 0 U (mc 1 U I)) ?_
 obtain ⟨y,hy⟩:=aO ts (i-1) om
 have Ai:=bP ao.cells hy
 refine dS (IA (i-1) U (aG 2 U) yi dc om om)<|dS (nK ((i-1)*9) U (aG 2 U) (Nat.mul_pos om dc) fD U) ?_
 have Al:=Ev om hy
 refine dS (gF (i-1) 0 (vI y.Id) U cq (aG 2 U) Ai U dc U)<|dP 4 [] I ?_
 refine iS (t:=42) U (aS fun AB=>?_) (aR fun AB=>?_)
 ·refine lz 17 U<|cO<|RK B<|aP U<|WS fun _ O=>rP 1 [] I ?_
  refine RK O<|ar<|Q1 hQ U U U ?_
  exact cB (dN A hx (by simp only [bS,dV]; omega)).symm
 refine lz 1 U<|dS (LP (aa.cells x.km) 0 U cq U U U)<|dS (CL (o_ x.km 1 30000) (aL) U)<|dP 3 [] I ?_
 refine iS (t:=48) U (bx fun AC=>?_) (bw fun AC=>?_)
 ·refine lz 11 U<|cO<|RK B<|aP U<|WS fun _ P=>rP 1 [] I ?_
  refine RK P<|ar<|Q1 hQ U U U ?_
  exact cB (dN A hx (by simp only [bS,dV]; omega)).symm
 refine lz 1 U<|dS (LP (aa.cells x.lx) 0 U cq U U U)<|dS (CL (o_ x.lx 0 5000) (aL) U)<|dP 3 [] I ?_
 refine iS (t:=54) U (bx fun AD=>?_) (bw fun AD=>?_)
 ·refine lz 5 U<|cO<|RK B<|aP U<|WS fun _ R=>rP 1 [] I ?_
  refine RK R<|ar<|Q1 hQ U U U ?_
  exact cB (dN A hx (by simp only [bS,dV]; omega)).symm
 refine mI 2 [] (mc 0 U I) U<|dS (CL (oT x.zH 0 5000) (aL) U)<|dP 2 [] I ?_
 refine cO<|RK B<|cM U (bx fun AE=>?_) (bw fun AE=>?_)
 ·refine WS fun _ S=>rP 1 [] I ?_
  refine RK S<|ar<|Q1 hQ U U U ?_
  exact cB (dN A hx (by simp only [bS,dV]; omega)).symm
 refine WK F<|WS fun _ T=>fE 2 [] (mc 0 U I) U<|RK T<|aw<|WS fun _ Ak=>rS (BI U mq)<|rP 1 [] I ?_
 refine RK Ak<|cM U (aS fun AF=>?_) (aR fun AF=>?_)
 ·refine WS fun _ G=>rP 5 [] (mc 0 U I) ?_
  refine db (t:=68) U (bx fun AG=>?_) (bw fun AG=>?_)
  ·refine bg 5 U<|RK G<|aP U<|WS fun _ V=>rP 1 [] I ?_
   refine RK V<|ar<|Q1 hQ U U U ?_
   exact cB (dN A hx (by simp only [bS,dV]; omega)).symm
  refine rP 5 [] (mc 0 U I) ?_
  refine RK G<|bR U (bw fun AH=>?_) (bx fun AH=>?_)
  ·refine bY<|aD<|aD<|KK C<|an<|rP 3 [] I ?_
   refine aH ?_
   refine aT (D ⟨(i+1),⟨om,gQ A hx (by simp only [bS,dV]; omega),by rw [fY hx]; omega⟩⟩ _ _ _ U os (aQ U) (aK [1,2]))
  refine WS fun _ W=>rP 1 [] I ?_
  refine RK W<|ar<|Q1 hQ U U U ?_
  exact cB (dN A hx (by simp only [bS,dV]; omega)).symm
 refine al fun _ H=>WS fun _ X=>rS (BI U mq)<|rP 1 [] I ?_
 refine RK X<|cM U (aS fun AI=>?_) (aR fun AI=>?_)
 ·refine WK H<|bR U (aR fun AJ=>?_) (aS fun AJ=>?_)
  ·refine WS fun _ a=>rP 1 [] I ?_
   refine RK a<|ar<|Q1 hQ U U U ?_
   exact cB (nV om).symm
  refine WS fun _ Y=>bg 1 U<|rS (LP (aa.cells x.eL) 0 U cq U U U)<|rS (CL (o_ x.eL 500 20000) (aL) U)<|rP 1 [] I ?_
  refine RK Y<|bR U (bw fun AK=>?_) (bx fun AK=>?_)
  ·refine bY<|aD<|aD<|KK C<|an<|rP 3 [] I ?_
   refine aH ?_
   refine aT (D ⟨(i+1),⟨om,gQ A hx (by simp only [bS,dV]; omega),by rw [fY hx]; omega⟩⟩ _ _ _ U os (aQ U) (aK [1,2]))
  refine WS fun _ Z=>rP 1 [] I ?_
  refine RK Z<|ar<|Q1 hQ U U U ?_
  exact cB (dN A hx (by simp only [bS,dV]; omega)).symm
 refine an<|rS (BI U mq)<|rP 1 [] I ?_
 refine RK H<|bR U (aR fun AM=>?_) (aS fun AM=>?_)
 ·refine WS fun _ d=>rP 1 [] I ?_
  refine RK d<|ar<|Q1 hQ U U U ?_
  exact cB (dN A hx (by simp only [bS,dV]; omega)).symm
 refine WS fun _ b=>bg 1 U<|rS (LP (aa.cells x.eL) 0 U cq U U U)<|rS (CL (o_ x.eL 500 20000) (aL) U)<|rP 1 [] I ?_
 refine RK b<|bR U (bw fun AN=>?_) (bx fun AN=>?_)
 ·refine bY<|aD<|aD<|KK C<|an<|rP 3 [] I ?_
  refine aH ?_
  refine aT (D ⟨(i+1),⟨om,gQ A hx (by simp only [bS,dV]; omega),by rw [fY hx]; omega⟩⟩ _ _ _ U os (aQ U) (aK [1,2]))
 refine WS fun _ c=>rP 1 [] I ?_
 refine RK c<|ar<|Q1 hQ U U U ?_
 exact cB (dN A hx (by simp only [bS,dV]; omega)).symm
theorem Cw (ts:List ao) (tsA:OA) (tsC:Nat) (hlen:ts.length≤1000000) (hside: ∀ x∈ts,0≤x.iZ∧x.iZ≤255):
 ej Tryz.prog 74 [(vA (aZ.cells (aZ.mk (aM.mk tsA ts.length tsC))))] [(rd tsA ts.length 9 (ts.map ao.cells))] (vI (if cV ts=true then 0 else 10)):=by
 refine bI kr Tryz.func74 U U fun w0 Q hQ hN=>?_
 try dsimp only
 refine WS fun _ v=>fV U fun b2=>bg 1 U<|RK v<|Al U<|al fun _ w=>WS fun _ y=>rP 3 [] (mc 0 U I) ?_
 refine cU (xs:=[.tmp 11]) (cs:=[(vI (ts.length:Int))]) U cy jd U U U U (by simp [Value.cells]) U U fun b5=>?_
 refine rS (CL (ej.eq (o0 1 12 ([(ts.length:Int)]) (some ⟨b5,0,none⟩) 1 (by (simp; done))) cT) (ay (aY 0 U U (by simp [bJ]) U)<|aL) U) ?_
 refine rP 1 [] I ?_
 refine RK y<|cM U (bx fun h6=>?_) (bw fun h6=>?_)
 ·refine WS fun _ AA=>rP 1 [] I ?_
  refine RK AA<|ar<|Q1 hQ U U U ?_
  exact cI (if_neg (by rw [nV om]; decide)).symm
 refine WK w<|WS fun _ AB=>bg 1 U<|RK AB<|WS fun _ AC=>bg 1 U<|RK AC<|al fun _ J=>AM<|KK J<|al fun _ B=>WS fun _ K=>rP 4 [] (mc 1 U I) ?_
 refine RK K<|aw ?_
 have D:(0≤ts.length)∧(eP (-1) ts=eP (f_ ts 0) (ts.drop 0))∧(-1≤f_ ts 0)∧(f_ ts 0≤9999):=by (refine ⟨om,rfl,by simp [f_],by simp [f_]⟩)
 refine bO (ι:={z:Nat // (z≤ts.length)∧(eP (-1) ts=eP (f_ ts z) (ts.drop z))∧(-1≤f_ ts z)∧(f_ ts z≤9999)}) [1,4,16,17] [1,2] U U (fun z=>[(3,(vI (f_ ts z.1))),(18,(vI (z.1:Int)))]) (fun z=>[]) (fun _=>rfl) (fun _=>rfl) (fun z=>ts.length-z.1) ⟨0,D⟩ (aQ U) (aK [1,2]) ?_
 clear D
 rintro ⟨i,⟨AD,A,AE,AF⟩⟩ J13 E
 try dsimp only
 refine WS fun _ L=>rP 1 [] I ?_
 refine RK L<|al fun _ M=>bR U (aR fun k=>?_) (aS fun k=>?_)
 ·refine bB<|ae<|ae<|ax<|KK B<|WS fun _ O=>rP 2 [] I ?_
  refine RK O<|ar<|Q1 hQ U U U ?_
  exact cI (if_pos (uX A om om)).symm
 refine WK M<|al fun _ F=>aw<|WS fun _ N=>?_
 obtain ⟨x,hx⟩:=aO ts i om
 have AG:=bP ao.cells hx
 refine rS (IA i U (aG 1 U) yi dc om om) ?_
 have AK:=hside x (aX hx)
 refine rS (oB i 0 (ao.cells x) U cq (aG 1 U) AG U dc U U)<|AL U E5 fun AH=>fR U JQ U<|RK N ?_
 refine mN (ι:=Unit) [1,3,4,6,16,17,18] [0,1,2] U U (fun z=>[(7,(vB (decide (x.iZ=0∧x.eL.Lo=0∧x.eL.Hi=0))))]) (fun z=>[]) (fun _=>rfl) (fun _=>rfl) ?_ fun K20 G=>?_
 ·intro _
  try dsimp only
  refine mN (ι:=Unit) [1,3,4,6,7,16,17,18] [0,1,2] U U (fun z=>[(8,(vB (decide ((1≤x.iZ∧x.iZ≤2)∧x.eL.Lo≤x.eL.Hi∧500≤x.eL.Lo∧x.eL.Hi≤20000))))]) (fun z=>[]) (fun _=>rfl) (fun _=>rfl) ?_ fun K21 H=>?_
  ·intro _
   try dsimp only
   refine al fun _ AJ=>WS fun _ C=>rP 4 [] (mc 0 U I) ?_
   refine cU (xs:=[.tmp 44]) (cs:=[(vI x.Id)]) U cy jd U U U U (by simp [Value.cells]) U U fun h=>?_
   refine rS (CL (ej.eq (o0 ((f_ ts i)+1) 9999 ([x.Id]) (some ⟨h,0,none⟩) 1 (by (simp; done))) cT) (ay (aY 0 U U (by simp [bJ]) U)<|aL) U) ?_
   refine rP 2 [] I ?_
   refine db (t:=48) U (bx fun o=>?_) (bw fun o=>?_)
   ·refine bg 26 U<|RK C<|aP U<|WS fun _ P=>bg 1 U<|RK P<|bB<|ae<|iw U<|ae<|ae<|ax<|KK B<|WS fun _ R=>rP 2 [] I ?_
    refine RK R<|ar<|Q1 hQ U U U ?_
    exact cI (if_neg (by rw [dN A hx (by simp only [bS,dV]; omega)]; decide)).symm
   refine bg 1 U<|rS (LP (aa.cells x.km) 1 U cq U U U)<|rS (CL (vH x.km 1 30000) (aL) U)<|rP 3 [] I ?_
   refine db (t:=54) U (bx fun p=>?_) (bw fun p=>?_)
   ·refine bg 20 U<|RK C<|aP U<|WS fun _ S=>bg 1 U<|RK S<|bB<|ae<|iw U<|ae<|ae<|ax<|KK B<|WS fun _ T=>rP 2 [] I ?_
    refine RK T<|ar<|Q1 hQ U U U ?_
    exact cI (if_neg (by rw [dN A hx (by simp only [bS,dV]; omega)]; decide)).symm
   refine bg 1 U<|rS (LP (aa.cells x.lx) 1 U cq U U U)<|rS (CL (vH x.lx 0 5000) (aL) U)<|rP 3 [] I ?_
   refine db (t:=60) U (bx fun q=>?_) (bw fun q=>?_)
   ·refine bg 14 U<|RK C<|aP U<|WS fun _ AI=>bg 1 U<|RK AI<|bB<|ae<|iw U<|ae<|ae<|ax<|KK B<|WS fun _ V=>rP 2 [] I ?_
    refine RK V<|ar<|Q1 hQ U U U ?_
    exact cI (if_neg (by rw [dN A hx (by simp only [bS,dV]; omega)]; decide)).symm
   refine rP 2 [] (mc 1 U I) ?_
   refine cU (xs:=[.tmp 62]) (cs:=[(vI x.zH)]) U cy jd U U U U (by simp [Value.cells]) U U fun j=>?_
   refine rS (CL (ej.eq (o0 0 5000 ([x.zH]) (some ⟨j,0,none⟩) 1 (by (simp; done))) cT) (ay (aY 0 U U (by simp [bJ]) U)<|aL) U) ?_
   refine rP 3 [] I ?_
   refine db (t:=67) U (bx fun r=>?_) (bw fun r=>?_)
   ·refine bg 7 U<|RK C<|aP U<|WS fun _ W=>bg 1 U<|RK W<|bB<|ae<|iw U<|ae<|ae<|ax<|KK B<|WS fun _ X=>rP 2 [] I ?_
    refine RK X<|ar<|Q1 hQ U U U ?_
    exact cI (if_neg (by rw [dN A hx (by simp only [bS,dV]; omega)]; decide)).symm
   refine rP 3 [] I ?_
   refine cb (t:=70) U (bw fun s=>?_) (bx fun s=>?_)
   ·refine bg 4 U<|RK C<|aV U<|WK AJ<|an<|fE 3 [] (mc 2 U I) U<|aH<|aD<|KK F<|an<|rP 2 [] I ?_
    refine aH ?_
    have f:(vI (f_ ts (i+1)))=(vI x.Id):=by rw [fY hx]
    refine aT (E ⟨(i+1),⟨om,gQ A hx (by simp only [bS,dV]; omega),by rw [fY hx]; omega,by rw [fY hx]; omega⟩⟩ _ _ _ U os (cN 4<|bk U f<|aQ U) (aK [3,4]))
   refine rP 4 [] I ?_
   refine RK C<|bR U (bw fun u=>?_) (bx fun u=>?_)
   ·refine WK AJ<|an<|fE 3 [] (mc 2 U I) U<|aH<|aD<|KK F<|an<|rP 2 [] I ?_
    refine aH ?_
    have e:(vI (f_ ts (i+1)))=(vI x.Id):=by rw [fY hx]
    refine aT (E ⟨(i+1),⟨om,gQ A hx (by simp only [bS,dV]; omega),by rw [fY hx]; omega,by rw [fY hx]; omega⟩⟩ _ _ _ U os (cN 4<|bk U e<|aQ U) (aK [3,4]))
   refine WS fun _ Y=>bg 1 U<|RK Y<|bB<|ae<|iw U<|ae<|ae<|ax<|KK B<|WS fun _ Z=>rP 2 [] I ?_
   refine RK Z<|ar<|Q1 hQ U U U ?_
   exact cI (if_neg (by rw [dN A hx (by simp only [bS,dV]; omega)]; decide)).symm
  refine an<|rP 2 [] (mc 0 U I) ?_
  refine rS (SX (tJ (m:=x.iZ) U U QJ od (p_ (by first|assumption|omega))) U U)<|cU (xs:=[.tmp 33]) (cs:=[(vI x.iZ)]) U cy jd U U U U (by simp [Value.cells]) U U fun g=>?_
  refine rS (CL (ej.eq (o0 1 2 ([x.iZ]) (some ⟨g,0,none⟩) 1 (by (simp; done))) cT) (ay (aY 0 U U (by simp [bJ]) U)<|aL) U) ?_
  refine rP 1 [] I ?_
  refine cb (t:=36) U (aR fun n=>?_) (aS fun n=>?_)
  ·refine rP 5 [] I ?_
   refine aH ?_
   have d:(decide ((1≤x.iZ∧x.iZ≤2)∧x.eL.Lo≤x.eL.Hi∧500≤x.eL.Lo∧x.eL.Hi≤20000))=false:=cr om
   refine aT (jg (cN 8<|mY U d<|dx.nil _) (aK [1,2,3]) (H ()))
  refine bg 1 U<|rS (LP (aa.cells x.eL) 1 U cq U U U)<|rS (CL (vH x.eL 500 20000) (aL) U)<|rP 2 [] I ?_
  refine aH ?_
  have c:(decide ((1≤x.iZ∧x.iZ≤2)∧x.eL.Lo≤x.eL.Hi∧500≤x.eL.Lo∧x.eL.Hi≤20000))=(decide (x.eL.Lo≤x.eL.Hi∧500≤x.eL.Lo∧x.eL.Hi≤20000)):=decide_eq_decide.2 om
  refine aT (jg (cN 8<|mY U c<|dx.nil _) (aK [1,2,3]) (H ()))
 refine an<|fE 2 [] (mc 0 U I) U<|rS (BI U mq)<|rP 1 [] I ?_
 refine cb (t:=25) U (aR fun l=>?_) (aS fun l=>?_)
 ·refine rP 6 [] I ?_
  refine aH ?_
  have b:(decide (x.iZ=0∧x.eL.Lo=0∧x.eL.Hi=0))=false:=cr om
  refine aT (jg (cN 7<|mY U b<|dx.nil _) (aK [0,1,2]) (G ()))
 refine bg 1 U<|rS (LP (aa.cells x.eL) 0 U cq U U U)<|rS (SX (bj (xs:=[]) (cs:=(aa.cells (aa.mk 0 0))) U U (bh gl U)) U U)<|rS (BI U (tp _ _ x.eL (aa.mk 0 0)))<|rP 2 [] I ?_
 refine aH ?_
 have a:(decide (x.iZ=0∧x.eL.Lo=0∧x.eL.Hi=0))=(decide (x.eL=(aa.mk 0 0))):=decide_eq_decide.2 (by (simp only [aa.ext_iff] at *; omega))
 refine aT (jg (cN 7<|mY U a<|dx.nil _) (aK [0,1,2]) (G ()))
end
section
open Go.RowKit
theorem Lc (n lo hi:Int) (g1 g2:Nat):
 ej Tryz.prog 55 [(vI n),(vP g1),(vP g2)] [(bZ g1 3 [(vI lo)]),(bZ g2 3 [(vI hi)])] (vB (decide (n<lo∨hi<n))):=by
 refine bI kr Tryz.func55 U U fun D Q hQ hN=>?_
 try dsimp only
 refine WS fun _ B=>bg 1 U<|RK B<|WS fun _ A=>rP 4 [] (mr 0 U I) ?_
 refine db (t:=8) U (aS fun C=>?_) (aR fun C=>?_)
 ·refine rP 5 [] I ?_
  refine RK A<|ar<|Q1 hQ U U U ?_
  exact cB (fO om).symm
 refine rP 5 [] (mr 1 U I) ?_
 refine RK A<|ar<|Q1 hQ U U U ?_
 exact cB (decide_eq_decide.2 om)
theorem j6 (lo hi:Int) (l:List Int) (lA:OA) (lC:Nat) (hlen:l.length≤1000000):
 ej Tryz.prog 32 [(vI lo),(vI hi),(vS lA l.length lC)] [(rd lA l.length 1 (l.map iC))] (vB (pP lo hi l)):=by
 refine bI kr Tryz.func32 U U fun F Q hQ hN=>?_
 try dsimp only
 refine WS fun _ D=>uy U U fun A=>uy U U fun B=>bg 1 U<|RK D<|WS fun _ E=>rP 1 [] I ?_
 refine rS (FU U) ?_
 refine rS (CL (rR l lA lC (Value.func (.func 55) [].toArray [(vP A),(vP B)].toArray) (fun C=>(decide (C<lo∨hi<C))) (e7 [(bZ A 3 [(vI lo)]),(bZ B 3 [(vI hi)])]) (by intro C _; exact nq (fi:=[]) (ca:=[(vP A),(vP B)]) (lW (Lc C lo hi A B) (bp [0,1]))) hlen) (fH 2 U U<|ay (l3 (bp [1,0]))<|aL) U) ?_
 refine rP 2 [] I ?_
 refine RK E<|ar ?_
 exact Q1 hQ U U U U
theorem Fv (s:aa):
 ej Tryz.prog 67 [(vA (aa.cells s))] [] (vB (decide (iJ s))):=by
 refine bI kr Tryz.func67 U U fun F Q hQ hN=>?_
 try dsimp only
 refine WS fun _ B=>fV U fun E=>bg 1 U<|RK B<|WS fun _ A=>rP 4 [] (mc 0 U I) ?_
 refine cU (xs:=[.tmp 4,.tmp 6]) (cs:=[(vI s.Lo),(vI s.Hi)]) U cy jd U U U U (by simp [Value.cells]) U U fun C=>?_
 refine rS (CL (ej.eq (j6 1 600000 ([s.Lo,s.Hi]) (some ⟨C,0,none⟩) 2 (by (simp; done))) q7) (ay (aY 0 U U (by simp [bJ]) U)<|aL) U) ?_
 refine rP 1 [] I ?_
 refine cb (t:=9) U (aR fun D=>?_) (aS fun D=>?_)
 ·refine rP 7 [] I ?_
  refine RK A<|ar<|Q1 hQ U U U ?_
  simp only [iJ]
  exact cB (cr om).symm
 refine rP 7 [] (mc 1 U I) ?_
 refine RK A<|ar<|Q1 hQ U U U ?_
 simp only [iJ]
 exact cB (decide_eq_decide.2 om)
theorem JO (d:aA) (sgA:OA) (sgC:Nat):
 ej Tryz.prog 190 [(vA (br.cells (br.mk d.Out d.eO d.Time (mB d.cx sgA sgC))))] [(rd sgA d.cx.aj.length 2 (d.cx.aj.map aN.cells))] (vB (decide (l6 d.cx))):=by
 refine bI kr Tryz.func190 U U fun F Q hQ hN=>?_
 try dsimp only
 refine WS fun _ B=>fV U fun E=>bg 1 U<|RK B<|WS fun _ A=>rP 5 [] (mc 0 U I) ?_
 refine cb (t:=7) U (aR fun C=>?_) (aS fun C=>?_)
 ·refine rP 13 [] I ?_
  refine RK A<|ar<|Q1 hQ U U U ?_
  simp only [l6]
  exact cB (cr om).symm
 refine rP 6 [] (mc 0 U I) ?_
 refine cb (t:=13) U (aR fun D=>?_) (aS fun D=>?_)
 ·refine rP 7 [] I ?_
  refine RK A<|ar<|Q1 hQ U U U ?_
  simp only [l6]
  exact cB (cr om).symm
 refine rP 7 [] (mc 0 U I) ?_
 refine RK A<|ar<|Q1 hQ U U U ?_
 simp only [l6]
 exact cB (decide_eq_decide.2 om)
theorem SG (d:aA) (sgA:OA) (sgC:Nat):
 ej Tryz.prog 188 [(vA (br.cells (br.mk d.Out d.eO d.Time (mB d.cx sgA sgC))))] [(rd sgA d.cx.aj.length 2 (d.cx.aj.map aN.cells))] (vB d.Out):=by
 refine bI kr Tryz.func188 U U fun D Q hQ hN=>?_
 try dsimp only
 refine WS fun _ A=>fV U fun C=>bg 1 U<|RK A<|WS fun _ B=>rP 3 [] (mc 0 U I) ?_
 refine RK B<|ar<|Q1 hQ U U U ?_
 rfl
theorem Ri (d:aA) (sgA:OA) (sgC:Nat):
 ej Tryz.prog 191 [(vA (br.cells (br.mk d.Out d.eO d.Time (mB d.cx sgA sgC))))] [(rd sgA d.cx.aj.length 2 (d.cx.aj.map aN.cells))] (vB d.eO):=by
 refine bI kr Tryz.func191 U U fun D Q hQ hN=>?_
 try dsimp only
 refine WS fun _ A=>fV U fun C=>bg 1 U<|RK A<|WS fun _ B=>rP 3 [] (mc 0 U I) ?_
 refine RK B<|ar<|Q1 hQ U U U ?_
 rfl
theorem QX (d:aA) (sgA:OA) (sgC:Nat):
 ej Tryz.prog 193 [(vA (br.cells (br.mk d.Out d.eO d.Time (mB d.cx sgA sgC))))] [(rd sgA d.cx.aj.length 2 (d.cx.aj.map aN.cells))] (vB true):=by
 refine bI kr Tryz.func193 U U fun D Q hQ hN=>?_
 try dsimp only
 refine WS fun _ A=>fV U fun C=>bg 1 U<|RK A<|WS fun _ B=>rP 1 [] I ?_
 refine RK B<|ar<|Q1 hQ U U U ?_
 rfl
end
section
open Go.RowKit
theorem zU (r:cf) (kA:OA) (kC:Nat) (az:List RA) (cA:OA) (cC:Nat) (bA:OA) (bC:Nat) (slA:OA) (slC:Nat) (drA:OA) (drC:Nat) (ha:List cQ) (heA:OA) (heC:Nat) (tz:List RA) (tA:OA) (tC:Nat) (ms:Value) (gw:Nat) (l:List Int) (lA:OA) (lC:Nat) (hin:fg r az ha) (hlen:l.length≤1000000):
 ej Tryz.prog 33 [(vP gw),(vS lA l.length lC)] [(rd kA r.ah.aJ.length 9 (r.ah.aJ.map ao.cells)),(rd cA r.ah.ai.length 2 (List.zipWith au.cells r.ah.ai az)),(e7 (aU au.gY r.ah.ai az)),(rd bA r.ah.ag.length 4 (r.ah.ag.map bE.cells)),(rd slA r.aI.length 1 (r.aI.map iC)),(rd drA r.bD.length 1 (r.bD.map iC)),(rd heA r.aq.length 1 (List.zipWith cz r.aq ha)),(e7 (aU hU r.aq ha)),(rd tA ((cP r).length) 1 (List.zipWith Ei (cP r) tz)),(e7 (aU L9 (cP r) tz)),(bZ gw 88 (fQ.cells (fQ.mk (ot r kA kC cA cC bA bC slA slC drA drC heA heC) (aM.mk tA ((cP r).length) tC) ms))),(rd lA l.length 1 (l.map iC))] (vB (pP 0 ((r.aI.length:Int)-1) l)):=by
 have C:=hin.line
 have G:=hin.iM
 have H:=hin.has
 have E:=hin.iN
 have D:=hin.draw
 have F:=dH (r:=r)
 refine bI kr Tryz.func33 U U fun AA Q hQ hN=>?_
 try dsimp only
 refine WS fun _ A=>bg 1 U<|RK A<|WS fun _ B=>bg 1 U<|rS (SX (bQ U U) U U)<|fE 6 [] (mr 10 U I) U<|rS (CL (j6 0 ((r.aI.length:Int)-1) l lA lC hlen) (bp [11]) U)<|rP 1 [] I ?_
 refine RK B<|ar ?_
 exact Q1 hQ U U U U
theorem xx (a b:Bool):
 ej Tryz.prog 35 [(vB a),(vB b)] [] (Value.int .u8 (if a=true then 2 else if b=true then 1 else 0)):=by
 refine bI kr Tryz.func35 U U fun J Q hQ hN=>?_
 try dsimp only
 refine WS fun _ C=>bg 1 U<|RK C<|al fun _ D=>aw<|WS fun _ E=>rP 2 [] I ?_
 refine RK E<|cM U (fun A=>?_) (fun A=>?_)
 ·refine WS fun _ F=>rP 1 [] I ?_
  refine RK F<|ar<|Q1 hQ U U U ?_
  rw [if_pos A]
 refine WS fun _ G=>rP 2 [] I ?_
 refine RK G<|cM U (fun B=>?_) (fun B=>?_)
 ·refine WS fun _ H=>rP 1 [] I ?_
  refine RK H<|ar<|Q1 hQ U U U ?_
  (rw [if_neg (by rw [A]; decide),if_pos B])
 refine bY<|aD<|KK D<|WS fun _ AA=>rP 1 [] I ?_
 refine RK AA<|ar<|Q1 hQ U U U ?_
 (rw [if_neg (by rw [A]; decide),if_neg (by rw [B]; decide)])
end
section
open Go.RowKit
theorem PB {P:Program} {t:TypeId} {x y:Operand} {k e:TypeId} {p:Option Nat} (h:P.underlying t=some (.map k e)):g6 P .eql t x y (.map p) (.map none) (.bool p.isNone):=fun w=>by
 have A:(Op.equal t (.map p) (.map none)).run P w= .ok p.isNone w:=by
  unfold Op.equal
  show (Op.equalIn (9999+1) t (.map p) (.map none)).run P w=_
  unfold Op.equalIn
  cases p<;>simp [run_underlying h]
 have B:eqGuard .eql t x y (.map p) (.map none)=pure ():=rfl
 rw [B]
 show (Sem.run P (do let b ← Op.equal t (.map p) (.map none); pure (vB b)) w)=_
 simp [A]
theorem EV {P:Program} {r:Nat} {es:Array MapEntry} {clock:Nat} {w:World} (t:TypeId) (hb:w.heap[r]? =some (.map es clock)):
 (Extern.MapsClone.clone #[.iface t (.map (some r))]).run P w= .ok (.iface t (.map (some w.heap.size))) (w.alloc (.map es clock)):=by
 have e:Extern.MapsClone.clone #[.iface t (.map (some r))]=(getObj r >>= fun o=>match o with
  | .map entries clock=>(newObj (.map entries clock) >>= fun n=>pure (.iface t (.map (some n))))
  |_=>stuck "maps.clone: a map expected"):=rfl
 rw [e]
 simp [MapKept.run_getObj_map hb,Result.andThen,go_sem]
theorem Cs {P:Program} {xt t k e:TypeId} {v:Value} {w:World} (h:P.underlying t=some (.map k e)):(Instr.typeAssert (.iface t v) xt t false).run P w= .ok v w:=by
 simp [Instr.typeAssert,run_underlying h,go_sem,Result.andThen]
theorem n7 {C:List av} {g t:Nat} {cs:List Value} {n sz:Nat} {es:List (List Value)} (i:Nat) (hC:C[i]? =some (bZ g t cs).ro) (h1:es.length=n) (h2: ∀ e∈es,e.length=sz) (h3:es.flatten=cs):jc C (rd (some ⟨g,0,none⟩) n sz es).holds:=fun w hw=>
 uc (show (bZ g t cs).holds w from hw (bZ g t cs).ro (aX hC)) h1 h2 ⟨[],by simp [h3]⟩
section
variable {E:ff} {ops:Array Oper} {Q:cZ} {rest:List Oper} {D:List Deferred} {L:List (Nat×Value)} {C:List av}
variable {dst:Option Nat} {d:Nat} {ty:TypeId} {ps:String} {af:Array Edge} {g:Option (Nat×Bool)}
theorem KW {P:Program} {t k e:TypeId} {v:Value} {w:World} (h:P.underlying t=some (.map k e)):(Instr.makeInterface t v).run P w= .ok (.iface t v) w:=by
 simp [Instr.makeInterface,run_underlying h,Result.andThen]
theorem ND {t k e:TypeId} {x:Operand} {v:Value} (hg:ju ops L g=true) (hx:ev L x=some v) (ht:E.P.underlying t=some (.map k e)):SD E ops ⟨dst,.makeInterface t x,ty,ps,af,g⟩ D L C (.iface t v):=
 dJ hg sm fun a w hf _=>by
  have e:=hf.ev hx
  simp only [execOp,e]
  rw [Sem.run_bind,KW ht]
  simp
theorem QZ {xt t kt et:TypeId} {x:Operand} {v:Value} (hg:ju ops L g=true) (hx:ev L x=some (.iface t v)) (ht:E.P.underlying t=some (.map kt et)):SD E ops ⟨dst,.typeAssert x xt t false,ty,ps,af,g⟩ D L C v:=
 dJ hg sm fun a w hf _=>by
  have e:=hf.ev hx
  simp only [execOp,e]
  rw [Sem.run_bind,Cs ht]
  simp
theorem I0 {K:Type} [DecidableEq K] {kV:K→Value} {x:Operand} {ts:Array TypeId} {f:FuncId} {fn:Func} {t b:Nat} {m:List (K×Value)} (hg:ju ops L g=true) (hx:ev L x=some (.iface t (.map (some b)))) (hf:E.P.funcs[f]? =some fn) (hname:(fn.name=="runtime.NumGoroutine")=false)
 (hb:fn.body.isNone=true) (hn:Extern.findNext fn=none) (he:Extern.find fn=some Extern.MapsClone.clone) (hC:jc C (gZ kV b m).holds) (hd:Nat.blt d E.n=true) (k: ∀ b',RJ E ops Q rest D ((d,.iface t (.map (some b')))::L) (gZ kV b' m::C)):
 RJ E ops Q (⟨some d,.call {callee:= .value (.func f),args:= #[x],argTypes:=ts},ty,ps,af,g⟩::rest) D L C:=by
 intro a w B hs
 have hd':d<E.n:=by rw [← Nat.blt_eq]; exact hd
 obtain ⟨es,c,F,hi⟩:=hC w hs.holds
 unfold rq
 rw [if_pos (d_ B hg)]
 refine gO (v:= .iface t (.map (some w.heap.size))) (w':=w.alloc (.map es c)) sm ?_ ?_
 ·have e:=B.ev hx
  have G:a.eval (.func f)= .func (.func f) #[] #[]:=rfl
  simp [execOp,resolve,e,G,Deferred.ofValue,invoke,run_callFunc_extern hf hname hb hn he,EV t F]
 ·refine k _ _ _ (B.put hd' _) (hs.grow (dY.alloc no w _) (N:=[gZ kV w.heap.size m]) ⟨fun A hA=>?_,fun A hA b hb=>?_,List.pairwise_singleton _ _⟩)
  ·simp at hA; subst hA; exact ⟨es,c,heap_alloc_new w _,hi⟩
  ·simp at hA; subst hA; exact Nat.le_of_eq (Eq.symm hb)
end
end
section
open Go.RowKit
theorem wF (lA:OA) (lN lC:Nat):
 lv Tryz.prog 51 [(vS lA lN lC)] [] (fun (x:Nat)=>(Value.func (.func 76) [].toArray [(vP x)].toArray)) (fun (x:Nat)=>True) (fun (x:Nat)=>[(bZ x 29 [(vS lA lN lC)])]):=by
 refine dp kr Tryz.func51 U U fun D Q hQ hN=>?_
 try dsimp only
 refine WS fun _ A=>uy U U fun C=>bg 1 U<|RK A<|WS fun _ B=>rS (FU U)<|rP 1 [] I ?_
 refine RK B<|ar<|LX hQ C [0] [] I U U U U ?_
 trivial
theorem Lh (nl:List Int) (nlA:OA) (nlC g1:Nat) (hlen:nl.length≤12):
 NF Tryz.prog 76 [] [(vP g1)] [(rd nlA nl.length 1 (nl.map iC)),(bZ g1 29 [(vS nlA nl.length nlC)])] (p7 nl):=by
 refine FH kr Tryz.func76 U U fun l J Z A0 T Q hY K AB hQ hN=>?_
 try dsimp only
 refine WS fun _ M=>rP 3 [] (mr 2 U I) ?_
 refine RK M<|aw ?_
 have F:(0≤nl.length)∧(J 0 A0)∧(Fo A0 T A0):=by exact ⟨Nat.zero_le _,K,AB⟩
 refine bO (ι:={z:Nat×av // (z.1≤nl.length)∧(J z.1 z.2)∧(Fo A0 T z.2)}) [0,1,5,6] [1] U U (fun z=>[(7,(vI (z.1.1:Int)))]) (fun z=>[z.1.2]) (fun _=>rfl) (fun _=>rfl) (fun z=>nl.length-z.1.1) ⟨(0,A0),F⟩ (aQ U) (aK [1,0]) ?_
 clear F
 rintro ⟨⟨i,A⟩,⟨G,B,C⟩⟩ J2 L
 try dsimp only at G B C
 try dsimp only
 refine WS fun _ N=>rP 1 [] I ?_
 refine RK N<|al fun _ O=>bR U (aR fun AA=>?_) (aS fun AA=>?_)
 ·refine bB<|ae<|ae<|ax ?_
  refine hN _ _ _ (gW (vs:=[]) trivial fun w hs=>Sf 1 U (by rw [tD]; have e:nl.length=i:=om; rw [e]; exact B) C hs)
 refine WK O<|al fun _ P=>aw<|WS fun _ R=>?_
 obtain ⟨x,hx⟩:=aO nl i om
 have S:=bP iC hx
 refine rS (IA i U (aG 0 U) cy dc om om)<|rS (gF i 0 (vI x) U cq (aG 0 U) S U dc U)<|bg 1 U<|RK R<|WS fun _ H=>rP 2 [] I ?_
 refine F2 1 hY B C U U U (HQ hx) U U (fun B9 E D=>?_) (fun B9 E D=>?_)
 rotate_left 1
 ·refine rP 1 [] I ?_
  refine RK H<|aP U<|ar ?_
  refine hQ _ _ _ (gW (vs:=[]) trivial fun w hs=>Om 1 U E D hs)
 refine bg 1 U<|RK H<|aV U<|bY<|aD<|KK P<|an<|rP 2 [] I ?_
 refine aH ?_
 refine aT (L ⟨((i+1),B9),⟨om,E,D⟩⟩ _ _ _ U os (aQ U) (aK [0,1]))
end
section
open Go.RowKit
theorem MC (x:Int):
 ej Tryz.prog 129 [(vI x)] [] (vB false):=by
 refine bI kr Tryz.func129 U U fun C Q hQ hN=>?_
 try dsimp only
 refine WS fun _ A=>bg 1 U<|RK A<|WS fun _ B=>rP 4 [] I ?_
 refine RK B<|ar<|Q1 hQ U U U ?_
 simp
theorem Nq (x y:Int):
 ej Tryz.prog 92 [(vI x),(vI y)] [] (vB (decide (x<y))):=by
 refine bI kr Tryz.func92 U U fun C Q hQ hN=>?_
 try dsimp only
 refine WS fun _ A=>bg 1 U<|RK A<|WS fun _ B=>bg 1 U<|rS (CL (MC x) (aL) U)<|rP 11 [] I ?_
 refine RK B<|ar<|Q1 hQ U U U ?_
 exact cB (decide_eq_decide.2 om)
theorem Hd (l:List Int) (lA:OA) (lC:Nat) (hlen:l.length≤1000000):
 De Tryz.prog 86 [(vS lA l.length lC),(vI 0),(vI (l.length:Int))] [] (own lA lC 3 1 (l.map iC)) (fun (x:(List Int))=>(vT [])) (fun (x:(List Int))=>x.Perm l∧x.Pairwise (· ≤ ·)) (fun (x:(List Int))=>(own lA lC 3 1 (x.map iC))):=by
 refine mE kr Tryz.func86 U U fun g Q hQ hN=>?_
 try dsimp only
 refine WS fun _ X=>bg 1 U<|rS (SX (b_ (r:= .int .i64 1) U U U (ik ⟨dc,dc⟩)) U U)<|rP 1 [] I ?_
 refine RK X<|aw ?_
 have A:(1≤1∧(1≤l.length∨1=1))∧(l.length=l.length)∧(l.Perm l)∧(Px l 1):=by exact ⟨om,rfl,List.Perm.refl _,MA⟩
 refine bO (ι:={z:Nat×(List Int) // (1≤z.1∧(z.1≤l.length∨z.1=1))∧(z.2.length=l.length)∧(z.2.Perm l)∧(Px z.2 z.1)}) [0,1,2] [] U U (fun z=>[(6,(vI (z.1.1:Int)))]) (fun z=>[(own lA lC 3 1 (z.1.2.map iC))]) (fun _=>rfl) (fun _=>rfl) (fun z=>l.length-z.1.1) ⟨(1,l),A⟩ (aQ U) (aK [0]) ?_
 clear A
 rintro ⟨⟨i,m⟩,⟨K,AB,E,F⟩⟩ J2 M
 try dsimp only at K AB E F
 try dsimp only
 refine al fun _ Y=>WS fun _ Z=>rP 3 [] I ?_
 refine RK Z<|bR U (aR fun e=>?_) (aS fun e=>?_)
 ·refine bB<|ae<|ae<|ax<|LM hN m 0 [] I U U U U ?_
  exact ⟨E,MO F om⟩
 refine WK Y<|al fun _ O=>aw<|WS fun _ b=>rP 2 [] I ?_
 refine RK b<|aw ?_
 have A:(i≤i)∧(m.length=l.length)∧(m.Perm l)∧(PN m i i):=by exact ⟨Nat.le_refl _,AB,E,Gk F om⟩
 refine bO (ι:={z:Nat×(List Int) // (z.1≤i)∧(z.2.length=l.length)∧(z.2.Perm l)∧(PN z.2 i z.1)}) [0,1,2,6] [] U U (fun z=>[(7,(vI (z.1.1:Int)))]) (fun z=>[(own lA lC 3 1 (z.1.2.map iC))]) (fun _=>rfl) (fun _=>rfl) (fun z=>z.1.1) ⟨(i,m),A⟩ (aQ U) (aK [0]) ?_
 clear A
 rintro ⟨⟨j,q⟩,⟨G,B,C,D⟩⟩ J8 W
 try dsimp only at G B C D
 try dsimp only
 refine al fun _ c=>al fun _ J=>dF cD 15 kr<|dP 4 [] I ?_
 refine jk (t:=19) U (aR fun hj=>?_) (aS fun hj=>?_)
 ·refine lz 11 U<|cO<|RK J<|aV U<|bB<|ae<|ae<|ax<|aD<|KK O<|an<|rP 3 [] I ?_
  refine aH ?_
  refine aT (M ⟨((i+1),q),⟨om,B,C,by exact Jz om D⟩⟩ _ _ _ U (by simp only []; omega) (aQ U) (aK [0]))
 refine dP 2 [] I ?_
 obtain ⟨x,hx⟩:=aO q j om
 have L:=bP iC hx
 refine dS (IA j U (ak (n:=l.length) 0 U sq) cy dc om om) ?_
 refine dS (gF j 0 (vI x) U cq (ak (n:=q.length) 0 U sm) L U dc U)<|dP 3 [] I ?_
 obtain ⟨y,hy⟩:=aO q (j-1) om
 have V:=bP iC hy
 refine dS (IA (j-1) U (ak (n:=l.length) 0 U sq) cy dc om om) ?_
 refine dS (gF (j-1) 0 (vI y) U cq (ak (n:=q.length) 0 U sm) V U dc U)<|dS (CL (Nq x y) (aL) U)<|dP 1 [] I ?_
 refine cO<|RK J<|bR U (aR fun H=>?_) (aS fun H=>?_)
 ·refine bB<|ae<|ae<|ax<|aD<|KK O<|an<|rP 3 [] I ?_
  refine aH ?_
  refine aT (M ⟨((i+1),q),⟨om,B,C,by exact IE hx hy om G H D⟩⟩ _ _ _ U (by simp only []; omega) (aQ U) (aK [0]))
 refine WK c<|al fun _ N=>aw<|dR cD [15,16,17] [8,9,12,13,14] [] [] [0] U U U U U<|eS U (MV U)<|eS U (MV U)<|eS U (MV U)<|eS U (MV U)<|eS U (BI U (rJ ⟨om,om⟩))<|eS U (MV U)<|eS U (MV U)<|eS U (BI U (rJ ⟨om,om⟩)) ?_
 refine fS U (IA (j-1) U (ak (n:=l.length) 0 U sq) cy dc om om) ?_
 refine fS U (gF (j-1) 0 (vI y) U cq (ak (n:=q.length) 0 U sm) V U dc U)<|eS U (MV U)<|eS U (MV U) ?_
 refine fS U (IA j U (ak (n:=l.length) 0 U sq) cy dc om om) ?_
 refine fS U (gF j 0 (vI x) U cq (ak (n:=q.length) 0 U sm) L U dc U) ?_
 refine fS U (IA j U (ak (n:=l.length) 0 U sq) cy dc om om) ?_
 refine e8 U<|cp U fun T12 P=>eG (k:=j) (o:=0) (vs:=[(vI y)]) (es':=(List.map iC (q.set j y))) (C':=[(own lA lC 3 1 (List.map iC (q.set j y)))]) 0 U U U BF U U U U L U dc (by exact (List.map_set (f:=iC) (l:=q) (i:=j) (a:=y)).symm) U<|aH (P _ _ (aK []) ?_)
 refine cp U fun T13 R=>?_
 obtain ⟨d,AA⟩:=aO (q.set j y) (j-1) os
 have hx15m:(List.map iC (q.set j y))[(j-1)]? =some (iC d):=by rw [fB,AA]; rfl
 refine rS (IA (j-1) U (ak (n:=l.length) 0 U sq) cy dc om om) ?_
 refine aH (R _ _ (aK []) ?_)
 refine cp U fun T16 S=>eG (k:=(j-1)) (o:=0) (vs:=[(vI x)]) (es':=(List.map iC ((q.set j y).set (j-1) x))) (C':=[(own lA lC 3 1 (List.map iC ((q.set j y).set (j-1) x)))]) 0 U U U BF U U U U hx15m U dc (by exact (List.map_set (f:=iC) (l:=(q.set j y)) (i:=(j-1)) (a:=x)).symm) U<|aH (S _ _ (aK []) ?_)
 refine fM U<|aD<|KK N<|an<|rP 3 [] I ?_
 refine aH ?_
 have T:(vI (((j-1):Nat):Int))=(vI ((j:Int)-1)):=by exact cI om
 refine aT (W ⟨((j-1),((q.set j y).set (j-1) x)),⟨om,by simp; exact B,(HY hx hy).trans C,Jm hx hy om G H D⟩⟩ _ _ _ U (by simp only []; omega) (cN 4<|bk U T<|dx.nil _) (aK [0]))
theorem M4 (x:Int) (hx:0≤x∧x≤100):
 lv Tryz.prog 96 [(Value.int .u64 x)] [] (fun (x:Int)=>(vI x)) (fun (x:Int)=>True) (fun (x:Int)=>[]):=by
 refine dp kr Tryz.func96 U U fun N Q hQ hN=>?_
 try dsimp only
 refine WS fun _ D=>bg 1 U<|RK D<|al fun _ E=>WS fun _ F=>rP 1 [] I ?_
 refine rS (BI U F6)<|RK F<|cM U (aS fun L=>?_) (aR fun L=>?_)
 ·exfalso; omega
 refine WK E<|al fun _ G=>WS fun _ H=>rP 1 [] I ?_
 refine rS (BI U F6)<|RK H<|cM U (aS fun M=>?_) (aR fun M=>?_)
 ·exfalso; omega
 refine WK G<|al fun _ AA=>WS fun _ J=>rP 1 [] I ?_
 refine rS (BI U F6)<|RK J<|cM U (aS fun C=>?_) (aR fun C=>?_)
 ·exfalso; omega
 refine WK AA<|WS fun _ B=>bg 2 U<|rS (SX (tJ (m:=x) U U Sp QJ (Cv (by first|assumption|omega))) U U)<|PU (k:=(x).toNat) U U U Vo om (Nat.lt_of_lt_of_le (m:=200) om (of_decide_eq_true kr)) U fun A K=>rS (SX (tJ (m:=A) U U QJ od (p_ (by first|assumption|omega))) U U)<|rP 2 [] I ?_
 refine RK B<|ar<|LX hQ (0+A) [] [] I U U U U ?_
 trivial
theorem Ph (x:Int) (hx:0≤x∧x≤100):
 lv Tryz.prog 66 [(Value.int .u64 x)] [] (fun (x:Int)=>(vI x)) (fun (x:Int)=>True) (fun (x:Int)=>[]):=by
 refine dp kr Tryz.func66 U U fun F Q hQ hN=>?_
 try dsimp only
 refine WS fun _ A=>bg 1 U<|RK A<|al fun _ B=>aV U<|WK B<|WS fun _ C=>rP 1 [] I ?_
 refine cX (M4 x hx) (aL) U fun E D=>?_
 try dsimp only
 refine rP 1 [] I ?_
 refine RK C<|ar<|LX hQ E [] [] I U U U U ?_
 trivial
theorem Si (l:List Int) (lA:OA) (lC:Nat) (u:Int) (hlen:l.length≤12):
 De Tryz.prog 65 [(vS lA l.length lC),(vI 0),(vI (l.length:Int)),(vI u)] [] (own lA lC 3 1 (l.map iC)) (fun (x:(List Int))=>(vT [])) (fun (x:(List Int))=>x.Perm l∧x.Pairwise (· ≤ ·)) (fun (x:(List Int))=>(own lA lC 3 1 (x.map iC))):=by
 refine mE kr Tryz.func65 U U fun K Q hQ hN=>?_
 try dsimp only
 refine WS fun _ A=>bg 1 U<|RK A<|WS fun _ B=>bg 1 U<|RK B<|aw<|jY 1<|eu fun R3 AA=>aw<|WS fun _ C=>bg 4 U<|RK C<|al fun _ H=>WS fun _ D=>rP 2 [] I ?_
 refine RK D<|bR U (aR fun G=>?_) (aS fun G=>?_)
 ·exfalso; omega
 refine WS fun _ E=>rP 3 [] I ?_
 refine iQ 0 U U U U (Hd l lA lC om) U ki U (fun J F=>?_)
 try dsimp only
 refine RK E<|ar<|LM hQ J 0 [] I U U U U ?_
 assumption
theorem zX (l:List Int) (lA:OA) (lC:Nat) (hlen:l.length≤12):
 De Tryz.prog 44 [(vS lA l.length lC)] [] (own lA lC 3 1 (l.map iC)) (fun (x:(List Int))=>(vT [])) (fun (x:(List Int))=>x.Perm l∧x.Pairwise (· ≤ ·)) (fun (x:(List Int))=>(own lA lC 3 1 (x.map iC))):=by
 refine mE kr Tryz.func44 U U fun F Q hQ hN=>?_
 try dsimp only
 refine WS fun _ A=>bg 3 U<|RK A<|an<|rP 3 [] I ?_
 refine rS (SX (tJ (m:=(l.length:Int)) U U od RT (Ah (by first|assumption|omega))) U U)<|cX (Ph (l.length:Int) om) (aL) U fun E B=>?_
 try dsimp only
 refine iQ 0 U U U U (Si l lA lC E hlen) U ki U (fun D C=>?_)
 try dsimp only
 refine aH<|LM hN D 0 [] I U U U U ?_
 assumption
end
section
open Go.RowKit
theorem Lm (nl:List Int) (nlA:OA) (nlC g1:Nat) (hlen:nl.length≤12):
 lv Tryz.prog 85 [(vS none 0 0),(Value.func (.func 76) [].toArray [(vP g1)].toArray)] [(rd nlA nl.length 1 (nl.map iC)),(bZ g1 29 [(vS nlA nl.length nlC)])] (fun (x:(OA)×Nat)=>(vS x.1 nl.length x.2)) (fun (x:(OA)×Nat)=>True) (fun (x:(OA)×Nat)=>[(own x.1 x.2 3 1 (nl.map iC))]):=by
 refine dp kr Tryz.func85 U U fun R Q hQ hN=>?_
 try dsimp only
 refine WS fun _ D=>uy U U fun J=>bg 1 U<|RK D<|al fun _ E=>WS fun _ G=>rP 1 [] I ?_
 refine RK G<|aw<|ky 1 U (by exact fun _ h=>h)<|ky 3 U (by exact fun _ h=>h)<|fX 3 1 ?_
 refine E9 (L0:=[(2,(vP J))]) (F:=[(rd nlA nl.length 1 (nl.map iC)).ro,(bZ g1 29 [(vS nlA nl.length nlC)]).ro]) (xs:=(p7 nl)) (fun k (y:(OA)×Nat)=>True) (fun k y=>[(own y.1 y.2 3 1 ((nl.take k).map iC)),(bZ J 29 [(vS y.1 ((nl.take k).length) y.2)]),(rd nlA nl.length 1 (nl.map iC)).ro]) (fun _ (_:Unit)=>False) (fun _ _=>[]) [0,3,4] [2,1] (none,0) U U (Lh nl nlA nlC g1 (by first|assumption|omega|(simp; done))) U U U (by trivial) (by simp only [List.forall_mem_cons,List.not_mem_nil,false_imp_iff,implies_true,and_true]; exact ⟨⟨_,sm,(dI (bU _))⟩,⟨_,sm,(dI (bU _))⟩⟩) (by exact Dy) U (aQ U) ?_ ?_ (fun _ _ _ h=>h.elim) (fun _ _ h=>h.elim)
 rotate_left 1
 ·rintro O ⟨a,c⟩ AA
  try dsimp only
  rw [ye]
  refine aD<|KK E<|WS fun _ A=>rP 2 [] (mc 4 U I) ?_
  refine RK A<|ar<|hQ _ _ _ (ou 0 U U<|gW (vs:=[(vS a nl.length c)]) ⟨U,trivial⟩ fun w hs=>I9 (a,c) [3] ?_ ?_ U U U hs)
  ·rfl
  ·trivial
 rintro k x ⟨a,c⟩ l ra rb S T K5 Qr6 hx K H B L M
 obtain ⟨y,hy,rfl⟩:=HJ hx
 try dsimp only
 refine an<|rP 1 [] I ?_
 refine aH<|aT (H _ _ ?_)
 refine aw<|an<|rP 2 [] (mc 2 U I) ?_
 refine cU (xs:=[.tmp 9]) (cs:=[(vI y)]) U cy jd U U U U (by simp [Value.cells]) U U fun P=>?_
 refine c_ (es2:=(List.map iC (nl.take (k+1)))) (m':=(nl.take (k+1)).length) 2 U U U pE U U sm (aY (es:=List.map iC [y]) 0 U U (by simp [bJ]) U) (jT _) (by simp; omega) (by simp [maxLen]; omega) (by rw [jS hy]; simp) sm U fun N C=>?_
 try dsimp only
 refine UI U z7 U U<|aH<|aD ?_
 exact B (N,C) _ _ (by trivial) (aK [1,2,3,4])
theorem Hl (nl:List Int) (nlA:OA) (nlC g1:Nat) (hlen:nl.length≤12):
 lv Tryz.prog 63 [(Value.func (.func 76) [].toArray [(vP g1)].toArray)] [(rd nlA nl.length 1 (nl.map iC)),(bZ g1 29 [(vS nlA nl.length nlC)])] (fun (x:(OA)×Nat)=>(vS x.1 nl.length x.2)) (fun (x:(OA)×Nat)=>True) (fun (x:(OA)×Nat)=>[(own x.1 x.2 3 1 (nl.map iC))]):=by
 refine dp kr Tryz.func63 U U fun G Q hQ hN=>?_
 try dsimp only
 refine WS fun _ A=>bg 1 U<|RK A<|WS fun _ B=>rP 1 [] I ?_
 refine cX (Lm nl nlA nlC g1 hlen) (bp [0,1]) U fun F E=>?_
 obtain ⟨C,D⟩:=F
 try dsimp only
 refine rP 1 [] I ?_
 refine RK B<|ar<|LX hQ (C,D) [0] [] I U U U U ?_
 trivial
theorem w7 (nl:List Int) (nlA:OA) (nlC g1:Nat) (hlen:nl.length≤12):
 lv Tryz.prog 41 [(Value.func (.func 76) [].toArray [(vP g1)].toArray)] [(rd nlA nl.length 1 (nl.map iC)),(bZ g1 29 [(vS nlA nl.length nlC)])] (fun (x:(OA)×Nat)=>(vS x.1 nl.length x.2)) (fun (x:(OA)×Nat)=>True) (fun (x:(OA)×Nat)=>[(own x.1 x.2 3 1 ((dk nl).map iC))]):=by
 refine dp kr Tryz.func41 U U fun J Q hQ hN=>?_
 try dsimp only
 refine WS fun _ B=>bg 1 U<|RK B<|WS fun _ C=>rP 1 [] I ?_
 refine cX (Hl nl nlA nlC g1 hlen) (bp [0,1]) U fun AA H=>?_
 obtain ⟨F,G⟩:=AA
 try dsimp only
 refine bg 1 U<|RK C<|WS fun _ D=>rP 1 [] I ?_
 refine iQ 0 U U U U (zX nl F G hlen) U ki U (fun m A=>?_)
 try dsimp only
 refine RK D<|WS fun _ E=>?_
 obtain rfl:=qy A.1 A.2
 skip
 refine rP 2 [] I ?_
 refine RK E<|ar<|LX hQ (F,G) [0] [] I U U U U ?_
 trivial
end
section
open Go.RowKit
section
variable {K:Type} [DecidableEq K] {kV:K→Value}
variable {E:ff} {ops:Array Oper} {Q:cZ} {rest:List Oper} {D:List Deferred} {L:List (Nat×Value)} {C:List av}
variable {ty:TypeId} {ps:String} {af:Array Edge} {g:Option (Nat×Bool)}
theorem pD {t kt et:TypeId} {xm xk:Operand} {ts:Array TypeId} {b:Nat} {x:K} {m m':List (K×Value)} {C':List av} (i:Nat) (hg:ju ops L g=true) (hm:ev L xm=some (.map (some b))) (hk:ev L xk=some (kV x)) (hts:ts[0]? =some t)
 (ht:E.P.underlying t=some (.map kt et)) (hkt:uq E.P kt kV) (hC:C[i]? =some (gZ kV b m)) (hm':cd m x=m') (hC':C.set i (gZ kV b m')=C') (k:RJ E ops Q rest D L C'):
 RJ E ops Q (⟨none,.call {callee:= .builtin .delete,args:= #[xm,xk],argTypes:=ts},ty,ps,af,g⟩::rest) D L C:=by
 subst hm' hC'
 intro a w A hs
 unfold rq
 rw [if_pos (d_ A hg)]
 obtain ⟨es,c,he,hi⟩:=hs.holds _ (aX hC)
 have B:(getObj b).run E.P w= .ok (.map es c) w:=MapKept.run_getObj_map he
 rcases oL (P:=E.P) (w:=w) (x:=x) hkt hi with ⟨F,G⟩|⟨j,AA,F,G,H⟩
 ·refine gO (v:= .tuple #[]) (w':={w with heap:=w.heap.setIfInBounds b (.map es c)}) sm ?_ ?_
  ·simp [execOp,resolve,invoke,builtin,A.ev hm,A.ev hk,Builtin.delete_,hts,run_underlying ht,B,iH hkt,F,MapKept.run_setObj_map _ he]
  ·refine k _ _ ⟨A.defers,A.size,A.at_⟩ (hs.Dg (b:=b) i hC U U (mV _) (fun _ h=>h) ⟨_,_,o4 he,?_⟩)
   rw [Eh G]; exact hi
 ·refine gO (v:= .tuple #[]) (w':={w with heap:=w.heap.setIfInBounds b (.map (es.eraseIdxIfInBounds j) c)}) sm ?_ ?_
  ·simp [execOp,resolve,invoke,builtin,A.ev hm,A.ev hk,Builtin.delete_,hts,run_underlying ht,B,iH hkt,F,MapKept.run_setObj_map _ he]
  ·exact k _ _ ⟨A.defers,A.size,A.at_⟩ (hs.Dg (b:=b) i hC U U (mV _) (fun _ h=>h) ⟨_,_,o4 he,hi.del G⟩)
end
end
section
open Go.RowKit
theorem LB (n lo hi:Int) (g1 g2:Nat):
 ej Tryz.prog 140 [(vI n),(vP g1),(vP g2)] [(bZ g1 3 [(vI lo)]),(bZ g2 3 [(vI hi)])] (vB (decide (n<lo∨hi<n))):=by
 refine bI kr Tryz.func140 U U fun D Q hQ hN=>?_
 try dsimp only
 refine WS fun _ B=>bg 1 U<|RK B<|WS fun _ A=>rP 4 [] (mr 0 U I) ?_
 refine db (t:=8) U (aS fun C=>?_) (aR fun C=>?_)
 ·refine rP 5 [] I ?_
  refine RK A<|ar<|Q1 hQ U U U ?_
  exact cB (fO om).symm
 refine rP 5 [] (mr 1 U I) ?_
 refine RK A<|ar<|Q1 hQ U U U ?_
 exact cB (decide_eq_decide.2 om)
theorem iP (lo hi:Int) (l:List Int) (lA:OA) (lC:Nat) (hlen:l.length≤1000000):
 ej Tryz.prog 111 [(vI lo),(vI hi),(vS lA l.length lC)] [(rd lA l.length 1 (l.map iC))] (vB (pP lo hi l)):=by
 refine bI kr Tryz.func111 U U fun F Q hQ hN=>?_
 try dsimp only
 refine WS fun _ D=>uy U U fun A=>uy U U fun B=>bg 1 U<|RK D<|WS fun _ E=>rP 1 [] I ?_
 refine rS (FU U) ?_
 refine rS (CL (rR l lA lC (Value.func (.func 140) [].toArray [(vP A),(vP B)].toArray) (fun C=>(decide (C<lo∨hi<C))) (e7 [(bZ A 3 [(vI lo)]),(bZ B 3 [(vI hi)])]) (by intro C _; exact nq (fi:=[]) (ca:=[(vP A),(vP B)]) (lW (LB C lo hi A B) (bp [0,1]))) hlen) (fH 2 U U<|ay (l3 (bp [1,0]))<|aL) U) ?_
 refine rP 2 [] I ?_
 refine RK E<|ar ?_
 exact Q1 hQ U U U U
theorem TY (n d:Int) (hd:2≤d):
 ej Tryz.prog 142 [(vI n),(vI d)] [] (vI (Sq n d)):=by
 refine bI kr Tryz.func142 U U fun C Q hQ hN=>?_
 try dsimp only
 refine WS fun _ A=>bg 1 U<|RK A<|WS fun _ B=>bg 2 U<|rS (BI U Pc)<|rS (BI U Ko)<|bg 1 U<|rS (BI U (PV om (QB (SZ _) hd)))<|rP 1 [] I ?_
 refine RK B<|ar ?_
 exact Q1 hQ U U U U
theorem Ol (n d:Int) (hd:1≤d∧d≤1000000) (hn:0≤n∧n≤1000000000000000):
 ej Tryz.prog 142 [(vI n),(vI d)] [] (vI (o5 n d)):=by
 refine bI kr Tryz.func142 U U fun C Q hQ hN=>?_
 try dsimp only
 refine WS fun _ A=>bg 1 U<|RK A<|WS fun _ B=>bg 5 U<|rS (BI U (tm om om om))<|rP 1 [] I ?_
 refine RK B<|ar ?_
 exact Q1 hQ U U U U
theorem FL (c:au) (sA:OA) (sC:Nat) (at_:Int) (hc:eY c) (ha:0≤at_∧at_≤90000000):
 ej Tryz.prog 210 [(vA (dv.cells (dv.mk c.dj (aM.mk sA c.bu.length sC)))),(vI at_)] [(rd sA c.bu.length 3 (c.bu.map cG.cells))] (vA (aa.cells (hP c at_))):=by
 have X:=hc.len
 have J:=hc.rD
 refine bI kr Tryz.func210 U U fun e Q hQ hN=>?_
 try dsimp only
 refine WS fun _ M=>fV U fun b=>AL U dg fun d=>RK M<|WS fun _ N=>rS (SX (bj (xs:=[(0,.const (vI (-1099511627776))),(1,.const (vI 1099511627776))]) (cs:=(aa.cells (aa.mk (-1099511627776) 1099511627776))) U U (bh gl U)) U U)<|AL U dg fun W=>fR U cu U<|RK N<|al fun _ O=>al fun _ P=>?_
 have R:(aa.cells (aa.mk (-1099511627776) 1099511627776))=(aa.cells (gr c at_ 0)):=by rfl
 rw [R]
 refine an<|rP 4 [] (mc 2 U I) ?_
 refine RK P<|aw ?_
 have A:(0≤c.bu.length):=by exact Nat.zero_le _
 refine bO (ι:={z:Nat // (z≤c.bu.length)}) [1,2,4,5,11,12] [1,2,3] U U (fun z=>[(13,(vI (z.1:Int)))]) (fun z=>[(bZ W 38 (aa.cells (gr c at_ z.1)))]) (fun _=>rfl) (fun _=>rfl) (fun z=>c.bu.length-z.1) ⟨0,A⟩ (aQ U) (aK [1,2,3,0]) ?_
 clear A
 rintro ⟨i,S⟩ J9 L
 try dsimp only
 refine WS fun _ B=>rP 1 [] I ?_
 refine RK B<|al fun _ C=>bR U (aR fun K=>?_) (aS fun K=>?_)
 ·refine bB<|ae<|ae<|ax<|KK O<|WS fun _ G=>rP 1 [] (mc 3 U I) ?_
  refine fR U cu U<|RK G<|ar<|H2 hQ [0] (mc 0 U I) U ?_
  rw [nm (show c.bu.length≤i by omega)]
 refine WK C<|al fun _ D=>aw<|WS fun _ E=>?_
 obtain ⟨x,hx⟩:=aO c.bu i om
 have AA:=bP cG.cells hx
 refine rS (IA i U (aG 2 U) qd dc om om)<|rS (oB i 0 (cG.cells x) U cq (aG 2 U) AA U dc U U)<|AL U rv fun V=>fR U sU U<|RK E<|WS fun _ F=>rP 5 [0,1] (mc 2 U (mc 0 U I)) ?_
 have T:=hc.tW hx
 have Z:=C5 hc ha i
 have Y:=FI J ha (show 0≤x.At∧x.At≤90000000 by omega)
 refine fE 5 [] (mc 0 U I) U<|rS (MX U)<|rS (BI U (F1 ⟨om,om⟩))<|rS (CL (Ol (c.dj*(max (at_-x.At) (x.At-at_))) 1000000 om om) (aL) U)<|bg 1 U<|RK F<|an<|rP 6 [0,1] (mc 4 U (mc 0 U I)) ?_
 have a:0≤o5 (c.dj*max (at_-x.At) (x.At-at_)) 1000000∧o5 (c.dj*max (at_-x.At) (x.At-at_)) 1000000≤90001:=uh J ha T.1
 refine bg 1 U<|rS (MX U)<|rP 7 [0,1] (mc 4 U (mc 0 U I)) ?_
 refine rS (MN U)<|rS (SX (bj (xs:=[(0,.tmp 37),(1,.tmp 45)]) (cs:=(aa.cells (aa.mk (max ((gr c at_ i).Lo) (x.eC.Lo-(o5 (c.dj*(max (at_-x.At) (x.At-at_))) 1000000))) (min ((gr c at_ i).Hi) (x.eC.Hi+(o5 (c.dj*(max (at_-x.At) (x.At-at_))) 1000000)))))) U U (bh gl U)) U U)<|OW U cu U<|aH<|aD<|KK D ?_
 have H:(aa.cells (aa.mk (max ((gr c at_ i).Lo) (x.eC.Lo-(o5 (c.dj*(max (at_-x.At) (x.At-at_))) 1000000))) (min ((gr c at_ i).Hi) (x.eC.Hi+(o5 (c.dj*(max (at_-x.At) (x.At-at_))) 1000000)))))=(aa.cells (gr c at_ (i+1))):=by rw [jI hx]; rfl
 rw [H]
 refine an<|rP 2 [] I ?_
 refine aH ?_
 have AB:(vI (((i+1):Nat):Int))=(vI ((i:Int)+1)):=by exact cI om
 refine aT (L ⟨(i+1),(by first|omega|(simp only []; omega))⟩ _ _ _ U os (cN 6<|bk U AB<|dx.nil _) (aK [1,2,3,4]))
theorem Qp (c:au) (sA:OA) (sC:Nat) (hlen:c.bu.length≤1000000) (hcap:c.bu.length≤sC):
 ej Tryz.prog 115 [(vA (dv.cells (dv.mk c.dj (aM.mk sA c.bu.length sC))))] [(rd sA c.bu.length 3 (c.bu.map cG.cells))] (vB (decide (eY c))):=by
 refine bI kr Tryz.func115 U U fun w0 Q hQ hN=>?_
 try dsimp only
 refine WS fun _ AP=>fV U fun b2=>bg 1 U<|RK AP<|Al U<|al fun _ AQ=>WS fun _ q=>rP 2 [] (mc 0 U I) ?_
 refine cU (xs:=[.tmp 11]) (cs:=[(vI c.dj)]) U cy jd U U U U (by simp [Value.cells]) U U fun b5=>?_
 refine rS (CL (ej.eq (iP 0 1000 ([c.dj]) (some ⟨b5,0,none⟩) 1 (by (simp; done))) cT) (ay (aY 0 U U (by simp [bJ]) U)<|aL) U) ?_
 refine rP 2 [] I ?_
 refine db (t:=15) U (bx fun Aa=>?_) (bw fun Aa=>?_)
 ·refine bg 7 U<|RK q<|aP U<|WS fun _ AR=>rP 1 [] I ?_
  refine RK AR<|ar<|Q1 hQ U U U ?_
  exact cB (cr fun h=>Aa h.rD).symm
 refine rP 3 [] (mc 1 U I) ?_
 refine cU (xs:=[.tmp 18]) (cs:=[(vI (c.bu.length:Int))]) U cy jd U U U U (by simp [Value.cells]) U U fun b7=>?_
 refine rS (CL (ej.eq (iP 1 5 ([(c.bu.length:Int)]) (some ⟨b7,0,none⟩) 1 (by (simp; done))) cT) (ay (aY 0 U U (by simp [bJ]) U)<|aL) U) ?_
 refine rP 2 [] I ?_
 refine RK q<|cM U (bx fun O=>?_) (bw fun O=>?_)
 ·refine WS fun _ AT=>rP 1 [] I ?_
  refine RK AT<|ar<|Q1 hQ U U U ?_
  exact cB (cr fun h=>O (by have:=h.len; omega)).symm
 refine WK AQ<|WS fun _ AU=>bg 1 U<|RK AU<|WS fun _ R=>bg 1 U<|RK R<|al fun _ S=>AM<|KK S<|al fun _ K=>WS fun _ T=>rP 4 [] (mc 2 U I) ?_
 refine RK T<|aw ?_
 have B:(0≤c.bu.length)∧(rZ c 0):=by exact ⟨Nat.zero_le _,GM⟩
 have r:(vI (ke c 0))=(vI (-1)):=by rw [gG rfl]
 refine bO (ι:={z:Nat // (z≤c.bu.length)∧(rZ c z)}) [1,2,4,24,25] [2,3] U U (fun z=>[(3,(vI (ke c z.1))),(26,(vI (z.1:Int)))]) (fun z=>[]) (fun _=>rfl) (fun _=>rfl) (fun z=>c.bu.length-z.1) ⟨0,B⟩ (bk U r<|aQ U) (aK [2,3]) ?_
 clear B
 rintro ⟨i,⟨L,C⟩⟩ J15 P
 try dsimp only
 have Ac: -1≤ke c i∧ke c i≤86400000:=PY L C
 refine WS fun _ AJ=>rP 1 [] I ?_
 refine RK AJ<|al fun _ V=>bR U (aR fun AI=>?_) (aS fun AI=>?_)
 ·refine bB<|ae<|ae<|ax<|KK K<|WS fun _ f=>rP 2 [] I ?_
  refine RK f<|ar<|Q1 hQ U U U ?_
  exact cB (fO (Gm Aa om (by have e:i=c.bu.length:=om; rw [← e]; exact C))).symm
 refine WK V<|al fun _ W=>aw<|WS fun _ X=>rP 1 [] I ?_
 obtain ⟨x,hx⟩:=aO c.bu i om
 have AX:=bP cG.cells hx
 refine rS (IA i U (aG 1 U) qd dc om om)<|rS (oB i 0 (cG.cells x) U cq (aG 1 U) AX U dc U U)<|AL U rv fun AY=>rP 1 [] I ?_
 refine fR U sU U<|RK X ?_
 refine mN (ι:=Unit) [1,2,3,5,6,24,25,26] [0,1,2] U U (fun z=>[(4,(vB (decide (fx c i x))))]) (fun z=>[]) (fun _=>rfl) (fun _=>rfl) ?_ fun K22 G=>?_
 ·intro _
  try dsimp only
  refine al fun _ Y=>WS fun _ Z=>fE 3 [] (mc 1 U I) U<|rS (TQ i U qd om om)<|rP 2 [] I ?_
  refine RK Z<|aw ?_
  have B:(0≤i)∧((decide (fx c i x))=(decide (lZ c i x 0))):=by exact ⟨Nat.zero_le _,decide_eq_decide.2 EA.symm⟩
  refine bO (ι:={z:Nat×Bool // (z.1≤i)∧(z.2=(decide (lZ c i x z.1)))}) [1,2,3,5,6,24,25,26,59,60] [0,1,2] U U (fun z=>[(4,(vB z.1.2)),(61,(vI (z.1.1:Int)))]) (fun z=>[]) (fun _=>rfl) (fun _=>rfl) (fun z=>i-z.1.1) ⟨(0,(decide (fx c i x))),B⟩ (aQ U) (aK [0,1,2]) ?_
  clear B
  rintro ⟨⟨k,b⟩,⟨M,A⟩⟩ J25 F
  try dsimp only at M A
  try dsimp only
  refine WS fun _ a=>rP 1 [] I ?_
  refine RK a<|al fun _ d=>bR U (aR fun AK=>?_) (aS fun AK=>?_)
  ·refine bB<|ae<|ae<|ax<|KK Y<|al fun _ m=>WS fun _ n=>rP 2 [] I ?_
   refine RK n<|cM U (fun D=>?_) (fun D=>?_)
   ·rw [Bool.not_eq_true'] at D
    refine bB<|ae<|iw U<|ae<|ae<|ax<|KK K<|WS fun _ p=>rP 2 [] I ?_
    refine RK p<|ar<|Q1 hQ U U U ?_
    exact cB (by have e:k=i:=om; rw [e] at A; rw [D] at A ⊢; exact (cr (KA hx (of_decide_eq_false A.symm))).symm)
   rw [Bool.not_eq_false'] at D
   refine WK m<|an<|fE 3 [] (mc 0 U I) U<|aH<|aD<|KK W<|an<|rP 2 [] I ?_
   refine aH ?_
   have AC:(vB true)=(vB b):=by exact cB D.symm
   have AD:(vI (ke c (i+1)))=(vI x.At):=by rw [ob hx]
   have AE:(vI (((i+1):Nat):Int))=(vI ((i:Int)+1)):=by exact cI om
   refine aT (P ⟨(i+1),⟨om,Gg C hx (by have e:k=i:=om; rw [e] at A; exact of_decide_eq_true (A.symm.trans D))⟩⟩ _ _ _ U os (dx.cons U<|dx.cons U<|bk U AC<|dx.cons U<|dx.cons U<|bk U AD<|bk U AE<|dx.nil _) (aK [1,2]))
  refine WK d<|al fun _ H=>aw<|WS fun _ g=>?_
  obtain ⟨o,ho⟩:=aO c.bu k om
  have AV:=bP cG.cells ho
  refine rS (RU k U (aG 2 U) qd dc om om om)<|rS (oB k 0 (cG.cells o) U cq (aG 2 U) AV U dc U U)<|AL U rv fun AZ=>fR U sU U<|RK g<|WS fun _ l=>fE 6 [0,1,2] (mc 2 U (mc 1 U (mc 0 U I))) U<|rS (BI U Ko)<|rS (BI U Pr)<|rS (CL (TY (AS (c.dj*(AS (x.At-o.At)))) 1000000 om) (aL) U)<|bg 1 U<|RK l<|an<|rP 2 [] I ?_
  refine cb (t:=75) U (fun J=>?_) (fun J=>?_)
  ·refine bg 6 U<|bg 16 U<|aH<|aD<|KK H<|an<|rP 2 [] I ?_
   refine aH ?_
   have AB:(vI (((k+1):Nat):Int))=(vI ((k:Int)+1)):=by exact cI om
   refine aT (F ⟨((k+1),false),⟨om,by exact (cr fun h=>by have h2:=((sk ho).1 h).1; rw [A] at J; exact absurd (fO h2) (by rw [J]; decide)).symm⟩⟩ _ _ _ U os (cN 11<|bk U AB<|dx.nil _) (aK [1,2,3]))
  refine rP 6 [0,1] (mc 1 U (mc 0 U I)) ?_
  have AF:lZ c i x k:=of_decide_eq_true (A.symm.trans J)
  obtain ⟨AW,Ad,Ae⟩:=uO (fun j y hj hy=>(C j y hj hy).1) hx AF.1 om ho
  have N:=M8 Aa AW
  refine rP 5 [] I ?_
  refine cb (t:=86) U (aR fun E=>?_) (aS fun E=>?_)
  ·refine bg 11 U<|aH<|aD<|KK H<|an<|rP 2 [] I ?_
   refine aH ?_
   have AA:(vI (((k+1):Nat):Int))=(vI ((k:Int)+1)):=by exact cI om
   refine aT (F ⟨((k+1),false),⟨om,by exact (cr fun h=>by have h2:=((sk ho).1 h).2; rw [N] at E; exact E h2.1).symm⟩⟩ _ _ _ U os (cN 11<|bk U AA<|dx.nil _) (aK [1,2,3]))
  refine fE 11 [0,1] (mc 0 U (mc 1 U I)) U<|aH<|aD<|KK H<|an<|rP 2 [] I ?_
  refine aH ?_
  have w:(vI (((k+1):Nat):Int))=(vI ((k:Int)+1)):=by exact cI om
  refine aT (F ⟨((k+1),(decide ((o.eC.Lo-x.eC.Hi)≤(Sq (AS (c.dj*(AS (x.At-o.At)))) 1000000)))),⟨om,by exact decide_eq_decide.2 (by rw [sk ho,N]; rw [N] at E; exact ⟨fun h=>⟨AF,E,h⟩,fun h=>h.2.2⟩)⟩⟩ _ _ _ U os (cN 11<|bk U w<|dx.nil _) (aK [1,2,3]))
 refine an<|rP 4 [] (mc 0 U I) ?_
 refine cU (xs:=[.tmp 34]) (cs:=[(vI x.At)]) U cy jd U U U U (by simp [Value.cells]) U U fun AG=>?_
 refine rS (CL (ej.eq (iP ((ke c i)+1) 86400000 ([x.At]) (some ⟨AG,0,none⟩) 1 (by (simp; done))) cT) (ay (aY 0 U U (by simp [bJ]) U)<|aL) U) ?_
 refine rP 1 [] I ?_
 refine cb (t:=37) U (aR fun AN=>?_) (aS fun AN=>?_)
 ·refine rP 19 [] I ?_
  refine aH ?_
  have v:(decide (fx c i x))=false:=cr (by unfold fx; omega)
  refine aT (jg (cN 8<|mY U v<|dx.nil _) (aK [1,2,3]) (G ()))
 refine rP 6 [] (mc 1 U I) ?_
 refine cU (xs:=[.tmp 40,.tmp 43]) (cs:=[(vI x.eC.Lo),(vI x.eC.Hi)]) U cy jd U U U U (by simp [Value.cells]) U U fun AH=>?_
 refine rS (CL (ej.eq (iP (-10000) 10000 ([x.eC.Lo,x.eC.Hi]) (some ⟨AH,0,none⟩) 2 (by (simp; done))) q7) (ay (aY 0 U U (by simp [bJ]) U)<|aL) U) ?_
 refine rP 2 [] I ?_
 refine cb (t:=47) U (aR fun AO=>?_) (aS fun AO=>?_)
 ·refine rP 9 [] I ?_
  refine aH ?_
  have u:(decide (fx c i x))=false:=cr (by unfold fx; omega)
  refine aT (jg (cN 8<|mY U u<|dx.nil _) (aK [2,3,4]) (G ()))
 refine rP 9 [] (mc 2 U I) ?_
 refine aH ?_
 have s:(decide (fx c i x))=(decide (x.eC.Lo≤x.eC.Hi)):=decide_eq_decide.2 (by unfold fx; omega)
 refine aT (jg (cN 8<|mY U s<|dx.nil _) (aK [2,3,4]) (G ()))
theorem Ti (ms:List au) (az:List RA) (k:Nat) (m:au) (a:RA) (hm:ms[k]? =some m) (ha:az[k]? =some a) (hc:m.bu.length≤a.2∧m.bu.length≤1000000):
 ej Tryz.prog 114 [(vA (dv.cells (dv.mk m.dj (aM.mk a.1 m.bu.length a.2))))] [(e7 (aU au.gY ms az))] (vB (!(decide (eY m)))):=by
 obtain ⟨C,D⟩:=hc
 refine bI kr Tryz.func114 U U fun F Q hQ hN=>?_
 try dsimp only
 refine WS fun _ A=>fV U fun E=>bg 1 U<|RK A<|WS fun _ B=>fE 1 [] (mc 0 U I) U<|rS (CL (Qp m a.1 a.2 asm asm) (ay (show jc _ (rd a.1 m.bu.length 3 (m.bu.map cG.cells)).holds from (dy 1 U (cj hm ha (by simp [au.gY]))))<|aL) U)<|rP 2 [] I ?_
 refine RK B<|ar ?_
 exact Q1 hQ U U U U
theorem Gq (l:List au) (az:List RA) (lA:OA) (lC:Nat) (f:Value) (p:au→Bool) (X:av) (hf: ∀ (k:Nat) m a,l[k]? =some m→az[k]? =some a→D_ Tryz.prog f [.agg (au.cells m a).toArray] [X] (.bool (p m))) (hlen:l.length≤1000000) (has:az.length=l.length):
 ej Tryz.prog 141 [(vS lA l.length lC),f] [(rd lA l.length 2 (List.zipWith au.cells l az)),(e7 (aU au.gY l az)),X] (vI (tI p l)):=by
 refine bI kr Tryz.func141 U U fun T Q hQ hN=>?_
 try dsimp only
 refine WS fun _ AA=>bg 1 U<|RK AA<|al fun _ J=>WS fun _ K=>rP 3 [] I ?_
 refine RK K<|aw ?_
 have B:(0≤l.length)∧((l.take 0).any p=false):=by simp
 refine bO (ι:={z:Nat // (z≤l.length)∧((l.take z).any p=false)}) [0,1,7] [0,1,2] U U (fun z=>[(8,(vI (z.1:Int)))]) (fun z=>[]) (fun _=>rfl) (fun _=>rfl) (fun z=>l.length-z.1) ⟨0,B⟩ (aQ U) (aK [0,1,2]) ?_
 clear B
 rintro ⟨i,⟨P,A⟩⟩ J4 H
 try dsimp only
 refine WS fun _ L=>rP 1 [] I ?_
 refine RK L<|al fun _ M=>bR U (aR fun S=>?_) (aS fun S=>?_)
 ·refine bB<|ae<|ae<|ax<|KK J<|WS fun _ E=>rP 1 [] I ?_
  refine RK E<|ar<|Q1 hQ U U U ?_
  exact cI (sr om A).symm
 refine WK M<|al fun _ N=>aw<|WS fun _ O=>bg 2 U<|RK O<|WS fun _ C=>rP 3 [] I ?_
 obtain ⟨x,hx⟩:=aO l i om
 obtain ⟨xa,G⟩:=aO az i om
 have R:(List.zipWith au.cells l az)[i]? =some (au.cells x xa):=dZ hx G
 refine rS (IA i U (aG 0 U) zV dc om om)<|rS (oB i 0 (dv.cells (dv.mk x.dj (aM.mk xa.1 x.bu.length xa.2))) U cq (aG 0 U) R U dc U U)<|rS (SX (sh U U U (hf i x xa hx G) (bp [2])) U U)<|RK C<|cM U (fun hp=>?_) (fun hp=>?_)
 ·refine WS fun _ D=>rP 2 [] I ?_
  refine RK D<|ar<|Q1 hQ U U U ?_
  exact cI (wB hx hp A).symm
 refine bY<|aD<|KK N<|an<|rP 2 [] I ?_
 refine aH ?_
 have F:(vI (((i+1):Nat):Int))=(vI ((i:Int)+1)):=by exact cI om
 refine aT (H ⟨(i+1),⟨om,xB hx A hp⟩⟩ _ _ _ U os (cN 3<|bk U F<|dx.nil _) (aK [0,1,2]))
theorem zJ (l:List au) (az:List RA) (lA:OA) (lC:Nat) (f:Value) (p:au→Bool) (X:av) (hf: ∀ (k:Nat) m a,l[k]? =some m→az[k]? =some a→D_ Tryz.prog f [.agg (au.cells m a).toArray] [X] (.bool (p m))) (hlen:l.length≤1000000) (has:az.length=l.length):
 ej Tryz.prog 113 [(vS lA l.length lC),f] [(rd lA l.length 2 (List.zipWith au.cells l az)),(e7 (aU au.gY l az)),X] (vB (l.any p)):=by
 refine bI kr Tryz.func113 U U fun C Q hQ hN=>?_
 try dsimp only
 refine WS fun _ A=>bg 1 U<|RK A<|WS fun _ B=>bg 2 U<|rS (CL (Gq l az lA lC f p X (by exact hf) hlen has) (Nb 0 1 2 U U U U U U) U)<|rP 2 [] I ?_
 refine RK B<|ar<|Q1 hQ U U U ?_
 exact cB uJ
theorem GF (l:List bE) (lA:OA) (lC:Nat) (f:Value) (p:bE→Bool) (X:av) (hf: ∀ x0,x0∈l→D_ Tryz.prog f [.agg (bE.cells x0).toArray] [X] (.bool (p x0))) (hlen:l.length≤1000000):
 ej Tryz.prog 143 [(vS lA l.length lC),f] [(rd lA l.length 4 (l.map bE.cells)),X] (vI (tI p l)):=by
 refine bI kr Tryz.func143 U U fun S Q hQ hN=>?_
 try dsimp only
 refine WS fun _ H=>bg 1 U<|RK H<|al fun _ AA=>WS fun _ J=>rP 3 [] I ?_
 refine RK J<|aw ?_
 have B:(0≤l.length)∧((l.take 0).any p=false):=by simp
 refine bO (ι:={z:Nat // (z≤l.length)∧((l.take z).any p=false)}) [0,1,7] [0,1] U U (fun z=>[(8,(vI (z.1:Int)))]) (fun z=>[]) (fun _=>rfl) (fun _=>rfl) (fun z=>l.length-z.1) ⟨0,B⟩ (aQ U) (aK [0,1]) ?_
 clear B
 rintro ⟨i,⟨O,A⟩⟩ J4 G
 try dsimp only
 refine WS fun _ K=>rP 1 [] I ?_
 refine RK K<|al fun _ L=>bR U (aR fun R=>?_) (aS fun R=>?_)
 ·refine bB<|ae<|ae<|ax<|KK AA<|WS fun _ E=>rP 1 [] I ?_
  refine RK E<|ar<|Q1 hQ U U U ?_
  exact cI (sr om A).symm
 refine WK L<|al fun _ M=>aw<|WS fun _ N=>bg 2 U<|RK N<|WS fun _ C=>rP 3 [] I ?_
 obtain ⟨x,hx⟩:=aO l i om
 have P:=bP bE.cells hx
 refine rS (IA i U (aG 0 U) vt dc om om)<|rS (oB i 0 (bE.cells x) U cq (aG 0 U) P U dc U U)<|rS (SX (sh U U U (hf x (aX hx)) (bp [1])) U U)<|RK C<|cM U (fun hp=>?_) (fun hp=>?_)
 ·refine WS fun _ D=>rP 2 [] I ?_
  refine RK D<|ar<|Q1 hQ U U U ?_
  exact cI (wB hx hp A).symm
 refine bY<|aD<|KK M<|an<|rP 2 [] I ?_
 refine aH ?_
 have F:(vI (((i+1):Nat):Int))=(vI ((i:Int)+1)):=by exact cI om
 refine aT (G ⟨(i+1),⟨om,xB hx A hp⟩⟩ _ _ _ U os (cN 3<|bk U F<|dx.nil _) (aK [0,1]))
theorem zM (l:List bE) (lA:OA) (lC:Nat) (f:Value) (p:bE→Bool) (X:av) (hf: ∀ x0,x0∈l→D_ Tryz.prog f [.agg (bE.cells x0).toArray] [X] (.bool (p x0))) (hlen:l.length≤1000000):
 ej Tryz.prog 117 [(vS lA l.length lC),f] [(rd lA l.length 4 (l.map bE.cells)),X] (vB (l.any p)):=by
 refine bI kr Tryz.func117 U U fun C Q hQ hN=>?_
 try dsimp only
 refine WS fun _ A=>bg 1 U<|RK A<|WS fun _ B=>bg 2 U<|rS (CL (GF l lA lC f p X (by exact hf) hlen) (bp [0,1]) U)<|rP 2 [] I ?_
 refine RK B<|ar<|Q1 hQ U U U ?_
 exact cB uJ
end
section
open Go.RowKit
theorem pd (a:aa) (l:List aa) (lA:OA) (lC:Nat) (ha:lj a) (hl: ∀ z∈l,lj z) (hlen:l.length≤4):
 ej Tryz.prog 147 [(vA (aa.cells a)),(vS lA l.length lC)] [(rd lA l.length 2 (l.map aa.cells))] (vA (aa.cells (kz a l))):=by
 refine bI kr Tryz.func147 U U fun AA Q hQ hN=>?_
 try dsimp only
 refine WS fun _ AB=>fV U fun R=>AL U dg fun T=>RK AB<|al fun _ J=>WS fun _ K=>rP 3 [] I ?_
 refine RK K<|aw ?_
 have A:(0≤l.length):=by exact Nat.zero_le _
 refine bO (ι:={z:Nat // (z≤l.length)}) [2,4,7,8] [0,2] U U (fun z=>[(9,(vI (z.1:Int)))]) (fun z=>[(bZ R 38 (aa.cells (kz a (l.take z.1))))]) (fun _=>rfl) (fun _=>rfl) (fun z=>l.length-z.1) ⟨0,A⟩ (aQ U) (aK [0,2,1]) ?_
 clear A
 rintro ⟨i,N⟩ J6 H
 try dsimp only
 refine WS fun _ L=>rP 1 [] I ?_
 refine RK L<|al fun _ M=>bR U (aR fun S=>?_) (aS fun S=>?_)
 ·refine bB<|ae<|ae<|ax<|KK J<|al fun _ D=>?_
  have G:(aa.cells (kz a (l.take i)))=(aa.cells (kz a l)):=by rw [Lf om]
  rw [G]
  refine an<|rP 1 [] (mc 2 U I) ?_
  refine fR U cu U<|RK D<|ar ?_
  exact H2 hQ [0] (mc 0 U I) U U
 refine WK M<|al fun _ B=>aw<|WS fun _ C=>?_
 obtain ⟨x,hx⟩:=aO l i om
 have O:=bP aa.cells hx
 refine rS (IA i U (aG 1 U) jK dc om om)<|rS (oB i 0 (aa.cells x) U cq (aG 1 U) O U dc U U)<|AL U dg fun P=>fR U cu U<|RK C<|an ?_
 have hb:=Qc ha hl i
 have hz:=hl x (aX hx)
 unfold lj at hz
 refine rP 10 [0,1,0,1] (mc 3 U (mc 0 U I)) ?_
 refine rS (SX (bj (xs:=[(0,.tmp 17),(1,.tmp 22)]) (cs:=(aa.cells (aa.mk (((kz a (l.take i)).Lo)+x.Lo) (((kz a (l.take i)).Hi)+x.Hi)))) U U (bh gl U)) U U)<|Tv U cu U<|aH<|aD<|KK B ?_
 have E:(aa.cells (aa.mk (((kz a (l.take i)).Lo)+x.Lo) (((kz a (l.take i)).Hi)+x.Hi)))=(aa.cells (kz a (l.take (i+1)))):=by rw [yn hx]; rfl
 rw [E]
 refine an<|rP 2 [] I ?_
 refine aH ?_
 have F:(vI ((i+1):Int))=(vI ((i:Int)+1)):=by exact cI om
 refine aT (H ⟨(i+1),(by first|omega|(simp only []; omega))⟩ _ _ _ U os (cN 4<|bk U F<|dx.nil _) (aK [1,2,3]))
theorem Fl (ts:List ao) (tsA:OA) (tsC:Nat) (hlen:ts.length≤1000000) (hside: ∀ x∈ts,0≤x.iZ∧x.iZ≤255):
 ej Tryz.prog 144 [(vA (aZ.cells (aZ.mk (aM.mk tsA ts.length tsC))))] [(rd tsA ts.length 9 (ts.map ao.cells))] (vT [(vA (ew.cells (ew.mk (aZ.mk (aM.mk tsA ts.length tsC))))),(vI (if cV ts=true then 0 else 10))]):=by
 refine bI kr Tryz.func144 U U fun E Q hQ hN=>?_
 try dsimp only
 refine WS fun _ A=>fV U fun C=>AL U KF fun D=>bg 1 U<|RK A<|al fun _ B=>dF cD 4 kr<|mI 1 [] (mc 1 U I) U<|dS (SX (bj (xs:=[(0,.tmp 4)]) (cs:=(ew.cells (ew.mk (aZ.mk (aM.mk tsA ts.length tsC))))) U U (bh Sx U)) U U)<|mI 1 [] (mc 1 U I) U<|dS (CL (Cw ts tsA tsC hlen hside) (bp [2]) U)<|cO<|fR U I_ U<|rP 1 [] I ?_
 refine RK B<|ar ?_
 exact lk hQ [0] (mc 0 U I) U U
theorem N4 (f:Int) (tsA:OA) (tsN tsC:Nat):
 lv Tryz.prog 158 [(vA (ew.cells (ew.mk (aZ.mk (aM.mk tsA tsN tsC))))),(vI f)] [] (fun (x:Nat×Nat)=>(Value.func (.func 166) [].toArray [(Value.pointer (some ⟨x.1,0,none⟩)),(Value.pointer (some ⟨x.2,0,none⟩))].toArray)) (fun (x:Nat×Nat)=>True) (fun (x:Nat×Nat)=>[(bZ x.1 3 [(vI f)]),(bZ x.2 203 (ew.cells (ew.mk (aZ.mk (aM.mk tsA tsN tsC)))))]):=by
 refine dp kr Tryz.func158 U U fun E Q hQ hN=>?_
 try dsimp only
 refine WS fun _ A=>fV U fun C=>uy U U fun D=>bg 1 U<|RK A<|WS fun _ B=>rS (FU U)<|rP 1 [] I ?_
 refine RK B<|ar<|LX hQ (D,C) [0,1] [] I U U U U ?_
 trivial
theorem HM (ts:List ao) (tsA:OA) (tsC:Nat) (f:Int) (g1 g2:Nat) (hst: ∀ x∈ts,bS x) (hlen:ts.length≤12) (hf:0≤f∧f≤ts.length):
 NF Tryz.prog 166 [] [(vP g1),(vP g2)] [(rd tsA ts.length 9 (ts.map ao.cells)),(bZ g1 3 [(vI f)]),(bZ g2 203 (ew.cells (ew.mk (aZ.mk (aM.mk tsA ts.length tsC)))))] (s7 ts f.toNat):=by
 refine FH kr Tryz.func166 U U fun l J Z A0 p Q hY g d hQ hN=>?_
 try dsimp only
 refine WS fun _ h=>AL U dg fun n=>AL U dg fun o=>RK h<|WS fun _ i=>rP 2 [] (mr 4 U I) ?_
 refine RK i<|aw ?_
 have P:(0≤ts.length-f.toNat)∧(J 0 A0)∧(Fo A0 p A0):=by exact ⟨Nat.zero_le _,g,d⟩
 have m:(vI (f+(0:Int)))=(vI f):=by exact cI om
 refine bO (ι:={z:Nat×av // (z.1≤ts.length-f.toNat)∧(J z.1 z.2)∧(Fo A0 p z.2)}) [0,1,2,4,5] [3,4,5] U U (fun z=>[(6,(vI (f+(z.1.1:Int))))]) (fun z=>[(bZ o 38 (aa.cells (gi ts f.toNat z.1.1))),(bZ n 38 (aa.cells (eI ts f.toNat z.1.1))),z.1.2]) (fun _=>rfl) (fun _=>rfl) (fun z=>ts.length-f.toNat-z.1.1) ⟨(0,A0),P⟩ (bk U m<|dx.nil _) (aK [3,4,5,0,1,2]) ?_
 clear P
 rintro ⟨⟨k,A⟩,⟨W,R,S⟩⟩ J6 V
 try dsimp only at W R S
 try dsimp only
 refine al fun _ j=>WS fun _ X=>rP 3 [0,1] (mc 4 U (mc 3 U I)) ?_
 refine F2 5 hY R S U U U (yF om) U U (fun B9 C B=>?_) (fun B9 C B=>?_)
 rotate_left 1
 ·refine rP 8 [] I ?_
  refine RK X<|aV U<|bB<|ae<|ae<|ax ?_
  refine hN _ _ _ (gW (vs:=[]) trivial fun w hs=>Om 5 U C B hs)
 refine rP 8 [] (mr 2 U I) ?_
 refine RK X<|bR U (aR fun c=>?_) (aS fun c=>?_)
 ·refine bB<|ae<|ae<|ax ?_
  refine hN _ _ _ (gW (vs:=[]) trivial fun w hs=>Sf 5 U (by rw [tG]; have e:ts.length-f.toNat+1=k+1:=om; rw [e]; exact C) B hs)
 refine WK j<|al fun _ M=>aw<|o8 cD [0,1,2,3,4,5,6,7,10,11,12,13,14,15,16,17] [8,9,18,19,20,21] [true,false,false,false,false,false,false,false,true,false,false,false,false,false,false,false] [8,9,18] [(rd tsA ts.length 9 (ts.map ao.cells)).ro,(bZ g1 3 [(vI f)]).ro,(bZ g2 203 (ew.cells (ew.mk (aZ.mk (aM.mk tsA ts.length tsC))))).ro,B9] [(rd tsA ts.length 9 (ts.map ao.cells)).ro,(bZ g1 3 [(vI f)]).ro,(bZ g2 203 (ew.cells (ew.mk (aZ.mk (aM.mk tsA ts.length tsC))))).ro,(bZ o 38 (aa.cells (gi ts f.toNat k))),(bZ n 38 (aa.cells (eI ts f.toNat k))),B9] kr (aK [0,1,2,5]) (aK [0,1,2,3,4,5])<|fS U (LW 4 U cq U U)<|eS U (FA 0 U fD U)<|eS U (FA 0 U fD U)<|eS U (H0 (vS tsA ts.length tsC) 2 U cq U U)<|eS U (MV U) ?_
 obtain ⟨x,hx⟩:=aO ts (f.toNat+k) om
 have a:=bP ao.cells hx
 refine eS U (IA (f.toNat+k) U (aG 0 U) yi dc om om) ?_
 have L:=hst x (aX hx)
 refine eS U (nK (((f.toNat+k)*9)+1) U (aG 0 U) (Nat.mul_pos om dc) fD U)<|eS U (oB (f.toNat+k) 1 (aa.cells x.km) U cq (aG 0 U) a U dc U U)<|fS U (LW 3 U cq U U)<|eS U (FA 0 U fD U)<|eS U (FA 0 U fD U)<|eS U (H0 (vS tsA ts.length tsC) 2 U cq U U)<|eS U (MV U)<|eS U (IA (f.toNat+k) U (aG 0 U) yi dc om om)<|eS U (nK (((f.toNat+k)*9)+3) U (aG 0 U) (Nat.mul_pos om dc) fD U)<|eS U (oB (f.toNat+k) 3 (aa.cells x.lx) U cq (aG 0 U) a U dc U U)<|e8 U<|iT [8,18] kr (eN ?_<|eN ?_<|kT)
 rotate_left 1
 ·refine uP (rem':=[8,9,19,20,21]) U kr fun T14 N=>cU (xs:=[.tmp 39]) (cs:=(aa.cells x.lx)) U jK dg U U U U (by simp [Value.cells,aa.aW]) U U fun T=>aH (N _ _ (aK [1,2,3,6]) (aK [1,2,3,4,5,6]) ?_)
  refine N1 8<|uP (rem':=[9,19,20,21]) U kr fun T16 D=>cU (xs:=[.tmp 29]) (cs:=(aa.cells x.km)) U jK dg U U U U (by simp [Value.cells,aa.aW]) U U fun AA=>aH (D _ _ (aK [2,3,4,7]) (aK [2,3,4,5,6,7]) ?_)
  refine N1 9<|uP (rem':=[19,20,21]) U kr fun T18 O=>?_
  refine rS (CL (ej.eq (pd (eI ts f.toNat k) ([x.km]) (some ⟨AA,0,none⟩) 1 (by exact p6 hst om) (by intro z hz; simp only [bW] at hz; subst hz; exact uw L) sm) m8) (ay (aY 0 rfl rfl (by simp [aa.aW]) rfl)<|aL) rfl) ?_
  refine aH (O _ _ (aK [2,3,4,7]) (aK [2,3,4,5,6,7]) ?_)
  refine N1 19<|NO U U [20,21] fun T19 E=>?_
  refine rS (CL (ej.eq (pd (gi ts f.toNat k) ([x.lx]) (some ⟨T,0,none⟩) 1 (by exact w5 hst om) (by intro z hz; simp only [bW] at hz; subst hz; exact uI L) sm) m8) (ay (aY 1 rfl rfl (by simp [aa.aW]) rfl)<|aL) rfl) ?_
  refine aH (E _ _ (aK [2,3,4,7]) ?_)
  refine N1 20<|NO U U [21] fun T20 F=>OM U cu U<|aH (F _ _ (aK [2,3,4,7]) ?_)
  refine N1 21<|NO U U [] fun T21 G=>HZ U cu U<|aH (G _ _ (aK [2,3,4,7]) ?_)
  refine pM<|aD<|KK M ?_
  have H:(aa.cells (l8 (eI ts f.toNat k) x.km))=(aa.cells (eI ts f.toNat (k+1))):=by rw [pt hx]
  rw [H]
  have AB:(aa.cells (l8 (gi ts f.toNat k) x.lx))=(aa.cells (gi ts f.toNat (k+1))):=by rw [pA hx]
  rw [AB]
  refine an<|rP 3 [] I ?_
  refine aH ?_
  have K:(vI (f+(((k+1):Nat):Int)))=(vI ((f+(k:Int))+1)):=by exact cI om
  refine aT (V ⟨((k+1),B9),⟨om,C,B⟩⟩ _ _ _ U os (cN 5<|bk U K<|dx.nil _) (aK [2,3,4,5,6,7]))
 refine uP (rem':=[9,18,19,20,21]) U kr fun T14 N=>cU (xs:=[.tmp 29]) (cs:=(aa.cells x.km)) U jK dg U U U U (by simp [Value.cells,aa.aW]) U U fun T=>aH (N _ _ (aK [1,2,3,6]) (aK [1,2,3,4,5,6]) ?_)
 refine iT [9,18] kr (eN ?_<|eN ?_<|kT)
 rotate_left 1
 ·refine uP (rem':=[9,19,20,21]) U kr fun T16 D=>cU (xs:=[.tmp 39]) (cs:=(aa.cells x.lx)) U jK dg U U U U (by simp [Value.cells,aa.aW]) U U fun AA=>aH (D _ _ (aK [2,3,4,7]) (aK [2,3,4,5,6,7]) ?_)
  refine N1 9<|uP (rem':=[19,20,21]) U kr fun T18 O=>?_
  refine rS (CL (ej.eq (pd (eI ts f.toNat k) ([x.km]) (some ⟨T,0,none⟩) 1 (by exact p6 hst om) (by intro z hz; simp only [bW] at hz; subst hz; exact uw L) sm) m8) (ay (aY 1 rfl rfl (by simp [aa.aW]) rfl)<|aL) rfl) ?_
  refine aH (O _ _ (aK [2,3,4,7]) (aK [2,3,4,5,6,7]) ?_)
  refine N1 19<|NO U U [20,21] fun T19 E=>?_
  refine rS (CL (ej.eq (pd (gi ts f.toNat k) ([x.lx]) (some ⟨AA,0,none⟩) 1 (by exact w5 hst om) (by intro z hz; simp only [bW] at hz; subst hz; exact uI L) sm) m8) (ay (aY 0 rfl rfl (by simp [aa.aW]) rfl)<|aL) rfl) ?_
  refine aH (E _ _ (aK [2,3,4,7]) ?_)
  refine N1 20<|NO U U [21] fun T20 F=>OM U cu U<|aH (F _ _ (aK [2,3,4,7]) ?_)
  refine N1 21<|NO U U [] fun T21 G=>HZ U cu U<|aH (G _ _ (aK [2,3,4,7]) ?_)
  refine pM<|aD<|KK M ?_
  have H:(aa.cells (l8 (eI ts f.toNat k) x.km))=(aa.cells (eI ts f.toNat (k+1))):=by rw [pt hx]
  rw [H]
  have AB:(aa.cells (l8 (gi ts f.toNat k) x.lx))=(aa.cells (gi ts f.toNat (k+1))):=by rw [pA hx]
  rw [AB]
  refine an<|rP 3 [] I ?_
  refine aH ?_
  have K:(vI (f+(((k+1):Nat):Int)))=(vI ((f+(k:Int))+1)):=by exact cI om
  refine aT (V ⟨((k+1),B9),⟨om,C,B⟩⟩ _ _ _ U os (cN 5<|bk U K<|dx.nil _) (aK [2,3,4,5,6,7]))
 refine uP (rem':=[18,19,20,21]) U kr fun T16 D=>?_
 refine rS (CL (ej.eq (pd (eI ts f.toNat k) ([x.km]) (some ⟨T,0,none⟩) 1 (by exact p6 hst om) (by intro z hz; simp only [bW] at hz; subst hz; exact uw L) sm) m8) (ay (aY 0 rfl rfl (by simp [aa.aW]) rfl)<|aL) rfl) ?_
 refine aH (D _ _ (aK [1,2,3,6]) (aK [1,2,3,4,5,6]) ?_)
 refine N1 18<|uP (rem':=[19,20,21]) U kr fun T17 Y=>cU (xs:=[.tmp 39]) (cs:=(aa.cells x.lx)) U jK dg U U U U (by simp [Value.cells,aa.aW]) U U fun b=>aH (Y _ _ (aK [2,3,4,7]) (aK [2,3,4,5,6,7]) ?_)
 refine N1 19<|NO U U [20,21] fun T19 E=>?_
 refine rS (CL (ej.eq (pd (gi ts f.toNat k) ([x.lx]) (some ⟨b,0,none⟩) 1 (by exact w5 hst om) (by intro z hz; simp only [bW] at hz; subst hz; exact uI L) sm) m8) (ay (aY 0 rfl rfl (by simp [aa.aW]) rfl)<|aL) rfl) ?_
 refine aH (E _ _ (aK [2,3,4,7]) ?_)
 refine N1 20<|NO U U [21] fun T20 F=>OM U cu U<|aH (F _ _ (aK [2,3,4,7]) ?_)
 refine N1 21<|NO U U [] fun T21 G=>HZ U cu U<|aH (G _ _ (aK [2,3,4,7]) ?_)
 refine pM<|aD<|KK M ?_
 have H:(aa.cells (l8 (eI ts f.toNat k) x.km))=(aa.cells (eI ts f.toNat (k+1))):=by rw [pt hx]
 rw [H]
 have AB:(aa.cells (l8 (gi ts f.toNat k) x.lx))=(aa.cells (gi ts f.toNat (k+1))):=by rw [pA hx]
 rw [AB]
 refine an<|rP 3 [] I ?_
 refine aH ?_
 have K:(vI (f+(((k+1):Nat):Int)))=(vI ((f+(k:Int))+1)):=by exact cI om
 refine aT (V ⟨((k+1),B9),⟨om,C,B⟩⟩ _ _ _ U os (cN 5<|bk U K<|dx.nil _) (aK [2,3,4,5,6,7]))
theorem H5 (ts:List ao) (tsA:OA) (tsC:Nat) (f t:Int) (hst: ∀ x∈ts,bS x) (hlen:ts.length≤12) (hf:0≤f∧f≤t∧t≤ts.length):
 ej Tryz.prog 146 [(vA (ew.cells (ew.mk (aZ.mk (aM.mk tsA ts.length tsC))))),(vI f),(vI t)] [(rd tsA ts.length 9 (ts.map ao.cells))] (vT [(vA (aa.cells (eI ts f.toNat (t-f).toNat))),(vA (aa.cells (gi ts f.toNat (t-f).toNat)))]):=by
 refine bI kr Tryz.func146 U U fun w0 Q hQ hN=>?_
 try dsimp only
 refine WS fun _ M=>fV U fun a=>uy U U fun b=>uy U U fun d=>AL U dg fun e=>AL U dg fun g=>RK M<|al fun _ AA=>WS fun _ V=>rP 2 [0,1] (mc 4 U (mc 3 U I)) ?_
 refine cX (N4 f tsA ts.length tsC) (aL) U fun u n=>?_
 obtain ⟨B,C⟩:=u
 try dsimp only
 refine RK V<|aw<|ky 7 U (by exact fun _ h=>h) ?_
 refine E9 (L0:=[(3,(vP a)),(4,(vP b)),(5,(vP d)),(6,(vP e)),(7,(vP g))]) (F:=[(rd tsA ts.length 9 (ts.map ao.cells)).ro,(bZ B 3 [(vI f)]),(bZ C 203 (ew.cells (ew.mk (aZ.mk (aM.mk tsA ts.length tsC)))))]) (xs:=(s7 ts f.toNat)) (fun k (y:aa×aa×Int)=>(k≤(t-f).toNat)∧(y.2.2=f+(k:Int))) (fun k y=>[(bZ g 38 (aa.cells y.2.1)),(bZ e 38 (aa.cells y.1)),(bZ d 3 [(vI t)]),(bZ b 3 [(vI y.2.2)]),(bZ a 203 (ew.cells (ew.mk (aZ.mk (aM.mk tsA ts.length tsC))))),(rd tsA ts.length 9 (ts.map ao.cells)).ro]) (fun c (z:Unit)=>(c= .exit 0)) (fun _ z=>[(bZ g 38 (aa.cells (gi ts f.toNat (t-f).toNat))),(bZ e 38 (aa.cells (eI ts f.toNat (t-f).toNat))),(bZ d 3 [(vI t)]),(bZ b 3 [(vI t)]),(bZ a 203 (ew.cells (ew.mk (aZ.mk (aM.mk tsA ts.length tsC))))),(rd tsA ts.length 9 (ts.map ao.cells)).ro]) [3,4,5,6,7,8] [0,1,2] (dD,dD,f) U U (HM ts tsA tsC f B C (by first|assumption|omega|(simp; done)) (by first|assumption|omega|(simp; done)) om) U U U (by exact ⟨Nat.zero_le _,sm⟩) (by simp only [List.forall_mem_cons,List.not_mem_nil,false_imp_iff,implies_true,and_true]; exact ⟨⟨_,sm,(dI (bU _))⟩,⟨_,sm,(bU _)⟩,⟨_,sm,(bU _)⟩⟩) (by exact EH) U (aQ U) ?_ ?_ ?_ ?_
 rotate_left 1
 ·rintro q ⟨v,z2,m⟩ J
  obtain ⟨A,K⟩:=J
  try dsimp only at A K
  try dsimp only
  exfalso; rw [tG] at A; omega
 ·rintro r id _ Y
  have hc:=Y
  cases hc
  try dsimp only
  refine ax<|KK AA<|al fun _ D=>dR cD [2,3] [] [] [0,1,2,3,4,5,6,7,8,9] [] U U U U U<|eS U (LW 5 U cq U U)<|eS U (LW 4 U cq U U)<|e8 U<|cp U fun T30 E=>HZ U cu U<|aH (E _ _ (aK [0,1,2,3,4,5,6,7,8,9]) ?_)
  refine cp U fun T31 G=>OW U cu U<|aH (G _ _ (aK [0,1,2,3,4,5,6,7,8,9]) ?_)
  refine fM U<|KK D<|ar<|hQ _ _ _ (ou 0 U U<|gW (vs:=[(vA (aa.cells (eI ts f.toNat (t-f).toNat))),(vA (aa.cells (gi ts f.toNat (t-f).toNat)))]) ⟨⟨_,U,.inl ⟨_,_,cq,pH (vs:=(aa.cells (eI ts f.toNat (t-f).toNat))) 5 U U,U,U⟩⟩,⟨_,U,.inl ⟨_,_,cq,pH (vs:=(aa.cells (gi ts f.toNat (t-f).toNat))) 4 U U,U,U⟩⟩,trivial⟩ fun w hs=>Du ?_ hs)
  show (vT [(vA (aa.cells (eI ts f.toNat (t-f).toNat))),(vA (aa.cells (gi ts f.toNat (t-f).toNat)))])=(vT [(vA (aa.cells (eI ts f.toNat (t-f).toNat))),(vA (aa.cells (gi ts f.toNat (t-f).toNat)))])
  clear hs w hQ hN G T31 E T30 D V AA M
  rfl
 ·rintro s _ Z
  cases Z
 rintro k x ⟨v,z2,m⟩ l ra rb S w1 K13 Qr14 hx AB N H L j
 obtain ⟨hk,rfl⟩:=G0 hx
 obtain ⟨A,K⟩:=AB
 try dsimp only at A K
 try dsimp only
 refine WS fun _ O=>AL U dg fun o=>fR U cu U<|RK O<|an<|AL U dg fun p=>fR U cu U<|aH<|jg (fun _ _ h=>h) (aK [2,0,1,3,4,5,6,7,8])<|aT (N _ _ ?_)
 refine aw<|al fun _ P=>al fun _ R=>dR cD [2,3] [] [] [0,1,2,5,6,7,8] [] U U U U U<|eS U (LW 2 U cq U U)<|eS U (LW 1 U cq U U)<|e8 U<|cp U fun T21 W=>OW U cu U<|aH (W _ _ (aK [0,1,2,5,6,7,8]) ?_)
 refine cp U fun T22 X=>Tv U cu U<|aH (X _ _ (aK [0,1,2,5,6,7,8]) ?_)
 refine fM U<|KK R<|WS fun _ T=>rP 3 [0,1] (mc 6 U (mc 5 U I)) ?_
 refine RK T<|cM U (aS fun i=>?_) (aR fun i=>?_)
 ·refine bB<|ae<|iw U ?_
  rw [show m=t from by omega]
  obtain rfl:k=(t-f).toNat:=by omega
  exact L _ () _ _ (by exact U) (aK [0,3,4,5,6,7,8])
 refine WK P<|an<|rP 2 [] (mc 6 U I) ?_
 refine Vk U BF U U<|aH<|aD ?_
 exact H ((eI ts f.toNat k),(gi ts f.toNat k),(m+1)) _ _ (by refine ⟨om,?_⟩; dsimp only; omega) (aK [0,3,4,5,6,7,8])
end
section
open Go.RowKit
theorem GH (i:Int) (s:cJ) (ts:List ao) (tsA:OA) (tsC g1:Nat) (hst: ∀ x∈ts,bS x) (hlen:ts.length≤12):
 ej Tryz.prog 157 [(vI i),(vA (cJ.cells s)),(vP g1)] [(rd tsA ts.length 9 (ts.map ao.cells)),(bZ g1 203 (ew.cells (ew.mk (aZ.mk (aM.mk tsA ts.length tsC)))))] (vB (!(decide (fr ts s)))):=by
 refine bI kr Tryz.func157 U U fun AA Q hQ hN=>?_
 try dsimp only
 refine WS fun _ C=>fV U fun G=>rP 1 [] I ?_
 refine RK C<|al fun _ A=>o8 cD [0,1,2,3,4,5,6] [7,8,9,10,11,12,13,14,15,16,17,18,19,20,21,22,23,24,25,26] [false,false,false,false,false,false,false] [] [(bZ G 119 (cJ.cells s)),(rd tsA ts.length 9 (ts.map ao.cells)).ro,(bZ g1 203 (ew.cells (ew.mk (aZ.mk (aM.mk tsA ts.length tsC))))).ro] [] kr (aK [0,1,2]) (aK [])<|eS U (FA 0 U fD U)<|eS U (FA 0 U fD U)<|eS U (H0 (vS tsA ts.length tsC) 2 U cq U U)<|eS U (LN U Qv)<|eS U (BI U (rJ ⟨om,om⟩))<|eS U (FA 0 U fD U)<|eS U (L1 (vI s.a_) 0 U cq U U)<|e8 U<|N1 7<|NO U U [8,9,10,11,12,13,14,15,16,17,18,19,20,21,22,23,24,25,26] fun T4 D=>cU (xs:=[.tmp 12]) (cs:=[(vI s.a_)]) U cy jd U U U U (by simp [Value.cells]) U U fun H=>RD D 1 U<|JX [14,15,16,17,18,19,20,21,22,23,24,25,26,27,28,29,30,31,5] kr kr U _ U U (aK [1,2,3]) ?_
 refine dS (CL (ej.eq (o0 0 ((ts.length:Int)-1) ([s.a_]) (some ⟨H,0,none⟩) 1 (by (simp; done))) cT) (ay (aY 0 U U (by simp [bJ]) U)<|aL) U) ?_
 refine dP 2 [] I ?_
 refine iS (t:=16) U (bx fun B=>?_) (bw fun B=>?_)
 ·refine lz 9 U<|dP 7 [] I ?_
  refine cO<|RK A<|ar<|Q1 hQ U U U ?_
  (refine cB ?_; rw [cr (BW om)]; rfl)
 refine lz 1 U<|dS (LP (aa.cells s.mA) 1 U cq U U U)<|dP 5 [0,1] (mr 3 U (mc 1 U I)) ?_
 obtain ⟨x,hx⟩:=aO ts ((s.a_).toNat) om
 have E:=bP ao.cells hx
 refine dS (IA ((s.a_).toNat) U (aG 2 U) yi dc om om)<|dS (nK ((((s.a_).toNat)*9)+1) U (aG 2 U) (Nat.mul_pos om dc) fD U) ?_
 have F:=(hst x (aX hx)).2.1
 simp only [dV] at F
 refine dS (nK ((((s.a_).toNat)*9)+1) U (aG 2 U) (Nat.mul_pos om dc) fD U)<|dS (gF ((s.a_).toNat) 1 (vI x.km.Lo) U cq (aG 2 U) E U dc U)<|lz 1 U<|dS (CL (vH s.mA 0 (x.km.Lo-1)) (aL) U)<|dP 3 [] I ?_
 refine cO<|RK A<|ar<|Q1 hQ U U U ?_
 exact congrArg (fun b=>vB (!b)) (decide_eq_decide.2 (C4 om hx).symm)
theorem DE (l:List cJ) (lA:OA) (lC:Nat) (f:Value) (p:Int→cJ→Bool) (X:av) (hf: ∀ x0 x1,(∃ k:Nat,x0=(k:Int)∧l[k]? =some x1)→D_ Tryz.prog f [.int .i64 x0,.agg (cJ.cells x1).toArray] [X] (.bool (p x0 x1))) (hlen:l.length≤1000000):
 lv Tryz.prog 156 [(vS lA l.length lC),f] [(rd lA l.length 3 (l.map cJ.cells)),X] (fun (x:(OA)×Nat)=>(vS x.1 ((LF (fun jj yy=>p (jj:Int) yy) l).length) x.2)) (fun (x:(OA)×Nat)=>True) (fun (x:(OA)×Nat)=>[(own x.1 x.2 3 1 ((LF (fun jj yy=>p (jj:Int) yy) l).map iC))]):=by
 refine dp kr Tryz.func156 U U fun W Q hQ hN=>?_
 try dsimp only
 refine WS fun _ L=>bg 1 U<|RK L<|WS fun _ M=>bg 1 U<|RK M<|al fun _ N=>WS fun _ O=>rP 3 [] I ?_
 refine RK O<|aw<|fX 3 1 ?_
 have A:(0≤l.length):=by exact Nat.zero_le _
 refine bO (ι:={z:Nat×(OA)×Nat // (z.1≤l.length)}) [0,1,8,9] [1,2] U U (fun z=>[(5,(vS z.1.2.1 ((rY (fun jj yy=>p (jj:Int) yy) l z.1.1).length) z.1.2.2)),(10,(vI (z.1.1:Int)))]) (fun z=>[(own z.1.2.1 z.1.2.2 3 1 ((rY (fun jj yy=>p (jj:Int) yy) l z.1.1).map iC))]) (fun _=>rfl) (fun _=>rfl) (fun z=>l.length-z.1.1) ⟨(0,none,0),A⟩ (aQ U) (aK [1,2,0]) ?_
 clear A
 rintro ⟨⟨i,a,c⟩,B⟩ J5 C
 try dsimp only at B
 try dsimp only
 refine WS fun _ P=>rP 1 [] I ?_
 refine RK P<|al fun _ R=>bR U (aR fun V=>?_) (aS fun V=>?_)
 ·refine bB<|ae<|ae<|ax<|KK N<|WS fun _ F=>?_
  rw [M0 (p:=fun (i:Nat) x=>p (i:Int) x) (show i=l.length by omega)]
  refine rP 2 [] I ?_
  refine RK F<|ar<|LX hQ (a,c) [2] [] I U U U U ?_
  trivial
 refine WK R<|al fun _ G=>aw<|WS fun _ D=>rP 1 [] I ?_
 obtain ⟨x,hx⟩:=aO l i om
 have S:=bP cJ.cells hx
 refine rS (IA i U (aG 0 U) KB dc om om)<|rS (oB i 0 (cJ.cells x) U cq (aG 0 U) S U dc U U)<|AL U Br fun T=>bg 1 U<|fR U IT U<|RK D<|WS fun _ E=>rP 3 [] (mc 0 U I) ?_
 refine rS (SX (sh U U U (hf (i:Int) x ⟨i,U,hx⟩) (bp [2])) U U)<|RK E<|bR U (fun hp=>?_) (fun hp=>?_)
 ·refine bY<|aD<|KK G<|an ?_
  rw [← Nw (p:=fun (i:Nat) x=>p (i:Int) x) hx hp]
  refine rP 2 [] I ?_
  refine aH ?_
  have AB:(vI (((i+1):Nat):Int))=(vI ((i:Int)+1)):=by exact cI om
  refine aT (C ⟨((i+1),a,c),(by first|omega|(simp only []; omega))⟩ _ _ _ U os (cN 5<|bk U AB<|dx.nil _) (aK [1,2,3]))
 refine an<|rP 2 [] I ?_
 refine cU (xs:=[.tmp 20]) (cs:=[(vI (i:Int))]) U cy jd U U U U (by simp [Value.cells]) U U fun AA=>?_
 refine c_ (es2:=(List.map iC (rY (fun jj yy=>p (jj:Int) yy) l (i+1)))) (m':=(rY (fun jj yy=>p (jj:Int) yy) l (i+1)).length) 4 U U U pE U U sm (aY (es:=List.map iC [(i:Int)]) 0 U U (by simp [bJ]) U) (jT _) (by have:=C8 (p:=fun (i:Nat) x=>p (i:Int) x) (l:=l) (n:=i); simp; omega) (by have:=C8 (p:=fun (i:Nat) x=>p (i:Int) x) (l:=l) (n:=i); simp only [maxLen]; omega) (by rw [KG hx hp]; simp) sm U fun J K=>?_
 try dsimp only
 refine bg 1 U<|aH<|aD<|KK G<|an<|rP 2 [] I ?_
 refine aH ?_
 have H:(vI (((i+1):Nat):Int))=(vI ((i:Int)+1)):=by exact cI om
 refine aT (C ⟨((i+1),J,K),(by first|omega|(simp only []; omega))⟩ _ _ _ U os (cN 5<|bk U H<|dx.nil _) (aK [2,3,4]))
theorem C6 (ts:List ao) (tsA:OA) (tsC:Nat) (l:List cJ) (lA:OA) (lC:Nat) (hst: ∀ x∈ts,bS x) (hlen:ts.length≤12) (hl:l.length≤4):
 ej Tryz.prog 145 [(vA (ew.cells (ew.mk (aZ.mk (aM.mk tsA ts.length tsC))))),(vS lA l.length lC)] [(rd tsA ts.length 9 (ts.map ao.cells)),(rd lA l.length 3 (l.map cJ.cells))] (vB (decide (∀ s∈l,fr ts s))):=by
 refine bI kr Tryz.func145 U U fun J Q hQ hN=>?_
 try dsimp only
 refine WS fun _ B=>fV U fun A=>bg 1 U<|RK B<|WS fun _ C=>rP 1 [] I ?_
 refine rS (FU U) ?_
 refine cX (DE l lA lC (Value.func (.func 157) [].toArray [(vP A)].toArray) (fun E D=>(!(decide (fr ts D)))) (e7 [(rd tsA ts.length 9 (ts.map ao.cells)),(bZ A 203 (ew.cells (ew.mk (aZ.mk (aM.mk tsA ts.length tsC)))))]) (by intro E D _; exact nq (fi:=[]) (ca:=[(vP A)]) (lW (GH E D ts tsA tsC A (by first|assumption|omega) (by first|assumption|omega)) (bp [0,1]))) om) (fH 2 U U<|ay (l3 (bp [1,0]))<|aL) U fun G F=>?_
 obtain ⟨H,AA⟩:=G
 try dsimp only
 refine rP 3 [] I ?_
 refine RK C<|ar<|Q1 hQ U U U ?_
 exact congrArg Value.bool (decide_eq_decide.2 (by rw [show ∀ n:Nat,((n:Int)=0)↔n=0 from fun n=>by omega,Hg]; simp only [Bool.not_eq_false',decide_eq_true_eq]; exact ⟨fun h s hs=>by obtain ⟨k,hk⟩:=List.getElem?_of_mem hs; exact h k s hk,fun h k s hk=>h s (List.mem_of_getElem? hk)⟩))
theorem EI (z:aa) (hz:lj z):
 ej Tryz.prog 159 [(vA (aa.cells z))] [] (vA (aa.cells (nY z))):=by
 unfold lj at hz
 refine bI kr Tryz.func159 U U fun E Q hQ hN=>?_
 try dsimp only
 refine WS fun _ A=>fV U fun C=>AL U dg fun D=>RK A<|WS fun _ B=>fE 2 [] (mc 1 U I) U<|rS (NG U ⟨om,om⟩)<|rP 2 [] (mc 1 U I) ?_
 refine rS (NG U ⟨om,om⟩)<|rS (SX (bj (xs:=[(0,.tmp 5),(1,.tmp 8)]) (cs:=(aa.cells (aa.mk (-z.Hi) (-z.Lo)))) U U (bh gl U)) U U)<|fR U cu U<|RK B<|ar ?_
 exact H2 hQ [0] (mc 0 U I) U U
theorem S6 (ts:List ao) (tsA:OA) (tsC:Nat) (s:cJ) (hlen:ts.length≤1000000) (hside: ∀ x∈ts,0≤x.iZ∧x.iZ≤255):
 ej Tryz.prog 119 [(vA (aZ.cells (aZ.mk (aM.mk tsA ts.length tsC)))),(vA (cJ.cells s))] [(rd tsA ts.length 9 (ts.map ao.cells))] (vT [(vA (aa.cells (Pu ts s))),(vI (F8 ts s))]):=by
 refine bI kr Tryz.func119 U U fun Z Q hQ hN=>?_
 try dsimp only
 refine WS fun _ K=>fV U fun V=>fV U fun W=>AL U dg fun X=>bg 1 U<|RK K<|WS fun _ L=>fE 1 [] (mc 2 U I) U<|rS (CL (Fl ts tsA tsC hlen hside) (bp [3]) U)<|bg 3 U<|AL U KF fun Y=>fR U I_ U<|bg 1 U<|RK L<|al fun _ M=>WS fun _ N=>rP 2 [] I ?_
 refine RK N<|cM U (bx fun he=>?_) (bw fun he=>?_)
 ·refine WS fun _ O=>rS (SX (bj (xs:=[]) (cs:=(aa.cells (aa.mk 0 0))) U U (bh gl U)) U U)<|bg 1 U<|tP U cu U<|rP 1 [] I ?_
  refine RK O<|ar<|lk hQ [0] (mc 1 U I) U ?_
  (have e:=LV (s:=s) (zr he).1; rw [e.1,e.2,(zr he).2]<;>rfl)
 refine WK M<|al fun _ C=>WS fun _ D=>?_
 have B:=D4 he
 have H:=jP B
 have R:=kJ B
 refine rP 2 [0,1] (mc 0 U (mc 2 U I)) ?_
 refine cU (xs:=[.tmp 20]) (cs:=(cJ.cells s)) U KB Br U U U U (by simp [Value.cells,cJ.aW]) U U fun AB=>?_
 refine rS (CL (ej.eq (C6 ts tsA tsC ([s]) (some ⟨AB,0,none⟩) 1 asm asm (by (simp; done))) EB) (fH 5 U U<|ay (aY 0 U U (by simp [cJ.aW]) U)<|aL) U) ?_
 refine rP 1 [] I ?_
 refine RK D<|cM U (bx fun A=>?_) (bw fun A=>?_)
 ·refine WS fun _ E=>rS (SX (bj (xs:=[]) (cs:=(aa.cells (aa.mk 0 0))) U U (bh gl U)) U U)<|Ht U cu U<|rP 1 [] I ?_
  refine RK E<|ar<|lk hQ [0] (mc 2 U I) U ?_
  (have e:=Jg B A; rw [e.1,e.2]<;>rfl)
 refine WK C<|WS fun _ F=>?_
 have AA:=A.1
 have P:=p8 H A
 refine fE 3 [0,1] (mc 1 U (mc 3 U I)) U<|rS (CL (H5 ts tsA tsC 0 s.a_ asm asm om) (bp [5]) U)<|bg 3 U<|AL U dg fun S=>AL U dg fun T=>tP U cu U<|fR U cu U<|RK F<|WS fun _ G=>rP 2 [] (mc 1 U I) ?_
 refine rS (LP (aa.cells s.mA) 5 U cq U U U)<|cU (xs:=[.tmp 34]) (cs:=(aa.cells s.mA)) U jK dg U U U U (by simp [Value.cells,aa.aW]) U U fun J=>?_
 refine rS (CL (ej.eq (pd (eI ts (0:Int).toNat (s.a_-0).toNat) ([s.mA]) (some ⟨J,0,none⟩) 1 (by exact p6 H om) (by intro z hz; simp only [bW] at hz; subst hz; exact P) sm) m8) (ay (aY 0 rfl rfl (by simp [aa.aW]) rfl)<|aL) rfl) ?_
 refine HZ U cu U<|rP 1 [] I ?_
 refine RK G<|ar<|lk hQ [0] (mc 5 U I) U ?_
 (have e:=wU B A; rw [e.1,e.2]; unfold Mb; rw [show (s.a_-0).toNat=s.a_.toNat by rw [Int.sub_zero]]<;>rfl)
theorem MR (ts:List ao) (tsA:OA) (tsC:Nat) (p:cJ) (q:cJ) (hlen:ts.length≤1000000) (hside: ∀ x∈ts,0≤x.iZ∧x.iZ≤255):
 ej Tryz.prog 148 [(vA (aZ.cells (aZ.mk (aM.mk tsA ts.length tsC)))),(vA (cJ.cells p)),(vA (cJ.cells q))] [(rd tsA ts.length 9 (ts.map ao.cells))] (vT [(vA (aa.cells (kG ts p q))),(vI (lT ts p q))]):=by
 refine bI kr Tryz.func148 U U fun w Q hQ hN=>?_
 try dsimp only
 refine WS fun _ c=>fV U fun r=>fV U fun s=>fV U fun t=>AL U dg fun u=>bg 1 U<|RK c<|WS fun _ d=>fE 1 [] (mc 3 U I) U<|rS (CL (Fl ts tsA tsC hlen hside) (bp [4]) U)<|bg 3 U<|AL U KF fun v=>fR U I_ U<|bg 1 U<|RK d<|al fun _ g=>WS fun _ h=>rP 2 [] I ?_
 refine RK h<|cM U (bx fun he=>?_) (bw fun he=>?_)
 ·refine WS fun _ G=>rS (SX (bj (xs:=[]) (cs:=(aa.cells (aa.mk 0 0))) U U (bh gl U)) U U)<|bg 1 U<|tP U cu U<|rP 1 [] I ?_
  refine RK G<|ar<|lk hQ [0] (mc 1 U I) U ?_
  (have e:=uv (a:=p) (b:=q) (zr he).1; rw [e.1,e.2,(zr he).2]<;>rfl)
 refine WK g<|al fun _ H=>WS fun _ AB=>?_
 have A:=D4 he
 have F:=jP A
 have j:=kJ A
 refine rP 3 [0,1,2] (mc 0 U (mc 3 U (mc 2 U I))) ?_
 refine cU (xs:=[.tmp 22,.tmp 23]) (cs:=((cJ.cells p)++(cJ.cells q))) U KB Br U U U U (by simp [Value.cells,cJ.aW]) U U fun X=>?_
 refine rS (CL (ej.eq (C6 ts tsA tsC ([p,q]) (some ⟨X,0,none⟩) 2 asm asm (by (simp; done))) D9) (fH 6 U U<|ay (aY 0 U U (by simp [cJ.aW]) U)<|aL) U) ?_
 refine rP 1 [] I ?_
 refine RK AB<|cM U (bx fun D=>?_) (bw fun D=>?_)
 ·refine WS fun _ J=>rS (SX (bj (xs:=[]) (cs:=(aa.cells (aa.mk 0 0))) U U (bh gl U)) U U)<|Ht U cu U<|rP 1 [] I ?_
  refine RK J<|ar<|lk hQ [0] (mc 2 U I) U ?_
  (have e:=oH A D; rw [e.1,e.2]<;>rfl)
 refine WK H<|WS fun _ K=>?_
 obtain ⟨hp,hq⟩:=D
 have n:=hp.1
 have o:=hq.1
 have i:=p8 F hp
 have W:=p8 F hq
 have V:=z4 i
 have B:=p6 F (f:=(min p.a_ q.a_).toNat) (k:=(max p.a_ q.a_-min p.a_ q.a_).toNat) om
 refine fE 5 [0,1,2] (mc 1 U (mc 4 U (mc 3 U I))) U<|rS (MN U)<|fE 4 [0,1] (mc 4 U (mc 3 U I)) U<|rS (MX U)<|rS (CL (H5 ts tsA tsC (min p.a_ q.a_) (max p.a_ q.a_) asm asm om) (bp [6]) U)<|bg 3 U<|AL U dg fun l=>AL U dg fun m=>tP U cu U<|fR U cu U<|RK K<|al fun _ C=>WS fun _ L=>rP 5 [0,1] (mc 5 U (mc 6 U I)) ?_
 refine RK L<|bR U (aR fun E=>?_) (aS fun E=>?_)
 ·refine WK C<|al fun _ N=>dR cD [6,7,8] [] [] [0,1,2,3,5,6,7,8] [] U U U U U<|eS U (LW 1 U cq U U)<|eS U (FA 1 U fD U)<|eS U (LP (aa.cells q.mA) 4 U cq U U U)<|eS U (FA 1 U fD U)<|eS U (LP (aa.cells p.mA) 5 U cq U U U)<|eS U (CL (EI p.mA asm) (aL) U)<|eS U (AG U)<|e8 U<|cp U fun T26 S=>cU (xs:=[.tmp 52,.tmp 55]) (cs:=((aa.cells q.mA)++(aa.cells (nY p.mA)))) U jK dg U U U U (by simp [Value.cells,aa.aW]) U U fun Z=>aH (S _ _ (aK [1,2,3,4,6,7,8,9]) ?_)
  refine cp U fun T28 T=>?_
  refine rS (CL (ej.eq (pd (eI ts (min p.a_ q.a_).toNat ((max p.a_ q.a_)-(min p.a_ q.a_)).toNat) ([q.mA,(nY p.mA)]) (some ⟨Z,0,none⟩) 2 (by first|exact B|exact z4 B) (by intro z hz; simp only [eA,List.not_mem_nil,or_false] at hz; rcases hz with rfl|rfl; exact W; exact V) sm) Cy) (ay (aY 0 rfl rfl (by simp [aa.aW]) rfl)<|aL) rfl) ?_
  refine aH (T _ _ (aK [1,2,3,4,6,7,8,9]) ?_)
  refine cp U fun T29 AA=>HZ U cu U<|aH (AA _ _ (aK [1,2,3,4,6,7,8,9]) ?_)
  refine fM U<|KK N<|ar<|lk hQ [0] (mc 5 U I) U ?_
  (have e:=k8 A ⟨hp,hq⟩; rw [e.1,e.2]; unfold jL xr; rw [if_neg E]<;>rfl)
 refine an<|rP 1 [] (mc 1 U I) ?_
 refine rS (CL (EI (eI ts (min p.a_ q.a_).toNat ((max p.a_ q.a_)-(min p.a_ q.a_)).toNat) asm) (aL) U)<|tP U cu U<|RK C<|al fun _ M=>dR cD [6,7,8] [] [] [0,1,2,3,5,6,7,8] [] U U U U U<|eS U (LW 1 U cq U U)<|eS U (FA 1 U fD U)<|eS U (LP (aa.cells q.mA) 4 U cq U U U)<|eS U (FA 1 U fD U)<|eS U (LP (aa.cells p.mA) 5 U cq U U U)<|eS U (CL (EI p.mA asm) (aL) U)<|eS U (AG U)<|e8 U<|cp U fun T21 O=>cU (xs:=[.tmp 52,.tmp 55]) (cs:=((aa.cells q.mA)++(aa.cells (nY p.mA)))) U jK dg U U U U (by simp [Value.cells,aa.aW]) U U fun Y=>aH (O _ _ (aK [1,2,3,4,6,7,8,9]) ?_)
 refine cp U fun T23 P=>?_
 refine rS (CL (ej.eq (pd (nY (eI ts (min p.a_ q.a_).toNat ((max p.a_ q.a_)-(min p.a_ q.a_)).toNat)) ([q.mA,(nY p.mA)]) (some ⟨Y,0,none⟩) 2 (by first|exact B|exact z4 B) (by intro z hz; simp only [eA,List.not_mem_nil,or_false] at hz; rcases hz with rfl|rfl; exact W; exact V) sm) Cy) (ay (aY 0 rfl rfl (by simp [aa.aW]) rfl)<|aL) rfl) ?_
 refine aH (P _ _ (aK [1,2,3,4,6,7,8,9]) ?_)
 refine cp U fun T24 R=>HZ U cu U<|aH (R _ _ (aK [1,2,3,4,6,7,8,9]) ?_)
 refine fM U<|KK M<|ar<|lk hQ [0] (mc 5 U I) U ?_
 (have e:=k8 A ⟨hp,hq⟩; rw [e.1,e.2]; unfold jL xr; rw [if_pos E]<;>rfl)
theorem qL (ts:List ao) (tsA:OA) (tsC:Nat) (s:cJ) (hst: ∀ x∈ts,bS x) (hlen:ts.length≤12):
 ej Tryz.prog 134 [(vA (aZ.cells (aZ.mk (aM.mk tsA ts.length tsC)))),(vA (cJ.cells s))] [(rd tsA ts.length 9 (ts.map ao.cells))] (vB (decide (fr ts s))):=by
 refine bI kr Tryz.func134 U U fun H Q hQ hN=>?_
 try dsimp only
 refine WS fun _ C=>fV U fun F=>fV U fun G=>bg 1 U<|RK C<|al fun _ A=>dF cD 22 kr<|mI 6 [0,1] (mc 0 U (mc 1 U I)) U<|dS (CL (oT s.a_ 0 ((ts.length:Int)-1)) (aL) U)<|dP 1 [] I ?_
 refine jk (t:=12) U (aR fun B=>?_) (aS fun B=>?_)
 ·refine lz 8 U<|dP 6 [] I ?_
  refine cO<|RK A<|ar<|Q1 hQ U U U ?_
  (refine cB ?_; rw [cr (BW om)])
 refine lz 1 U<|dS (LP (aa.cells s.mA) 0 U cq U U U)<|dP 4 [0,1] (mc 1 U (mc 0 U I)) ?_
 obtain ⟨x,hx⟩:=aO ts ((s.a_).toNat) om
 have D:=bP ao.cells hx
 refine dS (IA ((s.a_).toNat) U (aG 2 U) yi dc om om)<|dS (nK ((((s.a_).toNat)*9)+1) U (aG 2 U) (Nat.mul_pos om dc) fD U) ?_
 have E:=(hst x (aX hx)).2.1
 simp only [dV] at E
 refine dS (nK ((((s.a_).toNat)*9)+1) U (aG 2 U) (Nat.mul_pos om dc) fD U)<|dS (gF ((s.a_).toNat) 1 (vI x.km.Lo) U cq (aG 2 U) D U dc U)<|lz 1 U<|dS (CL (o_ s.mA 0 (x.km.Lo-1)) (aL) U)<|dP 2 [] I ?_
 refine cO<|RK A<|ar<|Q1 hQ U U U ?_
 exact cB (decide_eq_decide.2 (C4 om hx).symm)
theorem zS (ts:List ao) (tsA:OA) (tsC:Nat) (f t:Int) (hst: ∀ x∈ts,bS x) (hlen:ts.length≤12) (hf:0≤f∧f≤t∧t≤ts.length):
 ej Tryz.prog 162 [(vA (aZ.cells (aZ.mk (aM.mk tsA ts.length tsC)))),(vI f),(vI t)] [(rd tsA ts.length 9 (ts.map ao.cells))] (vT [(vA (aa.cells (eI ts f.toNat (t-f).toNat))),(vA (aa.cells (gi ts f.toNat (t-f).toNat)))]):=by
 refine bI kr Tryz.func162 U U fun i Q hQ hN=>?_
 try dsimp only
 refine WS fun _ R=>fV U fun e=>AL U dg fun g=>AL U dg fun h=>RK R<|WS fun _ S=>AL U dg fun a=>AL U dg fun b=>RK S<|al fun _ T=>WS fun _ AA=>rP 2 [] I ?_
 refine RK AA<|aw ?_
 have A:(0≤(t-f).toNat):=by exact Nat.zero_le _
 have K:(vI (f+(0:Int)))=(vI f):=by exact cI om
 refine bO (ι:={z:Nat // (z≤(t-f).toNat)}) [1,2,3,6,7,8,9] [2,3,4,5] U U (fun z=>[(10,(vI (f+(z.1:Int))))]) (fun z=>[(bZ b 38 (aa.cells (gi ts f.toNat z.1))),(bZ a 38 (aa.cells (eI ts f.toNat z.1)))]) (fun _=>rfl) (fun _=>rfl) (fun z=>(t-f).toNat-z.1) ⟨0,A⟩ (bk U K<|dx.nil _) (aK [2,3,4,5,0,1]) ?_
 clear A
 rintro ⟨k,V⟩ J11 B
 try dsimp only
 refine al fun _ C=>WS fun _ D=>rP 3 [] I ?_
 refine RK D<|bR U (aR fun P=>?_) (aS fun P=>?_)
 ·refine bB<|ae<|ae<|ax<|KK T<|al fun _ H=>dR cD [2,3] [] [] [2,3,4,5] [] U U U U U<|eS U (LW 3 U cq U U)<|eS U (LW 2 U cq U U)<|e8 U<|cp U fun T23 AB=>tP U cu U<|aH (AB _ _ (aK [2,3,4,5]) ?_)
  refine cp U fun T24 J=>fR U cu U<|aH (J _ _ (aK [2,3,4,5]) ?_)
  refine fM U<|KK H<|ar<|lk hQ [0,1] (mc 1 U (mc 0 U I)) U ?_
  obtain rfl:k=(t-f).toNat:=om; rfl
 refine WK C<|al fun _ E=>aw<|WS fun _ F=>rP 3 [] (mc 2 U I) ?_
 obtain ⟨x,hx⟩:=aO ts (f.toNat+k) om
 have Y:=bP ao.cells hx
 refine rS (IA (f.toNat+k) U (aG 3 U) yi dc om om)<|rS (oB (f.toNat+k) 0 (ao.cells x) U cq (aG 3 U) Y U dc U U)<|AL U E5 fun Z=>fR U JQ U<|RK F<|WS fun _ G=>?_
 have O:=hst x (aX hx)
 have d:=lY hst f.toNat k
 have c:=F9 hst f.toNat k
 have W:=O.2.1
 have X:=O.2.2.1
 simp only [dV] at W X
 refine fE 12 [0,1,0,1] (mc 6 U (mc 0 U I)) U<|rS (SX (bj (xs:=[(0,.tmp 28),(1,.tmp 34)]) (cs:=(aa.cells (aa.mk (((eI ts f.toNat k).Lo)+x.km.Lo) (((eI ts f.toNat k).Hi)+x.km.Hi)))) U U (bh gl U)) U U)<|OM U cu U<|RK G<|an<|rP 12 [0,1,0,1] (mc 5 U (mc 0 U I)) ?_
 refine rS (SX (bj (xs:=[(0,.tmp 41),(1,.tmp 47)]) (cs:=(aa.cells (aa.mk (((gi ts f.toNat k).Lo)+x.lx.Lo) (((gi ts f.toNat k).Hi)+x.lx.Hi)))) U U (bh gl U)) U U)<|HZ U cu U<|aH<|aD<|KK E ?_
 have L:(aa.cells (aa.mk (((eI ts f.toNat k).Lo)+x.km.Lo) (((eI ts f.toNat k).Hi)+x.km.Hi)))=(aa.cells (eI ts f.toNat (k+1))):=by rw [pt hx]; rfl
 rw [L]
 have M:(aa.cells (aa.mk (((gi ts f.toNat k).Lo)+x.lx.Lo) (((gi ts f.toNat k).Hi)+x.lx.Hi)))=(aa.cells (gi ts f.toNat (k+1))):=by rw [pA hx]; rfl
 rw [M]
 refine an<|rP 3 [] I ?_
 refine aH ?_
 have N:(vI (f+(((k+1):Nat):Int)))=(vI ((f+(k:Int))+1)):=by exact cI om
 refine aT (B ⟨(k+1),(by first|omega|(simp only []; omega))⟩ _ _ _ U os (cN 7<|bk U N<|dx.nil _) (aK [1,2,3,4,5,6]))
end
section
open Go.RowKit
theorem P6 (l:bf) (kA:OA) (kC:Nat) (az:List RA) (cA:OA) (cC:Nat) (bA:OA) (bC:Nat) (hin:eE l az):
 ej Tryz.prog 110 [(vA (bK.cells (lp l kA kC cA cC bA bC)))] [(rd kA l.aJ.length 9 (l.aJ.map ao.cells)),(rd cA l.ai.length 2 (List.zipWith au.cells l.ai az)),(e7 (aU au.gY l.ai az)),(rd bA l.ag.length 4 (l.ag.map bE.cells))] (vB (decide (gk l))):=by
 have R:=hin.sE
 have P:=hin.sD
 have N:=hin.og
 have O:=hin.sB
 refine bI kr Tryz.func110 U U fun T Q hQ hN=>?_
 try dsimp only
 refine WS fun _ G=>fV U fun S=>bg 1 U<|RK G<|WS fun _ A=>rP 2 [] (mc 0 U I) ?_
 refine cU (xs:=[.tmp 4]) (cs:=[(vI l.dM)]) U cy jd U U U U (by simp [Value.cells]) U U fun H=>?_
 refine rS (CL (ej.eq (iP 1 5000 ([l.dM]) (some ⟨H,0,none⟩) 1 (by (simp; done))) cT) (ay (aY 0 U U (by simp [bJ]) U)<|aL) U) ?_
 refine rP 1 [] I ?_
 refine cb (t:=7) U (aR fun K=>?_) (aS fun K=>?_)
 ·refine rP 36 [] I ?_
  refine RK A<|ar<|Q1 hQ U U U ?_
  exact cB (cr (by unfold gk; omega)).symm
 refine rP 3 [] (mc 1 U I) ?_
 refine cU (xs:=[.tmp 10]) (cs:=[(vI (l.ai.length:Int))]) U cy jd U U U U (by simp [Value.cells]) U U fun AA=>?_
 refine rS (CL (ej.eq (iP 1 4 ([(l.ai.length:Int)]) (some ⟨AA,0,none⟩) 1 (by (simp; done))) cT) (ay (aY 0 U U (by simp [bJ]) U)<|aL) U) ?_
 refine rP 2 [] I ?_
 refine cb (t:=14) U (aR fun L=>?_) (aS fun L=>?_)
 ·refine rP 29 [] I ?_
  refine RK A<|ar<|Q1 hQ U U U ?_
  exact cB (cr (by unfold gk; omega)).symm
 refine rP 3 [] (mc 2 U I) ?_
 refine cU (xs:=[.tmp 17]) (cs:=[(vI (l.ag.length:Int))]) U cy jd U U U U (by simp [Value.cells]) U U fun J=>?_
 refine rS (CL (ej.eq (iP 1 6 ([(l.ag.length:Int)]) (some ⟨J,0,none⟩) 1 (by (simp; done))) cT) (ay (aY 0 U U (by simp [bJ]) U)<|aL) U) ?_
 refine rP 2 [] I ?_
 refine cb (t:=21) U (aR fun M=>?_) (aS fun M=>?_)
 ·refine rP 22 [] I ?_
  refine RK A<|ar<|Q1 hQ U U U ?_
  exact cB (cr (by unfold gk; omega)).symm
 refine rP 6 [] (mc 3 U I) ?_
 refine cU (xs:=[.tmp 27]) (cs:=[(vI l.bH)]) U cy jd U U U U (by simp [Value.cells]) U U fun B=>?_
 refine rS (CL (ej.eq (iP 0 ((l.ag.length:Int)-1) ([l.bH]) (some ⟨B,0,none⟩) 1 (by (simp; done))) cT) (ay (aY 0 U U (by simp [bJ]) U)<|aL) U) ?_
 refine rP 2 [] I ?_
 refine cb (t:=31) U (aR fun E=>?_) (aS fun E=>?_)
 ·refine rP 12 [] I ?_
  refine RK A<|ar<|Q1 hQ U U U ?_
  exact cB (cr (by unfold gk; omega)).symm
 refine rP 2 [] (mc 4 U I) ?_
 refine cU (xs:=[.tmp 33]) (cs:=[(vI l.cv)]) U cy jd U U U U (by simp [Value.cells]) U U fun C=>?_
 refine rS (CL (ej.eq (iP 0 3 ([l.cv]) (some ⟨C,0,none⟩) 1 (by (simp; done))) cT) (ay (aY 0 U U (by simp [bJ]) U)<|aL) U) ?_
 refine rP 2 [] I ?_
 refine cb (t:=37) U (aR fun F=>?_) (aS fun F=>?_)
 ·refine rP 6 [] I ?_
  refine RK A<|ar<|Q1 hQ U U U ?_
  exact cB (cr (by unfold gk; omega)).symm
 refine rP 2 [] (mc 5 U I) ?_
 refine cU (xs:=[.tmp 39]) (cs:=[(vI l.bL)]) U cy jd U U U U (by simp [Value.cells]) U U fun D=>?_
 refine rS (CL (ej.eq (iP 0 3 ([l.bL]) (some ⟨D,0,none⟩) 1 (by (simp; done))) cT) (ay (aY 0 U U (by simp [bJ]) U)<|aL) U) ?_
 refine rP 2 [] I ?_
 refine RK A<|ar<|Q1 hQ U U U ?_
 exact cB (decide_eq_decide.2 (by unfold gk; omega))
theorem PG (l:bf) (kA:OA) (kC:Nat) (az:List RA) (cA:OA) (cC:Nat) (bA:OA) (bC:Nat) (hin:eE l az):
 ej Tryz.prog 112 [(vA (bK.cells (lp l kA kC cA cC bA bC)))] [(rd kA l.aJ.length 9 (l.aJ.map ao.cells)),(rd cA l.ai.length 2 (List.zipWith au.cells l.ai az)),(e7 (aU au.gY l.ai az)),(rd bA l.ag.length 4 (l.ag.map bE.cells))] (vB (decide (∀ c∈l.ai,eY c))):=by
 have H:=hin.sE
 have G:=hin.sD
 have E:=hin.og
 have F:=hin.sB
 refine bI kr Tryz.func112 U U fun K Q hQ hN=>?_
 try dsimp only
 refine WS fun _ C=>fV U fun J=>bg 1 U<|RK C<|WS fun _ D=>rP 2 [] (mc 0 U I) ?_
 refine rS (CL (zJ l.ai az cA cC (Value.func (.func 114) [].toArray [].toArray) (fun m=>(!(decide (eY m)))) (e7 (aU au.gY l.ai az)) (by intro AA m a B A; exact nq (fi:=[]) (ca:=[]) (Ti l.ai az AA m a (by exact B) (by exact A) (by exact hin.QL _ _ _ B A))) asm asm) (Nb 2 3 3 U U U U U U) U) ?_
 refine rP 2 [] I ?_
 refine RK D<|ar<|Q1 hQ U U U ?_
 exact cB (by rw [Bool.eq_iff_iff,decide_eq_true_eq]; exact Dq)
theorem P0 (b:bE) (l:bf) (kA:OA) (kC:Nat) (az:List RA) (cA:OA) (cC:Nat) (bA:OA) (bC g1:Nat) (hin:eE l az) (htr:cV l.aJ=true):
 ej Tryz.prog 118 [(vA (bE.cells b)),(vP g1)] [(rd kA l.aJ.length 9 (l.aJ.map ao.cells)),(rd cA l.ai.length 2 (List.zipWith au.cells l.ai az)),(e7 (aU au.gY l.ai az)),(rd bA l.ag.length 4 (l.ag.map bE.cells)),(bZ g1 28 (bK.cells (lp l kA kC cA cC bA bC)))] (vB (!(decide (jV l b)))):=by
 have J:=hin.sE
 have H:=hin.sD
 have F:=hin.og
 have G:=hin.sB
 have AA:=hin.side
 refine bI kr Tryz.func118 U U fun M Q hQ hN=>?_
 try dsimp only
 refine WS fun _ C=>fV U fun K=>bg 1 U<|RK C<|WS fun _ D=>bg 1 U<|rS (Vf (aZ.cells (aZ.mk (aM.mk kA l.aJ.length kC))) 5 U cq U U U)<|bg 1 U<|rS (LP (cJ.cells b.mF) 0 U cq U U U)<|rS (CL (S6 l.aJ kA kC b.mF asm asm) (bp [1]) U)<|bg 3 U<|AL U dg fun L=>fR U cu U<|bg 1 U<|RK D<|WS fun _ B=>rP 3 [] I ?_
 refine db (t:=16) U (bx fun A=>?_) (bw fun A=>?_)
 ·refine rP 11 [] I ?_
  refine RK B<|ar<|Q1 hQ U U U ?_
  (refine cB ?_; rw [cr (fun h:jV l b=>A ((E4 htr).2 h.1))]; rfl)
 refine rP 6 [0,1] (mr 6 U (mc 1 U I)) ?_
 refine cU (xs:=[.tmp 22]) (cs:=[(vI b.jM)]) U cy jd U U U U (by simp [Value.cells]) U U fun E=>?_
 refine rS (CL (ej.eq (iP 0 ((l.ai.length:Int)-1) ([b.jM]) (some ⟨E,0,none⟩) 1 (by (simp; done))) cT) (ay (aY 0 U U (by simp [bJ]) U)<|aL) U) ?_
 refine rP 3 [] I ?_
 refine RK B<|ar<|Q1 hQ U U U ?_
 (refine cB ?_; refine congrArg Bool.not (decide_eq_decide.2 ⟨fun h=>⟨(E4 htr).1 A,om,om⟩,fun h=>by have:=h.2; omega⟩))
theorem P9 (l:bf) (kA:OA) (kC:Nat) (az:List RA) (cA:OA) (cC:Nat) (bA:OA) (bC:Nat) (hin:eE l az) (htr:cV l.aJ=true):
 ej Tryz.prog 116 [(vA (bK.cells (lp l kA kC cA cC bA bC)))] [(rd kA l.aJ.length 9 (l.aJ.map ao.cells)),(rd cA l.ai.length 2 (List.zipWith au.cells l.ai az)),(e7 (aU au.gY l.ai az)),(rd bA l.ag.length 4 (l.ag.map bE.cells))] (vB (decide (∀ b∈l.ag,jV l b))):=by
 have H:=hin.sE
 have G:=hin.sD
 have E:=hin.og
 have F:=hin.sB
 refine bI kr Tryz.func116 U U fun AA Q hQ hN=>?_
 try dsimp only
 refine WS fun _ B=>fV U fun A=>bg 1 U<|RK B<|WS fun _ C=>rP 2 [] (mc 0 U I) ?_
 refine rS (FU U) ?_
 refine rS (CL (zM l.ag bA bC (Value.func (.func 118) [].toArray [(vP A)].toArray) (fun D=>(!(decide (jV l D)))) (e7 [(rd kA l.aJ.length 9 (l.aJ.map ao.cells)),(rd cA l.ai.length 2 (List.zipWith au.cells l.ai az)),(e7 (aU au.gY l.ai az)),(rd bA l.ag.length 4 (l.ag.map bE.cells)),(bZ A 28 (bK.cells (lp l kA kC cA cC bA bC)))]) (by intro D _; exact nq (fi:=[]) (ca:=[(vP A)]) (lW (P0 D l kA kC az cA cC bA bC A (by first|assumption|omega) (by first|assumption|omega)) (bp [0,1,2,3,4]))) asm) (fH 4 U U<|ay (l3 (bp [1,2,3,4,0]))<|aL) U) ?_
 refine rP 2 [] I ?_
 refine RK C<|ar<|Q1 hQ U U U ?_
 exact cB (by rw [Bool.eq_iff_iff,decide_eq_true_eq]; exact GX)
theorem Ox (l:bf) (kA:OA) (kC:Nat) (az:List RA) (cA:OA) (cC:Nat) (bA:OA) (bC:Nat) (n:Int) (hin:eE l az) (htr:cV l.aJ=true) (hbk: ∀ b∈l.ag,jV l b) (hn:0≤n∧n<(l.ag.length:Int)):
 ej Tryz.prog 121 [(vA (bK.cells (lp l kA kC cA cC bA bC))),(vI n)] [(rd kA l.aJ.length 9 (l.aJ.map ao.cells)),(rd cA l.ai.length 2 (List.zipWith au.cells l.ai az)),(e7 (aU au.gY l.ai az)),(rd bA l.ag.length 4 (l.ag.map bE.cells))] (vI (lV l n.toNat)):=by
 have P:=hin.sE
 have N:=hin.sD
 have L:=hin.og
 have M:=hin.sB
 have O:=hin.side
 refine bI kr Tryz.func121 U U fun AA Q hQ hN=>?_
 try dsimp only
 refine WS fun _ E=>fV U fun R=>bg 1 U<|RK E<|WS fun _ F=>rP 3 [] (mc 0 U I) ?_
 obtain ⟨x,hx⟩:=aO l.ag ((n).toNat) om
 have J:=bP bE.cells hx
 refine rS (IA ((n).toNat) U (aG 4 U) vt dc om om)<|rS (nK (((n).toNat)*4) U (aG 4 U) (Nat.mul_pos om dc) fD U)<|rS (oB ((n).toNat) 0 (cJ.cells x.mF) U cq (aG 4 U) J U dc U U)<|AL U Br fun S=>fR U IT U<|RK F<|WS fun _ G=>bg 1 U<|rS (LP (aZ.cells (aZ.mk (aM.mk kA l.aJ.length kC))) 1 U cq U U U)<|fE 1 [] (mc 0 U I) U<|rS (CL (S6 l.aJ kA kC x.mF asm asm) (bp [2]) U)<|bg 3 U<|AL U dg fun T=>fR U cu U<|bg 1 U<|RK G<|al fun _ C=>WS fun _ H=>rP 2 [] I ?_
 refine RK H<|bR U (aR fun D=>?_) (aS fun D=>?_)
 ·refine WK C<|WS fun _ B=>rP 3 [] (mc 0 U I) ?_
  refine RK B<|ar<|Q1 hQ U U U ?_
  (refine congrArg (Value.int .i64) ?_; rw [show n.toNat=0 by omega] at hx ⊢; rw [zl hx,(wU htr (hbk _ (List.mem_of_getElem? hx)).1).2])
 refine dR cD [14] [] [] [1,2,3,4,5,6] [] U U U U U<|eS U (FA 0 U fD U)<|eS U (LP (aZ.cells (aZ.mk (aM.mk kA l.aJ.length kC))) 1 U cq U U U)<|eS U (FA 3 U fD U)<|eS U (L1 (vS bA l.ag.length bC) 1 U cq U U)<|eS U (MV U)<|eS U (BI U (rJ ⟨om,om⟩)) ?_
 obtain ⟨y,hy⟩:=aO l.ag (((n-1)).toNat) om
 have K:=bP bE.cells hy
 refine eS U (IA (((n-1)).toNat) U (aG 5 U) vt dc om om)<|eS U (nK ((((n-1)).toNat)*4) U (aG 5 U) (Nat.mul_pos om dc) fD U)<|eS U (oB (((n-1)).toNat) 0 (cJ.cells y.mF) U cq (aG 5 U) K U dc U U)<|eS U (LW 0 U cq U U)<|eS U (CL (MR l.aJ kA kC y.mF x.mF asm asm) (bp [2]) U)<|eS U (MV U)<|eS U (EX U)<|eS U (EX U)<|e8 U<|cp U fun T9 AB=>fR U cu U<|aH (AB _ _ (aK [1,2,3,4,5,6]) ?_)
 refine fM U<|KK C<|WS fun _ A=>rP 3 [] (mc 0 U I) ?_
 refine RK A<|ar<|Q1 hQ U U U ?_
 (refine congrArg (Value.int .i64) ?_; rw [CI om hx (by rw [show n.toNat-1=(n-1).toNat by omega]; exact hy),(k8 htr ⟨(hbk _ (List.mem_of_getElem? hy)).1,(hbk _ (List.mem_of_getElem? hx)).1⟩).2])
theorem Qt (l:bf) (kA:OA) (kC:Nat) (az:List RA) (cA:OA) (cC:Nat) (bA:OA) (bC:Nat) (hin:eE l az) (htr:cV l.aJ=true) (hbk: ∀ b∈l.ag,jV l b):
 ej Tryz.prog 120 [(vA (bK.cells (lp l kA kC cA cC bA bC)))] [(rd kA l.aJ.length 9 (l.aJ.map ao.cells)),(rd cA l.ai.length 2 (List.zipWith au.cells l.ai az)),(e7 (aU au.gY l.ai az)),(rd bA l.ag.length 4 (l.ag.map bE.cells))] (vB (decide (∀ i,i<l.ag.length→1≤lV l i))):=by
 have V:=hin.sE
 have AA:=hin.sD
 have S:=hin.og
 have T:=hin.sB
 refine bI kr Tryz.func120 U U fun X Q hQ hN=>?_
 try dsimp only
 refine WS fun _ J=>fV U fun W=>bg 1 U<|RK J<|al fun _ K=>WS fun _ L=>rP 4 [] (mc 0 U I) ?_
 refine RK L<|aw ?_
 have A:(0≤l.ag.length)∧(∀ j,j<0→1≤lV l j):=by exact ⟨Nat.zero_le _,fun j hj=>absurd hj (Nat.not_lt_zero _)⟩
 refine bO (ι:={z:Nat // (z≤l.ag.length)∧(∀ j,j<z→1≤lV l j)}) [1,6] [0,1,2,3,4] U U (fun z=>[(7,(vI (z.1:Int)))]) (fun z=>[]) (fun _=>rfl) (fun _=>rfl) (fun z=>l.ag.length-z.1) ⟨0,A⟩ (aQ U) (aK [0,1,2,3,4]) ?_
 clear A
 rintro ⟨i,⟨P,B⟩⟩ J5 AB
 try dsimp only
 refine WS fun _ M=>rP 1 [] I ?_
 refine RK M<|al fun _ N=>bR U (aR fun R=>?_) (aS fun R=>?_)
 ·refine bB<|ae<|ae<|ax<|KK K<|WS fun _ G=>rP 1 [] I ?_
  refine RK G<|ar<|Q1 hQ U U U ?_
  exact cB (fO (fun j hj=>B j om)).symm
 refine WK N<|al fun _ O=>aw<|WS fun _ D=>bg 2 U<|RK D<|WS fun _ E=>fE 2 [] (mc 0 U I) U<|rS (CL (Ox l kA kC az cA cC bA bC (i:Int) hin htr hbk om) (bp [1,2,3,4]) U)<|rP 1 [] I ?_
 refine RK E<|cM U (aS fun C=>?_) (aR fun C=>?_)
 ·refine WS fun _ F=>rP 1 [] I ?_
  refine RK F<|ar<|Q1 hQ U U U ?_
  exact cB (cr (fun h=>by have:=h i om; simp only [Int.toNat_natCast] at C; omega)).symm
 refine bY<|aD<|KK O<|an<|rP 2 [] I ?_
 refine aH ?_
 have H:(vI (((i+1):Nat):Int))=(vI ((i:Int)+1)):=by exact cI om
 refine aT (AB ⟨(i+1),⟨om,fun j hj=>by rcases Nat.lt_or_ge j i with q|q; exact B j q; (obtain rfl:j=i:=by omega); simp only [Int.toNat_natCast] at C; omega⟩⟩ _ _ _ rfl os (dx.cons rfl<|dx.cons rfl<|bk rfl H<|dx.nil _) (aK [0,1,2,3,4]))
end
section
open Go.RowKit
theorem PW:
 ej Tryz.prog 75 [] [] (vA ((gN.cells (gN.mk (Value.func (.func 110) [].toArray [].toArray)))++(gN.cells (gN.mk (Value.func (.func 112) [].toArray [].toArray)))++(gN.cells (gN.mk (Value.func (.func 116) [].toArray [].toArray)))++(gN.cells (gN.mk (Value.func (.func 120) [].toArray [].toArray))))):=by
 refine bI kr Tryz.func75 U U fun D Q hQ hN=>?_
 try dsimp only
 refine WS fun _ A=>AL U Su fun C=>RK A<|WS fun _ B=>rS (SX (bj (xs:=[(0,.func 110)]) (cs:=(gN.cells (gN.mk (Value.func (.func 110) [].toArray [].toArray)))) U U (bh FP U)) U U)<|rS (SX (bj (xs:=[(0,.func 112)]) (cs:=(gN.cells (gN.mk (Value.func (.func 112) [].toArray [].toArray)))) U U (bh FP U)) U U)<|rS (SX (bj (xs:=[(0,.func 116)]) (cs:=(gN.cells (gN.mk (Value.func (.func 116) [].toArray [].toArray)))) U U (bh FP U)) U U)<|rS (SX (bj (xs:=[(0,.func 120)]) (cs:=(gN.cells (gN.mk (Value.func (.func 120) [].toArray [].toArray)))) U U (bh FP U)) U U)<|rS (SX (bj (xs:=[(0,.tmp 1),(1,.tmp 2),(2,.tmp 3),(3,.tmp 4)]) (cs:=((gN.cells (gN.mk (Value.func (.func 110) [].toArray [].toArray)))++(gN.cells (gN.mk (Value.func (.func 112) [].toArray [].toArray)))++(gN.cells (gN.mk (Value.func (.func 116) [].toArray [].toArray)))++(gN.cells (gN.mk (Value.func (.func 120) [].toArray [].toArray))))) U U (bh SI U)) U U)<|fR U SY U<|RK B<|ar ?_
 exact H2 hQ [0] (mc 0 U I) U U
theorem Bu (l:bf) (kA:OA) (kC:Nat) (az:List RA) (cA:OA) (cC:Nat) (bA:OA) (bC:Nat) (hin:eE l az):
 ej Tryz.prog 50 [(vA (bK.cells (lp l kA kC cA cC bA bC)))] [(rd kA l.aJ.length 9 (l.aJ.map ao.cells)),(rd cA l.ai.length 2 (List.zipWith au.cells l.ai az)),(e7 (aU au.gY l.ai az)),(rd bA l.ag.length 4 (l.ag.map bE.cells))] (vI (dw l)):=by
 have AF:=hin.sE
 have AD:=hin.sD
 have AB:=hin.og
 have AC:=hin.sB
 have AE:=hin.side
 refine bI kr Tryz.func50 U U fun w0 Q hQ hN=>?_
 try dsimp only
 refine WS fun _ m=>fV U fun b2=>bg 1 U<|RK m<|al fun _ n=>WS fun _ o=>bg 1 U<|rS (LP (aZ.cells (aZ.mk (aM.mk kA l.aJ.length kC))) 0 U cq U U U)<|rS (CL (Cw l.aJ kA kC asm asm) (bp [1]) U)<|bg 1 U<|RK o<|WS fun _ p=>rP 2 [] I ?_
 refine RK p<|cM U (bx fun B=>?_) (bw fun B=>?_)
 ·refine WS fun _ q=>rP 2 [] I ?_
  refine RK q<|ar<|Q1 hQ U U U ?_
  (refine cI ?_; rw [(zr B).2,yv (zr B).1])
 refine WK n<|al fun _ s=>WS fun _ t=>?_
 have A:=D4 B
 refine rS (CL PW (aL) U)<|bg 1 U<|RK t<|aw<|jY 5<|eu fun R9 u=>WS fun _ C=>rS (SX (b_ (r:= .bool true) U U U gS) U U)<|RK C<|al fun _ D=>aP U<|WK D<|al fun _ E=>aw<|WS fun _ F=>rS (SX (sM (vs:=(gN.cells (gN.mk (Value.func (.func 110) [].toArray [].toArray)))) 0 U U U Fu cq U dc U) U U)<|AL U FX fun x=>fR U E8 U<|RK F<|WS fun _ G=>fE 3 [0,1] (mc 0 U (mc 1 U I)) U<|rS (CL (P6 l kA kC az cA cC bA bC hin) (bp [2,3,4,5]) U)<|rP 1 [] I ?_
 refine RK G<|cM U (bx fun g=>?_) (bw fun g=>?_)
 ·refine WS fun _ H=>rP 1 [] I ?_
  refine RK H<|ar<|Q1 hQ U U U ?_
  exact cI (qD A fun h=>absurd h.head asm).symm
 refine bY<|aD<|KK E<|an<|rS (SX (b_ (r:= .int .i64 1) U U U (ik ⟨dc,dc⟩)) U U)<|bg 1 U<|RK u<|eu fun R18 d=>WS fun _ AH=>rS (SX (b_ (r:= .bool true) U U U gS) U U)<|RK AH<|al fun _ J=>aP U<|WK J<|al fun _ K=>aw<|WS fun _ L=>rS (SX (sM (vs:=(gN.cells (gN.mk (Value.func (.func 112) [].toArray [].toArray)))) 1 U U U Fu cq U dc U) U U)<|AL U FX fun y=>fR U E8 U<|RK L<|WS fun _ M=>fE 3 [0,1] (mc 0 U (mc 2 U I)) U<|rS (CL (PG l kA kC az cA cC bA bC hin) (bp [3,4,5,6]) U)<|rP 1 [] I ?_
 refine RK M<|cM U (bx fun i=>?_) (bw fun i=>?_)
 ·refine WS fun _ N=>rP 1 [] I ?_
  refine RK N<|ar<|Q1 hQ U U U ?_
  exact cI (qD A fun h=>absurd h.clock asm).symm
 refine bY<|aD<|KK K<|an<|rS (SX (b_ (r:= .int .i64 2) U U U (ik ⟨dc,dc⟩)) U U)<|bg 1 U<|RK d<|eu fun R27 e=>WS fun _ O=>rS (SX (b_ (r:= .bool true) U U U gS) U U)<|RK O<|al fun _ P=>aP U<|WK P<|al fun _ R=>aw<|WS fun _ S=>rS (SX (sM (vs:=(gN.cells (gN.mk (Value.func (.func 116) [].toArray [].toArray)))) 2 U U U Fu cq U dc U) U U)<|AL U FX fun z=>fR U E8 U<|RK S<|WS fun _ T=>fE 3 [0,1] (mc 0 U (mc 3 U I)) U<|rS (CL (P9 l kA kC az cA cC bA bC hin asm) (bp [4,5,6,7]) U)<|rP 1 [] I ?_
 refine RK T<|cM U (bx fun j=>?_) (bw fun j=>?_)
 ·refine WS fun _ AG=>rP 1 [] I ?_
  refine RK AG<|ar<|Q1 hQ U U U ?_
  exact cI (qD A fun h=>absurd h.vw asm).symm
 refine bY<|aD<|KK R<|an<|rS (SX (b_ (r:= .int .i64 3) U U U (ik ⟨dc,dc⟩)) U U)<|bg 1 U<|RK e<|eu fun R36 f=>WS fun _ V=>rS (SX (b_ (r:= .bool true) U U U gS) U U)<|RK V<|al fun _ W=>aP U<|WK W<|al fun _ X=>aw<|WS fun _ Y=>rS (SX (sM (vs:=(gN.cells (gN.mk (Value.func (.func 120) [].toArray [].toArray)))) 3 U U U Fu cq U dc U) U U)<|AL U FX fun AA=>fR U E8 U<|RK Y<|WS fun _ Z=>fE 3 [0,1] (mc 0 U (mc 4 U I)) U<|rS (CL (Qt l kA kC az cA cC bA bC hin asm asm) (bp [5,6,7,8]) U)<|rP 1 [] I ?_
 refine RK Z<|cM U (bx fun k=>?_) (bw fun k=>?_)
 ·refine WS fun _ a=>rP 1 [] I ?_
  refine RK a<|ar<|Q1 hQ U U U ?_
  exact cI (qD A fun h=>absurd h.QM asm).symm
 refine bY<|aD<|KK X<|an<|rS (SX (b_ (r:= .int .i64 4) U U U (ik ⟨dc,dc⟩)) U U)<|bg 1 U<|RK f<|eu fun R45 w=>WS fun _ b=>rS (SX (b_ (r:= .bool false) U U U gS) U U)<|RK b<|al fun _ v=>aV U<|bB<|ae<|ae<|ax<|KK s<|WS fun _ c=>rP 1 [] I ?_
 refine RK c<|ar<|Q1 hQ U U U ?_
 exact cI (wW A (yX asm asm asm asm)).symm
theorem Bz (lo hi:Int) (f:Value) (p:Int→Bool) (X:av) (r:Int) (hf: ∀ x0,0≤x0∧x0<hi→D_ Tryz.prog f [.int .i64 x0] [X] (.bool (p x0))) (hb:0≤lo∧lo≤r∧r≤hi∧hi≤100000000) (hno: ∀ x,lo≤x→x<r→p x=false) (hyes: ∀ x,r≤x→x<hi→p x=true):
 ej Tryz.prog 208 [(vI lo),(vI hi),f] [X] (vI r):=by
 refine bI kr Tryz.func208 U U fun N Q hQ hN=>?_
 try dsimp only
 refine WS fun _ F=>rP 1 [] I ?_
 refine RK F<|al fun _ G=>aw ?_
 have A:(lo≤lo∧lo≤r)∧(r≤hi∧hi≤hi):=by omega
 refine bO (ι:={z:Int×Int // (lo≤z.1∧z.1≤r)∧(r≤z.2∧z.2≤hi)}) [2] [0] U U (fun z=>[(0,(vI z.1.1)),(1,(vI z.1.2))]) (fun z=>[]) (fun _=>rfl) (fun _=>rfl) (fun z=>(z.1.2-z.1.1).toNat) ⟨(lo,hi),A⟩ (aQ U) (aK [0]) ?_
 clear A
 rintro ⟨⟨a,b⟩,⟨B,C⟩⟩ J3 D
 try dsimp only at B C
 try dsimp only
 refine al fun _ H=>WS fun _ AA=>rP 3 [] I ?_
 refine RK AA<|bR U (aR fun M=>?_) (aS fun M=>?_)
 ·refine bB<|ae<|ae<|ax<|KK G<|WS fun _ L=>rP 2 [] I ?_
  refine RK L<|ar<|Q1 hQ U U U ?_
  exact cI om
 refine WK H<|aw<|WS fun _ J=>bg 4 U<|rS (BI U (tm om om om))<|bg 2 U<|RK J<|WS fun _ K=>rP 2 [] I ?_
 refine rS (SX (sh U U U (hf (a+((b-a)/2)) om) (bp [0])) U U)<|RK K<|cM U (fun hp=>?_) (fun hp=>?_)
 ·refine an<|rP 2 [] I ?_
  refine aH<|aD ?_
  refine aT (D ⟨(a,(a+((b-a)/2))),(by dsimp only; rcases Int.lt_or_le (a+(b-a)/2) r with q|q; (have E:=hno _ om q; (rw [E] at hp; cases hp)); (have E:=hyes _ q om; (refine ⟨⟨om,om⟩,om,om⟩)))⟩ _ _ _ rfl (by simp only []; omega) (aQ rfl) (aK [0]))
 refine an<|rP 3 [] I ?_
 refine aH<|aD ?_
 refine aT (D ⟨(((a+((b-a)/2))+1),b),(by dsimp only; rcases Int.lt_or_le (a+(b-a)/2) r with q|q; (have E:=hno _ om q; (refine ⟨⟨om,om⟩,om,om⟩)); (have E:=hyes _ q om; (rw [E] at hp; cases hp)))⟩ _ _ _ rfl (by simp only []; omega) (aQ rfl) (aK [0]))
theorem IQ (u:Int) (c:au) (sA:OA) (sC g1:Nat) (s:aN) (g2:Nat) (hc:eY c) (hu:0≤u∧u≤90000000):
 ej Tryz.prog 209 [(vI u),(vP g1),(vP g2)] [(rd sA c.bu.length 3 (c.bu.map cG.cells)),(bZ g1 127 (dv.cells (dv.mk c.dj (aM.mk sA c.bu.length sC)))),(bZ g2 131 (aN.cells s))] (vB (decide (s.Read≤u+(hP c u).Hi))):=by
 have C:=pX hc hu
 refine bI kr Tryz.func209 U U fun D Q hQ hN=>?_
 try dsimp only
 refine WS fun _ A=>bg 1 U<|RK A<|al fun _ B=>dF cD 10 kr<|mI 3 [] (mr 1 U I) U<|dS (CL (FL c sA sC u hc hu) (bp [0]) U)<|dS (SX (kQ (v:=(vI ((hP c u).Hi))) U U fD Ad U) U U)<|dP 5 [] (mr 2 U I) ?_
 refine cO<|RK B<|ar ?_
 exact Q1 hQ U U U U
theorem II (u:Int) (c:au) (sA:OA) (sC g1:Nat) (s:aN) (g2:Nat) (hc:eY c) (hu:0≤u∧u≤90000000):
 ej Tryz.prog 211 [(vI u),(vP g1),(vP g2)] [(rd sA c.bu.length 3 (c.bu.map cG.cells)),(bZ g1 127 (dv.cells (dv.mk c.dj (aM.mk sA c.bu.length sC)))),(bZ g2 131 (aN.cells s))] (vB (decide (s.Read<u+(hP c u).Lo))):=by
 have C:=pX hc hu
 refine bI kr Tryz.func211 U U fun D Q hQ hN=>?_
 try dsimp only
 refine WS fun _ A=>bg 1 U<|RK A<|al fun _ B=>dF cD 10 kr<|mI 3 [] (mr 1 U I) U<|dS (CL (FL c sA sC u hc hu) (bp [0]) U)<|dS (SX (kQ (v:=(vI ((hP c u).Lo))) U U fD zO U) U U)<|dP 5 [] (mr 2 U I) ?_
 refine cO<|RK B<|ar ?_
 exact Q1 hQ U U U U
theorem JE (l:bf) (kA:OA) (kC:Nat) (az:List RA) (cA:OA) (cC:Nat) (bA:OA) (bC:Nat) (s:aN) (hin:eE l az) (hok:lf l) (hs:(0≤s.gj∧s.gj≤(l.ag.length:Int)-1)∧0≤s.Read∧s.Read≤86400000):
 ej Tryz.prog 200 [(vA (bK.cells (lp l kA kC cA cC bA bC))),(vA (aN.cells s))] [(rd kA l.aJ.length 9 (l.aJ.map ao.cells)),(rd cA l.ai.length 2 (List.zipWith au.cells l.ai az)),(e7 (aU au.gY l.ai az)),(rd bA l.ag.length 4 (l.ag.map bE.cells))] (vA (aa.cells (cH l s))):=by
 have V:=hin.sE
 have S:=hin.sD
 have P:=hin.og
 have R:=hin.sB
 refine bI kr Tryz.func200 U U fun Z Q hQ hN=>?_
 try dsimp only
 refine WS fun _ AB=>fV U fun X=>fV U fun D=>AL U dg fun Y=>RK AB<|al fun _ J=>dR cD [11,12] [] [] [0,1,2,3,4,5,6] [] U U U U U<|eS U (FA 2 U fD U)<|eS U (L1 (vS cA l.ai.length cC) 2 U cq U U)<|eS U (FA 3 U fD U)<|eS U (L1 (vS bA l.ag.length bC) 2 U cq U U)<|eS U (FA 0 U fD U)<|eS U (L1 (vI s.gj) 1 U cq U U) ?_
 obtain ⟨y,hy⟩:=aO l.ag ((s.gj).toNat) om
 have O:=bP bE.cells hy
 refine eS U (IA ((s.gj).toNat) U (aG 6 U) vt dc om om)<|eS U (nK ((((s.gj).toNat)*4)+3) U (aG 6 U) (Nat.mul_pos om dc) fD U)<|eS U (gF ((s.gj).toNat) 3 (vI y.jM) U cq (aG 6 U) O U dc U) ?_
 have W:=(hok.vw _ (aX hy)).2
 obtain ⟨x,hx⟩:=aO l.ai ((y.jM).toNat) om
 obtain ⟨xa,F⟩:=aO az ((y.jM).toNat) om
 have N:(List.zipWith au.cells l.ai az)[(y.jM).toNat]? =some (au.cells x xa):=dZ hx F
 refine eS U (IA ((y.jM).toNat) U (aG 4 U) zV dc om om)<|eS U (oB ((y.jM).toNat) 0 (dv.cells (dv.mk x.dj (aM.mk xa.1 x.bu.length xa.2))) U cq (aG 4 U) N U dc U U)<|e8 U<|cp U fun T6 L=>AL U Jw fun E=>aH (L _ _ (aK [1,2,3,4,5,6,7]) ?_)
 refine cp U fun T8 M=>fR U O1 U<|aH (M _ _ (aK [1,2,3,4,5,6,7]) ?_)
 refine fM U<|KK J<|WS fun _ K=>?_
 have A:=hok.clock _ (aX hx)
 have AA:=ia (p:=gd x s.Read) (n:=86400001)
 have T:=ia (p:=gf x s.Read) (n:=86400001)
 refine rS (FU U) ?_
 refine rS (CL (Bz 0 86400001 (Value.func (.func 209) [].toArray [(vP E),(vP D)].toArray) (fun B=>(decide (s.Read≤B+(hP x B).Hi))) (e7 [(rd xa.1 x.bu.length 3 (x.bu.map cG.cells)),(bZ E 127 (dv.cells (dv.mk x.dj (aM.mk xa.1 x.bu.length xa.2)))),(bZ D 131 (aN.cells s))]) (fu (gd x s.Read) 86400001) (by intro B _; exact nq (fi:=[]) (ca:=[(vP E),(vP D)]) (lW (IQ B x xa.1 xa.2 E s D (by first|assumption|omega) (by first|assumption|omega)) (Nb 0 1 2 U U U U U U))) om (by intro z G hz; exact (kO A G om).1 hz) (by intro z hz H; exact (kO A om H).2.1 hz)) (ay (l3 (ay (show jc _ (rd xa.1 x.bu.length 3 (x.bu.map cG.cells)).holds from (dy 6 U (cj hx F (by simp [au.gY]))))<|fH 0 U U<|fH 2 U U<|aL))<|aL) U) ?_
 refine rS (FU U) ?_
 refine rS (CL (Bz 0 86400001 (Value.func (.func 211) [].toArray [(vP E),(vP D)].toArray) (fun C=>(decide (s.Read<C+(hP x C).Lo))) (e7 [(rd xa.1 x.bu.length 3 (x.bu.map cG.cells)),(bZ E 127 (dv.cells (dv.mk x.dj (aM.mk xa.1 x.bu.length xa.2)))),(bZ D 131 (aN.cells s))]) (fu (gf x s.Read) 86400001) (by intro C _; exact nq (fi:=[]) (ca:=[(vP E),(vP D)]) (lW (II C x xa.1 xa.2 E s D (by first|assumption|omega) (by first|assumption|omega)) (Nb 0 1 2 U U U U U U))) om (by intro z G hz; exact (kO A G om).2.2.1 hz) (by intro z hz H; exact (kO A om H).2.2.2 hz)) (ay (l3 (ay (show jc _ (rd xa.1 x.bu.length 3 (x.bu.map cG.cells)).holds from (dy 6 U (cj hx F (by simp [au.gY]))))<|fH 0 U U<|fH 2 U U<|aL))<|aL) U) ?_
 refine rP 1 [] I ?_
 refine rS (SX (bj (xs:=[(0,.tmp 18),(1,.tmp 21)]) (cs:=(aa.cells (aa.mk (fu (gd x s.Read) 86400001) ((fu (gf x s.Read) 86400001)-1)))) U U (bh gl U)) U U)<|tP U cu U<|RK K<|ar<|H2 hQ [0] (mc 1 U I) U ?_
 unfold cH qc; rw [wo hy hx]
end
section
open Go.RowKit
structure KX (S:BS) (w0:World) (X:av) (C0:List av) (w:World) (S':BS):Prop where
 st:St S w0 (X::C0) w
 w_: ∀ b,S'.w b↔ ∃ A∈C0,A.wf b
theorem D2 {A B:av} (h:Dj A B):Dj A.ro B:=fun b C D=>⟨fun h=>h,(h b C D).2⟩
theorem BQ {E:ff} {c:Code} {Q:cZ} {D:List Deferred} {L:List (Nat×Value)} {C C0:List av} {X:av} (i:Nat) (hn:decide (i::(List.range C.length).filter fun k=>k != i).Nodup=true) (hC:kj C (i::(List.range C.length).filter fun k=>k != i)=X::C0)
 (h: ∀ w S',KX E.S E.w0 X C0 w S'→WJ ⟨E.P,E.r,E.n,S',w⟩ c Q D L (X.ro::C0)):WJ E c Q D L C:=fun a w hf hs=>by
 have F:=St.kj _ hn hC hs
 obtain ⟨G,H⟩:=List.pairwise_cons.1 F.sep
 refine h w ⟨fun b=> ∃ A∈C0,A.wf b,fun _=>True⟩ ⟨F,fun b=>Iff.rfl⟩ a w hf ⟨dY.refl _ _,fun A hA=>?_,List.Pairwise.cons (fun B hB=>D2 (G B hB)) H,fun A hA b hb=>?_,fun A hA b hb=> .inr trivial⟩
 ·rcases List.mem_cons.1 hA with rfl|hA
  ·exact F.holds X (cm ..)
  ·exact F.holds A (cS _ hA)
 ·rcases List.mem_cons.1 hA with rfl|hA
  ·exact hb.elim
  ·exact .inr ⟨A,hA,hb⟩
theorem Am {E:ff} {S':BS} {w:World} {K:Act→World→Prop} {D:List Deferred} {L:List (Nat×Value)} {C0 C1 C2:List av} {X:av} (hz:KX E.S E.w0 X C0 w S') (is:List Nat) (hn:decide is.Nodup=true) (hC:kj C2 is=C1) (hwr:C1.all (·.wr)=true)
 (h:KJ E K D L (X::C1)):KJ ⟨E.P,E.r,E.n,S',w⟩ K D L C2:=fun a w' hf hs=>by
 have F:=St.kj is hn hC hs
 have C:=hz.st
 obtain ⟨J,M⟩:=List.pairwise_cons.1 C.sep
 have AA: ∀ b,X.fq b→ ¬ S'.w b:=fun b hb hw=>by
  obtain ⟨A,hA,hw⟩:=(hz.w_ b).1 hw
  exact (J A hA b hb (A.kv b hw)).2 hw
 have G: ∀ b,S'.w b→E.w0.heap.size≤b∨E.S.w b:=fun b hb=>by
  obtain ⟨A,hA,hw⟩:=(hz.w_ b).1 hb
  exact C.own A (cS _ hA) b hw
 have H: ∀ A∈C1,∀ b,A.fq b→w.heap.size≤b∨S'.w b:=fun A hA b hb=>F.own A hA b (A.whole (List.all_eq_true.1 hwr A hA) b hb)
 refine h a w' hf ⟨?_,fun A hA=>?_,List.Pairwise.cons (fun B hB b hb hb'=>?_) F.sep,fun A hA b hb=>?_,fun A hA b hb=>?_⟩
 ·refine ⟨F.keeps.os.trans C.keeps.os,F.keeps.tape.trans C.keeps.tape,F.keeps.output.trans C.keeps.output,Nat.le_trans C.keeps.size F.keeps.size,fun k hk hn'=>?_⟩
  refine (F.keeps.block k (Nat.lt_of_lt_of_le hk C.keeps.size) fun hw=>?_).trans (C.keeps.block k hk hn')
  rcases G k hw with q|q
  ·omega
  ·exact hn' q
 ·rcases List.mem_cons.1 hA with rfl|hA
  ·have hh:=C.holds A (cm ..)
   exact A.oi w w' (fun b hb=>F.keeps.block b (A.lt w hh b hb) (AA b hb)) hh
  ·exact F.holds A hA
 ·exfalso
  have hl:=X.lt w (C.holds X (cm ..)) b hb
  rcases H B hB b hb' with q|q
  ·omega
  ·exact AA b hb q
 ·rcases List.mem_cons.1 hA with rfl|hA
  ·exact C.own A (cm ..) b hb
  ·rcases F.own A hA b hb with q|q
   ·exact .inl (Nat.le_trans C.keeps.size q)
   ·exact G b q
 ·rcases List.mem_cons.1 hA with rfl|hA
  ·exact C.seen A (cm ..) b hb
  ·rcases H A hA b hb with q|q
   ·exact .inl (Nat.le_trans C.keeps.size q)
   ·obtain ⟨B,hB,hw⟩:=(hz.w_ b).1 q
    exact C.seen B (cS _ hB) b (B.kv b hw)
/-- put back, as it was -/
theorem Gn {M A:Type} {f:M→A→List av} {S:BS} {w0 w:World} {C:List av} {ms:List M} {asl:List A} {k:Nat} {m:M} {a:A} {X:av} (hm:ms[k]? =some m) (ha:asl[k]? =some a) (hf:f m a=[X]) (h:St S w0 (X::bo (fz f ms asl k)::C) w):St S w0 (bo (aU f ms asl)::C) w:=by
 have B:St S w0 (bo (fz f ms asl k)::X::C) w:=h.perm (List.Perm.swap _ _ _)
 have D:St S w0 ((f m a++fz f ms asl k)++C) w:=by
  rw [hf]
  exact B.ig.perm (List.perm_middle (a:=X) (l₁:=fz f ms asl k) (l₂:=C))
 exact kR (kP hm ha).symm D.tied
theorem IS {E:ff} {K:Act→World→Prop} {D:List Deferred} {L:List (Nat×Value)} {C C1:List av} {M A:Type} {f:M→A→List av} {ms:List M} {asl:List A} {k:Nat} {m:M} {a:A} {X:av} (i j:Nat) (hm:ms[k]? =some m) (ha:asl[k]? =some a) (hf:f m a=[X])
 (hn:decide (j::i::(List.range C.length).filter fun k=>k != i&&k != j).Nodup=true) (hC:kj C (j::i::(List.range C.length).filter fun k=>k != i&&k != j)=X::bo (fz f ms asl k)::C1)
 (h:KJ E K D L (bo (aU f ms asl)::C1)):KJ E K D L C:=fun a w hf' hs=>h a w hf' (Gn hm ha hf (St.kj _ hn hC hs))
theorem zk {M A:Type} {f:M→A→List av} {ms:List M} {asl:List A} {m:M} {a:A} {X:av} (hl:ms.length=asl.length) (hf:f m a=[X]):aU f ms asl++[X]=aU f (ms++[m]) (asl++[a]):=by
 rw [jN hl,← hf]; simp [aU]
theorem ze {E:ff} {K:Act→World→Prop} {D:List Deferred} {L:List (Nat×Value)} {C C1:List av} {M A:Type} {f:M→A→List av} {ms:List M} {asl:List A} {m:M} {a:A} {X:av} (i j:Nat) (hf:f m a=[X])
 (hn:decide (j::i::(List.range C.length).filter fun k=>k != i&&k != j).Nodup=true) (hC:kj C (j::i::(List.range C.length).filter fun k=>k != i&&k != j)=X::bo (aU f ms asl)::C1)
 (h:KJ E K D L (bo (aU f (m::ms) (a::asl))::C1)):KJ E K D L C:=fun b w hf' hs=>by
 have B:=St.kj _ hn hC hs
 have F:St E.S E.w0 (bo (aU f ms asl)::X::C1) w:=B.perm (List.Perm.swap _ _ _)
 have G:St E.S E.w0 (aU f (m::ms) (a::asl)++C1) w:=by
  show St E.S E.w0 ((f m a++aU f ms asl)++C1) w
  rw [hf]
  exact F.ig.perm (List.perm_middle (a:=X) (l₁:=aU f ms asl) (l₂:=C1))
 exact h b w hf' G.tied
end
section
open Go.RowKit
abbrev lS (r:Nat):av:=lg r (.deferred (some []))
theorem Mt (rs:List Nat):(bo (rs.map lS)).wr=true:=by
 show (rs.map lS).all (·.wr)=true
 rw [fc]
 intro X hX
 obtain ⟨r,_,rfl⟩:=List.mem_map.1 hX
 rfl
theorem vG {E:ff} {c:Code} {Q:cZ} {D:List Deferred} {L:List (Nat×Value)} {C:List av} {ι:Type} (Di:ι→List Deferred) (Li:ι→List (Nat×Value)) (Ci:ι→List av) (μ:ι→Nat) (x0:ι)
 (hD:D=Di x0) (h0:dx L (Li x0)) (hC: ∀ w,St E.S E.w0 C w→St E.S E.w0 (Ci x0) w)
 (round: ∀ x (J:Act→World→Prop),(∀ y D' L' C',D'=Di y→μ y<μ x→dx L' (Li y)→(∀ w,St E.S E.w0 C' w→St E.S E.w0 (Ci y) w)→KJ E J D' L' C')→WJ E c (Exit.then J Q) (Di x) (Li x) (Ci x)):WJ E (.loop c) Q D L C:=by
 intro a w hf hs
 subst hD
 have H: ∃ x,Fr E.n (Di x) (Li x) a∧St E.S E.w0 (Ci x) w:=⟨x0,hf.sub h0,hC w hs⟩
 clear hf hs
 have key: ∀ (m:Nat) (a:Act) (w:World),(∃ x,μ x=m∧Fr E.n (Di x) (Li x) a∧St E.S E.w0 (Ci x) w)→(Code.loop c).wpIn (Fw E.r) 0 E.P Q a w:=by
  intro m a w hx
  refine wpIn_loop (fun a w=> ∃ x,Fr E.n (Di x) (Li x) a∧St E.S E.w0 (Ci x) w) (fun a w=>leastOf fun k=> ∃ x,μ x=k∧Fr E.n (Di x) (Li x) a∧St E.S E.w0 (Ci x) w) (by obtain ⟨x,_,h⟩:=hx; exact ⟨x,h⟩) ?_
  intro a w hx
  have F: ∃ k,∃ x,μ x=k∧Fr E.n (Di x) (Li x) a∧St E.S E.w0 (Ci x) w:=by obtain ⟨x,h⟩:=hx; exact ⟨_,x,rfl,h⟩
  obtain ⟨x,K,AA,M⟩:=(leastOf_spec F).1
  refine round x _ ?_ a w AA M
  intro y D' L' C' hD G A B a' w' hf' hs'
  subst hD
  refine ⟨⟨y,hf'.sub A,B _ hs'⟩,?_⟩
  rw [← K]
  exact Nat.lt_of_le_of_lt ((leastOf_spec ⟨_,y,U,hf'.sub A,B _ hs'⟩).2 _ ⟨y,U,hf'.sub A,B _ hs'⟩) G
 obtain ⟨x,h⟩:=H
 exact key _ a w ⟨x,U,h⟩
theorem St.Ue {S:BS} {w0 w:World} {C X:List av} {A:av} (h:St S w0 (A::bo X::C) w):St S w0 (bo (A::X)::C) w:=by
 have B:St S w0 (bo X::A::C) w:=h.perm (List.Perm.swap _ _ _)
 have D:St S w0 ((A::X)++C) w:=B.ig.perm (List.perm_middle (a:=A) (l₁:=X) (l₂:=C))
 exact D.tied
theorem I5 {E:ff} {K:Act→World→Prop} {D:List Deferred} {L:List (Nat×Value)} {C C1 X:List av} {A:av} (i j:Nat) (hn:decide (j::i::(List.range C.length).filter fun k=>k != i&&k != j).Nodup=true) (hC:kj C (j::i::(List.range C.length).filter fun k=>k != i&&k != j)=A::bo X::C1)
 (h:KJ E K D L (bo (A::X)::C1)):KJ E K D L C:=fun a w hf hs=>h a w hf ((St.kj _ hn hC hs).Ue)
theorem D8 {E:ff} {K:Act→World→Prop} {D:List Deferred} {L:List (Nat×Value)} {C:List av} (h:KJ E K D L (bo []::C)):KJ E K D L C:=fun a w hf hs=>h a w hf hs.Pj
theorem PS {E:ff} {K:Act→World→Prop} {D:List Deferred} {L:List (Nat×Value)} (C1 C2:List av) (h:KJ E K D L (bo C1::C2)):KJ E K D L (C1++C2):=fun a w hf hs=>h a w hf (St.tied hs)
theorem MH {E:ff} {fn:Func} {R:Ending→World→Prop} {D:List Deferred} {L:List (Nat×Value)} {C C1:List av} {rs:List Nat} (i:Nat) (hn:decide (i::(List.range C.length).filter fun k=>k != i).Nodup=true) (hC:kj C (i::(List.range C.length).filter fun k=>k != i)=bo (rs.map lS)::C1)
 (h:LJ E fn R D L C1):LJ E fn R (rs.map lq++D) L C:=by
 have key: ∀ rs:List Nat,LJ E fn R (rs.map lq++D) L (bo (rs.map lS)::C1):=by
  intro rs
  induction rs with
  |nil=>exact fun a w hf hs=>h a w hf (hs.take (List.sublist_cons_self _ _))
  |cons r rs ih=>
   have A:LJ E fn R (lq r::(rs.map lq++D)) L (lS r::bo (rs.map lS)::C1):=ou 0 rfl rfl (fun a w hf hs=>ih a w hf (hs.take (List.sublist_cons_self _ _)))
   intro a w hf hs
   refine A a w hf ?_
   have B:St E.S E.w0 ((lS r::rs.map lS)++C1) w:=St.ig (C1:=lS r::rs.map lS) hs
   have F:St E.S E.w0 (rs.map lS++(lS r::C1)) w:=B.perm (List.perm_middle (a:=lS r) (l₁:=rs.map lS) (l₂:=C1)).symm
   exact F.tied.perm (List.Perm.swap _ _ _)
 exact fun a w hf hs=>key rs a w hf (St.kj _ hn hC hs)
theorem Kb {E:ff} {fn:Func} {R:Ending→World→Prop} {L:List (Nat×Value)} {C C1:List av} {rs:List Nat} (i:Nat) (hn:decide (i::(List.range C.length).filter fun k=>k != i).Nodup=true) (hC:kj C (i::(List.range C.length).filter fun k=>k != i)=bo (rs.map lS)::C1)
 (h:LJ E fn R [] L C1):LJ E fn R (rs.map lq) L C:=by
 have:=MH (D:=[]) i hn hC h
 rwa [List.append_nil] at this
end
section
open Go.RowKit
theorem LC (fs:List FM) (fb:List Nat):(bo (aU nM fs fb)).wr=true:=by
 show (aU nM fs fb).all (·.wr)=true
 rw [fc]
 intro X hX
 obtain ⟨k,m,a,_,_,h⟩:=jJ hX
 simp only [nM,bW] at h
 subst h; rfl
theorem Rk (fs:List TM) (fb:List Nat):(bo (aU rh fs fb)).wr=true:=by
 show (aU rh fs fb).all (·.wr)=true
 rw [fc]
 intro X hX
 obtain ⟨k,m,a,_,_,h⟩:=jJ hX
 simp only [rh,bW] at h
 subst h; rfl
end
section
def eB (bl:List Nat) (n:Nat):List (Option Nat):=bl.map some++List.replicate (n-bl.length) none
def gX (bl:List Nat) (n:Nat):List (Option Nat):=List.replicate (n-bl.length) none++bl.map some
theorem qU {bl:List Nat} {n:Nat} (h:bl.length≤n):(eB bl n).length=n:=by simp [eB]; omega
theorem zy {bl:List Nat} {n:Nat} (h:bl.length≤n):(gX bl n).length=n:=by simp [gX]; omega
theorem za {n:Nat}:List.replicate n none=eB [] n:=by simp [eB]
theorem GZ {n:Nat}:List.replicate n none=gX [] n:=by simp [gX]
theorem yH {bl:List Nat} {n:Nat} (h:bl.length=n):eB bl n=bl.map some:=by simp [eB,h]
theorem Ha {bl:List Nat} {n:Nat} (h:bl.length=n):gX bl n=bl.map some:=by simp [gX,h]
theorem oO {bl:List Nat} {n k g:Nat} (h:bl[k]? =some g):(eB bl n)[k]? =some (some g):=by
 have hk:=(List.getElem?_eq_some_iff.1 h).1
 unfold eB
 rw [List.getElem?_append_left (by simpa using hk),fB,h]; rfl
theorem sW {bl:List Nat} {n k i g:Nat} (h:bl[i]? =some g) (hk:k=n-bl.length+i):(gX bl n)[k]? =some (some g):=by
 subst hk
 unfold gX
 rw [List.getElem?_append_right sm,fB,List.length_replicate,Nat.add_sub_cancel_left,h]; rfl
theorem tQ {bl:List Nat} {n k g:Nat} (hk:k=bl.length) (h:bl.length<n):(eB bl n).set k (some g)=eB (bl++[g]) n:=by
 subst hk
 unfold eB
 rw [List.set_append_right _ _ sm]
 have e:n-bl.length=(n-(bl++[g]).length)+1:=by simp; omega
 rw [e,List.replicate_succ]
 simp
theorem HB {bl:List Nat} {n k g:Nat} (hk:k+1+bl.length=n):(gX bl n).set k (some g)=gX (g::bl) n:=by
 unfold gX
 have e:n-bl.length=k+1:=by omega
 have A:n-(g::bl).length=k:=by simp; omega
 rw [e,A,List.set_append_left _ _ sm,List.replicate_succ',List.set_append_right _ _ sm]
 simp
theorem rr {l:List (Option Nat)} {k g:Nat} (h:l[k]? =some (some g)):(l.map oC)[k]? =some (oC (some g)):=by rw [fB,h]; rfl
theorem z8 {α:Type} {l:List α} {x:α} {k:Nat} (h:k=l.length):(l++[x])[k]? =some x:=by subst h; simp
theorem IG {α:Type} {l:List α} {x y:α} {k:Nat} (h:l[k]? =some y):(l++[x])[k]? =some y:=by rw [List.getElem?_append_left (List.getElem?_eq_some_iff.1 h).1]; exact h
structure pO (w:bT) (fs:List FM):Prop where
 all: ∀ (b:Nat) m,fs[b]? =some m→tg m (fwd w b)∧(m.map (·.1)).Nodup
structure g0 (w:bT) (k:Nat) (bs:List FM):Prop where
 all: ∀ (i:Nat) m,bs[i]? =some m→vn m (back w (k+i))∧(m.map (·.1)).Nodup
variable {w:bT} {b:Nat} {mb m left:List (aC×Int)} {o:Int×aa} {os:List (Int×aa)} {p:aC×Int}
theorem pO.first:pO w [[(⟨0,0⟩,w.Start)]]:=⟨fun b m h=>by
 match b with
 |0=>simp at h; subst h; exact ⟨Gr,sm⟩
 |n+1=>simp at h⟩
theorem pO.add {fs:List FM} (h:pO w fs) (hl:fs.length=b+1) (hmb:fs[b]? =some mb) (hm:xb w b m) (hd:j3 w b mb m left) (h0:left=[]):pO w (fs++[m]):=⟨fun i x hx=>by
 rcases Nat.lt_or_ge i fs.length with q|q
 ·rw [List.getElem?_append_left q] at hx; exact h.all i x hx
 ·rw [List.getElem?_append_right q] at hx
  have hi:i-fs.length=0:=by
   rcases Nat.eq_zero_or_pos (i-fs.length) with z|z
   ·exact z
   ·rw [List.getElem?_eq_none (by simp; omega)] at hx; cases hx
  rw [hi] at hx
  simp at hx; subst hx
  obtain rfl:i=b+1:=by omega
  have A:=h.all b mb hmb
  exact ⟨Ik A.2 A.1 hm.snd (hd.fin h0),hm.keys⟩⟩
theorem pO.ok {fs:List FM} (h:pO w fs) (hl:fs.length=w.n+1):xw w fs:=⟨hl,fun b m hm=>(h.all b m hm).1,fun b m hm=>(h.all b m hm).2⟩
theorem g0.none_:g0 w b []:=⟨fun i m h=>by simp at h⟩
theorem g0.last (hb:w.n≤b):g0 w b [[(⟨0,0⟩,w.gh)]]:=⟨fun i m h=>by
 match i with
 |0=>simp at h; subst h; exact ⟨Jl om,sm⟩
 |n+1=>simp at h⟩
theorem g0.add {bs:List FM} (h:g0 w (b+1) bs) (hb:b<w.n) (hmb:bs[0]? =some mb) (hm:vz w b m) (hd:jA w b mb m left) (h0:left=[]):g0 w b (m::bs):=⟨fun i x hx=>by
 match i with
 |0=>
  simp at hx; subst hx
  have A:=h.all 0 mb hmb
  exact ⟨JN hb A.2 A.1 hm.snd hm.zero (hd.fin h0),hm.keys⟩
 |n+1=>
  have:=h.all n x (by simpa using hx)
  rw [show b+1+n=b+(n+1) by omega] at this
  exact this⟩
theorem g0.ok {bs:List FM} (h:g0 w 0 bs) (hl:bs.length=w.n+1):ua w bs:=⟨hl,fun b m hm=>by have:=(h.all b m hm).1; rwa [Nat.zero_add] at this,fun b m hm=>(h.all b m hm).2⟩
/-- on the way through one entry's options -/
structure m0 (w:bT) (b:Nat) (mb left m:List (aC×Int)) (p:aC×Int) (os:List (Int×aa)):Prop where
 on:xb w b m
 sN:j3 w b mb m left
 done:iU w b m p os
structure ny (w:bT) (b:Nat) (mb left m:List (aC×Int)) (p:aC×Int) (os:List (Int×aa)):Prop where
 on:vz w b m
 sN:jA w b mb m left
 done:iX w b m p os
theorem m0.start (h:xb w b m) (h2:j3 w b mb m left):m0 w b mb left m p []:=⟨h,h2,fun o ho=>by cases ho⟩
theorem ny.start (h:vz w b m) (h2:jA w b mb m left):ny w b mb left m p []:=⟨h,h2,fun o ho=>by cases ho⟩
theorem HL {q:aC×Int} (h:(m.lookup q.1).isSome=false∨q.2<(m.lookup q.1).getD 0):o3 m q=dK m q.1 q.2:=by
 unfold o3
 cases e:m.lookup q.1 with
 |none=>rfl
 |some v=>rw [e] at h; simp at h; simp only; rw [if_pos h]
theorem DD {q:aC×Int} (h:(m.lookup q.1).isSome=true) (h2: ¬ q.2<(m.lookup q.1).getD 0):o3 m q=m:=by
 unfold o3
 cases e:m.lookup q.1 with
 |none=>rw [e] at h; cases h
 |some v=>rw [e] at h2; simp only [Option.getD_some] at h2; simp only; rw [if_neg h2]
theorem GA {q:aC×Int} (h:(m.lookup q.1).isSome=false∨(m.lookup q.1).getD 0<q.2):oE m q=dK m q.1 q.2:=by
 unfold oE
 cases e:m.lookup q.1 with
 |none=>rfl
 |some v=>rw [e] at h; simp at h; simp only; rw [if_pos h]
theorem Dm {q:aC×Int} (h:(m.lookup q.1).isSome=true) (h2: ¬ (m.lookup q.1).getD 0<q.2):oE m q=m:=by
 unfold oE
 cases e:m.lookup q.1 with
 |none=>rw [e] at h; cases h
 |some v=>rw [e] at h2; simp only [Option.getD_some] at h2; simp only; rw [if_neg h2]
theorem AH {t:aC} {v y:Int} (hy:w.pS[b]? =some y) (h:max (v+y) o.2.Lo≤min o.2.Hi w.gh):kF w b (t,v) o=some (du t (fp o.1),max (v+y) o.2.Lo):=by
 have e:=nu hy
 subst e
 exact I7 h
theorem JJ {t:aC} {v y:Int} (hy:w.pS[b]? =some y) (h: ¬ max (v+y) o.2.Lo≤min o.2.Hi w.gh):kF w b (t,v) o=none:=by
 have e:=nu hy
 subst e
 exact Oa h
theorem Av {t:aC} {v y:Int} (hy:w.pS[b]? =some y) (h:o.2.Lo≤min v o.2.Hi):nN w b (t,v) o=some (du t (fp o.1),min v o.2.Hi-y):=by
 have e:=nu hy
 subst e
 exact Kg h
theorem m0.set {q:aC×Int} (h:m0 w b mb left m p os) (hp:p∈fwd w b) (ho:o∈il w b) (he:kF w b p o=some q) (hs:(m.lookup q.1).isSome=false∨q.2<(m.lookup q.1).getD 0):m0 w b mb left (dK m q.1 q.2) p (os++[o]):=by
 rw [← HL hs]
 exact ⟨h.on.add hp ho he,h.sN.lower vg,h.done.IN he⟩
theorem m0.oi {q:aC×Int} (h:m0 w b mb left m p os) (he:kF w b p o=some q) (hs:(m.lookup q.1).isSome=true) (h2: ¬ q.2<(m.lookup q.1).getD 0):m0 w b mb left m p (os++[o]):=by
 have:=h.done.IN he
 rw [DD hs h2] at this
 exact ⟨h.on,h.sN,this⟩
theorem m0.skip (h:m0 w b mb left m p os) (he:kF w b p o=none):m0 w b mb left m p (os++[o]):=⟨h.on,h.sN,h.done.none_ he⟩
theorem ny.set {q:aC×Int} (hb:b<w.n) (h:ny w b mb left m p os) (hp:p∈back w (b+1)) (ho:o∈il w b) (he:nN w b p o=some q) (hs:(m.lookup q.1).isSome=false∨(m.lookup q.1).getD 0<q.2):ny w b mb left (dK m q.1 q.2) p (os++[o]):=by
 rw [← GA hs]
 exact ⟨h.on.add hb hp ho he,h.sN.upper p5,h.done.IN he⟩
theorem ny.oi {q:aC×Int} (h:ny w b mb left m p os) (he:nN w b p o=some q) (hs:(m.lookup q.1).isSome=true) (h2: ¬ (m.lookup q.1).getD 0<q.2):ny w b mb left m p (os++[o]):=by
 have:=h.done.IN he
 rw [Dm hs h2] at this
 exact ⟨h.on,h.sN,this⟩
theorem ny.skip (h:ny w b mb left m p os) (he:nN w b p o=none):ny w b mb left m p (os++[o]):=⟨h.on,h.sN,h.done.none_ he⟩
theorem m0.next {t:aC} {v:Int} (hn:(left.map (·.1)).Nodup) (hm:(t,v)∈left) (h:m0 w b mb left m (t,v) os) (ho: ∀ o∈il w b,o∈os):j3 w b mb m (cd left t):=h.sN.next hn hm h.done ho
theorem ny.next {t:aC} {v:Int} (hn:(left.map (·.1)).Nodup) (hm:(t,v)∈left) (h:ny w b mb left m (t,v) os) (ho: ∀ o∈il w b,o∈os):jA w b mb m (cd left t):=h.sN.next hn hm h.done ho
theorem pO.mem {fs:List FM} (h:pO w fs) (hm:fs[b]? =some mb) (hp:p∈mb):p∈fwd w b:=(h.all b mb hm).1.1 _ _ ((fy (h.all b mb hm).2).1 hp)
theorem g0.Ul {bs:List FM} {k:Nat} (h:g0 w k bs) (hk:k=b+1) (hm:bs[0]? =some mb) (hp:p∈mb):p∈back w (b+1):=by
 subst hk
 exact (h.all 0 mb hm).1.1 _ _ ((fy (h.all 0 mb hm).2).1 hp)
theorem g0.end_ {bs:List FM} {k j:Nat} (h:g0 w k bs) (hj:bs.length=0) (hk:j=b) (hb:w.n≤b):g0 w j ([(⟨0,0⟩,w.gh)]::bs):=by
 subst hk
 rw [jB hj]
 exact g0.last hb
theorem g0.more {bs:List FM} {k j:Nat} (h:g0 w k bs) (hk:k=b+1) (hj:j=b) (hb:b<w.n) (hmb:bs[0]? =some mb) (hm:vz w b m) (hd:jA w b mb m left) (h0:left=[]):g0 w j (m::bs):=by
 subst hk hj
 exact h.add hb hmb hm hd h0
end
section
open Go.RowKit
theorem j_ {a:OA} {c e sz n:Nat} {es:List (List Value)} (h:es.length=n):L_ (own a c e sz es) (rd a n sz es):=by subst h; exact Nr
theorem tM {L:List av}:L_ (bo L) (e7 L):=⟨fun w h=>h.1,fun b h=>h⟩
theorem M3 {b:Nat} {fb:List Nat} {g:Nat} (h:fb.length=b):aU rh (List.replicate b ([]:TM)) fb++[gZ iV g (bM df [])]=aU rh (List.replicate (b+1) ([]:TM)) (fb++[g]):=by
 rw [List.replicate_succ']
 exact zk (by rw [List.length_replicate]; exact h.symm) U
theorem TE {α:Type} {ms:List α} {fb:List Nat} {n:Nat} (h:fb.length=n) (h2:ms.length=n):List.map oC (eB fb n)=List.zipWith gJ ms fb:=by
 rw [yH h]; exact (zY om).symm
theorem vM {l:bf} {r:cE} {i:Nat} {x:aN} (hx:r.aj[i]? =some x) (h: ¬ kb l r.aj i x): ¬ fh l r:=fun q=>h (q.sig i x hx)
end
section
open Go.RowKit
theorem se (ln:bK) (ri:eK) (e:List Int) (tms:List TM) (e_A:OA) (e_C:Nat) (tb:List Nat) (t_A:OA) (t_C:Nat) (fA:OA) (fN fC:Nat) (bA:OA) (bN bC:Nat) (gw b:Nat) (g1 g2:Nat) (hb:b<tms.length) (htb:tb.length=tms.length):
 Ej Tryz.prog 212 [] [(vP g1),(vP g2)] [(rd e_A e.length 1 (e.map iC)),(rd t_A tms.length 1 (List.zipWith gJ tms tb)),(e7 (aU rh tms tb)),(bZ gw 270 (ck.cells (ck.mk ln ri (aM.mk e_A e.length e_C) (aM.mk t_A tms.length t_C) (aM.mk fA fN fC) (aM.mk bA bN bC)))),(bZ g1 259 [(vP gw)]),(bZ g2 3 [(vI (b:Int))])] ([]:List (Int×aa)) (fun ys x ys'=> ∃ o,o∈il (cK ln ri e tms) b∧x=OT o∧ys'=ys++[o]) (fun ys=> ∀ o∈il (cK ln ri e tms) b,o∈ys):=by
 refine sX kr Tryz.func212 U U fun l J Z A0 d Q hY V AA hQ hN=>?_
 try dsimp only
 refine al fun _ X=>al fun _ R=>dF cD 12 kr<|mI 2 [] (mr 5 U I) U<|dS (SX (bQ U U) U U)<|mI 4 [0,1] (mr 4 U (mr 5 U I)) U<|dS (SX (bQ U U) U U)<|dP 3 [] (mr 4 U I) ?_
 refine dS (SX (bj (xs:=[(0,.tmp 11),(1,.tmp 16)]) (cs:=(aa.cells (aa.mk ri.Start ri.gh))) U U (bh gl U)) U U)<|cO<|kB (k:=([]:List (Int×aa))) (k':=(([]:List (Int×aa))++[((-1),(aa.mk ri.Start ri.gh))])) 0 (by first|exact hsz|exact Nat.le_refl _) hY V AA U U U (by exact ⟨(-1,⟨ri.Start,ri.gh⟩),cm ..,U,U⟩) U U (fun B3 N M=>?_) (fun B3 N M=>?_)
 rotate_left 1
 ·refine rP 1 [] I ?_
  refine RK R<|aP U<|ar ?_
  refine hQ _ _ _ (gW (vs:=[]) trivial fun w hs=>rI 0 U N M hs)
 refine bg 1 U<|RK R<|aV U<|WK X<|al fun _ Y=>dF cD 7 kr<|mI 1 [] (mr 5 U I) U<|dS (SX (bQ U U) U U)<|dP 3 [0,1] (mr 4 U (mr 6 U I)) ?_
 obtain ⟨x,hx⟩:=aO tms b om
 obtain ⟨xa,L⟩:=aO tb b om
 have a:(List.zipWith gJ tms tb)[b]? =some (gJ x xa):=dZ hx L
 refine dS (IA b U (aG 2 U) FC dc om om)<|dS (gF b 0 (Value.map (some xa)) U cq (aG 2 U) a U dc U)<|cO<|iI (kV:=iV) (m:=bM df x) 3 U U lF U ⟨⟨(gZ iV xa (bM df x)),(cj hx L (by simp [rh])),U⟩,fun h=>h⟩ (show jc _ (gZ iV xa (bM df x)).holds from dy 3 U (cj hx L (by simp [rh]))) U fun j=>?_
 try dsimp only
 refine RK Y<|aw ?_
 have G:(∀ o∈x,o∈x∨o∈(([]:List (Int×aa))++[((-1),(aa.mk ri.Start ri.gh))]))∧(∀ o∈x,o∈x)∧(J (([]:List (Int×aa))++[((-1),(aa.mk ri.Start ri.gh))]) B3)∧(Fo A0 d B3)∧((-1,(⟨ri.Start,ri.gh⟩:aa))∈(([]:List (Int×aa))++[((-1),(aa.mk ri.Start ri.gh))])):=by exact ⟨fun o ho=> .inl ho,fun o ho=>ho,asm,asm,sm⟩
 refine bO (ι:={z:TM×(List (Int×aa))×av // (∀ o∈x,o∈z.1∨o∈z.2.1)∧(∀ o∈z.1,o∈x)∧(J z.2.1 z.2.2)∧(Fo A0 d z.2.2)∧((-1,(⟨ri.Start,ri.gh⟩:aa))∈z.2.1)}) [0,1,2,27] [2,3,4,6,7] U U (fun z=>[]) (fun z=>[(yd iV j xa (bM df x) (bM df z.1.1) none),z.1.2.2]) (fun _=>rfl) (fun _=>rfl) (fun z=>z.1.1.length) ⟨(x,(([]:List (Int×aa))++[((-1),(aa.mk ri.Start ri.gh))]),B3),G⟩ (dx.nil _) (aK [2,3,4,6,7,0,1]) ?_
 clear G
 rintro ⟨⟨left,ys,A⟩,⟨B,C,D,E,F⟩⟩ J8 W
 try dsimp only at B C D E F
 try dsimp only
 refine WS fun _ S=>g8 (dB od).inj (f:=df) 5 U U U U (fun T=>?_) (fun i z hm hn=>?_)
 ·refine rP 1 [] I ?_
  refine RK S<|al fun _ c=>aV U<|bB<|ae<|ae<|ax ?_
  refine hN _ _ _ (gW (vs:=[]) trivial fun w hs=>KS 6 U (by exact HA hx B T F) D E hs)
 try dsimp only
 refine bg 1 U<|RK S<|al fun _ O=>aP U<|WK O<|aw<|WS fun _ P=>rS (SX (g7 5 U U U) U U)<|bg 2 U<|AL U dg fun g=>bg 1 U<|fR U cu U<|RK P<|WS fun _ K=>rP 3 [] (mc 0 U I) ?_
 refine kB (k:=ys) (k':=(ys++[(i,z)])) 7 (by first|exact hsz|exact Nat.le_refl _) hY D E U U U (by exact ⟨(i,z),(wJ hx).2 (.inr (C _ hm)),U,U⟩) U U (fun B15 AB H=>?_) (fun B15 AB H=>?_)
 rotate_left 1
 ·refine rP 1 [] I ?_
  refine RK K<|aP U<|ar ?_
  refine hQ _ _ _ (gW (vs:=[]) trivial fun w hs=>rI 7 U AB H hs)
 refine rP 1 [] I ?_
 refine RK K<|aV U<|bY<|aD<|fm 6 U dA U ?_
 refine aT (W ⟨((cd left i),(ys++[(i,z)]),B15),⟨G1 hn hm B,mj C,asm,asm,by simp [F]⟩⟩ _ _ _ U (cW hm) (aQ U) (aK [1,2,3,4,5,6,7]))
theorem um (gw b:Nat):
 lv Tryz.prog 204 [(vP gw),(vI (b:Int))] [] (fun (x:Nat×Nat)=>(Value.func (.func 212) [].toArray [(Value.pointer (some ⟨x.1,0,none⟩)),(Value.pointer (some ⟨x.2,0,none⟩))].toArray)) (fun (x:Nat×Nat)=>True) (fun (x:Nat×Nat)=>[(bZ x.1 259 [(vP gw)]),(bZ x.2 3 [(vI (b:Int))])]):=by
 refine dp kr Tryz.func204 U U fun E Q hQ hN=>?_
 try dsimp only
 refine WS fun _ A=>uy U U fun C=>uy U U fun D=>bg 1 U<|RK A<|WS fun _ B=>rS (FU U)<|rP 1 [] I ?_
 refine RK B<|ar<|LX hQ (C,D) [1,0] [] I U U U U ?_
 trivial
theorem H8 (gw b:Nat):
 lv Tryz.prog 199 [(vP gw),(vI (b:Int))] [] (fun (x:Nat×Nat)=>(Value.func (.func 203) [].toArray [(Value.pointer (some ⟨x.1,0,none⟩)),(Value.pointer (some ⟨x.2,0,none⟩))].toArray)) (fun (x:Nat×Nat)=>True) (fun (x:Nat×Nat)=>[(bZ x.1 259 [(vP gw)]),(bZ x.2 3 [(vI (b:Int))])]):=by
 refine dp kr Tryz.func199 U U fun E Q hQ hN=>?_
 try dsimp only
 refine WS fun _ A=>uy U U fun C=>uy U U fun D=>bg 1 U<|RK A<|WS fun _ B=>rS (FU U)<|rP 1 [] I ?_
 refine RK B<|ar<|LX hQ (C,D) [1,0] [] I U U U U ?_
 trivial
end
section
open Go.RowKit
theorem oZ:uq Tryz.prog 276 ep:=Ob Ok (fun x y w=>Qi 9998 x y w) (fun x y h=>by cases x; cases y; simp [aC.cells] at h; simp [h]) (fun x=>by simp [aC.cells,Instr.sameBits]) (fun x w=>⟨_,rfl,fun p hp=>by
 simp only [eA,List.not_mem_nil,or_false] at hp
 rcases hp with rfl|rfl
 ·exact ⟨⟨_,jW cq U w⟩,_,od⟩
 ·exact ⟨⟨_,jW cq U w⟩,_,od⟩⟩)
theorem Jc (s:Int):
 ej Tryz.prog 207 [(vI s)] [] (vA (aC.cells (fp s))):=by
 refine bI kr Tryz.func207 U U fun H Q hQ hN=>?_
 try dsimp only
 refine WS fun _ B=>AL U tO fun G=>RK B<|al fun _ C=>WS fun _ D=>rP 2 [] I ?_
 refine RK D<|cM U (aS fun A=>?_) (aR fun A=>?_)
 ·refine WS fun _ E=>rS (SX (bj (xs:=[(1,.const (vI 1))]) (cs:=(aC.cells (aC.mk 0 1))) U U (bh Bb U)) U U)<|fR U ru U<|RK E<|ar<|H2 hQ [0] (mc 0 U I) U ?_
  unfold fp; first|rw [if_pos A]|rw [if_neg A]
 refine WK C<|WS fun _ F=>rS (SX (bj (xs:=[(0,.const (vI 1))]) (cs:=(aC.cells (aC.mk 1 0))) U U (bh Bb U)) U U)<|fR U ru U<|RK F<|ar<|H2 hQ [0] (mc 0 U I) U ?_
 unfold fp; first|rw [if_pos A]|rw [if_neg A]
theorem vY (x:aC) (y:aC) (hx:(0≤x.right∧x.right≤1000)∧0≤x.eU∧x.eU≤1000) (hy:(0≤y.right∧y.right≤1000)∧0≤y.eU∧y.eU≤1000):
 ej Tryz.prog 206 [(vA (aC.cells x)),(vA (aC.cells y))] [] (vA (aC.cells (du x y))):=by
 refine bI kr Tryz.func206 U U fun F Q hQ hN=>?_
 try dsimp only
 refine WS fun _ A=>fV U fun C=>fV U fun D=>AL U tO fun E=>RK A<|WS fun _ B=>rP 10 [0,1,0,1] (mc 2 U (mc 1 U I)) ?_
 refine rS (SX (bj (xs:=[(0,.tmp 9),(1,.tmp 14)]) (cs:=(aC.cells (aC.mk (x.right+y.right) (x.eU+y.eU)))) U U (bh Bb U)) U U)<|fR U ru U<|RK B<|ar ?_
 exact H2 hQ [0] (mc 0 U I) U U
theorem OR (ln:bK) (ri:eK) (e:List Int) (tms:List TM) (e_A:OA) (e_C:Nat) (tb:List Nat) (t_A:OA) (t_C:Nat) (fs:List FM) (bs:List FM) (fb:List Nat) (f_A:OA) (f_C:Nat) (bb:List Nat) (b_A:OA) (b_C gw:Nat) (x:aC) (hx:(0≤x.right∧x.right≤1000)∧0≤x.eU∧x.eU≤1000) (hn:ri.aj.n≤1000):
 ej Tryz.prog 205 [(vP gw),(vA (aC.cells x))] [(rd e_A e.length 1 (e.map iC)),(rd t_A tms.length 1 (List.zipWith gJ tms tb)),(e7 (aU rh tms tb)),(rd f_A fs.length 1 (List.zipWith gJ fs fb)),(e7 (aU nM fs fb)),(rd b_A bs.length 1 (List.zipWith gJ bs bb)),(e7 (aU nM bs bb)),(bZ gw 270 (ck.cells (ck.mk ln ri (aM.mk e_A e.length e_C) (aM.mk t_A tms.length t_C) (aM.mk f_A fs.length f_C) (aM.mk b_A bs.length b_C))))] (vB (kq (cK ln ri e tms) x)):=by
 refine bI kr Tryz.func205 U U fun E Q hQ hN=>?_
 try dsimp only
 refine WS fun _ C=>fV U fun D=>bg 1 U<|RK C<|al fun _ B=>dF cD 26 kr<|mI 3 [] (mc 0 U I) U<|dS (SX (bQ U U) U U)<|dP 5 [] (mr 8 U I) ?_
 refine jk (t:=13) U (aR fun A=>?_) (aS fun A=>?_)
 ·refine dP 17 [] I ?_
  refine cO<|RK B<|ar<|Q1 hQ U U U ?_
  exact cB (cr (fun h=>A h.1)).symm
 refine lz 1 U<|dS (SX (bQ U U) U U)<|mI 8 [0,1] (mr 8 U (mc 0 U I)) U<|dS (SX (bQ U U) U U)<|dP 6 [] (mr 8 U I) ?_
 refine cO<|RK B<|ar<|Q1 hQ U U U ?_
 exact cB (decide_eq_decide.2 ⟨fun h=>⟨A,h⟩,fun h=>h.2⟩)
end
end Go.Proofs.YtdllkkdchkhimaaGreatDoor
