/-
 The statement raceTable_said, part 5 of 8: RaceV, RankP, OrdX, TabP, NestS, Grp, Twin, Fresh, Rep, Ex6, Win6, BoolC, RaceR, Tied6, Sel6, Rep6, Tab7, Bits, B1, Rc1, Rs5, CloneM, Rs1, S2, Rs2, MapD, B4, B2, B3, B5, B6, Frozen, MarkD, Marks, Follow.
 Conditions: none.
-/
import Derived.Test.YtadjgjnicdcjbaaGreatDoorTy1
import Derived.Test.YtadjgjnicdcjbaaGreatDoorTy2
import Derived.Test.YtadjgjnicdcjbaaGreatDoorTy3
import Derived.Test.YtadjgjnicdcjbaaGreatDoorTy4
import Derived.KernelRfl
import Derived.MapKept
import Derived.Laws.Externs
namespace Go.Proofs.YtadjgjnicdcjbaaGreatDoor
set_option maxRecDepth 100000
set_option maxHeartbeats 4000000
set_option linter.unusedVariables false
section
def aA (m:gX) (i:Int):aa:=(m.lookup i).getD dw
def rv (r:bT) (i:Int):Prop:=0≤i∧i≤(r.aQ.length:Int)-1
instance (r:bT) (i:Int):Decidable (rv r i):=by unfold rv; infer_instance
noncomputable def jI (r:bT) (i:Int):Int:=if cK r=0 then (if rv r i then (if (aF r).lookup i=none then 6 else 0) else 2) else cK r
noncomputable def py (r:bT) (i:Int):aa:=if jI r i=0 then aA (aF r) i else dw
noncomputable def mu (r:bT) (a b:Int):Int:=if cK r=0 then (if rv r a∧rv r b∧a≠b then (if (aF r).lookup a=none∨(aF r).lookup b=none then 6 else 0) else 2) else cK r
def vz (s t:aa):Int:=if s.Hi<t.Lo then 2 else if s.Lo<t.Hi then 1 else 0
def qo (s t:aa):Int:=if s=t∧s.Lo=s.Hi then 2 else if s.Lo≤t.Hi∧t.Lo≤s.Hi then 1 else 0
noncomputable def oq (r:bT) (a b:Int):Int:=if mu r a b=0 then vz (aA (aF r) a) (aA (aF r) b) else 0
noncomputable def pP (r:bT) (a b:Int):Int:=if mu r a b=0 then qo (aA (aF r) a) (aA (aF r) b) else 0
noncomputable def gP (r:bT) (i:Int):List Int:=if jI r i=0 then c_ (aF r) i (aA (aF r) i) else []
noncomputable def mN (r:bT) (h i:Int):Int:=if cK r=0 then (if (0≤h∧h≤(r.ay.length:Int)-1)∧rv r i then (if ((r.ay[h.toNat]?).bind (·[i.toNat]?)).any (·.Out)=true then 6 else 0) else 2) else cK r
noncomputable def hZ (r:bT) (h i:Int):aa:=if mN r h i=0 then ((((r.ay[h.toNat]?).bind (·[i.toNat]?)).map (dx r.ao)).getD dw) else dw
noncomputable def uB (r:bT) (h:Nat):List Int:=let l:=ep (fun i=>(aA (eB r h) i).Hi) (r.bQ.filter fun i=>((eB r h).lookup i).isSome); rF (min r.iI.toNat l.length) l
noncomputable def iF (r:bT) (h:Int):Int:=if cK r=0 then (if 0≤h∧h≤(r.ay.length:Int) then 0 else 2) else cK r
noncomputable def g6 (r:bT) (h:Int):List Int:=if iF r h=0 then (if h=0 then r.bQ else uB r h.toNat) else []
section
variable {r:bT} {i a b:Int}
theorem um {m:gX} {i:Int} (h:(m.lookup i).isSome=true): ¬ m.lookup i=none:=fun e=>by rw [e] at h; cases h
theorem uu {m:gX} {i:Int} (h:(m.lookup i).isSome=false):m.lookup i=none:=by cases e:m.lookup i with |none=>rfl|some v=>rw [e] at h; cases h
theorem uJ (h:jI r i=0):cK r=0∧rv r i∧(aF r).lookup i≠none:=by
 unfold jI at h
 split at h
 ·split at h
  ·split at h
   ·cases h
   ·exact ⟨asm,asm,asm⟩
  ·cases h
 ·exact absurd h asm
theorem zE (h:mu r a b=0):cK r=0∧(rv r a∧rv r b∧a≠b)∧(aF r).lookup a≠none∧(aF r).lookup b≠none:=by
 unfold mu at h
 split at h
 ·split at h
  ·split at h
   ·cases h
   ·rename_i _ _ q
    exact ⟨asm,asm,fun e=>q (.inl e),fun e=>q (.inr e)⟩
  ·cases h
 ·exact absurd h asm
theorem uK {k:Nat} {p:Int×aa} (h:p∈eB r k): ∃ q:Nat,q<r.aQ.length∧p.1=(q:Int)∧fJ r.ao r.ay q k=some p.2:=by
 unfold eB at h
 obtain ⟨q,hq,e⟩:=List.mem_filterMap.1 h
 obtain ⟨s,hs,rfl⟩:=Option.map_eq_some_iff.1 e
 exact ⟨q,List.mem_range.1 hq,U,hs⟩
theorem FL {k:Nat} (h:cK r=0) (hk:k≤r.ay.length): ∀ p∈eB r k,0≤p.2.Lo∧p.2.Lo≤p.2.Hi∧p.2.Hi≤30000000:=fun p hp=>by
 obtain ⟨q,_,_,hs⟩:=uK hp
 have A:=Ai (iG h).2.Ay hk hs
 have B:=(iG h).2.nh
 omega
theorem nH (h:cK r=0): ∀ p∈aF r,0≤p.2.Lo∧p.2.Lo≤p.2.Hi∧p.2.Hi≤30000000:=FL h (Nat.le_refl _)
theorem uD {k:Nat}:(eB r k).length≤r.aQ.length:=by
 unfold eB
 refine Nat.le_trans (List.length_filterMap_le _ _) ?_
 rw [List.length_range]; exact Nat.le_refl _
theorem mg (h:cK r=0):(aF r).length≤5:=by
 have A:=uD (r:=r) (k:=r.ay.length)
 have B:=(iG h).2.num
 unfold aF; omega
theorem MY {s t:aa}:(if decide (s.Hi<t.Lo)=true then (2:Int) else if decide (s.Lo<t.Hi)=true then 1 else 0)=vz s t:=by simp only [decide_eq_true_eq]; rfl
theorem Ij {s t:aa} (h:s=t):(if decide (max s.Lo t.Lo=min s.Hi t.Hi)=true then (2:Int) else if decide (max s.Lo t.Lo≤min s.Hi t.Hi)=true then 1 else 0)=qo s t:=by
 subst h
 simp only [decide_eq_true_eq,qo,Int.max_self,Int.min_self,true_and,and_self]
theorem NF {s t:aa} (hs:s.Lo≤s.Hi) (ht:t.Lo≤t.Hi) (h: ¬ s=t):(if false=true then (2:Int) else if decide (max s.Lo t.Lo≤min s.Hi t.Hi)=true then 1 else 0)=qo s t:=by
 unfold qo
 rw [if_neg dc,if_neg (fun q:s=t∧s.Lo=s.Hi=>h q.1)]
 by_cases c:s.Lo≤t.Hi∧t.Lo≤s.Hi
 ·rw [if_pos c,if_pos (fI I)]
 ·rw [if_neg c,if_neg (by rw [decide_eq_true_eq]; omega)]
theorem LU (h: ¬ cK r=0):jI r i=cK r:=if_neg h
theorem Iq (h:cK r=0) (hi: ¬ (0≤i∧i≤(r.aQ.length:Int)-1)):jI r i=2:=by unfold jI; rw [if_pos h,if_neg (show ¬ rv r i from hi)]
theorem zC (h:cK r=0) (hi:0≤i∧i≤(r.aQ.length:Int)-1) (hl:((aF r).lookup i).isSome=false):jI r i=6:=by unfold jI; rw [if_pos h,if_pos (show rv r i from hi),if_pos (uu hl)]
theorem FV (h:cK r=0) (hi:0≤i∧i≤(r.aQ.length:Int)-1) (hl:((aF r).lookup i).isSome=true):jI r i=0:=by unfold jI; rw [if_pos h,if_pos (show rv r i from hi),if_neg (um hl)]
theorem Lf (h: ¬ cK r=0):mu r a b=cK r:=if_neg h
theorem By (h:cK r=0) (hi: ¬ ((0≤a∧a≤(r.aQ.length:Int)-1)∧(0≤b∧b≤(r.aQ.length:Int)-1)∧a≠b)):mu r a b=2:=by unfold mu; rw [if_pos h,if_neg (show ¬ (rv r a∧rv r b∧a≠b) from hi)]
theorem zf (h:cK r=0) (hi:(0≤a∧a≤(r.aQ.length:Int)-1)∧(0≤b∧b≤(r.aQ.length:Int)-1)∧a≠b) (hl:((aF r).lookup a).isSome=false∨((aF r).lookup b).isSome=false):mu r a b=6:=by
 unfold mu; rw [if_pos h,if_pos (show rv r a∧rv r b∧a≠b from hi),if_pos (hl.imp uu uu)]
theorem Nt (h:cK r=0) (hi:(0≤a∧a≤(r.aQ.length:Int)-1)∧(0≤b∧b≤(r.aQ.length:Int)-1)∧a≠b) (h1:((aF r).lookup a).isSome=true) (h2:((aF r).lookup b).isSome=true):mu r a b=0:=by
 unfold mu; rw [if_pos h,if_pos (show rv r a∧rv r b∧a≠b from hi),if_neg (fun q=>q.elim (um h1) (um h2))]
end
end
section
abbrev p8:=List (Int×Bool)
def iP (m:p8) (P:Int→Prop):Prop:=(m.map (·.1)).Nodup∧ ∀ k,k∈m.map (·.1)↔P k
section
variable {m:p8} {P Q:Int→Prop} {k:Int}
theorem iP.yl (h:iP m P) (e: ∀ k,P k↔Q k):iP m Q:=⟨h.1,fun k=>(h.2 k).trans (e k)⟩
theorem Ml (h: ∀ k,¬ P k):iP [] P:=⟨List.Pairwise.nil,fun k=>⟨fun q=>by simp at q,fun q=>absurd q (h k)⟩⟩
theorem GV:k∈m.map (·.1)↔(m.lookup k).isSome=true:=by
 induction m with
 |nil=>simp
 |cons p m ih=>
  obtain ⟨a,b⟩:=p
  by_cases e:k=a
  ·subst e; simp [List.lookup]
  ·have:(k==a)=false:=by simpa using e
   simp only [List.map_cons,d_,e,false_or,List.lookup,this]
   exact ih
theorem Ir {b:Bool} (h:iP m P) (hk: ¬ P k):iP (dL m k b) fun q=>P q∨q=k:=by
 have hn:(m.lookup k).isSome=false:=by
  rw [Bool.eq_false_iff]
  exact fun q=>hk ((h.2 k).1 (GV.2 q))
 unfold dL
 rw [hn]
 simp only [Bool.false_eq_true,if_false]
 refine ⟨?_,fun q=>?_⟩
 ·rw [List.map_append]
  refine List.nodup_append.2 ⟨h.1,sm,fun a ha b hb e=>?_⟩
  simp at hb
  subst hb; subst e
  exact hk ((h.2 _).1 ha)
 ·rw [List.map_append,kB,h.2 q]
  simp
theorem Ce (h:iP m P):iP (cp m k) fun q=>P q∧q≠k:=by
 have hs:((cp m k).map (·.1)).Sublist (m.map (·.1)):=List.Sublist.map _ List.filter_sublist
 refine ⟨h.1.sublist hs,fun q=>?_⟩
 constructor
 ·intro hq
  obtain ⟨p,hp,rfl⟩:=List.mem_map.1 hq
  obtain ⟨A,B⟩:=j3.1 hp
  exact ⟨(h.2 _).1 (List.mem_map_of_mem A),B⟩
 ·rintro ⟨A,B⟩
  obtain ⟨p,hp,rfl⟩:=List.mem_map.1 ((h.2 q).2 A)
  exact List.mem_map_of_mem (j3.2 ⟨hp,B⟩)
end
/-- two rows that go up and have the same numbers, each once -/
theorem qQ {a b:List Int} (ha:a.Pairwise (· ≤ ·)) (hb:b.Pairwise (· ≤ ·)) (na:a.Nodup) (nb:b.Nodup) (h: ∀ x,x∈a↔x∈b):a=b:=
 rD ((List.perm_ext_iff_of_nodup na nb).2 h) ha hb
def Ka (l:List Int):Nat:=if l.length=2∧l[1]? =l[0]? then 1 else l.length
theorem zA {l:List Int} {x y:Int} (h:l.length=2) (h0:l[0]? =some y) (h1:l[1]? =some x) (e:x=y):Ka l=1:=if_pos ⟨h,by rw [h0,h1,e]⟩
theorem Cm {l:List Int} {x y:Int} (h:l.length=2) (h0:l[0]? =some y) (h1:l[1]? =some x) (e: ¬ x=y):Ka l=l.length:=if_neg fun q=>e (by have:=q.2; rw [h0,h1] at this; exact Option.some.inj this)
theorem Ll (a b:Int):(a=b∧Ka (df [a,b])=1)∨(¬ a=b∧Ka (df [a,b])=2):=by
 have hl:(df [a,b]).length=2:=by simp
 have hp:(df [a,b]).Perm [a,b]:=fx
 match hs:df [a,b],hl with
 |[x,y],_=>
  rw [hs] at hp
  by_cases e:a=b
  ·subst e
   left
   refine ⟨U,zA U U U ?_⟩
   have A:x∈[a,a]:=hp.mem_iff.1 sm
   have B:y∈[a,a]:=hp.mem_iff.1 sm
   simp at A B; omega
  ·right
   refine ⟨e,(Cm (x:=y) (y:=x) U U U fun q=>?_).trans U⟩
   subst q
   have A:=hp.nodup_iff.2 (show [a,b].Nodup by simp [e])
   simp at A
section
variable {m left:gX} {i n x:Int} {y:aa}
theorem lI {p:Int×aa→Bool} (hn:(left.map (·.1)).Nodup) (hm:(x,y)∈left):left.countP p=(cp left x).countP p+(if p (x,y)=true then 1 else 0):=by
 induction left with
 |nil=>cases hm
 |cons q left ih=>
  obtain ⟨a,b⟩:=q
  simp only [List.map_cons,List.nodup_cons] at hn
  rcases List.mem_cons.1 hm with e|hm
  ·cases e
   have A:cp ((x,y)::left) x=left:=by
    unfold cp
    rw [List.filter_cons_of_neg sm]
    exact List.filter_eq_self.2 fun q hq=>by
     have:q.1≠x:=fun e=>hn.1 (e▸List.mem_map_of_mem hq)
     simpa using this
   rw [A,List.countP_cons]
  ·have B:a≠x:=fun e=>hn.1 (e▸List.mem_map_of_mem (f:=fun z:Int×aa=>z.1) hm)
   have A:cp ((a,b)::left) x=(a,b)::cp left x:=by
    unfold cp
    rw [List.filter_cons_of_pos (by simpa using B)]
   rw [A,List.countP_cons,List.countP_cons,ih hn.2 hm]
   omega
theorem k8:gG left i n=left.countP fun p=>decide (p.2.Hi<n)&& !decide (p.1=i):=by unfold gG mQ; rw [List.countP_filter]
theorem nD:jr left i n=left.countP fun p=>decide (p.2.Lo<n)&& !decide (p.1=i):=by unfold jr mQ; rw [List.countP_filter]
theorem He (hn:(left.map (·.1)).Nodup) (hm:(x,y)∈left) (h:x=i):gG left i n=gG (cp left x) i n:=by
 rw [k8,k8,lI hn hm]; simp [h]
theorem LK (hn:(left.map (·.1)).Nodup) (hm:(x,y)∈left) (h:x=i):jr left i n=jr (cp left x) i n:=by
 rw [nD,nD,lI hn hm]; simp [h]
theorem zh (hn:(left.map (·.1)).Nodup) (hm:(x,y)∈left) (h: ¬ x=i) (hy:y.Hi<n):gG left i n=gG (cp left x) i n+1:=by
 rw [k8,k8,lI hn hm]; simp [h,hy]
theorem CT (hn:(left.map (·.1)).Nodup) (hm:(x,y)∈left) (h: ¬ x=i) (hy: ¬ y.Hi<n):gG left i n=gG (cp left x) i n:=by
 rw [k8,k8,lI hn hm]; simp [h,hy]
theorem Ch (hn:(left.map (·.1)).Nodup) (hm:(x,y)∈left) (h: ¬ x=i) (hy:y.Lo<n):jr left i n=jr (cp left x) i n+1:=by
 rw [nD,nD,lI hn hm]; simp [h,hy]
theorem FE (hn:(left.map (·.1)).Nodup) (hm:(x,y)∈left) (h: ¬ x=i) (hy: ¬ y.Lo<n):jr left i n=jr (cp left x) i n:=by
 rw [nD,nD,lI hn hm]; simp [h,hy]
theorem zy:gG [] i n=0:=rfl
theorem CQ:jr [] i n=0:=rfl
theorem F6:gG m i n≤m.length:=by unfold gG mQ; exact Nat.le_trans List.countP_le_length (List.length_filter_le _ _)
theorem IT:jr m i n≤m.length:=by unfold jr mQ; exact Nat.le_trans List.countP_le_length (List.length_filter_le _ _)
end
def oy {β:Type} (m left:List (Int×β)) (ys:List Int):Prop:=(ys++left.map (·.1)).Perm (m.map (·.1))
theorem vl {β:Type} {m:List (Int×β)}:oy m m []:=List.Perm.refl _
theorem xR {β:Type} {m:List (Int×β)} {ys:List Int} (h:oy m [] ys):ys.Perm (m.map (·.1)):=by simpa [oy] using h
theorem Jy {β:Type} {left:List (Int×β)} {x:Int} {y:β} (hn:(left.map (·.1)).Nodup) (hm:(x,y)∈left):(left.map (·.1)).Perm (x::(cp left x).map (·.1)):=by
 induction left with
 |nil=>cases hm
 |cons q left ih=>
  obtain ⟨a,b⟩:=q
  simp only [List.map_cons,List.nodup_cons] at hn
  rcases List.mem_cons.1 hm with e|hm
  ·cases e
   have A:cp ((x,y)::left) x=left:=by
    unfold cp
    rw [List.filter_cons_of_neg sm]
    exact List.filter_eq_self.2 fun q hq=>by
     have:q.1≠x:=fun e=>hn.1 (e▸List.mem_map_of_mem hq)
     simpa using this
   rw [A]; exact List.Perm.refl _
  ·have B:a≠x:=fun e=>hn.1 (e▸List.mem_map_of_mem (f:=fun z:Int×β=>z.1) hm)
   have A:cp ((a,b)::left) x=(a,b)::cp left x:=by
    unfold cp
    rw [List.filter_cons_of_pos (by simpa using B)]
   rw [A,List.map_cons,List.map_cons]
   exact ((ih hn.2 hm).cons a).trans (List.Perm.swap _ _ _)
theorem oi {β:Type} {m left:List (Int×β)} {ys:List Int} {x:Int} {y:β} (hn:(left.map (·.1)).Nodup) (hm:(x,y)∈left) (h:oy m left ys):oy m (cp left x) (ys++[x]):=by
 unfold oy at h ⊢
 refine List.Perm.trans ?_ h
 rw [List.append_assoc]
 exact (Jy hn hm).symm.append_left ys
theorem fR {β:Type} {m left:List (Int×β)} {x:Int} (h: ∀ p∈left,p∈m): ∀ p∈cp left x,p∈m:=fun p hp=>h p (j3.1 hp).1
theorem gK {m:gX} {i:Int} (h: ∀ p∈m,0≤p.2.Lo∧p.2.Lo≤p.2.Hi∧p.2.Hi≤30000000):0≤(aA m i).Lo∧(aA m i).Lo≤(aA m i).Hi∧(aA m i).Hi≤30000000:=by
 unfold aA
 cases e:m.lookup i with
 |none=>simp [dw]
 |some v=>
  have hm:(i,v)∈m:=by
   clear h
   induction m with
   |nil=>cases e
   |cons p m ih=>
    obtain ⟨a,b⟩:=p
    by_cases c:i=a
    ·subst c; simp [List.lookup] at e; subst e; exact cb
    ·have:(i==a)=false:=by simpa using c
     simp only [List.lookup,this] at e
     exact cQ _ (ih e)
  simpa using h _ hm
/-- not reached by the numbers so far -/
def uS (m:gX) (i:Int) (ys:List Int) (k:Int):Prop:=(1≤k∧k≤(m.length:Int))∧ ∀ n∈ys,¬ ((gG m i n:Int)+1≤k∧k≤(jr m i n:Int)+1)
section
variable {m:gX} {i:Int} {own:aa} {ys:List Int} {nev ranks:p8} {n a b:Int}
theorem IB (h:iP nev fun k=>1≤k∧k≤(m.length:Int)):iP nev (uS m i []):=h.yl fun k=>⟨fun h=>⟨h,fun n hn=>by cases hn⟩,fun h=>h.1⟩
theorem Ks (ha:a=(gG m i n:Int)+1) (hb:b=(jr m i n:Int)+1) (h:iP nev fun q=>uS m i ys q∧ ¬ (a≤q∧q≤b)):iP nev (uS m i (ys++[n])):=by
 subst ha hb
 refine h.yl fun k=>?_
 unfold uS
 constructor
 ·rintro ⟨⟨B,A⟩,C⟩
  refine ⟨B,fun x hx=>?_⟩
  rcases List.mem_append.1 hx with hx|hx
  ·exact A x hx
  ·rw [bS] at hx; subst hx; exact C
 ·rintro ⟨B,A⟩
  exact ⟨⟨B,fun x hx=>A x (List.mem_append_left _ hx)⟩,A n sm⟩
theorem Ev {P:Int→Prop} {k:Int} (hk:a≤k) (h:iP nev fun q=>P q∧ ¬ (a≤q∧q<k)):iP (cp nev k) fun q=>P q∧ ¬ (a≤q∧q<k+1):=
 (Ce (k:=k) h).yl fun q=>by
  constructor
  ·rintro ⟨⟨B,A⟩,E⟩; exact ⟨B,fun ⟨C,D⟩=>A ⟨C,I⟩⟩
  ·rintro ⟨B,A⟩; exact ⟨⟨B,fun ⟨C,D⟩=>A ⟨C,I⟩⟩,fun e=>A ⟨I,I⟩⟩
theorem FZ (hall: ∀ n,n∈ys↔n∈jA m i own) {k:Int} (hk:1≤k∧k≤(m.length:Int)): ¬ uS m i ys k↔rT m i own k:=by
 unfold uS rT
 constructor
 ·intro h
  refine Classical.byContradiction fun q=>h ⟨hk,fun n hn hc=>q ⟨n,(hall n).1 hn,hc.1,hc.2⟩⟩
 ·rintro ⟨n,hn,A,B⟩ h
  exact h.2 n ((hall n).2 hn) ⟨A,B⟩
/-- the ranks, from what is left of the map -/
theorem ES (hi:m.lookup i≠none) (hall: ∀ n,n∈ys↔n∈jA m i own) (h:iP ranks fun k=>(1≤k∧k≤(m.length:Int))∧ ¬ uS m i ys k):df (ranks.map (·.1))=c_ m i own:=by
 refine qQ k7 ?_ ((fx (l:=ranks.map (·.1))).nodup_iff.2 h.1) ?_ fun k=>?_
 ·unfold c_
  refine List.Pairwise.filter _ ?_
  rw [List.pairwise_map]
  exact List.pairwise_lt_range.imp fun h=>by omega
 ·unfold c_
  refine List.Pairwise.filter _ ?_
  rw [List.pairwise_map]
  exact List.pairwise_lt_range.imp fun h=>by omega
 ·rw [(fx (l:=ranks.map (·.1))).mem_iff,h.2 k,qW hi]
  constructor
  ·rintro ⟨A,B⟩; exact (FZ hall A).1 B
  ·intro A
   have hk:1≤k∧k≤(m.length:Int):=by
    obtain ⟨n,_,B,C⟩:=A
    have:=IV hi (x:=n)
    omega
   exact ⟨hk,(FZ hall hk).2 A⟩
end
section
variable {nw left rk:p8} {N R:Int→Prop} {u:Int} {v:Bool}
theorem Na (hl: ∀ p∈left,p∈nw) (hk:iP nw N) (hm:(u,v)∈left) (h:iP rk fun w=>R w∧ ¬ (N w∧w ∉ left.map (·.1))):iP (cp rk u) fun w=>R w∧ ¬ (N w∧w ∉ (cp left u).map (·.1)):=
 (Ce (k:=u) h).yl fun w=>by
  have hd:w∈(cp left u).map (·.1)↔w∈left.map (·.1)∧w≠u:=by
   constructor
   ·intro q
    obtain ⟨p,hp,rfl⟩:=List.mem_map.1 q
    exact ⟨List.mem_map_of_mem (j3.1 hp).1,(j3.1 hp).2⟩
   ·rintro ⟨D,E⟩
    obtain ⟨p,hp,rfl⟩:=List.mem_map.1 D
    exact List.mem_map_of_mem (j3.2 ⟨hp,E⟩)
  constructor
  ·rintro ⟨⟨B,A⟩,C⟩
   exact ⟨B,fun q=>A ⟨q.1,fun z=>q.2 (hd.2 ⟨z,C⟩)⟩⟩
  ·rintro ⟨B,A⟩
   refine ⟨⟨B,fun q=>A ⟨q.1,fun z=>q.2 (hd.1 z).1⟩⟩,fun e=>A ⟨?_,fun z=>(hd.1 z).2 e⟩⟩
   subst e
   exact (hk.2 _).1 (List.mem_map_of_mem (f:=fun z:Int×Bool=>z.1) (hl _ hm))
theorem L4 {n:Nat} (h:iP rk R) (hR: ∀ k,R k→1≤k∧k≤(n:Int)):rk.length≤n:=by
 have hp:((List.range n).map fun (k:Nat)=>(k:Int)+1).Pairwise (· < ·):=by
  rw [List.pairwise_map]
  exact List.pairwise_lt_range.imp fun h=>by omega
 have e:df (rk.map (·.1))=((List.range n).map fun (k:Nat)=>(k:Int)+1).filter fun k=>decide (k∈rk.map (·.1)):=by
  refine qQ k7 ((hp.filter _).imp fun h=>by omega) ((fx (l:=rk.map (·.1))).nodup_iff.2 h.1) ((hp.filter _).imp fun h=>by omega) fun k=>?_
  rw [(fx (l:=rk.map (·.1))).mem_iff,List.mem_filter,decide_eq_true_eq]
  refine ⟨fun q=>⟨?_,q⟩,fun q=>q.2⟩
  have:=hR k ((h.2 k).1 q)
  exact List.mem_map.2 ⟨(k-1).toNat,List.mem_range.2 I,I⟩
 have A:=congrArg List.length e
 have B:=List.length_filter_le (fun k=>decide (k∈rk.map (·.1))) ((List.range n).map fun (k:Nat)=>(k:Int)+1)
 rw [gh,List.length_map] at A
 rw [List.length_map,List.length_range] at B
 omega
end
section
variable {m left:gX} {i x n:Int} {own y:aa} {ys:List Int}
/-- what was told so far: all of those who are not left -/
def yR (m:gX) (i:Int) (own:aa) (left:gX) (ys:List Int):Prop:=(∀ n∈ys,n∈jA m i own)∧own.Lo∈ys∧ ∀ p∈m,p.1≠i→p ∉ left→ ∀ n∈[p.2.Lo+1,p.2.Hi+1],own.Lo≤n∧n≤own.Hi→n∈ys
theorem mS {p:Int×aa} (hp:p∈m) (hi:p.1≠i) (hn:n=p.2.Lo+1∨n=p.2.Hi+1) (hb:own.Lo≤n∧n≤own.Hi):n∈jA m i own:=
 cQ _ (List.mem_filter.2 ⟨List.mem_flatMap.2 ⟨p,List.mem_filter.2 ⟨hp,by simpa using hi⟩,by simpa using hn⟩,fI hb⟩)
theorem L9:yR m i own m [own.Lo]:=⟨fun n hn=>by rw [bS] at hn; subst hn; exact cb,sm,fun p hp _ hl=>absurd hp hl⟩
theorem N8 (h:yR m i own [] ys) (n:Int):n∈ys↔n∈jA m i own:=by
 refine ⟨h.1 n,fun hn=>?_⟩
 rcases List.mem_cons.1 hn with rfl|hn
 ·exact h.2.1
 ·obtain ⟨C,D⟩:=List.mem_filter.1 hn
  obtain ⟨p,hp,hx⟩:=List.mem_flatMap.1 C
  obtain ⟨A,B⟩:=List.mem_filter.1 hp
  exact h.2.2 p A (by simpa using B) sm n hx (of_decide_eq_true D)
theorem kX {ys':List Int} (hm:(left.map (·.1)).Nodup) (hx:(x,y)∈left) (hl: ∀ p∈left,p∈m) (h:yR m i own left ys) (hs: ∀ n∈ys,n∈ys') (hn: ∀ n∈ys',n∈ys∨n∈jA m i own)
 (hy:x≠i→ ∀ n∈[y.Lo+1,y.Hi+1],own.Lo≤n∧n≤own.Hi→n∈ys'):yR m i own (cp left x) ys':=by
 refine ⟨fun n A=>?_,hs _ h.2.1,fun p hp hi B n A hb=>?_⟩
 ·rcases hn n A with q|q
  ·exact h.1 n q
  ·exact q
 ·by_cases e:p∈left
  ·have C:p.1=x:=by
    refine Classical.byContradiction fun q=>B (j3.2 ⟨e,q⟩)
   have E:p=(x,y):=by
    obtain ⟨G,H⟩:=p
    simp only at C; subst C
    have F:=(jY hm).1 e
    have D:=(jY hm).1 hx
    rw [F] at D; cases D; rfl
   subst E
   exact hy hi n A hb
  ·exact hs n (h.2.2 p hp hi e n A hb)
end
section
variable {r:bT} {h i:Int} {ht:List ax} {d:ax}
theorem oK (he: ¬ cK r=0):mN r h i=cK r:=if_neg he
theorem oT (he:cK r=0) (hi: ¬ ((0≤h∧h≤(r.ay.length:Int)-1)∧0≤i∧i≤(r.aQ.length:Int)-1)):mN r h i=2:=by
 unfold mN; rw [if_pos he,if_neg (show ¬ ((0≤h∧h≤(r.ay.length:Int)-1)∧rv r i) from hi)]
theorem Cs (he:cK r=0) (hi:(0≤h∧h≤(r.ay.length:Int)-1)∧0≤i∧i≤(r.aQ.length:Int)-1) (h1:r.ay[h.toNat]? =some ht) (h2:ht[i.toNat]? =some d):mN r h i=if d.Out=true then 6 else 0:=by
 unfold mN; rw [if_pos he,if_pos (show (0≤h∧h≤(r.ay.length:Int)-1)∧rv r i from hi),h1]
 simp [h2]
theorem nE (he:cK r=0) (hi:(0≤h∧h≤(r.ay.length:Int)-1)∧0≤i∧i≤(r.aQ.length:Int)-1) (h1:r.ay[h.toNat]? =some ht) (h2:ht[i.toNat]? =some d) (ho:d.Out=true):mN r h i=6:=by rw [Cs he hi h1 h2,if_pos ho]
theorem qC (he:cK r=0) (hi:(0≤h∧h≤(r.ay.length:Int)-1)∧0≤i∧i≤(r.aQ.length:Int)-1) (h1:r.ay[h.toNat]? =some ht) (h2:ht[i.toNat]? =some d) (ho:d.Out=false):mN r h i=0∧hZ r h i=dx r.ao d:=by
 have e:mN r h i=0:=by rw [Cs he hi h1 h2,if_neg (by rw [ho]; decide)]
 refine ⟨e,?_⟩
 unfold hZ
 rw [if_pos e,h1]
 simp [h2]
end
theorem yH {r:bT} {i:Int} (h: ¬ jI r i=0):gP r i=[]:=if_neg h
theorem zB {r:bT} {i:Int} (h:jI r i=0):gP r i=c_ (aF r) i (aA (aF r) i):=if_pos h
end
section
open Go.RowKit
section
variable {key:Int→Int} {l q m:List Int} {i j:Nat} {x y:Int}
theorem HN:1=1∧l=[]∨tJ key l 1 l:=by
 cases l with
 |nil=>exact .inl ⟨rfl,rfl⟩
 |cons a l=>exact .inr (J_ sm)
theorem NX (h:i<l.length) (hd:i=1∧l=[]∨tJ key l i m):tJ key l i m:=by
 rcases hd with ⟨_,rfl⟩|hd
 ·simp at h
 ·exact hd
theorem Iz (hi: ¬ i<l.length) (hl:m.length=l.length) (hd:i=1∧l=[]∨tJ key l i m):m=ep key l:=by
 rcases hd with ⟨_,rfl⟩|hd
 ·exact jC hl
 ·exact Ji I hd
theorem JY (hx:q[j]? =some x) (hy:q[j-1]? =some y) (h: ∀ z∈q,z∈l): ∀ z∈(q.set j y).set (j-1) x,z∈l:=fun z hz=>by
 rcases List.mem_or_eq_of_mem_set hz with hz|rfl
 ·rcases List.mem_or_eq_of_mem_set hz with hz|rfl
  ·exact h z hz
  ·exact h _ (aR hy)
 ·exact h _ (aR hx)
theorem x7 {p:Int→Bool} (hx:l[i]? =some x) (h:p x=true):(l.take (i+1)).filter p=(l.take i).filter p++[x]:=by
 rw [jE hx,List.filter_append]; simp [h]
theorem F5 {p:Int→Bool} (hx:l[i]? =some x) (h:p x=false):(l.take (i+1)).filter p=(l.take i).filter p:=by
 rw [jE hx,List.filter_append]; simp [h]
end
section
variable {r:bT} {h:Int} {n:Nat}
theorem Ep (e: ¬ cK r=0):iF r h=cK r:=if_neg e
theorem DN (e:cK r=0) (q: ¬ (0≤h∧h≤(r.ay.length:Int))):iF r h=2:=by unfold iF; rw [if_pos e,if_neg q]
theorem zm (e:cK r=0) (q:0≤h∧h≤(r.ay.length:Int)):iF r h=0:=by unfold iF; rw [if_pos e,if_pos q]
theorem D4 (hd:r.bQ.length≤12):(g6 r h).length≤12:=by
 unfold g6
 split
 ·split
  ·exact hd
  ·unfold uB
   simp only [j5,kx]
   exact Nat.le_trans (List.length_filter_le _ _) hd
 ·simp
theorem yG (e: ¬ iF r h=0):g6 r h=[]:=if_neg e
theorem uX (e:iF r h=0) (q:h=0):g6 r h=r.bQ:=by unfold g6; rw [if_pos e,if_pos q]
theorem vc (e:iF r (n:Int)=0) (q: ¬ (n:Int)=0):g6 r (n:Int)=uB r n:=by unfold g6; rw [if_pos e,if_neg q,Int.toNat_natCast]
theorem zH {k:Nat} {l:List Int} (hl:l=ep (fun i=>(aA (eB r n) i).Hi) (r.bQ.filter fun i=>((eB r n).lookup i).isSome)) (hk:k=min r.iI.toNat l.length):rF k l=uB r n:=by subst hl; subst hk; rfl
theorem Ra {m:gX} {l:List Int} (hb: ∀ p∈m,0≤p.2.Lo∧p.2.Lo≤p.2.Hi∧p.2.Hi≤30000000): ∀ x∈l,0≤(aA m x).Hi∧(aA m x).Hi≤30000000:=fun x _=>by have:=gK (i:=x) hb; omega
theorem Tf {m:gX} {l:List Int} (hb: ∀ p∈m,0≤p.2.Lo∧p.2.Lo≤p.2.Hi∧p.2.Hi≤30000000): ∀ x∈l,0≤(aA m x).Lo∧(aA m x).Lo≤30000000:=fun x _=>by have:=gK (i:=x) hb; omega
end
end
section
def E7 (f:Int→aa) (g:List Int):Prop:= ∀ t,(∃ a∈g,(f a).Lo<t)→(∃ b∈g,t≤(f b).Lo)→ ∃ c∈g,(f c).Lo<t∧t≤(f c).Hi
def IZ (f:Int→aa) (g h:List Int):Prop:= ∀ a∈g,∀ b∈h,(f a).Hi<(f b).Lo
structure gW (f:Int→aa) (keys:List Int) (G:List (List Int)):Prop where
 perm:G.flatten.Perm keys
 some_: ∀ g∈G,g≠[]
 apart:G.Pairwise (IZ f)
 tight: ∀ g∈G,E7 f g
def AA (G:List (List Int)):Prop:= ∀ g∈G,g.Pairwise (· ≤ ·)
section
variable {f:Int→aa} {keys:List Int} {G G':List (List Int)} {g h:List Int} {x:Int}
theorem tx: ∀ {g:List Int},g≠[]→ ∃ a∈g,∀ b∈g,(f a).Lo≤(f b).Lo
 |[],h=>absurd rfl h
 |[a],_=>⟨a,sm,fun b hb=>by simp at hb; subst hb; omega⟩
 |a::b::g,_=>by
  obtain ⟨c,hc,hm⟩:=tx (g:=b::g) sm
  rcases Int.le_total (f a).Lo (f c).Lo with q|q
  ·refine ⟨a,sm,fun d hd=>?_⟩
   rcases List.mem_cons.1 hd with rfl|hd
   ·omega
   ·have:=hm d hd; omega
  ·refine ⟨c,cQ _ hc,fun d hd=>?_⟩
   rcases List.mem_cons.1 hd with rfl|hd
   ·exact q
   ·exact hm d hd
/-- the first group is what no cut parts from the least -/
theorem qZ (hf: ∀ i∈keys,(f i).Lo≤(f i).Hi) (h:gW f keys (g::G)) {a:Int} (ha:a∈keys) (hm: ∀ b∈keys,(f a).Lo≤(f b).Lo) {b:Int} (hb:b∈keys):b∈g↔ ∀ t,(f a).Lo<t→t≤(f b).Lo→ ∃ c∈keys,(f c).Lo<t∧t≤(f c).Hi:=by
 have hk: ∀ x,x∈keys↔x∈g∨x∈G.flatten:=fun x=>by rw [← h.perm.mem_iff,List.flatten_cons,kB]
 have A:=List.pairwise_cons.1 h.apart
 have B:a∈g:=by
  rcases (hk a).1 ha with q|q
  ·exact q
  ·obtain ⟨y,hy⟩:=List.exists_mem_of_ne_nil _ (h.some_ g cb)
   obtain ⟨g',hg',hag'⟩:=List.mem_flatten.1 q
   have F:=A.1 g' hg' y hy a hag'
   have H:=hm y ((hk y).2 (.inl hy))
   have E:=hf y ((hk y).2 (.inl hy))
   omega
 constructor
 ·intro AA t F H
  obtain ⟨c,hc,E⟩:=h.tight g cb t ⟨a,B,F⟩ ⟨b,AA,H⟩
  exact ⟨c,(hk c).2 (.inl hc),E⟩
 ·intro C
  rcases (hk b).1 hb with q|q
  ·exact q
  ·exfalso
   obtain ⟨d,hd,D⟩:=tx (f:=f) (g:=G.flatten) (fun e=>by rw [e] at q; cases q)
   obtain ⟨g',hg',hdg'⟩:=List.mem_flatten.1 hd
   have F:=A.1 g' hg' a B d hdg'
   have H:=hf a ha
   have E:=D b q
   obtain ⟨c,hc,K,L⟩:=C (f d).Lo I E
   rcases (hk c).1 hc with J|J
   ·have:=A.1 g' hg' c J d hdg'; omega
   ·have:=D c J; omega
theorem u0 (h:gW f keys (g::G)):gW f G.flatten G:=
 ⟨List.Perm.refl _,fun x hx=>h.some_ x (cQ _ hx),(List.pairwise_cons.1 h.apart).2,fun x hx=>h.tight x (cQ _ hx)⟩
theorem qp {k2:List Int} (h:gW f keys G) (p:keys.Perm k2):gW f k2 G:=⟨h.perm.trans p,h.some_,h.apart,h.tight⟩
theorem rE: ∀ {G G':List (List Int)} {keys:List Int},keys.Nodup→(∀ i∈keys,(f i).Lo≤(f i).Hi)→gW f keys G→gW f keys G'→AA G→AA G'→G=G'
 |[],[],keys,_,_,_,_,_,_=>rfl
 |[],g'::G',keys,_,_,h,h',_,_=>by
  exfalso
  have F:keys=[]:=List.Perm.eq_nil (by simpa using h.perm.symm)
  subst F
  have:=h'.perm.eq_nil
  simp at this
  exact h'.some_ g' cb this.1
 |g::G,[],keys,_,_,h,h',_,_=>by
  exfalso
  have F:keys=[]:=List.Perm.eq_nil (by simpa using h'.perm.symm)
  subst F
  have:=h.perm.eq_nil
  simp at this
  exact h.some_ g cb this.1
 |g::G,g'::G',keys,hn,hf,h,h',ha,ha'=>by
  have H:keys≠[]:=fun e=>by
   subst e
   have:=h.perm.eq_nil
   simp at this
   exact h.some_ g cb this.1
  obtain ⟨a,A,B⟩:=tx (f:=f) H
  have D:=h.perm.nodup_iff.2 hn
  have E:=h'.perm.nodup_iff.2 hn
  rw [List.flatten_cons,List.nodup_append] at D E
  have Ax: ∀ b∈g,b∈keys:=fun b hb=>h.perm.mem_iff.1 (by rw [List.flatten_cons]; exact List.mem_append_left _ hb)
  have C: ∀ b∈g',b∈keys:=fun b hb=>h'.perm.mem_iff.1 (by rw [List.flatten_cons]; exact List.mem_append_left _ hb)
  have e:g=g':=by
   refine qQ (ha g cb) (ha' g' cb) D.1 E.1 fun b=>?_
   constructor
   ·intro hb
    exact (qZ hf h' A B (Ax b hb)).2 ((qZ hf h A B (Ax b hb)).1 hb)
   ·intro hb
    exact (qZ hf h A B (C b hb)).2 ((qZ hf h' A B (C b hb)).1 hb)
  subst e
  have p:G.flatten.Perm G'.flatten:=by
   have:=h.perm.trans h'.perm.symm
   rw [List.flatten_cons,List.flatten_cons] at this
   exact (List.perm_append_left_iff g).1 this
  rw [rE (G:=G) (G':=G') D.2.1 (fun i hi=>hf i (h.perm.mem_iff.1 (by rw [List.flatten_cons]; exact List.mem_append_right _ hi))) (u0 h) (qp (u0 h') p.symm) (fun x hx=>ha x (cQ _ hx)) (fun x hx=>ha' x (cQ _ hx))]
/-- groups, each one put in order -/
theorem uZ (h:gW f keys G):gW f keys (G.map df)∧AA (G.map df):=by
 have hp: ∀ G:List (List Int),(G.map df).flatten.Perm G.flatten:=fun G=>by
  induction G with
  |nil=>simp
  |cons g G ih=>simp only [List.map_cons,List.flatten_cons]; exact fx.append ih
 have hm: ∀ {g:List Int} {x:Int},x∈df g↔x∈g:=fx.mem_iff
 refine ⟨⟨(hp G).trans h.perm,fun g hg=>?_,?_,fun g hg=>?_⟩,fun g hg=>?_⟩
 ·obtain ⟨y,hy,rfl⟩:=List.mem_map.1 hg
  intro e
  have:=(fx (l:=y)).symm
  rw [e] at this
  exact h.some_ y hy this.eq_nil
 ·rw [List.pairwise_map]
  exact h.apart.imp fun q a ha b hb=>q a (hm.1 ha) b (hm.1 hb)
 ·obtain ⟨y,hy,rfl⟩:=List.mem_map.1 hg
  rintro t ⟨a,ha,A⟩ ⟨b,hb,B⟩
  obtain ⟨c,hc,C⟩:=h.tight y hy t ⟨a,hm.1 ha,A⟩ ⟨b,hm.1 hb,B⟩
  exact ⟨c,hm.2 hc,C⟩
 ·obtain ⟨y,hy,rfl⟩:=List.mem_map.1 hg
  exact k7
end
/-- so far: groups, and the greatest of all -/
structure mq (f:Int→aa) (p:List Int) (G:List (List Int)) (last:Int):Prop where
 ok:gW f p G
 PV: ∀ a∈p,(f a).Hi≤last
 at_:p=[]∧last= -1∨ ∃ a∈p,(f a).Hi=last
section
variable {f:Int→aa} {p:List Int} {G:List (List Int)} {g:List Int} {x last:Int}
theorem FF:mq f [] [] (-1):=⟨⟨sm,fun g hg=>(by cases hg),List.Pairwise.nil,fun g hg=>by cases hg⟩,fun a ha=>(by cases ha),.inl ⟨rfl,rfl⟩⟩
theorem HT:E7 f [x]:=by
 rintro t ⟨a,ha,A⟩ ⟨b,hb,B⟩
 simp at ha hb; subst ha hb; omega
theorem q9 (h0: -1≤(f x).Hi) (h:mq f p G last):(∀ a∈p++[x],(f a).Hi≤max last (f x).Hi)∧((p++[x])=[]∧max last (f x).Hi= -1∨ ∃ a∈p++[x],(f a).Hi=max last (f x).Hi):=by
 refine ⟨fun a ha=>?_,.inr ?_⟩
 ·rcases List.mem_append.1 ha with ha|ha
  ·have:=h.PV a ha; omega
  ·rw [bS] at ha; subst ha; omega
 ·rcases Int.le_total last (f x).Hi with q|q
  ·exact ⟨x,sm,I⟩
  ·rcases h.at_ with ⟨rfl,e⟩|⟨a,ha,e⟩
   ·exact ⟨x,sm,I⟩
   ·exact ⟨a,List.mem_append_left _ ha,I⟩
theorem NY (h0: -1≤(f x).Hi) (h:mq f p G last) (hl:last<(f x).Lo):mq f (p++[x]) (G++[[x]]) (max last (f x).Hi):=by
 have A: ∀ y∈G,∀ a∈y,a∈p:=fun y hy a ha=>h.ok.perm.mem_iff.1 (List.mem_flatten.2 ⟨y,hy,ha⟩)
 refine ⟨⟨?_,fun y hy=>?_,?_,fun y hy=>?_⟩,(q9 h0 h).1,(q9 h0 h).2⟩
 ·rw [List.flatten_append]
  exact h.ok.perm.append sm
 ·rcases List.mem_append.1 hy with hy|hy
  ·exact h.ok.some_ y hy
  ·rw [bS] at hy; subst hy; simp
 ·rw [List.pairwise_append]
  refine ⟨h.ok.apart,List.pairwise_singleton _ _,fun y hy z hz a ha b hb=>?_⟩
  rw [bS] at hz; subst hz
  rw [bS] at hb; subst hb
  have:=h.PV a (A y hy a ha); omega
 ·rcases List.mem_append.1 hy with hy|hy
  ·exact h.ok.tight y hy
  ·rw [bS] at hy; subst hy; exact HT
theorem IH (h0: -1≤(f x).Hi) (hf: ∀ i∈p,(f i).Lo≤(f i).Hi) (hx: ∀ a∈p,(f a).Lo≤(f x).Lo) (h:mq f p (G++[g]) last) (hl: ¬ last<(f x).Lo):mq f (p++[x]) (G++[g++[x]]) (max last (f x).Hi):=by
 have A: ∀ y∈G++[g],∀ a∈y,a∈p:=fun y hy a ha=>h.ok.perm.mem_iff.1 (List.mem_flatten.2 ⟨y,hy,ha⟩)
 have C:=List.pairwise_append.1 h.ok.apart
 have B:=h.ok.some_ g sm
 refine ⟨⟨?_,fun y hy=>?_,?_,fun y hy=>?_⟩,(q9 h0 h).1,(q9 h0 h).2⟩
 ·have:=h.ok.perm
  rw [List.flatten_append] at this ⊢
  simp only [List.flatten_cons,List.flatten_nil,List.append_nil] at this ⊢
  rw [← List.append_assoc]
  exact this.append_right _
 ·rcases List.mem_append.1 hy with hy|hy
  ·exact h.ok.some_ y (List.mem_append_left _ hy)
  ·rw [bS] at hy; subst hy; simp
 ·rw [List.pairwise_append]
  refine ⟨C.1,List.pairwise_singleton _ _,fun y hy z hz a ha b hb=>?_⟩
  rw [bS] at hz; subst hz
  rcases List.mem_append.1 hb with hb|hb
  ·exact C.2.2 y hy g sm a ha b hb
  ·rw [bS] at hb; subst hb
   obtain ⟨c,hc⟩:=List.exists_mem_of_ne_nil _ B
   have K:=C.2.2 y hy g sm a ha c hc
   have H:=hx c (A g sm c hc)
   omega
 ·rcases List.mem_append.1 hy with hy|hy
  ·exact h.ok.tight y (List.mem_append_left _ hy)
  ·rw [bS] at hy; subst hy
   rintro t ⟨a,ha,K⟩ ⟨b,hb,H⟩
   by_cases D: ∃ b∈g,t≤(f b).Lo
   ·obtain ⟨b',hb',L⟩:=D
    have AA:a∈g:=by
     rcases List.mem_append.1 ha with q|q
     ·exact q
     ·rw [bS] at q; subst q
      have:=hx b' (A g sm b' hb'); omega
    obtain ⟨c,hc,M⟩:=h.ok.tight g sm t ⟨a,AA,K⟩ ⟨b',hb',L⟩
    exact ⟨c,List.mem_append_left _ hc,M⟩
   ·have J: ∀ c∈g,(f c).Lo<t:=fun c hc=>by
     refine Classical.byContradiction fun q=>D ⟨c,hc,I⟩
    have N:t≤(f x).Lo:=by
     rcases List.mem_append.1 hb with q|q
     ·exact absurd ⟨b,q,H⟩ D
     ·rw [bS] at q; subst q; exact H
    rcases h.at_ with ⟨e,_⟩|⟨c,hc,e⟩
    ·exfalso
     obtain ⟨c,hc⟩:=List.exists_mem_of_ne_nil _ B
     have:=A g sm c hc
     rw [e] at this; cases this
    ·have E:c∈g:=by
      obtain ⟨y,hy,F⟩:=List.mem_flatten.1 (h.ok.perm.mem_iff.2 hc)
      rcases List.mem_append.1 hy with hy|hy
      ·exfalso
       obtain ⟨d,hd⟩:=List.exists_mem_of_ne_nil _ B
       have L:=C.2.2 y hy g sm c F d hd
       have M:=hf d (A g sm d hd)
       have O:=h.PV d (A g sm d hd)
       omega
      ·rw [bS] at hy; subst hy; exact F
     exact ⟨c,List.mem_append_left _ E,J c E,I⟩
theorem L_ (h:mq f p G last) (hp:p≠[]):G≠[]:=fun e=>by
 subst e
 exact hp (by simpa using h.ok.perm.symm.eq_nil)
end
end
section
open Go.RowKit
/-- a map, or nil -/
def oC (o:Option Nat):List Value:=[Value.map o]
theorem zW {α:Type}: ∀ {ms:List α} {asl:List Nat},ms.length=asl.length→List.zipWith gD ms asl=(asl.map some).map oC
 |[],[],_=>rfl
 |[],_::_,h=>by simp at h
 |_::_,[],h=>by simp at h
 |x::ms,y::asl,h=>by simp only [List.zipWith_cons_cons,List.map_cons,zW (ms:=ms) (asl:=asl) (by simpa using h)]; rfl
/-- what stands for all but one -/
def fp {M A:Type} (f:M→A→List aq) (ms:List M) (asl:List A) (k:Nat):List aq:=aV f (ms.take k) (asl.take k)++aV f (ms.drop (k+1)) (asl.drop (k+1))
theorem kM {M A:Type} {f:M→A→List aq}: ∀ {ms:List M} {asl:List A} {k:Nat} {m:M} {a:A},ms[k]? =some m→asl[k]? =some a→(aV f ms asl).Perm (f m a++fp f ms asl k)
 |[],_,k,m,a,h,_=>by simp at h
 |_::_,[],k,m,a,_,h=>by simp at h
 |x::ms,y::asl,0,m,a,h,h2=>by
  simp at h h2; subst h h2
  simp [fp,aV]
 |x::ms,y::asl,k+1,m,a,h,h2=>by
  have ih:=kM (f:=f) (ms:=ms) (asl:=asl) (k:=k) (by simpa using h) (by simpa using h2)
  show (f x y++aV f ms asl).Perm (f m a++fp f (x::ms) (y::asl) (k+1))
  have e:fp f (x::ms) (y::asl) (k+1)=f x y++fp f ms asl k:=by simp [fp,aV,List.append_assoc]
  rw [e]
  refine (ih.append_left (f x y)).trans ?_
  rw [← List.append_assoc,← List.append_assoc]
  exact List.perm_append_comm.append_right _
theorem Hu {M A:Type} {f:M→A→List aq} {ms:List M} {asl:List A} {k:Nat} {m':M}:fp f (ms.set k m') asl k=fp f ms asl k:=by
 unfold fp
 rw [List.take_set_of_le (Nat.le_refl k),List.drop_set_of_lt (Nat.lt_succ_self k)]
theorem kN {S:BS} {w0 w:World} {C X Y:List aq} (hp:X.Perm Y) (h:St S w0 (bw X::C) w):St S w0 (bw Y::C) w:=by
 have A:St S w0 (X++C) w:=h.ic
 exact (A.perm (hp.append_right C)).tied
theorem St.out {M A:Type} {f:M→A→List aq} {S:BS} {w0 w:World} {C:List aq} {ms:List M} {asl:List A} {k:Nat} {m:M} {a:A} {X:aq} (hm:ms[k]? =some m) (ha:asl[k]? =some a) (hf:f m a=[X]) (h:St S w0 (bw (aV f ms asl)::C) w):St S w0 (X::bw (fp f ms asl k)::C) w:=by
 have B:=(kN (kM hm ha) h).ic
 rw [hf] at B
 have D:St S w0 (fp f ms asl k++(X::C)) w:=B.perm (List.perm_middle (a:=X) (l₁:=fp f ms asl k) (l₂:=C)).symm
 exact D.tied.perm (List.Perm.swap _ _ _)
theorem St.back {M A:Type} {f:M→A→List aq} {S:BS} {w0 w:World} {C:List aq} {ms:List M} {asl:List A} {k:Nat} {m':M} {a:A} {X:aq} (hk:k<ms.length) (ha:asl[k]? =some a) (hf:f m' a=[X]) (h:St S w0 (X::bw (fp f ms asl k)::C) w):St S w0 (bw (aV f (ms.set k m') asl)::C) w:=by
 have B:St S w0 (bw (fp f ms asl k)::X::C) w:=h.perm (List.Perm.swap _ _ _)
 have D:=B.ic
 have E:St S w0 ((f m' a++fp f (ms.set k m') asl k)++C) w:=by
  rw [hf,Hu]
  exact D.perm (List.perm_middle (a:=X) (l₁:=fp f ms asl k) (l₂:=C))
 exact kN (kM (List.getElem?_set_self hk) ha).symm E.tied
section
variable {E:eZ} {ops:Array Oper} {Q:cY} {rest:List Oper} {D:List Deferred} {L:List (Nat×Value)} {C C1:List aq}
variable {M A:Type} {f:M→A→List aq} {ms:List M} {asl:List A} {k:Nat} {m:M} {a:A} {X:aq}
theorem Gf {c:Code} (i:Nat) (hm:ms[k]? =some m) (ha:asl[k]? =some a) (hf:f m a=[X]) (hn:decide (i::(List.range C.length).filter fun k=>k != i).Nodup=true) (hC:kp C (i::(List.range C.length).filter fun k=>k != i)=bw (aV f ms asl)::C1)
 (h:WJ E c Q D L (X::bw (fp f ms asl k)::C1)):WJ E c Q D L C:=fun a w hf' hs=>h a w hf' (St.out hm ha hf (St.kp _ hn hC hs))
theorem LZ {K:Act→World→Prop} (i j:Nat) (hk:k<ms.length) (ha:asl[k]? =some a) (hf:f m a=[X]) (hn:decide (j::i::(List.range C.length).filter fun k=>k != i&&k != j).Nodup=true) (hC:kp C (j::i::(List.range C.length).filter fun k=>k != i&&k != j)=X::bw (fp f ms asl k)::C1)
 (h:KJ E K D L (bw (aV f (ms.set k m) asl)::C1)):KJ E K D L C:=fun a w hf' hs=>h a w hf' (St.back hk ha hf (St.kp _ hn hC hs))
end
end
section
open Go.RowKit
def lW (l:List Int) (a:RA):List Value:=[vS a.1 l.length a.2]
def A_ (l:List Int) (a:RA):List aq:=[rd a.1 l.length 1 (l.map iC)]
def sE (l:List Int) (a:RA):List aq:=[own a.1 a.2 S5 1 (l.map iC)]
theorem mM: ∀ (m:List Int) (a:RA) (w:World),(∀ X∈sE m a,X.holds w)→ ∀ X∈A_ m a,X.holds w:=fun m a w h X hX=>by
 simp only [A_,bS] at hX
 subst hX
 have:=nq (h _ (List.mem_singleton.2 rfl))
 simpa using this
theorem J1 {l:List (List Int)} {bz:List RA}:(bw (aV sE l bz)).wr=true:=by
 show (aV sE l bz).all (·.wr)=true
 rw [eY]
 intro X hX
 obtain ⟨k,m,a,_,_,h⟩:=jR hX
 simp only [sE,bS] at h
 subst h; rfl
theorem iv {ls:List (List Int)} {az:List RA} (h:az.length=ls.length):(List.zipWith lW ls az).length=ls.length:=by simp [h]
theorem ME (l:List (List Int)) (az:List RA): ∀ v∈(List.zipWith lW l az).flatten,v.oneCell'=true:=by
 induction l generalizing az with
 |nil=>intro v hv; simp at hv
 |cons x l ih=>
  cases az with
  |nil=>intro v hv; simp at hv
  |cons a az=>
   intro v hv
   rw [List.zipWith_cons_cons,List.flatten_cons,kB] at hv
   rcases hv with hv|hv
   ·simp [lW] at hv; subst hv; rfl
   ·exact ih az v hv
section
variable {M A:Type} {f:M→A→List aq} {ms:List M} {asl:List A} {k:Nat} {m:M} {a:A} {X:aq}
theorem sf:fp f (ms.set k m) (asl.set k a) k=fp f ms asl k:=by
 unfold fp
 rw [List.take_set_of_le (Nat.le_refl k),List.drop_set_of_lt (Nat.lt_succ_self k),List.take_set_of_le (Nat.le_refl k),List.drop_set_of_lt (Nat.lt_succ_self k)]
theorem St.SM {S:BS} {w0 w:World} {C:List aq} (hk:k<ms.length) (hk2:k<asl.length) (hf:f m a=[X]) (h:St S w0 (X::bw (fp f ms asl k)::C) w):St S w0 (bw (aV f (ms.set k m) (asl.set k a))::C) w:=by
 have A:St S w0 (bw (fp f ms asl k)::X::C) w:=h.perm (List.Perm.swap _ _ _)
 have B:=A.ic
 have D:St S w0 ((f m a++fp f (ms.set k m) (asl.set k a) k)++C) w:=by
  rw [hf,sf]
  exact B.perm (List.perm_middle (a:=X) (l₁:=fp f ms asl k) (l₂:=C))
 exact kN (kM (List.getElem?_set_self hk) (List.getElem?_set_self hk2)).symm D.tied
theorem qG {β:Type} {c:M→A→β}:(List.zipWith c ms asl).set k (c m a)=List.zipWith c (ms.set k m) (asl.set k a):=by
 apply List.ext_getElem?
 intro j
 rw [List.getElem?_set]
 by_cases e:k=j
 ·subst e
  rw [if_pos rfl,List.length_zipWith,List.getElem?_zipWith,List.getElem?_set,List.getElem?_set,if_pos rfl,if_pos rfl]
  by_cases B:k<ms.length
  ·by_cases C:k<asl.length
   ·rw [if_pos I,if_pos B,if_pos C]
   ·rw [if_neg I,if_pos B,if_neg C]
  ·rw [if_neg I,if_neg B]
 ·rw [if_neg e,List.getElem?_zipWith,List.getElem?_zipWith,List.getElem?_set_ne e,List.getElem?_set_ne e]
variable {E:eZ} {ops:Array Oper} {Q:cY} {rest:List Oper} {D:List Deferred} {L:List (Nat×Value)} {C C1:List aq}
abbrev Bf (C:List aq) (i j:Nat):List Nat:=j::i::(List.range C.length).filter fun k=>k != i&&k != j
abbrev HK (C:List aq) (i:Nat):List Nat:=i::(List.range C.length).filter fun k=>k != i
theorem F2 (i j:Nat) (hk:k<ms.length) (hk2:k<asl.length) (hf:f m a=[X]) (hn:decide (Bf C i j).Nodup=true) (hC:pL C (Bf C i j)=some (X::bw (fp f ms asl k)::C1))
 (h:RJ E ops Q rest D L (bw (aV f (ms.set k m) (asl.set k a))::C1)):RJ E ops Q rest D L C:=fun a w hf' hs=>h a w hf' (St.SM hk hk2 hf (St.kp _ hn (j1 hC) hs))
theorem Ea {c:Code} (i:Nat) (hm:ms[k]? =some m) (ha:asl[k]? =some a) (hf:f m a=[X]) (hn:decide (HK C i).Nodup=true) (hC:pL C (HK C i)=some (bw (aV f ms asl)::C1))
 (h:WJ E c Q D L (X::bw (fp f ms asl k)::C1)):WJ E c Q D L C:=fun a w hf' hs=>h a w hf' (St.out hm ha hf (St.kp _ hn (j1 hC) hs))
theorem MZ {K:Act→World→Prop} (i j:Nat) (hk:k<ms.length) (ha:asl[k]? =some a) (hf:f m a=[X]) (hn:decide (Bf C i j).Nodup=true) (hC:pL C (Bf C i j)=some (X::bw (fp f ms asl k)::C1))
 (h:KJ E K D L (bw (aV f (ms.set k m) asl)::C1)):KJ E K D L C:=fun a w hf' hs=>h a w hf' (St.back hk ha hf (St.kp _ hn (j1 hC) hs))
theorem Qu {Y Y':List aq} (i j:Nat) (hn:decide (Bf C i j).Nodup=true) (hC:pL C (Bf C i j)=some (X::bw Y::C1)) (e:Y++[X]=Y') (h:RJ E ops Q rest D L (bw Y'::C1)):RJ E ops Q rest D L C:=fun a w hf hs=>h a w hf ((St.kp _ hn (j1 hC) hs).tie e)
theorem I8 {K:Act→World→Prop} {Y Y':List aq} (i j:Nat) (hn:decide (Bf C i j).Nodup=true) (hC:pL C (Bf C i j)=some (X::bw Y::C1)) (e:Y++[X]=Y') (h:KJ E K D L (bw Y'::C1)):KJ E K D L C:=fun a w hf hs=>h a w hf ((St.kp _ hn (j1 hC) hs).tie e)
end
theorem EK {M A:Type} {f:M→A→List aq} {ms:List M} {asl:List A} {m:M} {a:A} {X:aq} (h:ms.length=asl.length) (hf:f m a=[X]):aV f ms asl++[X]=aV f (ms++[m]) (asl++[a]):=by
 rw [jF h]; simp [aV,hf]
theorem HH {M A β:Type} {f:M→A→β} {ms:List M} {asl:List A} {m:M} {a:A} (h:ms.length=asl.length):List.zipWith f ms asl++List.zipWith f [m] [a]=List.zipWith f (ms++[m]) (asl++[a]):=(List.zipWith_append h).symm
theorem m_ {r:bT} {k:Nat}:((eB r k).map (·.1)).Nodup:=by
 unfold eB
 rw [List.map_filterMap]
 refine List.Pairwise.filterMap _ ?_ (List.nodup_range (n:=r.aQ.length))
 intro a b A x hx y hy e
 subst e
 simp only [Option.map_map,Option.map_eq_some_iff,Function.comp] at hx hy
 obtain ⟨_,_,rfl⟩:=hx
 obtain ⟨_,_,h⟩:=hy
 exact A I
noncomputable def cd (r:bT):List (List Int):=if cK r=0 then Classical.epsilon (fun G=>gW (aA (aF r)) ((aF r).map (·.1)) G∧AA G) else []
theorem Bu {r:bT} (h: ¬ cK r=0):cd r=[]:=if_neg h
theorem qI {r:bT} {G:List (List Int)} (he:cK r=0) (h1:gW (aA (aF r)) ((aF r).map (·.1)) G) (h2:AA G):G=cd r:=by
 unfold cd
 rw [if_pos he]
 have A:=Classical.epsilon_spec (p:=fun G=>gW (aA (aF r)) ((aF r).map (·.1)) G∧AA G) ⟨G,h1,h2⟩
 exact rE m_ (fun i hi=>(gK (nH he)).2.1) h1 A.1 h2 A.2
section
variable {f:Int→aa} {L:List Int} {G:List (List Int)} {g:List Int} {x last:Int} {i j:Nat}
theorem z5 (h:mq f (L.take i) G last) (hg:g∈G):g.length≤L.length:=by
 have A:=h.ok.perm.length_eq
 have B:g.length≤G.flatten.length:=(List.sublist_flatten_of_mem hg).length_le
 rw [List.length_take] at A; omega
theorem FQ (h:mq f (L.take i) G last):G.length≤L.length:=by
 have A:=h.ok.perm.length_eq
 have B: ∀ G:List (List Int),(∀ g∈G,g≠[])→G.length≤G.flatten.length:=fun G=>by
  induction G with
  |nil=>intro _; simp
  |cons g G ih=>
   intro hG
   have C:=ih fun y hy=>hG y (cQ _ hy)
   have D:=List.length_pos_iff.2 (hG g cb)
   simp only [List.flatten_cons,List.length_cons,List.length_append]; omega
 have C:=B G h.ok.some_
 rw [List.length_take] at A; omega
theorem po (h0: -1≤(f x).Hi) (hx:L[i]? =some x) (hg:(G++[[]])[(G++[([]:List Int)]).length-1]? =some g) (h:mq f (L.take i) G last) (hl:last<(f x).Lo):mq f (L.take (i+1)) ((G++[[]]).set ((G++[([]:List Int)]).length-1) (g++[x])) (max last (f x).Hi):=by
 have A:(G++[([]:List Int)]).length-1=G.length:=by simp
 rw [A] at hg ⊢
 simp at hg
 subst hg
 rw [jE hx]
 have B:(G++[([]:List Int)]).set G.length ([]++[x])=G++[[x]]:=by simp
 rw [B]
 exact NY h0 h hl
theorem ot (h0: -1≤(f x).Hi) (hf: ∀ i∈L,(f i).Lo≤(f i).Hi) (hup:Dy (fun u=>(f u).Lo) L) (hx:L[i]? =some x) (hg:G[G.length-1]? =some g) (h:mq f (L.take i) G last) (hl: ¬ last<(f x).Lo):mq f (L.take (i+1)) (G.set (G.length-1) (g++[x])) (max last (f x).Hi):=by
 obtain ⟨A,F⟩:=List.getElem?_eq_some_iff.1 hg
 obtain ⟨G',y,rfl⟩: ∃ G' y,G=G'++[y]:=⟨G.dropLast,G.getLast (by intro e; subst e; simp at A),(List.dropLast_concat_getLast _).symm⟩
 have D:(G'++[y]).length-1=G'.length:=by simp
 simp only [D] at hg ⊢
 simp at hg
 subst hg
 have E:(G'++[y]).set G'.length (y++[x])=G'++[y++[x]]:=by simp
 rw [jE hx,E]
 refine IH h0 (fun i hi=>hf i (List.mem_of_mem_take hi)) (fun a ha=>?_) h hl
 obtain ⟨C,B⟩:=List.getElem?_eq_some_iff.1 hx
 obtain ⟨q,hq,rfl⟩:=List.mem_iff_getElem.1 ha
 rw [List.length_take] at hq
 rw [List.getElem_take]
 have:=List.pairwise_iff_getElem.1 hup q i I C I
 rw [B] at this
 exact this
theorem FG (hlo:0≤(f x).Lo) (h:mq f (L.take i) G last) (hl: ¬ last<(f x).Lo):1≤G.length:=by
 rcases h.at_ with ⟨_,e⟩|⟨a,ha,_⟩
 ·omega
 ·exact List.length_pos_iff.2 (L_ h (fun e=>by rw [e] at ha; cases ha))
/-- the first groups are in order -/
def ny (G:List (List Int)) (j:Nat):List (List Int):=(G.take j).map df++G.drop j
theorem D2 (h:G.length≤j):ny G j=G.map df:=by unfold ny; rw [List.take_of_length_le h,List.drop_eq_nil_of_le h,List.append_nil]
theorem EU:(ny G j).length=G.length:=by unfold ny; rw [List.length_append,List.length_map,List.length_take,List.length_drop]; omega
theorem G4 (h:G[j]? =some g):(ny G j)[j]? =some g:=by
 have hj:=(List.getElem?_eq_some_iff.1 h).1
 unfold ny
 rw [List.getElem?_append_right (by rw [List.length_map,List.length_take]; omega),List.length_map,List.length_take,Nat.min_eq_left I,Nat.sub_self,List.getElem?_drop]
 simpa using h
theorem EB (h:G[j]? =some g):(ny G j).set j (df g)=ny G (j+1):=by
 have hj:=(List.getElem?_eq_some_iff.1 h).1
 unfold ny
 rw [List.set_append_right _ _ (by rw [List.length_map,List.length_take]; omega),List.length_map,List.length_take,Nat.min_eq_left I,Nat.sub_self,List.drop_eq_getElem_cons hj,List.set_cons_zero,List.take_add_one,h]
 simp
theorem KW {gz:List RA}:List.zipWith lW (G.map df) gz=List.zipWith lW G gz:=by
 induction G generalizing gz with
 |nil=>rfl
 |cons g G ih=>
  cases gz with
  |nil=>rfl
  |cons a gz=>simp only [List.map_cons,List.zipWith_cons_cons,ih]; simp [lW]
end
end
section
open Go.RowKit
theorem E0 (l:List ar) (az:List RA): ∀ v∈(List.zipWith ar.cells l az).flatten,v.oneCell'=true:=by
 induction l generalizing az with
 |nil=>intro v hv; simp at hv
 |cons x l ih=>
  cases az with
  |nil=>intro v hv; simp at hv
  |cons a az=>
   intro v hv
   rw [List.zipWith_cons_cons,List.flatten_cons,kB] at hv
   rcases hv with hv|hv
   ·simp [ar.cells,dp.cells] at hv
    rcases hv with rfl|rfl<;>rfl
   ·exact ih az v hv
theorem g4 {l:List ar} {az:List RA} (h:az.length=l.length):(List.zipWith ar.cells l az).length=l.length:=by simp [h]
theorem gj {l:List ar} {bz:List RA}:(bw (aV ar.owns l bz)).wr=true:=by
 show (aV ar.owns l bz).all (·.wr)=true
 rw [eY]
 intro X hX
 obtain ⟨k,m,a,_,_,h⟩:=jR hX
 simp only [ar.owns,bS] at h
 subst h; rfl
/-- what is known of new rows -/
def rJ (l:List ar) (bz:List RA):Prop:= ∀ (k:Nat) m (a:RA),l[k]? =some m→bz[k]? =some a→m.bo.length≤a.2
theorem IG {l:List ar} {bz:List RA} {i:Nat} {x:ar} {nw:RA} (h:rJ l bz) (hb:bz.length=i) (hx:l[i]? =some x) (hc:x.bo.length≤nw.2):rJ l (bz++[nw]):=fun k m a hm ha=>by
 by_cases e:k<bz.length
 ·rw [List.getElem?_append_left e] at ha
  exact h k m a hm ha
 ·rw [List.getElem?_append_right I] at ha
  have hk:k-bz.length=0:=by
   rcases Nat.eq_zero_or_pos (k-bz.length) with A|A
   ·exact A
   ·rw [List.getElem?_eq_none (by simp; omega)] at ha; cases ha
  rw [hk] at ha
  simp at ha
  have:k=i:=by omega
  subst this
  rw [hx] at hm; cases hm
  subst ha; exact hc
theorem iR: ∀ (m:ar) (a:RA) (w:World),(∀ X∈ar.owns m a,X.holds w)→ ∀ X∈ar.gZ m a,X.holds w:=fun m a w h X hX=>by
 simp only [ar.gZ,bS] at hX
 subst hX
 have:=nq (h _ (List.mem_singleton.2 rfl))
 simpa using this
theorem er.PO {l:a_} {az bz:List RA} (h:er l az) (hb:bz.length=l.ak.length) (hc:rJ l.ak bz):er l bz:=⟨h.sH,h.side,h.sI,hb,h.sD,fun k m a hm ha=>⟨hc k m a hm ha,by
 obtain ⟨A,B⟩: ∃ A,az[k]? =some A:=⟨az[k]'(by rw [h.ov]; exact (List.getElem?_eq_some_iff.1 hm).1),eE _⟩
 exact (h.Q4 k m A hm B).2⟩⟩
section
variable {E:eZ} {ops:Array Oper} {Q:cY} {rest:List Oper} {D:List Deferred} {L:List (Nat×Value)} {C:List aq}
end
end
section
open Go.RowKit
def oE (m:ax) (a:RA):List aq:=[own a.1 a.2 O_ 2 (m.cr.ag.map aK.cells)]
def jc (m:List ax) (a:cO):List aq:=own a.1.1 a.1.2 BM 7 (List.zipWith ax.cells m a.2)::aV oE m a.2
theorem PA: ∀ (m:ax) (a:RA) (w:World),(∀ X∈oE m a,X.holds w)→ ∀ X∈ax.gZ m a,X.holds w:=fun m a w h X hX=>by
 simp only [ax.gZ,bS] at hX
 subst hX
 have:=nq (h _ (List.mem_singleton.2 rfl))
 simpa using this
theorem qi {m:List ax} {asl:List RA} (h:asl.length=m.length):(List.zipWith ax.cells m asl).length=m.length:=by simp [h]
theorem fg {m:List (List ax)} {asl:List cO} (h:asl.length=m.length):(List.zipWith cP m asl).length=m.length:=by simp [h]
theorem NR {m:List ax} {asl:List RA}:(aV oE m asl).all (·.wr)=true:=by
 rw [eY]
 intro X hX
 obtain ⟨k,d,a,_,_,h⟩:=jR hX
 simp only [oE,bS] at h
 subst h; rfl
theorem kv {m:List (List ax)} {asl:List cO}:(bw (aV jc m asl)).wr=true:=by
 show (aV jc m asl).all (·.wr)=true
 rw [eY]
 intro X hX
 obtain ⟨k,d,a,_,_,h⟩:=jR hX
 rcases List.mem_cons.1 h with rfl|h
 ·rfl
 ·exact List.all_eq_true.1 NR X h
theorem Ny (l:List ax) (az:List RA): ∀ v∈(List.zipWith ax.cells l az).flatten,v.oneCell'=true:=by
 induction l generalizing az with
 |nil=>intro v hv; simp at hv
 |cons x l ih=>
  cases az with
  |nil=>intro v hv; simp at hv
  |cons a az=>
   intro v hv
   rw [List.zipWith_cons_cons,List.flatten_cons,kB] at hv
   rcases hv with hv|hv
   ·simp [ax.cells,bk.cells,eC.cells,aa.cells] at hv
    rcases hv with rfl|rfl|rfl|rfl|rfl|rfl|rfl<;>rfl
   ·exact ih az v hv
theorem GP (l:List (List ax)) (az:List cO): ∀ v∈(List.zipWith cP l az).flatten,v.oneCell'=true:=by
 induction l generalizing az with
 |nil=>intro v hv; simp at hv
 |cons x l ih=>
  cases az with
  |nil=>intro v hv; simp at hv
  |cons a az=>
   intro v hv
   rw [List.zipWith_cons_cons,List.flatten_cons,kB] at hv
   rcases hv with hv|hv
   ·simp [cP] at hv; subst hv; rfl
   ·exact ih az v hv
/-- every heat has as many places as descents -/
def sR (H:List (List ax)) (hz:List cO):Prop:=hz.length=H.length∧ ∀ (k:Nat) h (a:cO),H[k]? =some h→hz[k]? =some a→a.2.length=h.length
theorem Of {a:OA} {c e sz n:Nat} {es:List (List Value)} {w:World} (h:(own a c e sz es).holds w) (hn:es.length=n):(rd a n sz es).holds w:=by subst hn; exact nq h
theorem g9 {C:List aq} {H:List (List ax)} {hz:List cO} (i:Nat) (hC:C[i]? =some (bw (aV jc H hz))) (hh:sR H hz):ij C (eW (aV iq H hz)).holds:=fun w hw X hX=>by
 have hb:=hw _ (aR hC)
 obtain ⟨k,m,a,A,B,D⟩:=jR hX
 rcases List.mem_cons.1 D with rfl|D
 ·exact Of (hb.1 _ (bM A B cb)) (qi (hh.2 k m a A B))
 ·obtain ⟨q,d,b,E,F,G⟩:=jR D
  exact PA d b w (fun Y hY=>hb.1 Y (bM A B (cQ _ (bM E F hY)))) X G
section
variable {α:Type}
def ky (bz az:List α) (i:Nat):List α:=bz++az.drop i
variable {bz az:List α} {i:Nat} {a b:α}
theorem iD (hb:bz.length=i) (hi:i≤az.length):(ky bz az i).length=az.length:=by simp [ky,hb]; omega
theorem xK (h:az.length≤i):ky bz az i=bz:=by unfold ky; rw [List.drop_eq_nil_of_le h,List.append_nil]
theorem z6 (hb:bz.length=i) (h:az[i]? =some a):(ky bz az i)[i]? =some a:=by
 unfold ky
 rw [List.getElem?_append_right I,hb,Nat.sub_self,List.getElem?_drop]
 simpa using h
theorem KX (hb:bz.length=i):(ky (bz++[b]) az (i+1))[i]? =some b:=by
 unfold ky
 rw [List.getElem?_append_left (by simp; omega),List.getElem?_append_right I,hb,Nat.sub_self]; rfl
theorem K2 (hb:bz.length=i) (h:az[i]? =some a):(ky bz az i).set i b=ky (bz++[b]) az (i+1):=by
 unfold ky
 have hi:=(List.getElem?_eq_some_iff.1 h).1
 rw [List.set_append_right _ _ I,hb,Nat.sub_self,List.drop_eq_getElem_cons hi,List.set_cons_zero]
 simp
theorem xV {M β:Type} {c:M→α→β} {l:List M} {x:M} (hx:l[i]? =some x) (hb:bz.length=i) (h:az[i]? =some a):(List.zipWith c l (ky bz az i)).set i (c x b)=List.zipWith c l (ky (bz++[b]) az (i+1)):=by
 rw [qG,K2 hb h]
 congr 1
 obtain ⟨hi,rfl⟩:=List.getElem?_eq_some_iff.1 hx
 exact List.set_getElem_self hi
theorem rR {M:Type} {f:M→α→List aq} {l:List M} {x:M} (hx:l[i]? =some x) (hb:bz.length=i):aV f (l.take i) bz++f x b=aV f (l.take (i+1)) (bz++[b]):=by
 have hi:=(List.getElem?_eq_some_iff.1 hx).1
 rw [List.take_add_one,hx,Option.toList_some,jF (by rw [List.length_take,hb]; omega)]
 simp [aV]
end
theorem BK: ∀ {l:List (List ax)} {u v:List cO},u.map (·.1)=v.map (·.1)→List.zipWith cP l u=List.zipWith cP l v
 |[],u,v,_=>by simp
 |x::l,[],[],_=>rfl
 |x::l,[],b::v,h=>by simp at h
 |x::l,a::u,[],h=>by simp at h
 |x::l,a::u,b::v,h=>by
  simp only [List.map_cons,List.cons.injEq] at h
  rw [List.zipWith_cons_cons,List.zipWith_cons_cons,BK h.2]
  have e:cP x a=cP x b:=by simp only [cP,h.1]
  rw [e]
theorem Iy {l:List (List ax)} {hz ha:List cO} {p:RA} {x y:List RA} {i:Nat}:List.zipWith cP l (ky (hz++[(p,x)]) ha i)=List.zipWith cP l (ky (hz++[(p,y)]) ha i):=BK (by simp [ky])
theorem Oh {H:List (List ax)} {hz:List cO} {i:Nat} {x:List ax} {b:cO} (hx:H[i]? =some x) (h: ∀ (k:Nat) y (a:cO),H[k]? =some y→hz[k]? =some a→a.2.length=y.length) (hb:hz.length=i) (hl:b.2.length=x.length): ∀ (k:Nat) y (a:cO),H[k]? =some y→(hz++[b])[k]? =some a→a.2.length=y.length:=fun k y a hy ha=>by
 by_cases e:k<hz.length
 ·rw [List.getElem?_append_left e] at ha
  exact h k y a hy ha
 ·rw [List.getElem?_append_right I] at ha
  have hk:k-hz.length=0:=by
   rcases Nat.eq_zero_or_pos (k-hz.length) with A|A
   ·exact A
   ·rw [List.getElem?_eq_none (by simp; omega)] at ha; cases ha
  rw [hk] at ha
  simp at ha
  have:k=i:=by omega
  subst this
  rw [hx] at hy; cases hy
  subst ha; exact hl
theorem Gk {S:BS} {w0 w:World} {C:List aq} {A:aq} {Y Z:List aq} (h:St S w0 (A::bw Y::bw Z::C) w):St S w0 (bw (Z++A::Y)::C) w:=by
 have D:St S w0 (bw Y::A::bw Z::C) w:=h.perm (List.Perm.swap _ _ _)
 have E:St S w0 (Y++(A::bw Z::C)) w:=D.ic
 have F:St S w0 (bw Z::(A::Y)++C) w:=E.perm (by
  have B:(Y++(A::bw Z::C)).Perm ((A::bw Z::C)++Y):=List.perm_append_comm
  refine B.trans ?_
  show (A::bw Z::(C++Y)).Perm (bw Z::A::(Y++C))
  exact (List.Perm.swap _ _ _).trans (((List.perm_append_comm (l₁:=C) (l₂:=Y)).cons A).cons _))
 have G:St S w0 (Z++((A::Y)++C)) w:=F.ic
 have H:St S w0 ((Z++A::Y)++C) w:=by simpa using G
 exact H.tied
theorem HY {S:BS} {w0 w:World} {C:List aq} {A:aq} {Y Z:List aq} (h:St S w0 (bw (A::Y++Z)::C) w):St S w0 (A::bw Y::bw Z::C) w:=by
 have D:St S w0 ((A::Y++Z)++C) w:=h.ic
 have E:St S w0 (Z++(A::(Y++C))) w:=D.perm (by
  show (A::(Y++Z)++C).Perm (Z++(A::(Y++C)))
  have B:(A::(Y++Z)++C).Perm (A::(Z++(Y++C))):=by
   show (A::((Y++Z)++C)).Perm _
   refine List.Perm.cons A ?_
   rw [← List.append_assoc]
   exact List.perm_append_comm.append_right C
  exact B.trans (List.perm_middle (a:=A) (l₁:=Z) (l₂:=Y++C)).symm)
 have F:=E.tied
 have G:St S w0 (Y++(A::bw Z::C)) w:=F.perm (by
  show (bw Z::A::(Y++C)).Perm (Y++(A::bw Z::C))
  have B:(Y++(A::bw Z::C)).Perm (A::bw Z::(Y++C)):=by
   have:=List.perm_append_comm (l₁:=Y) (l₂:=A::bw Z::C)
   refine this.trans ?_
   show (A::bw Z::(C++Y)).Perm _
   exact (List.perm_append_comm.cons _).cons _
  exact (B.trans (List.Perm.swap _ _ _)).symm)
 have H:=G.tied
 exact H.perm (List.Perm.swap _ _ _)
theorem xM {H:List (List ax)} {hz:List cO} {k:Nat} {h:List ax} {a:cO} (hh:H[k]? =some h) (ha:hz[k]? =some a):(aV jc H hz).Perm (own a.1.1 a.1.2 BM 7 (List.zipWith ax.cells h a.2)::aV oE h a.2++fp jc H hz k):=kM hh ha
theorem PX {E:eZ} {K:Act→World→Prop} {D:List Deferred} {L:List (Nat×Value)} {C:List aq} {a:OA} {c e sz:Nat} {es:List (List Value)} (i:Nat) (hC:C[i]? =some (own a c e sz es)) (k:es.length≤c→KJ E K D L C):KJ E K D L C:=fun act w hf hs=>k (E_ (hs.holds _ (aR hC))) act w hf hs
abbrev Oe (C:List aq) (i j k:Nat):List Nat:=k::j::i::(List.range C.length).filter fun q=>q != i&&q != j&&q != k
section
variable {E:eZ} {ops:Array Oper} {Q:cY} {rest:List Oper} {D:List Deferred} {L:List (Nat×Value)} {C C1:List aq} {K:Act→World→Prop}
variable {H:List (List ax)} {hz:List cO} {h h':List ax} {a a':cO} {k:Nat} {X:aq} {Y Z Z':List aq}
/-- i: the others, j: what hangs on the row, q: the row -/
theorem Qz (i j q:Nat) (hn:decide (Oe C i j q).Nodup=true) (hC:pL C (Oe C i j q)=some (X::bw Y::bw Z::C1)) (e:Z++X::Y=Z') (hk:KJ E K D L (bw Z'::C1)):KJ E K D L C:=fun a w hf hs=>by
 subst e; exact hk a w hf (Gk (St.kp _ hn (j1 hC) hs))
theorem Qk {c:Code} (i:Nat) (hh:H[k]? =some h) (ha:hz[k]? =some a) (hn:decide (HK C i).Nodup=true) (hC:pL C (HK C i)=some (bw (aV jc H hz)::C1))
 (hk:WJ E c Q D L (own a.1.1 a.1.2 BM 7 (List.zipWith ax.cells h a.2)::bw (aV oE h a.2)::bw (fp jc H hz k)::C1)):WJ E c Q D L C:=fun act w hf hs=>
 hk act w hf (HY (kN (xM hh ha) (St.kp _ hn (j1 hC) hs)))
theorem Ly {S:BS} {w0 w:World} (hk:k<H.length) (hk2:k<hz.length) (hs:St S w0 (own a'.1.1 a'.1.2 BM 7 (List.zipWith ax.cells h' a'.2)::bw (aV oE h' a'.2)::bw (fp jc H hz k)::C) w):St S w0 (bw (aV jc (H.set k h') (hz.set k a'))::C) w:=by
 have B:=Gk hs
 refine kN ?_ B
 have A:=xM (H:=H.set k h') (hz:=hz.set k a') (List.getElem?_set_self hk) (List.getElem?_set_self hk2)
 rw [sf] at A
 exact (List.perm_append_comm).trans A.symm
end
theorem GH {H:List (List ax)} {hz:List cO} {k:Nat} {h h':List ax} {a:cO} {bs:List RA} (hh:H[k]? =some h) (ha:hz[k]? =some a) (hl:h'.length=h.length):List.zipWith cP (H.set k h') (hz.set k (a.1,bs))=List.zipWith cP H hz:=by
 rw [← qG]
 have e:cP h' (a.1,bs)=cP h a:=by simp only [cP,hl]
 rw [e]
 have hz':=dy (f:=cP) hh ha
 obtain ⟨hi,A⟩:=List.getElem?_eq_some_iff.1 hz'
 rw [← A]
 exact List.set_getElem_self hi
theorem OG {S:BS} {w0 w:World} {C:List aq} {h:List ax} {bs:List RA} {i:Nat} {d:ax} {b:RA} {d':ax} (hd:h[i]? =some d) (hb:bs[i]? =some b) (hs':d'.cr.ag=[]) (hs:St S w0 (bw (aV oE h bs)::C) w):St S w0 (bw (aV oE (h.set i d') (bs.set i (none,0)))::C) w:=by
 have A:=(kN (kM hd hb) hs).ic
 have B:St S w0 (fp oE h bs i++C) w:=St.take (by simpa using A) (List.sublist_append_right (oE d b) (fp oE h bs i++C))
 have D:=B.rm O_ 2
 have E:St S w0 ((oE d' (none,0)++fp oE (h.set i d') (bs.set i (none,0)) i)++C) w:=by
  rw [sf]
  simpa [oE,hs'] using D
 exact kN (kM (List.getElem?_set_self (List.getElem?_eq_some_iff.1 hd).1) (List.getElem?_set_self (List.getElem?_eq_some_iff.1 hb).1)).symm E.tied
theorem e9.PO {r:bT} {az bz:List RA} {ha hz:List cO} (h:e9 r az ha) (hb:bz.length=r.ao.ak.length) (hc:rJ r.ao.ak bz) (hh:sR r.ay hz):e9 r bz hz:=⟨h.line.PO hb hc,h.iL,h.draw,h.iM,hh.1,fun k x a hx ha'=>by
 obtain ⟨A,C⟩: ∃ A,ha[k]? =some A:=⟨ha[k]'(by rw [h.has]; exact (List.getElem?_eq_some_iff.1 hx).1),eE _⟩
 have B:=h.o1 k x A hx C
 exact ⟨B.len,hh.2 k x a hx ha',B.sig⟩⟩
end
section
open Go.RowKit
def kI (t:aa):ax:=⟨false,true,t,⟨0,0,[]⟩⟩
def gO (H:List (List ax)) (h i:Int) (t:aa):List (List ax):=H.set h.toNat ((H[h.toNat]?.getD []).set i.toNat (kI t))
def jw (r:bT) (h i:Int) (t:aa):bT:=⟨r.ao,r.aQ,r.bQ,r.iI,gO r.ay h i t⟩
@[simp] theorem Q6 {r:bT} {h i:Int} {t:aa}:(jw r h i t).ao=r.ao:=rfl
@[simp] theorem P9 {r:bT} {h i:Int} {t:aa}:(jw r h i t).aQ=r.aQ:=rfl
@[simp] theorem Q8 {r:bT} {h i:Int} {t:aa}:(jw r h i t).bQ=r.bQ:=rfl
theorem xx {m:gX} {i:Int} {s:aa}:(c_ m i s).length≤m.length:=by
 unfold c_
 refine Nat.le_trans (List.length_filter_le _ _) ?_
 rw [List.length_map,List.length_range]; exact Nat.le_refl _
noncomputable def ql (r:bT) (h i:Int) (t:aa):Int:=if ((0≤h∧h≤(r.ay.length:Int)-1)∧rv r i)∧iH t then (if ((r.ay[h.toNat]?).bind (·[i.toNat]?)).any (·.Out)=true then 8 else 0) else 2
noncomputable def gI (r:bT) (h i:Int) (t:aa):Int:=if cK r=0 then ql r h i t else cK r
noncomputable def eN (r:bT) (h i:Int) (t:aa):List Int:=if gI r h i t=0 then (df ((aF r).map (·.1))).filter (fun k=> !decide (c_ (aF r) k (aA (aF r) k)=c_ (aF (jw r h i t)) k (aA (aF (jw r h i t)) k))) else []
section
variable {r:bT} {h i:Int} {t:aa} {ht:List ax} {d:ax}
theorem wc {H:List (List ax)} (hh:H[h.toNat]? =some ht):gO H h i t=H.set h.toNat (ht.set i.toNat (kI t)):=by unfold gO; rw [hh]; rfl
theorem iQ {H:List (List ax)}:(gO H h i t).length=H.length:=by unfold gO; rw [List.length_set]
theorem ml (q: ¬ (((0≤h∧h≤(r.ay.length:Int)-1)∧0≤i∧i≤(r.aQ.length:Int)-1)∧iH t)):ql r h i t=2:=if_neg q
theorem Gh (q:((0≤h∧h≤(r.ay.length:Int)-1)∧0≤i∧i≤(r.aQ.length:Int)-1)∧iH t) (h1:r.ay[h.toNat]? =some ht) (h2:ht[i.toNat]? =some d):ql r h i t=if d.Out=true then 8 else 0:=by
 unfold ql
 rw [if_pos (show ((0≤h∧h≤(r.ay.length:Int)-1)∧rv r i)∧iH t from q),h1,Option.bind_some,h2,Option.any_some]
theorem sT (q:((0≤h∧h≤(r.ay.length:Int)-1)∧0≤i∧i≤(r.aQ.length:Int)-1)∧iH t) (h1:r.ay[h.toNat]? =some ht) (h2:ht[i.toNat]? =some d) (ho:d.Out=true):ql r h i t=8:=by rw [Gh q h1 h2,if_pos ho]
theorem MF (q:((0≤h∧h≤(r.ay.length:Int)-1)∧0≤i∧i≤(r.aQ.length:Int)-1)∧iH t) (h1:r.ay[h.toNat]? =some ht) (h2:ht[i.toNat]? =some d) (ho:d.Out=false):ql r h i t=0:=by rw [Gh q h1 h2,if_neg (by rw [ho]; decide)]
/-- what it means that there is no error -/
theorem yB (e:ql r h i t=0):((0≤h∧h≤(r.ay.length:Int)-1)∧rv r i)∧iH t∧((r.ay[h.toNat]?).bind (·[i.toNat]?)).any (·.Out)=false:=by
 unfold ql at e
 split at e
 ·rename_i q
  split at e
  ·cases e
  ·rename_i A; exact ⟨q.1,q.2,by simpa using A⟩
 ·cases e
theorem C8 (e:gI r h i t=0):cK r=0∧ql r h i t=0:=by
 unfold gI at e
 split at e
 ·exact ⟨asm,e⟩
 ·exact absurd e asm
theorem rV (e: ¬ cK r=0):gI r h i t=cK r:=if_neg e
theorem oS (e:cK r=0):gI r h i t=ql r h i t:=if_pos e
theorem Bt {H:List (List ax)} {k:Nat} {y:List ax} (hy:(gO H h i t)[k]? =some y): ∃ x,H[k]? =some x∧y.length=x.length∧ ∀ d∈y,d∈x∨d=kI t:=by
 unfold gO at hy
 rw [List.getElem?_set] at hy
 split at hy
 ·rename_i e
  split at hy
  ·rename_i hl
   have A:H[h.toNat]? =some H[h.toNat]:=eE hl
   rw [A] at hy
   simp only [Option.getD_some,Option.some.injEq] at hy
   subst hy
   refine ⟨H[h.toNat],by rw [← e]; exact A,by rw [List.length_set],fun d hd=>?_⟩
   exact List.mem_or_eq_of_mem_set hd
  ·cases hy
 ·exact ⟨y,hy,U,fun d hd=> .inl hd⟩
theorem Dx (hr:eP r) (ht:iH t):eP (jw r h i t):=⟨hr.num,hr.wj,by
 have:=hr.nh
 show 1≤((gO r.ay h i t).length:Int)∧((gO r.ay h i t).length:Int)≤3
 rw [iQ]; exact this,hr.ids,hr.draw,fun y hy=>by
 obtain ⟨k,hk⟩:=List.mem_iff_getElem?.1 hy
 obtain ⟨x,hx,hl,hm⟩:=Bt hk
 have A:=hr.o1 x (aR hx)
 refine ⟨hl.trans A.1,fun d hd=>?_⟩
 rcases hm d hd with q|rfl
 ·exact A.2 d q
 ·unfold ig
  rw [if_neg (by simp [kI]),if_pos (by rfl)]
  exact ⟨ht,by simp [mw,kI]⟩⟩
theorem zx (e:gI r h i t=0):cK (jw r h i t)=0:=by
 obtain ⟨A,B⟩:=C8 e
 obtain ⟨C,D⟩:=iG A
 unfold cK
 rw [if_pos (show dq (jw r h i t).ao=0 from C),if_pos (Dx D (yB B).2.1)]
theorem e9.rep {az bz:List RA} {ha hz:List cO} (hin:e9 r az ha) (hb:bz.length=r.ao.ak.length) (hc:rJ r.ao.ak bz) (hh:sR (gO r.ay h i t) hz):e9 (jw r h i t) bz hz:=⟨hin.line.PO hb hc,hin.iL,hin.draw,by
 show (gO r.ay h i t).length≤1000000
 rw [iQ]; exact hin.iM,hh.1,fun k y a hy ha'=>by
 obtain ⟨x,hx,hl,hm⟩:=Bt hy
 obtain ⟨b,hb⟩: ∃ b,ha[k]? =some b:=⟨ha[k]'(by rw [hin.has]; exact (List.getElem?_eq_some_iff.1 hx).1),eE _⟩
 have A:=hin.o1 k x b hx hb
 refine ⟨by rw [hl]; exact A.len,hh.2 k y a hy ha',fun d hd=>?_⟩
 rcases hm d hd with q|rfl
 ·exact A.sig d q
 ·simp [kI]⟩
theorem JI {H:List (List ax)} {k q:Nat}:((gO H h i t)[k]?).bind (·[q]?)=(H[k]?).bind (·[q]?)∨(k=h.toNat∧q=i.toNat∧(∃ d,(H[k]?).bind (·[q]?)=some d)∧((gO H h i t)[k]?).bind (·[q]?)=some (kI t)):=by
 by_cases e:h.toNat=k
 ·cases hk:H[k]? with
  |none=>
   left
   have:(gO H h i t)[k]? =none:=by rw [List.getElem?_eq_none_iff,iQ]; exact List.getElem?_eq_none_iff.1 hk
   rw [this]
  |some x=>
   have B:(gO H h i t)[k]? =some (x.set i.toNat (kI t)):=by
    subst e
    rw [wc hk]
    exact List.getElem?_set_self (List.getElem?_eq_some_iff.1 hk).1
   rw [B,Option.bind_some,Option.bind_some]
   by_cases A:i.toNat=q
   ·cases hq:x[q]? with
    |none=>
     left
     rw [List.getElem?_eq_none_iff,List.length_set]; exact List.getElem?_eq_none_iff.1 hq
    |some d=>
     right
     subst A
     exact ⟨e.symm,U,⟨d,U⟩,List.getElem?_set_self (List.getElem?_eq_some_iff.1 hq).1⟩
   ·left; rw [List.getElem?_set_ne A]
 ·left
  unfold gO
  rw [List.getElem?_set_ne e]
theorem yN {l:a_} {H:List (List ax)} {q:Nat} (ho:((H[h.toNat]?).bind (·[i.toNat]?)).any (·.Out)=false): ∀ n,(fJ l (gO H h i t) q n).isSome=(fJ l H q n).isSome
 |0=>rfl
 |n+1=>by
  have ih:=yN (l:=l) (q:=q) ho n
  unfold fJ
  rcases JI (H:=H) (h:=h) (i:=i) (t:=t) (k:=n) (q:=q) with e|⟨rfl,rfl,⟨d,hd⟩,e⟩
  ·rw [e]
   cases e1:fJ l (gO H h i t) q n<;>cases e2:fJ l H q n<;>simp_all
   cases (H[n]?).bind (·[q]?) with
   |none=>rfl
   |some d=>by_cases c:d.Out=true<;>simp [c]
  ·rw [e,hd]
   have A:d.Out=false:=by rw [hd] at ho; simpa using ho
   cases e1:fJ l (gO H h i t) i.toNat h.toNat<;>cases e2:fJ l H i.toNat h.toNat<;>simp_all [kI]
theorem Pj {r:bT} {k:Nat} {x:Int}:(eB r k).lookup x=if 0≤x∧x<(r.aQ.length:Int) then fJ r.ao r.ay x.toNat k else none:=by
 by_cases c:0≤x∧x<(r.aQ.length:Int)
 ·rw [if_pos c]
  have:=oM (f:=fun q=>fJ r.ao r.ay q k) r.aQ.length x.toNat
  rw [if_pos I,show (x.toNat:Int)=x by omega] at this
  exact this
 ·rw [if_neg c]
  cases e:(eB r k).lookup x with
  |none=>rfl
  |some v=>
   exfalso
   obtain ⟨q,hq,A,_⟩:=uK ((x_ m_).2 e)
   simp only at A
   omega
theorem I5 (e:ql r h i t=0) (k:Int):((aF (jw r h i t)).lookup k).isSome=((aF r).lookup k).isSome:=by
 obtain ⟨_,_,ho⟩:=yB e
 unfold aF
 rw [Pj,Pj]
 show (if 0≤k∧k<(r.aQ.length:Int) then fJ r.ao (gO r.ay h i t) k.toNat (gO r.ay h i t).length else none).isSome=_
 rw [iQ]
 split
 ·exact yN ho _
 ·rfl
theorem C6 {m:gX} {k:Int} (h:k∈df (m.map (·.1))):m.lookup k≠none:=by
 obtain ⟨p,hp,rfl⟩:=List.mem_map.1 (fx.mem_iff.1 h)
 intro e
 exact absurd (List.lookup_eq_none_iff.1 e p hp) sm
theorem P4 {hz:List cO} {hza:cO} (hh:sR r.ay hz) (h1:r.ay[h.toNat]? =some ht) (h2:hz[h.toNat]? =some hza):sR (gO r.ay h i t) (hz.set h.toNat (hza.1,hza.2.set i.toNat (none,0))):=by
 refine ⟨by rw [List.length_set,iQ]; exact hh.1,fun k y a hy ha=>?_⟩
 rw [wc h1] at hy
 rw [List.getElem?_set] at hy ha
 by_cases e:h.toNat=k
 ·rw [if_pos e,if_pos (List.getElem?_eq_some_iff.1 h1).1] at hy
  rw [if_pos e,if_pos (List.getElem?_eq_some_iff.1 h2).1] at ha
  cases hy; cases ha
  simp only [List.length_set]
  exact hh.2 _ _ _ h1 h2
 ·rw [if_neg e] at hy ha
  exact hh.2 k y a hy ha
theorem xp (e: ¬ gI r h i t=0):eN r h i t=[]:=if_neg e
theorem Eg (e:gI r h i t=0):eN r h i t=(df ((aF r).map (·.1))).filter (fun k=> !decide (c_ (aF r) k (aA (aF r) k)=c_ (aF (jw r h i t)) k (aA (aF (jw r h i t)) k))):=if_pos e
end
section
variable {E:eZ} {Q:cY} {D:List Deferred} {L:List (Nat×Value)} {C C1:List aq} {c:Code}
variable {H:List (List ax)} {hz:List cO} {h h':List ax} {a a':cO} {k:Nat} {bs:List RA} {i:Nat} {d d':ax} {b:RA}
theorem P3 (j:Nat) (hd:h[i]? =some d) (hb:bs[i]? =some b) (hs':d'.cr.ag=[]) (hn:decide (HK C j).Nodup=true) (hC:pL C (HK C j)=some (bw (aV oE h bs)::C1))
 (hk:WJ E c Q D L (bw (aV oE (h.set i d') (bs.set i (none,0)))::C1)):WJ E c Q D L C:=fun act w hf hs=>hk act w hf (OG hd hb hs' (St.kp _ hn (j1 hC) hs))
theorem Od (i j q:Nat) (hk:k<H.length) (hk2:k<hz.length) (hn:decide (Oe C i j q).Nodup=true) (hC:pL C (Oe C i j q)=some (own a'.1.1 a'.1.2 BM 7 (List.zipWith ax.cells h' a'.2)::bw (aV oE h' a'.2)::bw (fp jc H hz k)::C1))
 (hr:WJ E c Q D L (bw (aV jc (H.set k h') (hz.set k a'))::C1)):WJ E c Q D L C:=fun act w hf hs=>hr act w hf (Ly hk hk2 (St.kp _ hn (j1 hC) hs))
end
end
section
set_option maxRecDepth 20000
def BG (x y:Int):ax:=kI ⟨x,y⟩
def aN:bT:=⟨mU,[4,7,9],[2,0,1],2,[[⟨false,false,dw,mG⟩,BG 2600 2600,BG 2580 2609],[BG 2555 2559,BG 2540 2549,BG 2570 2575]]⟩
theorem z4 {l:a_} {x y:Int} (h:iH ⟨x,y⟩):ig l (BG x y):=by rw [tY ⟨rfl,rfl⟩]; exact ⟨h,rfl,rfl,rfl⟩
theorem QS:eP aN:=by
 refine ⟨dc,dc,dc,fun i x hx=>?_,dc,fun h hh=>?_⟩
 ·match i with
  |0=>simp [aN] at hx; subst hx; exact ⟨dc,fun y h=>absurd h dc⟩
  |1=>simp [aN] at hx; subst hx; exact ⟨dc,fun y _ h=>by simp [aN] at h; omega⟩
  |2=>simp [aN] at hx; subst hx; exact ⟨dc,fun y _ h=>by simp [aN] at h; omega⟩
  |n+3=>simp [aN] at hx
 ·simp only [aN,d_,List.not_mem_nil,or_false] at hh
  rcases hh with rfl|rfl
  ·refine ⟨U,fun d hd=>?_⟩
   simp only [d_,List.not_mem_nil,or_false] at hd
   rcases hd with rfl|rfl|rfl
   ·rw [sO ⟨rfl,rfl⟩]; exact ⟨DC.1,rfl⟩
   ·exact z4 dc
   ·exact z4 dc
  ·refine ⟨U,fun d hd=>?_⟩
   simp only [d_,List.not_mem_nil,or_false] at hd
   rcases hd with rfl|rfl|rfl<;>exact z4 dc
theorem qu:cK aN=0:=by unfold cK; rw [if_pos (show dq aN.ao=0 from Pq),if_pos QS]
theorem OZ:mN aN 0 0=0∧hZ aN 0 0=⟨2596,2602⟩:=by
 have h:mN aN 0 0=0:=by unfold mN; rw [if_pos qu]; decide
 refine ⟨h,?_⟩
 unfold hZ
 rw [if_pos h]
 show dx mU ⟨false,false,dw,mG⟩=_
 rw [vW ⟨rfl,rfl⟩]; exact DC.2
/-- the sums of a race of three sleds and two heats, all of which run -/
theorem LG {l:a_} {ids dr:List Int} {t:Int} {H:List (List ax)} {a b c d e f:ax} (hH:H=[[a,b,c],[d,e,f]]) (hi:ids.length=3) (hoa: ∀ x∈[a,b,c,d,e,f],x.Out=false):
 aF ⟨l,ids,dr,t,H⟩=[(0,⟨(dx l a).Lo/10+(dx l d).Lo/10,(dx l a).Hi/10+(dx l d).Hi/10⟩),(1,⟨(dx l b).Lo/10+(dx l e).Lo/10,(dx l b).Hi/10+(dx l e).Hi/10⟩),(2,⟨(dx l c).Lo/10+(dx l f).Lo/10,(dx l c).Hi/10+(dx l f).Hi/10⟩)]∧
 eB ⟨l,ids,dr,t,H⟩ 1=[(0,⟨(dx l a).Lo/10,(dx l a).Hi/10⟩),(1,⟨(dx l b).Lo/10,(dx l b).Hi/10⟩),(2,⟨(dx l c).Lo/10,(dx l c).Hi/10⟩)]:=by
 subst hH
 simp only [d_,List.not_mem_nil,or_false,forall_eq_or_imp,forall_eq] at hoa
 obtain ⟨A,B,C,D,E,F⟩:=hoa
 simp [aF,eB,hi,List.range_succ,fJ,A,B,C,D,E,F]
def MH:gX:=[(0,⟨514,515⟩),(1,⟨514,514⟩),(2,⟨515,517⟩)]
def NB:gX:=[(0,⟨514,515⟩),(1,⟨514,514⟩),(2,⟨516,516⟩)]
def Re:gX:=[(0,⟨259,260⟩),(1,⟨260,260⟩),(2,⟨258,260⟩)]
theorem Ak:dx mU ⟨false,false,dw,mG⟩=⟨2596,2602⟩:=by rw [vW ⟨rfl,rfl⟩]; exact DC.2
theorem pW {l:a_} {x y:Int}:dx l (BG x y)=⟨x,y⟩:=Af ⟨rfl,rfl⟩
theorem vk:aF aN=MH∧eB aN 1=Re:=by
 obtain ⟨A,B⟩:=LG (l:=mU) (ids:=[4,7,9]) (dr:=[2,0,1]) (t:=2) (H:=aN.ay) rfl rfl dc
 refine ⟨A.trans ?_,B.trans ?_⟩
 ·rw [Ak,pW,pW,pW,pW,pW]; rfl
 ·rw [Ak,pW,pW]; rfl
def k6:bT:=jw aN 0 2 ⟨2590,2599⟩
theorem Bd:gI aN 0 2 ⟨2590,2599⟩=0:=by unfold gI; rw [if_pos qu]; unfold ql; decide
theorem wm:cK k6=0:=zx Bd
theorem JX:aF k6=NB:=by
 obtain ⟨A,B⟩:=LG (l:=mU) (ids:=[4,7,9]) (dr:=[2,0,1]) (t:=2) (H:=k6.ay) (a:=⟨false,false,dw,mG⟩) (b:=BG 2600 2600) (c:=BG 2590 2599) (d:=BG 2555 2559) (e:=BG 2540 2549) (f:=BG 2570 2575) rfl rfl dc
 refine A.trans ?_
 rw [Ak,pW,pW,pW,pW,pW]; rfl
/-- ranks, as they can be reckoned -/
def DV (m:gX) (i:Int) (own:aa):List Int:=((List.range m.length).map fun (k:Nat)=>(k:Int)+1).filter fun k=>(jA m i own).any fun n=>decide ((gG m i n:Int)+1≤k∧k≤(jr m i n:Int)+1)
theorem Ge {m:gX} {i:Int} {own:aa}:c_ m i own=DV m i own:=by
 unfold c_ DV
 congr 1
 funext k
 rw [Bool.eq_iff_iff,decide_eq_true_eq,List.any_eq_true]
 simp only [decide_eq_true_eq,rT]
theorem AR {r:bT} {m:gX} {i:Int} {s:aa} (he:cK r=0) (hm:aF r=m) (hi:rv r i) (hl:m.lookup i=some s):jI r i=0∧py r i=s∧gP r i=DV m i s:=by
 have h:jI r i=0:=by unfold jI; rw [if_pos he,if_pos hi,hm,hl]; rfl
 refine ⟨h,?_,?_⟩
 ·unfold py aA; rw [if_pos h,hm,hl]; rfl
 ·unfold gP aA; rw [if_pos h,hm,hl,Ge]; rfl
theorem Gi {r:bT} {m:gX} {a b:Int} {s t:aa} (he:cK r=0) (hm:aF r=m) (hi:rv r a∧rv r b∧a≠b) (hs:m.lookup a=some s) (ht:m.lookup b=some t):mu r a b=0∧oq r a b=vz s t∧pP r a b=qo s t:=by
 have h:mu r a b=0:=by unfold mu; rw [if_pos he,if_pos hi,hm,hs,ht]; simp
 refine ⟨h,?_,?_⟩
 ·unfold oq aA; rw [if_pos h,hm,hs,ht]; rfl
 ·unfold pP aA; rw [if_pos h,hm,hs,ht]; rfl
theorem mo:jI aN 0=0∧py aN 0=⟨514,515⟩∧gP aN 0=[1,2]:=by have h:=AR (i:=0) (s:=⟨514,515⟩) qu vk.1 dc rfl; exact ⟨h.1,h.2.1,h.2.2.trans dc⟩
theorem BH:jI aN 2=0∧py aN 2=⟨515,517⟩∧gP aN 2=[2,3]:=by have h:=AR (i:=2) (s:=⟨515,517⟩) qu vk.1 dc rfl; exact ⟨h.1,h.2.1,h.2.2.trans dc⟩
theorem Jw:jI k6 2=0∧py k6 2=⟨516,516⟩:=by have h:=AR (i:=2) (s:=⟨516,516⟩) wm JX dc rfl; exact ⟨h.1,h.2.1⟩
theorem AQ:mu aN 1 2=0∧oq aN 1 2=2∧pP aN 1 2=0:=by have h:=Gi (a:=1) (b:=2) (s:=⟨514,514⟩) (t:=⟨515,517⟩) qu vk.1 dc rfl rfl; exact ⟨h.1,h.2.1.trans dc,h.2.2.trans dc⟩
theorem AM:mu aN 0 1=0∧oq aN 0 1=0∧pP aN 0 1=1:=by have h:=Gi (a:=0) (b:=1) (s:=⟨514,515⟩) (t:=⟨514,514⟩) qu vk.1 dc rfl rfl; exact ⟨h.1,h.2.1.trans dc,h.2.2.trans dc⟩
theorem JF:iF aN 1=0∧g6 aN 1=[0,2,1]:=by
 have h:iF aN 1=0:=by unfold iF; rw [if_pos qu]; decide
 refine ⟨h,?_⟩
 unfold g6
 rw [if_pos h,if_neg dc]
 unfold uB
 rw [show eB aN (1:Int).toNat=Re from vk.2]
 decide
theorem K_:iF aN 2=0∧g6 aN 2=[0,1,2]:=by
 have h:iF aN 2=0:=by unfold iF; rw [if_pos qu]; decide
 refine ⟨h,?_⟩
 unfold g6
 rw [if_pos h,if_neg dc]
 unfold uB
 rw [show eB aN (2:Int).toNat=MH from vk.1]
 decide
theorem Ou:cd aN=[[0,1,2]]:=by
 refine (qI qu ?_ ?_).symm
 ·rw [vk.1]
  refine ⟨dc,dc,sm,fun g hg t A B=>?_⟩
  rw [List.mem_singleton.1 hg] at A B ⊢
  simp [MH,aA,List.lookup] at A B ⊢
  omega
 ·intro g hg; rw [List.mem_singleton.1 hg]; decide
theorem Jc:cd k6=[[0,1],[2]]:=by
 refine (qI wm ?_ ?_).symm
 ·rw [JX]
  refine ⟨dc,dc,?_,fun g hg t A B=>?_⟩
  ·simp [IZ,NB,aA,List.lookup]
  ·simp only [d_,List.not_mem_nil,or_false] at hg
   rcases hg with rfl|rfl<;>(simp [NB,aA,List.lookup] at A B ⊢; omega)
 ·intro g hg; simp only [d_,List.not_mem_nil,or_false] at hg; rcases hg with rfl|rfl<;>decide
theorem M0:eN aN 0 2 ⟨2590,2599⟩=[2]:=by
 unfold eN
 rw [if_pos Bd,vk.1,show aF (jw aN 0 2 ⟨2590,2599⟩)=NB from JX]
 simp only [Ge]
 rw [show df (MH.map (·.1))=[0,1,2] from u7 (n:=3) dc]
 decide
end
section
open Go.RowKit
section
variable {E:eZ} {ops:Array Oper} {Q:cY} {rest:List Oper} {D:List Deferred} {L:List (Nat×Value)} {C C1:List aq}
end
theorem qA {E:eZ} {ops:Array Oper} {Q:cY} {rest:List Oper} {D:List Deferred} {L:List (Nat×Value)} {C C1:List aq} (ix:List Nat) (hn:decide ix.Nodup=true) (hC:pL C ix=some C1) (h:RJ E ops Q rest D L C1):RJ E ops Q rest D L C:=fun a w hf hs=>h a w hf (St.kp _ hn (j1 hC) hs)
theorem oL {M A B:Type} {f:M→A→List B} {n:Nat} (h: ∀ m a,(f m a).length=n): ∀ {ms:List M} {asl:List A},∀ x∈List.zipWith f ms asl,x.length=n
 |[],asl,x,hx=>by simp at hx
 |m::ms,[],x,hx=>by simp at hx
 |m::ms,a::asl,x,hx=>by
  rw [List.zipWith_cons_cons] at hx
  rcases List.mem_cons.1 hx with rfl|hx
  ·exact h m a
  ·exact oL h x hx
theorem Fl (m:ax) (a:RA):(ax.cells m a).length=7:=rfl
theorem LS (m:List ax) (a:cO):(cP m a).length=1:=rfl
theorem KM (m:List Int) (a:RA):(lW m a).length=1:=rfl
def Sx:List ax:=[⟨false,false,dw,mG⟩,BG 2600 2600,BG 2580 2609]
def Tb:List ax:=[BG 2555 2559,BG 2540 2549,BG 2570 2575]
theorem I7 {p q s t u v x y:RA}:sR aN.ay [(p,[s,t,u]),(q,[v,x,y])]:=⟨rfl,fun k h a hk ha=>by
 match k with
 |0=>simp [aN] at hk ha; subst hk; subst ha; rfl
 |1=>simp [aN] at hk ha; subst hk; subst ha; rfl
 |n+2=>simp at ha⟩
theorem QL {bz:List RA} {hz:List cO} (h:er mU bz) (hh:sR aN.ay hz):e9 aN bz hz:=⟨h,dc,dc,dc,hh.1,fun k x a hx ha=>by
 have hm:=aR hx
 have hs:=hh.2 k x a hx ha
 simp only [aN,d_,List.not_mem_nil,or_false] at hm
 rcases hm with rfl|rfl
 ·exact ⟨dc,hs,dc⟩
 ·exact ⟨dc,hs,dc⟩⟩
end
section
open Go.RowKit
def pR (b:Bool):List Value:=[.bool b]
@[simp] theorem Ad (b:Bool):(pR b).length=1:=rfl
theorem Hd (l:List Bool): ∀ v∈(l.map pR).flatten,v.oneCell'=true:=mC (fun s=>rfl) l
end
section
def lD (r:bT) (i:Nat):Prop:= ∀ (j:Nat) x,j<i→r.ay[j]? =some x→ ¬ o4 x
def mZ (x:List ax) (i:Nat):Prop:= ∀ (j:Nat) d,j<i→x[j]? =some d→ ¬ 15<(d.cr.ag.length:Int)
section
variable {r:bT} {i:Nat} {x:List ax} {d:ax}
theorem B_:lD r 0:=fun j x hj=>absurd hj (Nat.not_lt_zero _)
theorem Bo (h:lD r i) (hx:r.ay[i]? =some x) (ho: ¬ o4 x):lD r (i+1):=fun j y hj hy=>by
 rcases Nat.lt_or_ge j i with q|q
 ·exact h j y q hy
 ·obtain rfl:j=i:=by omega
  rw [hx] at hy; cases hy; exact ho
theorem BV:mZ x 0:=fun j x hj=>absurd hj (Nat.not_lt_zero _)
theorem Bs (h:mZ x i) (hx:x[i]? =some d) (ho: ¬ 15<(d.cr.ag.length:Int)):mZ x (i+1):=fun j y hj hy=>by
 rcases Nat.lt_or_ge j i with q|q
 ·exact h j y q hy
 ·obtain rfl:j=i:=by omega
  rw [hx] at hy; cases hy; exact ho
theorem Et (hl: ¬ 8<(x.length:Int)) (h:mZ x i) (hi:x.length≤i): ¬ o4 x:=by
 rintro (q|⟨d,hd,q⟩)
 ·exact hl q
 ·obtain ⟨j,hj⟩:=List.getElem?_of_mem hd
  exact h j d (by have:=(List.getElem?_eq_some_iff.1 hj).1; omega) hj q
theorem GA (h1: ¬ mI r.ao) (h2: ¬ 8<(r.aQ.length:Int)∧ ¬ 8<(r.bQ.length:Int)∧ ¬ 5<(r.ay.length:Int)) (h:lD r i) (hi:r.ay.length≤i): ¬ ow r:=by
 rintro ((q|q)|⟨x,hx,q⟩)
 ·exact h1 q
 ·omega
 ·obtain ⟨j,hj⟩:=List.getElem?_of_mem hx
  exact h j x (by have:=(List.getElem?_eq_some_iff.1 hj).1; omega) hj q
theorem pa (h:mI r.ao∨8<(r.aQ.length:Int)∨8<(r.bQ.length:Int)∨5<(r.ay.length:Int)):ow r:= .inl h
theorem C7 (hx:r.ay[i]? =some x) (h:8<(x.length:Int)):ow r:= .inr ⟨x,aR hx,.inl h⟩
theorem En {j:Nat} (hx:r.ay[i]? =some x) (hd:x[j]? =some d) (h:15<(d.cr.ag.length:Int)):ow r:= .inr ⟨x,aR hx,.inr ⟨d,aR hd,h⟩⟩
end
noncomputable def oV (l:a_) (d:ax):aa:=if d.Out=true then dw else dx l d
theorem Ki {l:a_} {d:ax} (h:ig l d):oV l d=dx l d:=by
 unfold oV
 split
 ·rename_i q
  rw [FW q]
  rw [p_ q] at h
  exact h.2.1.symm
 ·rfl
theorem Az {l:a_} {d:ax} (h:d.Out=true):oV l d=dw:=if_pos h
theorem Fs {l:a_} {d:ax} (h:d.Out=false∧d.eH=true):oV l d=d.Time:=by unfold oV; rw [if_neg (by rw [h.1]; decide),Af h]
theorem Gp {l:a_} {d:ax} (h:d.Out=false∧d.eH=false):oV l d=zO l d.cr:=by unfold oV; rw [if_neg (by rw [h.1]; decide),vW h]
def SZ (r:bT) (j:Nat):Prop:= ∀ x,r.aQ[j]? =some x→(0≤x∧x≤9999)∧ ∀ y,0<j→r.aQ[j-1]? =some y→y<x
def Kd (r:bT) (j:Nat):Prop:= ∀ x,r.bQ[j]? =some x→(0≤x∧x≤(r.aQ.length:Int)-1)∧ ∀ (k:Nat) y,k<j→r.bQ[k]? =some y→y≠x
def xC (r:bT) (i:Nat):Prop:= ∀ j,j<i→SZ r j∧Kd r j
section
variable {r:bT} {i k:Nat} {x:Int}
theorem Kp:xC r 0:=fun j hj=>absurd hj (Nat.not_lt_zero _)
theorem BQ (h:xC r i) (h1:SZ r i) (h2:Kd r i):xC r (i+1):=fun j hj=>by
 rcases Nat.lt_or_ge j i with q|q
 ·exact h j q
 ·obtain rfl:j=i:=by omega
  exact ⟨h1,h2⟩
theorem xG {l:List Int} {u v:Int} (h: ∀ (q:Nat) y,q<k→l[q]? =some y→y≠v) (hx:l[k]? =some u) (hne: ¬ u=v): ∀ (q:Nat) y,q<k+1→l[q]? =some y→y≠v:=fun q y hq hy=>by
 rcases Nat.lt_or_ge q k with c|c
 ·exact h q y c hy
 ·obtain rfl:q=k:=by omega
  rw [hx] at hy; cases hy; exact hne
theorem It (hl:r.bQ.length=r.aQ.length) (h:xC r r.aQ.length):r.bQ.Perm (Hk r.aQ.length):=by
 have nd:r.bQ.Nodup:=by
  rw [List.nodup_iff_pairwise_ne,od]
  intro a b ha hb A
  exact ((h b I).2 _ (eE hb)).2 a _ A (eE ha)
 have hm: ∀ x∈r.bQ,x∈Hk r.aQ.length:=fun x hx=>by
  obtain ⟨j,hj⟩:=List.getElem?_of_mem hx
  have:=((h j (by have:=(List.getElem?_eq_some_iff.1 hj).1; omega)).2 x hj).1
  exact List.mem_map.2 ⟨x.toNat,List.mem_range.2 I,I⟩
 have ndu:(Hk r.aQ.length).Nodup:=by
  unfold Hk
  rw [List.nodup_iff_pairwise_ne,List.pairwise_map]
  exact List.pairwise_lt_range.imp fun h=>by omega
 have e:df r.bQ=(Hk r.aQ.length).filter fun x=>decide (x∈r.bQ):=by
  refine qQ k7 ((x4 _).filter _) (fx.nodup_iff.2 nd) (ndu.filter _) fun x=>?_
  rw [fx.mem_iff,List.mem_filter,decide_eq_true_eq]
  exact ⟨fun q=>⟨hm x q,q⟩,fun q=>q.2⟩
 have B:=congrArg List.length e
 rw [gh,hl] at B
 have C:(Hk r.aQ.length).filter (fun x=>decide (x∈r.bQ))=Hk r.aQ.length:=List.filter_sublist.eq_of_length (by rw [← B]; simp)
 rw [C] at e
 rw [← e]; exact fx.symm
theorem G2 {n:Nat} (h1:1≤(r.aQ.length:Int)∧(r.aQ.length:Int)≤5) (h2:r.bQ.length=r.aQ.length) (h3:0≤r.iI∧r.iI≤5) (h4:1≤(r.ay.length:Int)∧(r.ay.length:Int)≤3)
 (hn:n=r.aQ.length) (h6:xC r n) (h7:j6 r i) (hi:r.ay.length≤i):eP r:=by
 subst hn
 refine ⟨h1,h3,h4,fun k x hx=>(h6 k (List.getElem?_eq_some_iff.1 hx).1).1 x hx,It h2 h6,fun h hh=>?_⟩
 obtain ⟨j,hj⟩:=List.getElem?_of_mem hh
 exact h7 j h (by have:=(List.getElem?_eq_some_iff.1 hj).1; omega) hj
theorem eP.JQ (h:eP r) (hx:r.bQ[i]? =some x):0≤x∧x≤(r.aQ.length:Int)-1:=by
 obtain ⟨k,hk,rfl⟩:=List.mem_map.1 (h.draw.mem_iff.1 (aR hx))
 have:=List.mem_range.1 hk
 omega
theorem eP.QM (h:eP r):r.bQ.Nodup:=by
 refine h.draw.nodup_iff.2 ?_
 rw [List.nodup_iff_pairwise_ne,List.pairwise_map]
 exact List.pairwise_lt_range.imp fun h=>by omega
theorem eP.Pu (h:eP r) {u v:Int} (hki:k<i) (hu:r.bQ[k]? =some u) (hv:r.bQ[i]? =some v): ¬ u=v:=by
 have A:=h.QM
 rw [List.nodup_iff_pairwise_ne,od] at A
 obtain ⟨a,ea⟩:=List.getElem?_eq_some_iff.1 hu
 obtain ⟨b,eb⟩:=List.getElem?_eq_some_iff.1 hv
 subst ea eb
 exact A k i a b hki
end
section
variable {r:bT} {i k n:Nat} {s:aa} {l:a_} {hs:List (List ax)}
end
section
variable {r:bT} {i x:Int} {own s:aa} {k:Nat} {ys zs:List Int}
end
section
variable {B:List Bool} {P Q:Int→Prop} {k x:Nat} {m:gX} {i y a b:Int} {ys:List Int}
end
theorem ED {r:bT} {i:Int}:(gP r i).length≤r.aQ.length:=by
 unfold gP
 split
 ·unfold c_
  refine Nat.le_trans (List.length_filter_le _ _) ?_
  rw [List.length_map,List.length_range]
  exact uD
 ·simp
end
section
theorem EW {α:Type} {P Q:α→Bool}: ∀ {m:List α} {x:α},(∀ p∈m,P p=true→Q p=true)→x∈m→Q x=true→P x=false→m.countP P+1≤m.countP Q
 |[],x,h,hx,_,_=>by cases hx
 |y::m,x,h,hx,hq,hp=>by
  have hy:=h y cb
  have hm:=fun p q=>h p (cQ _ q)
  rw [List.countP_cons,List.countP_cons]
  rcases List.mem_cons.1 hx with rfl|hx
  ·rw [if_pos hq,if_neg (by rw [hp]; decide)]
   have:=List.countP_mono_left (l:=m) (p:=P) (q:=Q) hm
   omega
  ·have:=EW hm hx hq hp
   split
   ·rw [if_pos (hy asm)]; omega
   ·split<;>omega
theorem tp: ∀ {m:gX} {a:Int} {s:aa},m.lookup a=some s→(a,s)∈m
 |[],a,s,h=>by cases h
 |(b,u)::m,a,s,h=>by
  by_cases e:a=b
  ·subst e
   simp [List.lookup] at h; subst h; exact cb
  ·have:(a==b)=false:=by simpa using e
   simp only [List.lookup,this] at h
   exact cQ _ (tp h)
theorem Am: ∀ {m:gX} {a:Int} {s:aa},(m.map (·.1)).Nodup→(a,s)∈m→m.lookup a=some s
 |[],a,s,_,h=>by cases h
 |(b,u)::m,a,s,hn,h=>by
  rw [List.map_cons,List.nodup_cons] at hn
  rcases List.mem_cons.1 h with e|h
  ·cases e; simp [List.lookup]
  ·have e:a≠b:=fun e=>hn.1 (by rw [← e]; exact List.mem_map_of_mem (f:=(·.1)) h)
   have:(a==b)=false:=by simpa using e
   simp only [List.lookup,this]
   exact Am hn.2 h
/-- sums, each of another sled -/
structure kE (m:gX):Prop where
 nd:(m.map (·.1)).Nodup
 le: ∀ p∈m,p.2.Lo≤p.2.Hi
theorem F0 {r:bT} (h:cK r=0):kE (aF r):=⟨m_,fun p hp=>(nH h p hp).2.1⟩
section
variable {m:gX} {a b i n:Int} {s t own:aa}
theorem kE.at (h:kE m) (hs:m.lookup a=some s):s.Lo≤s.Hi:=h.le _ (tp hs)
theorem kE.one (h:kE m) (hs:m.lookup a=some s) {p:Int×aa} (hp:p∈m) (e:p.1=a):p.2=s:=by
 obtain ⟨x,y⟩:=p
 cases e
 have:=Am h.nd hp
 rw [hs] at this; cases this; rfl
theorem kE.sm (h:kE m):gG m i n≤jr m i n:=by
 rw [k8,nD]
 refine List.countP_mono_left fun p hp q=>?_
 have:=h.le p hp
 simp only [cJ,decide_eq_true_eq] at q ⊢
 exact ⟨I,q.2⟩
theorem CZ:(c_ m i own).Pairwise (· < ·):=by
 unfold c_
 refine List.Pairwise.filter _ ?_
 rw [List.pairwise_map]
 exact List.pairwise_lt_range.imp fun h=>by omega
theorem BJ (h:kE m) (hs:m.lookup i=some s):(gG m i s.Lo:Int)+1∈c_ m i s:=by
 have A:=h.at hs
 have B:=h.sm (i:=i) (n:=s.Lo)
 exact (qW (by rw [hs]; simp)).2 ((qd A).2 ⟨s.Lo,Int.le_refl _,A,Int.le_refl _,I⟩)
theorem Eo (h:kE m) (hs:m.lookup i=some s):(jr m i s.Hi:Int)+1∈c_ m i s:=by
 have A:=h.at hs
 have B:=h.sm (i:=i) (n:=s.Hi)
 exact (qW (by rw [hs]; simp)).2 ((qd A).2 ⟨s.Hi,A,Int.le_refl _,I,Int.le_refl _⟩)
theorem Bv (h:kE m) (hs:m.lookup i=some s) {x:Int} (hx:x∈c_ m i s):(gG m i s.Lo:Int)+1≤x∧x≤(jr m i s.Hi:Int)+1:=by
 obtain ⟨y,A,B,C,D⟩:=(qd (h.at hs)).1 ((qW (by rw [hs]; simp)).1 hx)
 have:=H7 (m:=m) (i:=i) A
 have:=LC (m:=m) (i:=i) B
 omega
theorem L5 {l:List Int} {x y:Int} (h:l.Pairwise (· < ·)) (hx:l[0]? =some x) (hy:y∈l):x≤y:=by
 cases l with
 |nil=>cases hy
 |cons z l=>
  simp at hx; subst hx
  rcases List.mem_cons.1 hy with rfl|hy
  ·exact Int.le_refl _
  ·exact Int.le_of_lt ((List.pairwise_cons.1 h).1 y hy)
theorem MD {l:List Int} {x y:Int} (h:l.Pairwise (· < ·)) (hx:l[l.length-1]? =some x) (hy:y∈l):y≤x:=by
 obtain ⟨k,hk,rfl⟩:=List.mem_iff_getElem.1 hy
 obtain ⟨hl,rfl⟩:=List.getElem?_eq_some_iff.1 hx
 rcases Nat.lt_or_ge k (l.length-1) with c|c
 ·exact Int.le_of_lt (List.pairwise_iff_getElem.1 h k (l.length-1) hk hl c)
 ·have:k=l.length-1:=by omega
  subst this; exact Int.le_refl _
theorem wY (h:kE m) (hs:m.lookup i=some s) {x:Int} (hx:(c_ m i s)[0]? =some x):x=(gG m i s.Lo:Int)+1:=by
 have A:=L5 CZ hx (BJ h hs)
 have B:=(Bv h hs (aR hx)).1
 omega
theorem zc (h:kE m) (hs:m.lookup i=some s) {x:Int} (hx:(c_ m i s)[(c_ m i s).length-1]? =some x):x=(jr m i s.Hi:Int)+1:=by
 have A:=MD CZ hx (Eo h hs)
 have B:=(Bv h hs (aR hx)).2
 omega
/-- who is surely before has a lesser rank, at the least and at the most -/
theorem Cz (h:kE m) (hs:m.lookup a=some s) (ht:m.lookup b=some t) (hab:a≠b) (hl:s.Hi<t.Lo):gG m a s.Lo+1≤gG m b t.Lo∧jr m a s.Hi+1≤jr m b t.Hi:=by
 have A:=h.at hs
 have B:=h.at ht
 constructor
 ·rw [k8,k8]
  refine EW (x:=(a,s)) (fun p hp q=>?_) (tp hs) ?_ ?_
  ·simp only [cJ,decide_eq_true_eq,Bool.not_eq_true',decide_eq_false_iff_not] at q ⊢
   exact ⟨I,fun e=>by have:=h.one ht hp e; rw [this] at q; omega⟩
  ·simp only [cJ,decide_eq_true_eq,Bool.not_eq_true',decide_eq_false_iff_not]; exact ⟨hl,hab⟩
  ·simp
 ·rw [nD,nD]
  refine EW (x:=(a,s)) (fun p hp q=>?_) (tp hs) ?_ ?_
  ·simp only [cJ,decide_eq_true_eq,Bool.not_eq_true',decide_eq_false_iff_not] at q ⊢
   exact ⟨I,fun e=>by have:=h.one ht hp e; rw [this] at q; omega⟩
  ·simp only [cJ,decide_eq_true_eq,Bool.not_eq_true',decide_eq_false_iff_not]; exact ⟨I,hab⟩
  ·simp
/-- who is surely tied has the same ranks -/
theorem HW (h:kE m) (hs:m.lookup a=some s) (ht:m.lookup b=some s) (he:s.Lo=s.Hi):c_ m a s=c_ m b s:=by
 have C:gG m a s.Lo=gG m b s.Lo:=by
  rw [k8,k8]
  apply List.countP_congr
  intro p hp
  simp only [cJ,decide_eq_true_eq,Bool.not_eq_true',decide_eq_false_iff_not]
  exact ⟨fun q=>⟨q.1,fun e=>by have:=h.one ht hp e; rw [this] at q; omega⟩,fun q=>⟨q.1,fun e=>by have:=h.one hs hp e; rw [this] at q; omega⟩⟩
 have D:jr m a s.Lo=jr m b s.Lo:=by
  rw [nD,nD]
  apply List.countP_congr
  intro p hp
  simp only [cJ,decide_eq_true_eq,Bool.not_eq_true',decide_eq_false_iff_not]
  exact ⟨fun q=>⟨q.1,fun e=>by have:=h.one ht hp e; rw [this] at q; omega⟩,fun q=>⟨q.1,fun e=>by have:=h.one hs hp e; rw [this] at q; omega⟩⟩
 unfold c_
 congr 1
 funext k
 rw [RN,qd (h.at hs),qd (h.at hs)]
 constructor<;>rintro ⟨x,A,B,E,F⟩<;>(have:x=s.Lo:=by omega)<;>subst this<;>exact ⟨s.Lo,A,B,I,I⟩
end
section
variable {r:bT} {a b i:Int} {s t:aa}
/-- what is known of two sleds that have sums -/
structure FK (r:bT) (a b:Int) (s t:aa):Prop where
 ne:a≠b
 yp:kE (aF r)
 sa:(aF r).lookup a=some s
 sb:(aF r).lookup b=some t
 ea:jI r a=0
 eb:jI r b=0
 va:py r a=s
 vb:py r b=t
 ra:gP r a=c_ (aF r) a s
 rb:gP r b=c_ (aF r) b t
 Vx:oq r a b=vz s t
 PD:oq r b a=vz t s
 tied:pP r a b=qo s t
theorem Oi (he:cK r=0) (hi:rv r i) (hl:(aF r).lookup i=some s):jI r i=0∧py r i=s∧gP r i=c_ (aF r) i s:=by
 have h:jI r i=0:=by unfold jI; rw [if_pos he,if_pos hi,hl]; rfl
 have A:aA (aF r) i=s:=by unfold aA; rw [hl]; rfl
 exact ⟨h,by unfold py; rw [if_pos h,A],by rw [zB h,A]⟩
theorem FK.tie (h:FK r a b s t) (e:pP r a b=2):s=t∧s.Lo=s.Hi∧gP r a=gP r b∧oq r a b=0∧oq r b a=0:=by
 rw [h.tied] at e
 unfold qo at e
 split at e
 ·rename_i q
  obtain ⟨rfl,q⟩:=q
  have hb:vz s s=0:=by unfold vz; rw [if_neg I,if_neg I]
  exact ⟨U,q,by rw [h.ra,h.rb,HW h.yp h.sa h.sb q],h.Vx.trans hb,h.PD.trans hb⟩
 ·split at e<;>cases e
theorem FK.before (h:FK r a b s t) (e:oq r a b=2):oq r b a=0∧pP r a b=0∧(∀ x y,(gP r a)[0]? =some x→(gP r b)[0]? =some y→x<y)∧ ∀ x y,(gP r a)[(gP r a).length-1]? =some x→(gP r b)[(gP r b).length-1]? =some y→x<y:=by
 have A:=h.yp.at h.sa
 have B:=h.yp.at h.sb
 rw [h.Vx] at e
 have hl:s.Hi<t.Lo:=by
  unfold vz at e
  split at e
  ·assumption
  ·split at e<;>cases e
 have hc:=Cz h.yp h.sa h.sb h.ne hl
 refine ⟨h.PD.trans (by unfold vz; rw [if_neg I,if_neg I]),h.tied.trans (by unfold qo; rw [if_neg fun q=>by have:=q.1; subst this; omega,if_neg I]),fun x y hx hy=>?_,fun x y hx hy=>?_⟩
 ·rw [h.ra] at hx; rw [h.rb] at hy
  have:=wY h.yp h.sa hx
  have:=wY h.yp h.sb hy
  omega
 ·rw [h.ra] at hx; rw [h.rb] at hy
  have:=zc h.yp h.sa hx
  have:=zc h.yp h.sb hy
  omega
end
end
section
section
variable {r:bT} {h i:Nat} {ht:List ax} {d:ax} {bl:List Int} {n:Int} {out:Bool}
structure KO (r:bT) (h i:Nat) (d:ax):Prop where
 off:d.Out=true→mN r ↑h ↑i=6
 on:d.Out=false→mN r ↑h ↑i=0∧hZ r ↑h ↑i=dx r.ao d
 b:0≤(hZ r ↑h ↑i).Lo∧(hZ r ↑h ↑i).Lo≤(hZ r ↑h ↑i).Hi∧(hZ r ↑h ↑i).Hi≤86400000
 at_:(r.ay[h]?).bind (·[i]?)=some d
theorem KO.same (q:KO r h i d):d.Out=decide (mN r ↑h ↑i=6):=by
 cases ho:d.Out with
 |true=>rw [q.off ho]; rfl
 |false=>rw [(q.on ho).1]; rfl
end
/-- the sums of the first sleds -/
noncomputable def jO (r:bT) (i:Nat):gX:=(List.range i).filterMap fun q=>(fJ r.ao r.ay q r.ay.length).map fun s=>((q:Int),s)
section
variable {r:bT} {i:Nat} {k:Int}
theorem vd:jO r (i+1)=jO r i++((fJ r.ao r.ay i r.ay.length).map fun s=>((i:Int),s)).toList:=by
 unfold jO
 rw [List.range_succ,List.filterMap_append]
 cases h:fJ r.ao r.ay i r.ay.length<;>simp [h]
theorem Dz:(jO r i).lookup (i:Int)=none:=by
 rw [g0]
 intro p hp e
 unfold jO at hp
 obtain ⟨q,hq,A⟩:=List.mem_filterMap.1 hp
 obtain ⟨s,_,rfl⟩:=Option.map_eq_some_iff.1 A
 have:=List.mem_range.1 hq
 simp only at e; omega
theorem BE (hi:i<r.aQ.length):(aF r).lookup (i:Int)=fJ r.ao r.ay i r.ay.length:=by unfold aF; rw [Bl,if_pos hi]
theorem Bj (he:cK r=0) (hi:rv r k):(jI r k=0∧((aF r).lookup k).isSome=true)∨(jI r k=6∧((aF r).lookup k).isSome=false):=by
 cases h:((aF r).lookup k).isSome with
 |true=>exact .inl ⟨FV he hi h,rfl⟩
 |false=>exact .inr ⟨zC he hi h,rfl⟩
theorem Ca (he:cK r=0) (hi:i<r.aQ.length) (h:jI r (i:Int)=0):dL (jO r i) (i:Int) (py r (i:Int))=jO r (i+1):=by
 obtain ⟨_,A,hl⟩:=uJ h
 obtain ⟨s,hs⟩:=Option.ne_none_iff_exists'.1 hl
 have e:fJ r.ao r.ay i r.ay.length=some s:=(BE hi).symm.trans hs
 have hv:=(Oi he A hs).2.1
 rw [vd,e,hv]
 unfold dL; rw [Dz]; rfl
theorem zq (he:cK r=0) (hi:i<r.aQ.length) (h: ¬ jI r (i:Int)=0):jO r i=jO r (i+1):=by
 have A:rv r (i:Int):=by unfold rv; omega
 rcases Bj he A with ⟨C,_⟩|⟨_,B⟩
 ·exact absurd C h
 ·rw [BE hi] at B
  rw [vd,Option.isSome_eq_false_iff.1 B |> Option.isNone_iff_eq_none.1]
  simp
end
end
section
open Go.RowKit
section
variable {r:bT} {h i:Int} {t:aa} {k:Nat}
end
/-- there is a table -/
theorem tL {r:bT} (he:cK r=0): ∃ G,gW (aA (aF r)) ((aF r).map (·.1)) G∧AA G:=by
 have key: ∀ (L:List Int),Dy (fun u=>(aA (aF r) u).Lo) L→ ∀ i,i≤L.length→ ∃ G last,mq (aA (aF r)) (L.take i) G last:=fun L B i=>by
  induction i with
  |zero=>intro _; exact ⟨[],-1,FF⟩
  |succ i ih=>
   intro hi
   obtain ⟨G,last,hG⟩:=ih I
   have hx:L[i]? =some (L[i]'I):=eE _
   have C:=gK (i:=L[i]'I) (nH he)
   by_cases hl:last<(aA (aF r) (L[i]'I)).Lo
   ·obtain ⟨g,hg⟩: ∃ g,(G++[[]])[(G++[([]:List Int)]).length-1]? =some g:=⟨_,eE sm⟩
    exact ⟨_,_,po I hx hg hG hl⟩
   ·have hp:=FG C.1 hG hl
    obtain ⟨g,hg⟩: ∃ g,G[G.length-1]? =some g:=⟨_,eE I⟩
    exact ⟨_,_,ot I (fun u _=>(gK (i:=u) (nH he)).2.1) B hx hg hG hl⟩
 obtain ⟨G,last,hG⟩:=key (ep (fun u=>(aA (aF r) u).Lo) ((aF r).map (·.1))) uL _ (Nat.le_refl _)
 have A:=uZ hG.ok
 rw [List.take_length] at A
 exact ⟨_,qp A.1 qx,A.2⟩
theorem qF {r:bT}:(cd r).length≤1000000∧ ∀ l∈cd r,l.length≤1000000:=by
 by_cases he:cK r=0
 ·have E:(aF r).length≤5:=mg he
  have A: ∃ G,gW (aA (aF r)) ((aF r).map (·.1)) G∧AA G:=by
   refine Classical.byContradiction fun hn=>?_
   exact hn (tL he)
  obtain ⟨G,hG,hA⟩:=A
  rw [← qI he hG hA]
  have C:=hG.perm.length_eq
  rw [List.length_map] at C
  have B: ∀ G:List (List Int),(∀ g∈G,g≠[])→G.length≤G.flatten.length:=fun G=>by
   induction G with
   |nil=>intro _; simp
   |cons g G ih=>
    intro hG
    have B:=ih fun y hy=>hG y (cQ _ hy)
    have D:=List.length_pos_iff.2 (hG g cb)
    simp only [List.flatten_cons,List.length_cons,List.length_append]; omega
  refine ⟨by have:=B G hG.some_; omega,fun l hl=>?_⟩
  have D:l.length≤G.flatten.length:=(List.sublist_flatten_of_mem hl).length_le
  omega
 ·rw [Bu he]; simp
theorem Dh {r:bT} {h i:Int} {t:aa}:(eN r h i t).length≤r.aQ.length:=by
 unfold eN
 split
 ·refine Nat.le_trans (List.length_filter_le _ _) ?_
  rw [gh,List.length_map]
  exact uD
 ·simp
end
section
theorem zK {s:Nat}: ∀ {n:Nat},(∀ x,x<n→s/2^x % 2=0)→s % 2^n=0
 |0,_=>by simp [Nat.mod_one]
 |n+1,h=>by rw [Nat.mod_pow_succ,zK (n:=n) fun x hx=>h x I,h n I]; rfl
theorem zw {s:Nat}: ∀ {n:Nat},(∀ x,x<n→s/2^x % 2=1)→s % 2^n+1=2^n
 |0,_=>by simp [Nat.mod_one]
 |n+1,h=>by
  have A:=zw (s:=s) (n:=n) fun x hx=>h x I
  rw [Nat.mod_pow_succ,h n I,Nat.pow_succ]; omega
theorem MP {s n:Nat} (h0:1≤s) (h:s<2^n): ∃ x,x<n∧s/2^x % 2=1:=by
 refine Classical.byContradiction fun q=>?_
 have:=zK (s:=s) (n:=n) fun x hx=>by
  rcases Nat.mod_two_eq_zero_or_one (s/2^x) with c|c
  ·exact c
  ·exact absurd ⟨x,hx,c⟩ q
 rw [Nat.mod_eq_of_lt h] at this; omega
theorem IF {s n:Nat} (h:s+1<2^n): ∃ x,x<n∧s/2^x % 2=0:=by
 refine Classical.byContradiction fun q=>?_
 have:=zw (s:=s) (n:=n) fun x hx=>by
  rcases Nat.mod_two_eq_zero_or_one (s/2^x) with c|c
  ·exact absurd ⟨x,hx,c⟩ q
  ·exact c
 rw [Nat.mod_eq_of_lt I] at this; omega
section
variable {f:Int→aa} {g:List Int}
/-- whatever some of a group are, they are not all surely before all others of it -/
theorem E6 (ht:E7 f g) (hle: ∀ i∈g,(f i).Lo≤(f i).Hi) {s:Nat} (h0:1≤s) (h1:s+1<2^g.length)
 (h: ∀ (x y:Nat) i k,g[x]? =some i→g[y]? =some k→s/2^x % 2=1→s/2^y % 2=0→(f i).Hi<(f k).Lo):False:=by
 obtain ⟨x,hx,A⟩:=MP h0 (show s<2^g.length by omega)
 obtain ⟨y,hy,B⟩:=IF h1
 have hB: ∀ k,k∈((List.range g.length).filter fun y=>decide (s/2^y % 2=0)).filterMap (fun y=>g[y]?)↔ ∃ y,g[y]? =some k∧s/2^y % 2=0:=fun k=>by
  rw [List.mem_filterMap]
  constructor
  ·rintro ⟨y,hy,e⟩; exact ⟨y,e,of_decide_eq_true (List.mem_filter.1 hy).2⟩
  ·rintro ⟨y,e,q⟩; exact ⟨y,List.mem_filter.2 ⟨List.mem_range.2 (List.getElem?_eq_some_iff.1 e).1,fI q⟩,e⟩
 obtain ⟨b,hb,hm⟩:=tx (f:=f) (g:=((List.range g.length).filter fun y=>decide (s/2^y % 2=0)).filterMap (fun y=>g[y]?)) fun e=>by
  have:=(hB g[y]).2 ⟨y,eE hy,B⟩
  rw [e] at this; cases this
 obtain ⟨yb,eb,qb⟩:=(hB b).1 hb
 have hA: ∀ (z:Nat) i,g[z]? =some i→s/2^z % 2=1→(f i).Hi<(f b).Lo:=fun z i ez qz=>h z yb i b ez eb qz qb
 have ha:=hA x g[x] (eE hx) A
 have C:=hle g[x] (List.getElem_mem hx)
 obtain ⟨c,hc,D,E⟩:=ht (f b).Lo ⟨g[x],List.getElem_mem hx,I⟩ ⟨b,aR eb,Int.le_refl _⟩
 obtain ⟨z,hz,rfl⟩:=List.mem_iff_getElem.1 hc
 rcases Nat.mod_two_eq_zero_or_one (s/2^z) with q|q
 ·have:=hm _ ((hB g[z]).2 ⟨z,eE hz,q⟩); omega
 ·have:=hA z g[z] (eE hz) q; omega
end
def mB (pre:List Int):List (Int×Bool):=pre.map fun k=>(k,true)
section
variable {pre:List Int} {k:Int}
theorem Gr (h:k ∉ pre):(mB pre).lookup k=none:=g0.2 fun p hp e=>by
 obtain ⟨x,hx,rfl⟩:=List.mem_map.1 hp
 exact h (by rw [← e]; exact hx)
theorem CA (h:k ∉ pre):dL (mB pre) k true=mB (pre++[k]):=by
 unfold dL
 rw [Gr h]
 simp [mB]
end
structure lv (r:bT) (G:List (List Int)):Prop where
 ok:gW (aA (aF r)) ((aF r).map (·.1)) G
 VB:AA G
 nd:G.flatten.Nodup
section
variable {r:bT} {G:List (List Int)} {g h:List Int} {a b x:Nat} {i k:Int}
theorem lv.nodup (ht:lv r G) (hg:G[a]? =some g):g.Nodup:=by
 have A:=ht.nd
 unfold List.Nodup at A
 rw [List.pairwise_flatten] at A
 exact A.1 g (aR hg)
theorem lv.runs (ht:lv r G) (hg:G[a]? =some g) (hi:g[x]? =some i): ∃ s,(aF r).lookup i=some s:=by
 have A:i∈G.flatten:=List.mem_flatten.2 ⟨g,aR hg,aR hi⟩
 obtain ⟨p,hp,rfl⟩:=List.mem_map.1 (ht.ok.perm.mem_iff.1 A)
 exact ⟨p.2,Am m_ hp⟩
/-- each is greater than the one ahead of it in its group -/
theorem lv.up (ht:lv r G) (hg:G[a]? =some g) (hi:g[x]? =some i) (hx:0<x) (hk:g[x-1]? =some k):k<i:=by
 have C:=ht.VB g (aR hg)
 have B:=ht.nodup hg
 obtain ⟨hl,rfl⟩:=List.getElem?_eq_some_iff.1 hi
 obtain ⟨A,rfl⟩:=List.getElem?_eq_some_iff.1 hk
 have D:=List.pairwise_iff_getElem.1 C (x-1) x A hl I
 unfold List.Nodup at B
 have E:=List.pairwise_iff_getElem.1 B (x-1) x A hl I
 omega
/-- who is looked at was not seen -/
theorem lv.new (ht:lv r G) (hg:G[a]? =some g) (hi:g[x]? =some i):i ∉ (G.take a).flatten++g.take x:=by
 intro hm
 obtain ⟨hl,rfl⟩:=List.getElem?_eq_some_iff.1 hi
 obtain ⟨ha,e⟩:=List.getElem?_eq_some_iff.1 hg
 have A:=ht.nd
 have C:=ht.nodup hg
 unfold List.Nodup at A C
 rw [List.pairwise_flatten] at A
 rcases List.mem_append.1 hm with q|q
 ·obtain ⟨y,hy,B⟩:=List.mem_flatten.1 q
  obtain ⟨j,hj,ej⟩:=List.mem_iff_getElem.1 hy
  rw [List.length_take] at hj
  rw [List.getElem_take] at ej
  have D:=List.pairwise_iff_getElem.1 A.2 j a I ha I
  rw [ej,e] at D
  exact D _ B _ (List.getElem_mem hl) U
 ·obtain ⟨j,hj,ej⟩:=List.mem_iff_getElem.1 q
  rw [List.length_take] at hj
  rw [List.getElem_take] at ej
  exact List.pairwise_iff_getElem.1 C j x I hl I ej
theorem lv.before (ht:lv r G) (he:cK r=0) (hg:G[a]? =some g) (hh:G[a+1]? =some h) (hi:i∈g) (hk:k∈h):mu r i k=0∧oq r i k=2:=by
 obtain ⟨x,hx⟩:=List.getElem?_of_mem hi
 obtain ⟨y,hy⟩:=List.getElem?_of_mem hk
 obtain ⟨s,hs⟩:=ht.runs hg hx
 obtain ⟨t,A⟩:=ht.runs hh hy
 obtain ⟨ha,eg⟩:=List.getElem?_eq_some_iff.1 hg
 obtain ⟨hb,eh⟩:=List.getElem?_eq_some_iff.1 hh
 have D:=List.pairwise_iff_getElem.1 ht.ok.apart a (a+1) ha hb I
 rw [eg,eh] at D
 have C:=D i hi k hk
 have F:aA (aF r) i=s:=by unfold aA; rw [hs]; rfl
 have AA:aA (aF r) k=t:=by unfold aA; rw [A]; rfl
 have E:i≠k:=fun e=>by
  subst e
  have:=(F0 he).at hs
  rw [hs] at A; cases A
  rw [F] at C; omega
 have B: ∀ {i:Int} {s:aa},(aF r).lookup i=some s→rv r i:=fun {i s} e=>by
  obtain ⟨q,D,C,H⟩:=uK (tp e)
  unfold rv; simp only at C; omega
 have e:mu r i k=0:=by unfold mu; rw [if_pos he,if_pos ⟨B hs,B A,E⟩,hs,A]; simp
 exact ⟨e,by unfold oq; rw [if_pos e]; unfold vz; rw [if_pos C]⟩
/-- some of a group are not all before all others -/
theorem lv.part (ht:lv r G) (he:cK r=0) (hg:G[a]? =some g) {s:Nat} (h0:1≤s) (h1:s+1<2^g.length)
 (h: ∀ (x y:Nat) i k,g[x]? =some i→g[y]? =some k→s/2^x % 2=1→s/2^y % 2=0→oq r i k=2):False:=by
 refine E6 (ht.ok.tight g (aR hg)) (fun i hi=>?_) h0 h1 fun x y i k hx hy B C=>?_
 ·obtain ⟨x,hx⟩:=List.getElem?_of_mem hi
  obtain ⟨s,hs⟩:=ht.runs hg hx
  have A:aA (aF r) i=s:=by unfold aA; rw [hs]; rfl
  rw [A]; exact (F0 he).at hs
 ·have e:=h x y i k hx hy B C
  unfold oq at e
  split at e
  ·unfold vz at e
   split at e
   ·assumption
   ·split at e<;>cases e
  ·cases e
theorem Qc (he:cK r=0):lv r (cd r):=by
 obtain ⟨G,A,B⟩:=tL he
 have e:=qI he A B
 rw [← e]
 exact ⟨A,B,A.perm.nodup_iff.2 m_⟩
theorem lv.count (ht:lv r G):G.flatten.length=(aF r).length:=by
 have:=ht.ok.perm.length_eq
 rw [List.length_map] at this; exact this
end
def lE (r:bT) (g:List Int) (s x y:Nat) (p:Bool):Prop:=p=true→ ∀ (u v:Nat) (i k:Int),(u<x∨(u=x∧v<y))→g[u]? =some i→g[v]? =some k→s/2^u % 2=1→s/2^v % 2=0→oq r i k=2
section
variable {r:bT} {g:List Int} {s x y:Nat} {p:Bool} {i k:Int}
theorem GZ:lE r g s 0 0 true:=fun _ u v i k h=>by omega
theorem I_ (h:lE r g s x y p) (hy:g.length≤y):lE r g s (x+1) 0 p:=fun hp u v i k hu gi gk=>by
 have hv:=(List.getElem?_eq_some_iff.1 gk).1
 exact h hp u v i k I gi gk
theorem oR (h:lE r g s x y p) (hb:s/2^x % 2=0∨s/2^y % 2=1):lE r g s x (y+1) p:=fun hp u v i k hu gi gk A B=>by
 by_cases c:u=x∧v=y
 ·obtain ⟨rfl,rfl⟩:=c; omega
 ·exact h hp u v i k I gi gk A B
theorem tv:lE r g s x y false:=fun h=>by cases h
theorem qa (h:lE r g s x y p) (hp:p=true) (hx:g[x]? =some i) (hy:g[y]? =some k):lE r g s x (y+1) (decide (oq r i k=2)):=fun hb u v i' k' hu gi gk A B=>by
 by_cases c:u=x∧v=y
 ·obtain ⟨rfl,rfl⟩:=c
  rw [hx] at gi; rw [hy] at gk
  cases gi; cases gk
  exact of_decide_eq_true hb
 ·exact h hp u v i' k' I gi gk A B
theorem KZ {G:List (List Int)} {a:Nat} (ht:lv r G) (he:cK r=0) (hg:G[a]? =some g) (h0:1≤s) (h1:s+1<2^g.length) (h:lE r g s x y p) (hx:g.length≤x):p=false:=by
 cases p with
 |false=>rfl
 |true=>exact (ht.part he hg h0 h1 fun u v i k gi gk A B=>h rfl u v i k (by have:=(List.getElem?_eq_some_iff.1 gi).1; omega) gi gk A B).elim
end
theorem lv.small {r:bT} {G:List (List Int)} {g:List Int} {a:Nat} (ht:lv r G) (he:cK r=0) (hg:G[a]? =some g):g.length≤5:=by
 have A:=(List.sublist_flatten_of_mem (aR hg)).length_le
 have B:=ht.count
 have C:=mg he
 omega
theorem KI {G:List (List Int)} {g:List Int} {a:Nat} (hg:G[a]? =some g):(G.take a).flatten++g=(G.take (a+1)).flatten:=by
 rw [List.take_add_one,hg,List.flatten_append]; simp
end
section
open Go.RowKit
section
variable {P:Program} {t:TypeId} {x y:Operand}
theorem Jk {s i:Nat} {j:Int} {yk:IntKind} (hj:j=(i:Int)) (hi:i≤64):gJ P .shr t x y (.int .i64 (s:Int)) (.int yk j) (.int .i64 ((s/2^i:Nat):Int)):=fun w=>by
 subst hj
 have B: ¬ ((i:Int)<0):=by omega
 have C:min i 64=i:=by omega
 have e:Int.fdiv (s:Int) (2^i)=((s/2^i:Nat):Int):=by
  rw [Int.fdiv_eq_ediv_of_nonneg _ (Int.pow_nonneg I)]
  rw [Int.natCast_ediv]; simp
 have A:Op.shift .shr .i64 (s:Int) yk (i:Int)=(pure (.int .i64 ((s/2^i:Nat):Int)):Sem Value):=by
  unfold Op.shift
  rw [if_neg B]
  show (pure (.int .i64 (Int.fdiv (s:Int) (2^(min (i:Int).toNat 64)))):Sem Value)=_
  rw [Int.toNat_natCast,C,e]
 simp only [eqGuard_shr,binOp_shr,A]
 rfl
theorem PS {i:Nat} {j:Int} {yk:IntKind} (hj:j=(i:Int)) (hi:i≤62):gJ P .shl t x y (.int .i64 1) (.int yk j) (.int .i64 ((2^i:Nat):Int)):=fun w=>by
 subst hj
 have B: ¬ ((i:Int)<0):=by omega
 have C:min i 64=i:=by omega
 have hp:(2^i:Nat)≤4611686018427387904:=Nat.pow_le_pow_right (n:=2) I hi
 have hw:IntKind.i64.wrap ((2:Int)^i)=((2^i:Nat):Int):=by
  have:((2^i:Nat):Int)=(2:Int)^i:=by simp
  rw [← this]
  generalize (2^i:Nat)=q at hp
  exact lY ⟨I,I⟩
 have A:Op.shift .shl .i64 1 yk (i:Int)=(pure (.int .i64 ((2^i:Nat):Int)):Sem Value):=by
  unfold Op.shift
  rw [if_neg B]
  show (pure (.int .i64 (IntKind.i64.wrap (1*2^(min (i:Int).toNat 64)))):Sem Value)=_
  rw [Int.toNat_natCast,C,Int.one_mul,hw]
 simp only [eqGuard_shl,binOp_shl,A]
 rfl
theorem Mz {m:Nat} (hm:m<2^63):((BitVec.ofInt 64 (m:Int)) &&& (BitVec.ofInt 64 1)).toNat=m % 2:=by
 have A:BitVec.ofInt 64 (m:Int)=BitVec.ofNat 64 m:=by simp
 have B:BitVec.ofInt 64 1=BitVec.ofNat 64 1:=by rfl
 rw [A,B,BitVec.toNat_and,BitVec.toNat_ofNat,BitVec.toNat_ofNat,Nat.mod_eq_of_lt I,show 1 % 2^64=1 by rfl,Nat.and_one_is_mod]
theorem KH {m:Nat} {a:Int} (ha:a=(m:Int)) (hm:m<2^63):gJ P .and t x y (.int .i64 a) (.int .i64 1) (.int .i64 ((m % 2:Nat):Int)):=fun w=>by
 subst ha
 have h:=Mz hm
 have hw:IntKind.i64.wrap (((m % 2:Nat)):Int)=((m % 2:Nat):Int):=lY ⟨I,I⟩
 have e:Op.intBits .and .i64 (m:Int) 1=(pure (.int .i64 ((m % 2:Nat):Int)):Sem Value):=by
  show (pure (.int .i64 (IntKind.i64.wrap (((BitVec.ofInt 64 (m:Int)) &&& (BitVec.ofInt 64 1)).toNat:Int))):Sem Value)=_
  rw [h,hw]
 simp [eqGuard_and,binOp_and,e]
theorem qh {e:TypeId} {a:OA} {n c:Nat} (ht:P.underlying t=some (.slice e)):gJ P .eql t x y (.slice a n c) (.slice none 0 0) (.bool (decide (a=none))):=fun w=>by
 have A:(Op.equal t (.slice a n c) (.slice none 0 0)).run P w= .ok (decide (a=none)) w:=by
  unfold Op.equal
  show (Op.equalIn (9999+1) t (.slice a n c) (.slice none 0 0)).run P w=_
  unfold Op.equalIn
  cases a<;>simp [run_underlying ht]
 have B:eqGuard .eql t x y (.slice a n c) (.slice none 0 0)=pure ():=rfl
 rw [B]
 show (Sem.run P (do let b ← Op.equal t (.slice a n c) (.slice none 0 0); pure (vB b)) w)=_
 simp [A]
end
section
variable {E:eZ} {ops:Array Oper} {Q:cY} {rest:List Oper} {D:List Deferred} {L:List (Nat×Value)} {C:List aq}
variable {dst:Option Tmp} {d:Nat} {ty:TypeId} {ps:String} {af:Array Edge} {g:Option (Nat×Bool)}
/-- a row that lies nowhere is empty -/
theorem mj {a:OA} {n sz:Nat} {es:List (List Value)} (hR:ij C (rd a n sz es).holds) (ha:a=none) (hz:0<sz) (k:es=[]→RJ E ops Q rest D L C):RJ E ops Q rest D L C:=fun act w hf hs=>by
 refine k ?_ act w hf hs
 obtain ⟨F,G,B⟩:=hs.has hR
 rcases Nat.eq_zero_or_pos (n*sz) with h|h
 ·have:n=0:=by
   rcases Nat.mul_eq_zero.1 h with h|h
   ·exact h
   ·omega
  exact jC I
 ·obtain ⟨ad,A,_⟩:=B h
  rw [ha] at A; cases A
theorem LD {a:OA} {c e sz:Nat} {es:List (List Value)} (i:Nat) (hC:C[i]? =some (own a c e sz es)) (k:es.length≤c→RJ E ops Q rest D L C):RJ E ops Q rest D L C:=fun act w hf hs=>
 k (E_ (hs.holds _ (aR hC))) act w hf hs
theorem j4 {A:aq} (i:Nat) (h:C[i]? =some A.ro):ij C A.holds:=fun w hw=>by
 have B:=hw A.ro (aR h)
 exact B
/-- the end of a row is set to zero: it is no more of it -/
theorem NP {x:Operand} {t e sz by_ k n c c':Nat} {z:Value} {a:OA} {es:List (List Value)} (i:Nat) (hg:jt ops L g=true) (hx:ev L x=some (.slice (Ax a c k sz) (n-k) c')) (ht:tA E.P t=some (e,sz,by_,z)) (hz1: ∀ v∈z.cells.toList,v.oneCell'=true)
 (hC:C[i]? =some (own a c e sz es)) (hn:n=es.length) (hk:k≤n) (K:RJ E ops Q rest D L (C.set i (own a c e sz (es.take k)))):
 RJ E ops Q (⟨none,.call {callee:= .builtin .clear,args:= #[x],argTypes:= #[t]},ty,ps,af,g⟩::rest) D L C:=by
 intro act w A F
 obtain ⟨inf,hu,hi,f,h3,h4,s⟩:=Ez ht
 unfold rz
 rw [if_pos (dK A hg)]
 subst hn
 obtain ⟨W,N⟩:(own a c e sz es).holds w:=F.holds _ (aR hC)
 have B: ∀ y∈es.take k,y.length=sz:=fun y hy=>W y (List.mem_of_mem_take hy)
 have V:(es.take k).flatten=es.flatten.take (k*sz):=by
  have h:=List.take_append_drop k es
  have l:es.flatten=(es.take k).flatten++(es.drop k).flatten:=by rw [← List.flatten_append,h]
  have m:(es.take k).flatten.length=k*sz:=by rw [iE B,List.length_take]; congr 1; omega
  rw [l,← m,List.take_left]
 by_cases r:es.length-k=0
 ·have AC:es.take k=es:=List.take_of_length_le I
  refine gM sm (w':=w) (v:= .tuple #[]) ?_ ?_
  ·rw [r] at hx
   cases hs:Ax a c k sz with
   |none=>rw [hs] at hx; simp [execOp,resolve,invoke,builtin,Builtin.clear_,A.ev hx,run_underlying hu]
   |some q=>rw [hs] at hx; simp [execOp,resolve,invoke,builtin,Builtin.clear_,A.ev hx,run_underlying hu]
  ·rw [AC] at K
   exact K _ _ A (by
    have:C.set i (own a c e sz es)=C:=by
     apply List.ext_getElem?
     intro q
     rw [List.getElem?_set]
     by_cases j:i=q
     ·subst j; rw [if_pos rfl,if_pos (List.getElem?_eq_some_iff.1 hC).1,hC]
     ·rw [if_neg j]
    rw [this]; exact F)
 ·rcases N.2 with ⟨l,m⟩|⟨gg,cap,cur,hv,AA,M,Y,T,J,G⟩
  ·omega
  ·injection hv with Z AB d
   subst Z d
   have R:Ax (some (⟨gg,0,none⟩:Addr)) c k sz=some ⟨gg,k*sz,none⟩:=by
    unfold Ax; rw [if_neg I]; simp [Addr.add_lit]
   rw [R] at hx
   have H:(Builtin.zeroCells z.cells (es.length-k)).toList.length=(es.length-k)*sz:=by
    rw [Array.length_toList,size_zeroCells,s]
   have p:k*sz+(es.length-k)*sz=es.length*sz:=by rw [← Nat.add_mul]; congr 1; omega
   have o:es.length*sz≤cur.size:=by rw [J]; exact Nat.mul_le_mul_right _ Y
   have h1': ∀ v∈(Builtin.zeroCells z.cells (es.length-k)).toList,v.oneCell'=true:=fun v hv=>by
    refine hz1 v ?_
    simp [Builtin.zeroCells] at hv
    obtain ⟨q,hq,hv⟩:=hv
    have O:0<z.cells.size:=by
     rcases Nat.eq_zero_or_pos z.cells.size with AD|AD
     ·rw [AD] at hq; simp at hq
     ·exact AD
    have X:q % z.cells.size<z.cells.size:=Nat.mod_lt _ O
    rw [getElem!_pos z.cells _ X] at hv
    rw [← hv]; simp
   have hst':=run_storeCells_at E.P gg (k*sz) e (Builtin.zeroCells z.cells (es.length-k)).toList 0 cur w M (by rw [H]; omega) h1'
   simp only [Nat.add_zero] at hst'
   obtain ⟨q,hq⟩: ∃ q,es.length-k=q+1:=⟨es.length-k-1,I⟩
   refine gM sm (w':=w.setRow gg (cur.toList.take (k*sz)++(Builtin.zeroCells z.cells (es.length-k)).toList++cur.toList.drop (k*sz+(Builtin.zeroCells z.cells (es.length-k)).toList.length)).toArray) (v:= .tuple #[]) ?_ ?_
   ·rw [hq] at hx hst' ⊢
    simp [execOp,resolve,invoke,builtin,Builtin.clear_,A.ev hx,run_underlying hu,zeroValue,typeInfo,hi,f,hst']
   ·refine K _ _ A ?_
    refine F.move i hC (row:=some gg) (fun b hb=>by cases hb; exact ⟨_,rfl,rfl⟩) rfl ⟨rfl,rfl,rfl,sm,fun k' _ hk'=>setRow_other w gg k' _ (fun e=>hk' (by simp [e]))⟩ (fun y hy=>by
     obtain ⟨ad,AD,rfl⟩:=hy
     cases AD; exact .inl rfl) ?_
    refine ⟨B,?_,.inr ⟨gg,c,_,U,Nat.zero_le _,setRow_heap w gg cur _ e _ M,?_,T,?_,?_⟩⟩
    ·exact iE B
    ·rw [List.length_take]; omega
    ·simp only [List.size_toArray,List.length_append,List.length_take,List.length_drop,Array.length_toList,H]
     have:=J
     simp only [Array.length_toList] at H
     omega
    ·have u:(es.take k).length*sz=k*sz:=by rw [List.length_take]; congr 1; omega
     have S:(cur.toList.take (k*sz)).length=k*sz:=by rw [List.length_take,Array.length_toList]; omega
     rw [u,V,← G,List.take_take,Nat.min_eq_left I]
     show List.take (k*sz) (_++_++_)=_
     rw [List.append_assoc,List.take_left' S]
end
end
section
open Go.RowKit
theorem oW (n lo hi:Int):
 dT Tryz.prog 151 [(vI n),(vI lo),(vI hi)] [] (vB (decide (lo≤n∧n≤hi))):=by
 refine bx kr Tryz.func151 U U fun D Q hQ hN=>?_
 try dsimp only
 refine WS fun _ B=>bf 1 U<|RK B<|WS fun _ A=>rP 4 [] mn ?_
 refine cR (t:=10) U (aL fun C=>?_) (aM fun C=>?_)
 ·refine rP 5 [] mn ?_
  refine RK A<|an<|Q1 hQ U U U ?_
  exact cB (decide_eq_decide.2 I)
 refine rP 5 [] mn ?_
 refine RK A<|an<|Q1 hQ U U U ?_
 exact cB (cf I).symm
theorem pd (s:aa) (lo hi:Int):
 dT Tryz.prog 152 [(vA (aa.cells s)),(vI lo),(vI hi)] [] (vB (decide (s.Lo≤s.Hi∧lo≤s.Lo∧s.Hi≤hi))):=by
 refine bx kr Tryz.func152 U U fun E Q hQ hN=>?_
 try dsimp only
 refine WS fun _ B=>fK U fun D=>bf 1 U<|RK B<|WS fun _ A=>fw 5 [] (mc 0 U mn) U<|rS (CL (oW s.Lo lo s.Hi) (aI) U)<|rP 1 [] mn ?_
 refine b_ (t:=13) U (aM fun C=>?_) (aL fun C=>?_)
 ·refine rP 6 [] mn ?_
  refine RK A<|an<|Q1 hQ U U U ?_
  exact cB (cf I).symm
 refine rP 6 [] (mc 0 U mn) ?_
 refine RK A<|an<|Q1 hQ U U U ?_
 exact cB (decide_eq_decide.2 I)
theorem Ok (t:List al) (tA:OA) (tC:Nat):
 dT Tryz.prog 110 [(vA (bE.cells (bE.mk (br.mk tA t.length tC))))] [(rd tA t.length 9 (t.map al.cells))] (vB (decide (20<(t.length:Int)))):=by
 refine bx kr Tryz.func110 U U fun D Q hQ hN=>?_
 try dsimp only
 refine WS fun _ A=>fK U fun C=>bf 1 U<|RK A<|WS fun _ B=>rP 5 [] (mc 0 U mn) ?_
 refine RK B<|an ?_
 exact Q1 hQ U U U U
theorem Om (l:List Int) (lA:OA) (lC:Nat) (f:Value) (p:Int→Bool) (X:aq) (hf: ∀ x0,x0∈l→DI Tryz.prog f [.int .i64 x0] [X] (.bool (p x0))) (hlen:l.length≤1000000):
 dT Tryz.prog 86 [(vS lA l.length lC),f] [(rd lA l.length 1 (l.map iC)),X] (vI (tI p l)):=by
 refine bx kr Tryz.func86 U U fun R Q hQ hN=>?_
 try dsimp only
 refine WS fun _ G=>bf 1 U<|RK G<|ah fun _ H=>WS fun _ AA=>rP 3 [] mn ?_
 refine RK AA<|av ?_
 have B:(0≤l.length)∧((l.take 0).any p=false):=by simp
 refine bH (ι:={z:Nat // (z≤l.length)∧((l.take z).any p=false)}) [0,1,7] [0,1] U U (fun z=>[(8,(vI (z.1:Int)))]) (fun z=>[]) (fun _=>rfl) (fun _=>rfl) (fun z=>l.length-z.1) ⟨0,B⟩ (aT U) (aH [0,1]) ?_
 clear B
 rintro ⟨i,⟨N,A⟩⟩ J4 F
 try dsimp only
 refine WS fun _ J=>rP 1 [] mn ?_
 refine RK J<|ah fun _ K=>bL U (aM fun P=>?_) (aL fun P=>?_)
 ·refine bu<|ab<|ab<|au<|KK H<|WS fun _ E=>rP 1 [] mn ?_
  refine RK E<|an<|Q1 hQ U U U ?_
  exact cI (sx I A).symm
 refine WK K<|ah fun _ L=>av<|WS fun _ M=>bf 2 U<|RK M<|WS fun _ C=>rP 3 [] mn ?_
 obtain ⟨x,hx⟩:=aJ l i I
 have O:=bG iC hx
 refine rS (IA i U (aD 0 U) cq dc I I)<|rS (fV i 0 (vI x) U bX (aD 0 U) O U dc U)<|rS (SX (rQ U U U (hf x (aR hx)) (bj [1])) U U)<|RK C<|cy U (fun hp=>?_) (fun hp=>?_)
 ·refine WS fun _ D=>rP 2 [] mn ?_
  refine RK D<|an<|Q1 hQ U U U ?_
  exact cI (x5 hx hp A).symm
 refine bZ<|aG<|KK L<|aj<|rP 2 [] mn ?_
 refine aC ?_
 refine aS (F ⟨(i+1),⟨I,wM hx A hp⟩⟩ _ _ _ U os (aT U) (aH [0,1]))
theorem su (l:List Int) (lA:OA) (lC:Nat) (f:Value) (p:Int→Bool) (X:aq) (hf: ∀ x0,x0∈l→DI Tryz.prog f [.int .i64 x0] [X] (.bool (p x0))) (hlen:l.length≤1000000):
 dT Tryz.prog 63 [(vS lA l.length lC),f] [(rd lA l.length 1 (l.map iC)),X] (vB (l.any p)):=by
 refine bx kr Tryz.func63 U U fun C Q hQ hN=>?_
 try dsimp only
 refine WS fun _ A=>bf 1 U<|RK A<|WS fun _ B=>bf 2 U<|rS (CL (Om l lA lC f p X (by exact hf) hlen) (bj [0,1]) U)<|rP 2 [] mn ?_
 refine RK B<|an<|Q1 hQ U U U ?_
 exact cB ux
theorem Hx (n lo hi:Int) (g1 g2:Nat):
 dT Tryz.prog 139 [(vI n),(vP g1),(vP g2)] [(bV g1 3 [(vI lo)]),(bV g2 3 [(vI hi)])] (vB (decide (n<lo∨hi<n))):=by
 refine bx kr Tryz.func139 U U fun D Q hQ hN=>?_
 try dsimp only
 refine WS fun _ B=>bf 1 U<|RK B<|WS fun _ A=>rP 4 [] (mr 0 U mn) ?_
 refine cR (t:=8) U (aL fun C=>?_) (aM fun C=>?_)
 ·refine rP 5 [] mn ?_
  refine RK A<|an<|Q1 hQ U U U ?_
  exact cB (fI I).symm
 refine rP 5 [] (mr 1 U mn) ?_
 refine RK A<|an<|Q1 hQ U U U ?_
 exact cB (decide_eq_decide.2 I)
theorem o0 (lo hi:Int) (l:List Int) (lA:OA) (lC:Nat) (hlen:l.length≤1000000):
 dT Tryz.prog 113 [(vI lo),(vI hi),(vS lA l.length lC)] [(rd lA l.length 1 (l.map iC))] (vB (pS lo hi l)):=by
 refine bx kr Tryz.func113 U U fun F Q hQ hN=>?_
 try dsimp only
 refine WS fun _ D=>uI U U fun A=>uI U U fun B=>bf 1 U<|RK D<|WS fun _ E=>rP 1 [] mn ?_
 refine rS (FU U) ?_
 refine rS (CL (su l lA lC (Value.func (.func 139) [].toArray [(vP A),(vP B)].toArray) (fun C=>(decide (C<lo∨hi<C))) (eW [(bV A 3 [(vI lo)]),(bV B 3 [(vI hi)])]) (by intro C _; exact nm (fi:=[]) (ca:=[(vP A),(vP B)]) (lX (Hx C lo hi A B) (bj [0,1]))) hlen) (fz 2 U U<|aw (lV (bj [1,0]))<|aI) U) ?_
 refine rP 2 [] mn ?_
 refine RK E<|an ?_
 exact Q1 hQ U U U U
theorem wa (s:aa) (lo hi:Int):
 dT Tryz.prog 114 [(vA (aa.cells s)),(vI lo),(vI hi)] [] (vB (decide (s.Lo≤s.Hi∧lo≤s.Lo∧s.Hi≤hi))):=by
 refine bx kr Tryz.func114 U U fun F Q hQ hN=>?_
 try dsimp only
 refine WS fun _ B=>fK U fun E=>bf 1 U<|RK B<|WS fun _ A=>rP 6 [] (mc 0 U mn) ?_
 refine cU (xs:=[.tmp 10,.tmp 12]) (cs:=[(vI s.Lo),(vI s.Hi)]) U cq jd U U U U (by simp [Value.cells]) U U fun C=>?_
 refine rS (CL (dT.eq (o0 lo hi ([s.Lo,s.Hi]) (some ⟨C,0,none⟩) 2 (by (simp; done))) qR) (aw (aZ 0 U U (by simp [bB]) U)<|aI) U) ?_
 refine rP 1 [] mn ?_
 refine b_ (t:=15) U (aM fun D=>?_) (aL fun D=>?_)
 ·refine rP 7 [] mn ?_
  refine RK A<|an<|Q1 hQ U U U ?_
  exact cB (cf I).symm
 refine rP 7 [] (mc 1 U mn) ?_
 refine RK A<|an<|Q1 hQ U U U ?_
 exact cB (decide_eq_decide.2 I)
theorem vO (ts:List al) (tsA:OA) (tsC:Nat) (hlen:ts.length≤1000000):
 dT Tryz.prog 135 [(vA (bE.cells (bE.mk (br.mk tsA ts.length tsC))))] [(rd tsA ts.length 9 (ts.map al.cells))] (vB (cT ts)):=by
 refine bx kr Tryz.func135 U U fun w0 Q hQ hN=>?_
 try dsimp only
 refine WS fun _ AZ=>fK U fun b2=>bf 1 U<|RK AZ<|ah fun _ Aa=>WS fun _ Ab=>fw 3 [] (mc 0 U mn) U<|rS (CL (oW (ts.length:Int) 1 12) (aI) U)<|rP 1 [] mn ?_
 refine RK Ab<|cy U (bq fun h5=>?_) (bp fun h5=>?_)
 ·refine WS fun _ Ac=>rP 1 [] mn ?_
  refine RK Ac<|an<|Q1 hQ U U U ?_
  exact cB (n8 I).symm
 refine WK Aa<|ah fun _ Ad=>WS fun _ Af=>rP 1 [] mn ?_
 refine RK Af<|av ?_
 have E:(0≤ts.length)∧(eI (-1) ts=eI (fY ts 0) (ts.drop 0))∧(-1≤fY ts 0):=by (refine ⟨I,rfl,by simp [fY]⟩)
 refine bH (ι:={z:Nat // (z≤ts.length)∧(eI (-1) ts=eI (fY ts z) (ts.drop z))∧(-1≤fY ts z)}) [1] [0,1] U U (fun z=>[(3,(vI (z.1:Int)))]) (fun z=>[]) (fun _=>rfl) (fun _=>rfl) (fun z=>ts.length-z.1) ⟨0,E⟩ (aT U) (aH [0,1]) ?_
 clear E
 rintro ⟨i,⟨Ag,A,Ah⟩⟩ J9 D
 try dsimp only
 have hz:i=0→fY ts i= -1:=Be
 refine ah fun _ K=>WS fun _ L=>rP 5 [] (mc 0 U mn) ?_
 refine RK L<|bL U (aM fun v=>?_) (aL fun v=>?_)
 ·refine bu<|ab<|ab<|au<|KK Ad<|WS fun _ u=>rP 1 [] mn ?_
  refine RK u<|an<|Q1 hQ U U U ?_
  exact cB (uY A I I).symm
 refine WK K<|ah fun _ C=>av<|WS fun _ M=>rP 3 [] (mc 0 U mn) ?_
 obtain ⟨x,hx⟩:=aJ ts i I
 have Ai:=bG al.cells hx
 refine rS (IA i U (aD 1 U) yn dc I I)<|rS (oH i 0 (al.cells x) U bX (aD 1 U) Ai U dc U U)<|AL U Fp fun Ak=>fP U Ja U<|RK M<|ah fun _ F=>ah fun _ B=>dA cu 38 kr<|mJ 2 [] (mc 0 U mn) U<|dS (CL (oW x.Id 0 9999) (aI) U)<|dP 2 [] mn ?_
 refine iY (t:=26) U (bq fun w=>?_) (bp fun w=>?_)
 ·refine lJ 11 U<|lJ 22 U<|cL<|RK B<|aO U<|WS fun _ N=>rP 1 [] mn ?_
  refine RK N<|an<|Q1 hQ U U U ?_
  exact cB (dF A hx (by simp only [bJ,dI]; omega)).symm
 refine dP 3 [] mn ?_
 refine jh (t:=29) U (aM fun AA=>?_) (aL fun AA=>?_)
 ·refine lJ 8 U<|lJ 6 U<|dS (LP (aa.cells x.kl) 0 U bX U U U)<|dS (CL (pd x.kl 1 30000) (aI) U)<|dP 3 [] mn ?_
  refine iY (t:=48) U (bq fun AO=>?_) (bp fun AO=>?_)
  ·refine lJ 11 U<|cL<|RK B<|aO U<|WS fun _ e=>rP 1 [] mn ?_
   refine RK e<|an<|Q1 hQ U U U ?_
   exact cB (dF A hx (by simp only [bJ,dI]; omega)).symm
  refine lJ 1 U<|dS (LP (aa.cells x.lR) 0 U bX U U U)<|dS (CL (pd x.lR 0 5000) (aI) U)<|dP 3 [] mn ?_
  refine iY (t:=54) U (bq fun AP=>?_) (bp fun AP=>?_)
  ·refine lJ 5 U<|cL<|RK B<|aO U<|WS fun _ f=>rP 1 [] mn ?_
   refine RK f<|an<|Q1 hQ U U U ?_
   exact cB (dF A hx (by simp only [bJ,dI]; omega)).symm
  refine mJ 2 [] (mc 0 U mn) U<|dS (CL (oW x.Ae 0 5000) (aI) U)<|dP 2 [] mn ?_
  refine cL<|RK B<|cy U (bq fun AQ=>?_) (bp fun AQ=>?_)
  ·refine WS fun _ g=>rP 1 [] mn ?_
   refine RK g<|an<|Q1 hQ U U U ?_
   exact cB (dF A hx (by simp only [bJ,dI]; omega)).symm
  refine WK F<|WS fun _ h=>fw 2 [] (mc 0 U mn) U<|RK h<|av<|WS fun _ j=>rS (BI U lu)<|rP 1 [] mn ?_
  refine RK j<|cy U (aL fun AR=>?_) (aM fun AR=>?_)
  ·refine WS fun _ An=>rP 5 [] (mc 0 U mn) ?_
   refine cR (t:=68) U (bq fun AS=>?_) (bp fun AS=>?_)
   ·refine bf 5 U<|RK An<|aO U<|WS fun _ k=>rP 1 [] mn ?_
    refine RK k<|an<|Q1 hQ U U U ?_
    exact cB (dF A hx (by simp only [bJ,dI]; omega)).symm
   refine rP 5 [] (mc 0 U mn) ?_
   refine RK An<|bL U (bp fun AT=>?_) (bq fun AT=>?_)
   ·refine bZ<|aG<|aG<|KK C<|aj<|rP 3 [] mn ?_
    refine aC ?_
    refine aS (D ⟨(i+1),⟨I,gN A hx (by simp only [bJ,dI]; omega),by rw [fQ hx]; omega⟩⟩ _ _ _ U os (aT U) (aH [1,2]))
   refine WS fun _ l=>rP 1 [] mn ?_
   refine RK l<|an<|Q1 hQ U U U ?_
   exact cB (dF A hx (by simp only [bJ,dI]; omega)).symm
  refine ah fun _ J=>WS fun _ m=>rS (BI U lu)<|rP 1 [] mn ?_
  refine RK m<|cy U (aL fun AU=>?_) (aM fun AU=>?_)
  ·refine WK J<|bL U (aM fun AV=>?_) (aL fun AV=>?_)
   ·refine WS fun _ p=>rP 1 [] mn ?_
    refine RK p<|an<|Q1 hQ U U U ?_
    exact cB (n8 I).symm
   refine WS fun _ n=>bf 1 U<|rS (LP (aa.cells x.eD) 0 U bX U U U)<|rS (CL (pd x.eD 500 20000) (aI) U)<|rP 1 [] mn ?_
   refine RK n<|bL U (bp fun AW=>?_) (bq fun AW=>?_)
   ·refine bZ<|aG<|aG<|KK C<|aj<|rP 3 [] mn ?_
    refine aC ?_
    refine aS (D ⟨(i+1),⟨I,gN A hx (by simp only [bJ,dI]; omega),by rw [fQ hx]; omega⟩⟩ _ _ _ U os (aT U) (aH [1,2]))
   refine WS fun _ o=>rP 1 [] mn ?_
   refine RK o<|an<|Q1 hQ U U U ?_
   exact cB (dF A hx (by simp only [bJ,dI]; omega)).symm
  refine aj<|rS (BI U lu)<|rP 1 [] mn ?_
  refine RK J<|bL U (aM fun AX=>?_) (aL fun AX=>?_)
  ·refine WS fun _ s=>rP 1 [] mn ?_
   refine RK s<|an<|Q1 hQ U U U ?_
   exact cB (dF A hx (by simp only [bJ,dI]; omega)).symm
  refine WS fun _ q=>bf 1 U<|rS (LP (aa.cells x.eD) 0 U bX U U U)<|rS (CL (pd x.eD 500 20000) (aI) U)<|rP 1 [] mn ?_
  refine RK q<|bL U (bp fun AY=>?_) (bq fun AY=>?_)
  ·refine bZ<|aG<|aG<|KK C<|aj<|rP 3 [] mn ?_
   refine aC ?_
   refine aS (D ⟨(i+1),⟨I,gN A hx (by simp only [bJ,dI]; omega),by rw [fQ hx]; omega⟩⟩ _ _ _ U os (aT U) (aH [1,2]))
  refine WS fun _ r=>rP 1 [] mn ?_
  refine RK r<|an<|Q1 hQ U U U ?_
  exact cB (dF A hx (by simp only [bJ,dI]; omega)).symm
 refine dP 6 [0,1] (mc 0 U (mc 1 U mn)) ?_
 obtain ⟨y,hy⟩:=aJ ts (i-1) I
 have Aj:=bG al.cells hy
 refine dS (IA (i-1) U (aD 2 U) yn dc I I)<|dS (nR ((i-1)*9) U (aD 2 U) (Nat.mul_pos I dc) fu U) ?_
 have Am:=Du I hy
 refine dS (fV (i-1) 0 (vI y.Id) U bX (aD 2 U) Aj U dc U)<|dP 4 [] mn ?_
 refine iY (t:=42) U (aL fun AB=>?_) (aM fun AB=>?_)
 ·refine lJ 17 U<|cL<|RK B<|aO U<|WS fun _ O=>rP 1 [] mn ?_
  refine RK O<|an<|Q1 hQ U U U ?_
  exact cB (dF A hx (by simp only [bJ,dI]; omega)).symm
 refine lJ 1 U<|dS (LP (aa.cells x.kl) 0 U bX U U U)<|dS (CL (pd x.kl 1 30000) (aI) U)<|dP 3 [] mn ?_
 refine iY (t:=48) U (bq fun AC=>?_) (bp fun AC=>?_)
 ·refine lJ 11 U<|cL<|RK B<|aO U<|WS fun _ P=>rP 1 [] mn ?_
  refine RK P<|an<|Q1 hQ U U U ?_
  exact cB (dF A hx (by simp only [bJ,dI]; omega)).symm
 refine lJ 1 U<|dS (LP (aa.cells x.lR) 0 U bX U U U)<|dS (CL (pd x.lR 0 5000) (aI) U)<|dP 3 [] mn ?_
 refine iY (t:=54) U (bq fun AD=>?_) (bp fun AD=>?_)
 ·refine lJ 5 U<|cL<|RK B<|aO U<|WS fun _ R=>rP 1 [] mn ?_
  refine RK R<|an<|Q1 hQ U U U ?_
  exact cB (dF A hx (by simp only [bJ,dI]; omega)).symm
 refine mJ 2 [] (mc 0 U mn) U<|dS (CL (oW x.Ae 0 5000) (aI) U)<|dP 2 [] mn ?_
 refine cL<|RK B<|cy U (bq fun AE=>?_) (bp fun AE=>?_)
 ·refine WS fun _ S=>rP 1 [] mn ?_
  refine RK S<|an<|Q1 hQ U U U ?_
  exact cB (dF A hx (by simp only [bJ,dI]; omega)).symm
 refine WK F<|WS fun _ T=>fw 2 [] (mc 0 U mn) U<|RK T<|av<|WS fun _ Al=>rS (BI U lu)<|rP 1 [] mn ?_
 refine RK Al<|cy U (aL fun AF=>?_) (aM fun AF=>?_)
 ·refine WS fun _ G=>rP 5 [] (mc 0 U mn) ?_
  refine cR (t:=68) U (bq fun AG=>?_) (bp fun AG=>?_)
  ·refine bf 5 U<|RK G<|aO U<|WS fun _ V=>rP 1 [] mn ?_
   refine RK V<|an<|Q1 hQ U U U ?_
   exact cB (dF A hx (by simp only [bJ,dI]; omega)).symm
  refine rP 5 [] (mc 0 U mn) ?_
  refine RK G<|bL U (bp fun AH=>?_) (bq fun AH=>?_)
  ·refine bZ<|aG<|aG<|KK C<|aj<|rP 3 [] mn ?_
   refine aC ?_
   refine aS (D ⟨(i+1),⟨I,gN A hx (by simp only [bJ,dI]; omega),by rw [fQ hx]; omega⟩⟩ _ _ _ U os (aT U) (aH [1,2]))
  refine WS fun _ W=>rP 1 [] mn ?_
  refine RK W<|an<|Q1 hQ U U U ?_
  exact cB (dF A hx (by simp only [bJ,dI]; omega)).symm
 refine ah fun _ H=>WS fun _ X=>rS (BI U lu)<|rP 1 [] mn ?_
 refine RK X<|cy U (aL fun AI=>?_) (aM fun AI=>?_)
 ·refine WK H<|bL U (aM fun AJ=>?_) (aL fun AJ=>?_)
  ·refine WS fun _ a=>rP 1 [] mn ?_
   refine RK a<|an<|Q1 hQ U U U ?_
   exact cB (n8 I).symm
  refine WS fun _ Y=>bf 1 U<|rS (LP (aa.cells x.eD) 0 U bX U U U)<|rS (CL (pd x.eD 500 20000) (aI) U)<|rP 1 [] mn ?_
  refine RK Y<|bL U (bp fun AK=>?_) (bq fun AK=>?_)
  ·refine bZ<|aG<|aG<|KK C<|aj<|rP 3 [] mn ?_
   refine aC ?_
   refine aS (D ⟨(i+1),⟨I,gN A hx (by simp only [bJ,dI]; omega),by rw [fQ hx]; omega⟩⟩ _ _ _ U os (aT U) (aH [1,2]))
  refine WS fun _ Z=>rP 1 [] mn ?_
  refine RK Z<|an<|Q1 hQ U U U ?_
  exact cB (dF A hx (by simp only [bJ,dI]; omega)).symm
 refine aj<|rS (BI U lu)<|rP 1 [] mn ?_
 refine RK H<|bL U (aM fun AM=>?_) (aL fun AM=>?_)
 ·refine WS fun _ d=>rP 1 [] mn ?_
  refine RK d<|an<|Q1 hQ U U U ?_
  exact cB (dF A hx (by simp only [bJ,dI]; omega)).symm
 refine WS fun _ b=>bf 1 U<|rS (LP (aa.cells x.eD) 0 U bX U U U)<|rS (CL (pd x.eD 500 20000) (aI) U)<|rP 1 [] mn ?_
 refine RK b<|bL U (bp fun AN=>?_) (bq fun AN=>?_)
 ·refine bZ<|aG<|aG<|KK C<|aj<|rP 3 [] mn ?_
  refine aC ?_
  refine aS (D ⟨(i+1),⟨I,gN A hx (by simp only [bJ,dI]; omega),by rw [fQ hx]; omega⟩⟩ _ _ _ U os (aT U) (aH [1,2]))
 refine WS fun _ c=>rP 1 [] mn ?_
 refine RK c<|an<|Q1 hQ U U U ?_
 exact cB (dF A hx (by simp only [bJ,dI]; omega)).symm
theorem Dd (ts:List al) (tsA:OA) (tsC:Nat) (hlen:ts.length≤1000000) (hside: ∀ x∈ts,0≤x.iS∧x.iS≤255):
 dT Tryz.prog 82 [(vA (bE.cells (bE.mk (br.mk tsA ts.length tsC))))] [(rd tsA ts.length 9 (ts.map al.cells))] (vI (if cT ts=true then 0 else 10)):=by
 refine bx kr Tryz.func82 U U fun w0 Q hQ hN=>?_
 try dsimp only
 refine WS fun _ v=>fK U fun b2=>bf 1 U<|RK v<|zU U<|ah fun _ w=>WS fun _ y=>rP 3 [] (mc 0 U mn) ?_
 refine cU (xs:=[.tmp 11]) (cs:=[(vI (ts.length:Int))]) U cq jd U U U U (by simp [Value.cells]) U U fun b5=>?_
 refine rS (CL (dT.eq (o0 1 12 ([(ts.length:Int)]) (some ⟨b5,0,none⟩) 1 (by (simp; done))) cS) (aw (aZ 0 U U (by simp [bB]) U)<|aI) U) ?_
 refine rP 1 [] mn ?_
 refine RK y<|cy U (bq fun h6=>?_) (bp fun h6=>?_)
 ·refine WS fun _ AA=>rP 1 [] mn ?_
  refine RK AA<|an<|Q1 hQ U U U ?_
  exact cI (if_neg (by rw [n8 I]; decide)).symm
 refine WK w<|WS fun _ AB=>bf 1 U<|RK AB<|WS fun _ AC=>bf 1 U<|RK AC<|ah fun _ J=>AT<|KK J<|ah fun _ B=>WS fun _ K=>rP 4 [] (mc 1 U mn) ?_
 refine RK K<|av ?_
 have D:(0≤ts.length)∧(eI (-1) ts=eI (fY ts 0) (ts.drop 0))∧(-1≤fY ts 0)∧(fY ts 0≤9999):=by (refine ⟨I,rfl,by simp [fY],by simp [fY]⟩)
 refine bH (ι:={z:Nat // (z≤ts.length)∧(eI (-1) ts=eI (fY ts z) (ts.drop z))∧(-1≤fY ts z)∧(fY ts z≤9999)}) [1,4,16,17] [1,2] U U (fun z=>[(3,(vI (fY ts z.1))),(18,(vI (z.1:Int)))]) (fun z=>[]) (fun _=>rfl) (fun _=>rfl) (fun z=>ts.length-z.1) ⟨0,D⟩ (aT U) (aH [1,2]) ?_
 clear D
 rintro ⟨i,⟨AD,A,AE,AF⟩⟩ J13 E
 try dsimp only
 refine WS fun _ L=>rP 1 [] mn ?_
 refine RK L<|ah fun _ M=>bL U (aM fun k=>?_) (aL fun k=>?_)
 ·refine bu<|ab<|ab<|au<|KK B<|WS fun _ O=>rP 2 [] mn ?_
  refine RK O<|an<|Q1 hQ U U U ?_
  exact cI (if_pos (uY A I I)).symm
 refine WK M<|ah fun _ F=>av<|WS fun _ N=>?_
 obtain ⟨x,hx⟩:=aJ ts i I
 have AG:=bG al.cells hx
 refine rS (IA i U (aD 1 U) yn dc I I) ?_
 have AK:=hside x (aR hx)
 refine rS (oH i 0 (al.cells x) U bX (aD 1 U) AG U dc U U)<|AL U Fp fun AH=>fP U Ja U<|RK N ?_
 refine nV (ι:=Unit) [1,3,4,6,16,17,18] [0,1,2] U U (fun z=>[(7,(vB (decide (x.iS=0∧x.eD.Lo=0∧x.eD.Hi=0))))]) (fun z=>[]) (fun _=>rfl) (fun _=>rfl) ?_ fun K20 G=>?_
 ·intro _
  try dsimp only
  refine nV (ι:=Unit) [1,3,4,6,7,16,17,18] [0,1,2] U U (fun z=>[(8,(vB (decide ((1≤x.iS∧x.iS≤2)∧x.eD.Lo≤x.eD.Hi∧500≤x.eD.Lo∧x.eD.Hi≤20000))))]) (fun z=>[]) (fun _=>rfl) (fun _=>rfl) ?_ fun K21 H=>?_
  ·intro _
   try dsimp only
   refine ah fun _ AJ=>WS fun _ C=>rP 4 [] (mc 0 U mn) ?_
   refine cU (xs:=[.tmp 44]) (cs:=[(vI x.Id)]) U cq jd U U U U (by simp [Value.cells]) U U fun h=>?_
   refine rS (CL (dT.eq (o0 ((fY ts i)+1) 9999 ([x.Id]) (some ⟨h,0,none⟩) 1 (by (simp; done))) cS) (aw (aZ 0 U U (by simp [bB]) U)<|aI) U) ?_
   refine rP 2 [] mn ?_
   refine cR (t:=48) U (bq fun o=>?_) (bp fun o=>?_)
   ·refine bf 26 U<|RK C<|aO U<|WS fun _ P=>bf 1 U<|RK P<|bu<|ab<|iA U<|ab<|ab<|au<|KK B<|WS fun _ R=>rP 2 [] mn ?_
    refine RK R<|an<|Q1 hQ U U U ?_
    exact cI (if_neg (by rw [dF A hx (by simp only [bJ,dI]; omega)]; decide)).symm
   refine bf 1 U<|rS (LP (aa.cells x.kl) 1 U bX U U U)<|rS (CL (wa x.kl 1 30000) (aI) U)<|rP 3 [] mn ?_
   refine cR (t:=54) U (bq fun p=>?_) (bp fun p=>?_)
   ·refine bf 20 U<|RK C<|aO U<|WS fun _ S=>bf 1 U<|RK S<|bu<|ab<|iA U<|ab<|ab<|au<|KK B<|WS fun _ T=>rP 2 [] mn ?_
    refine RK T<|an<|Q1 hQ U U U ?_
    exact cI (if_neg (by rw [dF A hx (by simp only [bJ,dI]; omega)]; decide)).symm
   refine bf 1 U<|rS (LP (aa.cells x.lR) 1 U bX U U U)<|rS (CL (wa x.lR 0 5000) (aI) U)<|rP 3 [] mn ?_
   refine cR (t:=60) U (bq fun q=>?_) (bp fun q=>?_)
   ·refine bf 14 U<|RK C<|aO U<|WS fun _ AI=>bf 1 U<|RK AI<|bu<|ab<|iA U<|ab<|ab<|au<|KK B<|WS fun _ V=>rP 2 [] mn ?_
    refine RK V<|an<|Q1 hQ U U U ?_
    exact cI (if_neg (by rw [dF A hx (by simp only [bJ,dI]; omega)]; decide)).symm
   refine rP 2 [] (mc 1 U mn) ?_
   refine cU (xs:=[.tmp 62]) (cs:=[(vI x.Ae)]) U cq jd U U U U (by simp [Value.cells]) U U fun j=>?_
   refine rS (CL (dT.eq (o0 0 5000 ([x.Ae]) (some ⟨j,0,none⟩) 1 (by (simp; done))) cS) (aw (aZ 0 U U (by simp [bB]) U)<|aI) U) ?_
   refine rP 3 [] mn ?_
   refine cR (t:=67) U (bq fun r=>?_) (bp fun r=>?_)
   ·refine bf 7 U<|RK C<|aO U<|WS fun _ W=>bf 1 U<|RK W<|bu<|ab<|iA U<|ab<|ab<|au<|KK B<|WS fun _ X=>rP 2 [] mn ?_
    refine RK X<|an<|Q1 hQ U U U ?_
    exact cI (if_neg (by rw [dF A hx (by simp only [bJ,dI]; omega)]; decide)).symm
   refine rP 3 [] mn ?_
   refine b_ (t:=70) U (bp fun s=>?_) (bq fun s=>?_)
   ·refine bf 4 U<|RK C<|aW U<|WK AJ<|aj<|fw 3 [] (mc 2 U mn) U<|aC<|aG<|KK F<|aj<|rP 2 [] mn ?_
    refine aC ?_
    have f:(vI (fY ts (i+1)))=(vI x.Id):=by rw [fQ hx]
    refine aS (E ⟨(i+1),⟨I,gN A hx (by simp only [bJ,dI]; omega),by rw [fQ hx]; omega,by rw [fQ hx]; omega⟩⟩ _ _ _ U os (ct 4<|aX U f<|aT U) (aH [3,4]))
   refine rP 4 [] mn ?_
   refine RK C<|bL U (bp fun u=>?_) (bq fun u=>?_)
   ·refine WK AJ<|aj<|fw 3 [] (mc 2 U mn) U<|aC<|aG<|KK F<|aj<|rP 2 [] mn ?_
    refine aC ?_
    have e:(vI (fY ts (i+1)))=(vI x.Id):=by rw [fQ hx]
    refine aS (E ⟨(i+1),⟨I,gN A hx (by simp only [bJ,dI]; omega),by rw [fQ hx]; omega,by rw [fQ hx]; omega⟩⟩ _ _ _ U os (ct 4<|aX U e<|aT U) (aH [3,4]))
   refine WS fun _ Y=>bf 1 U<|RK Y<|bu<|ab<|iA U<|ab<|ab<|au<|KK B<|WS fun _ Z=>rP 2 [] mn ?_
   refine RK Z<|an<|Q1 hQ U U U ?_
   exact cI (if_neg (by rw [dF A hx (by simp only [bJ,dI]; omega)]; decide)).symm
  refine aj<|rP 2 [] (mc 0 U mn) ?_
  refine rS (SX (vZ (m:=x.iS) U U TQ oG (vo (by first|assumption|omega))) U U)<|cU (xs:=[.tmp 33]) (cs:=[(vI x.iS)]) U cq jd U U U U (by simp [Value.cells]) U U fun g=>?_
  refine rS (CL (dT.eq (o0 1 2 ([x.iS]) (some ⟨g,0,none⟩) 1 (by (simp; done))) cS) (aw (aZ 0 U U (by simp [bB]) U)<|aI) U) ?_
  refine rP 1 [] mn ?_
  refine b_ (t:=36) U (aM fun n=>?_) (aL fun n=>?_)
  ·refine rP 5 [] mn ?_
   refine aC ?_
   have d:(decide ((1≤x.iS∧x.iS≤2)∧x.eD.Lo≤x.eD.Hi∧500≤x.eD.Lo∧x.eD.Hi≤20000))=false:=cf I
   refine aS (jy (ct 8<|nu U d<|dh.nil _) (aH [1,2,3]) (H ()))
  refine bf 1 U<|rS (LP (aa.cells x.eD) 1 U bX U U U)<|rS (CL (wa x.eD 500 20000) (aI) U)<|rP 2 [] mn ?_
  refine aC ?_
  have c:(decide ((1≤x.iS∧x.iS≤2)∧x.eD.Lo≤x.eD.Hi∧500≤x.eD.Lo∧x.eD.Hi≤20000))=(decide (x.eD.Lo≤x.eD.Hi∧500≤x.eD.Lo∧x.eD.Hi≤20000)):=decide_eq_decide.2 I
  refine aS (jy (ct 8<|nu U c<|dh.nil _) (aH [1,2,3]) (H ()))
 refine aj<|fw 2 [] (mc 0 U mn) U<|rS (BI U lu)<|rP 1 [] mn ?_
 refine b_ (t:=25) U (aM fun l=>?_) (aL fun l=>?_)
 ·refine rP 6 [] mn ?_
  refine aC ?_
  have b:(decide (x.iS=0∧x.eD.Lo=0∧x.eD.Hi=0))=false:=cf I
  refine aS (jy (ct 7<|nu U b<|dh.nil _) (aH [0,1,2]) (G ()))
 refine bf 1 U<|rS (LP (aa.cells x.eD) 0 U bX U U U)<|rS (SX (bh (xs:=[]) (cs:=(aa.cells (aa.mk 0 0))) U U (bg gf U)) U U)<|rS (BI U (sW _ _ x.eD (aa.mk 0 0)))<|rP 2 [] mn ?_
 refine aC ?_
 have a:(decide (x.iS=0∧x.eD.Lo=0∧x.eD.Hi=0))=(decide (x.eD=(aa.mk 0 0))):=decide_eq_decide.2 (by (simp only [aa.ext_iff] at *; omega))
 refine aS (jy (ct 7<|nu U a<|dh.nil _) (aH [0,1,2]) (G ()))
end
section
open Go.RowKit
theorem Kl (n lo hi:Int) (g1 g2:Nat):
 dT Tryz.prog 64 [(vI n),(vP g1),(vP g2)] [(bV g1 3 [(vI lo)]),(bV g2 3 [(vI hi)])] (vB (decide (n<lo∨hi<n))):=by
 refine bx kr Tryz.func64 U U fun D Q hQ hN=>?_
 try dsimp only
 refine WS fun _ B=>bf 1 U<|RK B<|WS fun _ A=>rP 4 [] (mr 0 U mn) ?_
 refine cR (t:=8) U (aL fun C=>?_) (aM fun C=>?_)
 ·refine rP 5 [] mn ?_
  refine RK A<|an<|Q1 hQ U U U ?_
  exact cB (fI I).symm
 refine rP 5 [] (mr 1 U mn) ?_
 refine RK A<|an<|Q1 hQ U U U ?_
 exact cB (decide_eq_decide.2 I)
theorem j2 (lo hi:Int) (l:List Int) (lA:OA) (lC:Nat) (hlen:l.length≤1000000):
 dT Tryz.prog 37 [(vI lo),(vI hi),(vS lA l.length lC)] [(rd lA l.length 1 (l.map iC))] (vB (pS lo hi l)):=by
 refine bx kr Tryz.func37 U U fun F Q hQ hN=>?_
 try dsimp only
 refine WS fun _ D=>uI U U fun A=>uI U U fun B=>bf 1 U<|RK D<|WS fun _ E=>rP 1 [] mn ?_
 refine rS (FU U) ?_
 refine rS (CL (su l lA lC (Value.func (.func 64) [].toArray [(vP A),(vP B)].toArray) (fun C=>(decide (C<lo∨hi<C))) (eW [(bV A 3 [(vI lo)]),(bV B 3 [(vI hi)])]) (by intro C _; exact nm (fi:=[]) (ca:=[(vP A),(vP B)]) (lX (Kl C lo hi A B) (bj [0,1]))) hlen) (fz 2 U U<|aw (lV (bj [1,0]))<|aI) U) ?_
 refine rP 2 [] mn ?_
 refine RK E<|an ?_
 exact Q1 hQ U U U U
theorem Fc (s:aa):
 dT Tryz.prog 65 [(vA (aa.cells s))] [] (vB (decide (iH s))):=by
 refine bx kr Tryz.func65 U U fun F Q hQ hN=>?_
 try dsimp only
 refine WS fun _ B=>fK U fun E=>bf 1 U<|RK B<|WS fun _ A=>rP 4 [] (mc 0 U mn) ?_
 refine cU (xs:=[.tmp 4,.tmp 6]) (cs:=[(vI s.Lo),(vI s.Hi)]) U cq jd U U U U (by simp [Value.cells]) U U fun C=>?_
 refine rS (CL (dT.eq (j2 1 600000 ([s.Lo,s.Hi]) (some ⟨C,0,none⟩) 2 (by (simp; done))) qR) (aw (aZ 0 U U (by simp [bB]) U)<|aI) U) ?_
 refine rP 1 [] mn ?_
 refine b_ (t:=9) U (aM fun D=>?_) (aL fun D=>?_)
 ·refine rP 7 [] mn ?_
  refine RK A<|an<|Q1 hQ U U U ?_
  simp only [iH]
  exact cB (cf I).symm
 refine rP 7 [] (mc 1 U mn) ?_
 refine RK A<|an<|Q1 hQ U U U ?_
 simp only [iH]
 exact cB (decide_eq_decide.2 I)
theorem IC (d:ax) (sgA:OA) (sgC:Nat):
 dT Tryz.prog 198 [(vA (bk.cells (bk.mk d.Out d.eH d.Time (mD d.cr sgA sgC))))] [(rd sgA d.cr.ag.length 2 (d.cr.ag.map aK.cells))] (vB (decide (mw d.cr))):=by
 refine bx kr Tryz.func198 U U fun F Q hQ hN=>?_
 try dsimp only
 refine WS fun _ B=>fK U fun E=>bf 1 U<|RK B<|WS fun _ A=>rP 5 [] (mc 0 U mn) ?_
 refine b_ (t:=7) U (aM fun C=>?_) (aL fun C=>?_)
 ·refine rP 13 [] mn ?_
  refine RK A<|an<|Q1 hQ U U U ?_
  simp only [mw]
  exact cB (cf I).symm
 refine rP 6 [] (mc 0 U mn) ?_
 refine b_ (t:=13) U (aM fun D=>?_) (aL fun D=>?_)
 ·refine rP 7 [] mn ?_
  refine RK A<|an<|Q1 hQ U U U ?_
  simp only [mw]
  exact cB (cf I).symm
 refine rP 7 [] (mc 0 U mn) ?_
 refine RK A<|an<|Q1 hQ U U U ?_
 simp only [mw]
 exact cB (decide_eq_decide.2 I)
theorem Tw (d:ax) (sgA:OA) (sgC:Nat):
 dT Tryz.prog 196 [(vA (bk.cells (bk.mk d.Out d.eH d.Time (mD d.cr sgA sgC))))] [(rd sgA d.cr.ag.length 2 (d.cr.ag.map aK.cells))] (vB d.Out):=by
 refine bx kr Tryz.func196 U U fun D Q hQ hN=>?_
 try dsimp only
 refine WS fun _ A=>fK U fun C=>bf 1 U<|RK A<|WS fun _ B=>rP 3 [] (mc 0 U mn) ?_
 refine RK B<|an<|Q1 hQ U U U ?_
 rfl
theorem Q_ (d:ax) (sgA:OA) (sgC:Nat):
 dT Tryz.prog 199 [(vA (bk.cells (bk.mk d.Out d.eH d.Time (mD d.cr sgA sgC))))] [(rd sgA d.cr.ag.length 2 (d.cr.ag.map aK.cells))] (vB d.eH):=by
 refine bx kr Tryz.func199 U U fun D Q hQ hN=>?_
 try dsimp only
 refine WS fun _ A=>fK U fun C=>bf 1 U<|RK A<|WS fun _ B=>rP 3 [] (mc 0 U mn) ?_
 refine RK B<|an<|Q1 hQ U U U ?_
 rfl
theorem Tx (d:ax) (sgA:OA) (sgC:Nat):
 dT Tryz.prog 201 [(vA (bk.cells (bk.mk d.Out d.eH d.Time (mD d.cr sgA sgC))))] [(rd sgA d.cr.ag.length 2 (d.cr.ag.map aK.cells))] (vB true):=by
 refine bx kr Tryz.func201 U U fun D Q hQ hN=>?_
 try dsimp only
 refine WS fun _ A=>fK U fun C=>bf 1 U<|RK A<|WS fun _ B=>rP 1 [] mn ?_
 refine RK B<|an<|Q1 hQ U U U ?_
 rfl
end
section
open Go.RowKit
theorem AV (r:bT) (kA:OA) (kC:Nat) (az:List RA) (cA:OA) (cC:Nat) (bA:OA) (bC:Nat) (slA:OA) (slC:Nat) (drA:OA) (drC:Nat) (ha:List cO) (heA:OA) (heC:Nat) (tz:List RA) (tA:OA) (tC:Nat) (ms:Value) (gw:Nat) (l:List Int) (lA:OA) (lC:Nat) (hin:e9 r az ha) (hlen:l.length≤1000000):
 dT Tryz.prog 38 [(vP gw),(vS lA l.length lC)] [(rd kA r.ao.aP.length 9 (r.ao.aP.map al.cells)),(rd cA r.ao.ak.length 2 (List.zipWith ar.cells r.ao.ak az)),(eW (aV ar.gZ r.ao.ak az)),(rd bA r.ao.ae.length 4 (r.ao.ae.map bD.cells)),(rd slA r.aQ.length 1 (r.aQ.map iC)),(rd drA r.bQ.length 1 (r.bQ.map iC)),(rd heA r.ay.length 1 (List.zipWith cP r.ay ha)),(eW (aV iq r.ay ha)),(rd tA ((cN r).length) 1 (List.zipWith E1 (cN r) tz)),(eW (aV Mu (cN r) tz)),(bV gw 91 (fH.cells (fH.mk (oF r kA kC cA cC bA bC slA slC drA drC heA heC) (br.mk tA ((cN r).length) tC) ms))),(rd lA l.length 1 (l.map iC))] (vB (pS 0 ((r.aQ.length:Int)-1) l)):=by
 have C:=hin.line
 have G:=hin.iM
 have H:=hin.has
 have E:=hin.iL
 have D:=hin.draw
 have F:=dB (r:=r)
 refine bx kr Tryz.func38 U U fun AA Q hQ hN=>?_
 try dsimp only
 refine WS fun _ A=>bf 1 U<|RK A<|WS fun _ B=>bf 1 U<|rS (SX (bI U U) U U)<|fw 6 [] (mr 10 U mn) U<|rS (CL (j2 0 ((r.aQ.length:Int)-1) l lA lC hlen) (bj [11]) U)<|rP 1 [] mn ?_
 refine RK B<|an ?_
 exact Q1 hQ U U U U
theorem wI (a b:Bool):
 dT Tryz.prog 39 [(vB a),(vB b)] [] (Value.int .u8 (if a=true then 2 else if b=true then 1 else 0)):=by
 refine bx kr Tryz.func39 U U fun J Q hQ hN=>?_
 try dsimp only
 refine WS fun _ C=>bf 1 U<|RK C<|ah fun _ D=>av<|WS fun _ E=>rP 2 [] mn ?_
 refine RK E<|cy U (fun A=>?_) (fun A=>?_)
 ·refine WS fun _ F=>rP 1 [] mn ?_
  refine RK F<|an<|Q1 hQ U U U ?_
  rw [if_pos A]
 refine WS fun _ G=>rP 2 [] mn ?_
 refine RK G<|cy U (fun B=>?_) (fun B=>?_)
 ·refine WS fun _ H=>rP 1 [] mn ?_
  refine RK H<|an<|Q1 hQ U U U ?_
  (rw [if_neg (by rw [A]; decide),if_pos B])
 refine bZ<|aG<|KK D<|WS fun _ AA=>rP 1 [] mn ?_
 refine RK AA<|an<|Q1 hQ U U U ?_
 (rw [if_neg (by rw [A]; decide),if_neg (by rw [B]; decide)])
end
section
open Go.RowKit
theorem Qh {P:Program} {t:TypeId} {x y:Operand} {k e:TypeId} {p:Option Nat} (h:P.underlying t=some (.map k e)):gJ P .eql t x y (.map p) (.map none) (.bool p.isNone):=fun w=>by
 have A:(Op.equal t (.map p) (.map none)).run P w= .ok p.isNone w:=by
  unfold Op.equal
  show (Op.equalIn (9999+1) t (.map p) (.map none)).run P w=_
  unfold Op.equalIn
  cases p<;>simp [run_underlying h]
 have B:eqGuard .eql t x y (.map p) (.map none)=pure ():=rfl
 rw [B]
 show (Sem.run P (do let b ← Op.equal t (.map p) (.map none); pure (vB b)) w)=_
 simp [A]
theorem E8 {P:Program} {r:Nat} {es:Array MapEntry} {clock:Nat} {w:World} (t:TypeId) (hb:w.heap[r]? =some (.map es clock)):
 (Extern.MapsClone.clone #[.iface t (.map (some r))]).run P w= .ok (.iface t (.map (some w.heap.size))) (w.alloc (.map es clock)):=by
 have e:Extern.MapsClone.clone #[.iface t (.map (some r))]=(getObj r >>= fun o=>match o with
  | .map entries clock=>(newObj (.map entries clock) >>= fun n=>pure (.iface t (.map (some n))))
  |_=>stuck "maps.clone: a map expected"):=rfl
 rw [e]
 simp [MapKept.run_getObj_map hb,Result.andThen,go_sem]
theorem Cc {P:Program} {xt t k e:TypeId} {v:Value} {w:World} (h:P.underlying t=some (.map k e)):(Instr.typeAssert (.iface t v) xt t false).run P w= .ok v w:=by
 simp [Instr.typeAssert,run_underlying h,go_sem,Result.andThen]
theorem n_ {C:List aq} {g t:Nat} {cs:List Value} {n sz:Nat} {es:List (List Value)} (i:Nat) (hC:C[i]? =some (bV g t cs).ro) (h1:es.length=n) (h2: ∀ e∈es,e.length=sz) (h3:es.flatten=cs):ij C (rd (some ⟨g,0,none⟩) n sz es).holds:=fun w hw=>
 uv (show (bV g t cs).holds w from hw (bV g t cs).ro (aR hC)) h1 h2 ⟨[],by simp [h3]⟩
section
variable {E:eZ} {ops:Array Oper} {Q:cY} {rest:List Oper} {D:List Deferred} {L:List (Nat×Value)} {C:List aq}
variable {dst:Option Nat} {d:Nat} {ty:TypeId} {ps:String} {af:Array Edge} {g:Option (Nat×Bool)}
theorem Kq {P:Program} {t k e:TypeId} {v:Value} {w:World} (h:P.underlying t=some (.map k e)):(Instr.makeInterface t v).run P w= .ok (.iface t v) w:=by
 simp [Instr.makeInterface,run_underlying h,Result.andThen]
theorem OC {t k e:TypeId} {x:Operand} {v:Value} (hg:jt ops L g=true) (hx:ev L x=some v) (ht:E.P.underlying t=some (.map k e)):SD E ops ⟨dst,.makeInterface t x,ty,ps,af,g⟩ D L C (.iface t v):=
 dE hg sm fun a w hf _=>by
  have e:=hf.ev hx
  simp only [execOp,e]
  rw [Sem.run_bind,Kq ht]
  simp
theorem Sm {xt t kt et:TypeId} {x:Operand} {v:Value} (hg:jt ops L g=true) (hx:ev L x=some (.iface t v)) (ht:E.P.underlying t=some (.map kt et)):SD E ops ⟨dst,.typeAssert x xt t false,ty,ps,af,g⟩ D L C v:=
 dE hg sm fun a w hf _=>by
  have e:=hf.ev hx
  simp only [execOp,e]
  rw [Sem.run_bind,Cc ht]
  simp
theorem IM {K:Type} [DecidableEq K] {kV:K→Value} {x:Operand} {ts:Array TypeId} {f:FuncId} {fn:Func} {t b:Nat} {m:List (K×Value)} (hg:jt ops L g=true) (hx:ev L x=some (.iface t (.map (some b)))) (hf:E.P.funcs[f]? =some fn) (hname:(fn.name=="runtime.NumGoroutine")=false)
 (hb:fn.body.isNone=true) (hn:Extern.findNext fn=none) (he:Extern.find fn=some Extern.MapsClone.clone) (hC:ij C (gV kV b m).holds) (hd:Nat.blt d E.n=true) (k: ∀ b',RJ E ops Q rest D ((d,.iface t (.map (some b')))::L) (gV kV b' m::C)):
 RJ E ops Q (⟨some d,.call {callee:= .value (.func f),args:= #[x],argTypes:=ts},ty,ps,af,g⟩::rest) D L C:=by
 intro a w B hs
 have hd':d<E.n:=by rw [← Nat.blt_eq]; exact hd
 obtain ⟨es,c,F,hi⟩:=hC w hs.holds
 unfold rz
 rw [if_pos (dK B hg)]
 refine gM (v:= .iface t (.map (some w.heap.size))) (w':=w.alloc (.map es c)) sm ?_ ?_
 ·have e:=B.ev hx
  have G:a.eval (.func f)= .func (.func f) #[] #[]:=rfl
  simp [execOp,resolve,e,G,Deferred.ofValue,invoke,run_callFunc_extern hf hname hb hn he,E8 t F]
 ·refine k _ _ _ (B.put hd' _) (hs.grow (dJ.alloc no w _) (N:=[gV kV w.heap.size m]) ⟨fun A hA=>?_,fun A hA b hb=>?_,List.pairwise_singleton _ _⟩)
  ·simp at hA; subst hA; exact ⟨es,c,heap_alloc_new w _,hi⟩
  ·simp at hA; subst hA; exact Nat.le_of_eq (Eq.symm hb)
end
end
section
open Go.RowKit
theorem w5 (lA:OA) (lN lC:Nat):
 lq Tryz.prog 60 [(vS lA lN lC)] [] (fun (x:Nat)=>(Value.func (.func 81) [].toArray [(vP x)].toArray)) (fun (x:Nat)=>True) (fun (x:Nat)=>[(bV x 32 [(vS lA lN lC)])]):=by
 refine dj kr Tryz.func60 U U fun D Q hQ hN=>?_
 try dsimp only
 refine WS fun _ A=>uI U U fun C=>bf 1 U<|RK A<|WS fun _ B=>rS (FU U)<|rP 1 [] mn ?_
 refine RK B<|an<|LX hQ C [0] [] mn U U U U ?_
 trivial
theorem JE (nl:List Int) (nlA:OA) (nlC g1:Nat) (hlen:nl.length≤12):
 Nr Tryz.prog 81 [] [(vP g1)] [(rd nlA nl.length 1 (nl.map iC)),(bV g1 32 [(vS nlA nl.length nlC)])] (qg nl):=by
 refine Fb kr Tryz.func81 U U fun l J Z A0 T Q hY K AB hQ hN=>?_
 try dsimp only
 refine WS fun _ M=>rP 3 [] (mr 2 U mn) ?_
 refine RK M<|av ?_
 have F:(0≤nl.length)∧(J 0 A0)∧(Fo A0 T A0):=by exact ⟨Nat.zero_le _,K,AB⟩
 refine bH (ι:={z:Nat×aq // (z.1≤nl.length)∧(J z.1 z.2)∧(Fo A0 T z.2)}) [0,1,5,6] [1] U U (fun z=>[(7,(vI (z.1.1:Int)))]) (fun z=>[z.1.2]) (fun _=>rfl) (fun _=>rfl) (fun z=>nl.length-z.1.1) ⟨(0,A0),F⟩ (aT U) (aH [1,0]) ?_
 clear F
 rintro ⟨⟨i,A⟩,⟨G,B,C⟩⟩ J2 L
 try dsimp only at G B C
 try dsimp only
 refine WS fun _ N=>rP 1 [] mn ?_
 refine RK N<|ah fun _ O=>bL U (aM fun AA=>?_) (aL fun AA=>?_)
 ·refine bu<|ab<|ab<|au ?_
  refine hN _ _ _ (gU (vs:=[]) trivial fun w hs=>Sy 1 U (by rw [tF]; have e:nl.length=i:=I; rw [e]; exact B) C hs)
 refine WK O<|ah fun _ P=>av<|WS fun _ R=>?_
 obtain ⟨x,hx⟩:=aJ nl i I
 have S:=bG iC hx
 refine rS (IA i U (aD 0 U) cq dc I I)<|rS (fV i 0 (vI x) U bX (aD 0 U) S U dc U)<|bf 1 U<|RK R<|WS fun _ H=>rP 2 [] mn ?_
 refine FX 1 hY B C U U U (GW hx) U U (fun B9 E D=>?_) (fun B9 E D=>?_)
 rotate_left 1
 ·refine rP 1 [] mn ?_
  refine RK H<|aO U<|an ?_
  refine hQ _ _ _ (gU (vs:=[]) trivial fun w hs=>Pb 1 U E D hs)
 refine bf 1 U<|RK H<|aW U<|bZ<|aG<|KK P<|aj<|rP 2 [] mn ?_
 refine aC ?_
 refine aS (L ⟨((i+1),B9),⟨I,E,D⟩⟩ _ _ _ U os (aT U) (aH [0,1]))
end
section
open Go.RowKit
theorem Ot (x:Int):
 dT Tryz.prog 134 [(vI x)] [] (vB false):=by
 refine bx kr Tryz.func134 U U fun C Q hQ hN=>?_
 try dsimp only
 refine WS fun _ A=>bf 1 U<|RK A<|WS fun _ B=>rP 4 [] mn ?_
 refine RK B<|an<|Q1 hQ U U U ?_
 simp
theorem NH (x y:Int):
 dT Tryz.prog 105 [(vI x),(vI y)] [] (vB (decide (x<y))):=by
 refine bx kr Tryz.func105 U U fun C Q hQ hN=>?_
 try dsimp only
 refine WS fun _ A=>bf 1 U<|RK A<|WS fun _ B=>bf 1 U<|rS (CL (Ot x) (aI) U)<|rP 11 [] mn ?_
 refine RK B<|an<|Q1 hQ U U U ?_
 exact cB (decide_eq_decide.2 I)
theorem GL (l:List Int) (lA:OA) (lC:Nat) (hlen:l.length≤1000000):
 Dr Tryz.prog 99 [(vS lA l.length lC),(vI 0),(vI (l.length:Int))] [] (own lA lC 3 1 (l.map iC)) (fun (x:(List Int))=>(vT [])) (fun (x:(List Int))=>x.Perm l∧x.Pairwise (· ≤ ·)) (fun (x:(List Int))=>(own lA lC 3 1 (x.map iC))):=by
 refine mF kr Tryz.func99 U U fun g Q hQ hN=>?_
 try dsimp only
 refine WS fun _ X=>bf 1 U<|rS (SX (bU (r:= .int .i64 1) U U U (ib ⟨dc,dc⟩)) U U)<|rP 1 [] mn ?_
 refine RK X<|av ?_
 have A:(1≤1∧(1≤l.length∨1=1))∧(l.length=l.length)∧(l.Perm l)∧(Qj l 1):=by exact ⟨I,rfl,List.Perm.refl _,MI⟩
 refine bH (ι:={z:Nat×(List Int) // (1≤z.1∧(z.1≤l.length∨z.1=1))∧(z.2.length=l.length)∧(z.2.Perm l)∧(Qj z.2 z.1)}) [0,1,2] [] U U (fun z=>[(6,(vI (z.1.1:Int)))]) (fun z=>[(own lA lC 3 1 (z.1.2.map iC))]) (fun _=>rfl) (fun _=>rfl) (fun z=>l.length-z.1.1) ⟨(1,l),A⟩ (aT U) (aH [0]) ?_
 clear A
 rintro ⟨⟨i,m⟩,⟨K,AB,E,F⟩⟩ J2 M
 try dsimp only at K AB E F
 try dsimp only
 refine ah fun _ Y=>WS fun _ Z=>rP 3 [] mn ?_
 refine RK Z<|bL U (aM fun e=>?_) (aL fun e=>?_)
 ·refine bu<|ab<|ab<|au<|LM hN m 0 [] mn U U U U ?_
  exact ⟨E,NJ F I⟩
 refine WK Y<|ah fun _ O=>av<|WS fun _ b=>rP 2 [] mn ?_
 refine RK b<|av ?_
 have A:(i≤i)∧(m.length=l.length)∧(m.Perm l)∧(PU m i i):=by exact ⟨Nat.le_refl _,AB,E,HG F I⟩
 refine bH (ι:={z:Nat×(List Int) // (z.1≤i)∧(z.2.length=l.length)∧(z.2.Perm l)∧(PU z.2 i z.1)}) [0,1,2,6] [] U U (fun z=>[(7,(vI (z.1.1:Int)))]) (fun z=>[(own lA lC 3 1 (z.1.2.map iC))]) (fun _=>rfl) (fun _=>rfl) (fun z=>z.1.1) ⟨(i,m),A⟩ (aT U) (aH [0]) ?_
 clear A
 rintro ⟨⟨j,q⟩,⟨G,B,C,D⟩⟩ J8 W
 try dsimp only at G B C D
 try dsimp only
 refine ah fun _ c=>ah fun _ J=>dA cu 15 kr<|dP 4 [] mn ?_
 refine jh (t:=19) U (aM fun hj=>?_) (aL fun hj=>?_)
 ·refine lJ 11 U<|cL<|RK J<|aW U<|bu<|ab<|ab<|au<|aG<|KK O<|aj<|rP 3 [] mn ?_
  refine aC ?_
  refine aS (M ⟨((i+1),q),⟨I,B,C,by exact Lm I D⟩⟩ _ _ _ U (by simp only []; omega) (aT U) (aH [0]))
 refine dP 2 [] mn ?_
 obtain ⟨x,hx⟩:=aJ q j I
 have L:=bG iC hx
 refine dS (IA j U (ai (n:=l.length) 0 U sq) cq dc I I) ?_
 refine dS (fV j 0 (vI x) U bX (ai (n:=q.length) 0 U sm) L U dc U)<|dP 3 [] mn ?_
 obtain ⟨y,hy⟩:=aJ q (j-1) I
 have V:=bG iC hy
 refine dS (IA (j-1) U (ai (n:=l.length) 0 U sq) cq dc I I) ?_
 refine dS (fV (j-1) 0 (vI y) U bX (ai (n:=q.length) 0 U sm) V U dc U)<|dS (CL (NH x y) (aI) U)<|dP 1 [] mn ?_
 refine cL<|RK J<|bL U (aM fun H=>?_) (aL fun H=>?_)
 ·refine bu<|ab<|ab<|au<|aG<|KK O<|aj<|rP 3 [] mn ?_
  refine aC ?_
  refine aS (M ⟨((i+1),q),⟨I,B,C,by exact LL hx hy I G H D⟩⟩ _ _ _ U (by simp only []; omega) (aT U) (aH [0]))
 refine WK c<|ah fun _ N=>av<|dG cu [15,16,17] [8,9,12,13,14] [] [] [0] U U U U U<|eS U (MV U)<|eS U (MV U)<|eS U (MV U)<|eS U (MV U)<|eS U (BI U (rM ⟨I,I⟩))<|eS U (MV U)<|eS U (MV U)<|eS U (BI U (rM ⟨I,I⟩)) ?_
 refine fS U (IA (j-1) U (ai (n:=l.length) 0 U sq) cq dc I I) ?_
 refine fS U (fV (j-1) 0 (vI y) U bX (ai (n:=q.length) 0 U sm) V U dc U)<|eS U (MV U)<|eS U (MV U) ?_
 refine fS U (IA j U (ai (n:=l.length) 0 U sq) cq dc I I) ?_
 refine fS U (fV j 0 (vI x) U bX (ai (n:=q.length) 0 U sm) L U dc U) ?_
 refine fS U (IA j U (ai (n:=l.length) 0 U sq) cq dc I I) ?_
 refine eV U<|bY U fun T12 P=>eu (k:=j) (o:=0) (vs:=[(vI y)]) (es':=(List.map iC (q.set j y))) (C':=[(own lA lC 3 1 (List.map iC (q.set j y)))]) 0 U U U Cg U U U U L U dc (by exact (List.map_set (f:=iC) (l:=q) (i:=j) (a:=y)).symm) U<|aC (P _ _ (aH []) ?_)
 refine bY U fun T13 R=>?_
 obtain ⟨d,AA⟩:=aJ (q.set j y) (j-1) os
 have hx15m:(List.map iC (q.set j y))[(j-1)]? =some (iC d):=by rw [fq,AA]; rfl
 refine rS (IA (j-1) U (ai (n:=l.length) 0 U sq) cq dc I I) ?_
 refine aC (R _ _ (aH []) ?_)
 refine bY U fun T16 S=>eu (k:=(j-1)) (o:=0) (vs:=[(vI x)]) (es':=(List.map iC ((q.set j y).set (j-1) x))) (C':=[(own lA lC 3 1 (List.map iC ((q.set j y).set (j-1) x)))]) 0 U U U Cg U U U U hx15m U dc (by exact (List.map_set (f:=iC) (l:=(q.set j y)) (i:=(j-1)) (a:=x)).symm) U<|aC (S _ _ (aH []) ?_)
 refine fF U<|aG<|KK N<|aj<|rP 3 [] mn ?_
 refine aC ?_
 have T:(vI (((j-1):Nat):Int))=(vI ((j:Int)-1)):=by exact cI I
 refine aS (W ⟨((j-1),((q.set j y).set (j-1) x)),⟨I,by simp; exact B,(Ia hx hy).trans C,JC hx hy I G H D⟩⟩ _ _ _ U (by simp only []; omega) (ct 4<|aX U T<|dh.nil _) (aH [0]))
theorem MA (x:Int) (hx:0≤x∧x≤100):
 lq Tryz.prog 109 [(Value.int .u64 x)] [] (fun (x:Int)=>(vI x)) (fun (x:Int)=>True) (fun (x:Int)=>[]):=by
 refine dj kr Tryz.func109 U U fun N Q hQ hN=>?_
 try dsimp only
 refine WS fun _ D=>bf 1 U<|RK D<|ah fun _ E=>WS fun _ F=>rP 1 [] mn ?_
 refine rS (BI U FN)<|RK F<|cy U (aL fun L=>?_) (aM fun L=>?_)
 ·exfalso; omega
 refine WK E<|ah fun _ G=>WS fun _ H=>rP 1 [] mn ?_
 refine rS (BI U FN)<|RK H<|cy U (aL fun M=>?_) (aM fun M=>?_)
 ·exfalso; omega
 refine WK G<|ah fun _ AA=>WS fun _ J=>rP 1 [] mn ?_
 refine rS (BI U FN)<|RK J<|cy U (aL fun C=>?_) (aM fun C=>?_)
 ·exfalso; omega
 refine WK AA<|WS fun _ B=>bf 2 U<|rS (SX (vZ (m:=x) U U Rh TQ (CJ (by first|assumption|omega))) U U)<|PQ (k:=(x).toNat) U U U VK I (Nat.lt_of_lt_of_le (m:=200) I (of_decide_eq_true kr)) U fun A K=>rS (SX (vZ (m:=A) U U TQ oG (vo (by first|assumption|omega))) U U)<|rP 2 [] mn ?_
 refine RK B<|an<|LX hQ (0+A) [] [] mn U U U U ?_
 trivial
theorem Qy (x:Int) (hx:0≤x∧x≤100):
 lq Tryz.prog 75 [(Value.int .u64 x)] [] (fun (x:Int)=>(vI x)) (fun (x:Int)=>True) (fun (x:Int)=>[]):=by
 refine dj kr Tryz.func75 U U fun F Q hQ hN=>?_
 try dsimp only
 refine WS fun _ A=>bf 1 U<|RK A<|ah fun _ B=>aW U<|WK B<|WS fun _ C=>rP 1 [] mn ?_
 refine cX (MA x hx) (aI) U fun E D=>?_
 try dsimp only
 refine rP 1 [] mn ?_
 refine RK C<|an<|LX hQ E [] [] mn U U U U ?_
 trivial
theorem To (l:List Int) (lA:OA) (lC:Nat) (u:Int) (hlen:l.length≤12):
 Dr Tryz.prog 74 [(vS lA l.length lC),(vI 0),(vI (l.length:Int)),(vI u)] [] (own lA lC 3 1 (l.map iC)) (fun (x:(List Int))=>(vT [])) (fun (x:(List Int))=>x.Perm l∧x.Pairwise (· ≤ ·)) (fun (x:(List Int))=>(own lA lC 3 1 (x.map iC))):=by
 refine mF kr Tryz.func74 U U fun K Q hQ hN=>?_
 try dsimp only
 refine WS fun _ A=>bf 1 U<|RK A<|WS fun _ B=>bf 1 U<|RK B<|av<|jQ 1<|ed fun R3 AA=>av<|WS fun _ C=>bf 4 U<|RK C<|ah fun _ H=>WS fun _ D=>rP 2 [] mn ?_
 refine RK D<|bL U (aM fun G=>?_) (aL fun G=>?_)
 ·exfalso; omega
 refine WS fun _ E=>rP 3 [] mn ?_
 refine iO 0 U U U U (GL l lA lC I) U kd U (fun J F=>?_)
 try dsimp only
 refine RK E<|an<|LM hQ J 0 [] mn U U U U ?_
 assumption
theorem As (l:List Int) (lA:OA) (lC:Nat) (hlen:l.length≤12):
 Dr Tryz.prog 51 [(vS lA l.length lC)] [] (own lA lC 3 1 (l.map iC)) (fun (x:(List Int))=>(vT [])) (fun (x:(List Int))=>x.Perm l∧x.Pairwise (· ≤ ·)) (fun (x:(List Int))=>(own lA lC 3 1 (x.map iC))):=by
 refine mF kr Tryz.func51 U U fun F Q hQ hN=>?_
 try dsimp only
 refine WS fun _ A=>bf 3 U<|RK A<|aj<|rP 3 [] mn ?_
 refine rS (SX (vZ (m:=(l.length:Int)) U U oG Tz (AN (by first|assumption|omega))) U U)<|cX (Qy (l.length:Int) I) (aI) U fun E B=>?_
 try dsimp only
 refine iO 0 U U U U (To l lA lC E hlen) U kd U (fun D C=>?_)
 try dsimp only
 refine aC<|LM hN D 0 [] mn U U U U ?_
 assumption
end
section
open Go.RowKit
theorem Mh (nl:List Int) (nlA:OA) (nlC g1:Nat) (hlen:nl.length≤12):
 lq Tryz.prog 94 [(vS none 0 0),(Value.func (.func 81) [].toArray [(vP g1)].toArray)] [(rd nlA nl.length 1 (nl.map iC)),(bV g1 32 [(vS nlA nl.length nlC)])] (fun (x:(OA)×Nat)=>(vS x.1 nl.length x.2)) (fun (x:(OA)×Nat)=>True) (fun (x:(OA)×Nat)=>[(own x.1 x.2 3 1 (nl.map iC))]):=by
 refine dj kr Tryz.func94 U U fun R Q hQ hN=>?_
 try dsimp only
 refine WS fun _ D=>uI U U fun J=>bf 1 U<|RK D<|ah fun _ E=>WS fun _ G=>rP 1 [] mn ?_
 refine RK G<|av<|ku 1 U (by exact fun _ h=>h)<|ku 3 U (by exact fun _ h=>h)<|fT 3 1 ?_
 refine F8 (L0:=[(2,(vP J))]) (F:=[(rd nlA nl.length 1 (nl.map iC)).ro,(bV g1 32 [(vS nlA nl.length nlC)]).ro]) (xs:=(qg nl)) (fun k (y:(OA)×Nat)=>True) (fun k y=>[(own y.1 y.2 3 1 ((nl.take k).map iC)),(bV J 32 [(vS y.1 ((nl.take k).length) y.2)]),(rd nlA nl.length 1 (nl.map iC)).ro]) (fun _ (_:Unit)=>False) (fun _ _=>[]) [0,3,4] [2,1] (none,0) U U (JE nl nlA nlC g1 (by first|assumption|omega|(simp; done))) U U U (by trivial) (by simp only [List.forall_mem_cons,List.not_mem_nil,false_imp_iff,implies_true,and_true]; exact ⟨⟨_,sm,(dD (bO _))⟩,⟨_,sm,(dD (bO _))⟩⟩) (by exact DA) U (aT U) ?_ ?_ (fun _ _ _ h=>h.elim) (fun _ _ h=>h.elim)
 rotate_left 1
 ·rintro O ⟨a,c⟩ AA
  try dsimp only
  rw [ym]
  refine aG<|KK E<|WS fun _ A=>rP 2 [] (mc 4 U mn) ?_
  refine RK A<|an<|hQ _ _ _ (ou 0 U U<|gU (vs:=[(vS a nl.length c)]) ⟨U,trivial⟩ fun w hs=>Kn (a,c) [3] ?_ ?_ U U U hs)
  ·rfl
  ·trivial
 rintro k x ⟨a,c⟩ l ra rb S T K5 Qr6 hx K H B L M
 obtain ⟨y,hy,rfl⟩:=GK hx
 try dsimp only
 refine aj<|rP 1 [] mn ?_
 refine aC<|aS (H _ _ ?_)
 refine av<|aj<|rP 2 [] (mc 2 U mn) ?_
 refine cU (xs:=[.tmp 9]) (cs:=[(vI y)]) U cq jd U U U U (by simp [Value.cells]) U U fun P=>?_
 refine db (es2:=(List.map iC (nl.take (k+1)))) (m':=(nl.take (k+1)).length) 2 U U U pX U U sm (aZ (es:=List.map iC [y]) 0 U U (by simp [bB]) U) (kf _) (by simp; omega) (by simp [maxLen]; omega) (by rw [jE hy]; simp) sm U fun N C=>?_
 try dsimp only
 refine UK U AI U U<|aC<|aG ?_
 exact B (N,C) _ _ (by trivial) (aH [1,2,3,4])
theorem G5 (nl:List Int) (nlA:OA) (nlC g1:Nat) (hlen:nl.length≤12):
 lq Tryz.prog 67 [(Value.func (.func 81) [].toArray [(vP g1)].toArray)] [(rd nlA nl.length 1 (nl.map iC)),(bV g1 32 [(vS nlA nl.length nlC)])] (fun (x:(OA)×Nat)=>(vS x.1 nl.length x.2)) (fun (x:(OA)×Nat)=>True) (fun (x:(OA)×Nat)=>[(own x.1 x.2 3 1 (nl.map iC))]):=by
 refine dj kr Tryz.func67 U U fun G Q hQ hN=>?_
 try dsimp only
 refine WS fun _ A=>bf 1 U<|RK A<|WS fun _ B=>rP 1 [] mn ?_
 refine cX (Mh nl nlA nlC g1 hlen) (bj [0,1]) U fun F E=>?_
 obtain ⟨C,D⟩:=F
 try dsimp only
 refine rP 1 [] mn ?_
 refine RK B<|an<|LX hQ (C,D) [0] [] mn U U U U ?_
 trivial
theorem xo (nl:List Int) (nlA:OA) (nlC g1:Nat) (hlen:nl.length≤12):
 lq Tryz.prog 41 [(Value.func (.func 81) [].toArray [(vP g1)].toArray)] [(rd nlA nl.length 1 (nl.map iC)),(bV g1 32 [(vS nlA nl.length nlC)])] (fun (x:(OA)×Nat)=>(vS x.1 nl.length x.2)) (fun (x:(OA)×Nat)=>True) (fun (x:(OA)×Nat)=>[(own x.1 x.2 3 1 ((df nl).map iC))]):=by
 refine dj kr Tryz.func41 U U fun J Q hQ hN=>?_
 try dsimp only
 refine WS fun _ B=>bf 1 U<|RK B<|WS fun _ C=>rP 1 [] mn ?_
 refine cX (G5 nl nlA nlC g1 hlen) (bj [0,1]) U fun AA H=>?_
 obtain ⟨F,G⟩:=AA
 try dsimp only
 refine bf 1 U<|RK C<|WS fun _ D=>rP 1 [] mn ?_
 refine iO 0 U U U U (As nl F G hlen) U kd U (fun m A=>?_)
 try dsimp only
 refine RK D<|WS fun _ E=>?_
 obtain rfl:=qE A.1 A.2
 skip
 refine rP 2 [] mn ?_
 refine RK E<|an<|LX hQ (F,G) [0] [] mn U U U U ?_
 trivial
end
section
open Go.RowKit
section
variable {K:Type} [DecidableEq K] {kV:K→Value}
variable {E:eZ} {ops:Array Oper} {Q:cY} {rest:List Oper} {D:List Deferred} {L:List (Nat×Value)} {C:List aq}
variable {ty:TypeId} {ps:String} {af:Array Edge} {g:Option (Nat×Bool)}
theorem o_ {t kt et:TypeId} {xm xk:Operand} {ts:Array TypeId} {b:Nat} {x:K} {m m':List (K×Value)} {C':List aq} (i:Nat) (hg:jt ops L g=true) (hm:ev L xm=some (.map (some b))) (hk:ev L xk=some (kV x)) (hts:ts[0]? =some t)
 (ht:E.P.underlying t=some (.map kt et)) (hkt:ub E.P kt kV) (hC:C[i]? =some (gV kV b m)) (hm':cp m x=m') (hC':C.set i (gV kV b m')=C') (k:RJ E ops Q rest D L C'):
 RJ E ops Q (⟨none,.call {callee:= .builtin .delete,args:= #[xm,xk],argTypes:=ts},ty,ps,af,g⟩::rest) D L C:=by
 subst hm' hC'
 intro a w A hs
 unfold rz
 rw [if_pos (dK A hg)]
 obtain ⟨es,c,he,hi⟩:=hs.holds _ (aR hC)
 have B:(getObj b).run E.P w= .ok (.map es c) w:=MapKept.run_getObj_map he
 rcases oJ (P:=E.P) (w:=w) (x:=x) hkt hi with ⟨F,G⟩|⟨j,AA,F,G,H⟩
 ·refine gM (v:= .tuple #[]) (w':={w with heap:=w.heap.setIfInBounds b (.map es c)}) sm ?_ ?_
  ·simp [execOp,resolve,invoke,builtin,A.ev hm,A.ev hk,Builtin.delete_,hts,run_underlying ht,B,iJ hkt,F,MapKept.run_setObj_map _ he]
  ·refine k _ _ ⟨A.defers,A.size,A.at_⟩ (hs.Dp (b:=b) i hC U U (m8 _) (fun _ h=>h) ⟨_,_,o7 he,?_⟩)
   rw [Eu G]; exact hi
 ·refine gM (v:= .tuple #[]) (w':={w with heap:=w.heap.setIfInBounds b (.map (es.eraseIdxIfInBounds j) c)}) sm ?_ ?_
  ·simp [execOp,resolve,invoke,builtin,A.ev hm,A.ev hk,Builtin.delete_,hts,run_underlying ht,B,iJ hkt,F,MapKept.run_setObj_map _ he]
  ·exact k _ _ ⟨A.defers,A.size,A.at_⟩ (hs.Dp (b:=b) i hC U U (m8 _) (fun _ h=>h) ⟨_,_,o7 he,hi.del G⟩)
end
end
section
open Go.RowKit
theorem IQ (n lo hi:Int) (g1 g2:Nat):
 dT Tryz.prog 140 [(vI n),(vP g1),(vP g2)] [(bV g1 3 [(vI lo)]),(bV g2 3 [(vI hi)])] (vB (decide (n<lo∨hi<n))):=by
 refine bx kr Tryz.func140 U U fun D Q hQ hN=>?_
 try dsimp only
 refine WS fun _ B=>bf 1 U<|RK B<|WS fun _ A=>rP 4 [] (mr 0 U mn) ?_
 refine cR (t:=8) U (aL fun C=>?_) (aM fun C=>?_)
 ·refine rP 5 [] mn ?_
  refine RK A<|an<|Q1 hQ U U U ?_
  exact cB (fI I).symm
 refine rP 5 [] (mr 1 U mn) ?_
 refine RK A<|an<|Q1 hQ U U U ?_
 exact cB (decide_eq_decide.2 I)
theorem iN (lo hi:Int) (l:List Int) (lA:OA) (lC:Nat) (hlen:l.length≤1000000):
 dT Tryz.prog 116 [(vI lo),(vI hi),(vS lA l.length lC)] [(rd lA l.length 1 (l.map iC))] (vB (pS lo hi l)):=by
 refine bx kr Tryz.func116 U U fun F Q hQ hN=>?_
 try dsimp only
 refine WS fun _ D=>uI U U fun A=>uI U U fun B=>bf 1 U<|RK D<|WS fun _ E=>rP 1 [] mn ?_
 refine rS (FU U) ?_
 refine rS (CL (su l lA lC (Value.func (.func 140) [].toArray [(vP A),(vP B)].toArray) (fun C=>(decide (C<lo∨hi<C))) (eW [(bV A 3 [(vI lo)]),(bV B 3 [(vI hi)])]) (by intro C _; exact nm (fi:=[]) (ca:=[(vP A),(vP B)]) (lX (IQ C lo hi A B) (bj [0,1]))) hlen) (fz 2 U U<|aw (lV (bj [1,0]))<|aI) U) ?_
 refine rP 2 [] mn ?_
 refine RK E<|an ?_
 exact Q1 hQ U U U U
theorem U0 (n d:Int) (hd:2≤d):
 dT Tryz.prog 142 [(vI n),(vI d)] [] (vI (RH n d)):=by
 refine bx kr Tryz.func142 U U fun C Q hQ hN=>?_
 try dsimp only
 refine WS fun _ A=>bf 1 U<|RK A<|WS fun _ B=>bf 2 U<|rS (BI U QR)<|rS (BI U I9)<|bf 1 U<|rS (BI U (P0 I (QT (Rb _) hd)))<|rP 1 [] mn ?_
 refine RK B<|an ?_
 exact Q1 hQ U U U U
theorem OJ (n d:Int) (hd:1≤d∧d≤1000000) (hn:0≤n∧n≤1000000000000000):
 dT Tryz.prog 142 [(vI n),(vI d)] [] (vI (o9 n d)):=by
 refine bx kr Tryz.func142 U U fun C Q hQ hN=>?_
 try dsimp only
 refine WS fun _ A=>bf 1 U<|RK A<|WS fun _ B=>bf 5 U<|rS (BI U (sL I I I))<|rP 1 [] mn ?_
 refine RK B<|an ?_
 exact Q1 hQ U U U U
theorem Ft (c:ar) (sA:OA) (sC:Nat) (at_:Int) (hc:eT c) (ha:0≤at_∧at_≤90000000):
 dT Tryz.prog 218 [(vA (dp.cells (dp.mk c.dg (br.mk sA c.bo.length sC)))),(vI at_)] [(rd sA c.bo.length 3 (c.bo.map cx.cells))] (vA (aa.cells (ia c at_))):=by
 have X:=hc.len
 have J:=hc.rO
 refine bx kr Tryz.func218 U U fun e Q hQ hN=>?_
 try dsimp only
 refine WS fun _ M=>fK U fun b=>AL U de fun d=>RK M<|WS fun _ N=>rS (SX (bh (xs:=[(0,.const (vI (-1099511627776))),(1,.const (vI 1099511627776))]) (cs:=(aa.cells (aa.mk (-1099511627776) 1099511627776))) U U (bg gf U)) U U)<|AL U de fun W=>fP U cm U<|RK N<|ah fun _ O=>ah fun _ P=>?_
 have R:(aa.cells (aa.mk (-1099511627776) 1099511627776))=(aa.cells (gn c at_ 0)):=by rfl
 rw [R]
 refine aj<|rP 4 [] (mc 2 U mn) ?_
 refine RK P<|av ?_
 have A:(0≤c.bo.length):=by exact Nat.zero_le _
 refine bH (ι:={z:Nat // (z≤c.bo.length)}) [1,2,4,5,11,12] [1,2,3] U U (fun z=>[(13,(vI (z.1:Int)))]) (fun z=>[(bV W 40 (aa.cells (gn c at_ z.1)))]) (fun _=>rfl) (fun _=>rfl) (fun z=>c.bo.length-z.1) ⟨0,A⟩ (aT U) (aH [1,2,3,0]) ?_
 clear A
 rintro ⟨i,S⟩ J9 L
 try dsimp only
 refine WS fun _ B=>rP 1 [] mn ?_
 refine RK B<|ah fun _ C=>bL U (aM fun K=>?_) (aL fun K=>?_)
 ·refine bu<|ab<|ab<|au<|KK O<|WS fun _ G=>rP 1 [] (mc 3 U mn) ?_
  refine fP U cm U<|RK G<|an<|Ie hQ [0] (mc 0 U mn) U ?_
  rw [nI (show c.bo.length≤i by omega)]
 refine WK C<|ah fun _ D=>av<|WS fun _ E=>?_
 obtain ⟨x,hx⟩:=aJ c.bo i I
 have AA:=bG cx.cells hx
 refine rS (IA i U (aD 2 U) p9 dc I I)<|rS (oH i 0 (cx.cells x) U bX (aD 2 U) AA U dc U U)<|AL U rN fun V=>fP U tD U<|RK E<|WS fun _ F=>rP 5 [0,1] (mc 2 U (mc 0 U mn)) ?_
 have T:=hc.uf hx
 have Z:=CO hc ha i
 have Y:=Fg J ha (show 0≤x.At∧x.At≤90000000 by omega)
 refine fw 5 [] (mc 0 U mn) U<|rS (MX U)<|rS (BI U (Fi ⟨I,I⟩))<|rS (CL (OJ (c.dg*(max (at_-x.At) (x.At-at_))) 1000000 I I) (aI) U)<|bf 1 U<|RK F<|aj<|rP 6 [0,1] (mc 4 U (mc 0 U mn)) ?_
 have a:0≤o9 (c.dg*max (at_-x.At) (x.At-at_)) 1000000∧o9 (c.dg*max (at_-x.At) (x.At-at_)) 1000000≤90001:=uz J ha T.1
 refine bf 1 U<|rS (MX U)<|rP 7 [0,1] (mc 4 U (mc 0 U mn)) ?_
 refine rS (MN U)<|rS (SX (bh (xs:=[(0,.tmp 37),(1,.tmp 45)]) (cs:=(aa.cells (aa.mk (max ((gn c at_ i).Lo) (x.ek.Lo-(o9 (c.dg*(max (at_-x.At) (x.At-at_))) 1000000))) (min ((gn c at_ i).Hi) (x.ek.Hi+(o9 (c.dg*(max (at_-x.At) (x.At-at_))) 1000000)))))) U U (bg gf U)) U U)<|Pd U cm U<|aC<|aG<|KK D ?_
 have H:(aa.cells (aa.mk (max ((gn c at_ i).Lo) (x.ek.Lo-(o9 (c.dg*(max (at_-x.At) (x.At-at_))) 1000000))) (min ((gn c at_ i).Hi) (x.ek.Hi+(o9 (c.dg*(max (at_-x.At) (x.At-at_))) 1000000)))))=(aa.cells (gn c at_ (i+1))):=by rw [jG hx]; rfl
 rw [H]
 refine aj<|rP 2 [] mn ?_
 refine aC ?_
 have AB:(vI (((i+1):Nat):Int))=(vI ((i:Int)+1)):=by exact cI I
 refine aS (L ⟨(i+1),(by first|omega|(simp only []; omega))⟩ _ _ _ U os (ct 6<|aX U AB<|dh.nil _) (aH [1,2,3,4]))
theorem Qp (c:ar) (sA:OA) (sC:Nat) (hlen:c.bo.length≤1000000) (hcap:c.bo.length≤sC):
 dT Tryz.prog 120 [(vA (dp.cells (dp.mk c.dg (br.mk sA c.bo.length sC))))] [(rd sA c.bo.length 3 (c.bo.map cx.cells))] (vB (decide (eT c))):=by
 refine bx kr Tryz.func120 U U fun w0 Q hQ hN=>?_
 try dsimp only
 refine WS fun _ AO=>fK U fun b2=>bf 1 U<|RK AO<|zU U<|ah fun _ AP=>WS fun _ q=>rP 2 [] (mc 0 U mn) ?_
 refine cU (xs:=[.tmp 11]) (cs:=[(vI c.dg)]) U cq jd U U U U (by simp [Value.cells]) U U fun b5=>?_
 refine rS (CL (dT.eq (iN 0 1000 ([c.dg]) (some ⟨b5,0,none⟩) 1 (by (simp; done))) cS) (aw (aZ 0 U U (by simp [bB]) U)<|aI) U) ?_
 refine rP 2 [] mn ?_
 refine cR (t:=15) U (bq fun Aa=>?_) (bp fun Aa=>?_)
 ·refine bf 7 U<|RK q<|aO U<|WS fun _ AQ=>rP 1 [] mn ?_
  refine RK AQ<|an<|Q1 hQ U U U ?_
  exact cB (cf fun h=>Aa h.rO).symm
 refine rP 3 [] (mc 1 U mn) ?_
 refine cU (xs:=[.tmp 18]) (cs:=[(vI (c.bo.length:Int))]) U cq jd U U U U (by simp [Value.cells]) U U fun b7=>?_
 refine rS (CL (dT.eq (iN 1 5 ([(c.bo.length:Int)]) (some ⟨b7,0,none⟩) 1 (by (simp; done))) cS) (aw (aZ 0 U U (by simp [bB]) U)<|aI) U) ?_
 refine rP 2 [] mn ?_
 refine RK q<|cy U (bq fun O=>?_) (bp fun O=>?_)
 ·refine WS fun _ AR=>rP 1 [] mn ?_
  refine RK AR<|an<|Q1 hQ U U U ?_
  exact cB (cf fun h=>O (by have:=h.len; omega)).symm
 refine WK AP<|WS fun _ AS=>bf 1 U<|RK AS<|WS fun _ R=>bf 1 U<|RK R<|ah fun _ S=>AT<|KK S<|ah fun _ K=>WS fun _ T=>rP 4 [] (mc 2 U mn) ?_
 refine RK T<|av ?_
 have B:(0≤c.bo.length)∧(rZ c 0):=by exact ⟨Nat.zero_le _,HQ⟩
 have r:(vI (kb c 0))=(vI (-1)):=by rw [gr rfl]
 refine bH (ι:={z:Nat // (z≤c.bo.length)∧(rZ c z)}) [1,2,4,24,25] [2,3] U U (fun z=>[(3,(vI (kb c z.1))),(26,(vI (z.1:Int)))]) (fun z=>[]) (fun _=>rfl) (fun _=>rfl) (fun z=>c.bo.length-z.1) ⟨0,B⟩ (aX U r<|aT U) (aH [2,3]) ?_
 clear B
 rintro ⟨i,⟨L,C⟩⟩ J15 P
 try dsimp only
 have Ac: -1≤kb c i∧kb c i≤86400000:=QZ L C
 refine WS fun _ AJ=>rP 1 [] mn ?_
 refine RK AJ<|ah fun _ V=>bL U (aM fun AI=>?_) (aL fun AI=>?_)
 ·refine bu<|ab<|ab<|au<|KK K<|WS fun _ f=>rP 2 [] mn ?_
  refine RK f<|an<|Q1 hQ U U U ?_
  exact cB (fI (HR Aa I (by have e:i=c.bo.length:=I; rw [← e]; exact C))).symm
 refine WK V<|ah fun _ W=>av<|WS fun _ X=>rP 1 [] mn ?_
 obtain ⟨x,hx⟩:=aJ c.bo i I
 have AW:=bG cx.cells hx
 refine rS (IA i U (aD 1 U) p9 dc I I)<|rS (oH i 0 (cx.cells x) U bX (aD 1 U) AW U dc U U)<|AL U rN fun AY=>rP 1 [] mn ?_
 refine fP U tD U<|RK X ?_
 refine nV (ι:=Unit) [1,2,3,5,6,24,25,26] [0,1,2] U U (fun z=>[(4,(vB (decide (fh c i x))))]) (fun z=>[]) (fun _=>rfl) (fun _=>rfl) ?_ fun K22 G=>?_
 ·intro _
  try dsimp only
  refine ah fun _ Y=>WS fun _ Z=>fw 3 [] (mc 1 U mn) U<|rS (UL i U p9 I I)<|rP 2 [] mn ?_
  refine RK Z<|av ?_
  have B:(0≤i)∧((decide (fh c i x))=(decide (l4 c i x 0))):=by exact ⟨Nat.zero_le _,decide_eq_decide.2 EI.symm⟩
  refine bH (ι:={z:Nat×Bool // (z.1≤i)∧(z.2=(decide (l4 c i x z.1)))}) [1,2,3,5,6,24,25,26,59,60] [0,1,2] U U (fun z=>[(4,(vB z.1.2)),(61,(vI (z.1.1:Int)))]) (fun z=>[]) (fun _=>rfl) (fun _=>rfl) (fun z=>i-z.1.1) ⟨(0,(decide (fh c i x))),B⟩ (aT U) (aH [0,1,2]) ?_
  clear B
  rintro ⟨⟨k,b⟩,⟨M,A⟩⟩ J25 F
  try dsimp only at M A
  try dsimp only
  refine WS fun _ a=>rP 1 [] mn ?_
  refine RK a<|ah fun _ d=>bL U (aM fun AK=>?_) (aL fun AK=>?_)
  ·refine bu<|ab<|ab<|au<|KK Y<|ah fun _ m=>WS fun _ n=>rP 2 [] mn ?_
   refine RK n<|cy U (fun D=>?_) (fun D=>?_)
   ·rw [Bool.not_eq_true'] at D
    refine bu<|ab<|iA U<|ab<|ab<|au<|KK K<|WS fun _ p=>rP 2 [] mn ?_
    refine RK p<|an<|Q1 hQ U U U ?_
    exact cB (by have e:k=i:=I; rw [e] at A; rw [D] at A ⊢; exact (cf (Js hx (of_decide_eq_false A.symm))).symm)
   rw [Bool.not_eq_false'] at D
   refine WK m<|aj<|fw 3 [] (mc 0 U mn) U<|aC<|aG<|KK W<|aj<|rP 2 [] mn ?_
   refine aC ?_
   have AC:(vB true)=(vB b):=by exact cB D.symm
   have AD:(vI (kb c (i+1)))=(vI x.At):=by rw [oc hx]
   have AE:(vI (((i+1):Nat):Int))=(vI ((i:Int)+1)):=by exact cI I
   refine aS (P ⟨(i+1),⟨I,HB C hx (by have e:k=i:=I; rw [e] at A; exact of_decide_eq_true (A.symm.trans D))⟩⟩ _ _ _ U os (dh.cons U<|dh.cons U<|aX U AC<|dh.cons U<|dh.cons U<|aX U AD<|aX U AE<|dh.nil _) (aH [1,2]))
  refine WK d<|ah fun _ H=>av<|WS fun _ g=>?_
  obtain ⟨o,ho⟩:=aJ c.bo k I
  have AU:=bG cx.cells ho
  refine rS (SS k U (aD 2 U) p9 dc I I I)<|rS (oH k 0 (cx.cells o) U bX (aD 2 U) AU U dc U U)<|AL U rN fun AZ=>fP U tD U<|RK g<|WS fun _ l=>fw 6 [0,1,2] (mc 2 U (mc 1 U (mc 0 U mn))) U<|rS (BI U I9)<|rS (BI U Qe)<|rS (CL (U0 (AX (c.dg*(AX (x.At-o.At)))) 1000000 I) (aI) U)<|bf 1 U<|RK l<|aj<|rP 2 [] mn ?_
  refine b_ (t:=75) U (fun J=>?_) (fun J=>?_)
  ·refine bf 6 U<|bf 16 U<|aC<|aG<|KK H<|aj<|rP 2 [] mn ?_
   refine aC ?_
   have AB:(vI (((k+1):Nat):Int))=(vI ((k:Int)+1)):=by exact cI I
   refine aS (F ⟨((k+1),false),⟨I,by exact (cf fun h=>by have h2:=((si ho).1 h).1; rw [A] at J; exact absurd (fI h2) (by rw [J]; decide)).symm⟩⟩ _ _ _ U os (ct 11<|aX U AB<|dh.nil _) (aH [1,2,3]))
  refine rP 6 [0,1] (mc 1 U (mc 0 U mn)) ?_
  have AF:l4 c i x k:=of_decide_eq_true (A.symm.trans J)
  obtain ⟨AV,Ad,Ae⟩:=uy (fun j y hj hy=>(C j y hj hy).1) hx AF.1 I ho
  have N:=N4 Aa AV
  refine rP 5 [] mn ?_
  refine b_ (t:=86) U (aM fun E=>?_) (aL fun E=>?_)
  ·refine bf 11 U<|aC<|aG<|KK H<|aj<|rP 2 [] mn ?_
   refine aC ?_
   have AA:(vI (((k+1):Nat):Int))=(vI ((k:Int)+1)):=by exact cI I
   refine aS (F ⟨((k+1),false),⟨I,by exact (cf fun h=>by have h2:=((si ho).1 h).2; rw [N] at E; exact E h2.1).symm⟩⟩ _ _ _ U os (ct 11<|aX U AA<|dh.nil _) (aH [1,2,3]))
  refine fw 11 [0,1] (mc 0 U (mc 1 U mn)) U<|aC<|aG<|KK H<|aj<|rP 2 [] mn ?_
  refine aC ?_
  have w:(vI (((k+1):Nat):Int))=(vI ((k:Int)+1)):=by exact cI I
  refine aS (F ⟨((k+1),(decide ((o.ek.Lo-x.ek.Hi)≤(RH (AX (c.dg*(AX (x.At-o.At)))) 1000000)))),⟨I,by exact decide_eq_decide.2 (by rw [si ho,N]; rw [N] at E; exact ⟨fun h=>⟨AF,E,h⟩,fun h=>h.2.2⟩)⟩⟩ _ _ _ U os (ct 11<|aX U w<|dh.nil _) (aH [1,2,3]))
 refine aj<|rP 4 [] (mc 0 U mn) ?_
 refine cU (xs:=[.tmp 34]) (cs:=[(vI x.At)]) U cq jd U U U U (by simp [Value.cells]) U U fun AG=>?_
 refine rS (CL (dT.eq (iN ((kb c i)+1) 86400000 ([x.At]) (some ⟨AG,0,none⟩) 1 (by (simp; done))) cS) (aw (aZ 0 U U (by simp [bB]) U)<|aI) U) ?_
 refine rP 1 [] mn ?_
 refine b_ (t:=37) U (aM fun AM=>?_) (aL fun AM=>?_)
 ·refine rP 19 [] mn ?_
  refine aC ?_
  have v:(decide (fh c i x))=false:=cf (by unfold fh; omega)
  refine aS (jy (ct 8<|nu U v<|dh.nil _) (aH [1,2,3]) (G ()))
 refine rP 6 [] (mc 1 U mn) ?_
 refine cU (xs:=[.tmp 40,.tmp 43]) (cs:=[(vI x.ek.Lo),(vI x.ek.Hi)]) U cq jd U U U U (by simp [Value.cells]) U U fun AH=>?_
 refine rS (CL (dT.eq (iN (-10000) 10000 ([x.ek.Lo,x.ek.Hi]) (some ⟨AH,0,none⟩) 2 (by (simp; done))) qR) (aw (aZ 0 U U (by simp [bB]) U)<|aI) U) ?_
 refine rP 2 [] mn ?_
 refine b_ (t:=47) U (aM fun AN=>?_) (aL fun AN=>?_)
 ·refine rP 9 [] mn ?_
  refine aC ?_
  have u:(decide (fh c i x))=false:=cf (by unfold fh; omega)
  refine aS (jy (ct 8<|nu U u<|dh.nil _) (aH [2,3,4]) (G ()))
 refine rP 9 [] (mc 2 U mn) ?_
 refine aC ?_
 have s:(decide (fh c i x))=(decide (x.ek.Lo≤x.ek.Hi)):=decide_eq_decide.2 (by unfold fh; omega)
 refine aS (jy (ct 8<|nu U s<|dh.nil _) (aH [2,3,4]) (G ()))
theorem S9 (ms:List ar) (az:List RA) (k:Nat) (m:ar) (a:RA) (hm:ms[k]? =some m) (ha:az[k]? =some a) (hc:m.bo.length≤a.2∧m.bo.length≤1000000):
 dT Tryz.prog 119 [(vA (dp.cells (dp.mk m.dg (br.mk a.1 m.bo.length a.2))))] [(eW (aV ar.gZ ms az))] (vB (!(decide (eT m)))):=by
 obtain ⟨C,D⟩:=hc
 refine bx kr Tryz.func119 U U fun F Q hQ hN=>?_
 try dsimp only
 refine WS fun _ A=>fK U fun E=>bf 1 U<|RK A<|WS fun _ B=>fw 1 [] (mc 0 U mn) U<|rS (CL (Qp m a.1 a.2 asm asm) (aw (show ij _ (rd a.1 m.bo.length 3 (m.bo.map cx.cells)).holds from (du 1 U (bM hm ha (by simp [ar.gZ]))))<|aI) U)<|rP 2 [] mn ?_
 refine RK B<|an ?_
 exact Q1 hQ U U U U
theorem G3 (l:List ar) (az:List RA) (lA:OA) (lC:Nat) (f:Value) (p:ar→Bool) (X:aq) (hf: ∀ (k:Nat) m a,l[k]? =some m→az[k]? =some a→DI Tryz.prog f [.agg (ar.cells m a).toArray] [X] (.bool (p m))) (hlen:l.length≤1000000) (has:az.length=l.length):
 dT Tryz.prog 141 [(vS lA l.length lC),f] [(rd lA l.length 2 (List.zipWith ar.cells l az)),(eW (aV ar.gZ l az)),X] (vI (tI p l)):=by
 refine bx kr Tryz.func141 U U fun T Q hQ hN=>?_
 try dsimp only
 refine WS fun _ AA=>bf 1 U<|RK AA<|ah fun _ J=>WS fun _ K=>rP 3 [] mn ?_
 refine RK K<|av ?_
 have B:(0≤l.length)∧((l.take 0).any p=false):=by simp
 refine bH (ι:={z:Nat // (z≤l.length)∧((l.take z).any p=false)}) [0,1,7] [0,1,2] U U (fun z=>[(8,(vI (z.1:Int)))]) (fun z=>[]) (fun _=>rfl) (fun _=>rfl) (fun z=>l.length-z.1) ⟨0,B⟩ (aT U) (aH [0,1,2]) ?_
 clear B
 rintro ⟨i,⟨P,A⟩⟩ J4 H
 try dsimp only
 refine WS fun _ L=>rP 1 [] mn ?_
 refine RK L<|ah fun _ M=>bL U (aM fun S=>?_) (aL fun S=>?_)
 ·refine bu<|ab<|ab<|au<|KK J<|WS fun _ E=>rP 1 [] mn ?_
  refine RK E<|an<|Q1 hQ U U U ?_
  exact cI (sx I A).symm
 refine WK M<|ah fun _ N=>av<|WS fun _ O=>bf 2 U<|RK O<|WS fun _ C=>rP 3 [] mn ?_
 obtain ⟨x,hx⟩:=aJ l i I
 obtain ⟨xa,G⟩:=aJ az i I
 have R:(List.zipWith ar.cells l az)[i]? =some (ar.cells x xa):=dy hx G
 refine rS (IA i U (aD 0 U) zR dc I I)<|rS (oH i 0 (dp.cells (dp.mk x.dg (br.mk xa.1 x.bo.length xa.2))) U bX (aD 0 U) R U dc U U)<|rS (SX (rQ U U U (hf i x xa hx G) (bj [2])) U U)<|RK C<|cy U (fun hp=>?_) (fun hp=>?_)
 ·refine WS fun _ D=>rP 2 [] mn ?_
  refine RK D<|an<|Q1 hQ U U U ?_
  exact cI (x5 hx hp A).symm
 refine bZ<|aG<|KK N<|aj<|rP 2 [] mn ?_
 refine aC ?_
 have F:(vI (((i+1):Nat):Int))=(vI ((i:Int)+1)):=by exact cI I
 refine aS (H ⟨(i+1),⟨I,wM hx A hp⟩⟩ _ _ _ U os (ct 3<|aX U F<|dh.nil _) (aH [0,1,2]))
theorem zQ (l:List ar) (az:List RA) (lA:OA) (lC:Nat) (f:Value) (p:ar→Bool) (X:aq) (hf: ∀ (k:Nat) m a,l[k]? =some m→az[k]? =some a→DI Tryz.prog f [.agg (ar.cells m a).toArray] [X] (.bool (p m))) (hlen:l.length≤1000000) (has:az.length=l.length):
 dT Tryz.prog 118 [(vS lA l.length lC),f] [(rd lA l.length 2 (List.zipWith ar.cells l az)),(eW (aV ar.gZ l az)),X] (vB (l.any p)):=by
 refine bx kr Tryz.func118 U U fun C Q hQ hN=>?_
 try dsimp only
 refine WS fun _ A=>bf 1 U<|RK A<|WS fun _ B=>bf 2 U<|rS (CL (G3 l az lA lC f p X (by exact hf) hlen has) (Nb 0 1 2 U U U U U U) U)<|rP 2 [] mn ?_
 refine RK B<|an<|Q1 hQ U U U ?_
 exact cB ux
theorem G7 (l:List bD) (lA:OA) (lC:Nat) (f:Value) (p:bD→Bool) (X:aq) (hf: ∀ x0,x0∈l→DI Tryz.prog f [.agg (bD.cells x0).toArray] [X] (.bool (p x0))) (hlen:l.length≤1000000):
 dT Tryz.prog 143 [(vS lA l.length lC),f] [(rd lA l.length 4 (l.map bD.cells)),X] (vI (tI p l)):=by
 refine bx kr Tryz.func143 U U fun S Q hQ hN=>?_
 try dsimp only
 refine WS fun _ H=>bf 1 U<|RK H<|ah fun _ AA=>WS fun _ J=>rP 3 [] mn ?_
 refine RK J<|av ?_
 have B:(0≤l.length)∧((l.take 0).any p=false):=by simp
 refine bH (ι:={z:Nat // (z≤l.length)∧((l.take z).any p=false)}) [0,1,7] [0,1] U U (fun z=>[(8,(vI (z.1:Int)))]) (fun z=>[]) (fun _=>rfl) (fun _=>rfl) (fun z=>l.length-z.1) ⟨0,B⟩ (aT U) (aH [0,1]) ?_
 clear B
 rintro ⟨i,⟨O,A⟩⟩ J4 G
 try dsimp only
 refine WS fun _ K=>rP 1 [] mn ?_
 refine RK K<|ah fun _ L=>bL U (aM fun R=>?_) (aL fun R=>?_)
 ·refine bu<|ab<|ab<|au<|KK AA<|WS fun _ E=>rP 1 [] mn ?_
  refine RK E<|an<|Q1 hQ U U U ?_
  exact cI (sx I A).symm
 refine WK L<|ah fun _ M=>av<|WS fun _ N=>bf 2 U<|RK N<|WS fun _ C=>rP 3 [] mn ?_
 obtain ⟨x,hx⟩:=aJ l i I
 have P:=bG bD.cells hx
 refine rS (IA i U (aD 0 U) vE dc I I)<|rS (oH i 0 (bD.cells x) U bX (aD 0 U) P U dc U U)<|rS (SX (rQ U U U (hf x (aR hx)) (bj [1])) U U)<|RK C<|cy U (fun hp=>?_) (fun hp=>?_)
 ·refine WS fun _ D=>rP 2 [] mn ?_
  refine RK D<|an<|Q1 hQ U U U ?_
  exact cI (x5 hx hp A).symm
 refine bZ<|aG<|KK M<|aj<|rP 2 [] mn ?_
 refine aC ?_
 have F:(vI (((i+1):Nat):Int))=(vI ((i:Int)+1)):=by exact cI I
 refine aS (G ⟨(i+1),⟨I,wM hx A hp⟩⟩ _ _ _ U os (ct 3<|aX U F<|dh.nil _) (aH [0,1]))
theorem z7 (l:List bD) (lA:OA) (lC:Nat) (f:Value) (p:bD→Bool) (X:aq) (hf: ∀ x0,x0∈l→DI Tryz.prog f [.agg (bD.cells x0).toArray] [X] (.bool (p x0))) (hlen:l.length≤1000000):
 dT Tryz.prog 122 [(vS lA l.length lC),f] [(rd lA l.length 4 (l.map bD.cells)),X] (vB (l.any p)):=by
 refine bx kr Tryz.func122 U U fun C Q hQ hN=>?_
 try dsimp only
 refine WS fun _ A=>bf 1 U<|RK A<|WS fun _ B=>bf 2 U<|rS (CL (G7 l lA lC f p X (by exact hf) hlen) (bj [0,1]) U)<|rP 2 [] mn ?_
 refine RK B<|an<|Q1 hQ U U U ?_
 exact cB ux
end
section
open Go.RowKit
theorem pb (a:aa) (l:List aa) (lA:OA) (lC:Nat) (ha:lj a) (hl: ∀ z∈l,lj z) (hlen:l.length≤4):
 dT Tryz.prog 147 [(vA (aa.cells a)),(vS lA l.length lC)] [(rd lA l.length 2 (l.map aa.cells))] (vA (aa.cells (ko a l))):=by
 refine bx kr Tryz.func147 U U fun AA Q hQ hN=>?_
 try dsimp only
 refine WS fun _ AB=>fK U fun R=>AL U de fun T=>RK AB<|ah fun _ J=>WS fun _ K=>rP 3 [] mn ?_
 refine RK K<|av ?_
 have A:(0≤l.length):=by exact Nat.zero_le _
 refine bH (ι:={z:Nat // (z≤l.length)}) [2,4,7,8] [0,2] U U (fun z=>[(9,(vI (z.1:Int)))]) (fun z=>[(bV R 40 (aa.cells (ko a (l.take z.1))))]) (fun _=>rfl) (fun _=>rfl) (fun z=>l.length-z.1) ⟨0,A⟩ (aT U) (aH [0,2,1]) ?_
 clear A
 rintro ⟨i,N⟩ J6 H
 try dsimp only
 refine WS fun _ L=>rP 1 [] mn ?_
 refine RK L<|ah fun _ M=>bL U (aM fun S=>?_) (aL fun S=>?_)
 ·refine bu<|ab<|ab<|au<|KK J<|ah fun _ D=>?_
  have G:(aa.cells (ko a (l.take i)))=(aa.cells (ko a l)):=by rw [K6 I]
  rw [G]
  refine aj<|rP 1 [] (mc 2 U mn) ?_
  refine fP U cm U<|RK D<|an ?_
  exact Ie hQ [0] (mc 0 U mn) U U
 refine WK M<|ah fun _ B=>av<|WS fun _ C=>?_
 obtain ⟨x,hx⟩:=aJ l i I
 have O:=bG aa.cells hx
 refine rS (IA i U (aD 1 U) jN dc I I)<|rS (oH i 0 (aa.cells x) U bX (aD 1 U) O U dc U U)<|AL U de fun P=>fP U cm U<|RK C<|aj ?_
 have hb:=QG ha hl i
 have hz:=hl x (aR hx)
 unfold lj at hz
 refine rP 10 [0,1,0,1] (mc 3 U (mc 0 U mn)) ?_
 refine rS (SX (bh (xs:=[(0,.tmp 17),(1,.tmp 22)]) (cs:=(aa.cells (aa.mk (((ko a (l.take i)).Lo)+x.Lo) (((ko a (l.take i)).Hi)+x.Hi)))) U U (bg gf U)) U U)<|TR U cm U<|aC<|aG<|KK B ?_
 have E:(aa.cells (aa.mk (((ko a (l.take i)).Lo)+x.Lo) (((ko a (l.take i)).Hi)+x.Hi)))=(aa.cells (ko a (l.take (i+1)))):=by rw [zD hx]; rfl
 rw [E]
 refine aj<|rP 2 [] mn ?_
 refine aC ?_
 have F:(vI ((i+1):Int))=(vI ((i:Int)+1)):=by exact cI I
 refine aS (H ⟨(i+1),(by first|omega|(simp only []; omega))⟩ _ _ _ U os (ct 4<|aX U F<|dh.nil _) (aH [1,2,3]))
theorem Fh (ts:List al) (tsA:OA) (tsC:Nat) (hlen:ts.length≤1000000) (hside: ∀ x∈ts,0≤x.iS∧x.iS≤255):
 dT Tryz.prog 144 [(vA (bE.cells (bE.mk (br.mk tsA ts.length tsC))))] [(rd tsA ts.length 9 (ts.map al.cells))] (vT [(vA (ei.cells (ei.mk (bE.mk (br.mk tsA ts.length tsC))))),(vI (if cT ts=true then 0 else 10))]):=by
 refine bx kr Tryz.func144 U U fun E Q hQ hN=>?_
 try dsimp only
 refine WS fun _ A=>fK U fun C=>AL U JA fun D=>bf 1 U<|RK A<|ah fun _ B=>dA cu 4 kr<|mJ 1 [] (mc 1 U mn) U<|dS (SX (bh (xs:=[(0,.tmp 4)]) (cs:=(ei.cells (ei.mk (bE.mk (br.mk tsA ts.length tsC))))) U U (bg SP U)) U U)<|mJ 1 [] (mc 1 U mn) U<|dS (CL (Dd ts tsA tsC hlen hside) (bj [2]) U)<|cL<|fP U IY U<|rP 1 [] mn ?_
 refine RK B<|an ?_
 exact lh hQ [0] (mc 0 U mn) U U
theorem N9 (f:Int) (tsA:OA) (tsN tsC:Nat):
 lq Tryz.prog 161 [(vA (ei.cells (ei.mk (bE.mk (br.mk tsA tsN tsC))))),(vI f)] [] (fun (x:Nat×Nat)=>(Value.func (.func 169) [].toArray [(Value.pointer (some ⟨x.1,0,none⟩)),(Value.pointer (some ⟨x.2,0,none⟩))].toArray)) (fun (x:Nat×Nat)=>True) (fun (x:Nat×Nat)=>[(bV x.1 3 [(vI f)]),(bV x.2 203 (ei.cells (ei.mk (bE.mk (br.mk tsA tsN tsC)))))]):=by
 refine dj kr Tryz.func161 U U fun E Q hQ hN=>?_
 try dsimp only
 refine WS fun _ A=>fK U fun C=>uI U U fun D=>bf 1 U<|RK A<|WS fun _ B=>rS (FU U)<|rP 1 [] mn ?_
 refine RK B<|an<|LX hQ (D,C) [0,1] [] mn U U U U ?_
 trivial
theorem Hr (ts:List al) (tsA:OA) (tsC:Nat) (f:Int) (g1 g2:Nat) (hst: ∀ x∈ts,bJ x) (hlen:ts.length≤12) (hf:0≤f∧f≤ts.length):
 Nr Tryz.prog 169 [] [(vP g1),(vP g2)] [(rd tsA ts.length 9 (ts.map al.cells)),(bV g1 3 [(vI f)]),(bV g2 203 (ei.cells (ei.mk (bE.mk (br.mk tsA ts.length tsC)))))] (sQ ts f.toNat):=by
 refine Fb kr Tryz.func169 U U fun l J Z A0 p Q hY g d hQ hN=>?_
 try dsimp only
 refine WS fun _ h=>AL U de fun n=>AL U de fun o=>RK h<|WS fun _ i=>rP 2 [] (mr 4 U mn) ?_
 refine RK i<|av ?_
 have P:(0≤ts.length-f.toNat)∧(J 0 A0)∧(Fo A0 p A0):=by exact ⟨Nat.zero_le _,g,d⟩
 have m:(vI (f+(0:Int)))=(vI f):=by exact cI I
 refine bH (ι:={z:Nat×aq // (z.1≤ts.length-f.toNat)∧(J z.1 z.2)∧(Fo A0 p z.2)}) [0,1,2,4,5] [3,4,5] U U (fun z=>[(6,(vI (f+(z.1.1:Int))))]) (fun z=>[(bV o 40 (aa.cells (f_ ts f.toNat z.1.1))),(bV n 40 (aa.cells (eA ts f.toNat z.1.1))),z.1.2]) (fun _=>rfl) (fun _=>rfl) (fun z=>ts.length-f.toNat-z.1.1) ⟨(0,A0),P⟩ (aX U m<|dh.nil _) (aH [3,4,5,0,1,2]) ?_
 clear P
 rintro ⟨⟨k,A⟩,⟨W,R,S⟩⟩ J6 V
 try dsimp only at W R S
 try dsimp only
 refine ah fun _ j=>WS fun _ X=>rP 3 [0,1] (mc 4 U (mc 3 U mn)) ?_
 refine FX 5 hY R S U U U (zp I) U U (fun B9 C B=>?_) (fun B9 C B=>?_)
 rotate_left 1
 ·refine rP 8 [] mn ?_
  refine RK X<|aW U<|bu<|ab<|ab<|au ?_
  refine hN _ _ _ (gU (vs:=[]) trivial fun w hs=>Pb 5 U C B hs)
 refine rP 8 [] (mr 2 U mn) ?_
 refine RK X<|bL U (aM fun c=>?_) (aL fun c=>?_)
 ·refine bu<|ab<|ab<|au ?_
  refine hN _ _ _ (gU (vs:=[]) trivial fun w hs=>Sy 5 U (by rw [sV]; have e:ts.length-f.toNat+1=k+1:=I; rw [e]; exact C) B hs)
 refine WK j<|ah fun _ M=>av<|rp cu [0,1,2,3,4,5,6,7,10,11,12,13,14,15,16,17] [8,9,18,19,20,21] [true,false,false,false,false,false,false,false,true,false,false,false,false,false,false,false] [8,9,18] [(rd tsA ts.length 9 (ts.map al.cells)).ro,(bV g1 3 [(vI f)]).ro,(bV g2 203 (ei.cells (ei.mk (bE.mk (br.mk tsA ts.length tsC))))).ro,B9] [(rd tsA ts.length 9 (ts.map al.cells)).ro,(bV g1 3 [(vI f)]).ro,(bV g2 203 (ei.cells (ei.mk (bE.mk (br.mk tsA ts.length tsC))))).ro,(bV o 40 (aa.cells (f_ ts f.toNat k))),(bV n 40 (aa.cells (eA ts f.toNat k))),B9] kr (aH [0,1,2,5]) (aH [0,1,2,3,4,5])<|fS U (LW 4 U bX U U)<|eS U (FA 0 U fu U)<|eS U (FA 0 U fu U)<|eS U (Ib (vS tsA ts.length tsC) 2 U bX U U)<|eS U (MV U) ?_
 obtain ⟨x,hx⟩:=aJ ts (f.toNat+k) I
 have a:=bG al.cells hx
 refine eS U (IA (f.toNat+k) U (aD 0 U) yn dc I I) ?_
 have L:=hst x (aR hx)
 refine eS U (nR (((f.toNat+k)*9)+1) U (aD 0 U) (Nat.mul_pos I dc) fu U)<|eS U (oH (f.toNat+k) 1 (aa.cells x.kl) U bX (aD 0 U) a U dc U U)<|fS U (LW 3 U bX U U)<|eS U (FA 0 U fu U)<|eS U (FA 0 U fu U)<|eS U (Ib (vS tsA ts.length tsC) 2 U bX U U)<|eS U (MV U)<|eS U (IA (f.toNat+k) U (aD 0 U) yn dc I I)<|eS U (nR (((f.toNat+k)*9)+3) U (aD 0 U) (Nat.mul_pos I dc) fu U)<|eS U (oH (f.toNat+k) 3 (aa.cells x.lR) U bX (aD 0 U) a U dc U U)<|eV U<|iU [8,18] kr (eG ?_<|eG ?_<|kS)
 rotate_left 1
 ·refine vf (rem':=[8,9,19,20,21]) U kr fun T14 N=>cU (xs:=[.tmp 39]) (cs:=(aa.cells x.lR)) U jN de U U U U (by simp [Value.cells,aa.aU]) U U fun T=>aC (N _ _ (aH [1,2,3,6]) (aH [1,2,3,4,5,6]) ?_)
  refine N1 8<|vf (rem':=[9,19,20,21]) U kr fun T16 D=>cU (xs:=[.tmp 29]) (cs:=(aa.cells x.kl)) U jN de U U U U (by simp [Value.cells,aa.aU]) U U fun AA=>aC (D _ _ (aH [2,3,4,7]) (aH [2,3,4,5,6,7]) ?_)
  refine N1 9<|vf (rem':=[19,20,21]) U kr fun T18 O=>?_
  refine rS (CL (dT.eq (pb (eA ts f.toNat k) ([x.kl]) (some ⟨AA,0,none⟩) 1 (by exact qe hst I) (by intro z hz; simp only [bS] at hz; subst hz; exact uG L) sm) nx) (aw (aZ 0 rfl rfl (by simp [aa.aU]) rfl)<|aI) rfl) ?_
  refine aC (O _ _ (aH [2,3,4,7]) (aH [2,3,4,5,6,7]) ?_)
  refine N1 19<|NO U U [20,21] fun T19 E=>?_
  refine rS (CL (dT.eq (pb (f_ ts f.toNat k) ([x.lR]) (some ⟨T,0,none⟩) 1 (by exact xw hst I) (by intro z hz; simp only [bS] at hz; subst hz; exact uU L) sm) nx) (aw (aZ 1 rfl rfl (by simp [aa.aU]) rfl)<|aI) rfl) ?_
  refine aC (E _ _ (aH [2,3,4,7]) ?_)
  refine N1 20<|NO U U [21] fun T20 F=>OR U cm U<|aC (F _ _ (aH [2,3,4,7]) ?_)
  refine N1 21<|NO U U [] fun T21 G=>Ic U cm U<|aC (G _ _ (aH [2,3,4,7]) ?_)
  refine pV<|aG<|KK M ?_
  have H:(aa.cells (mx (eA ts f.toNat k) x.kl))=(aa.cells (eA ts f.toNat (k+1))):=by rw [pn hx]
  rw [H]
  have AB:(aa.cells (mx (f_ ts f.toNat k) x.lR))=(aa.cells (f_ ts f.toNat (k+1))):=by rw [pf hx]
  rw [AB]
  refine aj<|rP 3 [] mn ?_
  refine aC ?_
  have K:(vI (f+(((k+1):Nat):Int)))=(vI ((f+(k:Int))+1)):=by exact cI I
  refine aS (V ⟨((k+1),B9),⟨I,C,B⟩⟩ _ _ _ U os (ct 5<|aX U K<|dh.nil _) (aH [2,3,4,5,6,7]))
 refine vf (rem':=[9,18,19,20,21]) U kr fun T14 N=>cU (xs:=[.tmp 29]) (cs:=(aa.cells x.kl)) U jN de U U U U (by simp [Value.cells,aa.aU]) U U fun T=>aC (N _ _ (aH [1,2,3,6]) (aH [1,2,3,4,5,6]) ?_)
 refine iU [9,18] kr (eG ?_<|eG ?_<|kS)
 rotate_left 1
 ·refine vf (rem':=[9,19,20,21]) U kr fun T16 D=>cU (xs:=[.tmp 39]) (cs:=(aa.cells x.lR)) U jN de U U U U (by simp [Value.cells,aa.aU]) U U fun AA=>aC (D _ _ (aH [2,3,4,7]) (aH [2,3,4,5,6,7]) ?_)
  refine N1 9<|vf (rem':=[19,20,21]) U kr fun T18 O=>?_
  refine rS (CL (dT.eq (pb (eA ts f.toNat k) ([x.kl]) (some ⟨T,0,none⟩) 1 (by exact qe hst I) (by intro z hz; simp only [bS] at hz; subst hz; exact uG L) sm) nx) (aw (aZ 1 rfl rfl (by simp [aa.aU]) rfl)<|aI) rfl) ?_
  refine aC (O _ _ (aH [2,3,4,7]) (aH [2,3,4,5,6,7]) ?_)
  refine N1 19<|NO U U [20,21] fun T19 E=>?_
  refine rS (CL (dT.eq (pb (f_ ts f.toNat k) ([x.lR]) (some ⟨AA,0,none⟩) 1 (by exact xw hst I) (by intro z hz; simp only [bS] at hz; subst hz; exact uU L) sm) nx) (aw (aZ 0 rfl rfl (by simp [aa.aU]) rfl)<|aI) rfl) ?_
  refine aC (E _ _ (aH [2,3,4,7]) ?_)
  refine N1 20<|NO U U [21] fun T20 F=>OR U cm U<|aC (F _ _ (aH [2,3,4,7]) ?_)
  refine N1 21<|NO U U [] fun T21 G=>Ic U cm U<|aC (G _ _ (aH [2,3,4,7]) ?_)
  refine pV<|aG<|KK M ?_
  have H:(aa.cells (mx (eA ts f.toNat k) x.kl))=(aa.cells (eA ts f.toNat (k+1))):=by rw [pn hx]
  rw [H]
  have AB:(aa.cells (mx (f_ ts f.toNat k) x.lR))=(aa.cells (f_ ts f.toNat (k+1))):=by rw [pf hx]
  rw [AB]
  refine aj<|rP 3 [] mn ?_
  refine aC ?_
  have K:(vI (f+(((k+1):Nat):Int)))=(vI ((f+(k:Int))+1)):=by exact cI I
  refine aS (V ⟨((k+1),B9),⟨I,C,B⟩⟩ _ _ _ U os (ct 5<|aX U K<|dh.nil _) (aH [2,3,4,5,6,7]))
 refine vf (rem':=[18,19,20,21]) U kr fun T16 D=>?_
 refine rS (CL (dT.eq (pb (eA ts f.toNat k) ([x.kl]) (some ⟨T,0,none⟩) 1 (by exact qe hst I) (by intro z hz; simp only [bS] at hz; subst hz; exact uG L) sm) nx) (aw (aZ 0 rfl rfl (by simp [aa.aU]) rfl)<|aI) rfl) ?_
 refine aC (D _ _ (aH [1,2,3,6]) (aH [1,2,3,4,5,6]) ?_)
 refine N1 18<|vf (rem':=[19,20,21]) U kr fun T17 Y=>cU (xs:=[.tmp 39]) (cs:=(aa.cells x.lR)) U jN de U U U U (by simp [Value.cells,aa.aU]) U U fun b=>aC (Y _ _ (aH [2,3,4,7]) (aH [2,3,4,5,6,7]) ?_)
 refine N1 19<|NO U U [20,21] fun T19 E=>?_
 refine rS (CL (dT.eq (pb (f_ ts f.toNat k) ([x.lR]) (some ⟨b,0,none⟩) 1 (by exact xw hst I) (by intro z hz; simp only [bS] at hz; subst hz; exact uU L) sm) nx) (aw (aZ 0 rfl rfl (by simp [aa.aU]) rfl)<|aI) rfl) ?_
 refine aC (E _ _ (aH [2,3,4,7]) ?_)
 refine N1 20<|NO U U [21] fun T20 F=>OR U cm U<|aC (F _ _ (aH [2,3,4,7]) ?_)
 refine N1 21<|NO U U [] fun T21 G=>Ic U cm U<|aC (G _ _ (aH [2,3,4,7]) ?_)
 refine pV<|aG<|KK M ?_
 have H:(aa.cells (mx (eA ts f.toNat k) x.kl))=(aa.cells (eA ts f.toNat (k+1))):=by rw [pn hx]
 rw [H]
 have AB:(aa.cells (mx (f_ ts f.toNat k) x.lR))=(aa.cells (f_ ts f.toNat (k+1))):=by rw [pf hx]
 rw [AB]
 refine aj<|rP 3 [] mn ?_
 refine aC ?_
 have K:(vI (f+(((k+1):Nat):Int)))=(vI ((f+(k:Int))+1)):=by exact cI I
 refine aS (V ⟨((k+1),B9),⟨I,C,B⟩⟩ _ _ _ U os (ct 5<|aX U K<|dh.nil _) (aH [2,3,4,5,6,7]))
theorem Lg (ts:List al) (tsA:OA) (tsC:Nat) (f t:Int) (hst: ∀ x∈ts,bJ x) (hlen:ts.length≤12) (hf:0≤f∧f≤t∧t≤ts.length):
 dT Tryz.prog 146 [(vA (ei.cells (ei.mk (bE.mk (br.mk tsA ts.length tsC))))),(vI f),(vI t)] [(rd tsA ts.length 9 (ts.map al.cells))] (vT [(vA (aa.cells (eA ts f.toNat (t-f).toNat))),(vA (aa.cells (f_ ts f.toNat (t-f).toNat)))]):=by
 refine bx kr Tryz.func146 U U fun w0 Q hQ hN=>?_
 try dsimp only
 refine WS fun _ M=>fK U fun a=>uI U U fun b=>uI U U fun d=>AL U de fun e=>AL U de fun g=>RK M<|ah fun _ AA=>WS fun _ V=>rP 2 [0,1] (mc 4 U (mc 3 U mn)) ?_
 refine cX (N9 f tsA ts.length tsC) (aI) U fun u n=>?_
 obtain ⟨B,C⟩:=u
 try dsimp only
 refine RK V<|av<|ku 7 U (by exact fun _ h=>h) ?_
 refine F8 (L0:=[(3,(vP a)),(4,(vP b)),(5,(vP d)),(6,(vP e)),(7,(vP g))]) (F:=[(rd tsA ts.length 9 (ts.map al.cells)).ro,(bV B 3 [(vI f)]),(bV C 203 (ei.cells (ei.mk (bE.mk (br.mk tsA ts.length tsC)))))]) (xs:=(sQ ts f.toNat)) (fun k (y:aa×aa×Int)=>(k≤(t-f).toNat)∧(y.2.2=f+(k:Int))) (fun k y=>[(bV g 40 (aa.cells y.2.1)),(bV e 40 (aa.cells y.1)),(bV d 3 [(vI t)]),(bV b 3 [(vI y.2.2)]),(bV a 203 (ei.cells (ei.mk (bE.mk (br.mk tsA ts.length tsC))))),(rd tsA ts.length 9 (ts.map al.cells)).ro]) (fun c (z:Unit)=>(c= .exit 0)) (fun _ z=>[(bV g 40 (aa.cells (f_ ts f.toNat (t-f).toNat))),(bV e 40 (aa.cells (eA ts f.toNat (t-f).toNat))),(bV d 3 [(vI t)]),(bV b 3 [(vI t)]),(bV a 203 (ei.cells (ei.mk (bE.mk (br.mk tsA ts.length tsC))))),(rd tsA ts.length 9 (ts.map al.cells)).ro]) [3,4,5,6,7,8] [0,1,2] (dw,dw,f) U U (Hr ts tsA tsC f B C (by first|assumption|omega|(simp; done)) (by first|assumption|omega|(simp; done)) I) U U U (by exact ⟨Nat.zero_le _,sm⟩) (by simp only [List.forall_mem_cons,List.not_mem_nil,false_imp_iff,implies_true,and_true]; exact ⟨⟨_,sm,(dD (bO _))⟩,⟨_,sm,(bO _)⟩,⟨_,sm,(bO _)⟩⟩) (by exact D5) U (aT U) ?_ ?_ ?_ ?_
 rotate_left 1
 ·rintro q ⟨v,z2,m⟩ J
  obtain ⟨A,K⟩:=J
  try dsimp only at A K
  try dsimp only
  exfalso; rw [sV] at A; omega
 ·rintro r id _ Y
  have hc:=Y
  cases hc
  try dsimp only
  refine au<|KK AA<|ah fun _ D=>dG cu [2,3] [] [] [0,1,2,3,4,5,6,7,8,9] [] U U U U U<|eS U (LW 5 U bX U U)<|eS U (LW 4 U bX U U)<|eV U<|bY U fun T30 E=>Ic U cm U<|aC (E _ _ (aH [0,1,2,3,4,5,6,7,8,9]) ?_)
  refine bY U fun T31 G=>Pd U cm U<|aC (G _ _ (aH [0,1,2,3,4,5,6,7,8,9]) ?_)
  refine fF U<|KK D<|an<|hQ _ _ _ (ou 0 U U<|gU (vs:=[(vA (aa.cells (eA ts f.toNat (t-f).toNat))),(vA (aa.cells (f_ ts f.toNat (t-f).toNat)))]) ⟨⟨_,U,.inl ⟨_,_,bX,pE (vs:=(aa.cells (eA ts f.toNat (t-f).toNat))) 5 U U,U,U⟩⟩,⟨_,U,.inl ⟨_,_,bX,pE (vs:=(aa.cells (f_ ts f.toNat (t-f).toNat))) 4 U U,U,U⟩⟩,trivial⟩ fun w hs=>DL ?_ hs)
  show (vT [(vA (aa.cells (eA ts f.toNat (t-f).toNat))),(vA (aa.cells (f_ ts f.toNat (t-f).toNat)))])=(vT [(vA (aa.cells (eA ts f.toNat (t-f).toNat))),(vA (aa.cells (f_ ts f.toNat (t-f).toNat)))])
  clear hs w hQ hN G T31 E T30 D V AA M
  rfl
 ·rintro s _ Z
  cases Z
 rintro k x ⟨v,z2,m⟩ l ra rb S w1 K13 Qr14 hx AB N H L j
 obtain ⟨hk,rfl⟩:=Ho hx
 obtain ⟨A,K⟩:=AB
 try dsimp only at A K
 try dsimp only
 refine WS fun _ O=>AL U de fun o=>fP U cm U<|RK O<|aj<|AL U de fun p=>fP U cm U<|aC<|jy (fun _ _ h=>h) (aH [2,0,1,3,4,5,6,7,8])<|aS (N _ _ ?_)
 refine av<|ah fun _ P=>ah fun _ R=>dG cu [2,3] [] [] [0,1,2,5,6,7,8] [] U U U U U<|eS U (LW 2 U bX U U)<|eS U (LW 1 U bX U U)<|eV U<|bY U fun T21 W=>Pd U cm U<|aC (W _ _ (aH [0,1,2,5,6,7,8]) ?_)
 refine bY U fun T22 X=>TR U cm U<|aC (X _ _ (aH [0,1,2,5,6,7,8]) ?_)
 refine fF U<|KK R<|WS fun _ T=>rP 3 [0,1] (mc 6 U (mc 5 U mn)) ?_
 refine RK T<|cy U (aL fun i=>?_) (aM fun i=>?_)
 ·refine bu<|ab<|iA U ?_
  rw [show m=t from by omega]
  obtain rfl:k=(t-f).toNat:=by omega
  exact L _ () _ _ (by exact U) (aH [0,3,4,5,6,7,8])
 refine WK P<|aj<|rP 2 [] (mc 6 U mn) ?_
 refine VI U Cg U U<|aC<|aG ?_
 exact H ((eA ts f.toNat k),(f_ ts f.toNat k),(m+1)) _ _ (by refine ⟨I,?_⟩; dsimp only; omega) (aH [0,3,4,5,6,7,8])
end
section
open Go.RowKit
theorem Gw (i:Int) (s:cD) (ts:List al) (tsA:OA) (tsC g1:Nat) (hst: ∀ x∈ts,bJ x) (hlen:ts.length≤12):
 dT Tryz.prog 160 [(vI i),(vA (cD.cells s)),(vP g1)] [(rd tsA ts.length 9 (ts.map al.cells)),(bV g1 203 (ei.cells (ei.mk (bE.mk (br.mk tsA ts.length tsC)))))] (vB (!(decide (ff ts s)))):=by
 refine bx kr Tryz.func160 U U fun AA Q hQ hN=>?_
 try dsimp only
 refine WS fun _ C=>fK U fun G=>rP 1 [] mn ?_
 refine RK C<|ah fun _ A=>rp cu [0,1,2,3,4,5,6] [7,8,9,10,11,12,13,14,15,16,17,18,19,20,21,22,23,24,25,26] [false,false,false,false,false,false,false] [] [(bV G 111 (cD.cells s)),(rd tsA ts.length 9 (ts.map al.cells)).ro,(bV g1 203 (ei.cells (ei.mk (bE.mk (br.mk tsA ts.length tsC))))).ro] [] kr (aH [0,1,2]) (aH [])<|eS U (FA 0 U fu U)<|eS U (FA 0 U fu U)<|eS U (Ib (vS tsA ts.length tsC) 2 U bX U U)<|eS U (LN U QW)<|eS U (BI U (rM ⟨I,I⟩))<|eS U (FA 0 U fu U)<|eS U (L1 (vI s.aY) 0 U bX U U)<|eV U<|N1 7<|NO U U [8,9,10,11,12,13,14,15,16,17,18,19,20,21,22,23,24,25,26] fun T4 D=>cU (xs:=[.tmp 12]) (cs:=[(vI s.aY)]) U cq jd U U U U (by simp [Value.cells]) U U fun H=>RD D 1 U<|Kk [14,15,16,17,18,19,20,21,22,23,24,25,26,27,28,29,30,31,5] kr kr U _ U U (aH [1,2,3]) ?_
 refine dS (CL (dT.eq (o0 0 ((ts.length:Int)-1) ([s.aY]) (some ⟨H,0,none⟩) 1 (by (simp; done))) cS) (aw (aZ 0 U U (by simp [bB]) U)<|aI) U) ?_
 refine dP 2 [] mn ?_
 refine iY (t:=16) U (bq fun B=>?_) (bp fun B=>?_)
 ·refine lJ 9 U<|dP 7 [] mn ?_
  refine cL<|RK A<|an<|Q1 hQ U U U ?_
  (refine cB ?_; rw [cf (CU I)]; rfl)
 refine lJ 1 U<|dS (LP (aa.cells s.mE) 1 U bX U U U)<|dP 5 [0,1] (mr 3 U (mc 1 U mn)) ?_
 obtain ⟨x,hx⟩:=aJ ts ((s.aY).toNat) I
 have E:=bG al.cells hx
 refine dS (IA ((s.aY).toNat) U (aD 2 U) yn dc I I)<|dS (nR ((((s.aY).toNat)*9)+1) U (aD 2 U) (Nat.mul_pos I dc) fu U) ?_
 have F:=(hst x (aR hx)).2.1
 simp only [dI] at F
 refine dS (nR ((((s.aY).toNat)*9)+1) U (aD 2 U) (Nat.mul_pos I dc) fu U)<|dS (fV ((s.aY).toNat) 1 (vI x.kl.Lo) U bX (aD 2 U) E U dc U)<|lJ 1 U<|dS (CL (wa s.mE 0 (x.kl.Lo-1)) (aI) U)<|dP 3 [] mn ?_
 refine cL<|RK A<|an<|Q1 hQ U U U ?_
 exact congrArg (fun b=>vB (!b)) (decide_eq_decide.2 (BW I hx).symm)
theorem EL (l:List cD) (lA:OA) (lC:Nat) (f:Value) (p:Int→cD→Bool) (X:aq) (hf: ∀ x0 x1,(∃ k:Nat,x0=(k:Int)∧l[k]? =some x1)→DI Tryz.prog f [.int .i64 x0,.agg (cD.cells x1).toArray] [X] (.bool (p x0 x1))) (hlen:l.length≤1000000):
 lq Tryz.prog 159 [(vS lA l.length lC),f] [(rd lA l.length 3 (l.map cD.cells)),X] (fun (x:(OA)×Nat)=>(vS x.1 ((Ku (fun jj yy=>p (jj:Int) yy) l).length) x.2)) (fun (x:(OA)×Nat)=>True) (fun (x:(OA)×Nat)=>[(own x.1 x.2 3 1 ((Ku (fun jj yy=>p (jj:Int) yy) l).map iC))]):=by
 refine dj kr Tryz.func159 U U fun W Q hQ hN=>?_
 try dsimp only
 refine WS fun _ L=>bf 1 U<|RK L<|WS fun _ M=>bf 1 U<|RK M<|ah fun _ N=>WS fun _ O=>rP 3 [] mn ?_
 refine RK O<|av<|fT 3 1 ?_
 have A:(0≤l.length):=by exact Nat.zero_le _
 refine bH (ι:={z:Nat×(OA)×Nat // (z.1≤l.length)}) [0,1,8,9] [1,2] U U (fun z=>[(5,(vS z.1.2.1 ((rW (fun jj yy=>p (jj:Int) yy) l z.1.1).length) z.1.2.2)),(10,(vI (z.1.1:Int)))]) (fun z=>[(own z.1.2.1 z.1.2.2 3 1 ((rW (fun jj yy=>p (jj:Int) yy) l z.1.1).map iC))]) (fun _=>rfl) (fun _=>rfl) (fun z=>l.length-z.1.1) ⟨(0,none,0),A⟩ (aT U) (aH [1,2,0]) ?_
 clear A
 rintro ⟨⟨i,a,c⟩,B⟩ J5 C
 try dsimp only at B
 try dsimp only
 refine WS fun _ P=>rP 1 [] mn ?_
 refine RK P<|ah fun _ R=>bL U (aM fun V=>?_) (aL fun V=>?_)
 ·refine bu<|ab<|ab<|au<|KK N<|WS fun _ F=>?_
  rw [NV (p:=fun (i:Nat) x=>p (i:Int) x) (show i=l.length by omega)]
  refine rP 2 [] mn ?_
  refine RK F<|an<|LX hQ (a,c) [2] [] mn U U U U ?_
  trivial
 refine WK R<|ah fun _ G=>av<|WS fun _ D=>rP 1 [] mn ?_
 obtain ⟨x,hx⟩:=aJ l i I
 have S:=bG cD.cells hx
 refine rS (IA i U (aD 0 U) K1 dc I I)<|rS (oH i 0 (cD.cells x) U bX (aD 0 U) S U dc U U)<|AL U BA fun T=>bf 1 U<|fP U Lj U<|RK D<|WS fun _ E=>rP 3 [] (mc 0 U mn) ?_
 refine rS (SX (rQ U U U (hf (i:Int) x ⟨i,U,hx⟩) (bj [2])) U U)<|RK E<|bL U (fun hp=>?_) (fun hp=>?_)
 ·refine bZ<|aG<|KK G<|aj ?_
  rw [← NA (p:=fun (i:Nat) x=>p (i:Int) x) hx hp]
  refine rP 2 [] mn ?_
  refine aC ?_
  have AB:(vI (((i+1):Nat):Int))=(vI ((i:Int)+1)):=by exact cI I
  refine aS (C ⟨((i+1),a,c),(by first|omega|(simp only []; omega))⟩ _ _ _ U os (ct 5<|aX U AB<|dh.nil _) (aH [1,2,3]))
 refine aj<|rP 2 [] mn ?_
 refine cU (xs:=[.tmp 20]) (cs:=[(vI (i:Int))]) U cq jd U U U U (by simp [Value.cells]) U U fun AA=>?_
 refine db (es2:=(List.map iC (rW (fun jj yy=>p (jj:Int) yy) l (i+1)))) (m':=(rW (fun jj yy=>p (jj:Int) yy) l (i+1)).length) 4 U U U pX U U sm (aZ (es:=List.map iC [(i:Int)]) 0 U U (by simp [bB]) U) (kf _) (by have:=BB (p:=fun (i:Nat) x=>p (i:Int) x) (l:=l) (n:=i); simp; omega) (by have:=BB (p:=fun (i:Nat) x=>p (i:Int) x) (l:=l) (n:=i); simp only [maxLen]; omega) (by rw [KA hx hp]; simp) sm U fun J K=>?_
 try dsimp only
 refine bf 1 U<|aC<|aG<|KK G<|aj<|rP 2 [] mn ?_
 refine aC ?_
 have H:(vI (((i+1):Nat):Int))=(vI ((i:Int)+1)):=by exact cI I
 refine aS (C ⟨((i+1),J,K),(by first|omega|(simp only []; omega))⟩ _ _ _ U os (ct 5<|aX U H<|dh.nil _) (aH [2,3,4]))
theorem CC (ts:List al) (tsA:OA) (tsC:Nat) (l:List cD) (lA:OA) (lC:Nat) (hst: ∀ x∈ts,bJ x) (hlen:ts.length≤12) (hl:l.length≤4):
 dT Tryz.prog 145 [(vA (ei.cells (ei.mk (bE.mk (br.mk tsA ts.length tsC))))),(vS lA l.length lC)] [(rd tsA ts.length 9 (ts.map al.cells)),(rd lA l.length 3 (l.map cD.cells))] (vB (decide (∀ s∈l,ff ts s))):=by
 refine bx kr Tryz.func145 U U fun J Q hQ hN=>?_
 try dsimp only
 refine WS fun _ B=>fK U fun A=>bf 1 U<|RK B<|WS fun _ C=>rP 1 [] mn ?_
 refine rS (FU U) ?_
 refine cX (EL l lA lC (Value.func (.func 160) [].toArray [(vP A)].toArray) (fun E D=>(!(decide (ff ts D)))) (eW [(rd tsA ts.length 9 (ts.map al.cells)),(bV A 203 (ei.cells (ei.mk (bE.mk (br.mk tsA ts.length tsC)))))]) (by intro E D _; exact nm (fi:=[]) (ca:=[(vP A)]) (lX (Gw E D ts tsA tsC A (by first|assumption|omega) (by first|assumption|omega)) (bj [0,1]))) I) (fz 2 U U<|aw (lV (bj [1,0]))<|aI) U fun G F=>?_
 obtain ⟨H,AA⟩:=G
 try dsimp only
 refine rP 3 [] mn ?_
 refine RK C<|an<|Q1 hQ U U U ?_
 exact congrArg Value.bool (decide_eq_decide.2 (by rw [show ∀ n:Nat,((n:Int)=0)↔n=0 from fun n=>by omega,GG]; simp only [Bool.not_eq_false',decide_eq_true_eq]; exact ⟨fun h s hs=>by obtain ⟨k,hk⟩:=List.getElem?_of_mem hs; exact h k s hk,fun h k s hk=>h s (List.mem_of_getElem? hk)⟩))
theorem DR (z:aa) (hz:lj z):
 dT Tryz.prog 162 [(vA (aa.cells z))] [] (vA (aa.cells (ob z))):=by
 unfold lj at hz
 refine bx kr Tryz.func162 U U fun E Q hQ hN=>?_
 try dsimp only
 refine WS fun _ A=>fK U fun C=>AL U de fun D=>RK A<|WS fun _ B=>fw 2 [] (mc 1 U mn) U<|rS (NG U ⟨I,I⟩)<|rP 2 [] (mc 1 U mn) ?_
 refine rS (NG U ⟨I,I⟩)<|rS (SX (bh (xs:=[(0,.tmp 5),(1,.tmp 8)]) (cs:=(aa.cells (aa.mk (-z.Hi) (-z.Lo)))) U U (bg gf U)) U U)<|fP U cm U<|RK B<|an ?_
 exact Ie hQ [0] (mc 0 U mn) U U
theorem Rg (ts:List al) (tsA:OA) (tsC:Nat) (s:cD) (hlen:ts.length≤1000000) (hside: ∀ x∈ts,0≤x.iS∧x.iS≤255):
 dT Tryz.prog 124 [(vA (bE.cells (bE.mk (br.mk tsA ts.length tsC)))),(vA (cD.cells s))] [(rd tsA ts.length 9 (ts.map al.cells))] (vT [(vA (aa.cells (PJ ts s))),(vI (FJ ts s))]):=by
 refine bx kr Tryz.func124 U U fun Z Q hQ hN=>?_
 try dsimp only
 refine WS fun _ K=>fK U fun V=>fK U fun W=>AL U de fun X=>bf 1 U<|RK K<|WS fun _ L=>fw 1 [] (mc 2 U mn) U<|rS (CL (Fh ts tsA tsC hlen hside) (bj [3]) U)<|bf 3 U<|AL U JA fun Y=>fP U IY U<|bf 1 U<|RK L<|ah fun _ M=>WS fun _ N=>rP 2 [] mn ?_
 refine RK N<|cy U (bq fun he=>?_) (bp fun he=>?_)
 ·refine WS fun _ O=>rS (SX (bh (xs:=[]) (cs:=(aa.cells (aa.mk 0 0))) U U (bg gf U)) U U)<|bf 1 U<|ua U cm U<|rP 1 [] mn ?_
  refine RK O<|an<|lh hQ [0] (mc 1 U mn) U ?_
  (have e:=Ip (s:=s) (yV he).1; rw [e.1,e.2,(yV he).2]<;>rfl)
 refine WK M<|ah fun _ C=>WS fun _ D=>?_
 have B:=Ew he
 have H:=jH B
 have R:=kK B
 refine rP 2 [0,1] (mc 0 U (mc 2 U mn)) ?_
 refine cU (xs:=[.tmp 20]) (cs:=(cD.cells s)) U K1 BA U U U U (by simp [Value.cells,cD.aU]) U U fun AB=>?_
 refine rS (CL (dT.eq (CC ts tsA tsC ([s]) (some ⟨AB,0,none⟩) 1 asm asm (by (simp; done))) E5) (fz 5 U U<|aw (aZ 0 U U (by simp [cD.aU]) U)<|aI) U) ?_
 refine rP 1 [] mn ?_
 refine RK D<|cy U (bq fun A=>?_) (bp fun A=>?_)
 ·refine WS fun _ E=>rS (SX (bh (xs:=[]) (cs:=(aa.cells (aa.mk 0 0))) U U (bg gf U)) U U)<|HL U cm U<|rP 1 [] mn ?_
  refine RK E<|an<|lh hQ [0] (mc 2 U mn) U ?_
  (have e:=Mj B A; rw [e.1,e.2]<;>rfl)
 refine WK C<|WS fun _ F=>?_
 have AA:=A.1
 have P:=qJ H A
 refine fw 3 [0,1] (mc 1 U (mc 3 U mn)) U<|rS (CL (Lg ts tsA tsC 0 s.aY asm asm I) (bj [5]) U)<|bf 3 U<|AL U de fun S=>AL U de fun T=>ua U cm U<|fP U cm U<|RK F<|WS fun _ G=>rP 2 [] (mc 1 U mn) ?_
 refine rS (LP (aa.cells s.mE) 5 U bX U U U)<|cU (xs:=[.tmp 34]) (cs:=(aa.cells s.mE)) U jN de U U U U (by simp [Value.cells,aa.aU]) U U fun J=>?_
 refine rS (CL (dT.eq (pb (eA ts (0:Int).toNat (s.aY-0).toNat) ([s.mE]) (some ⟨J,0,none⟩) 1 (by exact qe H I) (by intro z hz; simp only [bS] at hz; subst hz; exact P) sm) nx) (aw (aZ 0 rfl rfl (by simp [aa.aU]) rfl)<|aI) rfl) ?_
 refine Ic U cm U<|rP 1 [] mn ?_
 refine RK G<|an<|lh hQ [0] (mc 5 U mn) U ?_
 (have e:=wy B A; rw [e.1,e.2]; unfold Ms; rw [show (s.aY-0).toNat=s.aY.toNat by rw [Int.sub_zero]]<;>rfl)
theorem Np (ts:List al) (tsA:OA) (tsC:Nat) (p:cD) (q:cD) (hlen:ts.length≤1000000) (hside: ∀ x∈ts,0≤x.iS∧x.iS≤255):
 dT Tryz.prog 148 [(vA (bE.cells (bE.mk (br.mk tsA ts.length tsC)))),(vA (cD.cells p)),(vA (cD.cells q))] [(rd tsA ts.length 9 (ts.map al.cells))] (vT [(vA (aa.cells (kF ts p q))),(vI (lO ts p q))]):=by
 refine bx kr Tryz.func148 U U fun w Q hQ hN=>?_
 try dsimp only
 refine WS fun _ c=>fK U fun r=>fK U fun s=>fK U fun t=>AL U de fun u=>bf 1 U<|RK c<|WS fun _ d=>fw 1 [] (mc 3 U mn) U<|rS (CL (Fh ts tsA tsC hlen hside) (bj [4]) U)<|bf 3 U<|AL U JA fun v=>fP U IY U<|bf 1 U<|RK d<|ah fun _ g=>WS fun _ h=>rP 2 [] mn ?_
 refine RK h<|cy U (bq fun he=>?_) (bp fun he=>?_)
 ·refine WS fun _ G=>rS (SX (bh (xs:=[]) (cs:=(aa.cells (aa.mk 0 0))) U U (bg gf U)) U U)<|bf 1 U<|ua U cm U<|rP 1 [] mn ?_
  refine RK G<|an<|lh hQ [0] (mc 1 U mn) U ?_
  (have e:=uM (a:=p) (b:=q) (yV he).1; rw [e.1,e.2,(yV he).2]<;>rfl)
 refine WK g<|ah fun _ H=>WS fun _ AB=>?_
 have A:=Ew he
 have F:=jH A
 have j:=kK A
 refine rP 3 [0,1,2] (mc 0 U (mc 3 U (mc 2 U mn))) ?_
 refine cU (xs:=[.tmp 22,.tmp 23]) (cs:=((cD.cells p)++(cD.cells q))) U K1 BA U U U U (by simp [Value.cells,cD.aU]) U U fun X=>?_
 refine rS (CL (dT.eq (CC ts tsA tsC ([p,q]) (some ⟨X,0,none⟩) 2 asm asm (by (simp; done))) Dv) (fz 6 U U<|aw (aZ 0 U U (by simp [cD.aU]) U)<|aI) U) ?_
 refine rP 1 [] mn ?_
 refine RK AB<|cy U (bq fun D=>?_) (bp fun D=>?_)
 ·refine WS fun _ J=>rS (SX (bh (xs:=[]) (cs:=(aa.cells (aa.mk 0 0))) U U (bg gf U)) U U)<|HL U cm U<|rP 1 [] mn ?_
  refine RK J<|an<|lh hQ [0] (mc 2 U mn) U ?_
  (have e:=oZ A D; rw [e.1,e.2]<;>rfl)
 refine WK H<|WS fun _ K=>?_
 obtain ⟨hp,hq⟩:=D
 have n:=hp.1
 have o:=hq.1
 have i:=qJ F hp
 have W:=qJ F hq
 have V:=Ap i
 have B:=qe F (f:=(min p.aY q.aY).toNat) (k:=(max p.aY q.aY-min p.aY q.aY).toNat) I
 refine fw 5 [0,1,2] (mc 1 U (mc 4 U (mc 3 U mn))) U<|rS (MN U)<|fw 4 [0,1] (mc 4 U (mc 3 U mn)) U<|rS (MX U)<|rS (CL (Lg ts tsA tsC (min p.aY q.aY) (max p.aY q.aY) asm asm I) (bj [6]) U)<|bf 3 U<|AL U de fun l=>AL U de fun m=>ua U cm U<|fP U cm U<|RK K<|ah fun _ C=>WS fun _ L=>rP 5 [0,1] (mc 5 U (mc 6 U mn)) ?_
 refine RK L<|bL U (aM fun E=>?_) (aL fun E=>?_)
 ·refine WK C<|ah fun _ N=>dG cu [6,7,8] [] [] [0,1,2,3,5,6,7,8] [] U U U U U<|eS U (LW 1 U bX U U)<|eS U (FA 1 U fu U)<|eS U (LP (aa.cells q.mE) 4 U bX U U U)<|eS U (FA 1 U fu U)<|eS U (LP (aa.cells p.mE) 5 U bX U U U)<|eS U (CL (DR p.mE asm) (aI) U)<|eS U (AG U)<|eV U<|bY U fun T26 S=>cU (xs:=[.tmp 52,.tmp 55]) (cs:=((aa.cells q.mE)++(aa.cells (ob p.mE)))) U jN de U U U U (by simp [Value.cells,aa.aU]) U U fun Z=>aC (S _ _ (aH [1,2,3,4,6,7,8,9]) ?_)
  refine bY U fun T28 T=>?_
  refine rS (CL (dT.eq (pb (eA ts (min p.aY q.aY).toNat ((max p.aY q.aY)-(min p.aY q.aY)).toNat) ([q.mE,(ob p.mE)]) (some ⟨Z,0,none⟩) 2 (by first|exact B|exact Ap B) (by intro z hz; simp only [d_,List.not_mem_nil,or_false] at hz; rcases hz with rfl|rfl; exact W; exact V) sm) Bi) (aw (aZ 0 rfl rfl (by simp [aa.aU]) rfl)<|aI) rfl) ?_
  refine aC (T _ _ (aH [1,2,3,4,6,7,8,9]) ?_)
  refine bY U fun T29 AA=>Ic U cm U<|aC (AA _ _ (aH [1,2,3,4,6,7,8,9]) ?_)
  refine fF U<|KK N<|an<|lh hQ [0] (mc 5 U mn) U ?_
  (have e:=k9 A ⟨hp,hq⟩; rw [e.1,e.2]; unfold jX wL; rw [if_neg E]<;>rfl)
 refine aj<|rP 1 [] (mc 1 U mn) ?_
 refine rS (CL (DR (eA ts (min p.aY q.aY).toNat ((max p.aY q.aY)-(min p.aY q.aY)).toNat) asm) (aI) U)<|ua U cm U<|RK C<|ah fun _ M=>dG cu [6,7,8] [] [] [0,1,2,3,5,6,7,8] [] U U U U U<|eS U (LW 1 U bX U U)<|eS U (FA 1 U fu U)<|eS U (LP (aa.cells q.mE) 4 U bX U U U)<|eS U (FA 1 U fu U)<|eS U (LP (aa.cells p.mE) 5 U bX U U U)<|eS U (CL (DR p.mE asm) (aI) U)<|eS U (AG U)<|eV U<|bY U fun T21 O=>cU (xs:=[.tmp 52,.tmp 55]) (cs:=((aa.cells q.mE)++(aa.cells (ob p.mE)))) U jN de U U U U (by simp [Value.cells,aa.aU]) U U fun Y=>aC (O _ _ (aH [1,2,3,4,6,7,8,9]) ?_)
 refine bY U fun T23 P=>?_
 refine rS (CL (dT.eq (pb (ob (eA ts (min p.aY q.aY).toNat ((max p.aY q.aY)-(min p.aY q.aY)).toNat)) ([q.mE,(ob p.mE)]) (some ⟨Y,0,none⟩) 2 (by first|exact B|exact Ap B) (by intro z hz; simp only [d_,List.not_mem_nil,or_false] at hz; rcases hz with rfl|rfl; exact W; exact V) sm) Bi) (aw (aZ 0 rfl rfl (by simp [aa.aU]) rfl)<|aI) rfl) ?_
 refine aC (P _ _ (aH [1,2,3,4,6,7,8,9]) ?_)
 refine bY U fun T24 R=>Ic U cm U<|aC (R _ _ (aH [1,2,3,4,6,7,8,9]) ?_)
 refine fF U<|KK M<|an<|lh hQ [0] (mc 5 U mn) U ?_
 (have e:=k9 A ⟨hp,hq⟩; rw [e.1,e.2]; unfold jX wL; rw [if_pos E]<;>rfl)
theorem qV (ts:List al) (tsA:OA) (tsC:Nat) (s:cD) (hst: ∀ x∈ts,bJ x) (hlen:ts.length≤12):
 dT Tryz.prog 155 [(vA (bE.cells (bE.mk (br.mk tsA ts.length tsC)))),(vA (cD.cells s))] [(rd tsA ts.length 9 (ts.map al.cells))] (vB (decide (ff ts s))):=by
 refine bx kr Tryz.func155 U U fun H Q hQ hN=>?_
 try dsimp only
 refine WS fun _ C=>fK U fun F=>fK U fun G=>bf 1 U<|RK C<|ah fun _ A=>dA cu 22 kr<|mJ 6 [0,1] (mc 0 U (mc 1 U mn)) U<|dS (CL (oW s.aY 0 ((ts.length:Int)-1)) (aI) U)<|dP 1 [] mn ?_
 refine jh (t:=12) U (aM fun B=>?_) (aL fun B=>?_)
 ·refine lJ 8 U<|dP 6 [] mn ?_
  refine cL<|RK A<|an<|Q1 hQ U U U ?_
  (refine cB ?_; rw [cf (CU I)])
 refine lJ 1 U<|dS (LP (aa.cells s.mE) 0 U bX U U U)<|dP 4 [0,1] (mc 1 U (mc 0 U mn)) ?_
 obtain ⟨x,hx⟩:=aJ ts ((s.aY).toNat) I
 have D:=bG al.cells hx
 refine dS (IA ((s.aY).toNat) U (aD 2 U) yn dc I I)<|dS (nR ((((s.aY).toNat)*9)+1) U (aD 2 U) (Nat.mul_pos I dc) fu U) ?_
 have E:=(hst x (aR hx)).2.1
 simp only [dI] at E
 refine dS (nR ((((s.aY).toNat)*9)+1) U (aD 2 U) (Nat.mul_pos I dc) fu U)<|dS (fV ((s.aY).toNat) 1 (vI x.kl.Lo) U bX (aD 2 U) D U dc U)<|lJ 1 U<|dS (CL (pd s.mE 0 (x.kl.Lo-1)) (aI) U)<|dP 2 [] mn ?_
 refine cL<|RK A<|an<|Q1 hQ U U U ?_
 exact cB (decide_eq_decide.2 (BW I hx).symm)
theorem Aq (ts:List al) (tsA:OA) (tsC:Nat) (f t:Int) (hst: ∀ x∈ts,bJ x) (hlen:ts.length≤12) (hf:0≤f∧f≤t∧t≤ts.length):
 dT Tryz.prog 171 [(vA (bE.cells (bE.mk (br.mk tsA ts.length tsC)))),(vI f),(vI t)] [(rd tsA ts.length 9 (ts.map al.cells))] (vT [(vA (aa.cells (eA ts f.toNat (t-f).toNat))),(vA (aa.cells (f_ ts f.toNat (t-f).toNat)))]):=by
 refine bx kr Tryz.func171 U U fun i Q hQ hN=>?_
 try dsimp only
 refine WS fun _ R=>fK U fun e=>AL U de fun g=>AL U de fun h=>RK R<|WS fun _ S=>AL U de fun a=>AL U de fun b=>RK S<|ah fun _ T=>WS fun _ AA=>rP 2 [] mn ?_
 refine RK AA<|av ?_
 have A:(0≤(t-f).toNat):=by exact Nat.zero_le _
 have K:(vI (f+(0:Int)))=(vI f):=by exact cI I
 refine bH (ι:={z:Nat // (z≤(t-f).toNat)}) [1,2,3,6,7,8,9] [2,3,4,5] U U (fun z=>[(10,(vI (f+(z.1:Int))))]) (fun z=>[(bV b 40 (aa.cells (f_ ts f.toNat z.1))),(bV a 40 (aa.cells (eA ts f.toNat z.1)))]) (fun _=>rfl) (fun _=>rfl) (fun z=>(t-f).toNat-z.1) ⟨0,A⟩ (aX U K<|dh.nil _) (aH [2,3,4,5,0,1]) ?_
 clear A
 rintro ⟨k,V⟩ J11 B
 try dsimp only
 refine ah fun _ C=>WS fun _ D=>rP 3 [] mn ?_
 refine RK D<|bL U (aM fun P=>?_) (aL fun P=>?_)
 ·refine bu<|ab<|ab<|au<|KK T<|ah fun _ H=>dG cu [2,3] [] [] [2,3,4,5] [] U U U U U<|eS U (LW 3 U bX U U)<|eS U (LW 2 U bX U U)<|eV U<|bY U fun T23 AB=>ua U cm U<|aC (AB _ _ (aH [2,3,4,5]) ?_)
  refine bY U fun T24 J=>fP U cm U<|aC (J _ _ (aH [2,3,4,5]) ?_)
  refine fF U<|KK H<|an<|lh hQ [0,1] (mc 1 U (mc 0 U mn)) U ?_
  obtain rfl:k=(t-f).toNat:=I; rfl
 refine WK C<|ah fun _ E=>av<|WS fun _ F=>rP 3 [] (mc 2 U mn) ?_
 obtain ⟨x,hx⟩:=aJ ts (f.toNat+k) I
 have Y:=bG al.cells hx
 refine rS (IA (f.toNat+k) U (aD 3 U) yn dc I I)<|rS (oH (f.toNat+k) 0 (al.cells x) U bX (aD 3 U) Y U dc U U)<|AL U Fp fun Z=>fP U Ja U<|RK F<|WS fun _ G=>?_
 have O:=hst x (aR hx)
 have d:=lZ hst f.toNat k
 have c:=Gg hst f.toNat k
 have W:=O.2.1
 have X:=O.2.2.1
 simp only [dI] at W X
 refine fw 12 [0,1,0,1] (mc 6 U (mc 0 U mn)) U<|rS (SX (bh (xs:=[(0,.tmp 28),(1,.tmp 34)]) (cs:=(aa.cells (aa.mk (((eA ts f.toNat k).Lo)+x.kl.Lo) (((eA ts f.toNat k).Hi)+x.kl.Hi)))) U U (bg gf U)) U U)<|OR U cm U<|RK G<|aj<|rP 12 [0,1,0,1] (mc 5 U (mc 0 U mn)) ?_
 refine rS (SX (bh (xs:=[(0,.tmp 41),(1,.tmp 47)]) (cs:=(aa.cells (aa.mk (((f_ ts f.toNat k).Lo)+x.lR.Lo) (((f_ ts f.toNat k).Hi)+x.lR.Hi)))) U U (bg gf U)) U U)<|Ic U cm U<|aC<|aG<|KK E ?_
 have L:(aa.cells (aa.mk (((eA ts f.toNat k).Lo)+x.kl.Lo) (((eA ts f.toNat k).Hi)+x.kl.Hi)))=(aa.cells (eA ts f.toNat (k+1))):=by rw [pn hx]; rfl
 rw [L]
 have M:(aa.cells (aa.mk (((f_ ts f.toNat k).Lo)+x.lR.Lo) (((f_ ts f.toNat k).Hi)+x.lR.Hi)))=(aa.cells (f_ ts f.toNat (k+1))):=by rw [pf hx]; rfl
 rw [M]
 refine aj<|rP 3 [] mn ?_
 refine aC ?_
 have N:(vI (f+(((k+1):Nat):Int)))=(vI ((f+(k:Int))+1)):=by exact cI I
 refine aS (B ⟨(k+1),(by first|omega|(simp only []; omega))⟩ _ _ _ U os (ct 7<|aX U N<|dh.nil _) (aH [1,2,3,4,5,6]))
end
section
open Go.RowKit
theorem PL (l:a_) (kA:OA) (kC:Nat) (az:List RA) (cA:OA) (cC:Nat) (bA:OA) (bC:Nat) (hin:er l az):
 dT Tryz.prog 115 [(vA (ck.cells (lk l kA kC cA cC bA bC)))] [(rd kA l.aP.length 9 (l.aP.map al.cells)),(rd cA l.ak.length 2 (List.zipWith ar.cells l.ak az)),(eW (aV ar.gZ l.ak az)),(rd bA l.ae.length 4 (l.ae.map bD.cells))] (vB (decide (gp l))):=by
 have R:=hin.sH
 have P:=hin.sI
 have N:=hin.ov
 have O:=hin.sD
 refine bx kr Tryz.func115 U U fun T Q hQ hN=>?_
 try dsimp only
 refine WS fun _ G=>fK U fun S=>bf 1 U<|RK G<|WS fun _ A=>rP 2 [] (mc 0 U mn) ?_
 refine cU (xs:=[.tmp 4]) (cs:=[(vI l.hO)]) U cq jd U U U U (by simp [Value.cells]) U U fun H=>?_
 refine rS (CL (dT.eq (iN 1 5000 ([l.hO]) (some ⟨H,0,none⟩) 1 (by (simp; done))) cS) (aw (aZ 0 U U (by simp [bB]) U)<|aI) U) ?_
 refine rP 1 [] mn ?_
 refine b_ (t:=7) U (aM fun K=>?_) (aL fun K=>?_)
 ·refine rP 36 [] mn ?_
  refine RK A<|an<|Q1 hQ U U U ?_
  exact cB (cf (by unfold gp; omega)).symm
 refine rP 3 [] (mc 1 U mn) ?_
 refine cU (xs:=[.tmp 10]) (cs:=[(vI (l.ak.length:Int))]) U cq jd U U U U (by simp [Value.cells]) U U fun AA=>?_
 refine rS (CL (dT.eq (iN 1 4 ([(l.ak.length:Int)]) (some ⟨AA,0,none⟩) 1 (by (simp; done))) cS) (aw (aZ 0 U U (by simp [bB]) U)<|aI) U) ?_
 refine rP 2 [] mn ?_
 refine b_ (t:=14) U (aM fun L=>?_) (aL fun L=>?_)
 ·refine rP 29 [] mn ?_
  refine RK A<|an<|Q1 hQ U U U ?_
  exact cB (cf (by unfold gp; omega)).symm
 refine rP 3 [] (mc 2 U mn) ?_
 refine cU (xs:=[.tmp 17]) (cs:=[(vI (l.ae.length:Int))]) U cq jd U U U U (by simp [Value.cells]) U U fun J=>?_
 refine rS (CL (dT.eq (iN 1 6 ([(l.ae.length:Int)]) (some ⟨J,0,none⟩) 1 (by (simp; done))) cS) (aw (aZ 0 U U (by simp [bB]) U)<|aI) U) ?_
 refine rP 2 [] mn ?_
 refine b_ (t:=21) U (aM fun M=>?_) (aL fun M=>?_)
 ·refine rP 22 [] mn ?_
  refine RK A<|an<|Q1 hQ U U U ?_
  exact cB (cf (by unfold gp; omega)).symm
 refine rP 6 [] (mc 3 U mn) ?_
 refine cU (xs:=[.tmp 27]) (cs:=[(vI l.cH)]) U cq jd U U U U (by simp [Value.cells]) U U fun B=>?_
 refine rS (CL (dT.eq (iN 0 ((l.ae.length:Int)-1) ([l.cH]) (some ⟨B,0,none⟩) 1 (by (simp; done))) cS) (aw (aZ 0 U U (by simp [bB]) U)<|aI) U) ?_
 refine rP 2 [] mn ?_
 refine b_ (t:=31) U (aM fun E=>?_) (aL fun E=>?_)
 ·refine rP 12 [] mn ?_
  refine RK A<|an<|Q1 hQ U U U ?_
  exact cB (cf (by unfold gp; omega)).symm
 refine rP 2 [] (mc 4 U mn) ?_
 refine cU (xs:=[.tmp 33]) (cs:=[(vI l.eU)]) U cq jd U U U U (by simp [Value.cells]) U U fun C=>?_
 refine rS (CL (dT.eq (iN 0 3 ([l.eU]) (some ⟨C,0,none⟩) 1 (by (simp; done))) cS) (aw (aZ 0 U U (by simp [bB]) U)<|aI) U) ?_
 refine rP 2 [] mn ?_
 refine b_ (t:=37) U (aM fun F=>?_) (aL fun F=>?_)
 ·refine rP 6 [] mn ?_
  refine RK A<|an<|Q1 hQ U U U ?_
  exact cB (cf (by unfold gp; omega)).symm
 refine rP 2 [] (mc 5 U mn) ?_
 refine cU (xs:=[.tmp 39]) (cs:=[(vI l.cV)]) U cq jd U U U U (by simp [Value.cells]) U U fun D=>?_
 refine rS (CL (dT.eq (iN 0 3 ([l.cV]) (some ⟨D,0,none⟩) 1 (by (simp; done))) cS) (aw (aZ 0 U U (by simp [bB]) U)<|aI) U) ?_
 refine rP 2 [] mn ?_
 refine RK A<|an<|Q1 hQ U U U ?_
 exact cB (decide_eq_decide.2 (by unfold gp; omega))
theorem QF (l:a_) (kA:OA) (kC:Nat) (az:List RA) (cA:OA) (cC:Nat) (bA:OA) (bC:Nat) (hin:er l az):
 dT Tryz.prog 117 [(vA (ck.cells (lk l kA kC cA cC bA bC)))] [(rd kA l.aP.length 9 (l.aP.map al.cells)),(rd cA l.ak.length 2 (List.zipWith ar.cells l.ak az)),(eW (aV ar.gZ l.ak az)),(rd bA l.ae.length 4 (l.ae.map bD.cells))] (vB (decide (∀ c∈l.ak,eT c))):=by
 have H:=hin.sH
 have G:=hin.sI
 have E:=hin.ov
 have F:=hin.sD
 refine bx kr Tryz.func117 U U fun K Q hQ hN=>?_
 try dsimp only
 refine WS fun _ C=>fK U fun J=>bf 1 U<|RK C<|WS fun _ D=>rP 2 [] (mc 0 U mn) ?_
 refine rS (CL (zQ l.ak az cA cC (Value.func (.func 119) [].toArray [].toArray) (fun m=>(!(decide (eT m)))) (eW (aV ar.gZ l.ak az)) (by intro AA m a B A; exact nm (fi:=[]) (ca:=[]) (S9 l.ak az AA m a (by exact B) (by exact A) (by exact hin.Q4 _ _ _ B A))) asm asm) (Nb 2 3 3 U U U U U U) U) ?_
 refine rP 2 [] mn ?_
 refine RK D<|an<|Q1 hQ U U U ?_
 exact cB (by rw [Bool.eq_iff_iff,decide_eq_true_eq]; exact DG)
theorem PI (b:bD) (l:a_) (kA:OA) (kC:Nat) (az:List RA) (cA:OA) (cC:Nat) (bA:OA) (bC g1:Nat) (hin:er l az) (htr:cT l.aP=true):
 dT Tryz.prog 123 [(vA (bD.cells b)),(vP g1)] [(rd kA l.aP.length 9 (l.aP.map al.cells)),(rd cA l.ak.length 2 (List.zipWith ar.cells l.ak az)),(eW (aV ar.gZ l.ak az)),(rd bA l.ae.length 4 (l.ae.map bD.cells)),(bV g1 31 (ck.cells (lk l kA kC cA cC bA bC)))] (vB (!(decide (jS l b)))):=by
 have J:=hin.sH
 have H:=hin.sI
 have F:=hin.ov
 have G:=hin.sD
 have AA:=hin.side
 refine bx kr Tryz.func123 U U fun M Q hQ hN=>?_
 try dsimp only
 refine WS fun _ C=>fK U fun K=>bf 1 U<|RK C<|WS fun _ D=>bf 1 U<|rS (Vw (bE.cells (bE.mk (br.mk kA l.aP.length kC))) 5 U bX U U U)<|bf 1 U<|rS (LP (cD.cells b.mH) 0 U bX U U U)<|rS (CL (Rg l.aP kA kC b.mH asm asm) (bj [1]) U)<|bf 3 U<|AL U de fun L=>fP U cm U<|bf 1 U<|RK D<|WS fun _ B=>rP 3 [] mn ?_
 refine cR (t:=16) U (bq fun A=>?_) (bp fun A=>?_)
 ·refine rP 11 [] mn ?_
  refine RK B<|an<|Q1 hQ U U U ?_
  (refine cB ?_; rw [cf (fun h:jS l b=>A ((F1 htr).2 h.1))]; rfl)
 refine rP 6 [0,1] (mr 6 U (mc 1 U mn)) ?_
 refine cU (xs:=[.tmp 22]) (cs:=[(vI b.jV)]) U cq jd U U U U (by simp [Value.cells]) U U fun E=>?_
 refine rS (CL (dT.eq (iN 0 ((l.ak.length:Int)-1) ([b.jV]) (some ⟨E,0,none⟩) 1 (by (simp; done))) cS) (aw (aZ 0 U U (by simp [bB]) U)<|aI) U) ?_
 refine rP 3 [] mn ?_
 refine RK B<|an<|Q1 hQ U U U ?_
 (refine cB ?_; refine congrArg Bool.not (decide_eq_decide.2 ⟨fun h=>⟨(F1 htr).1 A,I,I⟩,fun h=>by have:=h.2; omega⟩))
theorem Qg (l:a_) (kA:OA) (kC:Nat) (az:List RA) (cA:OA) (cC:Nat) (bA:OA) (bC:Nat) (hin:er l az) (htr:cT l.aP=true):
 dT Tryz.prog 121 [(vA (ck.cells (lk l kA kC cA cC bA bC)))] [(rd kA l.aP.length 9 (l.aP.map al.cells)),(rd cA l.ak.length 2 (List.zipWith ar.cells l.ak az)),(eW (aV ar.gZ l.ak az)),(rd bA l.ae.length 4 (l.ae.map bD.cells))] (vB (decide (∀ b∈l.ae,jS l b))):=by
 have H:=hin.sH
 have G:=hin.sI
 have E:=hin.ov
 have F:=hin.sD
 refine bx kr Tryz.func121 U U fun AA Q hQ hN=>?_
 try dsimp only
 refine WS fun _ B=>fK U fun A=>bf 1 U<|RK B<|WS fun _ C=>rP 2 [] (mc 0 U mn) ?_
 refine rS (FU U) ?_
 refine rS (CL (z7 l.ae bA bC (Value.func (.func 123) [].toArray [(vP A)].toArray) (fun D=>(!(decide (jS l D)))) (eW [(rd kA l.aP.length 9 (l.aP.map al.cells)),(rd cA l.ak.length 2 (List.zipWith ar.cells l.ak az)),(eW (aV ar.gZ l.ak az)),(rd bA l.ae.length 4 (l.ae.map bD.cells)),(bV A 31 (ck.cells (lk l kA kC cA cC bA bC)))]) (by intro D _; exact nm (fi:=[]) (ca:=[(vP A)]) (lX (PI D l kA kC az cA cC bA bC A (by first|assumption|omega) (by first|assumption|omega)) (bj [0,1,2,3,4]))) asm) (fz 4 U U<|aw (lV (bj [1,2,3,4,0]))<|aI) U) ?_
 refine rP 2 [] mn ?_
 refine RK C<|an<|Q1 hQ U U U ?_
 exact cB (by rw [Bool.eq_iff_iff,decide_eq_true_eq]; exact GX)
theorem O7 (l:a_) (kA:OA) (kC:Nat) (az:List RA) (cA:OA) (cC:Nat) (bA:OA) (bC:Nat) (n:Int) (hin:er l az) (htr:cT l.aP=true) (hbk: ∀ b∈l.ae,jS l b) (hn:0≤n∧n<(l.ae.length:Int)):
 dT Tryz.prog 126 [(vA (ck.cells (lk l kA kC cA cC bA bC))),(vI n)] [(rd kA l.aP.length 9 (l.aP.map al.cells)),(rd cA l.ak.length 2 (List.zipWith ar.cells l.ak az)),(eW (aV ar.gZ l.ak az)),(rd bA l.ae.length 4 (l.ae.map bD.cells))] (vI (lU l n.toNat)):=by
 have P:=hin.sH
 have N:=hin.sI
 have L:=hin.ov
 have M:=hin.sD
 have O:=hin.side
 refine bx kr Tryz.func126 U U fun AA Q hQ hN=>?_
 try dsimp only
 refine WS fun _ E=>fK U fun R=>bf 1 U<|RK E<|WS fun _ F=>rP 3 [] (mc 0 U mn) ?_
 obtain ⟨x,hx⟩:=aJ l.ae ((n).toNat) I
 have J:=bG bD.cells hx
 refine rS (IA ((n).toNat) U (aD 4 U) vE dc I I)<|rS (nR (((n).toNat)*4) U (aD 4 U) (Nat.mul_pos I dc) fu U)<|rS (oH ((n).toNat) 0 (cD.cells x.mH) U bX (aD 4 U) J U dc U U)<|AL U BA fun S=>fP U Lj U<|RK F<|WS fun _ G=>bf 1 U<|rS (LP (bE.cells (bE.mk (br.mk kA l.aP.length kC))) 1 U bX U U U)<|fw 1 [] (mc 0 U mn) U<|rS (CL (Rg l.aP kA kC x.mH asm asm) (bj [2]) U)<|bf 3 U<|AL U de fun T=>fP U cm U<|bf 1 U<|RK G<|ah fun _ C=>WS fun _ H=>rP 2 [] mn ?_
 refine RK H<|bL U (aM fun D=>?_) (aL fun D=>?_)
 ·refine WK C<|WS fun _ B=>rP 3 [] (mc 0 U mn) ?_
  refine RK B<|an<|Q1 hQ U U U ?_
  (refine congrArg (Value.int .i64) ?_; rw [show n.toNat=0 by omega] at hx ⊢; rw [yX hx,(wy htr (hbk _ (List.mem_of_getElem? hx)).1).2])
 refine dG cu [14] [] [] [1,2,3,4,5,6] [] U U U U U<|eS U (FA 0 U fu U)<|eS U (LP (bE.cells (bE.mk (br.mk kA l.aP.length kC))) 1 U bX U U U)<|eS U (FA 3 U fu U)<|eS U (L1 (vS bA l.ae.length bC) 1 U bX U U)<|eS U (MV U)<|eS U (BI U (rM ⟨I,I⟩)) ?_
 obtain ⟨y,hy⟩:=aJ l.ae (((n-1)).toNat) I
 have K:=bG bD.cells hy
 refine eS U (IA (((n-1)).toNat) U (aD 5 U) vE dc I I)<|eS U (nR ((((n-1)).toNat)*4) U (aD 5 U) (Nat.mul_pos I dc) fu U)<|eS U (oH (((n-1)).toNat) 0 (cD.cells y.mH) U bX (aD 5 U) K U dc U U)<|eS U (LW 0 U bX U U)<|eS U (CL (Np l.aP kA kC y.mH x.mH asm asm) (bj [2]) U)<|eS U (MV U)<|eS U (EX U)<|eS U (EX U)<|eV U<|bY U fun T9 AB=>fP U cm U<|aC (AB _ _ (aH [1,2,3,4,5,6]) ?_)
 refine fF U<|KK C<|WS fun _ A=>rP 3 [] (mc 0 U mn) ?_
 refine RK A<|an<|Q1 hQ U U U ?_
 (refine congrArg (Value.int .i64) ?_; rw [BO I hx (by rw [show n.toNat-1=(n-1).toNat by omega]; exact hy),(k9 htr ⟨(hbk _ (List.mem_of_getElem? hy)).1,(hbk _ (List.mem_of_getElem? hx)).1⟩).2])
theorem QQ (l:a_) (kA:OA) (kC:Nat) (az:List RA) (cA:OA) (cC:Nat) (bA:OA) (bC:Nat) (hin:er l az) (htr:cT l.aP=true) (hbk: ∀ b∈l.ae,jS l b):
 dT Tryz.prog 125 [(vA (ck.cells (lk l kA kC cA cC bA bC)))] [(rd kA l.aP.length 9 (l.aP.map al.cells)),(rd cA l.ak.length 2 (List.zipWith ar.cells l.ak az)),(eW (aV ar.gZ l.ak az)),(rd bA l.ae.length 4 (l.ae.map bD.cells))] (vB (decide (∀ i,i<l.ae.length→1≤lU l i))):=by
 have V:=hin.sH
 have AA:=hin.sI
 have S:=hin.ov
 have T:=hin.sD
 refine bx kr Tryz.func125 U U fun X Q hQ hN=>?_
 try dsimp only
 refine WS fun _ J=>fK U fun W=>bf 1 U<|RK J<|ah fun _ K=>WS fun _ L=>rP 4 [] (mc 0 U mn) ?_
 refine RK L<|av ?_
 have A:(0≤l.ae.length)∧(∀ j,j<0→1≤lU l j):=by exact ⟨Nat.zero_le _,fun j hj=>absurd hj (Nat.not_lt_zero _)⟩
 refine bH (ι:={z:Nat // (z≤l.ae.length)∧(∀ j,j<z→1≤lU l j)}) [1,6] [0,1,2,3,4] U U (fun z=>[(7,(vI (z.1:Int)))]) (fun z=>[]) (fun _=>rfl) (fun _=>rfl) (fun z=>l.ae.length-z.1) ⟨0,A⟩ (aT U) (aH [0,1,2,3,4]) ?_
 clear A
 rintro ⟨i,⟨P,B⟩⟩ J5 AB
 try dsimp only
 refine WS fun _ M=>rP 1 [] mn ?_
 refine RK M<|ah fun _ N=>bL U (aM fun R=>?_) (aL fun R=>?_)
 ·refine bu<|ab<|ab<|au<|KK K<|WS fun _ G=>rP 1 [] mn ?_
  refine RK G<|an<|Q1 hQ U U U ?_
  exact cB (fI (fun j hj=>B j I)).symm
 refine WK N<|ah fun _ O=>av<|WS fun _ D=>bf 2 U<|RK D<|WS fun _ E=>fw 2 [] (mc 0 U mn) U<|rS (CL (O7 l kA kC az cA cC bA bC (i:Int) hin htr hbk I) (bj [1,2,3,4]) U)<|rP 1 [] mn ?_
 refine RK E<|cy U (aL fun C=>?_) (aM fun C=>?_)
 ·refine WS fun _ F=>rP 1 [] mn ?_
  refine RK F<|an<|Q1 hQ U U U ?_
  exact cB (cf (fun h=>by have:=h i I; simp only [Int.toNat_natCast] at C; omega)).symm
 refine bZ<|aG<|KK O<|aj<|rP 2 [] mn ?_
 refine aC ?_
 have H:(vI (((i+1):Nat):Int))=(vI ((i:Int)+1)):=by exact cI I
 refine aS (AB ⟨(i+1),⟨I,fun j hj=>by rcases Nat.lt_or_ge j i with q|q; exact B j q; (obtain rfl:j=i:=by omega); simp only [Int.toNat_natCast] at C; omega⟩⟩ _ _ _ rfl os (dh.cons rfl<|dh.cons rfl<|aX rfl H<|dh.nil _) (aH [0,1,2,3,4]))
end
section
open Go.RowKit
theorem Qx:
 dT Tryz.prog 83 [] [] (vA ((gH.cells (gH.mk (Value.func (.func 115) [].toArray [].toArray)))++(gH.cells (gH.mk (Value.func (.func 117) [].toArray [].toArray)))++(gH.cells (gH.mk (Value.func (.func 121) [].toArray [].toArray)))++(gH.cells (gH.mk (Value.func (.func 125) [].toArray [].toArray))))):=by
 refine bx kr Tryz.func83 U U fun D Q hQ hN=>?_
 try dsimp only
 refine WS fun _ A=>AL U Sw fun C=>RK A<|WS fun _ B=>rS (SX (bh (xs:=[(0,.func 115)]) (cs:=(gH.cells (gH.mk (Value.func (.func 115) [].toArray [].toArray)))) U U (bg F7 U)) U U)<|rS (SX (bh (xs:=[(0,.func 117)]) (cs:=(gH.cells (gH.mk (Value.func (.func 117) [].toArray [].toArray)))) U U (bg F7 U)) U U)<|rS (SX (bh (xs:=[(0,.func 121)]) (cs:=(gH.cells (gH.mk (Value.func (.func 121) [].toArray [].toArray)))) U U (bg F7 U)) U U)<|rS (SX (bh (xs:=[(0,.func 125)]) (cs:=(gH.cells (gH.mk (Value.func (.func 125) [].toArray [].toArray)))) U U (bg F7 U)) U U)<|rS (SX (bh (xs:=[(0,.tmp 1),(1,.tmp 2),(2,.tmp 3),(3,.tmp 4)]) (cs:=((gH.cells (gH.mk (Value.func (.func 115) [].toArray [].toArray)))++(gH.cells (gH.mk (Value.func (.func 117) [].toArray [].toArray)))++(gH.cells (gH.mk (Value.func (.func 121) [].toArray [].toArray)))++(gH.cells (gH.mk (Value.func (.func 125) [].toArray [].toArray))))) U U (bg RI U)) U U)<|fP U Tr U<|RK B<|an ?_
 exact Ie hQ [0] (mc 0 U mn) U U
theorem CP (l:a_) (kA:OA) (kC:Nat) (az:List RA) (cA:OA) (cC:Nat) (bA:OA) (bC:Nat) (hin:er l az):
 dT Tryz.prog 61 [(vA (ck.cells (lk l kA kC cA cC bA bC)))] [(rd kA l.aP.length 9 (l.aP.map al.cells)),(rd cA l.ak.length 2 (List.zipWith ar.cells l.ak az)),(eW (aV ar.gZ l.ak az)),(rd bA l.ae.length 4 (l.ae.map bD.cells))] (vI (dq l)):=by
 have AF:=hin.sH
 have AD:=hin.sI
 have AB:=hin.ov
 have AC:=hin.sD
 have AE:=hin.side
 refine bx kr Tryz.func61 U U fun w0 Q hQ hN=>?_
 try dsimp only
 refine WS fun _ m=>fK U fun b2=>bf 1 U<|RK m<|ah fun _ n=>WS fun _ o=>bf 1 U<|rS (LP (bE.cells (bE.mk (br.mk kA l.aP.length kC))) 0 U bX U U U)<|rS (CL (Dd l.aP kA kC asm asm) (bj [1]) U)<|bf 1 U<|RK o<|WS fun _ p=>rP 2 [] mn ?_
 refine RK p<|cy U (bq fun B=>?_) (bp fun B=>?_)
 ·refine WS fun _ q=>rP 2 [] mn ?_
  refine RK q<|an<|Q1 hQ U U U ?_
  (refine cI ?_; rw [(yV B).2,yD (yV B).1])
 refine WK n<|ah fun _ s=>WS fun _ t=>?_
 have A:=Ew B
 refine rS (CL Qx (aI) U)<|bf 1 U<|RK t<|av<|jQ 5<|ed fun R9 u=>WS fun _ C=>rS (SX (bU (r:= .bool true) U U U gQ) U U)<|RK C<|ah fun _ D=>aO U<|WK D<|ah fun _ E=>av<|WS fun _ F=>rS (SX (te (vs:=(gH.cells (gH.mk (Value.func (.func 115) [].toArray [].toArray)))) 0 U U U FY bX U dc U) U U)<|AL U FI fun x=>fP U Gc U<|RK F<|WS fun _ G=>fw 3 [0,1] (mc 0 U (mc 1 U mn)) U<|rS (CL (PL l kA kC az cA cC bA bC hin) (bj [2,3,4,5]) U)<|rP 1 [] mn ?_
 refine RK G<|cy U (bq fun g=>?_) (bp fun g=>?_)
 ·refine WS fun _ H=>rP 1 [] mn ?_
  refine RK H<|an<|Q1 hQ U U U ?_
  exact cI (qL A fun h=>absurd h.head asm).symm
 refine bZ<|aG<|KK E<|aj<|rS (SX (bU (r:= .int .i64 1) U U U (ib ⟨dc,dc⟩)) U U)<|bf 1 U<|RK u<|ed fun R18 d=>WS fun _ AH=>rS (SX (bU (r:= .bool true) U U U gQ) U U)<|RK AH<|ah fun _ J=>aO U<|WK J<|ah fun _ K=>av<|WS fun _ L=>rS (SX (te (vs:=(gH.cells (gH.mk (Value.func (.func 117) [].toArray [].toArray)))) 1 U U U FY bX U dc U) U U)<|AL U FI fun y=>fP U Gc U<|RK L<|WS fun _ M=>fw 3 [0,1] (mc 0 U (mc 2 U mn)) U<|rS (CL (QF l kA kC az cA cC bA bC hin) (bj [3,4,5,6]) U)<|rP 1 [] mn ?_
 refine RK M<|cy U (bq fun i=>?_) (bp fun i=>?_)
 ·refine WS fun _ N=>rP 1 [] mn ?_
  refine RK N<|an<|Q1 hQ U U U ?_
  exact cI (qL A fun h=>absurd h.clock asm).symm
 refine bZ<|aG<|KK K<|aj<|rS (SX (bU (r:= .int .i64 2) U U U (ib ⟨dc,dc⟩)) U U)<|bf 1 U<|RK d<|ed fun R27 e=>WS fun _ O=>rS (SX (bU (r:= .bool true) U U U gQ) U U)<|RK O<|ah fun _ P=>aO U<|WK P<|ah fun _ R=>av<|WS fun _ S=>rS (SX (te (vs:=(gH.cells (gH.mk (Value.func (.func 121) [].toArray [].toArray)))) 2 U U U FY bX U dc U) U U)<|AL U FI fun z=>fP U Gc U<|RK S<|WS fun _ T=>fw 3 [0,1] (mc 0 U (mc 3 U mn)) U<|rS (CL (Qg l kA kC az cA cC bA bC hin asm) (bj [4,5,6,7]) U)<|rP 1 [] mn ?_
 refine RK T<|cy U (bq fun j=>?_) (bp fun j=>?_)
 ·refine WS fun _ AG=>rP 1 [] mn ?_
  refine RK AG<|an<|Q1 hQ U U U ?_
  exact cI (qL A fun h=>absurd h.vD asm).symm
 refine bZ<|aG<|KK R<|aj<|rS (SX (bU (r:= .int .i64 3) U U U (ib ⟨dc,dc⟩)) U U)<|bf 1 U<|RK e<|ed fun R36 f=>WS fun _ V=>rS (SX (bU (r:= .bool true) U U U gQ) U U)<|RK V<|ah fun _ W=>aO U<|WK W<|ah fun _ X=>av<|WS fun _ Y=>rS (SX (te (vs:=(gH.cells (gH.mk (Value.func (.func 125) [].toArray [].toArray)))) 3 U U U FY bX U dc U) U U)<|AL U FI fun AA=>fP U Gc U<|RK Y<|WS fun _ Z=>fw 3 [0,1] (mc 0 U (mc 4 U mn)) U<|rS (CL (QQ l kA kC az cA cC bA bC hin asm asm) (bj [5,6,7,8]) U)<|rP 1 [] mn ?_
 refine RK Z<|cy U (bq fun k=>?_) (bp fun k=>?_)
 ·refine WS fun _ a=>rP 1 [] mn ?_
  refine RK a<|an<|Q1 hQ U U U ?_
  exact cI (qL A fun h=>absurd h.Q7 asm).symm
 refine bZ<|aG<|KK X<|aj<|rS (SX (bU (r:= .int .i64 4) U U U (ib ⟨dc,dc⟩)) U U)<|bf 1 U<|RK f<|ed fun R45 w=>WS fun _ b=>rS (SX (bU (r:= .bool false) U U U gQ) U U)<|RK b<|ah fun _ v=>aW U<|bu<|ab<|ab<|au<|KK s<|WS fun _ c=>rP 1 [] mn ?_
 refine RK c<|an<|Q1 hQ U U U ?_
 exact cI (xX A (yr asm asm asm asm)).symm
theorem Cw (lo hi:Int) (f:Value) (p:Int→Bool) (X:aq) (r:Int) (hf: ∀ x0,0≤x0∧x0<hi→DI Tryz.prog f [.int .i64 x0] [X] (.bool (p x0))) (hb:0≤lo∧lo≤r∧r≤hi∧hi≤100000000) (hno: ∀ x,lo≤x→x<r→p x=false) (hyes: ∀ x,r≤x→x<hi→p x=true):
 dT Tryz.prog 216 [(vI lo),(vI hi),f] [X] (vI r):=by
 refine bx kr Tryz.func216 U U fun N Q hQ hN=>?_
 try dsimp only
 refine WS fun _ F=>rP 1 [] mn ?_
 refine RK F<|ah fun _ G=>av ?_
 have A:(lo≤lo∧lo≤r)∧(r≤hi∧hi≤hi):=by omega
 refine bH (ι:={z:Int×Int // (lo≤z.1∧z.1≤r)∧(r≤z.2∧z.2≤hi)}) [2] [0] U U (fun z=>[(0,(vI z.1.1)),(1,(vI z.1.2))]) (fun z=>[]) (fun _=>rfl) (fun _=>rfl) (fun z=>(z.1.2-z.1.1).toNat) ⟨(lo,hi),A⟩ (aT U) (aH [0]) ?_
 clear A
 rintro ⟨⟨a,b⟩,⟨B,C⟩⟩ J3 D
 try dsimp only at B C
 try dsimp only
 refine ah fun _ H=>WS fun _ AA=>rP 3 [] mn ?_
 refine RK AA<|bL U (aM fun M=>?_) (aL fun M=>?_)
 ·refine bu<|ab<|ab<|au<|KK G<|WS fun _ L=>rP 2 [] mn ?_
  refine RK L<|an<|Q1 hQ U U U ?_
  exact cI I
 refine WK H<|av<|WS fun _ J=>bf 4 U<|rS (BI U (sL I I I))<|bf 2 U<|RK J<|WS fun _ K=>rP 2 [] mn ?_
 refine rS (SX (rQ U U U (hf (a+((b-a)/2)) I) (bj [0])) U U)<|RK K<|cy U (fun hp=>?_) (fun hp=>?_)
 ·refine aj<|rP 2 [] mn ?_
  refine aC<|aG ?_
  refine aS (D ⟨(a,(a+((b-a)/2))),(by dsimp only; rcases Int.lt_or_le (a+(b-a)/2) r with q|q; (have E:=hno _ I q; (rw [E] at hp; cases hp)); (have E:=hyes _ q I; (refine ⟨⟨I,I⟩,I,I⟩)))⟩ _ _ _ rfl (by simp only []; omega) (aT rfl) (aH [0]))
 refine aj<|rP 3 [] mn ?_
 refine aC<|aG ?_
 refine aS (D ⟨(((a+((b-a)/2))+1),b),(by dsimp only; rcases Int.lt_or_le (a+(b-a)/2) r with q|q; (have E:=hno _ I q; (refine ⟨⟨I,I⟩,I,I⟩)); (have E:=hyes _ q I; (rw [E] at hp; cases hp)))⟩ _ _ _ rfl (by simp only []; omega) (aT rfl) (aH [0]))
theorem Kj (u:Int) (c:ar) (sA:OA) (sC g1:Nat) (s:aK) (g2:Nat) (hc:eT c) (hu:0≤u∧u≤90000000):
 dT Tryz.prog 217 [(vI u),(vP g1),(vP g2)] [(rd sA c.bo.length 3 (c.bo.map cx.cells)),(bV g1 119 (dp.cells (dp.mk c.dg (br.mk sA c.bo.length sC)))),(bV g2 123 (aK.cells s))] (vB (decide (s.Read≤u+(ia c u).Hi))):=by
 have C:=qK hc hu
 refine bx kr Tryz.func217 U U fun D Q hQ hN=>?_
 try dsimp only
 refine WS fun _ A=>bf 1 U<|RK A<|ah fun _ B=>dA cu 10 kr<|mJ 3 [] (mr 1 U mn) U<|dS (CL (Ft c sA sC u hc hu) (bj [0]) U)<|dS (SX (kR (v:=(vI ((ia c u).Hi))) U U fu z_ U) U U)<|dP 5 [] (mr 2 U mn) ?_
 refine cL<|RK B<|an ?_
 exact Q1 hQ U U U U
theorem Ma (u:Int) (c:ar) (sA:OA) (sC g1:Nat) (s:aK) (g2:Nat) (hc:eT c) (hu:0≤u∧u≤90000000):
 dT Tryz.prog 219 [(vI u),(vP g1),(vP g2)] [(rd sA c.bo.length 3 (c.bo.map cx.cells)),(bV g1 119 (dp.cells (dp.mk c.dg (br.mk sA c.bo.length sC)))),(bV g2 123 (aK.cells s))] (vB (decide (s.Read<u+(ia c u).Lo))):=by
 have C:=qK hc hu
 refine bx kr Tryz.func219 U U fun D Q hQ hN=>?_
 try dsimp only
 refine WS fun _ A=>bf 1 U<|RK A<|ah fun _ B=>dA cu 10 kr<|mJ 3 [] (mr 1 U mn) U<|dS (CL (Ft c sA sC u hc hu) (bj [0]) U)<|dS (SX (kR (v:=(vI ((ia c u).Lo))) U U fu zX U) U U)<|dP 5 [] (mr 2 U mn) ?_
 refine cL<|RK B<|an ?_
 exact Q1 hQ U U U U
theorem Jh (l:a_) (kA:OA) (kC:Nat) (az:List RA) (cA:OA) (cC:Nat) (bA:OA) (bC:Nat) (s:aK) (hin:er l az) (hok:kT l) (hs:(0≤s.gd∧s.gd≤(l.ae.length:Int)-1)∧0≤s.Read∧s.Read≤86400000):
 dT Tryz.prog 208 [(vA (ck.cells (lk l kA kC cA cC bA bC))),(vA (aK.cells s))] [(rd kA l.aP.length 9 (l.aP.map al.cells)),(rd cA l.ak.length 2 (List.zipWith ar.cells l.ak az)),(eW (aV ar.gZ l.ak az)),(rd bA l.ae.length 4 (l.ae.map bD.cells))] (vA (aa.cells (cz l s))):=by
 have V:=hin.sH
 have S:=hin.sI
 have P:=hin.ov
 have R:=hin.sD
 refine bx kr Tryz.func208 U U fun Z Q hQ hN=>?_
 try dsimp only
 refine WS fun _ AB=>fK U fun X=>fK U fun D=>AL U de fun Y=>RK AB<|ah fun _ J=>dG cu [11,12] [] [] [0,1,2,3,4,5,6] [] U U U U U<|eS U (FA 2 U fu U)<|eS U (L1 (vS cA l.ak.length cC) 2 U bX U U)<|eS U (FA 3 U fu U)<|eS U (L1 (vS bA l.ae.length bC) 2 U bX U U)<|eS U (FA 0 U fu U)<|eS U (L1 (vI s.gd) 1 U bX U U) ?_
 obtain ⟨y,hy⟩:=aJ l.ae ((s.gd).toNat) I
 have O:=bG bD.cells hy
 refine eS U (IA ((s.gd).toNat) U (aD 6 U) vE dc I I)<|eS U (nR ((((s.gd).toNat)*4)+3) U (aD 6 U) (Nat.mul_pos I dc) fu U)<|eS U (fV ((s.gd).toNat) 3 (vI y.jV) U bX (aD 6 U) O U dc U) ?_
 have W:=(hok.vD _ (aR hy)).2
 obtain ⟨x,hx⟩:=aJ l.ak ((y.jV).toNat) I
 obtain ⟨xa,F⟩:=aJ az ((y.jV).toNat) I
 have N:(List.zipWith ar.cells l.ak az)[(y.jV).toNat]? =some (ar.cells x xa):=dy hx F
 refine eS U (IA ((y.jV).toNat) U (aD 4 U) zR dc I I)<|eS U (oH ((y.jV).toNat) 0 (dp.cells (dp.mk x.dg (br.mk xa.1 x.bo.length xa.2))) U bX (aD 4 U) N U dc U U)<|eV U<|bY U fun T6 L=>AL U Lv fun E=>aC (L _ _ (aH [1,2,3,4,5,6,7]) ?_)
 refine bY U fun T8 M=>fP U O4 U<|aC (M _ _ (aH [1,2,3,4,5,6,7]) ?_)
 refine fF U<|KK J<|WS fun _ K=>?_
 have A:=hok.clock _ (aR hx)
 have AA:=hU (p:=fX x s.Read) (n:=86400001)
 have T:=hU (p:=fW x s.Read) (n:=86400001)
 refine rS (FU U) ?_
 refine rS (CL (Cw 0 86400001 (Value.func (.func 217) [].toArray [(vP E),(vP D)].toArray) (fun B=>(decide (s.Read≤B+(ia x B).Hi))) (eW [(rd xa.1 x.bo.length 3 (x.bo.map cx.cells)),(bV E 119 (dp.cells (dp.mk x.dg (br.mk xa.1 x.bo.length xa.2)))),(bV D 123 (aK.cells s))]) (fj (fX x s.Read) 86400001) (by intro B _; exact nm (fi:=[]) (ca:=[(vP E),(vP D)]) (lX (Kj B x xa.1 xa.2 E s D (by first|assumption|omega) (by first|assumption|omega)) (Nb 0 1 2 U U U U U U))) I (by intro z G hz; exact (kP A G I).1 hz) (by intro z hz H; exact (kP A I H).2.1 hz)) (aw (lV (aw (show ij _ (rd xa.1 x.bo.length 3 (x.bo.map cx.cells)).holds from (du 6 U (bM hx F (by simp [ar.gZ]))))<|fz 0 U U<|fz 2 U U<|aI))<|aI) U) ?_
 refine rS (FU U) ?_
 refine rS (CL (Cw 0 86400001 (Value.func (.func 219) [].toArray [(vP E),(vP D)].toArray) (fun C=>(decide (s.Read<C+(ia x C).Lo))) (eW [(rd xa.1 x.bo.length 3 (x.bo.map cx.cells)),(bV E 119 (dp.cells (dp.mk x.dg (br.mk xa.1 x.bo.length xa.2)))),(bV D 123 (aK.cells s))]) (fj (fW x s.Read) 86400001) (by intro C _; exact nm (fi:=[]) (ca:=[(vP E),(vP D)]) (lX (Ma C x xa.1 xa.2 E s D (by first|assumption|omega) (by first|assumption|omega)) (Nb 0 1 2 U U U U U U))) I (by intro z G hz; exact (kP A G I).2.2.1 hz) (by intro z hz H; exact (kP A I H).2.2.2 hz)) (aw (lV (aw (show ij _ (rd xa.1 x.bo.length 3 (x.bo.map cx.cells)).holds from (du 6 U (bM hx F (by simp [ar.gZ]))))<|fz 0 U U<|fz 2 U U<|aI))<|aI) U) ?_
 refine rP 1 [] mn ?_
 refine rS (SX (bh (xs:=[(0,.tmp 18),(1,.tmp 21)]) (cs:=(aa.cells (aa.mk (fj (fX x s.Read) 86400001) ((fj (fW x s.Read) 86400001)-1)))) U U (bg gf U)) U U)<|ua U cm U<|RK K<|an<|Ie hQ [0] (mc 1 U mn) U ?_
 unfold cz qv; rw [xq hy hx]
end
section
open Go.RowKit
structure Ix (S:BS) (w0:World) (X:aq) (C0:List aq) (w:World) (S':BS):Prop where
 st:St S w0 (X::C0) w
 w_: ∀ b,S'.w b↔ ∃ A∈C0,A.wf b
theorem DH {A B:aq} (h:Dt A B):Dt A.ro B:=fun b C D=>⟨fun h=>h,(h b C D).2⟩
theorem De {E:eZ} {c:Code} {Q:cY} {D:List Deferred} {L:List (Nat×Value)} {C C0:List aq} {X:aq} (i:Nat) (hn:decide (i::(List.range C.length).filter fun k=>k != i).Nodup=true) (hC:kp C (i::(List.range C.length).filter fun k=>k != i)=X::C0)
 (h: ∀ w S',Ix E.S E.w0 X C0 w S'→WJ ⟨E.P,E.r,E.n,S',w⟩ c Q D L (X.ro::C0)):WJ E c Q D L C:=fun a w hf hs=>by
 have F:=St.kp _ hn hC hs
 obtain ⟨G,H⟩:=List.pairwise_cons.1 F.sep
 refine h w ⟨fun b=> ∃ A∈C0,A.wf b,fun _=>True⟩ ⟨F,fun b=>Iff.rfl⟩ a w hf ⟨dJ.refl _ _,fun A hA=>?_,List.Pairwise.cons (fun B hB=>DH (G B hB)) H,fun A hA b hb=>?_,fun A hA b hb=> .inr trivial⟩
 ·rcases List.mem_cons.1 hA with rfl|hA
  ·exact F.holds X (cb ..)
  ·exact F.holds A (cQ _ hA)
 ·rcases List.mem_cons.1 hA with rfl|hA
  ·exact hb.elim
  ·exact .inr ⟨A,hA,hb⟩
theorem Av {E:eZ} {S':BS} {w:World} {K:Act→World→Prop} {D:List Deferred} {L:List (Nat×Value)} {C0 C1 C2:List aq} {X:aq} (hz:Ix E.S E.w0 X C0 w S') (is:List Nat) (hn:decide is.Nodup=true) (hC:kp C2 is=C1) (hwr:C1.all (·.wr)=true)
 (h:KJ E K D L (X::C1)):KJ ⟨E.P,E.r,E.n,S',w⟩ K D L C2:=fun a w' hf hs=>by
 have F:=St.kp is hn hC hs
 have C:=hz.st
 obtain ⟨J,M⟩:=List.pairwise_cons.1 C.sep
 have AA: ∀ b,X.e_ b→ ¬ S'.w b:=fun b hb hw=>by
  obtain ⟨A,hA,hw⟩:=(hz.w_ b).1 hw
  exact (J A hA b hb (A.ks b hw)).2 hw
 have G: ∀ b,S'.w b→E.w0.heap.size≤b∨E.S.w b:=fun b hb=>by
  obtain ⟨A,hA,hw⟩:=(hz.w_ b).1 hb
  exact C.own A (cQ _ hA) b hw
 have H: ∀ A∈C1,∀ b,A.e_ b→w.heap.size≤b∨S'.w b:=fun A hA b hb=>F.own A hA b (A.whole (List.all_eq_true.1 hwr A hA) b hb)
 refine h a w' hf ⟨?_,fun A hA=>?_,List.Pairwise.cons (fun B hB b hb hb'=>?_) F.sep,fun A hA b hb=>?_,fun A hA b hb=>?_⟩
 ·refine ⟨F.keeps.os.trans C.keeps.os,F.keeps.tape.trans C.keeps.tape,F.keeps.output.trans C.keeps.output,Nat.le_trans C.keeps.size F.keeps.size,fun k hk hn'=>?_⟩
  refine (F.keeps.block k (Nat.lt_of_lt_of_le hk C.keeps.size) fun hw=>?_).trans (C.keeps.block k hk hn')
  rcases G k hw with q|q
  ·omega
  ·exact hn' q
 ·rcases List.mem_cons.1 hA with rfl|hA
  ·have hh:=C.holds A (cb ..)
   exact A.oD w w' (fun b hb=>F.keeps.block b (A.lt w hh b hb) (AA b hb)) hh
  ·exact F.holds A hA
 ·exfalso
  have hl:=X.lt w (C.holds X (cb ..)) b hb
  rcases H B hB b hb' with q|q
  ·omega
  ·exact AA b hb q
 ·rcases List.mem_cons.1 hA with rfl|hA
  ·exact C.own A (cb ..) b hb
  ·rcases F.own A hA b hb with q|q
   ·exact .inl (Nat.le_trans C.keeps.size q)
   ·exact G b q
 ·rcases List.mem_cons.1 hA with rfl|hA
  ·exact C.seen A (cb ..) b hb
  ·rcases H A hA b hb with q|q
   ·exact .inl (Nat.le_trans C.keeps.size q)
   ·obtain ⟨B,hB,hw⟩:=(hz.w_ b).1 q
    exact C.seen B (cQ _ hB) b (B.ks b hw)
/-- put back, as it was -/
theorem GJ {M A:Type} {f:M→A→List aq} {S:BS} {w0 w:World} {C:List aq} {ms:List M} {asl:List A} {k:Nat} {m:M} {a:A} {X:aq} (hm:ms[k]? =some m) (ha:asl[k]? =some a) (hf:f m a=[X]) (h:St S w0 (X::bw (fp f ms asl k)::C) w):St S w0 (bw (aV f ms asl)::C) w:=by
 have B:St S w0 (bw (fp f ms asl k)::X::C) w:=h.perm (List.Perm.swap _ _ _)
 have D:St S w0 ((f m a++fp f ms asl k)++C) w:=by
  rw [hf]
  exact B.ic.perm (List.perm_middle (a:=X) (l₁:=fp f ms asl k) (l₂:=C))
 exact kN (kM hm ha).symm D.tied
theorem JP {E:eZ} {K:Act→World→Prop} {D:List Deferred} {L:List (Nat×Value)} {C C1:List aq} {M A:Type} {f:M→A→List aq} {ms:List M} {asl:List A} {k:Nat} {m:M} {a:A} {X:aq} (i j:Nat) (hm:ms[k]? =some m) (ha:asl[k]? =some a) (hf:f m a=[X])
 (hn:decide (j::i::(List.range C.length).filter fun k=>k != i&&k != j).Nodup=true) (hC:kp C (j::i::(List.range C.length).filter fun k=>k != i&&k != j)=X::bw (fp f ms asl k)::C1)
 (h:KJ E K D L (bw (aV f ms asl)::C1)):KJ E K D L C:=fun a w hf' hs=>h a w hf' (GJ hm ha hf (St.kp _ hn hC hs))
theorem zl {M A:Type} {f:M→A→List aq} {ms:List M} {asl:List A} {m:M} {a:A} {X:aq} (hl:ms.length=asl.length) (hf:f m a=[X]):aV f ms asl++[X]=aV f (ms++[m]) (asl++[a]):=by
 rw [jF hl,← hf]; simp [aV]
theorem zu {E:eZ} {K:Act→World→Prop} {D:List Deferred} {L:List (Nat×Value)} {C C1:List aq} {M A:Type} {f:M→A→List aq} {ms:List M} {asl:List A} {m:M} {a:A} {X:aq} (i j:Nat) (hf:f m a=[X])
 (hn:decide (j::i::(List.range C.length).filter fun k=>k != i&&k != j).Nodup=true) (hC:kp C (j::i::(List.range C.length).filter fun k=>k != i&&k != j)=X::bw (aV f ms asl)::C1)
 (h:KJ E K D L (bw (aV f (m::ms) (a::asl))::C1)):KJ E K D L C:=fun b w hf' hs=>by
 have B:=St.kp _ hn hC hs
 have F:St E.S E.w0 (bw (aV f ms asl)::X::C1) w:=B.perm (List.Perm.swap _ _ _)
 have G:St E.S E.w0 (aV f (m::ms) (a::asl)++C1) w:=by
  show St E.S E.w0 ((f m a++aV f ms asl)++C1) w
  rw [hf]
  exact F.ic.perm (List.perm_middle (a:=X) (l₁:=aV f ms asl) (l₂:=C1))
 exact h b w hf' G.tied
end
section
open Go.RowKit
abbrev lH (r:Nat):aq:=lg r (.deferred (some []))
theorem Nv (rs:List Nat):(bw (rs.map lH)).wr=true:=by
 show (rs.map lH).all (·.wr)=true
 rw [eY]
 intro X hX
 obtain ⟨r,_,rfl⟩:=List.mem_map.1 hX
 rfl
theorem we {E:eZ} {c:Code} {Q:cY} {D:List Deferred} {L:List (Nat×Value)} {C:List aq} {ι:Type} (Di:ι→List Deferred) (Li:ι→List (Nat×Value)) (Ci:ι→List aq) (μ:ι→Nat) (x0:ι)
 (hD:D=Di x0) (h0:dh L (Li x0)) (hC: ∀ w,St E.S E.w0 C w→St E.S E.w0 (Ci x0) w)
 (round: ∀ x (J:Act→World→Prop),(∀ y D' L' C',D'=Di y→μ y<μ x→dh L' (Li y)→(∀ w,St E.S E.w0 C' w→St E.S E.w0 (Ci y) w)→KJ E J D' L' C')→WJ E c (Exit.then J Q) (Di x) (Li x) (Ci x)):WJ E (.loop c) Q D L C:=by
 intro a w hf hs
 subst hD
 have H: ∃ x,Fr E.n (Di x) (Li x) a∧St E.S E.w0 (Ci x) w:=⟨x0,hf.sub h0,hC w hs⟩
 clear hf hs
 have key: ∀ (m:Nat) (a:Act) (w:World),(∃ x,μ x=m∧Fr E.n (Di x) (Li x) a∧St E.S E.w0 (Ci x) w)→(Code.loop c).wpIn (Fw E.r) 0 E.P Q a w:=by
  intro m a w hx
  refine wpIn_loop (fun a w=> ∃ x,Fr E.n (Di x) (Li x) a∧St E.S E.w0 (Ci x) w) (fun a w=>leastOf fun k=> ∃ x,μ x=k∧Fr E.n (Di x) (Li x) a∧St E.S E.w0 (Ci x) w) (by obtain ⟨x,_,h⟩:=hx; exact ⟨x,h⟩) ?_
  intro a w hx
  have F: ∃ k,∃ x,μ x=k∧Fr E.n (Di x) (Li x) a∧St E.S E.w0 (Ci x) w:=by obtain ⟨x,h⟩:=hx; exact ⟨_,x,rfl,h⟩
  obtain ⟨x,K,AA,M⟩:=(leastOf_spec F).1
  refine round x _ ?_ a w AA M
  intro y D' L' C' hD G A B a' w' hf' hs'
  subst hD
  refine ⟨⟨y,hf'.sub A,B _ hs'⟩,?_⟩
  rw [← K]
  exact Nat.lt_of_le_of_lt ((leastOf_spec ⟨_,y,U,hf'.sub A,B _ hs'⟩).2 _ ⟨y,U,hf'.sub A,B _ hs'⟩) G
 obtain ⟨x,h⟩:=H
 exact key _ a w ⟨x,U,h⟩
theorem St.UH {S:BS} {w0 w:World} {C X:List aq} {A:aq} (h:St S w0 (A::bw X::C) w):St S w0 (bw (A::X)::C) w:=by
 have B:St S w0 (bw X::A::C) w:=h.perm (List.Perm.swap _ _ _)
 have D:St S w0 ((A::X)++C) w:=B.ic.perm (List.perm_middle (a:=A) (l₁:=X) (l₂:=C))
 exact D.tied
theorem IE {E:eZ} {K:Act→World→Prop} {D:List Deferred} {L:List (Nat×Value)} {C C1 X:List aq} {A:aq} (i j:Nat) (hn:decide (j::i::(List.range C.length).filter fun k=>k != i&&k != j).Nodup=true) (hC:kp C (j::i::(List.range C.length).filter fun k=>k != i&&k != j)=A::bw X::C1)
 (h:KJ E K D L (bw (A::X)::C1)):KJ E K D L C:=fun a w hf hs=>h a w hf ((St.kp _ hn hC hs).UH)
theorem Eh {E:eZ} {K:Act→World→Prop} {D:List Deferred} {L:List (Nat×Value)} {C:List aq} (h:KJ E K D L (bw []::C)):KJ E K D L C:=fun a w hf hs=>h a w hf hs.P6
theorem PM {E:eZ} {K:Act→World→Prop} {D:List Deferred} {L:List (Nat×Value)} (C1 C2:List aq) (h:KJ E K D L (bw C1::C2)):KJ E K D L (C1++C2):=fun a w hf hs=>h a w hf (St.tied hs)
theorem NC {E:eZ} {fn:Func} {R:Ending→World→Prop} {D:List Deferred} {L:List (Nat×Value)} {C C1:List aq} {rs:List Nat} (i:Nat) (hn:decide (i::(List.range C.length).filter fun k=>k != i).Nodup=true) (hC:kp C (i::(List.range C.length).filter fun k=>k != i)=bw (rs.map lH)::C1)
 (h:LJ E fn R D L C1):LJ E fn R (rs.map lp++D) L C:=by
 have key: ∀ rs:List Nat,LJ E fn R (rs.map lp++D) L (bw (rs.map lH)::C1):=by
  intro rs
  induction rs with
  |nil=>exact fun a w hf hs=>h a w hf (hs.take (List.sublist_cons_self _ _))
  |cons r rs ih=>
   have A:LJ E fn R (lp r::(rs.map lp++D)) L (lH r::bw (rs.map lH)::C1):=ou 0 rfl rfl (fun a w hf hs=>ih a w hf (hs.take (List.sublist_cons_self _ _)))
   intro a w hf hs
   refine A a w hf ?_
   have B:St E.S E.w0 ((lH r::rs.map lH)++C1) w:=St.ic (C1:=lH r::rs.map lH) hs
   have F:St E.S E.w0 (rs.map lH++(lH r::C1)) w:=B.perm (List.perm_middle (a:=lH r) (l₁:=rs.map lH) (l₂:=C1)).symm
   exact F.tied.perm (List.Perm.swap _ _ _)
 exact fun a w hf hs=>key rs a w hf (St.kp _ hn hC hs)
theorem Kb {E:eZ} {fn:Func} {R:Ending→World→Prop} {L:List (Nat×Value)} {C C1:List aq} {rs:List Nat} (i:Nat) (hn:decide (i::(List.range C.length).filter fun k=>k != i).Nodup=true) (hC:kp C (i::(List.range C.length).filter fun k=>k != i)=bw (rs.map lH)::C1)
 (h:LJ E fn R [] L C1):LJ E fn R (rs.map lp) L C:=by
 have:=NC (D:=[]) i hn hC h
 rwa [List.append_nil] at this
end
section
open Go.RowKit
theorem Jd (fs:List FM) (fb:List Nat):(bw (aV nQ fs fb)).wr=true:=by
 show (aV nQ fs fb).all (·.wr)=true
 rw [eY]
 intro X hX
 obtain ⟨k,m,a,_,_,h⟩:=jR hX
 simp only [nQ,bS] at h
 subst h; rfl
theorem Rw (fs:List TM) (fb:List Nat):(bw (aV ru fs fb)).wr=true:=by
 show (aV ru fs fb).all (·.wr)=true
 rw [eY]
 intro X hX
 obtain ⟨k,m,a,_,_,h⟩:=jR hX
 simp only [ru,bS] at h
 subst h; rfl
end
section
def eo (bl:List Nat) (n:Nat):List (Option Nat):=bl.map some++List.replicate (n-bl.length) none
def gY (bl:List Nat) (n:Nat):List (Option Nat):=List.replicate (n-bl.length) none++bl.map some
theorem re {bl:List Nat} {n:Nat} (h:bl.length≤n):(eo bl n).length=n:=by simp [eo]; omega
theorem zg {bl:List Nat} {n:Nat} (h:bl.length≤n):(gY bl n).length=n:=by simp [gY]; omega
theorem zM {n:Nat}:List.replicate n none=eo [] n:=by simp [eo]
theorem GN {n:Nat}:List.replicate n none=gY [] n:=by simp [gY]
theorem zJ {bl:List Nat} {n:Nat} (h:bl.length=n):eo bl n=bl.map some:=by simp [eo,h]
theorem HO {bl:List Nat} {n:Nat} (h:bl.length=n):gY bl n=bl.map some:=by simp [gY,h]
theorem oO {bl:List Nat} {n k g:Nat} (h:bl[k]? =some g):(eo bl n)[k]? =some (some g):=by
 have hk:=(List.getElem?_eq_some_iff.1 h).1
 unfold eo
 rw [List.getElem?_append_left (by simpa using hk),fq,h]; rfl
theorem sS {bl:List Nat} {n k i g:Nat} (h:bl[i]? =some g) (hk:k=n-bl.length+i):(gY bl n)[k]? =some (some g):=by
 subst hk
 unfold gY
 rw [List.getElem?_append_right sm,fq,List.length_replicate,Nat.add_sub_cancel_left,h]; rfl
theorem uN {bl:List Nat} {n k g:Nat} (hk:k=bl.length) (h:bl.length<n):(eo bl n).set k (some g)=eo (bl++[g]) n:=by
 subst hk
 unfold eo
 rw [List.set_append_right _ _ sm]
 have e:n-bl.length=(n-(bl++[g]).length)+1:=by simp; omega
 rw [e,List.replicate_succ]
 simp
theorem Ha {bl:List Nat} {n k g:Nat} (hk:k+1+bl.length=n):(gY bl n).set k (some g)=gY (g::bl) n:=by
 unfold gY
 have e:n-bl.length=k+1:=by omega
 have A:n-(g::bl).length=k:=by simp; omega
 rw [e,A,List.set_append_left _ _ sm,List.replicate_succ',List.set_append_right _ _ sm]
 simp
theorem rI {l:List (Option Nat)} {k g:Nat} (h:l[k]? =some (some g)):(l.map oC)[k]? =some (oC (some g)):=by rw [fq,h]; rfl
theorem z8 {α:Type} {l:List α} {x:α} {k:Nat} (h:k=l.length):(l++[x])[k]? =some x:=by subst h; simp
theorem JN {α:Type} {l:List α} {x y:α} {k:Nat} (h:l[k]? =some y):(l++[x])[k]? =some y:=by rw [List.getElem?_append_left (List.getElem?_eq_some_iff.1 h).1]; exact h
structure pQ (w:bP) (fs:List FM):Prop where
 all: ∀ (b:Nat) m,fs[b]? =some m→sJ m (fwd w b)∧(m.map (·.1)).Nodup
structure g3 (w:bP) (k:Nat) (bs:List FM):Prop where
 all: ∀ (i:Nat) m,bs[i]? =some m→vg m (back w (k+i))∧(m.map (·.1)).Nodup
variable {w:bP} {b:Nat} {mb m left:List (aB×Int)} {o:Int×aa} {os:List (Int×aa)} {p:aB×Int}
theorem pQ.first:pQ w [[(⟨0,0⟩,w.Start)]]:=⟨fun b m h=>by
 match b with
 |0=>simp at h; subst h; exact ⟨Hq,sm⟩
 |n+1=>simp at h⟩
theorem pQ.add {fs:List FM} (h:pQ w fs) (hl:fs.length=b+1) (hmb:fs[b]? =some mb) (hm:xY w b m) (hd:jK w b mb m left) (h0:left=[]):pQ w (fs++[m]):=⟨fun i x hx=>by
 rcases Nat.lt_or_ge i fs.length with q|q
 ·rw [List.getElem?_append_left q] at hx; exact h.all i x hx
 ·rw [List.getElem?_append_right q] at hx
  have hi:i-fs.length=0:=by
   rcases Nat.eq_zero_or_pos (i-fs.length) with z|z
   ·exact z
   ·rw [List.getElem?_eq_none (by simp; omega)] at hx; cases hx
  rw [hi] at hx
  simp at hx; subst hx
  obtain rfl:i=b+1:=by omega
  have A:=h.all b mb hmb
  exact ⟨KR A.2 A.1 hm.snd (hd.fin h0),hm.keys⟩⟩
theorem pQ.ok {fs:List FM} (h:pQ w fs) (hl:fs.length=w.n+1):xz w fs:=⟨hl,fun b m hm=>(h.all b m hm).1,fun b m hm=>(h.all b m hm).2⟩
theorem g3.none_:g3 w b []:=⟨fun i m h=>by simp at h⟩
theorem g3.last (hb:w.n≤b):g3 w b [[(⟨0,0⟩,w.fZ)]]:=⟨fun i m h=>by
 match i with
 |0=>simp at h; subst h; exact ⟨Ko I,sm⟩
 |n+1=>simp at h⟩
theorem g3.add {bs:List FM} (h:g3 w (b+1) bs) (hb:b<w.n) (hmb:bs[0]? =some mb) (hm:vH w b m) (hd:jv w b mb m left) (h0:left=[]):g3 w b (m::bs):=⟨fun i x hx=>by
 match i with
 |0=>
  simp at hx; subst hx
  have A:=h.all 0 mb hmb
  exact ⟨K3 hb A.2 A.1 hm.snd hm.zero (hd.fin h0),hm.keys⟩
 |n+1=>
  have:=h.all n x (by simpa using hx)
  rw [show b+1+n=b+(n+1) by omega] at this
  exact this⟩
theorem g3.ok {bs:List FM} (h:g3 w 0 bs) (hl:bs.length=w.n+1):uC w bs:=⟨hl,fun b m hm=>by have:=(h.all b m hm).1; rwa [Nat.zero_add] at this,fun b m hm=>(h.all b m hm).2⟩
/-- on the way through one entry's options -/
structure ng (w:bP) (b:Nat) (mb left m:List (aB×Int)) (p:aB×Int) (os:List (Int×aa)):Prop where
 on:xY w b m
 tO:jK w b mb m left
 done:iX w b m p os
structure nt (w:bP) (b:Nat) (mb left m:List (aB×Int)) (p:aB×Int) (os:List (Int×aa)):Prop where
 on:vH w b m
 tO:jv w b mb m left
 done:iT w b m p os
theorem ng.start (h:xY w b m) (h2:jK w b mb m left):ng w b mb left m p []:=⟨h,h2,fun o ho=>by cases ho⟩
theorem nt.start (h:vH w b m) (h2:jv w b mb m left):nt w b mb left m p []:=⟨h,h2,fun o ho=>by cases ho⟩
theorem HI {q:aB×Int} (h:(m.lookup q.1).isSome=false∨q.2<(m.lookup q.1).getD 0):o8 m q=dL m q.1 q.2:=by
 unfold o8
 cases e:m.lookup q.1 with
 |none=>rfl
 |some v=>rw [e] at h; simp at h; simp only; rw [if_pos h]
theorem DP {q:aB×Int} (h:(m.lookup q.1).isSome=true) (h2: ¬ q.2<(m.lookup q.1).getD 0):o8 m q=m:=by
 unfold o8
 cases e:m.lookup q.1 with
 |none=>rw [e] at h; cases h
 |some v=>rw [e] at h2; simp only [Option.getD_some] at h2; simp only; rw [if_neg h2]
theorem Hh {q:aB×Int} (h:(m.lookup q.1).isSome=false∨(m.lookup q.1).getD 0<q.2):oP m q=dL m q.1 q.2:=by
 unfold oP
 cases e:m.lookup q.1 with
 |none=>rfl
 |some v=>rw [e] at h; simp at h; simp only; rw [if_pos h]
theorem Dw {q:aB×Int} (h:(m.lookup q.1).isSome=true) (h2: ¬ (m.lookup q.1).getD 0<q.2):oP m q=m:=by
 unfold oP
 cases e:m.lookup q.1 with
 |none=>rw [e] at h; cases h
 |some v=>rw [e] at h2; simp only [Option.getD_some] at h2; simp only; rw [if_neg h2]
theorem AE {t:aB} {v y:Int} (hy:w.pT[b]? =some y) (h:max (v+y) o.2.Lo≤min o.2.Hi w.fZ):kD w b (t,v) o=some (dk t (fc o.1),max (v+y) o.2.Lo):=by
 have e:=nz hy
 subst e
 exact Mg h
theorem Jr {t:aB} {v y:Int} (hy:w.pT[b]? =some y) (h: ¬ max (v+y) o.2.Lo≤min o.2.Hi w.fZ):kD w b (t,v) o=none:=by
 have e:=nz hy
 subst e
 exact Nz h
theorem Aa {t:aB} {v y:Int} (hy:w.pT[b]? =some y) (h:o.2.Lo≤min v o.2.Hi):nS w b (t,v) o=some (dk t (fc o.1),min v o.2.Hi-y):=by
 have e:=nz hy
 subst e
 exact Kr h
theorem ng.set {q:aB×Int} (h:ng w b mb left m p os) (hp:p∈fwd w b) (ho:o∈il w b) (he:kD w b p o=some q) (hs:(m.lookup q.1).isSome=false∨q.2<(m.lookup q.1).getD 0):ng w b mb left (dL m q.1 q.2) p (os++[o]):=by
 rw [← HI hs]
 exact ⟨h.on.add hp ho he,h.tO.lower u3,h.done.KY he⟩
theorem ng.oD {q:aB×Int} (h:ng w b mb left m p os) (he:kD w b p o=some q) (hs:(m.lookup q.1).isSome=true) (h2: ¬ q.2<(m.lookup q.1).getD 0):ng w b mb left m p (os++[o]):=by
 have:=h.done.KY he
 rw [DP hs h2] at this
 exact ⟨h.on,h.tO,this⟩
theorem ng.skip (h:ng w b mb left m p os) (he:kD w b p o=none):ng w b mb left m p (os++[o]):=⟨h.on,h.tO,h.done.none_ he⟩
theorem nt.set {q:aB×Int} (hb:b<w.n) (h:nt w b mb left m p os) (hp:p∈back w (b+1)) (ho:o∈il w b) (he:nS w b p o=some q) (hs:(m.lookup q.1).isSome=false∨(m.lookup q.1).getD 0<q.2):nt w b mb left (dL m q.1 q.2) p (os++[o]):=by
 rw [← Hh hs]
 exact ⟨h.on.add hb hp ho he,h.tO.upper qs,h.done.KY he⟩
theorem nt.oD {q:aB×Int} (h:nt w b mb left m p os) (he:nS w b p o=some q) (hs:(m.lookup q.1).isSome=true) (h2: ¬ (m.lookup q.1).getD 0<q.2):nt w b mb left m p (os++[o]):=by
 have:=h.done.KY he
 rw [Dw hs h2] at this
 exact ⟨h.on,h.tO,this⟩
theorem nt.skip (h:nt w b mb left m p os) (he:nS w b p o=none):nt w b mb left m p (os++[o]):=⟨h.on,h.tO,h.done.none_ he⟩
theorem ng.next {t:aB} {v:Int} (hn:(left.map (·.1)).Nodup) (hm:(t,v)∈left) (h:ng w b mb left m (t,v) os) (ho: ∀ o∈il w b,o∈os):jK w b mb m (cp left t):=h.tO.next hn hm h.done ho
theorem nt.next {t:aB} {v:Int} (hn:(left.map (·.1)).Nodup) (hm:(t,v)∈left) (h:nt w b mb left m (t,v) os) (ho: ∀ o∈il w b,o∈os):jv w b mb m (cp left t):=h.tO.next hn hm h.done ho
theorem pQ.mem {fs:List FM} (h:pQ w fs) (hm:fs[b]? =some mb) (hp:p∈mb):p∈fwd w b:=(h.all b mb hm).1.1 _ _ ((fm (h.all b mb hm).2).1 hp)
theorem g3.Vi {bs:List FM} {k:Nat} (h:g3 w k bs) (hk:k=b+1) (hm:bs[0]? =some mb) (hp:p∈mb):p∈back w (b+1):=by
 subst hk
 exact (h.all 0 mb hm).1.1 _ _ ((fm (h.all 0 mb hm).2).1 hp)
theorem g3.end_ {bs:List FM} {k j:Nat} (h:g3 w k bs) (hj:bs.length=0) (hk:j=b) (hb:w.n≤b):g3 w j ([(⟨0,0⟩,w.fZ)]::bs):=by
 subst hk
 rw [jC hj]
 exact g3.last hb
theorem g3.more {bs:List FM} {k j:Nat} (h:g3 w k bs) (hk:k=b+1) (hj:j=b) (hb:b<w.n) (hmb:bs[0]? =some mb) (hm:vH w b m) (hd:jv w b mb m left) (h0:left=[]):g3 w j (m::bs):=by
 subst hk hj
 exact h.add hb hmb hm hd h0
end
end Go.Proofs.YtadjgjnicdcjbaaGreatDoor
