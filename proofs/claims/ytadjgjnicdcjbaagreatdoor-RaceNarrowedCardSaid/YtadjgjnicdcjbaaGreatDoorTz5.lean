/-
 The statement raceNarrowed_said, part 5 of 8: RaceV, RankP, OrdX, TabP, NestS, Grp, Twin, Fresh, Rep, Ex6, Win6, BoolC, RaceR, Tied6, Sel6, Nar6, Nar7, Nar8, Bits, B1, Rc1, Rs5, CloneM, Rs1, S2, Rs2, MapD, B4, B2, B3, B5, B6, Frozen, MarkD, Marks, Follow, OpenM.
 Conditions: none.
-/
import Derived.Test.YtadjgjnicdcjbaaGreatDoorTz1
import Derived.Test.YtadjgjnicdcjbaaGreatDoorTz2
import Derived.Test.YtadjgjnicdcjbaaGreatDoorTz3
import Derived.Test.YtadjgjnicdcjbaaGreatDoorTz4
import Derived.KernelRfl
import Derived.MapKept
import Derived.Laws.Externs
namespace Go.Proofs.YtadjgjnicdcjbaaGreatDoor
set_option maxRecDepth 100000
set_option maxHeartbeats 4000000
set_option linter.unusedVariables false
section
def aB (m:gF) (i:Int):aa:=(m.lookup i).getD dv
def mZ (r:bT) (i:Int):Prop:=0≤i∧i≤(r.aK.length:Int)-1
instance (r:bT) (i:Int):Decidable (mZ r i):=by unfold mZ; infer_instance
noncomputable def jt (r:bT) (i:Int):Int:=if cr r=0 then (if mZ r i then (if (aA r).lookup i=none then 6 else 0) else 2) else cr r
noncomputable def pD (r:bT) (i:Int):aa:=if jt r i=0 then aB (aA r) i else dv
noncomputable def ld (r:bT) (a b:Int):Int:=if cr r=0 then (if mZ r a∧mZ r b∧a≠b then (if (aA r).lookup a=none∨(aA r).lookup b=none then 6 else 0) else 2) else cr r
def vv (s t:aa):Int:=if s.Hi<t.Lo then 2 else if s.Lo<t.Hi then 1 else 0
def n9 (s t:aa):Int:=if s=t∧s.Lo=s.Hi then 2 else if s.Lo≤t.Hi∧t.Lo≤s.Hi then 1 else 0
noncomputable def rH (r:bT) (a b:Int):Int:=if ld r a b=0 then vv (aB (aA r) a) (aB (aA r) b) else 0
noncomputable def m_ (r:bT) (a b:Int):Int:=if ld r a b=0 then n9 (aB (aA r) a) (aB (aA r) b) else 0
noncomputable def fR (r:bT) (i:Int):List Int:=if jt r i=0 then dq (aA r) i (aB (aA r) i) else []
noncomputable def jA (r:bT) (h i:Int):Int:=if cr r=0 then (if (0≤h∧h≤(r.ar.length:Int)-1)∧mZ r i then (if ((r.ar[h.toNat]?).bind (·[i.toNat]?)).any (·.Out)=true then 6 else 0) else 2) else cr r
noncomputable def dA (r:bT) (h i:Int):aa:=if jA r h i=0 then ((((r.ar[h.toNat]?).bind (·[i.toNat]?)).map (df r.an)).getD dv) else dv
noncomputable def uS (r:bT) (h:Nat):List Int:=let l:=er (fun i=>(aB (eB r h) i).Hi) (r.bL.filter fun i=>((eB r h).lookup i).isSome); rV (min r.ik.toNat l.length) l
noncomputable def iJ (r:bT) (h:Int):Int:=if cr r=0 then (if 0≤h∧h≤(r.ar.length:Int) then 0 else 2) else cr r
noncomputable def g3 (r:bT) (h:Int):List Int:=if iJ r h=0 then (if h=0 then r.bL else uS r h.toNat) else []
section
variable {r:bT} {i a b:Int}
theorem uj {m:gF} {i:Int} (h:(m.lookup i).isSome=true): ¬ m.lookup i=none:=fun e=>by rw [e] at h; cases h
theorem uf {m:gF} {i:Int} (h:(m.lookup i).isSome=false):m.lookup i=none:=by cases e:m.lookup i with |none=>rfl|some v=>rw [e] at h; cases h
theorem uo (h:jt r i=0):cr r=0∧mZ r i∧(aA r).lookup i≠none:=by
 unfold jt at h
 split at h
 ·split at h
  ·split at h
   ·cases h
   ·exact ⟨asm,asm,asm⟩
  ·cases h
 ·exact absurd h asm
theorem zi (h:ld r a b=0):cr r=0∧(mZ r a∧mZ r b∧a≠b)∧(aA r).lookup a≠none∧(aA r).lookup b≠none:=by
 unfold ld at h
 split at h
 ·split at h
  ·split at h
   ·cases h
   ·rename_i _ _ q
    exact ⟨asm,asm,fun e=>q (.inl e),fun e=>q (.inr e)⟩
  ·cases h
 ·exact absurd h asm
theorem oJ {k:Nat} {p:Int×aa} (h:p∈eB r k): ∃ q:Nat,q<r.aK.length∧p.1=(q:Int)∧eN r.an r.ar q k=some p.2:=by
 unfold eB at h
 obtain ⟨q,hq,e⟩:=List.mem_filterMap.1 h
 obtain ⟨s,hs,rfl⟩:=Option.map_eq_some_iff.1 e
 exact ⟨q,List.mem_range.1 hq,U,hs⟩
theorem F7 {k:Nat} (h:cr r=0) (hk:k≤r.ar.length): ∀ p∈eB r k,0≤p.2.Lo∧p.2.Lo≤p.2.Hi∧p.2.Hi≤30000000:=fun p hp=>by
 obtain ⟨q,_,_,hs⟩:=oJ hp
 have A:=As (ib h).2.z9 hk hs
 have B:=(ib h).2.nh
 omega
theorem m0 (h:cr r=0): ∀ p∈aA r,0≤p.2.Lo∧p.2.Lo≤p.2.Hi∧p.2.Hi≤30000000:=F7 h (Nat.le_refl _)
theorem uJ {k:Nat}:(eB r k).length≤r.aK.length:=by
 unfold eB
 refine Nat.le_trans (List.length_filterMap_le _ _) ?_
 rw [List.length_range]; exact Nat.le_refl _
theorem oH (h:cr r=0):(aA r).length≤5:=by
 have A:=uJ (r:=r) (k:=r.ar.length)
 have B:=(ib h).2.num
 unfold aA; omega
theorem Mx {s t:aa}:(if decide (s.Hi<t.Lo)=true then (2:Int) else if decide (s.Lo<t.Hi)=true then 1 else 0)=vv s t:=by simp only [decide_eq_true_eq]; rfl
theorem L_ {s t:aa} (h:s=t):(if decide (max s.Lo t.Lo=min s.Hi t.Hi)=true then (2:Int) else if decide (max s.Lo t.Lo≤min s.Hi t.Hi)=true then 1 else 0)=n9 s t:=by
 subst h
 simp only [decide_eq_true_eq,n9,Int.max_self,Int.min_self,true_and,and_self]
theorem Ox {s t:aa} (hs:s.Lo≤s.Hi) (ht:t.Lo≤t.Hi) (h: ¬ s=t):(if false=true then (2:Int) else if decide (max s.Lo t.Lo≤min s.Hi t.Hi)=true then 1 else 0)=n9 s t:=by
 unfold n9
 rw [if_neg dc,if_neg (fun q:s=t∧s.Lo=s.Hi=>h q.1)]
 by_cases c:s.Lo≤t.Hi∧t.Lo≤s.Hi
 ·rw [if_pos c,if_pos (fI om)]
 ·rw [if_neg c,if_neg (by rw [decide_eq_true_eq]; omega)]
theorem Je (h: ¬ cr r=0):jt r i=cr r:=if_neg h
theorem KZ (h:cr r=0) (hi: ¬ (0≤i∧i≤(r.aK.length:Int)-1)):jt r i=2:=by unfold jt; rw [if_pos h,if_neg (show ¬ mZ r i from hi)]
theorem yO (h:cr r=0) (hi:0≤i∧i≤(r.aK.length:Int)-1) (hl:((aA r).lookup i).isSome=false):jt r i=6:=by unfold jt; rw [if_pos h,if_pos (show mZ r i from hi),if_pos (uf hl)]
theorem FQ (h:cr r=0) (hi:0≤i∧i≤(r.aK.length:Int)-1) (hl:((aA r).lookup i).isSome=true):jt r i=0:=by unfold jt; rw [if_pos h,if_pos (show mZ r i from hi),if_neg (uj hl)]
theorem LO (h: ¬ cr r=0):ld r a b=cr r:=if_neg h
theorem Bd (h:cr r=0) (hi: ¬ ((0≤a∧a≤(r.aK.length:Int)-1)∧(0≤b∧b≤(r.aK.length:Int)-1)∧a≠b)):ld r a b=2:=by unfold ld; rw [if_pos h,if_neg (show ¬ (mZ r a∧mZ r b∧a≠b) from hi)]
theorem yY (h:cr r=0) (hi:(0≤a∧a≤(r.aK.length:Int)-1)∧(0≤b∧b≤(r.aK.length:Int)-1)∧a≠b) (hl:((aA r).lookup a).isSome=false∨((aA r).lookup b).isSome=false):ld r a b=6:=by
 unfold ld; rw [if_pos h,if_pos (show mZ r a∧mZ r b∧a≠b from hi),if_pos (hl.imp uf uf)]
theorem MT (h:cr r=0) (hi:(0≤a∧a≤(r.aK.length:Int)-1)∧(0≤b∧b≤(r.aK.length:Int)-1)∧a≠b) (h1:((aA r).lookup a).isSome=true) (h2:((aA r).lookup b).isSome=true):ld r a b=0:=by
 unfold ld; rw [if_pos h,if_pos (show mZ r a∧mZ r b∧a≠b from hi),if_neg (fun q=>q.elim (uj h1) (uj h2))]
end
end
section
abbrev qv:=List (Int×Bool)
def iS (m:qv) (P:Int→Prop):Prop:=(m.map (·.1)).Nodup∧ ∀ k,k∈m.map (·.1)↔P k
section
variable {m:qv} {P Q:Int→Prop} {k:Int}
theorem iS.ym (h:iS m P) (e: ∀ k,P k↔Q k):iS m Q:=⟨h.1,fun k=>(h.2 k).trans (e k)⟩
theorem Mn (h: ∀ k,¬ P k):iS [] P:=⟨List.Pairwise.nil,fun k=>⟨fun q=>by simp at q,fun q=>absurd q (h k)⟩⟩
theorem GV:k∈m.map (·.1)↔(m.lookup k).isSome=true:=by
 induction m with
 |nil=>simp
 |cons p m ih=>
  obtain ⟨a,b⟩:=p
  by_cases e:k=a
  ·subst e; simp [List.lookup]
  ·have:(k==a)=false:=by simpa using e
   simp only [List.map_cons,ed,e,false_or,List.lookup,this]
   exact ih
theorem Iy {b:Bool} (h:iS m P) (hk: ¬ P k):iS (ew m k b) fun q=>P q∨q=k:=by
 have hn:(m.lookup k).isSome=false:=by
  rw [Bool.eq_false_iff]
  exact fun q=>hk ((h.2 k).1 (GV.2 q))
 unfold ew
 rw [hn]
 simp only [Bool.false_eq_true,if_false]
 refine ⟨?_,fun q=>?_⟩
 ·rw [List.map_append]
  refine List.nodup_append.2 ⟨h.1,sm,fun a ha b hb e=>?_⟩
  simp at hb
  subst hb; subst e
  exact hk ((h.2 _).1 ha)
 ·rw [List.map_append,kB,h.2 q]
  simp
theorem BJ (h:iS m P):iS (cj m k) fun q=>P q∧q≠k:=by
 have hs:((cj m k).map (·.1)).Sublist (m.map (·.1)):=List.Sublist.map _ List.filter_sublist
 refine ⟨h.1.sublist hs,fun q=>?_⟩
 constructor
 ·intro hq
  obtain ⟨p,hp,rfl⟩:=List.mem_map.1 hq
  obtain ⟨A,B⟩:=j1.1 hp
  exact ⟨(h.2 _).1 (List.mem_map_of_mem A),B⟩
 ·rintro ⟨A,B⟩
  obtain ⟨p,hp,rfl⟩:=List.mem_map.1 ((h.2 q).2 A)
  exact List.mem_map_of_mem (j1.2 ⟨hp,B⟩)
end
/-- two rows that go up and have the same numbers, each once -/
theorem rq {a b:List Int} (ha:a.Pairwise (· ≤ ·)) (hb:b.Pairwise (· ≤ ·)) (na:a.Nodup) (nb:b.Nodup) (h: ∀ x,x∈a↔x∈b):a=b:=
 rO ((List.perm_ext_iff_of_nodup na nb).2 h) ha hb
def IP (l:List Int):Nat:=if l.length=2∧l[1]? =l[0]? then 1 else l.length
theorem yu {l:List Int} {x y:Int} (h:l.length=2) (h0:l[0]? =some y) (h1:l[1]? =some x) (e:x=y):IP l=1:=if_pos ⟨h,by rw [h0,h1,e]⟩
theorem C7 {l:List Int} {x y:Int} (h:l.length=2) (h0:l[0]? =some y) (h1:l[1]? =some x) (e: ¬ x=y):IP l=l.length:=if_neg fun q=>e (by have:=q.2; rw [h0,h1] at this; exact Option.some.inj this)
theorem Jj (a b:Int):(a=b∧IP (dg [a,b])=1)∨(¬ a=b∧IP (dg [a,b])=2):=by
 have hl:(dg [a,b]).length=2:=by simp
 have hp:(dg [a,b]).Perm [a,b]:=fB
 match hs:dg [a,b],hl with
 |[x,y],_=>
  rw [hs] at hp
  by_cases e:a=b
  ·subst e
   left
   refine ⟨U,yu U U U ?_⟩
   have A:x∈[a,a]:=hp.mem_iff.1 sm
   have B:y∈[a,a]:=hp.mem_iff.1 sm
   simp at A B; omega
  ·right
   refine ⟨e,(C7 (x:=y) (y:=x) U U U fun q=>?_).trans U⟩
   subst q
   have A:=hp.nodup_iff.2 (show [a,b].Nodup by simp [e])
   simp at A
section
variable {m left:gF} {i n x:Int} {y:aa}
theorem lJ {p:Int×aa→Bool} (hn:(left.map (·.1)).Nodup) (hm:(x,y)∈left):left.countP p=(cj left x).countP p+(if p (x,y)=true then 1 else 0):=by
 induction left with
 |nil=>cases hm
 |cons q left ih=>
  obtain ⟨a,b⟩:=q
  simp only [List.map_cons,List.nodup_cons] at hn
  rcases List.mem_cons.1 hm with e|hm
  ·cases e
   have A:cj ((x,y)::left) x=left:=by
    unfold cj
    rw [List.filter_cons_of_neg sm]
    exact List.filter_eq_self.2 fun q hq=>by
     have:q.1≠x:=fun e=>hn.1 (e▸List.mem_map_of_mem hq)
     simpa using this
   rw [A,List.countP_cons]
  ·have B:a≠x:=fun e=>hn.1 (e▸List.mem_map_of_mem (f:=fun z:Int×aa=>z.1) hm)
   have A:cj ((a,b)::left) x=(a,b)::cj left x:=by
    unfold cj
    rw [List.filter_cons_of_pos (by simpa using B)]
   rw [A,List.countP_cons,List.countP_cons,ih hn.2 hm]
   omega
theorem l3:gW left i n=left.countP fun p=>decide (p.2.Hi<n)&& !decide (p.1=i):=by unfold gW mL; rw [List.countP_filter]
theorem ow:jX left i n=left.countP fun p=>decide (p.2.Lo<n)&& !decide (p.1=i):=by unfold jX mL; rw [List.countP_filter]
theorem Hz (hn:(left.map (·.1)).Nodup) (hm:(x,y)∈left) (h:x=i):gW left i n=gW (cj left x) i n:=by
 rw [l3,l3,lJ hn hm]; simp [h]
theorem Lv (hn:(left.map (·.1)).Nodup) (hm:(x,y)∈left) (h:x=i):jX left i n=jX (cj left x) i n:=by
 rw [ow,ow,lJ hn hm]; simp [h]
theorem zr (hn:(left.map (·.1)).Nodup) (hm:(x,y)∈left) (h: ¬ x=i) (hy:y.Hi<n):gW left i n=gW (cj left x) i n+1:=by
 rw [l3,l3,lJ hn hm]; simp [h,hy]
theorem Cm (hn:(left.map (·.1)).Nodup) (hm:(x,y)∈left) (h: ¬ x=i) (hy: ¬ y.Hi<n):gW left i n=gW (cj left x) i n:=by
 rw [l3,l3,lJ hn hm]; simp [h,hy]
theorem Cd (hn:(left.map (·.1)).Nodup) (hm:(x,y)∈left) (h: ¬ x=i) (hy:y.Lo<n):jX left i n=jX (cj left x) i n+1:=by
 rw [ow,ow,lJ hn hm]; simp [h,hy]
theorem Fu (hn:(left.map (·.1)).Nodup) (hm:(x,y)∈left) (h: ¬ x=i) (hy: ¬ y.Lo<n):jX left i n=jX (cj left x) i n:=by
 rw [ow,ow,lJ hn hm]; simp [h,hy]
theorem yU:gW [] i n=0:=rfl
theorem Ba:jX [] i n=0:=rfl
theorem FT:gW m i n≤m.length:=by unfold gW mL; exact Nat.le_trans List.countP_le_length (List.length_filter_le _ _)
theorem I9:jX m i n≤m.length:=by unfold jX mL; exact Nat.le_trans List.countP_le_length (List.length_filter_le _ _)
end
def ot {β:Type} (m left:List (Int×β)) (ys:List Int):Prop:=(ys++left.map (·.1)).Perm (m.map (·.1))
theorem u0 {β:Type} {m:List (Int×β)}:ot m m []:=List.Perm.refl _
theorem xR {β:Type} {m:List (Int×β)} {ys:List Int} (h:ot m [] ys):ys.Perm (m.map (·.1)):=by simpa [ot] using h
theorem Lj {β:Type} {left:List (Int×β)} {x:Int} {y:β} (hn:(left.map (·.1)).Nodup) (hm:(x,y)∈left):(left.map (·.1)).Perm (x::(cj left x).map (·.1)):=by
 induction left with
 |nil=>cases hm
 |cons q left ih=>
  obtain ⟨a,b⟩:=q
  simp only [List.map_cons,List.nodup_cons] at hn
  rcases List.mem_cons.1 hm with e|hm
  ·cases e
   have A:cj ((x,y)::left) x=left:=by
    unfold cj
    rw [List.filter_cons_of_neg sm]
    exact List.filter_eq_self.2 fun q hq=>by
     have:q.1≠x:=fun e=>hn.1 (e▸List.mem_map_of_mem hq)
     simpa using this
   rw [A]; exact List.Perm.refl _
  ·have B:a≠x:=fun e=>hn.1 (e▸List.mem_map_of_mem (f:=fun z:Int×β=>z.1) hm)
   have A:cj ((a,b)::left) x=(a,b)::cj left x:=by
    unfold cj
    rw [List.filter_cons_of_pos (by simpa using B)]
   rw [A,List.map_cons,List.map_cons]
   exact ((ih hn.2 hm).cons a).trans (List.Perm.swap _ _ _)
theorem nQ {β:Type} {m left:List (Int×β)} {ys:List Int} {x:Int} {y:β} (hn:(left.map (·.1)).Nodup) (hm:(x,y)∈left) (h:ot m left ys):ot m (cj left x) (ys++[x]):=by
 unfold ot at h ⊢
 refine List.Perm.trans ?_ h
 rw [List.append_assoc]
 exact (Lj hn hm).symm.append_left ys
theorem eG {β:Type} {m left:List (Int×β)} {x:Int} (h: ∀ p∈left,p∈m): ∀ p∈cj left x,p∈m:=fun p hp=>h p (j1.1 hp).1
theorem gP {m:gF} {i:Int} (h: ∀ p∈m,0≤p.2.Lo∧p.2.Lo≤p.2.Hi∧p.2.Hi≤30000000):0≤(aB m i).Lo∧(aB m i).Lo≤(aB m i).Hi∧(aB m i).Hi≤30000000:=by
 unfold aB
 cases e:m.lookup i with
 |none=>simp [dv]
 |some v=>
  have hm:(i,v)∈m:=by
   clear h
   induction m with
   |nil=>cases e
   |cons p m ih=>
    obtain ⟨a,b⟩:=p
    by_cases c:i=a
    ·subst c; simp [List.lookup] at e; subst e; exact cf
    ·have:(i==a)=false:=by simpa using c
     simp only [List.lookup,this] at e
     exact cS _ (ih e)
  simpa using h _ hm
/-- not reached by the numbers so far -/
def uu (m:gF) (i:Int) (ys:List Int) (k:Int):Prop:=(1≤k∧k≤(m.length:Int))∧ ∀ n∈ys,¬ ((gW m i n:Int)+1≤k∧k≤(jX m i n:Int)+1)
section
variable {m:gF} {i:Int} {own:aa} {ys:List Int} {nev yL:qv} {n a b:Int}
theorem JN (h:iS nev fun k=>1≤k∧k≤(m.length:Int)):iS nev (uu m i []):=h.ym fun k=>⟨fun h=>⟨h,fun n hn=>by cases hn⟩,fun h=>h.1⟩
theorem It (ha:a=(gW m i n:Int)+1) (hb:b=(jX m i n:Int)+1) (h:iS nev fun q=>uu m i ys q∧ ¬ (a≤q∧q≤b)):iS nev (uu m i (ys++[n])):=by
 subst ha hb
 refine h.ym fun k=>?_
 unfold uu
 constructor
 ·rintro ⟨⟨B,A⟩,C⟩
  refine ⟨B,fun x hx=>?_⟩
  rcases List.mem_append.1 hx with hx|hx
  ·exact A x hx
  ·rw [bR] at hx; subst hx; exact C
 ·rintro ⟨B,A⟩
  exact ⟨⟨B,fun x hx=>A x (List.mem_append_left _ hx)⟩,A n sm⟩
theorem DP {P:Int→Prop} {k:Int} (hk:a≤k) (h:iS nev fun q=>P q∧ ¬ (a≤q∧q<k)):iS (cj nev k) fun q=>P q∧ ¬ (a≤q∧q<k+1):=
 (BJ (k:=k) h).ym fun q=>by
  constructor
  ·rintro ⟨⟨B,A⟩,E⟩; exact ⟨B,fun ⟨C,D⟩=>A ⟨C,om⟩⟩
  ·rintro ⟨B,A⟩; exact ⟨⟨B,fun ⟨C,D⟩=>A ⟨C,om⟩⟩,fun e=>A ⟨om,om⟩⟩
theorem FE (hall: ∀ n,n∈ys↔n∈jx m i own) {k:Int} (hk:1≤k∧k≤(m.length:Int)): ¬ uu m i ys k↔sG m i own k:=by
 unfold uu sG
 constructor
 ·intro h
  refine Classical.byContradiction fun q=>h ⟨hk,fun n hn hc=>q ⟨n,(hall n).1 hn,hc.1,hc.2⟩⟩
 ·rintro ⟨n,hn,A,B⟩ h
  exact h.2 n ((hall n).2 hn) ⟨A,B⟩
/-- the ranks, from what is left of the map -/
theorem DV (hi:m.lookup i≠none) (hall: ∀ n,n∈ys↔n∈jx m i own) (h:iS yL fun k=>(1≤k∧k≤(m.length:Int))∧ ¬ uu m i ys k):dg (yL.map (·.1))=dq m i own:=by
 refine rq kU ?_ ((fB (l:=yL.map (·.1))).nodup_iff.2 h.1) ?_ fun k=>?_
 ·unfold dq
  refine List.Pairwise.filter _ ?_
  rw [List.pairwise_map]
  exact List.pairwise_lt_range.imp fun h=>by omega
 ·unfold dq
  refine List.Pairwise.filter _ ?_
  rw [List.pairwise_map]
  exact List.pairwise_lt_range.imp fun h=>by omega
 ·rw [(fB (l:=yL.map (·.1))).mem_iff,h.2 k,q9 hi]
  constructor
  ·rintro ⟨A,B⟩; exact (FE hall A).1 B
  ·intro A
   have hk:1≤k∧k≤(m.length:Int):=by
    obtain ⟨n,_,B,C⟩:=A
    have:=LK hi (x:=n)
    omega
   exact ⟨hk,(FE hall hk).2 A⟩
end
section
variable {nw left rk:qv} {N R:Int→Prop} {u:Int} {v:Bool}
theorem Nk (hl: ∀ p∈left,p∈nw) (hk:iS nw N) (hm:(u,v)∈left) (h:iS rk fun w=>R w∧ ¬ (N w∧w ∉ left.map (·.1))):iS (cj rk u) fun w=>R w∧ ¬ (N w∧w ∉ (cj left u).map (·.1)):=
 (BJ (k:=u) h).ym fun w=>by
  have hd:w∈(cj left u).map (·.1)↔w∈left.map (·.1)∧w≠u:=by
   constructor
   ·intro q
    obtain ⟨p,hp,rfl⟩:=List.mem_map.1 q
    exact ⟨List.mem_map_of_mem (j1.1 hp).1,(j1.1 hp).2⟩
   ·rintro ⟨D,E⟩
    obtain ⟨p,hp,rfl⟩:=List.mem_map.1 D
    exact List.mem_map_of_mem (j1.2 ⟨hp,E⟩)
  constructor
  ·rintro ⟨⟨B,A⟩,C⟩
   exact ⟨B,fun q=>A ⟨q.1,fun z=>q.2 (hd.2 ⟨z,C⟩)⟩⟩
  ·rintro ⟨B,A⟩
   refine ⟨⟨B,fun q=>A ⟨q.1,fun z=>q.2 (hd.1 z).1⟩⟩,fun e=>A ⟨?_,fun z=>(hd.1 z).2 e⟩⟩
   subst e
   exact (hk.2 _).1 (List.mem_map_of_mem (f:=fun z:Int×Bool=>z.1) (hl _ hm))
theorem Iv {n:Nat} (h:iS rk R) (hR: ∀ k,R k→1≤k∧k≤(n:Int)):rk.length≤n:=by
 have hp:((List.range n).map fun (k:Nat)=>(k:Int)+1).Pairwise (· < ·):=by
  rw [List.pairwise_map]
  exact List.pairwise_lt_range.imp fun h=>by omega
 have e:dg (rk.map (·.1))=((List.range n).map fun (k:Nat)=>(k:Int)+1).filter fun k=>decide (k∈rk.map (·.1)):=by
  refine rq kU ((hp.filter _).imp fun h=>by omega) ((fB (l:=rk.map (·.1))).nodup_iff.2 h.1) ((hp.filter _).imp fun h=>by omega) fun k=>?_
  rw [(fB (l:=rk.map (·.1))).mem_iff,List.mem_filter,decide_eq_true_eq]
  refine ⟨fun q=>⟨?_,q⟩,fun q=>q.2⟩
  have:=hR k ((h.2 k).1 q)
  exact List.mem_map.2 ⟨(k-1).toNat,List.mem_range.2 om,om⟩
 have A:=congrArg List.length e
 have B:=List.length_filter_le (fun k=>decide (k∈rk.map (·.1))) ((List.range n).map fun (k:Nat)=>(k:Int)+1)
 rw [gk,List.length_map] at A
 rw [List.length_map,List.length_range] at B
 omega
end
section
variable {m left:gF} {i x n:Int} {own y:aa} {ys:List Int}
/-- what was told so far: all of those who are not left -/
def yI (m:gF) (i:Int) (own:aa) (left:gF) (ys:List Int):Prop:=(∀ n∈ys,n∈jx m i own)∧own.Lo∈ys∧ ∀ p∈m,p.1≠i→p ∉ left→ ∀ n∈[p.2.Lo+1,p.2.Hi+1],own.Lo≤n∧n≤own.Hi→n∈ys
theorem mJ {p:Int×aa} (hp:p∈m) (hi:p.1≠i) (hn:n=p.2.Lo+1∨n=p.2.Hi+1) (hb:own.Lo≤n∧n≤own.Hi):n∈jx m i own:=
 cS _ (List.mem_filter.2 ⟨List.mem_flatMap.2 ⟨p,List.mem_filter.2 ⟨hp,by simpa using hi⟩,by simpa using hn⟩,fI hb⟩)
theorem LI:yI m i own m [own.Lo]:=⟨fun n hn=>by rw [bR] at hn; subst hn; exact cf,sm,fun p hp _ hl=>absurd hp hl⟩
theorem N5 (h:yI m i own [] ys) (n:Int):n∈ys↔n∈jx m i own:=by
 refine ⟨h.1 n,fun hn=>?_⟩
 rcases List.mem_cons.1 hn with rfl|hn
 ·exact h.2.1
 ·obtain ⟨C,D⟩:=List.mem_filter.1 hn
  obtain ⟨p,hp,hx⟩:=List.mem_flatMap.1 C
  obtain ⟨A,B⟩:=List.mem_filter.1 hp
  exact h.2.2 p A (by simpa using B) sm n hx (of_decide_eq_true D)
theorem kY {ys':List Int} (hm:(left.map (·.1)).Nodup) (hx:(x,y)∈left) (hl: ∀ p∈left,p∈m) (h:yI m i own left ys) (hs: ∀ n∈ys,n∈ys') (hn: ∀ n∈ys',n∈ys∨n∈jx m i own)
 (hy:x≠i→ ∀ n∈[y.Lo+1,y.Hi+1],own.Lo≤n∧n≤own.Hi→n∈ys'):yI m i own (cj left x) ys':=by
 refine ⟨fun n A=>?_,hs _ h.2.1,fun p hp hi B n A hb=>?_⟩
 ·rcases hn n A with q|q
  ·exact h.1 n q
  ·exact q
 ·by_cases e:p∈left
  ·have C:p.1=x:=by
    refine Classical.byContradiction fun q=>B (j1.2 ⟨e,q⟩)
   have E:p=(x,y):=by
    obtain ⟨G,H⟩:=p
    simp only at C; subst C
    have F:=(jQ hm).1 e
    have D:=(jQ hm).1 hx
    rw [F] at D; cases D; rfl
   subst E
   exact hy hi n A hb
  ·exact hs n (h.2.2 p hp hi e n A hb)
end
section
variable {r:bT} {h i:Int} {ht:List aw} {d:aw}
theorem o1 (he: ¬ cr r=0):jA r h i=cr r:=if_neg he
theorem oF (he:cr r=0) (hi: ¬ ((0≤h∧h≤(r.ar.length:Int)-1)∧0≤i∧i≤(r.aK.length:Int)-1)):jA r h i=2:=by
 unfold jA; rw [if_pos he,if_neg (show ¬ ((0≤h∧h≤(r.ar.length:Int)-1)∧mZ r i) from hi)]
theorem Bk (he:cr r=0) (hi:(0≤h∧h≤(r.ar.length:Int)-1)∧0≤i∧i≤(r.aK.length:Int)-1) (h1:r.ar[h.toNat]? =some ht) (h2:ht[i.toNat]? =some d):jA r h i=if d.Out=true then 6 else 0:=by
 unfold jA; rw [if_pos he,if_pos (show (0≤h∧h≤(r.ar.length:Int)-1)∧mZ r i from hi),h1]
 simp [h2]
theorem nG (he:cr r=0) (hi:(0≤h∧h≤(r.ar.length:Int)-1)∧0≤i∧i≤(r.aK.length:Int)-1) (h1:r.ar[h.toNat]? =some ht) (h2:ht[i.toNat]? =some d) (ho:d.Out=true):jA r h i=6:=by rw [Bk he hi h1 h2,if_pos ho]
theorem qL (he:cr r=0) (hi:(0≤h∧h≤(r.ar.length:Int)-1)∧0≤i∧i≤(r.aK.length:Int)-1) (h1:r.ar[h.toNat]? =some ht) (h2:ht[i.toNat]? =some d) (ho:d.Out=false):jA r h i=0∧dA r h i=df r.an d:=by
 have e:jA r h i=0:=by rw [Bk he hi h1 h2,if_neg (by rw [ho]; decide)]
 refine ⟨e,?_⟩
 unfold dA
 rw [if_pos e,h1]
 simp [h2]
end
theorem yS {r:bT} {i:Int} (h: ¬ jt r i=0):fR r i=[]:=if_neg h
theorem yP {r:bT} {i:Int} (h:jt r i=0):fR r i=dq (aA r) i (aB (aA r) i):=if_pos h
end
section
open Go.RowKit
section
variable {key:Int→Int} {l q m:List Int} {i j:Nat} {x y:Int}
theorem GG:1=1∧l=[]∨tP key l 1 l:=by
 cases l with
 |nil=>exact .inl ⟨rfl,rfl⟩
 |cons a l=>exact .inr (Kb sm)
theorem Nq (h:i<l.length) (hd:i=1∧l=[]∨tP key l i m):tP key l i m:=by
 rcases hd with ⟨_,rfl⟩|hd
 ·simp at h
 ·exact hd
theorem Ja (hi: ¬ i<l.length) (hl:m.length=l.length) (hd:i=1∧l=[]∨tP key l i m):m=er key l:=by
 rcases hd with ⟨_,rfl⟩|hd
 ·exact jC hl
 ·exact Ko om hd
theorem Lu (hx:q[j]? =some x) (hy:q[j-1]? =some y) (h: ∀ z∈q,z∈l): ∀ z∈(q.set j y).set (j-1) x,z∈l:=fun z hz=>by
 rcases List.mem_or_eq_of_mem_set hz with hz|rfl
 ·rcases List.mem_or_eq_of_mem_set hz with hz|rfl
  ·exact h z hz
  ·exact h _ (aT hy)
 ·exact h _ (aT hx)
theorem xe {p:Int→Bool} (hx:l[i]? =some x) (h:p x=true):(l.take (i+1)).filter p=(l.take i).filter p++[x]:=by
 rw [lG hx,List.filter_append]; simp [h]
theorem F1 {p:Int→Bool} (hx:l[i]? =some x) (h:p x=false):(l.take (i+1)).filter p=(l.take i).filter p:=by
 rw [lG hx,List.filter_append]; simp [h]
end
section
variable {r:bT} {h:Int} {n:Nat}
theorem Ds (e: ¬ cr r=0):iJ r h=cr r:=if_neg e
theorem Er (e:cr r=0) (q: ¬ (0≤h∧h≤(r.ar.length:Int))):iJ r h=2:=by unfold iJ; rw [if_pos e,if_neg q]
theorem zI (e:cr r=0) (q:0≤h∧h≤(r.ar.length:Int)):iJ r h=0:=by unfold iJ; rw [if_pos e,if_pos q]
theorem E2 (hd:r.bL.length≤12):(g3 r h).length≤12:=by
 unfold g3
 split
 ·split
  ·exact hd
  ·unfold uS
   simp only [j4,kp]
   exact Nat.le_trans (List.length_filter_le _ _) hd
 ·simp
theorem yT (e: ¬ iJ r h=0):g3 r h=[]:=if_neg e
theorem uY (e:iJ r h=0) (q:h=0):g3 r h=r.bL:=by unfold g3; rw [if_pos e,if_pos q]
theorem vo (e:iJ r (n:Int)=0) (q: ¬ (n:Int)=0):g3 r (n:Int)=uS r n:=by unfold g3; rw [if_pos e,if_neg q,Int.toNat_natCast]
theorem zw {k:Nat} {l:List Int} (hl:l=er (fun i=>(aB (eB r n) i).Hi) (r.bL.filter fun i=>((eB r n).lookup i).isSome)) (hk:k=min r.ik.toNat l.length):rV k l=uS r n:=by subst hl; subst hk; rfl
theorem TF {m:gF} {l:List Int} (hb: ∀ p∈m,0≤p.2.Lo∧p.2.Lo≤p.2.Hi∧p.2.Hi≤30000000): ∀ x∈l,0≤(aB m x).Hi∧(aB m x).Hi≤30000000:=fun x _=>by have:=gP (i:=x) hb; omega
theorem SB {m:gF} {l:List Int} (hb: ∀ p∈m,0≤p.2.Lo∧p.2.Lo≤p.2.Hi∧p.2.Hi≤30000000): ∀ x∈l,0≤(aB m x).Lo∧(aB m x).Lo≤30000000:=fun x _=>by have:=gP (i:=x) hb; omega
end
end
section
def Lq (f:Int→aa) (g:List Int):Prop:= ∀ t,(∃ a∈g,(f a).Lo<t)→(∃ b∈g,t≤(f b).Lo)→ ∃ c∈g,(f c).Lo<t∧t≤(f c).Hi
def Ks (f:Int→aa) (g h:List Int):Prop:= ∀ a∈g,∀ b∈h,(f a).Hi<(f b).Lo
structure hU (f:Int→aa) (keys:List Int) (G:List (List Int)):Prop where
 perm:G.flatten.Perm keys
 some_: ∀ g∈G,g≠[]
 apart:G.Pairwise (Ks f)
 tight: ∀ g∈G,Lq f g
def Bp (G:List (List Int)):Prop:= ∀ g∈G,g.Pairwise (· ≤ ·)
section
variable {f:Int→aa} {keys:List Int} {G G':List (List Int)} {g h:List Int} {x:Int}
theorem xL: ∀ {g:List Int},g≠[]→ ∃ a∈g,∀ b∈g,(f a).Lo≤(f b).Lo
 |[],h=>absurd rfl h
 |[a],_=>⟨a,sm,fun b hb=>by simp at hb; subst hb; omega⟩
 |a::b::g,_=>by
  obtain ⟨c,hc,hm⟩:=xL (g:=b::g) sm
  rcases Int.le_total (f a).Lo (f c).Lo with q|q
  ·refine ⟨a,sm,fun d hd=>?_⟩
   rcases List.mem_cons.1 hd with rfl|hd
   ·omega
   ·have:=hm d hd; omega
  ·refine ⟨c,cS _ hc,fun d hd=>?_⟩
   rcases List.mem_cons.1 hd with rfl|hd
   ·exact q
   ·exact hm d hd
/-- the first group is what no cut parts from the least -/
theorem q6 (hf: ∀ i∈keys,(f i).Lo≤(f i).Hi) (h:hU f keys (g::G)) {a:Int} (ha:a∈keys) (hm: ∀ b∈keys,(f a).Lo≤(f b).Lo) {b:Int} (hb:b∈keys):b∈g↔ ∀ t,(f a).Lo<t→t≤(f b).Lo→ ∃ c∈keys,(f c).Lo<t∧t≤(f c).Hi:=by
 have hk: ∀ x,x∈keys↔x∈g∨x∈G.flatten:=fun x=>by rw [← h.perm.mem_iff,List.flatten_cons,kB]
 have A:=List.pairwise_cons.1 h.apart
 have B:a∈g:=by
  rcases (hk a).1 ha with q|q
  ·exact q
  ·obtain ⟨y,hy⟩:=List.exists_mem_of_ne_nil _ (h.some_ g cf)
   obtain ⟨g',hg',hag'⟩:=List.mem_flatten.1 q
   have F:=A.1 g' hg' y hy a hag'
   have H:=hm y ((hk y).2 (.inl hy))
   have E:=hf y ((hk y).2 (.inl hy))
   omega
 constructor
 ·intro AA t F H
  obtain ⟨c,hc,E⟩:=h.tight g cf t ⟨a,B,F⟩ ⟨b,AA,H⟩
  exact ⟨c,(hk c).2 (.inl hc),E⟩
 ·intro C
  rcases (hk b).1 hb with q|q
  ·exact q
  ·exfalso
   obtain ⟨d,hd,D⟩:=xL (f:=f) (g:=G.flatten) (fun e=>by rw [e] at q; cases q)
   obtain ⟨g',hg',hdg'⟩:=List.mem_flatten.1 hd
   have F:=A.1 g' hg' a B d hdg'
   have H:=hf a ha
   have E:=D b q
   obtain ⟨c,hc,K,L⟩:=C (f d).Lo om E
   rcases (hk c).1 hc with J|J
   ·have:=A.1 g' hg' c J d hdg'; omega
   ·have:=D c J; omega
theorem vi (h:hU f keys (g::G)):hU f G.flatten G:=
 ⟨List.Perm.refl _,fun x hx=>h.some_ x (cS _ hx),(List.pairwise_cons.1 h.apart).2,fun x hx=>h.tight x (cS _ hx)⟩
theorem qF {k2:List Int} (h:hU f keys G) (p:keys.Perm k2):hU f k2 G:=⟨h.perm.trans p,h.some_,h.apart,h.tight⟩
theorem rM: ∀ {G G':List (List Int)} {keys:List Int},keys.Nodup→(∀ i∈keys,(f i).Lo≤(f i).Hi)→hU f keys G→hU f keys G'→Bp G→Bp G'→G=G'
 |[],[],keys,_,_,_,_,_,_=>rfl
 |[],g'::G',keys,_,_,h,h',_,_=>by
  exfalso
  have F:keys=[]:=List.Perm.eq_nil (by simpa using h.perm.symm)
  subst F
  have:=h'.perm.eq_nil
  simp at this
  exact h'.some_ g' cf this.1
 |g::G,[],keys,_,_,h,h',_,_=>by
  exfalso
  have F:keys=[]:=List.Perm.eq_nil (by simpa using h'.perm.symm)
  subst F
  have:=h.perm.eq_nil
  simp at this
  exact h.some_ g cf this.1
 |g::G,g'::G',keys,hn,hf,h,h',ha,ha'=>by
  have H:keys≠[]:=fun e=>by
   subst e
   have:=h.perm.eq_nil
   simp at this
   exact h.some_ g cf this.1
  obtain ⟨a,A,B⟩:=xL (f:=f) H
  have D:=h.perm.nodup_iff.2 hn
  have E:=h'.perm.nodup_iff.2 hn
  rw [List.flatten_cons,List.nodup_append] at D E
  have Aq: ∀ b∈g,b∈keys:=fun b hb=>h.perm.mem_iff.1 (by rw [List.flatten_cons]; exact List.mem_append_left _ hb)
  have C: ∀ b∈g',b∈keys:=fun b hb=>h'.perm.mem_iff.1 (by rw [List.flatten_cons]; exact List.mem_append_left _ hb)
  have e:g=g':=by
   refine rq (ha g cf) (ha' g' cf) D.1 E.1 fun b=>?_
   constructor
   ·intro hb
    exact (q6 hf h' A B (Aq b hb)).2 ((q6 hf h A B (Aq b hb)).1 hb)
   ·intro hb
    exact (q6 hf h A B (C b hb)).2 ((q6 hf h' A B (C b hb)).1 hb)
  subst e
  have p:G.flatten.Perm G'.flatten:=by
   have:=h.perm.trans h'.perm.symm
   rw [List.flatten_cons,List.flatten_cons] at this
   exact (List.perm_append_left_iff g).1 this
  rw [rM (G:=G) (G':=G') D.2.1 (fun i hi=>hf i (h.perm.mem_iff.1 (by rw [List.flatten_cons]; exact List.mem_append_right _ hi))) (vi h) (qF (vi h') p.symm) (fun x hx=>ha x (cS _ hx)) (fun x hx=>ha' x (cS _ hx))]
/-- groups, each one put in order -/
theorem uZ (h:hU f keys G):hU f keys (G.map dg)∧Bp (G.map dg):=by
 have hp: ∀ G:List (List Int),(G.map dg).flatten.Perm G.flatten:=fun G=>by
  induction G with
  |nil=>simp
  |cons g G ih=>simp only [List.map_cons,List.flatten_cons]; exact fB.append ih
 have hm: ∀ {g:List Int} {x:Int},x∈dg g↔x∈g:=fB.mem_iff
 refine ⟨⟨(hp G).trans h.perm,fun g hg=>?_,?_,fun g hg=>?_⟩,fun g hg=>?_⟩
 ·obtain ⟨y,hy,rfl⟩:=List.mem_map.1 hg
  intro e
  have:=(fB (l:=y)).symm
  rw [e] at this
  exact h.some_ y hy this.eq_nil
 ·rw [List.pairwise_map]
  exact h.apart.imp fun q a ha b hb=>q a (hm.1 ha) b (hm.1 hb)
 ·obtain ⟨y,hy,rfl⟩:=List.mem_map.1 hg
  rintro t ⟨a,ha,A⟩ ⟨b,hb,B⟩
  obtain ⟨c,hc,C⟩:=h.tight y hy t ⟨a,hm.1 ha,A⟩ ⟨b,hm.1 hb,B⟩
  exact ⟨c,hm.2 hc,C⟩
 ·obtain ⟨y,hy,rfl⟩:=List.mem_map.1 hg
  exact kU
end
/-- so far: groups, and the greatest of all -/
structure mw (f:Int→aa) (p:List Int) (G:List (List Int)) (last:Int):Prop where
 ok:hU f p G
 Qo: ∀ a∈p,(f a).Hi≤last
 at_:p=[]∧last= -1∨ ∃ a∈p,(f a).Hi=last
section
variable {f:Int→aa} {p:List Int} {G:List (List Int)} {g:List Int} {x last:Int}
theorem Gi:mw f [] [] (-1):=⟨⟨sm,fun g hg=>(by cases hg),List.Pairwise.nil,fun g hg=>by cases hg⟩,fun a ha=>(by cases ha),.inl ⟨rfl,rfl⟩⟩
theorem Hx:Lq f [x]:=by
 rintro t ⟨a,ha,A⟩ ⟨b,hb,B⟩
 simp at ha hb; subst ha hb; omega
theorem rh (h0: -1≤(f x).Hi) (h:mw f p G last):(∀ a∈p++[x],(f a).Hi≤max last (f x).Hi)∧((p++[x])=[]∧max last (f x).Hi= -1∨ ∃ a∈p++[x],(f a).Hi=max last (f x).Hi):=by
 refine ⟨fun a ha=>?_,.inr ?_⟩
 ·rcases List.mem_append.1 ha with ha|ha
  ·have:=h.Qo a ha; omega
  ·rw [bR] at ha; subst ha; omega
 ·rcases Int.le_total last (f x).Hi with q|q
  ·exact ⟨x,sm,om⟩
  ·rcases h.at_ with ⟨rfl,e⟩|⟨a,ha,e⟩
   ·exact ⟨x,sm,om⟩
   ·exact ⟨a,List.mem_append_left _ ha,om⟩
theorem MH (h0: -1≤(f x).Hi) (h:mw f p G last) (hl:last<(f x).Lo):mw f (p++[x]) (G++[[x]]) (max last (f x).Hi):=by
 have A: ∀ y∈G,∀ a∈y,a∈p:=fun y hy a ha=>h.ok.perm.mem_iff.1 (List.mem_flatten.2 ⟨y,hy,ha⟩)
 refine ⟨⟨?_,fun y hy=>?_,?_,fun y hy=>?_⟩,(rh h0 h).1,(rh h0 h).2⟩
 ·rw [List.flatten_append]
  exact h.ok.perm.append sm
 ·rcases List.mem_append.1 hy with hy|hy
  ·exact h.ok.some_ y hy
  ·rw [bR] at hy; subst hy; simp
 ·rw [List.pairwise_append]
  refine ⟨h.ok.apart,List.pairwise_singleton _ _,fun y hy z hz a ha b hb=>?_⟩
  rw [bR] at hz; subst hz
  rw [bR] at hb; subst hb
  have:=h.Qo a (A y hy a ha); omega
 ·rcases List.mem_append.1 hy with hy|hy
  ·exact h.ok.tight y hy
  ·rw [bR] at hy; subst hy; exact Hx
theorem KH (h0: -1≤(f x).Hi) (hf: ∀ i∈p,(f i).Lo≤(f i).Hi) (hx: ∀ a∈p,(f a).Lo≤(f x).Lo) (h:mw f p (G++[g]) last) (hl: ¬ last<(f x).Lo):mw f (p++[x]) (G++[g++[x]]) (max last (f x).Hi):=by
 have A: ∀ y∈G++[g],∀ a∈y,a∈p:=fun y hy a ha=>h.ok.perm.mem_iff.1 (List.mem_flatten.2 ⟨y,hy,ha⟩)
 have C:=List.pairwise_append.1 h.ok.apart
 have B:=h.ok.some_ g sm
 refine ⟨⟨?_,fun y hy=>?_,?_,fun y hy=>?_⟩,(rh h0 h).1,(rh h0 h).2⟩
 ·have:=h.ok.perm
  rw [List.flatten_append] at this ⊢
  simp only [List.flatten_cons,List.flatten_nil,List.append_nil] at this ⊢
  rw [← List.append_assoc]
  exact this.append_right _
 ·rcases List.mem_append.1 hy with hy|hy
  ·exact h.ok.some_ y (List.mem_append_left _ hy)
  ·rw [bR] at hy; subst hy; simp
 ·rw [List.pairwise_append]
  refine ⟨C.1,List.pairwise_singleton _ _,fun y hy z hz a ha b hb=>?_⟩
  rw [bR] at hz; subst hz
  rcases List.mem_append.1 hb with hb|hb
  ·exact C.2.2 y hy g sm a ha b hb
  ·rw [bR] at hb; subst hb
   obtain ⟨c,hc⟩:=List.exists_mem_of_ne_nil _ B
   have K:=C.2.2 y hy g sm a ha c hc
   have H:=hx c (A g sm c hc)
   omega
 ·rcases List.mem_append.1 hy with hy|hy
  ·exact h.ok.tight y (List.mem_append_left _ hy)
  ·rw [bR] at hy; subst hy
   rintro t ⟨a,ha,K⟩ ⟨b,hb,H⟩
   by_cases D: ∃ b∈g,t≤(f b).Lo
   ·obtain ⟨b',hb',L⟩:=D
    have AA:a∈g:=by
     rcases List.mem_append.1 ha with q|q
     ·exact q
     ·rw [bR] at q; subst q
      have:=hx b' (A g sm b' hb'); omega
    obtain ⟨c,hc,M⟩:=h.ok.tight g sm t ⟨a,AA,K⟩ ⟨b',hb',L⟩
    exact ⟨c,List.mem_append_left _ hc,M⟩
   ·have J: ∀ c∈g,(f c).Lo<t:=fun c hc=>by
     refine Classical.byContradiction fun q=>D ⟨c,hc,om⟩
    have N:t≤(f x).Lo:=by
     rcases List.mem_append.1 hb with q|q
     ·exact absurd ⟨b,q,H⟩ D
     ·rw [bR] at q; subst q; exact H
    rcases h.at_ with ⟨e,_⟩|⟨c,hc,e⟩
    ·exfalso
     obtain ⟨c,hc⟩:=List.exists_mem_of_ne_nil _ B
     have:=A g sm c hc
     rw [e] at this; cases this
    ·have E:c∈g:=by
      obtain ⟨y,hy,F⟩:=List.mem_flatten.1 (h.ok.perm.mem_iff.2 hc)
      rcases List.mem_append.1 hy with hy|hy
      ·exfalso
       obtain ⟨d,hd⟩:=List.exists_mem_of_ne_nil _ B
       have L:=C.2.2 y hy g sm c F d hd
       have M:=hf d (A g sm d hd)
       have O:=h.Qo d (A g sm d hd)
       omega
      ·rw [bR] at hy; subst hy; exact F
     exact ⟨c,List.mem_append_left _ E,J c E,om⟩
theorem Jd (h:mw f p G last) (hp:p≠[]):G≠[]:=fun e=>by
 subst e
 exact hp (by simpa using h.ok.perm.symm.eq_nil)
end
end
section
open Go.RowKit
/-- a map, or nil -/
def oC (o:Option Nat):List Value:=[Value.map o]
theorem zM {α:Type}: ∀ {ms:List α} {asl:List Nat},ms.length=asl.length→List.zipWith gG ms asl=(asl.map some).map oC
 |[],[],_=>rfl
 |[],_::_,h=>by simp at h
 |_::_,[],h=>by simp at h
 |x::ms,y::asl,h=>by simp only [List.zipWith_cons_cons,List.map_cons,zM (ms:=ms) (asl:=asl) (by simpa using h)]; rfl
/-- what stands for all but one -/
def fu {M A:Type} (f:M→A→List au) (ms:List M) (asl:List A) (k:Nat):List au:=aU f (ms.take k) (asl.take k)++aU f (ms.drop (k+1)) (asl.drop (k+1))
theorem kP {M A:Type} {f:M→A→List au}: ∀ {ms:List M} {asl:List A} {k:Nat} {m:M} {a:A},ms[k]? =some m→asl[k]? =some a→(aU f ms asl).Perm (f m a++fu f ms asl k)
 |[],_,k,m,a,h,_=>by simp at h
 |_::_,[],k,m,a,_,h=>by simp at h
 |x::ms,y::asl,0,m,a,h,h2=>by
  simp at h h2; subst h h2
  simp [fu,aU]
 |x::ms,y::asl,k+1,m,a,h,h2=>by
  have ih:=kP (f:=f) (ms:=ms) (asl:=asl) (k:=k) (by simpa using h) (by simpa using h2)
  show (f x y++aU f ms asl).Perm (f m a++fu f (x::ms) (y::asl) (k+1))
  have e:fu f (x::ms) (y::asl) (k+1)=f x y++fu f ms asl k:=by simp [fu,aU,List.append_assoc]
  rw [e]
  refine (ih.append_left (f x y)).trans ?_
  rw [← List.append_assoc,← List.append_assoc]
  exact List.perm_append_comm.append_right _
theorem HG {M A:Type} {f:M→A→List au} {ms:List M} {asl:List A} {k:Nat} {m':M}:fu f (ms.set k m') asl k=fu f ms asl k:=by
 unfold fu
 rw [List.take_set_of_le (Nat.le_refl k),List.drop_set_of_lt (Nat.lt_succ_self k)]
theorem kJ {S:BS} {w0 w:World} {C X Y:List au} (hp:X.Perm Y) (h:St S w0 (bu X::C) w):St S w0 (bu Y::C) w:=by
 have A:St S w0 (X++C) w:=h.hZ
 exact (A.perm (hp.append_right C)).tied
theorem St.out {M A:Type} {f:M→A→List au} {S:BS} {w0 w:World} {C:List au} {ms:List M} {asl:List A} {k:Nat} {m:M} {a:A} {X:au} (hm:ms[k]? =some m) (ha:asl[k]? =some a) (hf:f m a=[X]) (h:St S w0 (bu (aU f ms asl)::C) w):St S w0 (X::bu (fu f ms asl k)::C) w:=by
 have B:=(kJ (kP hm ha) h).hZ
 rw [hf] at B
 have D:St S w0 (fu f ms asl k++(X::C)) w:=B.perm (List.perm_middle (a:=X) (l₁:=fu f ms asl k) (l₂:=C)).symm
 exact D.tied.perm (List.Perm.swap _ _ _)
theorem St.back {M A:Type} {f:M→A→List au} {S:BS} {w0 w:World} {C:List au} {ms:List M} {asl:List A} {k:Nat} {m':M} {a:A} {X:au} (hk:k<ms.length) (ha:asl[k]? =some a) (hf:f m' a=[X]) (h:St S w0 (X::bu (fu f ms asl k)::C) w):St S w0 (bu (aU f (ms.set k m') asl)::C) w:=by
 have B:St S w0 (bu (fu f ms asl k)::X::C) w:=h.perm (List.Perm.swap _ _ _)
 have D:=B.hZ
 have E:St S w0 ((f m' a++fu f (ms.set k m') asl k)++C) w:=by
  rw [hf,HG]
  exact D.perm (List.perm_middle (a:=X) (l₁:=fu f ms asl k) (l₂:=C))
 exact kJ (kP (List.getElem?_set_self hk) ha).symm E.tied
section
variable {E:e_} {ops:Array Oper} {Q:cW} {rest:List Oper} {D:List Deferred} {L:List (Nat×Value)} {C C1:List au}
variable {M A:Type} {f:M→A→List au} {ms:List M} {asl:List A} {k:Nat} {m:M} {a:A} {X:au}
theorem Ff {c:Code} (i:Nat) (hm:ms[k]? =some m) (ha:asl[k]? =some a) (hf:f m a=[X]) (hn:decide (i::(List.range C.length).filter fun k=>k != i).Nodup=true) (hC:kf C (i::(List.range C.length).filter fun k=>k != i)=bu (aU f ms asl)::C1)
 (h:WJ E c Q D L (X::bu (fu f ms asl k)::C1)):WJ E c Q D L C:=fun a w hf' hs=>h a w hf' (St.out hm ha hf (St.kf _ hn hC hs))
theorem LY {K:Act→World→Prop} (i j:Nat) (hk:k<ms.length) (ha:asl[k]? =some a) (hf:f m a=[X]) (hn:decide (j::i::(List.range C.length).filter fun k=>k != i&&k != j).Nodup=true) (hC:kf C (j::i::(List.range C.length).filter fun k=>k != i&&k != j)=X::bu (fu f ms asl k)::C1)
 (h:KJ E K D L (bu (aU f (ms.set k m) asl)::C1)):KJ E K D L C:=fun a w hf' hs=>h a w hf' (St.back hk ha hf (St.kf _ hn hC hs))
end
end
section
open Go.RowKit
def lu (l:List Int) (a:RA):List Value:=[vS a.1 l.length a.2]
def Q3 (l:List Int) (a:RA):List au:=[rd a.1 l.length 1 (l.map iC)]
def p7 (l:List Int) (a:RA):List au:=[own a.1 a.2 Tj 1 (l.map iC)]
theorem Fp: ∀ (m:List Int) (a:RA) (w:World),(∀ X∈p7 m a,X.holds w)→ ∀ X∈Q3 m a,X.holds w:=fun m a w h X hX=>by
 simp only [Q3,bR] at hX
 subst hX
 have:=nx (h _ (List.mem_singleton.2 rfl))
 simpa using this
theorem IN {l:List (List Int)} {bz:List RA}:(bu (aU p7 l bz)).wr=true:=by
 show (aU p7 l bz).all (·.wr)=true
 rw [e9]
 intro X hX
 obtain ⟨k,m,a,_,_,h⟩:=jM hX
 simp only [p7,bR] at h
 subst h; rfl
theorem k6 {ls:List (List Int)} {az:List RA} (h:az.length=ls.length):(List.zipWith lu ls az).length=ls.length:=by simp [h]
theorem Oq (l:List (List Int)) (az:List RA): ∀ v∈(List.zipWith lu l az).flatten,v.oneCell'=true:=by
 induction l generalizing az with
 |nil=>intro v hv; simp at hv
 |cons x l ih=>
  cases az with
  |nil=>intro v hv; simp at hv
  |cons a az=>
   intro v hv
   rw [List.zipWith_cons_cons,List.flatten_cons,kB] at hv
   rcases hv with hv|hv
   ·simp [lu] at hv; subst hv; rfl
   ·exact ih az v hv
section
variable {M A:Type} {f:M→A→List au} {ms:List M} {asl:List A} {k:Nat} {m:M} {a:A} {X:au}
theorem sJ:fu f (ms.set k m) (asl.set k a) k=fu f ms asl k:=by
 unfold fu
 rw [List.take_set_of_le (Nat.le_refl k),List.drop_set_of_lt (Nat.lt_succ_self k),List.take_set_of_le (Nat.le_refl k),List.drop_set_of_lt (Nat.lt_succ_self k)]
theorem St.Te {S:BS} {w0 w:World} {C:List au} (hk:k<ms.length) (hk2:k<asl.length) (hf:f m a=[X]) (h:St S w0 (X::bu (fu f ms asl k)::C) w):St S w0 (bu (aU f (ms.set k m) (asl.set k a))::C) w:=by
 have A:St S w0 (bu (fu f ms asl k)::X::C) w:=h.perm (List.Perm.swap _ _ _)
 have B:=A.hZ
 have D:St S w0 ((f m a++fu f (ms.set k m) (asl.set k a) k)++C) w:=by
  rw [hf,sJ]
  exact B.perm (List.perm_middle (a:=X) (l₁:=fu f ms asl k) (l₂:=C))
 exact kJ (kP (List.getElem?_set_self hk) (List.getElem?_set_self hk2)).symm D.tied
theorem qB {β:Type} {c:M→A→β}:(List.zipWith c ms asl).set k (c m a)=List.zipWith c (ms.set k m) (asl.set k a):=by
 apply List.ext_getElem?
 intro j
 rw [List.getElem?_set]
 by_cases e:k=j
 ·subst e
  rw [if_pos rfl,List.length_zipWith,List.getElem?_zipWith,List.getElem?_set,List.getElem?_set,if_pos rfl,if_pos rfl]
  by_cases B:k<ms.length
  ·by_cases C:k<asl.length
   ·rw [if_pos om,if_pos B,if_pos C]
   ·rw [if_neg om,if_pos B,if_neg C]
  ·rw [if_neg om,if_neg B]
 ·rw [if_neg e,List.getElem?_zipWith,List.getElem?_zipWith,List.getElem?_set_ne e,List.getElem?_set_ne e]
variable {E:e_} {ops:Array Oper} {Q:cW} {rest:List Oper} {D:List Deferred} {L:List (Nat×Value)} {C C1:List au}
abbrev Bg (C:List au) (i j:Nat):List Nat:=j::i::(List.range C.length).filter fun k=>k != i&&k != j
abbrev HM (C:List au) (i:Nat):List Nat:=i::(List.range C.length).filter fun k=>k != i
theorem Gh (i j:Nat) (hk:k<ms.length) (hk2:k<asl.length) (hf:f m a=[X]) (hn:decide (Bg C i j).Nodup=true) (hC:o6 C (Bg C i j)=some (X::bu (fu f ms asl k)::C1))
 (h:RJ E ops Q rest D L (bu (aU f (ms.set k m) (asl.set k a))::C1)):RJ E ops Q rest D L C:=fun a w hf' hs=>h a w hf' (St.Te hk hk2 hf (St.kf _ hn (jz hC) hs))
theorem ED {c:Code} (i:Nat) (hm:ms[k]? =some m) (ha:asl[k]? =some a) (hf:f m a=[X]) (hn:decide (HM C i).Nodup=true) (hC:o6 C (HM C i)=some (bu (aU f ms asl)::C1))
 (h:WJ E c Q D L (X::bu (fu f ms asl k)::C1)):WJ E c Q D L C:=fun a w hf' hs=>h a w hf' (St.out hm ha hf (St.kf _ hn (jz hC) hs))
theorem N_ {K:Act→World→Prop} (i j:Nat) (hk:k<ms.length) (ha:asl[k]? =some a) (hf:f m a=[X]) (hn:decide (Bg C i j).Nodup=true) (hC:o6 C (Bg C i j)=some (X::bu (fu f ms asl k)::C1))
 (h:KJ E K D L (bu (aU f (ms.set k m) asl)::C1)):KJ E K D L C:=fun a w hf' hs=>h a w hf' (St.back hk ha hf (St.kf _ hn (jz hC) hs))
theorem Qe {Y Y':List au} (i j:Nat) (hn:decide (Bg C i j).Nodup=true) (hC:o6 C (Bg C i j)=some (X::bu Y::C1)) (e:Y++[X]=Y') (h:RJ E ops Q rest D L (bu Y'::C1)):RJ E ops Q rest D L C:=fun a w hf hs=>h a w hf ((St.kf _ hn (jz hC) hs).tie e)
theorem IH {K:Act→World→Prop} {Y Y':List au} (i j:Nat) (hn:decide (Bg C i j).Nodup=true) (hC:o6 C (Bg C i j)=some (X::bu Y::C1)) (e:Y++[X]=Y') (h:KJ E K D L (bu Y'::C1)):KJ E K D L C:=fun a w hf hs=>h a w hf ((St.kf _ hn (jz hC) hs).tie e)
end
theorem En {M A:Type} {f:M→A→List au} {ms:List M} {asl:List A} {m:M} {a:A} {X:au} (h:ms.length=asl.length) (hf:f m a=[X]):aU f ms asl++[X]=aU f (ms++[m]) (asl++[a]):=by
 rw [jS h]; simp [aU,hf]
theorem GB {M A β:Type} {f:M→A→β} {ms:List M} {asl:List A} {m:M} {a:A} (h:ms.length=asl.length):List.zipWith f ms asl++List.zipWith f [m] [a]=List.zipWith f (ms++[m]) (asl++[a]):=(List.zipWith_append h).symm
theorem lW {r:bT} {k:Nat}:((eB r k).map (·.1)).Nodup:=by
 unfold eB
 rw [List.map_filterMap]
 refine List.Pairwise.filterMap _ ?_ (List.nodup_range (n:=r.aK.length))
 intro a b A x hx y hy e
 subst e
 simp only [Option.map_map,Option.map_eq_some_iff,Function.comp] at hx hy
 obtain ⟨_,_,rfl⟩:=hx
 obtain ⟨_,_,h⟩:=hy
 exact A om
noncomputable def cP (r:bT):List (List Int):=if cr r=0 then Classical.epsilon (fun G=>hU (aB (aA r)) ((aA r).map (·.1)) G∧Bp G) else []
theorem Bq {r:bT} (h: ¬ cr r=0):cP r=[]:=if_neg h
theorem tD {r:bT} {G:List (List Int)} (he:cr r=0) (h1:hU (aB (aA r)) ((aA r).map (·.1)) G) (h2:Bp G):G=cP r:=by
 unfold cP
 rw [if_pos he]
 have A:=Classical.epsilon_spec (p:=fun G=>hU (aB (aA r)) ((aA r).map (·.1)) G∧Bp G) ⟨G,h1,h2⟩
 exact rM lW (fun i hi=>(gP (m0 he)).2.1) h1 A.1 h2 A.2
section
variable {f:Int→aa} {L:List Int} {G:List (List Int)} {g:List Int} {x last:Int} {i j:Nat}
theorem AR (h:mw f (L.take i) G last) (hg:g∈G):g.length≤L.length:=by
 have A:=h.ok.perm.length_eq
 have B:g.length≤G.flatten.length:=(List.sublist_flatten_of_mem hg).length_le
 rw [List.length_take] at A; omega
theorem Fq (h:mw f (L.take i) G last):G.length≤L.length:=by
 have A:=h.ok.perm.length_eq
 have B: ∀ G:List (List Int),(∀ g∈G,g≠[])→G.length≤G.flatten.length:=fun G=>by
  induction G with
  |nil=>intro _; simp
  |cons g G ih=>
   intro hG
   have C:=ih fun y hy=>hG y (cS _ hy)
   have D:=List.length_pos_iff.2 (hG g cf)
   simp only [List.flatten_cons,List.length_cons,List.length_append]; omega
 have C:=B G h.ok.some_
 rw [List.length_take] at A; omega
theorem pk (h0: -1≤(f x).Hi) (hx:L[i]? =some x) (hg:(G++[[]])[(G++[([]:List Int)]).length-1]? =some g) (h:mw f (L.take i) G last) (hl:last<(f x).Lo):mw f (L.take (i+1)) ((G++[[]]).set ((G++[([]:List Int)]).length-1) (g++[x])) (max last (f x).Hi):=by
 have A:(G++[([]:List Int)]).length-1=G.length:=by simp
 rw [A] at hg ⊢
 simp at hg
 subst hg
 rw [lG hx]
 have B:(G++[([]:List Int)]).set G.length ([]++[x])=G++[[x]]:=by simp
 rw [B]
 exact MH h0 h hl
theorem oi (h0: -1≤(f x).Hi) (hf: ∀ i∈L,(f i).Lo≤(f i).Hi) (hup:DM (fun u=>(f u).Lo) L) (hx:L[i]? =some x) (hg:G[G.length-1]? =some g) (h:mw f (L.take i) G last) (hl: ¬ last<(f x).Lo):mw f (L.take (i+1)) (G.set (G.length-1) (g++[x])) (max last (f x).Hi):=by
 obtain ⟨A,F⟩:=List.getElem?_eq_some_iff.1 hg
 obtain ⟨G',y,rfl⟩: ∃ G' y,G=G'++[y]:=⟨G.dropLast,G.getLast (by intro e; subst e; simp at A),(List.dropLast_concat_getLast _).symm⟩
 have D:(G'++[y]).length-1=G'.length:=by simp
 simp only [D] at hg ⊢
 simp at hg
 subst hg
 have E:(G'++[y]).set G'.length (y++[x])=G'++[y++[x]]:=by simp
 rw [lG hx,E]
 refine KH h0 (fun i hi=>hf i (List.mem_of_mem_take hi)) (fun a ha=>?_) h hl
 obtain ⟨C,B⟩:=List.getElem?_eq_some_iff.1 hx
 obtain ⟨q,hq,rfl⟩:=List.mem_iff_getElem.1 ha
 rw [List.length_take] at hq
 rw [List.getElem_take]
 have:=List.pairwise_iff_getElem.1 hup q i om C om
 rw [B] at this
 exact this
theorem F5 (hlo:0≤(f x).Lo) (h:mw f (L.take i) G last) (hl: ¬ last<(f x).Lo):1≤G.length:=by
 rcases h.at_ with ⟨_,e⟩|⟨a,ha,_⟩
 ·omega
 ·exact List.length_pos_iff.2 (Jd h (fun e=>by rw [e] at ha; cases ha))
/-- the first groups are in order -/
def nE (G:List (List Int)) (j:Nat):List (List Int):=(G.take j).map dg++G.drop j
theorem Ea (h:G.length≤j):nE G j=G.map dg:=by unfold nE; rw [List.take_of_length_le h,List.drop_eq_nil_of_le h,List.append_nil]
theorem DD:(nE G j).length=G.length:=by unfold nE; rw [List.length_append,List.length_map,List.length_take,List.length_drop]; omega
theorem GQ (h:G[j]? =some g):(nE G j)[j]? =some g:=by
 have hj:=(List.getElem?_eq_some_iff.1 h).1
 unfold nE
 rw [List.getElem?_append_right (by rw [List.length_map,List.length_take]; omega),List.length_map,List.length_take,Nat.min_eq_left om,Nat.sub_self,List.getElem?_drop]
 simpa using h
theorem DU (h:G[j]? =some g):(nE G j).set j (dg g)=nE G (j+1):=by
 have hj:=(List.getElem?_eq_some_iff.1 h).1
 unfold nE
 rw [List.set_append_right _ _ (by rw [List.length_map,List.length_take]; omega),List.length_map,List.length_take,Nat.min_eq_left om,Nat.sub_self,List.drop_eq_getElem_cons hj,List.set_cons_zero,List.take_add_one,h]
 simp
theorem Ir {gz:List RA}:List.zipWith lu (G.map dg) gz=List.zipWith lu G gz:=by
 induction G generalizing gz with
 |nil=>rfl
 |cons g G ih=>
  cases gz with
  |nil=>rfl
  |cons a gz=>simp only [List.map_cons,List.zipWith_cons_cons,ih]; simp [lu]
end
end
section
open Go.RowKit
theorem EN (l:List av) (az:List RA): ∀ v∈(List.zipWith av.cells l az).flatten,v.oneCell'=true:=by
 induction l generalizing az with
 |nil=>intro v hv; simp at hv
 |cons x l ih=>
  cases az with
  |nil=>intro v hv; simp at hv
  |cons a az=>
   intro v hv
   rw [List.zipWith_cons_cons,List.flatten_cons,kB] at hv
   rcases hv with hv|hv
   ·simp [av.cells,dk.cells] at hv
    rcases hv with rfl|rfl<;>rfl
   ·exact ih az v hv
theorem gE {l:List av} {az:List RA} (h:az.length=l.length):(List.zipWith av.cells l az).length=l.length:=by simp [h]
theorem gi {l:List av} {bz:List RA}:(bu (aU av.owns l bz)).wr=true:=by
 show (aU av.owns l bz).all (·.wr)=true
 rw [e9]
 intro X hX
 obtain ⟨k,m,a,_,_,h⟩:=jM hX
 simp only [av.owns,bR] at h
 subst h; rfl
/-- what is known of new rows -/
def rN (l:List av) (bz:List RA):Prop:= ∀ (k:Nat) m (a:RA),l[k]? =some m→bz[k]? =some a→m.br.length≤a.2
theorem I6 {l:List av} {bz:List RA} {i:Nat} {x:av} {nw:RA} (h:rN l bz) (hb:bz.length=i) (hx:l[i]? =some x) (hc:x.br.length≤nw.2):rN l (bz++[nw]):=fun k m a hm ha=>by
 by_cases e:k<bz.length
 ·rw [List.getElem?_append_left e] at ha
  exact h k m a hm ha
 ·rw [List.getElem?_append_right om] at ha
  have hk:k-bz.length=0:=by
   rcases Nat.eq_zero_or_pos (k-bz.length) with A|A
   ·exact A
   ·rw [List.getElem?_eq_none (by simp; omega)] at ha; cases ha
  rw [hk] at ha
  simp at ha
  have:k=i:=by omega
  subst this
  rw [hx] at hm; cases hm
  subst ha; exact hc
theorem gZ: ∀ (m:av) (a:RA) (w:World),(∀ X∈av.owns m a,X.holds w)→ ∀ X∈av.g0 m a,X.holds w:=fun m a w h X hX=>by
 simp only [av.g0,bR] at hX
 subst hX
 have:=nx (h _ (List.mem_singleton.2 rfl))
 simpa using this
theorem eu.PM {l:aX} {az bz:List RA} (h:eu l az) (hb:bz.length=l.aj.length) (hc:rN l.aj bz):eu l bz:=⟨h.sM,h.side,h.sO,hb,h.sN,fun k m a hm ha=>⟨hc k m a hm ha,by
 obtain ⟨A,B⟩: ∃ A,az[k]? =some A:=⟨az[k]'(by rw [h.oq]; exact (List.getElem?_eq_some_iff.1 hm).1),e8 _⟩
 exact (h.QZ k m A hm B).2⟩⟩
section
variable {E:e_} {ops:Array Oper} {Q:cW} {rest:List Oper} {D:List Deferred} {L:List (Nat×Value)} {C:List au}
end
end
section
open Go.RowKit
def oj (m:aw) (a:RA):List au:=[own a.1 a.2 OV 2 (m.ct.ah.map aM.cells)]
def iA (m:List aw) (a:cM):List au:=own a.1.1 a.1.2 CS 7 (List.zipWith aw.cells m a.2)::aU oj m a.2
theorem PE: ∀ (m:aw) (a:RA) (w:World),(∀ X∈oj m a,X.holds w)→ ∀ X∈aw.g0 m a,X.holds w:=fun m a w h X hX=>by
 simp only [aw.g0,bR] at hX
 subst hX
 have:=nx (h _ (List.mem_singleton.2 rfl))
 simpa using this
theorem qu {m:List aw} {asl:List RA} (h:asl.length=m.length):(List.zipWith aw.cells m asl).length=m.length:=by simp [h]
theorem eL {m:List (List aw)} {asl:List cM} (h:asl.length=m.length):(List.zipWith cJ m asl).length=m.length:=by simp [h]
theorem NY {m:List aw} {asl:List RA}:(aU oj m asl).all (·.wr)=true:=by
 rw [e9]
 intro X hX
 obtain ⟨k,d,a,_,_,h⟩:=jM hX
 simp only [oj,bR] at h
 subst h; rfl
theorem kj {m:List (List aw)} {asl:List cM}:(bu (aU iA m asl)).wr=true:=by
 show (aU iA m asl).all (·.wr)=true
 rw [e9]
 intro X hX
 obtain ⟨k,d,a,_,_,h⟩:=jM hX
 rcases List.mem_cons.1 h with rfl|h
 ·rfl
 ·exact List.all_eq_true.1 NY X h
theorem M5 (l:List aw) (az:List RA): ∀ v∈(List.zipWith aw.cells l az).flatten,v.oneCell'=true:=by
 induction l generalizing az with
 |nil=>intro v hv; simp at hv
 |cons x l ih=>
  cases az with
  |nil=>intro v hv; simp at hv
  |cons a az=>
   intro v hv
   rw [List.zipWith_cons_cons,List.flatten_cons,kB] at hv
   rcases hv with hv|hv
   ·simp [aw.cells,bq.cells,eH.cells,aa.cells] at hv
    rcases hv with rfl|rfl|rfl|rfl|rfl|rfl|rfl<;>rfl
   ·exact ih az v hv
theorem G1 (l:List (List aw)) (az:List cM): ∀ v∈(List.zipWith cJ l az).flatten,v.oneCell'=true:=by
 induction l generalizing az with
 |nil=>intro v hv; simp at hv
 |cons x l ih=>
  cases az with
  |nil=>intro v hv; simp at hv
  |cons a az=>
   intro v hv
   rw [List.zipWith_cons_cons,List.flatten_cons,kB] at hv
   rcases hv with hv|hv
   ·simp [cJ] at hv; subst hv; rfl
   ·exact ih az v hv
/-- every heat has as many places as descents -/
def tI (H:List (List aw)) (hz:List cM):Prop:=hz.length=H.length∧ ∀ (k:Nat) h (a:cM),H[k]? =some h→hz[k]? =some a→a.2.length=h.length
theorem OB {a:OA} {c e sz n:Nat} {es:List (List Value)} {w:World} (h:(own a c e sz es).holds w) (hn:es.length=n):(rd a n sz es).holds w:=by subst hn; exact nx h
theorem gr {C:List au} {H:List (List aw)} {hz:List cM} (i:Nat) (hC:C[i]? =some (bu (aU iA H hz))) (hh:tI H hz):i_ C (e7 (aU im H hz)).holds:=fun w hw X hX=>by
 have hb:=hw _ (aT hC)
 obtain ⟨k,m,a,A,B,D⟩:=jM hX
 rcases List.mem_cons.1 D with rfl|D
 ·exact OB (hb.1 _ (bW A B cf)) (qu (hh.2 k m a A B))
 ·obtain ⟨q,d,b,E,F,G⟩:=jM D
  exact PE d b w (fun Y hY=>hb.1 Y (bW A B (cS _ (bW E F hY)))) X G
section
variable {α:Type}
def kg (bz az:List α) (i:Nat):List α:=bz++az.drop i
variable {bz az:List α} {i:Nat} {a b:α}
theorem iG (hb:bz.length=i) (hi:i≤az.length):(kg bz az i).length=az.length:=by simp [kg,hb]; omega
theorem xE (h:az.length≤i):kg bz az i=bz:=by unfold kg; rw [List.drop_eq_nil_of_le h,List.append_nil]
theorem Am (hb:bz.length=i) (h:az[i]? =some a):(kg bz az i)[i]? =some a:=by
 unfold kg
 rw [List.getElem?_append_right om,hb,Nat.sub_self,List.getElem?_drop]
 simpa using h
theorem LH (hb:bz.length=i):(kg (bz++[b]) az (i+1))[i]? =some b:=by
 unfold kg
 rw [List.getElem?_append_left (by simp; omega),List.getElem?_append_right om,hb,Nat.sub_self]; rfl
theorem Kt (hb:bz.length=i) (h:az[i]? =some a):(kg bz az i).set i b=kg (bz++[b]) az (i+1):=by
 unfold kg
 have hi:=(List.getElem?_eq_some_iff.1 h).1
 rw [List.set_append_right _ _ om,hb,Nat.sub_self,List.drop_eq_getElem_cons hi,List.set_cons_zero]
 simp
theorem xK {M β:Type} {c:M→α→β} {l:List M} {x:M} (hx:l[i]? =some x) (hb:bz.length=i) (h:az[i]? =some a):(List.zipWith c l (kg bz az i)).set i (c x b)=List.zipWith c l (kg (bz++[b]) az (i+1)):=by
 rw [qB,Kt hb h]
 congr 1
 obtain ⟨hi,rfl⟩:=List.getElem?_eq_some_iff.1 hx
 exact List.set_getElem_self hi
theorem si {M:Type} {f:M→α→List au} {l:List M} {x:M} (hx:l[i]? =some x) (hb:bz.length=i):aU f (l.take i) bz++f x b=aU f (l.take (i+1)) (bz++[b]):=by
 have hi:=(List.getElem?_eq_some_iff.1 hx).1
 rw [List.take_add_one,hx,Option.toList_some,jS (by rw [List.length_take,hb]; omega)]
 simp [aU]
end
theorem Bh: ∀ {l:List (List aw)} {u v:List cM},u.map (·.1)=v.map (·.1)→List.zipWith cJ l u=List.zipWith cJ l v
 |[],u,v,_=>by simp
 |x::l,[],[],_=>rfl
 |x::l,[],b::v,h=>by simp at h
 |x::l,a::u,[],h=>by simp at h
 |x::l,a::u,b::v,h=>by
  simp only [List.map_cons,List.cons.injEq] at h
  rw [List.zipWith_cons_cons,List.zipWith_cons_cons,Bh h.2]
  have e:cJ x a=cJ x b:=by simp only [cJ,h.1]
  rw [e]
theorem Ku {l:List (List aw)} {hz ha:List cM} {p:RA} {x y:List RA} {i:Nat}:List.zipWith cJ l (kg (hz++[(p,x)]) ha i)=List.zipWith cJ l (kg (hz++[(p,y)]) ha i):=Bh (by simp [kg])
theorem MO {H:List (List aw)} {hz:List cM} {i:Nat} {x:List aw} {b:cM} (hx:H[i]? =some x) (h: ∀ (k:Nat) y (a:cM),H[k]? =some y→hz[k]? =some a→a.2.length=y.length) (hb:hz.length=i) (hl:b.2.length=x.length): ∀ (k:Nat) y (a:cM),H[k]? =some y→(hz++[b])[k]? =some a→a.2.length=y.length:=fun k y a hy ha=>by
 by_cases e:k<hz.length
 ·rw [List.getElem?_append_left e] at ha
  exact h k y a hy ha
 ·rw [List.getElem?_append_right om] at ha
  have hk:k-hz.length=0:=by
   rcases Nat.eq_zero_or_pos (k-hz.length) with A|A
   ·exact A
   ·rw [List.getElem?_eq_none (by simp; omega)] at ha; cases ha
  rw [hk] at ha
  simp at ha
  have:k=i:=by omega
  subst this
  rw [hx] at hy; cases hy
  subst ha; exact hl
theorem Gj {S:BS} {w0 w:World} {C:List au} {A:au} {Y Z:List au} (h:St S w0 (A::bu Y::bu Z::C) w):St S w0 (bu (Z++A::Y)::C) w:=by
 have D:St S w0 (bu Y::A::bu Z::C) w:=h.perm (List.Perm.swap _ _ _)
 have E:St S w0 (Y++(A::bu Z::C)) w:=D.hZ
 have F:St S w0 (bu Z::(A::Y)++C) w:=E.perm (by
  have B:(Y++(A::bu Z::C)).Perm ((A::bu Z::C)++Y):=List.perm_append_comm
  refine B.trans ?_
  show (A::bu Z::(C++Y)).Perm (bu Z::A::(Y++C))
  exact (List.Perm.swap _ _ _).trans (((List.perm_append_comm (l₁:=C) (l₂:=Y)).cons A).cons _))
 have G:St S w0 (Z++((A::Y)++C)) w:=F.hZ
 have H:St S w0 ((Z++A::Y)++C) w:=by simpa using G
 exact H.tied
theorem Gz {S:BS} {w0 w:World} {C:List au} {A:au} {Y Z:List au} (h:St S w0 (bu (A::Y++Z)::C) w):St S w0 (A::bu Y::bu Z::C) w:=by
 have D:St S w0 ((A::Y++Z)++C) w:=h.hZ
 have E:St S w0 (Z++(A::(Y++C))) w:=D.perm (by
  show (A::(Y++Z)++C).Perm (Z++(A::(Y++C)))
  have B:(A::(Y++Z)++C).Perm (A::(Z++(Y++C))):=by
   show (A::((Y++Z)++C)).Perm _
   refine List.Perm.cons A ?_
   rw [← List.append_assoc]
   exact List.perm_append_comm.append_right C
  exact B.trans (List.perm_middle (a:=A) (l₁:=Z) (l₂:=Y++C)).symm)
 have F:=E.tied
 have G:St S w0 (Y++(A::bu Z::C)) w:=F.perm (by
  show (bu Z::A::(Y++C)).Perm (Y++(A::bu Z::C))
  have B:(Y++(A::bu Z::C)).Perm (A::bu Z::(Y++C)):=by
   have:=List.perm_append_comm (l₁:=Y) (l₂:=A::bu Z::C)
   refine this.trans ?_
   show (A::bu Z::(C++Y)).Perm _
   exact (List.perm_append_comm.cons _).cons _
  exact (B.trans (List.Perm.swap _ _ _)).symm)
 have H:=G.tied
 exact H.perm (List.Perm.swap _ _ _)
theorem xo {H:List (List aw)} {hz:List cM} {k:Nat} {h:List aw} {a:cM} (hh:H[k]? =some h) (ha:hz[k]? =some a):(aU iA H hz).Perm (own a.1.1 a.1.2 CS 7 (List.zipWith aw.cells h a.2)::aU oj h a.2++fu iA H hz k):=kP hh ha
theorem PD {E:e_} {K:Act→World→Prop} {D:List Deferred} {L:List (Nat×Value)} {C:List au} {a:OA} {c e sz:Nat} {es:List (List Value)} (i:Nat) (hC:C[i]? =some (own a c e sz es)) (k:es.length≤c→KJ E K D L C):KJ E K D L C:=fun act w hf hs=>k (Fv (hs.holds _ (aT hC))) act w hf hs
abbrev ND (C:List au) (i j k:Nat):List Nat:=k::j::i::(List.range C.length).filter fun q=>q != i&&q != j&&q != k
section
variable {E:e_} {ops:Array Oper} {Q:cW} {rest:List Oper} {D:List Deferred} {L:List (Nat×Value)} {C C1:List au} {K:Act→World→Prop}
variable {H:List (List aw)} {hz:List cM} {h h':List aw} {a a':cM} {k:Nat} {X:au} {Y Z Z':List au}
/-- i: the others, j: what hangs on the row, q: the row -/
theorem Px (i j q:Nat) (hn:decide (ND C i j q).Nodup=true) (hC:o6 C (ND C i j q)=some (X::bu Y::bu Z::C1)) (e:Z++X::Y=Z') (hk:KJ E K D L (bu Z'::C1)):KJ E K D L C:=fun a w hf hs=>by
 subst e; exact hk a w hf (Gj (St.kf _ hn (jz hC) hs))
theorem P3 {c:Code} (i:Nat) (hh:H[k]? =some h) (ha:hz[k]? =some a) (hn:decide (HM C i).Nodup=true) (hC:o6 C (HM C i)=some (bu (aU iA H hz)::C1))
 (hk:WJ E c Q D L (own a.1.1 a.1.2 CS 7 (List.zipWith aw.cells h a.2)::bu (aU oj h a.2)::bu (fu iA H hz k)::C1)):WJ E c Q D L C:=fun act w hf hs=>
 hk act w hf (Gz (kJ (xo hh ha) (St.kf _ hn (jz hC) hs)))
theorem Mb {S:BS} {w0 w:World} (hk:k<H.length) (hk2:k<hz.length) (hs:St S w0 (own a'.1.1 a'.1.2 CS 7 (List.zipWith aw.cells h' a'.2)::bu (aU oj h' a'.2)::bu (fu iA H hz k)::C) w):St S w0 (bu (aU iA (H.set k h') (hz.set k a'))::C) w:=by
 have B:=Gj hs
 refine kJ ?_ B
 have A:=xo (H:=H.set k h') (hz:=hz.set k a') (List.getElem?_set_self hk) (List.getElem?_set_self hk2)
 rw [sJ] at A
 exact (List.perm_append_comm).trans A.symm
end
theorem Hv {H:List (List aw)} {hz:List cM} {k:Nat} {h h':List aw} {a:cM} {bs:List RA} (hh:H[k]? =some h) (ha:hz[k]? =some a) (hl:h'.length=h.length):List.zipWith cJ (H.set k h') (hz.set k (a.1,bs))=List.zipWith cJ H hz:=by
 rw [← qB]
 have e:cJ h' (a.1,bs)=cJ h a:=by simp only [cJ,hl]
 rw [e]
 have hz':=dM (f:=cJ) hh ha
 obtain ⟨hi,A⟩:=List.getElem?_eq_some_iff.1 hz'
 rw [← A]
 exact List.set_getElem_self hi
theorem MQ {S:BS} {w0 w:World} {C:List au} {h:List aw} {bs:List RA} {i:Nat} {d:aw} {b:RA} {d':aw} (hd:h[i]? =some d) (hb:bs[i]? =some b) (hs':d'.ct.ah=[]) (hs:St S w0 (bu (aU oj h bs)::C) w):St S w0 (bu (aU oj (h.set i d') (bs.set i (none,0)))::C) w:=by
 have A:=(kJ (kP hd hb) hs).hZ
 have B:St S w0 (fu oj h bs i++C) w:=St.take (by simpa using A) (List.sublist_append_right (oj d b) (fu oj h bs i++C))
 have D:=B.qZ OV 2
 have E:St S w0 ((oj d' (none,0)++fu oj (h.set i d') (bs.set i (none,0)) i)++C) w:=by
  rw [sJ]
  simpa [oj,hs'] using D
 exact kJ (kP (List.getElem?_set_self (List.getElem?_eq_some_iff.1 hd).1) (List.getElem?_set_self (List.getElem?_eq_some_iff.1 hb).1)).symm E.tied
theorem eW.PM {r:bT} {az bz:List RA} {ha hz:List cM} (h:eW r az ha) (hb:bz.length=r.an.aj.length) (hc:rN r.an.aj bz) (hh:tI r.ar hz):eW r bz hz:=⟨h.line.PM hb hc,h.iM,h.draw,h.iN,hh.1,fun k x a hx ha'=>by
 obtain ⟨A,C⟩: ∃ A,ha[k]? =some A:=⟨ha[k]'(by rw [h.has]; exact (List.getElem?_eq_some_iff.1 hx).1),e8 _⟩
 have B:=h.lq k x A hx C
 exact ⟨B.len,hh.2 k x a hx ha',B.sig⟩⟩
end
section
open Go.RowKit
def j9 (t:aa):aw:=⟨false,true,t,⟨0,0,[]⟩⟩
def fz (H:List (List aw)) (h i:Int) (t:aa):List (List aw):=H.set h.toNat ((H[h.toNat]?.getD []).set i.toNat (j9 t))
def gM (r:bT) (h i:Int) (t:aa):bT:=⟨r.an,r.aK,r.bL,r.ik,fz r.ar h i t⟩
@[simp] theorem Q6 {r:bT} {h i:Int} {t:aa}:(gM r h i t).an=r.an:=rfl
@[simp] theorem PQ {r:bT} {h i:Int} {t:aa}:(gM r h i t).aK=r.aK:=rfl
@[simp] theorem Q7 {r:bT} {h i:Int} {t:aa}:(gM r h i t).bL=r.bL:=rfl
theorem xQ {m:gF} {i:Int} {s:aa}:(dq m i s).length≤m.length:=by
 unfold dq
 refine Nat.le_trans (List.length_filter_le _ _) ?_
 rw [List.length_map,List.length_range]; exact Nat.le_refl _
noncomputable def p6 (r:bT) (h i:Int) (t:aa):Int:=if ((0≤h∧h≤(r.ar.length:Int)-1)∧mZ r i)∧iv t then (if ((r.ar[h.toNat]?).bind (·[i.toNat]?)).any (·.Out)=true then 8 else 0) else 2
noncomputable def fJ (r:bT) (h i:Int) (t:aa):Int:=if cr r=0 then p6 r h i t else cr r
noncomputable def ek (r:bT) (h i:Int) (t:aa):List Int:=if fJ r h i t=0 then (dg ((aA r).map (·.1))).filter (fun k=> !decide (dq (aA r) k (aB (aA r) k)=dq (aA (gM r h i t)) k (aB (aA (gM r h i t)) k))) else []
section
variable {r:bT} {h i:Int} {t:aa} {ht:List aw} {d:aw}
theorem vR {H:List (List aw)} (hh:H[h.toNat]? =some ht):fz H h i t=H.set h.toNat (ht.set i.toNat (j9 t)):=by unfold fz; rw [hh]; rfl
theorem iF {H:List (List aw)}:(fz H h i t).length=H.length:=by unfold fz; rw [List.length_set]
theorem l7 (q: ¬ (((0≤h∧h≤(r.ar.length:Int)-1)∧0≤i∧i≤(r.aK.length:Int)-1)∧iv t)):p6 r h i t=2:=if_neg q
theorem FW (q:((0≤h∧h≤(r.ar.length:Int)-1)∧0≤i∧i≤(r.aK.length:Int)-1)∧iv t) (h1:r.ar[h.toNat]? =some ht) (h2:ht[i.toNat]? =some d):p6 r h i t=if d.Out=true then 8 else 0:=by
 unfold p6
 rw [if_pos (show ((0≤h∧h≤(r.ar.length:Int)-1)∧mZ r i)∧iv t from q),h1,Option.bind_some,h2,Option.any_some]
theorem tf (q:((0≤h∧h≤(r.ar.length:Int)-1)∧0≤i∧i≤(r.aK.length:Int)-1)∧iv t) (h1:r.ar[h.toNat]? =some ht) (h2:ht[i.toNat]? =some d) (ho:d.Out=true):p6 r h i t=8:=by rw [FW q h1 h2,if_pos ho]
theorem M4 (q:((0≤h∧h≤(r.ar.length:Int)-1)∧0≤i∧i≤(r.aK.length:Int)-1)∧iv t) (h1:r.ar[h.toNat]? =some ht) (h2:ht[i.toNat]? =some d) (ho:d.Out=false):p6 r h i t=0:=by rw [FW q h1 h2,if_neg (by rw [ho]; decide)]
/-- what it means that there is no error -/
theorem uq (e:p6 r h i t=0):((0≤h∧h≤(r.ar.length:Int)-1)∧mZ r i)∧iv t∧((r.ar[h.toNat]?).bind (·[i.toNat]?)).any (·.Out)=false:=by
 unfold p6 at e
 split at e
 ·rename_i q
  split at e
  ·cases e
  ·rename_i A; exact ⟨q.1,q.2,by simpa using A⟩
 ·cases e
theorem qc (e:fJ r h i t=0):cr r=0∧p6 r h i t=0:=by
 unfold fJ at e
 split at e
 ·exact ⟨asm,e⟩
 ·exact absurd e asm
theorem r_ (e: ¬ cr r=0):fJ r h i t=cr r:=if_neg e
theorem oV (e:cr r=0):fJ r h i t=p6 r h i t:=if_pos e
theorem C_ {H:List (List aw)} {k:Nat} {y:List aw} (hy:(fz H h i t)[k]? =some y): ∃ x,H[k]? =some x∧y.length=x.length∧ ∀ d∈y,d∈x∨d=j9 t:=by
 unfold fz at hy
 rw [List.getElem?_set] at hy
 split at hy
 ·rename_i e
  split at hy
  ·rename_i hl
   have A:H[h.toNat]? =some H[h.toNat]:=e8 hl
   rw [A] at hy
   simp only [Option.getD_some,Option.some.injEq] at hy
   subst hy
   refine ⟨H[h.toNat],by rw [← e]; exact A,by rw [List.length_set],fun d hd=>?_⟩
   exact List.mem_or_eq_of_mem_set hd
  ·cases hy
 ·exact ⟨y,hy,U,fun d hd=> .inl hd⟩
theorem D1 (hr:eV r) (ht:iv t):eV (gM r h i t):=⟨hr.num,hr.wR,by
 have:=hr.nh
 show 1≤((fz r.ar h i t).length:Int)∧((fz r.ar h i t).length:Int)≤3
 rw [iF]; exact this,hr.ids,hr.draw,fun y hy=>by
 obtain ⟨k,hk⟩:=List.mem_iff_getElem?.1 hy
 obtain ⟨x,hx,hl,hm⟩:=C_ hk
 have A:=hr.lq x (aT hx)
 refine ⟨hl.trans A.1,fun d hd=>?_⟩
 rcases hm d hd with q|rfl
 ·exact A.2 d q
 ·unfold g7
  rw [if_neg (by simp [j9]),if_pos (by rfl)]
  exact ⟨ht,by simp [mj,j9]⟩⟩
theorem rp (e:fJ r h i t=0):cr (gM r h i t)=0:=by
 obtain ⟨A,B⟩:=qc e
 obtain ⟨C,D⟩:=ib A
 unfold cr
 rw [if_pos (show dp (gM r h i t).an=0 from C),if_pos (D1 D (uq B).2.1)]
theorem eW.rep {az bz:List RA} {ha hz:List cM} (hin:eW r az ha) (hb:bz.length=r.an.aj.length) (hc:rN r.an.aj bz) (hh:tI (fz r.ar h i t) hz):eW (gM r h i t) bz hz:=⟨hin.line.PM hb hc,hin.iM,hin.draw,by
 show (fz r.ar h i t).length≤1000000
 rw [iF]; exact hin.iN,hh.1,fun k y a hy ha'=>by
 obtain ⟨x,hx,hl,hm⟩:=C_ hy
 obtain ⟨b,hb⟩: ∃ b,ha[k]? =some b:=⟨ha[k]'(by rw [hin.has]; exact (List.getElem?_eq_some_iff.1 hx).1),e8 _⟩
 have A:=hin.lq k x b hx hb
 refine ⟨by rw [hl]; exact A.len,hh.2 k y a hy ha',fun d hd=>?_⟩
 rcases hm d hd with q|rfl
 ·exact A.sig d q
 ·simp [j9]⟩
theorem xG {H:List (List aw)} {k q:Nat}:((fz H h i t)[k]?).bind (·[q]?)=(H[k]?).bind (·[q]?)∨(k=h.toNat∧q=i.toNat∧(∃ d,(H[k]?).bind (·[q]?)=some d)∧((fz H h i t)[k]?).bind (·[q]?)=some (j9 t)):=by
 by_cases e:h.toNat=k
 ·cases hk:H[k]? with
  |none=>
   left
   have:(fz H h i t)[k]? =none:=by rw [List.getElem?_eq_none_iff,iF]; exact List.getElem?_eq_none_iff.1 hk
   rw [this]
  |some x=>
   have B:(fz H h i t)[k]? =some (x.set i.toNat (j9 t)):=by
    subst e
    rw [vR hk]
    exact List.getElem?_set_self (List.getElem?_eq_some_iff.1 hk).1
   rw [B,Option.bind_some,Option.bind_some]
   by_cases A:i.toNat=q
   ·cases hq:x[q]? with
    |none=>
     left
     rw [List.getElem?_eq_none_iff,List.length_set]; exact List.getElem?_eq_none_iff.1 hq
    |some d=>
     right
     subst A
     exact ⟨e.symm,U,⟨d,U⟩,List.getElem?_set_self (List.getElem?_eq_some_iff.1 hq).1⟩
   ·left; rw [List.getElem?_set_ne A]
 ·left
  unfold fz
  rw [List.getElem?_set_ne e]
theorem zg {l:aX} {H:List (List aw)} {q:Nat} (ho:((H[h.toNat]?).bind (·[i.toNat]?)).any (·.Out)=false): ∀ n,(eN l (fz H h i t) q n).isSome=(eN l H q n).isSome
 |0=>rfl
 |n+1=>by
  have ih:=zg (l:=l) (q:=q) ho n
  unfold eN
  rcases xG (H:=H) (h:=h) (i:=i) (t:=t) (k:=n) (q:=q) with e|⟨rfl,rfl,⟨d,hd⟩,e⟩
  ·rw [e]
   cases e1:eN l (fz H h i t) q n<;>cases e2:eN l H q n<;>simp_all
   cases (H[n]?).bind (·[q]?) with
   |none=>rfl
   |some d=>by_cases c:d.Out=true<;>simp [c]
  ·rw [e,hd]
   have A:d.Out=false:=by rw [hd] at ho; simpa using ho
   cases e1:eN l (fz H h i t) i.toNat h.toNat<;>cases e2:eN l H i.toNat h.toNat<;>simp_all [j9]
theorem Jh {r:bT} {k:Nat} {x:Int}:(eB r k).lookup x=if 0≤x∧x<(r.aK.length:Int) then eN r.an r.ar x.toNat k else none:=by
 by_cases c:0≤x∧x<(r.aK.length:Int)
 ·rw [if_pos c]
  have:=o0 (f:=fun q=>eN r.an r.ar q k) r.aK.length x.toNat
  rw [if_pos om,show (x.toNat:Int)=x by omega] at this
  exact this
 ·rw [if_neg c]
  cases e:(eB r k).lookup x with
  |none=>rfl
  |some v=>
   exfalso
   obtain ⟨q,hq,A,_⟩:=oJ ((w7 lW).2 e)
   simp only at A
   omega
theorem JH (e:p6 r h i t=0) (k:Int):((aA (gM r h i t)).lookup k).isSome=((aA r).lookup k).isSome:=by
 obtain ⟨_,_,ho⟩:=uq e
 unfold aA
 rw [Jh,Jh]
 show (if 0≤k∧k<(r.aK.length:Int) then eN r.an (fz r.ar h i t) k.toNat (fz r.ar h i t).length else none).isSome=_
 rw [iF]
 split
 ·exact zg ho _
 ·rfl
theorem Bv {m:gF} {k:Int} (h:k∈dg (m.map (·.1))):m.lookup k≠none:=by
 obtain ⟨p,hp,rfl⟩:=List.mem_map.1 (fB.mem_iff.1 h)
 intro e
 exact absurd (List.lookup_eq_none_iff.1 e p hp) sm
theorem PL {hz:List cM} {hza:cM} (hh:tI r.ar hz) (h1:r.ar[h.toNat]? =some ht) (h2:hz[h.toNat]? =some hza):tI (fz r.ar h i t) (hz.set h.toNat (hza.1,hza.2.set i.toNat (none,0))):=by
 refine ⟨by rw [List.length_set,iF]; exact hh.1,fun k y a hy ha=>?_⟩
 rw [vR h1] at hy
 rw [List.getElem?_set] at hy ha
 by_cases e:h.toNat=k
 ·rw [if_pos e,if_pos (List.getElem?_eq_some_iff.1 h1).1] at hy
  rw [if_pos e,if_pos (List.getElem?_eq_some_iff.1 h2).1] at ha
  cases hy; cases ha
  simp only [List.length_set]
  exact hh.2 _ _ _ h1 h2
 ·rw [if_neg e] at hy ha
  exact hh.2 k y a hy ha
theorem wP (e: ¬ fJ r h i t=0):ek r h i t=[]:=if_neg e
theorem D9 (e:fJ r h i t=0):ek r h i t=(dg ((aA r).map (·.1))).filter (fun k=> !decide (dq (aA r) k (aB (aA r) k)=dq (aA (gM r h i t)) k (aB (aA (gM r h i t)) k))):=if_pos e
end
section
variable {E:e_} {Q:cW} {D:List Deferred} {L:List (Nat×Value)} {C C1:List au} {c:Code}
variable {H:List (List aw)} {hz:List cM} {h h':List aw} {a a':cM} {k:Nat} {bs:List RA} {i:Nat} {d d':aw} {b:RA}
theorem PF (j:Nat) (hd:h[i]? =some d) (hb:bs[i]? =some b) (hs':d'.ct.ah=[]) (hn:decide (HM C j).Nodup=true) (hC:o6 C (HM C j)=some (bu (aU oj h bs)::C1))
 (hk:WJ E c Q D L (bu (aU oj (h.set i d') (bs.set i (none,0)))::C1)):WJ E c Q D L C:=fun act w hf hs=>hk act w hf (MQ hd hb hs' (St.kf _ hn (jz hC) hs))
theorem NB (i j q:Nat) (hk:k<H.length) (hk2:k<hz.length) (hn:decide (ND C i j q).Nodup=true) (hC:o6 C (ND C i j q)=some (own a'.1.1 a'.1.2 CS 7 (List.zipWith aw.cells h' a'.2)::bu (aU oj h' a'.2)::bu (fu iA H hz k)::C1))
 (hr:WJ E c Q D L (bu (aU iA (H.set k h') (hz.set k a'))::C1)):WJ E c Q D L C:=fun act w hf hs=>hr act w hf (Mb hk hk2 (St.kf _ hn (jz hC) hs))
end
end
section
set_option maxRecDepth 20000
def Bc (x y:Int):aw:=j9 ⟨x,y⟩
def aH:bT:=⟨mN,[4,7,9],[2,0,1],2,[[⟨false,false,dv,mD⟩,Bc 2600 2600,Bc 2580 2609],[Bc 2555 2559,Bc 2540 2549,Bc 2570 2575]]⟩
theorem zR {l:aX} {x y:Int} (h:iv ⟨x,y⟩):g7 l (Bc x y):=by rw [tW ⟨rfl,rfl⟩]; exact ⟨h,rfl,rfl,rfl⟩
theorem Qk:eV aH:=by
 refine ⟨dc,dc,dc,fun i x hx=>?_,dc,fun h hh=>?_⟩
 ·match i with
  |0=>simp [aH] at hx; subst hx; exact ⟨dc,fun y h=>absurd h dc⟩
  |1=>simp [aH] at hx; subst hx; exact ⟨dc,fun y _ h=>by simp [aH] at h; omega⟩
  |2=>simp [aH] at hx; subst hx; exact ⟨dc,fun y _ h=>by simp [aH] at h; omega⟩
  |n+3=>simp [aH] at hx
 ·simp only [aH,ed,List.not_mem_nil,or_false] at hh
  rcases hh with rfl|rfl
  ·refine ⟨U,fun d hd=>?_⟩
   simp only [ed,List.not_mem_nil,or_false] at hd
   rcases hd with rfl|rfl|rfl
   ·rw [tF ⟨rfl,rfl⟩]; exact ⟨Dy.1,rfl⟩
   ·exact zR dc
   ·exact zR dc
  ·refine ⟨U,fun d hd=>?_⟩
   simp only [ed,List.not_mem_nil,or_false] at hd
   rcases hd with rfl|rfl|rfl<;>exact zR dc
theorem ql:cr aH=0:=by unfold cr; rw [if_pos (show dp aH.an=0 from O7),if_pos Qk]
theorem Pq:jA aH 0 0=0∧dA aH 0 0=⟨2596,2602⟩:=by
 have h:jA aH 0 0=0:=by unfold jA; rw [if_pos ql]; decide
 refine ⟨h,?_⟩
 unfold dA
 rw [if_pos h]
 show df mN ⟨false,false,dv,mD⟩=_
 rw [v7 ⟨rfl,rfl⟩]; exact Dy.2
/-- the sums of a race of three sleds and two heats, all of which run -/
theorem Lr {l:aX} {ids dr:List Int} {t:Int} {H:List (List aw)} {a b c d e f:aw} (hH:H=[[a,b,c],[d,e,f]]) (hi:ids.length=3) (hoa: ∀ x∈[a,b,c,d,e,f],x.Out=false):
 aA ⟨l,ids,dr,t,H⟩=[(0,⟨(df l a).Lo/10+(df l d).Lo/10,(df l a).Hi/10+(df l d).Hi/10⟩),(1,⟨(df l b).Lo/10+(df l e).Lo/10,(df l b).Hi/10+(df l e).Hi/10⟩),(2,⟨(df l c).Lo/10+(df l f).Lo/10,(df l c).Hi/10+(df l f).Hi/10⟩)]∧
 eB ⟨l,ids,dr,t,H⟩ 1=[(0,⟨(df l a).Lo/10,(df l a).Hi/10⟩),(1,⟨(df l b).Lo/10,(df l b).Hi/10⟩),(2,⟨(df l c).Lo/10,(df l c).Hi/10⟩)]:=by
 subst hH
 simp only [ed,List.not_mem_nil,or_false,forall_eq_or_imp,forall_eq] at hoa
 obtain ⟨A,B,C,D,E,F⟩:=hoa
 simp [aA,eB,hi,List.range_succ,eN,A,B,C,D,E,F]
def NL:gF:=[(0,⟨514,515⟩),(1,⟨514,514⟩),(2,⟨515,517⟩)]
def Nm:gF:=[(0,⟨514,515⟩),(1,⟨514,514⟩),(2,⟨516,516⟩)]
def RE:gF:=[(0,⟨259,260⟩),(1,⟨260,260⟩),(2,⟨258,260⟩)]
theorem z4:df mN ⟨false,false,dv,mD⟩=⟨2596,2602⟩:=by rw [v7 ⟨rfl,rfl⟩]; exact Dy.2
theorem pP {l:aX} {x y:Int}:df l (Bc x y)=⟨x,y⟩:=vX ⟨rfl,rfl⟩
theorem u3:aA aH=NL∧eB aH 1=RE:=by
 obtain ⟨A,B⟩:=Lr (l:=mN) (ids:=[4,7,9]) (dr:=[2,0,1]) (t:=2) (H:=aH.ar) rfl rfl dc
 refine ⟨A.trans ?_,B.trans ?_⟩
 ·rw [z4,pP,pP,pP,pP,pP]; rfl
 ·rw [z4,pP,pP]; rfl
def jO:bT:=gM aH 0 2 ⟨2590,2599⟩
theorem Bj:fJ aH 0 2 ⟨2590,2599⟩=0:=by unfold fJ; rw [if_pos ql]; unfold p6; decide
theorem wZ:cr jO=0:=rp Bj
theorem Lf:aA jO=Nm:=by
 obtain ⟨A,B⟩:=Lr (l:=mN) (ids:=[4,7,9]) (dr:=[2,0,1]) (t:=2) (H:=jO.ar) (a:=⟨false,false,dv,mD⟩) (b:=Bc 2600 2600) (c:=Bc 2590 2599) (d:=Bc 2555 2559) (e:=Bc 2540 2549) (f:=Bc 2570 2575) rfl rfl dc
 refine A.trans ?_
 rw [z4,pP,pP,pP,pP,pP]; rfl
/-- ranks, as they can be reckoned -/
def EC (m:gF) (i:Int) (own:aa):List Int:=((List.range m.length).map fun (k:Nat)=>(k:Int)+1).filter fun k=>(jx m i own).any fun n=>decide ((gW m i n:Int)+1≤k∧k≤(jX m i n:Int)+1)
theorem F8 {m:gF} {i:Int} {own:aa}:dq m i own=EC m i own:=by
 unfold dq EC
 congr 1
 funext k
 rw [Bool.eq_iff_iff,decide_eq_true_eq,List.any_eq_true]
 simp only [decide_eq_true_eq,sG]
theorem AH {r:bT} {m:gF} {i:Int} {s:aa} (he:cr r=0) (hm:aA r=m) (hi:mZ r i) (hl:m.lookup i=some s):jt r i=0∧pD r i=s∧fR r i=EC m i s:=by
 have h:jt r i=0:=by unfold jt; rw [if_pos he,if_pos hi,hm,hl]; rfl
 refine ⟨h,?_,?_⟩
 ·unfold pD aB; rw [if_pos h,hm,hl]; rfl
 ·unfold fR aB; rw [if_pos h,hm,hl,F8]; rfl
theorem FN {r:bT} {m:gF} {a b:Int} {s t:aa} (he:cr r=0) (hm:aA r=m) (hi:mZ r a∧mZ r b∧a≠b) (hs:m.lookup a=some s) (ht:m.lookup b=some t):ld r a b=0∧rH r a b=vv s t∧m_ r a b=n9 s t:=by
 have h:ld r a b=0:=by unfold ld; rw [if_pos he,if_pos hi,hm,hs,ht]; simp
 refine ⟨h,?_,?_⟩
 ·unfold rH aB; rw [if_pos h,hm,hs,ht]; rfl
 ·unfold m_ aB; rw [if_pos h,hm,hs,ht]; rfl
theorem l_:jt aH 0=0∧pD aH 0=⟨514,515⟩∧fR aH 0=[1,2]:=by have h:=AH (i:=0) (s:=⟨514,515⟩) ql u3.1 dc rfl; exact ⟨h.1,h.2.1,h.2.2.trans dc⟩
theorem Bs:jt aH 2=0∧pD aH 2=⟨515,517⟩∧fR aH 2=[2,3]:=by have h:=AH (i:=2) (s:=⟨515,517⟩) ql u3.1 dc rfl; exact ⟨h.1,h.2.1,h.2.2.trans dc⟩
theorem Kx:jt jO 2=0∧pD jO 2=⟨516,516⟩:=by have h:=AH (i:=2) (s:=⟨516,516⟩) wZ Lf dc rfl; exact ⟨h.1,h.2.1⟩
theorem z7:ld aH 1 2=0∧rH aH 1 2=2∧m_ aH 1 2=0:=by have h:=FN (a:=1) (b:=2) (s:=⟨514,514⟩) (t:=⟨515,517⟩) ql u3.1 dc rfl rfl; exact ⟨h.1,h.2.1.trans dc,h.2.2.trans dc⟩
theorem z6:ld aH 0 1=0∧rH aH 0 1=0∧m_ aH 0 1=1:=by have h:=FN (a:=0) (b:=1) (s:=⟨514,515⟩) (t:=⟨514,514⟩) ql u3.1 dc rfl rfl; exact ⟨h.1,h.2.1.trans dc,h.2.2.trans dc⟩
theorem Kr:iJ aH 1=0∧g3 aH 1=[0,2,1]:=by
 have h:iJ aH 1=0:=by unfold iJ; rw [if_pos ql]; decide
 refine ⟨h,?_⟩
 unfold g3
 rw [if_pos h,if_neg dc]
 unfold uS
 rw [show eB aH (1:Int).toNat=RE from u3.2]
 decide
theorem Kn:iJ aH 2=0∧g3 aH 2=[0,1,2]:=by
 have h:iJ aH 2=0:=by unfold iJ; rw [if_pos ql]; decide
 refine ⟨h,?_⟩
 unfold g3
 rw [if_pos h,if_neg dc]
 unfold uS
 rw [show eB aH (2:Int).toNat=NL from u3.1]
 decide
theorem N9:cP aH=[[0,1,2]]:=by
 refine (tD ql ?_ ?_).symm
 ·rw [u3.1]
  refine ⟨dc,dc,sm,fun g hg t A B=>?_⟩
  rw [List.mem_singleton.1 hg] at A B ⊢
  simp [NL,aB,List.lookup] at A B ⊢
  omega
 ·intro g hg; rw [List.mem_singleton.1 hg]; decide
theorem I5:cP jO=[[0,1],[2]]:=by
 refine (tD wZ ?_ ?_).symm
 ·rw [Lf]
  refine ⟨dc,dc,?_,fun g hg t A B=>?_⟩
  ·simp [Ks,Nm,aB,List.lookup]
  ·simp only [ed,List.not_mem_nil,or_false] at hg
   rcases hg with rfl|rfl<;>(simp [Nm,aB,List.lookup] at A B ⊢; omega)
 ·intro g hg; simp only [ed,List.not_mem_nil,or_false] at hg; rcases hg with rfl|rfl<;>decide
theorem Mw:ek aH 0 2 ⟨2590,2599⟩=[2]:=by
 unfold ek
 rw [if_pos Bj,u3.1,show aA (gM aH 0 2 ⟨2590,2599⟩)=Nm from Lf]
 simp only [F8]
 rw [show dg (NL.map (·.1))=[0,1,2] from vk (n:=3) dc]
 decide
end
section
open Go.RowKit
section
variable {E:e_} {ops:Array Oper} {Q:cW} {rest:List Oper} {D:List Deferred} {L:List (Nat×Value)} {C C1:List au}
theorem xW (X:List au) (ix:List Nat) (hn:decide ix.Nodup=true) (hC:o6 C ix=some (X++C1)) (h:RJ E ops Q rest D L (bu X::C1)):RJ E ops Q rest D L C:=fun a w hf hs=>h a w hf (St.tied (St.kf _ hn (jz hC) hs))
end
theorem qG {E:e_} {ops:Array Oper} {Q:cW} {rest:List Oper} {D:List Deferred} {L:List (Nat×Value)} {C C1:List au} (ix:List Nat) (hn:decide ix.Nodup=true) (hC:o6 C ix=some C1) (h:RJ E ops Q rest D L C1):RJ E ops Q rest D L C:=fun a w hf hs=>h a w hf (St.kf _ hn (jz hC) hs)
theorem oZ {M A B:Type} {f:M→A→List B} {n:Nat} (h: ∀ m a,(f m a).length=n): ∀ {ms:List M} {asl:List A},∀ x∈List.zipWith f ms asl,x.length=n
 |[],asl,x,hx=>by simp at hx
 |m::ms,[],x,hx=>by simp at hx
 |m::ms,a::asl,x,hx=>by
  rw [List.zipWith_cons_cons] at hx
  rcases List.mem_cons.1 hx with rfl|hx
  ·exact h m a
  ·exact oZ h x hx
theorem FG (m:aw) (a:RA):(aw.cells m a).length=7:=rfl
theorem L4 (m:List aw) (a:cM):(cJ m a).length=1:=rfl
theorem KX (m:List Int) (a:RA):(lu m a).length=1:=rfl
def Sm:List aw:=[⟨false,false,dv,mD⟩,Bc 2600 2600,Bc 2580 2609]
def Tn:List aw:=[Bc 2555 2559,Bc 2540 2549,Bc 2570 2575]
theorem Jt {p q s t u v x y:RA}:tI aH.ar [(p,[s,t,u]),(q,[v,x,y])]:=⟨rfl,fun k h a hk ha=>by
 match k with
 |0=>simp [aH] at hk ha; subst hk; subst ha; rfl
 |1=>simp [aH] at hk ha; subst hk; subst ha; rfl
 |n+2=>simp at ha⟩
theorem PS {bz:List RA} {hz:List cM} (h:eu mN bz) (hh:tI aH.ar hz):eW aH bz hz:=⟨h,dc,dc,dc,hh.1,fun k x a hx ha=>by
 have hm:=aT hx
 have hs:=hh.2 k x a hx ha
 simp only [aH,ed,List.not_mem_nil,or_false] at hm
 rcases hm with rfl|rfl
 ·exact ⟨dc,hs,dc⟩
 ·exact ⟨dc,hs,dc⟩⟩
end
section
open Go.RowKit
def pU (b:Bool):List Value:=[.bool b]
@[simp] theorem zK (b:Bool):(pU b).length=1:=rfl
theorem Hl (l:List Bool): ∀ v∈(l.map pU).flatten,v.oneCell'=true:=mz (fun s=>rfl) l
end
section
def lE (r:bT) (i:Nat):Prop:= ∀ (j:Nat) x,j<i→r.ar[j]? =some x→ ¬ oG x
def mT (x:List aw) (i:Nat):Prop:= ∀ (j:Nat) d,j<i→x[j]? =some d→ ¬ 15<(d.ct.ah.length:Int)
section
variable {r:bT} {i:Nat} {x:List aw} {d:aw}
theorem Cu:lE r 0:=fun j x hj=>absurd hj (Nat.not_lt_zero _)
theorem Bo (h:lE r i) (hx:r.ar[i]? =some x) (ho: ¬ oG x):lE r (i+1):=fun j y hj hy=>by
 rcases Nat.lt_or_ge j i with q|q
 ·exact h j y q hy
 ·obtain rfl:j=i:=by omega
  rw [hx] at hy; cases hy; exact ho
theorem BO:mT x 0:=fun j x hj=>absurd hj (Nat.not_lt_zero _)
theorem BQ (h:mT x i) (hx:x[i]? =some d) (ho: ¬ 15<(d.ct.ah.length:Int)):mT x (i+1):=fun j y hj hy=>by
 rcases Nat.lt_or_ge j i with q|q
 ·exact h j y q hy
 ·obtain rfl:j=i:=by omega
  rw [hx] at hy; cases hy; exact ho
theorem DE (hl: ¬ 8<(x.length:Int)) (h:mT x i) (hi:x.length≤i): ¬ oG x:=by
 rintro (q|⟨d,hd,q⟩)
 ·exact hl q
 ·obtain ⟨j,hj⟩:=List.getElem?_of_mem hd
  exact h j d (by have:=(List.getElem?_eq_some_iff.1 hj).1; omega) hj q
theorem GP (h1: ¬ mF r.an) (h2: ¬ 8<(r.aK.length:Int)∧ ¬ 8<(r.bL.length:Int)∧ ¬ 5<(r.ar.length:Int)) (h:lE r i) (hi:r.ar.length≤i): ¬ ov r:=by
 rintro ((q|q)|⟨x,hx,q⟩)
 ·exact h1 q
 ·omega
 ·obtain ⟨j,hj⟩:=List.getElem?_of_mem hx
  exact h j x (by have:=(List.getElem?_eq_some_iff.1 hj).1; omega) hj q
theorem pK (h:mF r.an∨8<(r.aK.length:Int)∨8<(r.bL.length:Int)∨5<(r.ar.length:Int)):ov r:= .inl h
theorem CY (hx:r.ar[i]? =some x) (h:8<(x.length:Int)):ov r:= .inr ⟨x,aT hx,.inl h⟩
theorem ET {j:Nat} (hx:r.ar[i]? =some x) (hd:x[j]? =some d) (h:15<(d.ct.ah.length:Int)):ov r:= .inr ⟨x,aT hx,.inr ⟨d,aT hd,h⟩⟩
end
noncomputable def oU (l:aX) (d:aw):aa:=if d.Out=true then dv else df l d
theorem JD {l:aX} {d:aw} (h:g7 l d):oU l d=df l d:=by
 unfold oU
 split
 ·rename_i q
  rw [FI q]
  rw [qh q] at h
  exact h.2.1.symm
 ·rfl
theorem zS {l:aX} {d:aw} (h:d.Out=true):oU l d=dv:=if_pos h
theorem F0 {l:aX} {d:aw} (h:d.Out=false∧d.eK=true):oU l d=d.Time:=by unfold oU; rw [if_neg (by rw [h.1]; decide),vX h]
theorem F4 {l:aX} {d:aw} (h:d.Out=false∧d.eK=false):oU l d=zP l d.ct:=by unfold oU; rw [if_neg (by rw [h.1]; decide),v7 h]
def SF (r:bT) (j:Nat):Prop:= ∀ x,r.aK[j]? =some x→(0≤x∧x≤9999)∧ ∀ y,0<j→r.aK[j-1]? =some y→y<x
def Kf (r:bT) (j:Nat):Prop:= ∀ x,r.bL[j]? =some x→(0≤x∧x≤(r.aK.length:Int)-1)∧ ∀ (k:Nat) y,k<j→r.bL[k]? =some y→y≠x
def wO (r:bT) (i:Nat):Prop:= ∀ j,j<i→SF r j∧Kf r j
section
variable {r:bT} {i k:Nat} {x:Int}
theorem II:wO r 0:=fun j hj=>absurd hj (Nat.not_lt_zero _)
theorem CM (h:wO r i) (h1:SF r i) (h2:Kf r i):wO r (i+1):=fun j hj=>by
 rcases Nat.lt_or_ge j i with q|q
 ·exact h j q
 ·obtain rfl:j=i:=by omega
  exact ⟨h1,h2⟩
theorem wB {l:List Int} {u v:Int} (h: ∀ (q:Nat) y,q<k→l[q]? =some y→y≠v) (hx:l[k]? =some u) (hne: ¬ u=v): ∀ (q:Nat) y,q<k+1→l[q]? =some y→y≠v:=fun q y hq hy=>by
 rcases Nat.lt_or_ge q k with c|c
 ·exact h q y c hy
 ·obtain rfl:q=k:=by omega
  rw [hx] at hy; cases hy; exact hne
theorem Jq (hl:r.bL.length=r.aK.length) (h:wO r r.aK.length):r.bL.Perm (GJ r.aK.length):=by
 have nd:r.bL.Nodup:=by
  rw [List.nodup_iff_pairwise_ne,nZ]
  intro a b ha hb A
  exact ((h b om).2 _ (e8 hb)).2 a _ A (e8 ha)
 have hm: ∀ x∈r.bL,x∈GJ r.aK.length:=fun x hx=>by
  obtain ⟨j,hj⟩:=List.getElem?_of_mem hx
  have:=((h j (by have:=(List.getElem?_eq_some_iff.1 hj).1; omega)).2 x hj).1
  exact List.mem_map.2 ⟨x.toNat,List.mem_range.2 om,om⟩
 have ndu:(GJ r.aK.length).Nodup:=by
  unfold GJ
  rw [List.nodup_iff_pairwise_ne,List.pairwise_map]
  exact List.pairwise_lt_range.imp fun h=>by omega
 have e:dg r.bL=(GJ r.aK.length).filter fun x=>decide (x∈r.bL):=by
  refine rq kU ((wN _).filter _) (fB.nodup_iff.2 nd) (ndu.filter _) fun x=>?_
  rw [fB.mem_iff,List.mem_filter,decide_eq_true_eq]
  exact ⟨fun q=>⟨hm x q,q⟩,fun q=>q.2⟩
 have B:=congrArg List.length e
 rw [gk,hl] at B
 have C:(GJ r.aK.length).filter (fun x=>decide (x∈r.bL))=GJ r.aK.length:=List.filter_sublist.eq_of_length (by rw [← B]; simp)
 rw [C] at e
 rw [← e]; exact fB.symm
theorem G4 {n:Nat} (h1:1≤(r.aK.length:Int)∧(r.aK.length:Int)≤5) (h2:r.bL.length=r.aK.length) (h3:0≤r.ik∧r.ik≤5) (h4:1≤(r.ar.length:Int)∧(r.ar.length:Int)≤3)
 (hn:n=r.aK.length) (h6:wO r n) (h7:j3 r i) (hi:r.ar.length≤i):eV r:=by
 subst hn
 refine ⟨h1,h3,h4,fun k x hx=>(h6 k (List.getElem?_eq_some_iff.1 hx).1).1 x hx,Jq h2 h6,fun h hh=>?_⟩
 obtain ⟨j,hj⟩:=List.getElem?_of_mem hh
 exact h7 j h (by have:=(List.getElem?_eq_some_iff.1 hj).1; omega) hj
theorem eV.LR (h:eV r) (hx:r.bL[i]? =some x):0≤x∧x≤(r.aK.length:Int)-1:=by
 obtain ⟨k,hk,rfl⟩:=List.mem_map.1 (h.draw.mem_iff.1 (aT hx))
 have:=List.mem_range.1 hk
 omega
theorem eV.QI (h:eV r):r.bL.Nodup:=by
 refine h.draw.nodup_iff.2 ?_
 rw [List.nodup_iff_pairwise_ne,List.pairwise_map]
 exact List.pairwise_lt_range.imp fun h=>by omega
theorem eV.PR (h:eV r) {u v:Int} (hki:k<i) (hu:r.bL[k]? =some u) (hv:r.bL[i]? =some v): ¬ u=v:=by
 have A:=h.QI
 rw [List.nodup_iff_pairwise_ne,nZ] at A
 obtain ⟨a,ea⟩:=List.getElem?_eq_some_iff.1 hu
 obtain ⟨b,eb⟩:=List.getElem?_eq_some_iff.1 hv
 subst ea eb
 exact A k i a b hki
end
section
variable {r:bT} {i k n:Nat} {s:aa} {l:aX} {hs:List (List aw)}
end
section
variable {r:bT} {i x:Int} {own s:aa} {k:Nat} {ys zs:List Int}
end
section
variable {B:List Bool} {P Q:Int→Prop} {k x:Nat} {m:gF} {i y a b:Int} {ys:List Int}
end
theorem rW {r:bT} {i:Int}:(fR r i).length≤r.aK.length:=by
 unfold fR
 split
 ·unfold dq
  refine Nat.le_trans (List.length_filter_le _ _) ?_
  rw [List.length_map,List.length_range]
  exact uJ
 ·simp
end
section
theorem vQ: ∀ {m:gF} {a:Int} {s:aa},m.lookup a=some s→(a,s)∈m
 |[],a,s,h=>by cases h
 |(b,u)::m,a,s,h=>by
  by_cases e:a=b
  ·subst e
   simp [List.lookup] at h; subst h; exact cf
  ·have:(a==b)=false:=by simpa using e
   simp only [List.lookup,this] at h
   exact cS _ (vQ h)
theorem px: ∀ {m:gF} {a:Int} {s:aa},(m.map (·.1)).Nodup→(a,s)∈m→m.lookup a=some s
 |[],a,s,_,h=>by cases h
 |(b,u)::m,a,s,hn,h=>by
  rw [List.map_cons,List.nodup_cons] at hn
  rcases List.mem_cons.1 h with e|h
  ·cases e; simp [List.lookup]
  ·have e:a≠b:=fun e=>hn.1 (by rw [← e]; exact List.mem_map_of_mem (f:=(·.1)) h)
   have:(a==b)=false:=by simpa using e
   simp only [List.lookup,this]
   exact px hn.2 h
/-- sums, each of another sled -/
structure kz (m:gF):Prop where
 nd:(m.map (·.1)).Nodup
 le: ∀ p∈m,p.2.Lo≤p.2.Hi
theorem Ay {r:bT} (h:cr r=0):kz (aA r):=⟨lW,fun p hp=>(m0 h p hp).2.1⟩
section
variable {m:gF} {a b i n:Int} {s t own:aa}
theorem kz.at (h:kz m) (hs:m.lookup a=some s):s.Lo≤s.Hi:=h.le _ (vQ hs)
theorem kz.one (h:kz m) (hs:m.lookup a=some s) {p:Int×aa} (hp:p∈m) (e:p.1=a):p.2=s:=by
 obtain ⟨x,y⟩:=p
 cases e
 have:=px h.nd hp
 rw [hs] at this; cases this; rfl
theorem kz.sm (h:kz m):gW m i n≤jX m i n:=by
 rw [l3,ow]
 refine List.countP_mono_left fun p hp q=>?_
 have:=h.le p hp
 simp only [cK,decide_eq_true_eq] at q ⊢
 exact ⟨om,q.2⟩
theorem CP (h:kz m) (hs:m.lookup i=some s):(gW m i s.Lo:Int)+1∈dq m i s:=by
 have A:=h.at hs
 have B:=h.sm (i:=i) (n:=s.Lo)
 exact (q9 (by rw [hs]; simp)).2 ((qz A).2 ⟨s.Lo,Int.le_refl _,A,Int.le_refl _,om⟩)
theorem DK (h:kz m) (hs:m.lookup i=some s):dq m i s≠[]:=fun e=>by have:=CP h hs; rw [e] at this; cases this
/-- who is surely tied has the same ranks -/
theorem Gs (h:kz m) (hs:m.lookup a=some s) (ht:m.lookup b=some s) (he:s.Lo=s.Hi):dq m a s=dq m b s:=by
 have C:gW m a s.Lo=gW m b s.Lo:=by
  rw [l3,l3]
  apply List.countP_congr
  intro p hp
  simp only [cK,decide_eq_true_eq,Bool.not_eq_true',decide_eq_false_iff_not]
  exact ⟨fun q=>⟨q.1,fun e=>by have:=h.one ht hp e; rw [this] at q; omega⟩,fun q=>⟨q.1,fun e=>by have:=h.one hs hp e; rw [this] at q; omega⟩⟩
 have D:jX m a s.Lo=jX m b s.Lo:=by
  rw [ow,ow]
  apply List.countP_congr
  intro p hp
  simp only [cK,decide_eq_true_eq,Bool.not_eq_true',decide_eq_false_iff_not]
  exact ⟨fun q=>⟨q.1,fun e=>by have:=h.one ht hp e; rw [this] at q; omega⟩,fun q=>⟨q.1,fun e=>by have:=h.one hs hp e; rw [this] at q; omega⟩⟩
 unfold dq
 congr 1
 funext k
 rw [S5,qz (h.at hs),qz (h.at hs)]
 constructor<;>rintro ⟨x,A,B,E,F⟩<;>(have:x=s.Lo:=by omega)<;>subst this<;>exact ⟨s.Lo,A,B,om,om⟩
end
section
variable {r:bT} {a b i:Int} {s t:aa}
/-- what is known of two sleds that have sums -/
structure OL (r:bT) (a b:Int) (s t:aa):Prop where
 ne:a≠b
 P0:kz (aA r)
 sa:(aA r).lookup a=some s
 sb:(aA r).lookup b=some t
 ea:jt r a=0
 eb:jt r b=0
 va:pD r a=s
 vb:pD r b=t
 ra:fR r a=dq (aA r) a s
 rb:fR r b=dq (aA r) b t
 VN:rH r a b=vv s t
 Q4:rH r b a=vv t s
 tied:m_ r a b=n9 s t
theorem AI (he:cr r=0) (hi:mZ r i) (hl:(aA r).lookup i=some s):jt r i=0∧pD r i=s∧fR r i=dq (aA r) i s:=by
 have h:jt r i=0:=by unfold jt; rw [if_pos he,if_pos hi,hl]; rfl
 have A:aB (aA r) i=s:=by unfold aB; rw [hl]; rfl
 exact ⟨h,by unfold pD; rw [if_pos h,A],by rw [yP h,A]⟩
theorem OL.tie (h:OL r a b s t) (e:m_ r a b=2):s=t∧s.Lo=s.Hi∧fR r a=fR r b∧rH r a b=0∧rH r b a=0:=by
 rw [h.tied] at e
 unfold n9 at e
 split at e
 ·rename_i q
  obtain ⟨rfl,q⟩:=q
  have hb:vv s s=0:=by unfold vv; rw [if_neg om,if_neg om]
  exact ⟨U,q,by rw [h.ra,h.rb,Gs h.P0 h.sa h.sb q],h.VN.trans hb,h.Q4.trans hb⟩
 ·split at e<;>cases e
end
end
section
def Hf (bl:List Int) (i:Int):Int:=if bl.length=0 then 0 else bl.getD (i % (bl.length:Int)).toNat 0
theorem OQ {bl:List Int} (hb: ∀ z∈bl,0≤z∧z≤4294967295) (i:Int):0≤Hf bl i∧Hf bl i≤4294967295:=by
 unfold Hf
 split
 ·omega
 ·rw [List.getD_eq_getElem?_getD]
  cases h:bl[(i % (bl.length:Int)).toNat]? with
  |none=>simp
  |some z=>exact hb z (aT h)
theorem KC {bl:List Int} {i z:Int} (h: ¬ (bl.length:Int)=0) (hz:bl[(i % (bl.length:Int)).toNat]? =some z):Hf bl i=z:=by
 unfold Hf; rw [if_neg om,List.getD_eq_getElem?_getD,hz]; rfl
section
variable {r:bT} {h i:Nat} {ht:List aw} {d:aw} {bl:List Int} {n:Int} {out:Bool}
structure Ld (r:bT) (h i:Nat) (d:aw):Prop where
 off:d.Out=true→jA r ↑h ↑i=6
 on:d.Out=false→jA r ↑h ↑i=0∧dA r ↑h ↑i=df r.an d
 b:0≤(dA r ↑h ↑i).Lo∧(dA r ↑h ↑i).Lo≤(dA r ↑h ↑i).Hi∧(dA r ↑h ↑i).Hi≤86400000
 at_:(r.ar[h]?).bind (·[i]?)=some d
theorem Ld.same (q:Ld r h i d):d.Out=decide (jA r ↑h ↑i=6):=by
 cases ho:d.Out with
 |true=>rw [q.off ho]; rfl
 |false=>rw [(q.on ho).1]; rfl
end
/-- the sums of the first sleds -/
noncomputable def jJ (r:bT) (i:Nat):gF:=(List.range i).filterMap fun q=>(eN r.an r.ar q r.ar.length).map fun s=>((q:Int),s)
section
variable {r:bT} {i:Nat} {k:Int}
theorem vn:jJ r (i+1)=jJ r i++((eN r.an r.ar i r.ar.length).map fun s=>((i:Int),s)).toList:=by
 unfold jJ
 rw [List.range_succ,List.filterMap_append]
 cases h:eN r.an r.ar i r.ar.length<;>simp [h]
theorem DA:(jJ r i).lookup (i:Int)=none:=by
 rw [g5]
 intro p hp e
 unfold jJ at hp
 obtain ⟨q,hq,A⟩:=List.mem_filterMap.1 hp
 obtain ⟨s,_,rfl⟩:=Option.map_eq_some_iff.1 A
 have:=List.mem_range.1 hq
 simp only at e; omega
theorem BH (hi:i<r.aK.length):(aA r).lookup (i:Int)=eN r.an r.ar i r.ar.length:=by unfold aA; rw [Ct,if_pos hi]
theorem Cn (he:cr r=0) (hi:mZ r k):(jt r k=0∧((aA r).lookup k).isSome=true)∨(jt r k=6∧((aA r).lookup k).isSome=false):=by
 cases h:((aA r).lookup k).isSome with
 |true=>exact .inl ⟨FQ he hi h,rfl⟩
 |false=>exact .inr ⟨yO he hi h,rfl⟩
theorem CX (he:cr r=0) (hi:i<r.aK.length) (h:jt r (i:Int)=0):ew (jJ r i) (i:Int) (pD r (i:Int))=jJ r (i+1):=by
 obtain ⟨_,A,hl⟩:=uo h
 obtain ⟨s,hs⟩:=Option.ne_none_iff_exists'.1 hl
 have e:eN r.an r.ar i r.ar.length=some s:=(BH hi).symm.trans hs
 have hv:=(AI he A hs).2.1
 rw [vn,e,hv]
 unfold ew; rw [DA]; rfl
theorem zD (he:cr r=0) (hi:i<r.aK.length) (h: ¬ jt r (i:Int)=0):jJ r i=jJ r (i+1):=by
 have A:mZ r (i:Int):=by unfold mZ; omega
 rcases Cn he A with ⟨C,_⟩|⟨_,B⟩
 ·exact absurd C h
 ·rw [BH hi] at B
  rw [vn,Option.isSome_eq_false_iff.1 B |> Option.isNone_iff_eq_none.1]
  simp
end
end
section
def iI (s t:aa):Prop:=s.Lo≤t.Lo∧t.Lo≤t.Hi∧t.Hi≤s.Hi
/-- sums of the same sleds, each within the old one -/
structure sP (m m':gF):Prop where
 ok:kz m
 ok':kz m'
 keys:m'.map (·.1)=m.map (·.1)
 Ua: ∀ (k:Int) s s',m.lookup k=some s→m'.lookup k=some s'→iI s s'
section
variable {m m':gF} {i k n:Int} {s t own:aa}
theorem tO {m:gF} (h:k∈m.map (·.1)): ∃ s,m.lookup k=some s:=by
 obtain ⟨p,hp,rfl⟩:=List.mem_map.1 h
 cases e:m.lookup p.1 with
 |some s=>exact ⟨s,rfl⟩
 |none=>exact absurd rfl ((g5.1 e) p hp)
theorem gR {m:gF} (h:m.lookup k=some s):aB m k=s:=by unfold aB; rw [h]; rfl
theorem yA (h:kz m):gW m i n=(m.map (·.1)).countP fun k=>decide ((aB m k).Hi<n)&& !decide (k=i):=by
 rw [l3,List.countP_map]
 apply List.countP_congr
 intro p hp
 have:aB m p.1=p.2:=gR (px h.nd hp)
 simp only [Function.comp,this]
theorem Ch (h:kz m):jX m i n=(m.map (·.1)).countP fun k=>decide ((aB m k).Lo<n)&& !decide (k=i):=by
 rw [ow,List.countP_map]
 apply List.countP_congr
 intro p hp
 have:aB m p.1=p.2:=gR (px h.nd hp)
 simp only [Function.comp,this]
theorem sP.look (h:sP m m') (hs:m.lookup k=some s): ∃ s',m'.lookup k=some s'∧iI s s':=by
 obtain ⟨s',e⟩:=tO (m:=m') (k:=k) (by rw [h.keys]; exact List.mem_map.2 ⟨_,vQ hs,rfl⟩)
 exact ⟨s',e,h.Ua k s s' hs e⟩
theorem sP.back (h:sP m m') (hs:m'.lookup k=some t): ∃ s,m.lookup k=some s∧iI s t:=by
 obtain ⟨s,e⟩:=tO (m:=m) (k:=k) (by rw [← h.keys]; exact List.mem_map.2 ⟨_,vQ hs,rfl⟩)
 exact ⟨s,e,h.Ua k s t e hs⟩
theorem sP.sure (h:sP m m'):gW m i n≤gW m' i n:=by
 rw [yA h.ok,yA h.ok',h.keys]
 refine List.countP_mono_left fun k hk q=>?_
 obtain ⟨s,hs⟩:=tO hk
 obtain ⟨s',hs',hw⟩:=h.look hs
 rw [gR hs] at q
 rw [gR hs']
 unfold iI at hw
 simp only [cK,decide_eq_true_eq] at q ⊢
 exact ⟨om,q.2⟩
theorem sP.may (h:sP m m'):jX m' i n≤jX m i n:=by
 rw [Ch h.ok,Ch h.ok',h.keys]
 refine List.countP_mono_left fun k hk q=>?_
 obtain ⟨s,hs⟩:=tO hk
 obtain ⟨s',hs',hw⟩:=h.look hs
 rw [gR hs'] at q
 rw [gR hs]
 unfold iI at hw
 simp only [cK,decide_eq_true_eq] at q ⊢
 exact ⟨om,q.2⟩
/-- no rank more -/
theorem sP.yL (h:sP m m') (hs:m.lookup i=some s) (ht:m'.lookup i=some t) {x:Int} (hx:x∈dq m' i t):x∈dq m i s:=by
 have hw:=h.Ua i s t hs ht
 unfold iI at hw
 rw [q9 (by rw [ht]; simp),qz (h.ok'.at ht)] at hx
 rw [q9 (by rw [hs]; simp),qz (h.ok.at hs)]
 obtain ⟨y,A,B,C,D⟩:=hx
 have:=h.sure (i:=i) (n:=y)
 have:=h.may (i:=i) (n:=y)
 exact ⟨y,om,om,om,om⟩
theorem N3 {s t s' t':aa} (h1:iI s s') (h2:iI t t'):vv s t=vv s' t'∨vv s t=1:=by
 unfold iI at h1 h2
 unfold vv
 split
 ·rw [if_pos om]; exact .inl rfl
 ·split
  ·exact .inr U
  ·rw [if_neg om,if_neg om]; exact .inl rfl
theorem IQ {s t s' t':aa} (h1:iI s s') (h2:iI t t'):n9 s t=n9 s' t'∨n9 s t=1:=by
 unfold iI at h1 h2
 unfold n9
 split
 ·rename_i q
  obtain ⟨rfl,q⟩:=q
  left
  have A:s'=s:=aa.ext om om
  have B:t'=s:=aa.ext om om
  rw [A,B,if_pos ⟨rfl,q⟩]
 ·split
  ·exact .inr U
  ·rw [if_neg (fun q=>by have:=q.2; have:=q.1; subst this; omega),if_neg om]; exact .inl rfl
end
def RC (l l':aX) (d d':aw):Prop:=d.Out=d'.Out∧(d.Out=false→iI (df l d) (df l' d'))
structure EU (l l':aX) (H H':List (List aw)) (q:Nat):Prop where
 len: ∀ k:Nat,((H'[k]?).bind (·[q]?)).isSome=((H[k]?).bind (·[q]?)).isSome
 VI: ∀ (k:Nat) d d',(H[k]?).bind (·[q]?)=some d→(H'[k]?).bind (·[q]?)=some d'→RC l l' d d'∧0≤(df l d).Lo
theorem Ac {l l':aX} {H H':List (List aw)} {q:Nat} (h:EU l l' H H' q): ∀ n,(eN l' H' q n).isSome=(eN l H q n).isSome∧ ∀ s s',eN l H q n=some s→eN l' H' q n=some s'→iI s s'
 |0=>⟨rfl,fun s s' B A=>by simp only [eN,Option.some.injEq] at B A; subst B; subst A; unfold iI; simp⟩
 |n+1=>by
  obtain ⟨C,G⟩:=Ac h n
  have D:=h.len n
  have AA:=h.VI n
  unfold eN
  cases B:eN l H q n with
  |none=>
   rw [B] at C
   cases A:eN l' H' q n with
   |none=>exact ⟨rfl,fun s s' e=>by cases e⟩
   |some v=>rw [A] at C; cases C
  |some s=>
   rw [B] at C
   cases A:eN l' H' q n with
   |none=>rw [A] at C; cases C
   |some s'=>
    have hw:=G s s' B A
    cases e3:(H[n]?).bind (·[q]?) with
    |none=>
     rw [e3] at D
     cases e4:(H'[n]?).bind (·[q]?) with
     |none=>exact ⟨rfl,fun s s' e=>by cases e⟩
     |some v=>rw [e4] at D; cases D
    |some d=>
     rw [e3] at D
     cases e4:(H'[n]?).bind (·[q]?) with
     |none=>rw [e4] at D; cases D
     |some d'=>
      obtain ⟨⟨ho,ht⟩,J⟩:=AA d d' e3 e4
      simp only
      cases eo:d.Out with
      |true=>rw [← ho,eo]; exact ⟨rfl,fun s s' e=>by simp at e⟩
      |false=>
       rw [← ho,eo]
       have ht:=ht eo
       refine ⟨U,fun u u' E F=>?_⟩
       simp only [Bool.false_eq_true,if_false,Option.some.injEq] at E F
       subst E; subst F
       unfold iI at ht hw ⊢
       simp only
       omega
theorem yw {r:bT}:(aA r).map (·.1)=((List.range r.aK.length).filter fun (q:Nat)=>(eN r.an r.ar q r.ar.length).isSome).map fun (q:Nat)=>(q:Int):=by
 unfold aA eB
 generalize List.range r.aK.length=L
 induction L with
 |nil=>rfl
 |cons q L ih=>
  cases e:eN r.an r.ar q r.ar.length with
  |none=>simp only [List.filterMap_cons,List.filter_cons,e,Option.map_none,Option.isSome_none]; simpa using ih
  |some s=>simp only [List.filterMap_cons,List.filter_cons,e,Option.map_some,Option.isSome_some,if_true,List.map_cons,ih]
theorem JZ {r r':bT} (he:cr r=0) (he':cr r'=0) (hs:r'.aK.length=r.aK.length) (hh:r'.ar.length=r.ar.length) (h: ∀ q,q<r.aK.length→EU r.an r'.an r.ar r'.ar q):sP (aA r) (aA r'):=by
 refine ⟨Ay he,Ay he',?_,fun k s s' A B=>?_⟩
 ·rw [yw,yw,hs,hh]
  congr 1
  apply List.filter_congr
  intro q hq
  exact (Ac (h q (List.mem_range.1 hq)) _).1
 ·unfold aA at A B
  rw [Jh] at A B
  rw [hs,hh] at B
  split at A
  ·rename_i q
   rw [if_pos q] at B
   exact (Ac (h k.toNat om) _).2 s s' A B
  ·cases A
end
section
section
variable {r:bT} {h i k:Int} {t s u:aa} {d:aw} {q n:Nat}
theorem Iw (he:cr r=0) (hd:(r.ar[n]?).bind (·[q]?)=some d):g7 r.an d:=by
 cases e:r.ar[n]? with
 |none=>rw [e] at hd; cases hd
 |some x=>
  rw [e] at hd
  exact ((ib he).2.lq x (aT e)).2 d (aT hd)
theorem De (he:cr r=0) (hd:(r.ar[n]?).bind (·[q]?)=some d):RC r.an r.an d d∧0≤(df r.an d).Lo:=by
 have h:=vU (Iw he hd)
 exact ⟨⟨U,fun _=>⟨Int.le_refl _,h.2.1,Int.le_refl _⟩⟩,h.1⟩
theorem KP (he:cr r=0) (hi:(0≤h∧h≤(r.ar.length:Int)-1)∧mZ r i) (hd:(r.ar[h.toNat]?).bind (·[i.toNat]?)=some d) (ho:d.Out=false):jA r h i=0∧dA r h i=df r.an d:=by
 have e:jA r h i=0:=by unfold jA; rw [if_pos he,if_pos hi,hd]; simp [ho]
 exact ⟨e,by unfold dA; rw [if_pos e,hd]; rfl⟩
theorem Oy (e:fJ r h i t=0) (hw:iI (dA r h i) t) (q:Nat):EU r.an (gM r h i t).an r.ar (gM r h i t).ar q:=by
 obtain ⟨he,D⟩:=qc e
 obtain ⟨hi,ht,ho⟩:=uq D
 refine ⟨fun k=>?_,fun k d d' C B=>?_⟩
 ·show (((fz r.ar h i t)[k]?).bind (·[q]?)).isSome=_
  rcases xG (H:=r.ar) (h:=h) (i:=i) (t:=t) (k:=k) (q:=q) with A|⟨_,_,⟨d,hd⟩,A⟩
  ·rw [A]
  ·rw [A,hd]; rfl
 ·refine ⟨?_,(De he C).2⟩
  have B:((fz r.ar h i t)[k]?).bind (·[q]?)=some d':=B
  rcases xG (H:=r.ar) (h:=h) (i:=i) (t:=t) (k:=k) (q:=q) with A|⟨E,F,⟨G,hd⟩,A⟩
  ·rw [A,C] at B; cases B; exact (De he C).1
  ·rw [A] at B; cases B
   subst E; subst F
   rw [C] at ho
   have ho:d.Out=false:=by simpa using ho
   refine ⟨ho,fun _=>?_⟩
   rw [show df (gM r h i t).an (j9 t)=t from vX ⟨rfl,rfl⟩,← (KP he hi C ho).2]
   exact hw
theorem Ip (e:fJ r h i t=0) (hw:iI (dA r h i) t):sP (aA r) (aA (gM r h i t)):=
 JZ (qc e).1 (rp e) rfl iF fun q _=>Oy e hw q
end
end
section
section
variable {r r':bT} {h i k j:Int} {t s:aa}
theorem Mz (he:cr r=0):0≤(dA r h i).Lo∧(dA r h i).Lo≤(dA r h i).Hi∧(dA r h i).Hi≤86400000:=by
 unfold dA
 split
 ·cases e:(r.ar[h.toNat]?).bind (·[i.toNat]?) with
  |none=>simp [dv]
  |some d=>exact vU (Iw he e)
 ·simp [dv]
theorem pn (he:cr r=0) (hi:(0≤h∧h≤(r.ar.length:Int)-1)∧mZ r i):jA r h i=0∨jA r h i=6:=by
 unfold jA
 rw [if_pos he,if_pos hi]; split
 ·exact .inr U
 ·exact .inl U
theorem Hd (he:cr r=0) (ht:jA r h i=0) (hf:iv t):fJ r h i t=0:=by
 unfold jA at ht
 rw [if_pos he] at ht
 split at ht
 ·rename_i hi
  split at ht
  ·cases ht
  ·rename_i ho
   unfold fJ
   rw [if_pos he]
   unfold p6
   rw [if_pos ⟨hi,hf⟩,if_neg ho]
 ·cases ht
theorem Ob (he:cr r=0) (he':cr r'=0) (hs:r'.aK.length=r.aK.length) (hn:sP (aA r) (aA r')) (hk:(k,s)∈aA r):jt r k=0∧jt r' k=0∧fR r' k≠[]∧ ∀ y∈fR r' k,y∈fR r k:=by
 obtain ⟨q,D,C,_⟩:=oJ hk
 simp only at C
 have hi:mZ r k:=by unfold mZ; omega
 have hi':mZ r' k:=by unfold mZ; omega
 have hl:(aA r).lookup k=some s:=px lW hk
 obtain ⟨s',hl',_⟩:=hn.look hl
 have B:=AI he hi hl
 have A:=AI he' hi' hl'
 refine ⟨B.1,A.1,by rw [A.2.2]; exact DK (Ay he') hl',fun y hy=>?_⟩
 rw [A.2.2] at hy
 rw [B.2.2]; exact hn.yL hl hl' hy
theorem On (he:cr r=0) (he':cr r'=0) (hs:r'.aK.length=r.aK.length) (hn:sP (aA r) (aA r')) (hk:(k,s)∈aA r) (hj:(j,t)∈aA r) (hkj: ¬ j=k):ld r k j=0∧ld r' k j=0∧(rH r k j=rH r' k j∨rH r k j=1)∧(m_ r k j=m_ r' k j∨m_ r k j=1):=by
 obtain ⟨q,G,E,_⟩:=oJ hk
 obtain ⟨u,H,F,_⟩:=oJ hj
 simp only at E F
 have hi:mZ r k∧mZ r j∧k≠j:=⟨by unfold mZ; omega,by unfold mZ; omega,fun e=>hkj e.symm⟩
 have hi':mZ r' k∧mZ r' j∧k≠j:=⟨by unfold mZ; omega,by unfold mZ; omega,fun e=>hkj e.symm⟩
 have lk:(aA r).lookup k=some s:=px lW hk
 have lj:(aA r).lookup j=some t:=px lW hj
 obtain ⟨s',lk',C⟩:=hn.look lk
 obtain ⟨t',lj',D⟩:=hn.look lj
 have A:ld r k j=0:=by unfold ld; rw [if_pos he,if_pos hi,lk,lj]; simp
 have B:ld r' k j=0:=by unfold ld; rw [if_pos he',if_pos hi',lk',lj']; simp
 refine ⟨A,B,?_,?_⟩
 ·unfold rH; rw [if_pos A,if_pos B,gR lk,gR lj,gR lk',gR lj']; exact N3 C D
 ·unfold m_; rw [if_pos A,if_pos B,gR lk,gR lj,gR lk',gR lj']; exact IQ C D
theorem BC {a b c d:Int} (h1:(dA r h i).Lo≤(dA r h i).Hi) (ha:a=(dA r h i).Lo+c % ((dA r h i).Hi-(dA r h i).Lo+1)) (hb:b=a+d % ((dA r h i).Hi-a+1)):iI (dA r h i) ⟨a,b⟩:=by
 have A:=Int.emod_nonneg c (show (dA r h i).Hi-(dA r h i).Lo+1≠0 by omega)
 have B:=Int.emod_lt_of_pos c (show 0<(dA r h i).Hi-(dA r h i).Lo+1 by omega)
 have C:=Int.emod_nonneg d (show (dA r h i).Hi-a+1≠0 by omega)
 have D:=Int.emod_lt_of_pos d (show 0<(dA r h i).Hi-a+1 by omega)
 unfold iI
 simp only
 omega
end
end
section
open Go.RowKit
section
variable {P:Program} {t:TypeId} {x y:Operand}
theorem qN {e:TypeId} {a:OA} {n c:Nat} (ht:P.underlying t=some (.slice e)):ic P .eql t x y (.slice a n c) (.slice none 0 0) (.bool (decide (a=none))):=fun w=>by
 have A:(Op.equal t (.slice a n c) (.slice none 0 0)).run P w= .ok (decide (a=none)) w:=by
  unfold Op.equal
  show (Op.equalIn (9999+1) t (.slice a n c) (.slice none 0 0)).run P w=_
  unfold Op.equalIn
  cases a<;>simp [run_underlying ht]
 have B:eqGuard .eql t x y (.slice a n c) (.slice none 0 0)=pure ():=rfl
 rw [B]
 show (Sem.run P (do let b ← Op.equal t (.slice a n c) (.slice none 0 0); pure (vB b)) w)=_
 simp [A]
end
section
variable {E:e_} {ops:Array Oper} {Q:cW} {rest:List Oper} {D:List Deferred} {L:List (Nat×Value)} {C:List au}
variable {dst:Option Tmp} {d:Nat} {ty:TypeId} {ps:String} {af:Array Edge} {g:Option (Nat×Bool)}
/-- a row that lies nowhere is empty -/
theorem ml {a:OA} {n sz:Nat} {es:List (List Value)} (hR:i_ C (rd a n sz es).holds) (ha:a=none) (hz:0<sz) (k:es=[]→RJ E ops Q rest D L C):RJ E ops Q rest D L C:=fun act w hf hs=>by
 refine k ?_ act w hf hs
 obtain ⟨F,G,B⟩:=hs.has hR
 rcases Nat.eq_zero_or_pos (n*sz) with h|h
 ·have:n=0:=by
   rcases Nat.mul_eq_zero.1 h with h|h
   ·exact h
   ·omega
  exact jC om
 ·obtain ⟨ad,A,_⟩:=B h
  rw [ha] at A; cases A
theorem Kv {a:OA} {c e sz:Nat} {es:List (List Value)} (i:Nat) (hC:C[i]? =some (own a c e sz es)) (k:es.length≤c→RJ E ops Q rest D L C):RJ E ops Q rest D L C:=fun act w hf hs=>
 k (Fv (hs.holds _ (aT hC))) act w hf hs
theorem jW {A:au} (i:Nat) (h:C[i]? =some A.ro):i_ C A.holds:=fun w hw=>by
 have B:=hw A.ro (aT h)
 exact B
/-- the end of a row is set to zero: it is no more of it -/
theorem M0 {x:Operand} {t e sz by_ k n c c':Nat} {z:Value} {a:OA} {es:List (List Value)} (i:Nat) (hg:jq ops L g=true) (hx:ev L x=some (.slice (Aq a c k sz) (n-k) c')) (ht:tA E.P t=some (e,sz,by_,z)) (hz1: ∀ v∈z.cells.toList,v.oneCell'=true)
 (hC:C[i]? =some (own a c e sz es)) (hn:n=es.length) (hk:k≤n) (K:RJ E ops Q rest D L (C.set i (own a c e sz (es.take k)))):
 RJ E ops Q (⟨none,.call {callee:= .builtin .clear,args:= #[x],argTypes:= #[t]},ty,ps,af,g⟩::rest) D L C:=by
 intro act w A F
 obtain ⟨inf,hu,hi,f,h3,h4,s⟩:=EZ ht
 unfold rI
 rw [if_pos (dN A hg)]
 subst hn
 obtain ⟨W,N⟩:(own a c e sz es).holds w:=F.holds _ (aT hC)
 have B: ∀ y∈es.take k,y.length=sz:=fun y hy=>W y (List.mem_of_mem_take hy)
 have V:(es.take k).flatten=es.flatten.take (k*sz):=by
  have h:=List.take_append_drop k es
  have l:es.flatten=(es.take k).flatten++(es.drop k).flatten:=by rw [← List.flatten_append,h]
  have m:(es.take k).flatten.length=k*sz:=by rw [iw B,List.length_take]; congr 1; omega
  rw [l,← m,List.take_left]
 by_cases r:es.length-k=0
 ·have AC:es.take k=es:=List.take_of_length_le om
  refine gO sm (w':=w) (v:= .tuple #[]) ?_ ?_
  ·rw [r] at hx
   cases hs:Aq a c k sz with
   |none=>rw [hs] at hx; simp [execOp,resolve,invoke,builtin,Builtin.clear_,A.ev hx,run_underlying hu]
   |some q=>rw [hs] at hx; simp [execOp,resolve,invoke,builtin,Builtin.clear_,A.ev hx,run_underlying hu]
  ·rw [AC] at K
   exact K _ _ A (by
    have:C.set i (own a c e sz es)=C:=by
     apply List.ext_getElem?
     intro q
     rw [List.getElem?_set]
     by_cases j:i=q
     ·subst j; rw [if_pos rfl,if_pos (List.getElem?_eq_some_iff.1 hC).1,hC]
     ·rw [if_neg j]
    rw [this]; exact F)
 ·rcases N.2 with ⟨l,m⟩|⟨gg,cap,cur,hv,AA,M,Y,T,J,G⟩
  ·omega
  ·injection hv with Z AB d
   subst Z d
   have R:Aq (some (⟨gg,0,none⟩:Addr)) c k sz=some ⟨gg,k*sz,none⟩:=by
    unfold Aq; rw [if_neg om]; simp [Addr.add_lit]
   rw [R] at hx
   have H:(Builtin.zeroCells z.cells (es.length-k)).toList.length=(es.length-k)*sz:=by
    rw [Array.length_toList,size_zeroCells,s]
   have p:k*sz+(es.length-k)*sz=es.length*sz:=by rw [← Nat.add_mul]; congr 1; omega
   have o:es.length*sz≤cur.size:=by rw [J]; exact Nat.mul_le_mul_right _ Y
   have h1': ∀ v∈(Builtin.zeroCells z.cells (es.length-k)).toList,v.oneCell'=true:=fun v hv=>by
    refine hz1 v ?_
    simp [Builtin.zeroCells] at hv
    obtain ⟨q,hq,hv⟩:=hv
    have O:0<z.cells.size:=by
     rcases Nat.eq_zero_or_pos z.cells.size with AD|AD
     ·rw [AD] at hq; simp at hq
     ·exact AD
    have X:q % z.cells.size<z.cells.size:=Nat.mod_lt _ O
    rw [getElem!_pos z.cells _ X] at hv
    rw [← hv]; simp
   have hst':=run_storeCells_at E.P gg (k*sz) e (Builtin.zeroCells z.cells (es.length-k)).toList 0 cur w M (by rw [H]; omega) h1'
   simp only [Nat.add_zero] at hst'
   obtain ⟨q,hq⟩: ∃ q,es.length-k=q+1:=⟨es.length-k-1,om⟩
   refine gO sm (w':=w.setRow gg (cur.toList.take (k*sz)++(Builtin.zeroCells z.cells (es.length-k)).toList++cur.toList.drop (k*sz+(Builtin.zeroCells z.cells (es.length-k)).toList.length)).toArray) (v:= .tuple #[]) ?_ ?_
   ·rw [hq] at hx hst' ⊢
    simp [execOp,resolve,invoke,builtin,Builtin.clear_,A.ev hx,run_underlying hu,zeroValue,typeInfo,hi,f,hst']
   ·refine K _ _ A ?_
    refine F.move i hC (row:=some gg) (fun b hb=>by cases hb; exact ⟨_,rfl,rfl⟩) rfl ⟨rfl,rfl,rfl,sm,fun k' _ hk'=>setRow_other w gg k' _ (fun e=>hk' (by simp [e]))⟩ (fun y hy=>by
     obtain ⟨ad,AD,rfl⟩:=hy
     cases AD; exact .inl rfl) ?_
    refine ⟨B,?_,.inr ⟨gg,c,_,U,Nat.zero_le _,setRow_heap w gg cur _ e _ M,?_,T,?_,?_⟩⟩
    ·exact iw B
    ·rw [List.length_take]; omega
    ·simp only [List.size_toArray,List.length_append,List.length_take,List.length_drop,Array.length_toList,H]
     have:=J
     simp only [Array.length_toList] at H
     omega
    ·have u:(es.take k).length*sz=k*sz:=by rw [List.length_take]; congr 1; omega
     have S:(cur.toList.take (k*sz)).length=k*sz:=by rw [List.length_take,Array.length_toList]; omega
     rw [u,V,← G,List.take_take,Nat.min_eq_left om]
     show List.take (k*sz) (_++_++_)=_
     rw [List.append_assoc,List.take_left' S]
end
end
section
open Go.RowKit
theorem oO (n lo hi:Int):
 dV Tryz.prog 151 [(vI n),(vI lo),(vI hi)] [] (vB (decide (lo≤n∧n≤hi))):=by
 refine bx kr Tryz.func151 U U fun D Q hQ hN=>?_
 try dsimp only
 refine WS fun _ B=>a_ 1 U<|RK B<|WS fun _ A=>rP 4 [] I ?_
 refine cN (t:=10) U (aP fun C=>?_) (aQ fun C=>?_)
 ·refine rP 5 [] I ?_
  refine RK A<|ao<|Q1 hQ U U U ?_
  exact cB (decide_eq_decide.2 om)
 refine rP 5 [] I ?_
 refine RK A<|ao<|Q1 hQ U U U ?_
 exact cB (cd om).symm
theorem pH (s:aa) (lo hi:Int):
 dV Tryz.prog 152 [(vA (aa.cells s)),(vI lo),(vI hi)] [] (vB (decide (s.Lo≤s.Hi∧lo≤s.Lo∧s.Hi≤hi))):=by
 refine bx kr Tryz.func152 U U fun E Q hQ hN=>?_
 try dsimp only
 refine WS fun _ B=>fQ U fun D=>a_ 1 U<|RK B<|WS fun _ A=>fy 5 [] (mc 0 U I) U<|rS (CL (oO s.Lo lo s.Hi) (aJ) U)<|rP 1 [] I ?_
 refine bZ (t:=13) U (aQ fun C=>?_) (aP fun C=>?_)
 ·refine rP 6 [] I ?_
  refine RK A<|ao<|Q1 hQ U U U ?_
  exact cB (cd om).symm
 refine rP 6 [] (mc 0 U I) ?_
 refine RK A<|ao<|Q1 hQ U U U ?_
 exact cB (decide_eq_decide.2 om)
theorem N8 (t:List al) (tA:OA) (tC:Nat):
 dV Tryz.prog 110 [(vA (bD.cells (bD.mk (bp.mk tA t.length tC))))] [(rd tA t.length 9 (t.map al.cells))] (vB (decide (20<(t.length:Int)))):=by
 refine bx kr Tryz.func110 U U fun D Q hQ hN=>?_
 try dsimp only
 refine WS fun _ A=>fQ U fun C=>a_ 1 U<|RK A<|WS fun _ B=>rP 5 [] (mc 0 U I) ?_
 refine RK B<|ao ?_
 exact Q1 hQ U U U U
theorem Oz (l:List Int) (lA:OA) (lC:Nat) (f:Value) (p:Int→Bool) (X:au) (hf: ∀ x0,x0∈l→Ef Tryz.prog f [.int .i64 x0] [X] (.bool (p x0))) (hlen:l.length≤1000000):
 dV Tryz.prog 86 [(vS lA l.length lC),f] [(rd lA l.length 1 (l.map iC)),X] (vI (tx p l)):=by
 refine bx kr Tryz.func86 U U fun R Q hQ hN=>?_
 try dsimp only
 refine WS fun _ G=>a_ 1 U<|RK G<|ai fun _ H=>WS fun _ AA=>rP 3 [] I ?_
 refine RK AA<|ax ?_
 have B:(0≤l.length)∧((l.take 0).any p=false):=by simp
 refine bK (ι:={z:Nat // (z≤l.length)∧((l.take z).any p=false)}) [0,1,7] [0,1] U U (fun z=>[(8,(vI (z.1:Int)))]) (fun z=>[]) (fun _=>rfl) (fun _=>rfl) (fun z=>l.length-z.1) ⟨0,B⟩ (aS U) (aI [0,1]) ?_
 clear B
 rintro ⟨i,⟨N,A⟩⟩ J4 F
 try dsimp only
 refine WS fun _ J=>rP 1 [] I ?_
 refine RK J<|ai fun _ K=>bM U (aQ fun P=>?_) (aP fun P=>?_)
 ·refine bw<|ab<|ab<|ay<|KK H<|WS fun _ E=>rP 1 [] I ?_
  refine RK E<|ao<|Q1 hQ U U U ?_
  exact cI (sx om A).symm
 refine WK K<|ai fun _ L=>ax<|WS fun _ M=>a_ 2 U<|RK M<|WS fun _ C=>rP 3 [] I ?_
 obtain ⟨x,hx⟩:=aL l i om
 have O:=bH iC hx
 refine rS (IA i U (aD 0 U) cv dc om om)<|rS (gp i 0 (vI x) U b_ (aD 0 U) O U dc U)<|rS (SX (sf U U U (hf x (aT hx)) (bf [1])) U U)<|RK C<|cy U (fun hp=>?_) (fun hp=>?_)
 ·refine WS fun _ D=>rP 2 [] I ?_
  refine RK D<|ao<|Q1 hQ U U U ?_
  exact cI (wQ hx hp A).symm
 refine bV<|aG<|KK L<|ak<|rP 2 [] I ?_
 refine aF ?_
 refine aR (F ⟨(i+1),⟨om,yc hx A hp⟩⟩ _ _ _ U os (aS U) (aI [0,1]))
theorem r9 (l:List Int) (lA:OA) (lC:Nat) (f:Value) (p:Int→Bool) (X:au) (hf: ∀ x0,x0∈l→Ef Tryz.prog f [.int .i64 x0] [X] (.bool (p x0))) (hlen:l.length≤1000000):
 dV Tryz.prog 63 [(vS lA l.length lC),f] [(rd lA l.length 1 (l.map iC)),X] (vB (l.any p)):=by
 refine bx kr Tryz.func63 U U fun C Q hQ hN=>?_
 try dsimp only
 refine WS fun _ A=>a_ 1 U<|RK A<|WS fun _ B=>a_ 2 U<|rS (CL (Oz l lA lC f p X (by exact hf) hlen) (bf [0,1]) U)<|rP 2 [] I ?_
 refine RK B<|ao<|Q1 hQ U U U ?_
 exact cB uh
theorem GN (n lo hi:Int) (g1 g2:Nat):
 dV Tryz.prog 139 [(vI n),(vP g1),(vP g2)] [(bU g1 3 [(vI lo)]),(bU g2 3 [(vI hi)])] (vB (decide (n<lo∨hi<n))):=by
 refine bx kr Tryz.func139 U U fun D Q hQ hN=>?_
 try dsimp only
 refine WS fun _ B=>a_ 1 U<|RK B<|WS fun _ A=>rP 4 [] (mr 0 U I) ?_
 refine cN (t:=8) U (aP fun C=>?_) (aQ fun C=>?_)
 ·refine rP 5 [] I ?_
  refine RK A<|ao<|Q1 hQ U U U ?_
  exact cB (fI om).symm
 refine rP 5 [] (mr 1 U I) ?_
 refine RK A<|ao<|Q1 hQ U U U ?_
 exact cB (decide_eq_decide.2 om)
theorem o3 (lo hi:Int) (l:List Int) (lA:OA) (lC:Nat) (hlen:l.length≤1000000):
 dV Tryz.prog 113 [(vI lo),(vI hi),(vS lA l.length lC)] [(rd lA l.length 1 (l.map iC))] (vB (pT lo hi l)):=by
 refine bx kr Tryz.func113 U U fun F Q hQ hN=>?_
 try dsimp only
 refine WS fun _ D=>uT U U fun A=>uT U U fun B=>a_ 1 U<|RK D<|WS fun _ E=>rP 1 [] I ?_
 refine rS (FU U) ?_
 refine rS (CL (r9 l lA lC (Value.func (.func 139) [].toArray [(vP A),(vP B)].toArray) (fun C=>(decide (C<lo∨hi<C))) (e7 [(bU A 3 [(vI lo)]),(bU B 3 [(vI hi)])]) (by intro C _; exact nc (fi:=[]) (ca:=[(vP A),(vP B)]) (l4 (GN C lo hi A B) (bf [0,1]))) hlen) (fq 2 U U<|aq (l0 (bf [1,0]))<|aJ) U) ?_
 refine rP 2 [] I ?_
 refine RK E<|ao ?_
 exact Q1 hQ U U U U
theorem vJ (s:aa) (lo hi:Int):
 dV Tryz.prog 114 [(vA (aa.cells s)),(vI lo),(vI hi)] [] (vB (decide (s.Lo≤s.Hi∧lo≤s.Lo∧s.Hi≤hi))):=by
 refine bx kr Tryz.func114 U U fun F Q hQ hN=>?_
 try dsimp only
 refine WS fun _ B=>fQ U fun E=>a_ 1 U<|RK B<|WS fun _ A=>rP 6 [] (mc 0 U I) ?_
 refine cV (xs:=[.tmp 10,.tmp 12]) (cs:=[(vI s.Lo),(vI s.Hi)]) U cv ja U U U U (by simp [Value.cells]) U U fun C=>?_
 refine rS (CL (dV.eq (o3 lo hi ([s.Lo,s.Hi]) (some ⟨C,0,none⟩) 2 (by (simp; done))) qQ) (aq (aZ 0 U U (by simp [bE]) U)<|aJ) U) ?_
 refine rP 1 [] I ?_
 refine bZ (t:=15) U (aQ fun D=>?_) (aP fun D=>?_)
 ·refine rP 7 [] I ?_
  refine RK A<|ao<|Q1 hQ U U U ?_
  exact cB (cd om).symm
 refine rP 7 [] (mc 1 U I) ?_
 refine RK A<|ao<|Q1 hQ U U U ?_
 exact cB (decide_eq_decide.2 om)
theorem v8 (ts:List al) (tsA:OA) (tsC:Nat) (hlen:ts.length≤1000000):
 dV Tryz.prog 135 [(vA (bD.cells (bD.mk (bp.mk tsA ts.length tsC))))] [(rd tsA ts.length 9 (ts.map al.cells))] (vB (cT ts)):=by
 refine bx kr Tryz.func135 U U fun w0 Q hQ hN=>?_
 try dsimp only
 refine WS fun _ AZ=>fQ U fun b2=>a_ 1 U<|RK AZ<|ai fun _ Aa=>WS fun _ Ab=>fy 3 [] (mc 0 U I) U<|rS (CL (oO (ts.length:Int) 1 12) (aJ) U)<|rP 1 [] I ?_
 refine RK Ab<|cy U (bk fun h5=>?_) (bj fun h5=>?_)
 ·refine WS fun _ Ac=>rP 1 [] I ?_
  refine RK Ac<|ao<|Q1 hQ U U U ?_
  exact cB (n8 om).symm
 refine WK Aa<|ai fun _ Ad=>WS fun _ Ae=>rP 1 [] I ?_
 refine RK Ae<|ax ?_
 have E:(0≤ts.length)∧(eO (-1) ts=eO (fZ ts 0) (ts.drop 0))∧(-1≤fZ ts 0):=by (refine ⟨om,rfl,by simp [fZ]⟩)
 refine bK (ι:={z:Nat // (z≤ts.length)∧(eO (-1) ts=eO (fZ ts z) (ts.drop z))∧(-1≤fZ ts z)}) [1] [0,1] U U (fun z=>[(3,(vI (z.1:Int)))]) (fun z=>[]) (fun _=>rfl) (fun _=>rfl) (fun z=>ts.length-z.1) ⟨0,E⟩ (aS U) (aI [0,1]) ?_
 clear E
 rintro ⟨i,⟨Af,A,Ag⟩⟩ J9 D
 try dsimp only
 have hz:i=0→fZ ts i= -1:=Bx
 refine ai fun _ K=>WS fun _ L=>rP 5 [] (mc 0 U I) ?_
 refine RK L<|bM U (aQ fun v=>?_) (aP fun v=>?_)
 ·refine bw<|ab<|ab<|ay<|KK Ad<|WS fun _ u=>rP 1 [] I ?_
  refine RK u<|ao<|Q1 hQ U U U ?_
  exact cB (vh A om om).symm
 refine WK K<|ai fun _ C=>ax<|WS fun _ M=>rP 3 [] (mc 0 U I) ?_
 obtain ⟨x,hx⟩:=aL ts i om
 have Ah:=bH al.cells hx
 refine rS (IA i U (aD 1 U) yi dc om om)<|rS (oE i 0 (al.cells x) U b_ (aD 1 U) Ah U dc U U)<|AL U Fa fun Aj=>fO U Lh U<|RK M<|ai fun _ F=>ai fun _ B=>du cq 38 kr<|my 2 [] (mc 0 U I) U<|dS (CL (oO x.Id 0 9999) (aJ) U)<|dP 2 [] I ?_
 refine iR (t:=26) U (bk fun w=>?_) (bj fun w=>?_)
 ·refine lv 11 U<|lv 22 U<|cH<|RK B<|aO U<|WS fun _ N=>rP 1 [] I ?_
  refine RK N<|ao<|Q1 hQ U U U ?_
  exact cB (dG A hx (by simp only [bJ,dI]; omega)).symm
 refine dP 3 [] I ?_
 refine ji (t:=29) U (aQ fun AA=>?_) (aP fun AA=>?_)
 ·refine lv 8 U<|lv 6 U<|dS (LP (aa.cells x.ks) 0 U b_ U U U)<|dS (CL (pH x.ks 1 30000) (aJ) U)<|dP 3 [] I ?_
  refine iR (t:=48) U (bk fun AO=>?_) (bj fun AO=>?_)
  ·refine lv 11 U<|cH<|RK B<|aO U<|WS fun _ e=>rP 1 [] I ?_
   refine RK e<|ao<|Q1 hQ U U U ?_
   exact cB (dG A hx (by simp only [bJ,dI]; omega)).symm
  refine lv 1 U<|dS (LP (aa.cells x.lU) 0 U b_ U U U)<|dS (CL (pH x.lU 0 5000) (aJ) U)<|dP 3 [] I ?_
  refine iR (t:=54) U (bk fun AP=>?_) (bj fun AP=>?_)
  ·refine lv 5 U<|cH<|RK B<|aO U<|WS fun _ f=>rP 1 [] I ?_
   refine RK f<|ao<|Q1 hQ U U U ?_
   exact cB (dG A hx (by simp only [bJ,dI]; omega)).symm
  refine my 2 [] (mc 0 U I) U<|dS (CL (oO x.Av 0 5000) (aJ) U)<|dP 2 [] I ?_
  refine cH<|RK B<|cy U (bk fun AQ=>?_) (bj fun AQ=>?_)
  ·refine WS fun _ g=>rP 1 [] I ?_
   refine RK g<|ao<|Q1 hQ U U U ?_
   exact cB (dG A hx (by simp only [bJ,dI]; omega)).symm
  refine WK F<|WS fun _ h=>fy 2 [] (mc 0 U I) U<|RK h<|ax<|WS fun _ j=>rS (BI U mq)<|rP 1 [] I ?_
  refine RK j<|cy U (aP fun AR=>?_) (aQ fun AR=>?_)
  ·refine WS fun _ Am=>rP 5 [] (mc 0 U I) ?_
   refine cN (t:=68) U (bk fun AS=>?_) (bj fun AS=>?_)
   ·refine a_ 5 U<|RK Am<|aO U<|WS fun _ k=>rP 1 [] I ?_
    refine RK k<|ao<|Q1 hQ U U U ?_
    exact cB (dG A hx (by simp only [bJ,dI]; omega)).symm
   refine rP 5 [] (mc 0 U I) ?_
   refine RK Am<|bM U (bj fun AT=>?_) (bk fun AT=>?_)
   ·refine bV<|aG<|aG<|KK C<|ak<|rP 3 [] I ?_
    refine aF ?_
    refine aR (D ⟨(i+1),⟨om,gN A hx (by simp only [bJ,dI]; omega),by rw [fU hx]; omega⟩⟩ _ _ _ U os (aS U) (aI [1,2]))
   refine WS fun _ l=>rP 1 [] I ?_
   refine RK l<|ao<|Q1 hQ U U U ?_
   exact cB (dG A hx (by simp only [bJ,dI]; omega)).symm
  refine ai fun _ J=>WS fun _ m=>rS (BI U mq)<|rP 1 [] I ?_
  refine RK m<|cy U (aP fun AU=>?_) (aQ fun AU=>?_)
  ·refine WK J<|bM U (aQ fun AV=>?_) (aP fun AV=>?_)
   ·refine WS fun _ p=>rP 1 [] I ?_
    refine RK p<|ao<|Q1 hQ U U U ?_
    exact cB (n8 om).symm
   refine WS fun _ n=>a_ 1 U<|rS (LP (aa.cells x.eE) 0 U b_ U U U)<|rS (CL (pH x.eE 500 20000) (aJ) U)<|rP 1 [] I ?_
   refine RK n<|bM U (bj fun AW=>?_) (bk fun AW=>?_)
   ·refine bV<|aG<|aG<|KK C<|ak<|rP 3 [] I ?_
    refine aF ?_
    refine aR (D ⟨(i+1),⟨om,gN A hx (by simp only [bJ,dI]; omega),by rw [fU hx]; omega⟩⟩ _ _ _ U os (aS U) (aI [1,2]))
   refine WS fun _ o=>rP 1 [] I ?_
   refine RK o<|ao<|Q1 hQ U U U ?_
   exact cB (dG A hx (by simp only [bJ,dI]; omega)).symm
  refine ak<|rS (BI U mq)<|rP 1 [] I ?_
  refine RK J<|bM U (aQ fun AX=>?_) (aP fun AX=>?_)
  ·refine WS fun _ s=>rP 1 [] I ?_
   refine RK s<|ao<|Q1 hQ U U U ?_
   exact cB (dG A hx (by simp only [bJ,dI]; omega)).symm
  refine WS fun _ q=>a_ 1 U<|rS (LP (aa.cells x.eE) 0 U b_ U U U)<|rS (CL (pH x.eE 500 20000) (aJ) U)<|rP 1 [] I ?_
  refine RK q<|bM U (bj fun AY=>?_) (bk fun AY=>?_)
  ·refine bV<|aG<|aG<|KK C<|ak<|rP 3 [] I ?_
   refine aF ?_
   refine aR (D ⟨(i+1),⟨om,gN A hx (by simp only [bJ,dI]; omega),by rw [fU hx]; omega⟩⟩ _ _ _ U os (aS U) (aI [1,2]))
  refine WS fun _ r=>rP 1 [] I ?_
  refine RK r<|ao<|Q1 hQ U U U ?_
  exact cB (dG A hx (by simp only [bJ,dI]; omega)).symm
 refine dP 6 [0,1] (mc 0 U (mc 1 U I)) ?_
 obtain ⟨y,hy⟩:=aL ts (i-1) om
 have Ai:=bH al.cells hy
 refine dS (IA (i-1) U (aD 2 U) yi dc om om)<|dS (nN ((i-1)*9) U (aD 2 U) (Nat.mul_pos om dc) fx U) ?_
 have Al:=Eh om hy
 refine dS (gp (i-1) 0 (vI y.Id) U b_ (aD 2 U) Ai U dc U)<|dP 4 [] I ?_
 refine iR (t:=42) U (aP fun AB=>?_) (aQ fun AB=>?_)
 ·refine lv 17 U<|cH<|RK B<|aO U<|WS fun _ O=>rP 1 [] I ?_
  refine RK O<|ao<|Q1 hQ U U U ?_
  exact cB (dG A hx (by simp only [bJ,dI]; omega)).symm
 refine lv 1 U<|dS (LP (aa.cells x.ks) 0 U b_ U U U)<|dS (CL (pH x.ks 1 30000) (aJ) U)<|dP 3 [] I ?_
 refine iR (t:=48) U (bk fun AC=>?_) (bj fun AC=>?_)
 ·refine lv 11 U<|cH<|RK B<|aO U<|WS fun _ P=>rP 1 [] I ?_
  refine RK P<|ao<|Q1 hQ U U U ?_
  exact cB (dG A hx (by simp only [bJ,dI]; omega)).symm
 refine lv 1 U<|dS (LP (aa.cells x.lU) 0 U b_ U U U)<|dS (CL (pH x.lU 0 5000) (aJ) U)<|dP 3 [] I ?_
 refine iR (t:=54) U (bk fun AD=>?_) (bj fun AD=>?_)
 ·refine lv 5 U<|cH<|RK B<|aO U<|WS fun _ R=>rP 1 [] I ?_
  refine RK R<|ao<|Q1 hQ U U U ?_
  exact cB (dG A hx (by simp only [bJ,dI]; omega)).symm
 refine my 2 [] (mc 0 U I) U<|dS (CL (oO x.Av 0 5000) (aJ) U)<|dP 2 [] I ?_
 refine cH<|RK B<|cy U (bk fun AE=>?_) (bj fun AE=>?_)
 ·refine WS fun _ S=>rP 1 [] I ?_
  refine RK S<|ao<|Q1 hQ U U U ?_
  exact cB (dG A hx (by simp only [bJ,dI]; omega)).symm
 refine WK F<|WS fun _ T=>fy 2 [] (mc 0 U I) U<|RK T<|ax<|WS fun _ Ak=>rS (BI U mq)<|rP 1 [] I ?_
 refine RK Ak<|cy U (aP fun AF=>?_) (aQ fun AF=>?_)
 ·refine WS fun _ G=>rP 5 [] (mc 0 U I) ?_
  refine cN (t:=68) U (bk fun AG=>?_) (bj fun AG=>?_)
  ·refine a_ 5 U<|RK G<|aO U<|WS fun _ V=>rP 1 [] I ?_
   refine RK V<|ao<|Q1 hQ U U U ?_
   exact cB (dG A hx (by simp only [bJ,dI]; omega)).symm
  refine rP 5 [] (mc 0 U I) ?_
  refine RK G<|bM U (bj fun AH=>?_) (bk fun AH=>?_)
  ·refine bV<|aG<|aG<|KK C<|ak<|rP 3 [] I ?_
   refine aF ?_
   refine aR (D ⟨(i+1),⟨om,gN A hx (by simp only [bJ,dI]; omega),by rw [fU hx]; omega⟩⟩ _ _ _ U os (aS U) (aI [1,2]))
  refine WS fun _ W=>rP 1 [] I ?_
  refine RK W<|ao<|Q1 hQ U U U ?_
  exact cB (dG A hx (by simp only [bJ,dI]; omega)).symm
 refine ai fun _ H=>WS fun _ X=>rS (BI U mq)<|rP 1 [] I ?_
 refine RK X<|cy U (aP fun AI=>?_) (aQ fun AI=>?_)
 ·refine WK H<|bM U (aQ fun AJ=>?_) (aP fun AJ=>?_)
  ·refine WS fun _ a=>rP 1 [] I ?_
   refine RK a<|ao<|Q1 hQ U U U ?_
   exact cB (n8 om).symm
  refine WS fun _ Y=>a_ 1 U<|rS (LP (aa.cells x.eE) 0 U b_ U U U)<|rS (CL (pH x.eE 500 20000) (aJ) U)<|rP 1 [] I ?_
  refine RK Y<|bM U (bj fun AK=>?_) (bk fun AK=>?_)
  ·refine bV<|aG<|aG<|KK C<|ak<|rP 3 [] I ?_
   refine aF ?_
   refine aR (D ⟨(i+1),⟨om,gN A hx (by simp only [bJ,dI]; omega),by rw [fU hx]; omega⟩⟩ _ _ _ U os (aS U) (aI [1,2]))
  refine WS fun _ Z=>rP 1 [] I ?_
  refine RK Z<|ao<|Q1 hQ U U U ?_
  exact cB (dG A hx (by simp only [bJ,dI]; omega)).symm
 refine ak<|rS (BI U mq)<|rP 1 [] I ?_
 refine RK H<|bM U (aQ fun AM=>?_) (aP fun AM=>?_)
 ·refine WS fun _ d=>rP 1 [] I ?_
  refine RK d<|ao<|Q1 hQ U U U ?_
  exact cB (dG A hx (by simp only [bJ,dI]; omega)).symm
 refine WS fun _ b=>a_ 1 U<|rS (LP (aa.cells x.eE) 0 U b_ U U U)<|rS (CL (pH x.eE 500 20000) (aJ) U)<|rP 1 [] I ?_
 refine RK b<|bM U (bj fun AN=>?_) (bk fun AN=>?_)
 ·refine bV<|aG<|aG<|KK C<|ak<|rP 3 [] I ?_
  refine aF ?_
  refine aR (D ⟨(i+1),⟨om,gN A hx (by simp only [bJ,dI]; omega),by rw [fU hx]; omega⟩⟩ _ _ _ U os (aS U) (aI [1,2]))
 refine WS fun _ c=>rP 1 [] I ?_
 refine RK c<|ao<|Q1 hQ U U U ?_
 exact cB (dG A hx (by simp only [bJ,dI]; omega)).symm
theorem CE (ts:List al) (tsA:OA) (tsC:Nat) (hlen:ts.length≤1000000) (hside: ∀ x∈ts,0≤x.iX∧x.iX≤255):
 dV Tryz.prog 82 [(vA (bD.cells (bD.mk (bp.mk tsA ts.length tsC))))] [(rd tsA ts.length 9 (ts.map al.cells))] (vI (if cT ts=true then 0 else 10)):=by
 refine bx kr Tryz.func82 U U fun w0 Q hQ hN=>?_
 try dsimp only
 refine WS fun _ v=>fQ U fun b2=>a_ 1 U<|RK v<|zZ U<|ai fun _ w=>WS fun _ y=>rP 3 [] (mc 0 U I) ?_
 refine cV (xs:=[.tmp 11]) (cs:=[(vI (ts.length:Int))]) U cv ja U U U U (by simp [Value.cells]) U U fun b5=>?_
 refine rS (CL (dV.eq (o3 1 12 ([(ts.length:Int)]) (some ⟨b5,0,none⟩) 1 (by (simp; done))) cR) (aq (aZ 0 U U (by simp [bE]) U)<|aJ) U) ?_
 refine rP 1 [] I ?_
 refine RK y<|cy U (bk fun h6=>?_) (bj fun h6=>?_)
 ·refine WS fun _ AA=>rP 1 [] I ?_
  refine RK AA<|ao<|Q1 hQ U U U ?_
  exact cI (if_neg (by rw [n8 om]; decide)).symm
 refine WK w<|WS fun _ AB=>a_ 1 U<|RK AB<|WS fun _ AC=>a_ 1 U<|RK AC<|ai fun _ J=>AQ<|KK J<|ai fun _ B=>WS fun _ K=>rP 4 [] (mc 1 U I) ?_
 refine RK K<|ax ?_
 have D:(0≤ts.length)∧(eO (-1) ts=eO (fZ ts 0) (ts.drop 0))∧(-1≤fZ ts 0)∧(fZ ts 0≤9999):=by (refine ⟨om,rfl,by simp [fZ],by simp [fZ]⟩)
 refine bK (ι:={z:Nat // (z≤ts.length)∧(eO (-1) ts=eO (fZ ts z) (ts.drop z))∧(-1≤fZ ts z)∧(fZ ts z≤9999)}) [1,4,16,17] [1,2] U U (fun z=>[(3,(vI (fZ ts z.1))),(18,(vI (z.1:Int)))]) (fun z=>[]) (fun _=>rfl) (fun _=>rfl) (fun z=>ts.length-z.1) ⟨0,D⟩ (aS U) (aI [1,2]) ?_
 clear D
 rintro ⟨i,⟨AD,A,AE,AF⟩⟩ J13 E
 try dsimp only
 refine WS fun _ L=>rP 1 [] I ?_
 refine RK L<|ai fun _ M=>bM U (aQ fun k=>?_) (aP fun k=>?_)
 ·refine bw<|ab<|ab<|ay<|KK B<|WS fun _ O=>rP 2 [] I ?_
  refine RK O<|ao<|Q1 hQ U U U ?_
  exact cI (if_pos (vh A om om)).symm
 refine WK M<|ai fun _ F=>ax<|WS fun _ N=>?_
 obtain ⟨x,hx⟩:=aL ts i om
 have AG:=bH al.cells hx
 refine rS (IA i U (aD 1 U) yi dc om om) ?_
 have AK:=hside x (aT hx)
 refine rS (oE i 0 (al.cells x) U b_ (aD 1 U) AG U dc U U)<|AL U Fa fun AH=>fO U Lh U<|RK N ?_
 refine og (ι:=Unit) [1,3,4,6,16,17,18] [0,1,2] U U (fun z=>[(7,(vB (decide (x.iX=0∧x.eE.Lo=0∧x.eE.Hi=0))))]) (fun z=>[]) (fun _=>rfl) (fun _=>rfl) ?_ fun K20 G=>?_
 ·intro _
  try dsimp only
  refine og (ι:=Unit) [1,3,4,6,7,16,17,18] [0,1,2] U U (fun z=>[(8,(vB (decide ((1≤x.iX∧x.iX≤2)∧x.eE.Lo≤x.eE.Hi∧500≤x.eE.Lo∧x.eE.Hi≤20000))))]) (fun z=>[]) (fun _=>rfl) (fun _=>rfl) ?_ fun K21 H=>?_
  ·intro _
   try dsimp only
   refine ai fun _ AJ=>WS fun _ C=>rP 4 [] (mc 0 U I) ?_
   refine cV (xs:=[.tmp 44]) (cs:=[(vI x.Id)]) U cv ja U U U U (by simp [Value.cells]) U U fun h=>?_
   refine rS (CL (dV.eq (o3 ((fZ ts i)+1) 9999 ([x.Id]) (some ⟨h,0,none⟩) 1 (by (simp; done))) cR) (aq (aZ 0 U U (by simp [bE]) U)<|aJ) U) ?_
   refine rP 2 [] I ?_
   refine cN (t:=48) U (bk fun o=>?_) (bj fun o=>?_)
   ·refine a_ 26 U<|RK C<|aO U<|WS fun _ P=>a_ 1 U<|RK P<|bw<|ab<|iE U<|ab<|ab<|ay<|KK B<|WS fun _ R=>rP 2 [] I ?_
    refine RK R<|ao<|Q1 hQ U U U ?_
    exact cI (if_neg (by rw [dG A hx (by simp only [bJ,dI]; omega)]; decide)).symm
   refine a_ 1 U<|rS (LP (aa.cells x.ks) 1 U b_ U U U)<|rS (CL (vJ x.ks 1 30000) (aJ) U)<|rP 3 [] I ?_
   refine cN (t:=54) U (bk fun p=>?_) (bj fun p=>?_)
   ·refine a_ 20 U<|RK C<|aO U<|WS fun _ S=>a_ 1 U<|RK S<|bw<|ab<|iE U<|ab<|ab<|ay<|KK B<|WS fun _ T=>rP 2 [] I ?_
    refine RK T<|ao<|Q1 hQ U U U ?_
    exact cI (if_neg (by rw [dG A hx (by simp only [bJ,dI]; omega)]; decide)).symm
   refine a_ 1 U<|rS (LP (aa.cells x.lU) 1 U b_ U U U)<|rS (CL (vJ x.lU 0 5000) (aJ) U)<|rP 3 [] I ?_
   refine cN (t:=60) U (bk fun q=>?_) (bj fun q=>?_)
   ·refine a_ 14 U<|RK C<|aO U<|WS fun _ AI=>a_ 1 U<|RK AI<|bw<|ab<|iE U<|ab<|ab<|ay<|KK B<|WS fun _ V=>rP 2 [] I ?_
    refine RK V<|ao<|Q1 hQ U U U ?_
    exact cI (if_neg (by rw [dG A hx (by simp only [bJ,dI]; omega)]; decide)).symm
   refine rP 2 [] (mc 1 U I) ?_
   refine cV (xs:=[.tmp 62]) (cs:=[(vI x.Av)]) U cv ja U U U U (by simp [Value.cells]) U U fun j=>?_
   refine rS (CL (dV.eq (o3 0 5000 ([x.Av]) (some ⟨j,0,none⟩) 1 (by (simp; done))) cR) (aq (aZ 0 U U (by simp [bE]) U)<|aJ) U) ?_
   refine rP 3 [] I ?_
   refine cN (t:=67) U (bk fun r=>?_) (bj fun r=>?_)
   ·refine a_ 7 U<|RK C<|aO U<|WS fun _ W=>a_ 1 U<|RK W<|bw<|ab<|iE U<|ab<|ab<|ay<|KK B<|WS fun _ X=>rP 2 [] I ?_
    refine RK X<|ao<|Q1 hQ U U U ?_
    exact cI (if_neg (by rw [dG A hx (by simp only [bJ,dI]; omega)]; decide)).symm
   refine rP 3 [] I ?_
   refine bZ (t:=70) U (bj fun s=>?_) (bk fun s=>?_)
   ·refine a_ 4 U<|RK C<|aW U<|WK AJ<|ak<|fy 3 [] (mc 2 U I) U<|aF<|aG<|KK F<|ak<|rP 2 [] I ?_
    refine aF ?_
    have f:(vI (fZ ts (i+1)))=(vI x.Id):=by rw [fU hx]
    refine aR (E ⟨(i+1),⟨om,gN A hx (by simp only [bJ,dI]; omega),by rw [fU hx]; omega,by rw [fU hx]; omega⟩⟩ _ _ _ U os (cO 4<|bo U f<|aS U) (aI [3,4]))
   refine rP 4 [] I ?_
   refine RK C<|bM U (bj fun u=>?_) (bk fun u=>?_)
   ·refine WK AJ<|ak<|fy 3 [] (mc 2 U I) U<|aF<|aG<|KK F<|ak<|rP 2 [] I ?_
    refine aF ?_
    have e:(vI (fZ ts (i+1)))=(vI x.Id):=by rw [fU hx]
    refine aR (E ⟨(i+1),⟨om,gN A hx (by simp only [bJ,dI]; omega),by rw [fU hx]; omega,by rw [fU hx]; omega⟩⟩ _ _ _ U os (cO 4<|bo U e<|aS U) (aI [3,4]))
   refine WS fun _ Y=>a_ 1 U<|RK Y<|bw<|ab<|iE U<|ab<|ab<|ay<|KK B<|WS fun _ Z=>rP 2 [] I ?_
   refine RK Z<|ao<|Q1 hQ U U U ?_
   exact cI (if_neg (by rw [dG A hx (by simp only [bJ,dI]; omega)]; decide)).symm
  refine ak<|rP 2 [] (mc 0 U I) ?_
  refine rS (SX (pd (m:=x.iX) U U O2 oz (nU (by first|assumption|omega))) U U)<|cV (xs:=[.tmp 33]) (cs:=[(vI x.iX)]) U cv ja U U U U (by simp [Value.cells]) U U fun g=>?_
  refine rS (CL (dV.eq (o3 1 2 ([x.iX]) (some ⟨g,0,none⟩) 1 (by (simp; done))) cR) (aq (aZ 0 U U (by simp [bE]) U)<|aJ) U) ?_
  refine rP 1 [] I ?_
  refine bZ (t:=36) U (aQ fun n=>?_) (aP fun n=>?_)
  ·refine rP 5 [] I ?_
   refine aF ?_
   have d:(decide ((1≤x.iX∧x.iX≤2)∧x.eE.Lo≤x.eE.Hi∧500≤x.eE.Lo∧x.eE.Hi≤20000))=false:=cd om
   refine aR (jB (cO 8<|ny U d<|dw.nil _) (aI [1,2,3]) (H ()))
  refine a_ 1 U<|rS (LP (aa.cells x.eE) 1 U b_ U U U)<|rS (CL (vJ x.eE 500 20000) (aJ) U)<|rP 2 [] I ?_
  refine aF ?_
  have c:(decide ((1≤x.iX∧x.iX≤2)∧x.eE.Lo≤x.eE.Hi∧500≤x.eE.Lo∧x.eE.Hi≤20000))=(decide (x.eE.Lo≤x.eE.Hi∧500≤x.eE.Lo∧x.eE.Hi≤20000)):=decide_eq_decide.2 om
  refine aR (jB (cO 8<|ny U c<|dw.nil _) (aI [1,2,3]) (H ()))
 refine ak<|fy 2 [] (mc 0 U I) U<|rS (BI U mq)<|rP 1 [] I ?_
 refine bZ (t:=25) U (aQ fun l=>?_) (aP fun l=>?_)
 ·refine rP 6 [] I ?_
  refine aF ?_
  have b:(decide (x.iX=0∧x.eE.Lo=0∧x.eE.Hi=0))=false:=cd om
  refine aR (jB (cO 7<|ny U b<|dw.nil _) (aI [0,1,2]) (G ()))
 refine a_ 1 U<|rS (LP (aa.cells x.eE) 0 U b_ U U U)<|rS (SX (bh (xs:=[]) (cs:=(aa.cells (aa.mk 0 0))) U U (bg gn U)) U U)<|rS (BI U (tU _ _ x.eE (aa.mk 0 0)))<|rP 2 [] I ?_
 refine aF ?_
 have a:(decide (x.iX=0∧x.eE.Lo=0∧x.eE.Hi=0))=(decide (x.eE=(aa.mk 0 0))):=decide_eq_decide.2 (by (simp only [aa.ext_iff] at *; omega))
 refine aR (jB (cO 7<|ny U a<|dw.nil _) (aI [0,1,2]) (G ()))
end
section
open Go.RowKit
theorem Jx (n lo hi:Int) (g1 g2:Nat):
 dV Tryz.prog 64 [(vI n),(vP g1),(vP g2)] [(bU g1 3 [(vI lo)]),(bU g2 3 [(vI hi)])] (vB (decide (n<lo∨hi<n))):=by
 refine bx kr Tryz.func64 U U fun D Q hQ hN=>?_
 try dsimp only
 refine WS fun _ B=>a_ 1 U<|RK B<|WS fun _ A=>rP 4 [] (mr 0 U I) ?_
 refine cN (t:=8) U (aP fun C=>?_) (aQ fun C=>?_)
 ·refine rP 5 [] I ?_
  refine RK A<|ao<|Q1 hQ U U U ?_
  exact cB (fI om).symm
 refine rP 5 [] (mr 1 U I) ?_
 refine RK A<|ao<|Q1 hQ U U U ?_
 exact cB (decide_eq_decide.2 om)
theorem j2 (lo hi:Int) (l:List Int) (lA:OA) (lC:Nat) (hlen:l.length≤1000000):
 dV Tryz.prog 37 [(vI lo),(vI hi),(vS lA l.length lC)] [(rd lA l.length 1 (l.map iC))] (vB (pT lo hi l)):=by
 refine bx kr Tryz.func37 U U fun F Q hQ hN=>?_
 try dsimp only
 refine WS fun _ D=>uT U U fun A=>uT U U fun B=>a_ 1 U<|RK D<|WS fun _ E=>rP 1 [] I ?_
 refine rS (FU U) ?_
 refine rS (CL (r9 l lA lC (Value.func (.func 64) [].toArray [(vP A),(vP B)].toArray) (fun C=>(decide (C<lo∨hi<C))) (e7 [(bU A 3 [(vI lo)]),(bU B 3 [(vI hi)])]) (by intro C _; exact nc (fi:=[]) (ca:=[(vP A),(vP B)]) (l4 (Jx C lo hi A B) (bf [0,1]))) hlen) (fq 2 U U<|aq (l0 (bf [1,0]))<|aJ) U) ?_
 refine rP 2 [] I ?_
 refine RK E<|ao ?_
 exact Q1 hQ U U U U
theorem F6 (s:aa):
 dV Tryz.prog 65 [(vA (aa.cells s))] [] (vB (decide (iv s))):=by
 refine bx kr Tryz.func65 U U fun F Q hQ hN=>?_
 try dsimp only
 refine WS fun _ B=>fQ U fun E=>a_ 1 U<|RK B<|WS fun _ A=>rP 4 [] (mc 0 U I) ?_
 refine cV (xs:=[.tmp 4,.tmp 6]) (cs:=[(vI s.Lo),(vI s.Hi)]) U cv ja U U U U (by simp [Value.cells]) U U fun C=>?_
 refine rS (CL (dV.eq (j2 1 600000 ([s.Lo,s.Hi]) (some ⟨C,0,none⟩) 2 (by (simp; done))) qQ) (aq (aZ 0 U U (by simp [bE]) U)<|aJ) U) ?_
 refine rP 1 [] I ?_
 refine bZ (t:=9) U (aQ fun D=>?_) (aP fun D=>?_)
 ·refine rP 7 [] I ?_
  refine RK A<|ao<|Q1 hQ U U U ?_
  simp only [iv]
  exact cB (cd om).symm
 refine rP 7 [] (mc 1 U I) ?_
 refine RK A<|ao<|Q1 hQ U U U ?_
 simp only [iv]
 exact cB (decide_eq_decide.2 om)
theorem IJ (d:aw) (sgA:OA) (sgC:Nat):
 dV Tryz.prog 198 [(vA (bq.cells (bq.mk d.Out d.eK d.Time (mA d.ct sgA sgC))))] [(rd sgA d.ct.ah.length 2 (d.ct.ah.map aM.cells))] (vB (decide (mj d.ct))):=by
 refine bx kr Tryz.func198 U U fun F Q hQ hN=>?_
 try dsimp only
 refine WS fun _ B=>fQ U fun E=>a_ 1 U<|RK B<|WS fun _ A=>rP 5 [] (mc 0 U I) ?_
 refine bZ (t:=7) U (aQ fun C=>?_) (aP fun C=>?_)
 ·refine rP 13 [] I ?_
  refine RK A<|ao<|Q1 hQ U U U ?_
  simp only [mj]
  exact cB (cd om).symm
 refine rP 6 [] (mc 0 U I) ?_
 refine bZ (t:=13) U (aQ fun D=>?_) (aP fun D=>?_)
 ·refine rP 7 [] I ?_
  refine RK A<|ao<|Q1 hQ U U U ?_
  simp only [mj]
  exact cB (cd om).symm
 refine rP 7 [] (mc 0 U I) ?_
 refine RK A<|ao<|Q1 hQ U U U ?_
 simp only [mj]
 exact cB (decide_eq_decide.2 om)
theorem RB (d:aw) (sgA:OA) (sgC:Nat):
 dV Tryz.prog 196 [(vA (bq.cells (bq.mk d.Out d.eK d.Time (mA d.ct sgA sgC))))] [(rd sgA d.ct.ah.length 2 (d.ct.ah.map aM.cells))] (vB d.Out):=by
 refine bx kr Tryz.func196 U U fun D Q hQ hN=>?_
 try dsimp only
 refine WS fun _ A=>fQ U fun C=>a_ 1 U<|RK A<|WS fun _ B=>rP 3 [] (mc 0 U I) ?_
 refine RK B<|ao<|Q1 hQ U U U ?_
 rfl
theorem SR (d:aw) (sgA:OA) (sgC:Nat):
 dV Tryz.prog 199 [(vA (bq.cells (bq.mk d.Out d.eK d.Time (mA d.ct sgA sgC))))] [(rd sgA d.ct.ah.length 2 (d.ct.ah.map aM.cells))] (vB d.eK):=by
 refine bx kr Tryz.func199 U U fun D Q hQ hN=>?_
 try dsimp only
 refine WS fun _ A=>fQ U fun C=>a_ 1 U<|RK A<|WS fun _ B=>rP 3 [] (mc 0 U I) ?_
 refine RK B<|ao<|Q1 hQ U U U ?_
 rfl
theorem Su (d:aw) (sgA:OA) (sgC:Nat):
 dV Tryz.prog 201 [(vA (bq.cells (bq.mk d.Out d.eK d.Time (mA d.ct sgA sgC))))] [(rd sgA d.ct.ah.length 2 (d.ct.ah.map aM.cells))] (vB true):=by
 refine bx kr Tryz.func201 U U fun D Q hQ hN=>?_
 try dsimp only
 refine WS fun _ A=>fQ U fun C=>a_ 1 U<|RK A<|WS fun _ B=>rP 1 [] I ?_
 refine RK B<|ao<|Q1 hQ U U U ?_
 rfl
end
section
open Go.RowKit
theorem AD (r:bT) (kA:OA) (kC:Nat) (az:List RA) (cA:OA) (cC:Nat) (bA:OA) (bC:Nat) (slA:OA) (slC:Nat) (drA:OA) (drC:Nat) (ha:List cM) (heA:OA) (heC:Nat) (tz:List RA) (tA:OA) (tC:Nat) (ms:Value) (gw:Nat) (l:List Int) (lA:OA) (lC:Nat) (hin:eW r az ha) (hlen:l.length≤1000000):
 dV Tryz.prog 38 [(vP gw),(vS lA l.length lC)] [(rd kA r.an.aN.length 9 (r.an.aN.map al.cells)),(rd cA r.an.aj.length 2 (List.zipWith av.cells r.an.aj az)),(e7 (aU av.g0 r.an.aj az)),(rd bA r.an.ae.length 4 (r.an.ae.map bB.cells)),(rd slA r.aK.length 1 (r.aK.map iC)),(rd drA r.bL.length 1 (r.bL.map iC)),(rd heA r.ar.length 1 (List.zipWith cJ r.ar ha)),(e7 (aU im r.ar ha)),(rd tA ((cL r).length) 1 (List.zipWith D7 (cL r) tz)),(e7 (aU Mo (cL r) tz)),(bU gw 91 (fM.cells (fM.mk (oD r kA kC cA cC bA bC slA slC drA drC heA heC) (bp.mk tA ((cL r).length) tC) ms))),(rd lA l.length 1 (l.map iC))] (vB (pT 0 ((r.aK.length:Int)-1) l)):=by
 have C:=hin.line
 have G:=hin.iN
 have H:=hin.has
 have E:=hin.iM
 have D:=hin.draw
 have F:=dB (r:=r)
 refine bx kr Tryz.func38 U U fun AA Q hQ hN=>?_
 try dsimp only
 refine WS fun _ A=>a_ 1 U<|RK A<|WS fun _ B=>a_ 1 U<|rS (SX (bI U U) U U)<|fy 6 [] (mr 10 U I) U<|rS (CL (j2 0 ((r.aK.length:Int)-1) l lA lC hlen) (bf [11]) U)<|rP 1 [] I ?_
 refine RK B<|ao ?_
 exact Q1 hQ U U U U
theorem xu (a b:Bool):
 dV Tryz.prog 39 [(vB a),(vB b)] [] (Value.int .u8 (if a=true then 2 else if b=true then 1 else 0)):=by
 refine bx kr Tryz.func39 U U fun J Q hQ hN=>?_
 try dsimp only
 refine WS fun _ C=>a_ 1 U<|RK C<|ai fun _ D=>ax<|WS fun _ E=>rP 2 [] I ?_
 refine RK E<|cy U (fun A=>?_) (fun A=>?_)
 ·refine WS fun _ F=>rP 1 [] I ?_
  refine RK F<|ao<|Q1 hQ U U U ?_
  rw [if_pos A]
 refine WS fun _ G=>rP 2 [] I ?_
 refine RK G<|cy U (fun B=>?_) (fun B=>?_)
 ·refine WS fun _ H=>rP 1 [] I ?_
  refine RK H<|ao<|Q1 hQ U U U ?_
  (rw [if_neg (by rw [A]; decide),if_pos B])
 refine bV<|aG<|KK D<|WS fun _ AA=>rP 1 [] I ?_
 refine RK AA<|ao<|Q1 hQ U U U ?_
 (rw [if_neg (by rw [A]; decide),if_neg (by rw [B]; decide)])
end
section
open Go.RowKit
theorem QH {P:Program} {t:TypeId} {x y:Operand} {k e:TypeId} {p:Option Nat} (h:P.underlying t=some (.map k e)):ic P .eql t x y (.map p) (.map none) (.bool p.isNone):=fun w=>by
 have A:(Op.equal t (.map p) (.map none)).run P w= .ok p.isNone w:=by
  unfold Op.equal
  show (Op.equalIn (9999+1) t (.map p) (.map none)).run P w=_
  unfold Op.equalIn
  cases p<;>simp [run_underlying h]
 have B:eqGuard .eql t x y (.map p) (.map none)=pure ():=rfl
 rw [B]
 show (Sem.run P (do let b ← Op.equal t (.map p) (.map none); pure (vB b)) w)=_
 simp [A]
theorem E5 {P:Program} {r:Nat} {es:Array MapEntry} {clock:Nat} {w:World} (t:TypeId) (hb:w.heap[r]? =some (.map es clock)):
 (Extern.MapsClone.clone #[.iface t (.map (some r))]).run P w= .ok (.iface t (.map (some w.heap.size))) (w.alloc (.map es clock)):=by
 have e:Extern.MapsClone.clone #[.iface t (.map (some r))]=(getObj r >>= fun o=>match o with
  | .map entries clock=>(newObj (.map entries clock) >>= fun n=>pure (.iface t (.map (some n))))
  |_=>stuck "maps.clone: a map expected"):=rfl
 rw [e]
 simp [MapKept.run_getObj_map hb,Result.andThen,go_sem]
theorem BM {P:Program} {xt t k e:TypeId} {v:Value} {w:World} (h:P.underlying t=some (.map k e)):(Instr.typeAssert (.iface t v) xt t false).run P w= .ok v w:=by
 simp [Instr.typeAssert,run_underlying h,go_sem,Result.andThen]
theorem oe {C:List au} {g t:Nat} {cs:List Value} {n sz:Nat} {es:List (List Value)} (i:Nat) (hC:C[i]? =some (bU g t cs).ro) (h1:es.length=n) (h2: ∀ e∈es,e.length=sz) (h3:es.flatten=cs):i_ C (rd (some ⟨g,0,none⟩) n sz es).holds:=fun w hw=>
 uB (show (bU g t cs).holds w from hw (bU g t cs).ro (aT hC)) h1 h2 ⟨[],by simp [h3]⟩
section
variable {E:e_} {ops:Array Oper} {Q:cW} {rest:List Oper} {D:List Deferred} {L:List (Nat×Value)} {C:List au}
variable {dst:Option Nat} {d:Nat} {ty:TypeId} {ps:String} {af:Array Edge} {g:Option (Nat×Bool)}
theorem KQ {P:Program} {t k e:TypeId} {v:Value} {w:World} (h:P.underlying t=some (.map k e)):(Instr.makeInterface t v).run P w= .ok (.iface t v) w:=by
 simp [Instr.makeInterface,run_underlying h,Result.andThen]
theorem N6 {t k e:TypeId} {x:Operand} {v:Value} (hg:jq ops L g=true) (hx:ev L x=some v) (ht:E.P.underlying t=some (.map k e)):SD E ops ⟨dst,.makeInterface t x,ty,ps,af,g⟩ D L C (.iface t v):=
 dE hg sm fun a w hf _=>by
  have e:=hf.ev hx
  simp only [execOp,e]
  rw [Sem.run_bind,KQ ht]
  simp
theorem RP {xt t kt et:TypeId} {x:Operand} {v:Value} (hg:jq ops L g=true) (hx:ev L x=some (.iface t v)) (ht:E.P.underlying t=some (.map kt et)):SD E ops ⟨dst,.typeAssert x xt t false,ty,ps,af,g⟩ D L C v:=
 dE hg sm fun a w hf _=>by
  have e:=hf.ev hx
  simp only [execOp,e]
  rw [Sem.run_bind,BM ht]
  simp
theorem IG {K:Type} [DecidableEq K] {kV:K→Value} {x:Operand} {ts:Array TypeId} {f:FuncId} {fn:Func} {t b:Nat} {m:List (K×Value)} (hg:jq ops L g=true) (hx:ev L x=some (.iface t (.map (some b)))) (hf:E.P.funcs[f]? =some fn) (hname:(fn.name=="runtime.NumGoroutine")=false)
 (hb:fn.body.isNone=true) (hn:Extern.findNext fn=none) (he:Extern.find fn=some Extern.MapsClone.clone) (hC:i_ C (hE kV b m).holds) (hd:Nat.blt d E.n=true) (k: ∀ b',RJ E ops Q rest D ((d,.iface t (.map (some b')))::L) (hE kV b' m::C)):
 RJ E ops Q (⟨some d,.call {callee:= .value (.func f),args:= #[x],argTypes:=ts},ty,ps,af,g⟩::rest) D L C:=by
 intro a w B hs
 have hd':d<E.n:=by rw [← Nat.blt_eq]; exact hd
 obtain ⟨es,c,F,hi⟩:=hC w hs.holds
 unfold rI
 rw [if_pos (dN B hg)]
 refine gO (v:= .iface t (.map (some w.heap.size))) (w':=w.alloc (.map es c)) sm ?_ ?_
 ·have e:=B.ev hx
  have G:a.eval (.func f)= .func (.func f) #[] #[]:=rfl
  simp [execOp,resolve,e,G,Deferred.ofValue,invoke,run_callFunc_extern hf hname hb hn he,E5 t F]
 ·refine k _ _ _ (B.put hd' _) (hs.grow (dL.alloc no w _) (N:=[hE kV w.heap.size m]) ⟨fun A hA=>?_,fun A hA b hb=>?_,List.pairwise_singleton _ _⟩)
  ·simp at hA; subst hA; exact ⟨es,c,heap_alloc_new w _,hi⟩
  ·simp at hA; subst hA; exact Nat.le_of_eq (Eq.symm hb)
end
end
section
open Go.RowKit
theorem xz (lA:OA) (lN lC:Nat):
 lD Tryz.prog 60 [(vS lA lN lC)] [] (fun (x:Nat)=>(Value.func (.func 81) [].toArray [(vP x)].toArray)) (fun (x:Nat)=>True) (fun (x:Nat)=>[(bU x 32 [(vS lA lN lC)])]):=by
 refine di kr Tryz.func60 U U fun D Q hQ hN=>?_
 try dsimp only
 refine WS fun _ A=>uT U U fun C=>a_ 1 U<|RK A<|WS fun _ B=>rS (FU U)<|rP 1 [] I ?_
 refine RK B<|ao<|LX hQ C [0] [] I U U U U ?_
 trivial
theorem KT (nl:List Int) (nlA:OA) (nlC g1:Nat) (hlen:nl.length≤12):
 MZ Tryz.prog 81 [] [(vP g1)] [(rd nlA nl.length 1 (nl.map iC)),(bU g1 32 [(vS nlA nl.length nlC)])] (qg nl):=by
 refine Fz kr Tryz.func81 U U fun l J Z A0 T Q hY K AB hQ hN=>?_
 try dsimp only
 refine WS fun _ M=>rP 3 [] (mr 2 U I) ?_
 refine RK M<|ax ?_
 have F:(0≤nl.length)∧(J 0 A0)∧(Fo A0 T A0):=by exact ⟨Nat.zero_le _,K,AB⟩
 refine bK (ι:={z:Nat×au // (z.1≤nl.length)∧(J z.1 z.2)∧(Fo A0 T z.2)}) [0,1,5,6] [1] U U (fun z=>[(7,(vI (z.1.1:Int)))]) (fun z=>[z.1.2]) (fun _=>rfl) (fun _=>rfl) (fun z=>nl.length-z.1.1) ⟨(0,A0),F⟩ (aS U) (aI [1,0]) ?_
 clear F
 rintro ⟨⟨i,A⟩,⟨G,B,C⟩⟩ J2 L
 try dsimp only at G B C
 try dsimp only
 refine WS fun _ N=>rP 1 [] I ?_
 refine RK N<|ai fun _ O=>bM U (aQ fun AA=>?_) (aP fun AA=>?_)
 ·refine bw<|ab<|ab<|ay ?_
  refine hN _ _ _ (gX (vs:=[]) trivial fun w hs=>SK 1 U (by rw [tL]; have e:nl.length=i:=om; rw [e]; exact B) C hs)
 refine WK O<|ai fun _ P=>ax<|WS fun _ R=>?_
 obtain ⟨x,hx⟩:=aL nl i om
 have S:=bH iC hx
 refine rS (IA i U (aD 0 U) cv dc om om)<|rS (gp i 0 (vI x) U b_ (aD 0 U) S U dc U)<|a_ 1 U<|RK R<|WS fun _ H=>rP 2 [] I ?_
 refine FP 1 hY B C U U U (HQ hx) U U (fun B9 E D=>?_) (fun B9 E D=>?_)
 rotate_left 1
 ·refine rP 1 [] I ?_
  refine RK H<|aO U<|ao ?_
  refine hQ _ _ _ (gX (vs:=[]) trivial fun w hs=>Pk 1 U E D hs)
 refine a_ 1 U<|RK H<|aW U<|bV<|aG<|KK P<|ak<|rP 2 [] I ?_
 refine aF ?_
 refine aR (L ⟨((i+1),B9),⟨om,E,D⟩⟩ _ _ _ U os (aS U) (aI [0,1]))
end
section
open Go.RowKit
theorem Nj (x:Int):
 dV Tryz.prog 134 [(vI x)] [] (vB false):=by
 refine bx kr Tryz.func134 U U fun C Q hQ hN=>?_
 try dsimp only
 refine WS fun _ A=>a_ 1 U<|RK A<|WS fun _ B=>rP 4 [] I ?_
 refine RK B<|ao<|Q1 hQ U U U ?_
 simp
theorem ML (x y:Int):
 dV Tryz.prog 105 [(vI x),(vI y)] [] (vB (decide (x<y))):=by
 refine bx kr Tryz.func105 U U fun C Q hQ hN=>?_
 try dsimp only
 refine WS fun _ A=>a_ 1 U<|RK A<|WS fun _ B=>a_ 1 U<|rS (CL (Nj x) (aJ) U)<|rP 11 [] I ?_
 refine RK B<|ao<|Q1 hQ U U U ?_
 exact cB (decide_eq_decide.2 om)
theorem Ht (l:List Int) (lA:OA) (lC:Nat) (hlen:l.length≤1000000):
 Dl Tryz.prog 99 [(vS lA l.length lC),(vI 0),(vI (l.length:Int))] [] (own lA lC 3 1 (l.map iC)) (fun (x:(List Int))=>(vT [])) (fun (x:(List Int))=>x.Perm l∧x.Pairwise (· ≤ ·)) (fun (x:(List Int))=>(own lA lC 3 1 (x.map iC))):=by
 refine mE kr Tryz.func99 U U fun g Q hQ hN=>?_
 try dsimp only
 refine WS fun _ X=>a_ 1 U<|rS (SX (bS (r:= .int .i64 1) U U U (gY ⟨dc,dc⟩)) U U)<|rP 1 [] I ?_
 refine RK X<|ax ?_
 have A:(1≤1∧(1≤l.length∨1=1))∧(l.length=l.length)∧(l.Perm l)∧(QP l 1):=by exact ⟨om,rfl,List.Perm.refl _,MY⟩
 refine bK (ι:={z:Nat×(List Int) // (1≤z.1∧(z.1≤l.length∨z.1=1))∧(z.2.length=l.length)∧(z.2.Perm l)∧(QP z.2 z.1)}) [0,1,2] [] U U (fun z=>[(6,(vI (z.1.1:Int)))]) (fun z=>[(own lA lC 3 1 (z.1.2.map iC))]) (fun _=>rfl) (fun _=>rfl) (fun z=>l.length-z.1.1) ⟨(1,l),A⟩ (aS U) (aI [0]) ?_
 clear A
 rintro ⟨⟨i,m⟩,⟨K,AB,E,F⟩⟩ J2 M
 try dsimp only at K AB E F
 try dsimp only
 refine ai fun _ Y=>WS fun _ Z=>rP 3 [] I ?_
 refine RK Z<|bM U (aQ fun e=>?_) (aP fun e=>?_)
 ·refine bw<|ab<|ab<|ay<|LM hN m 0 [] I U U U U ?_
  exact ⟨E,NV F om⟩
 refine WK Y<|ai fun _ O=>ax<|WS fun _ b=>rP 2 [] I ?_
 refine RK b<|ax ?_
 have A:(i≤i)∧(m.length=l.length)∧(m.Perm l)∧(Qh m i i):=by exact ⟨Nat.le_refl _,AB,E,Hj F om⟩
 refine bK (ι:={z:Nat×(List Int) // (z.1≤i)∧(z.2.length=l.length)∧(z.2.Perm l)∧(Qh z.2 i z.1)}) [0,1,2,6] [] U U (fun z=>[(7,(vI (z.1.1:Int)))]) (fun z=>[(own lA lC 3 1 (z.1.2.map iC))]) (fun _=>rfl) (fun _=>rfl) (fun z=>z.1.1) ⟨(i,m),A⟩ (aS U) (aI [0]) ?_
 clear A
 rintro ⟨⟨j,q⟩,⟨G,B,C,D⟩⟩ J8 W
 try dsimp only at G B C D
 try dsimp only
 refine ai fun _ c=>ai fun _ J=>du cq 15 kr<|dP 4 [] I ?_
 refine ji (t:=19) U (aQ fun hj=>?_) (aP fun hj=>?_)
 ·refine lv 11 U<|cH<|RK J<|aW U<|bw<|ab<|ab<|ay<|aG<|KK O<|ak<|rP 3 [] I ?_
  refine aF ?_
  refine aR (M ⟨((i+1),q),⟨om,B,C,by exact Kd om D⟩⟩ _ _ _ U (by simp only []; omega) (aS U) (aI [0]))
 refine dP 2 [] I ?_
 obtain ⟨x,hx⟩:=aL q j om
 have L:=bH iC hx
 refine dS (IA j U (ag (n:=l.length) 0 U sq) cv dc om om) ?_
 refine dS (gp j 0 (vI x) U b_ (ag (n:=q.length) 0 U sm) L U dc U)<|dP 3 [] I ?_
 obtain ⟨y,hy⟩:=aL q (j-1) om
 have V:=bH iC hy
 refine dS (IA (j-1) U (ag (n:=l.length) 0 U sq) cv dc om om) ?_
 refine dS (gp (j-1) 0 (vI y) U b_ (ag (n:=q.length) 0 U sm) V U dc U)<|dS (CL (ML x y) (aJ) U)<|dP 1 [] I ?_
 refine cH<|RK J<|bM U (aQ fun H=>?_) (aP fun H=>?_)
 ·refine bw<|ab<|ab<|ay<|aG<|KK O<|ak<|rP 3 [] I ?_
  refine aF ?_
  refine aR (M ⟨((i+1),q),⟨om,B,C,by exact Jk hx hy om G H D⟩⟩ _ _ _ U (by simp only []; omega) (aS U) (aI [0]))
 refine WK c<|ai fun _ N=>ax<|dD cq [15,16,17] [8,9,12,13,14] [] [] [0] U U U U U<|eS U (MV U)<|eS U (MV U)<|eS U (MV U)<|eS U (MV U)<|eS U (BI U (qk ⟨om,om⟩))<|eS U (MV U)<|eS U (MV U)<|eS U (BI U (qk ⟨om,om⟩)) ?_
 refine fS U (IA (j-1) U (ag (n:=l.length) 0 U sq) cv dc om om) ?_
 refine fS U (gp (j-1) 0 (vI y) U b_ (ag (n:=q.length) 0 U sm) V U dc U)<|eS U (MV U)<|eS U (MV U) ?_
 refine fS U (IA j U (ag (n:=l.length) 0 U sq) cv dc om om) ?_
 refine fS U (gp j 0 (vI x) U b_ (ag (n:=q.length) 0 U sm) L U dc U) ?_
 refine fS U (IA j U (ag (n:=l.length) 0 U sq) cv dc om om) ?_
 refine eX U<|bX U fun T12 P=>eC (k:=j) (o:=0) (vs:=[(vI y)]) (es':=(List.map iC (q.set j y))) (C':=[(own lA lC 3 1 (List.map iC (q.set j y)))]) 0 U U U B1 U U U U L U dc (by exact (List.map_set (f:=iC) (l:=q) (i:=j) (a:=y)).symm) U<|aF (P _ _ (aI []) ?_)
 refine bX U fun T13 R=>?_
 obtain ⟨d,AA⟩:=aL (q.set j y) (j-1) os
 have hx15m:(List.map iC (q.set j y))[(j-1)]? =some (iC d):=by rw [fw,AA]; rfl
 refine rS (IA (j-1) U (ag (n:=l.length) 0 U sq) cv dc om om) ?_
 refine aF (R _ _ (aI []) ?_)
 refine bX U fun T16 S=>eC (k:=(j-1)) (o:=0) (vs:=[(vI x)]) (es':=(List.map iC ((q.set j y).set (j-1) x))) (C':=[(own lA lC 3 1 (List.map iC ((q.set j y).set (j-1) x)))]) 0 U U U B1 U U U U hx15m U dc (by exact (List.map_set (f:=iC) (l:=(q.set j y)) (i:=(j-1)) (a:=x)).symm) U<|aF (S _ _ (aI []) ?_)
 refine fF U<|aG<|KK N<|ak<|rP 3 [] I ?_
 refine aF ?_
 have T:(vI (((j-1):Nat):Int))=(vI ((j:Int)-1)):=by exact cI om
 refine aR (W ⟨((j-1),((q.set j y).set (j-1) x)),⟨om,by simp; exact B,(H_ hx hy).trans C,Lc hx hy om G H D⟩⟩ _ _ _ U (by simp only []; omega) (cO 4<|bo U T<|dw.nil _) (aI [0]))
theorem MB (x:Int) (hx:0≤x∧x≤100):
 lD Tryz.prog 109 [(Value.int .u64 x)] [] (fun (x:Int)=>(vI x)) (fun (x:Int)=>True) (fun (x:Int)=>[]):=by
 refine di kr Tryz.func109 U U fun N Q hQ hN=>?_
 try dsimp only
 refine WS fun _ D=>a_ 1 U<|RK D<|ai fun _ E=>WS fun _ F=>rP 1 [] I ?_
 refine rS (BI U FL)<|RK F<|cy U (aP fun L=>?_) (aQ fun L=>?_)
 ·exfalso; omega
 refine WK E<|ai fun _ G=>WS fun _ H=>rP 1 [] I ?_
 refine rS (BI U FL)<|RK H<|cy U (aP fun M=>?_) (aQ fun M=>?_)
 ·exfalso; omega
 refine WK G<|ai fun _ AA=>WS fun _ J=>rP 1 [] I ?_
 refine rS (BI U FL)<|RK J<|cy U (aP fun C=>?_) (aQ fun C=>?_)
 ·exfalso; omega
 refine WK AA<|WS fun _ B=>a_ 2 U<|rS (SX (pd (m:=x) U U Sh O2 (BA (by first|assumption|omega))) U U)<|QJ (k:=(x).toNat) U U U VJ om (Nat.lt_of_lt_of_le (m:=200) om (of_decide_eq_true kr)) U fun A K=>rS (SX (pd (m:=A) U U O2 oz (nU (by first|assumption|omega))) U U)<|rP 2 [] I ?_
 refine RK B<|ao<|LX hQ (0+A) [] [] I U U U U ?_
 trivial
theorem PA (x:Int) (hx:0≤x∧x≤100):
 lD Tryz.prog 75 [(Value.int .u64 x)] [] (fun (x:Int)=>(vI x)) (fun (x:Int)=>True) (fun (x:Int)=>[]):=by
 refine di kr Tryz.func75 U U fun F Q hQ hN=>?_
 try dsimp only
 refine WS fun _ A=>a_ 1 U<|RK A<|ai fun _ B=>aW U<|WK B<|WS fun _ C=>rP 1 [] I ?_
 refine cX (MB x hx) (aJ) U fun E D=>?_
 try dsimp only
 refine rP 1 [] I ?_
 refine RK C<|ao<|LX hQ E [] [] I U U U U ?_
 trivial
theorem SC (l:List Int) (lA:OA) (lC:Nat) (u:Int) (hlen:l.length≤12):
 Dl Tryz.prog 74 [(vS lA l.length lC),(vI 0),(vI (l.length:Int)),(vI u)] [] (own lA lC 3 1 (l.map iC)) (fun (x:(List Int))=>(vT [])) (fun (x:(List Int))=>x.Perm l∧x.Pairwise (· ≤ ·)) (fun (x:(List Int))=>(own lA lC 3 1 (x.map iC))):=by
 refine mE kr Tryz.func74 U U fun K Q hQ hN=>?_
 try dsimp only
 refine WS fun _ A=>a_ 1 U<|RK A<|WS fun _ B=>a_ 1 U<|RK B<|ax<|jE 1<|eg fun R3 AA=>ax<|WS fun _ C=>a_ 4 U<|RK C<|ai fun _ H=>WS fun _ D=>rP 2 [] I ?_
 refine RK D<|bM U (aQ fun G=>?_) (aP fun G=>?_)
 ·exfalso; omega
 refine WS fun _ E=>rP 3 [] I ?_
 refine iP 0 U U U U (Ht l lA lC om) U kd U (fun J F=>?_)
 try dsimp only
 refine RK E<|ao<|LM hQ J 0 [] I U U U U ?_
 assumption
theorem AJ (l:List Int) (lA:OA) (lC:Nat) (hlen:l.length≤12):
 Dl Tryz.prog 51 [(vS lA l.length lC)] [] (own lA lC 3 1 (l.map iC)) (fun (x:(List Int))=>(vT [])) (fun (x:(List Int))=>x.Perm l∧x.Pairwise (· ≤ ·)) (fun (x:(List Int))=>(own lA lC 3 1 (x.map iC))):=by
 refine mE kr Tryz.func51 U U fun F Q hQ hN=>?_
 try dsimp only
 refine WS fun _ A=>a_ 3 U<|RK A<|ak<|rP 3 [] I ?_
 refine rS (SX (pd (m:=(l.length:Int)) U U oz Tt (AT (by first|assumption|omega))) U U)<|cX (PA (l.length:Int) om) (aJ) U fun E B=>?_
 try dsimp only
 refine iP 0 U U U U (SC l lA lC E hlen) U kd U (fun D C=>?_)
 try dsimp only
 refine aF<|LM hN D 0 [] I U U U U ?_
 assumption
end
section
open Go.RowKit
theorem IE (nl:List Int) (nlA:OA) (nlC g1:Nat) (hlen:nl.length≤12):
 lD Tryz.prog 94 [(vS none 0 0),(Value.func (.func 81) [].toArray [(vP g1)].toArray)] [(rd nlA nl.length 1 (nl.map iC)),(bU g1 32 [(vS nlA nl.length nlC)])] (fun (x:(OA)×Nat)=>(vS x.1 nl.length x.2)) (fun (x:(OA)×Nat)=>True) (fun (x:(OA)×Nat)=>[(own x.1 x.2 3 1 (nl.map iC))]):=by
 refine di kr Tryz.func94 U U fun R Q hQ hN=>?_
 try dsimp only
 refine WS fun _ D=>uT U U fun J=>a_ 1 U<|RK D<|ai fun _ E=>WS fun _ G=>rP 1 [] I ?_
 refine RK G<|ax<|kl 1 U (by exact fun _ h=>h)<|kl 3 U (by exact fun _ h=>h)<|fV 3 1 ?_
 refine E9 (L0:=[(2,(vP J))]) (F:=[(rd nlA nl.length 1 (nl.map iC)).ro,(bU g1 32 [(vS nlA nl.length nlC)]).ro]) (xs:=(qg nl)) (fun k (y:(OA)×Nat)=>True) (fun k y=>[(own y.1 y.2 3 1 ((nl.take k).map iC)),(bU J 32 [(vS y.1 ((nl.take k).length) y.2)]),(rd nlA nl.length 1 (nl.map iC)).ro]) (fun _ (_:Unit)=>False) (fun _ _=>[]) [0,3,4] [2,1] (none,0) U U (KT nl nlA nlC g1 (by first|assumption|omega|(simp; done))) U U U (by trivial) (by simp only [List.forall_mem_cons,List.not_mem_nil,false_imp_iff,implies_true,and_true]; exact ⟨⟨_,sm,(dC (bP _))⟩,⟨_,sm,(dC (bP _))⟩⟩) (by exact Dw) U (aS U) ?_ ?_ (fun _ _ _ h=>h.elim) (fun _ _ h=>h.elim)
 rotate_left 1
 ·rintro O ⟨a,c⟩ AA
  try dsimp only
  rw [yh]
  refine aG<|KK E<|WS fun _ A=>rP 2 [] (mc 4 U I) ?_
  refine RK A<|ao<|hQ _ _ _ (ox 0 U U<|gX (vs:=[(vS a nl.length c)]) ⟨U,trivial⟩ fun w hs=>JB (a,c) [3] ?_ ?_ U U U hs)
  ·rfl
  ·trivial
 rintro k x ⟨a,c⟩ l ra rb S T K5 Qr6 hx K H B L M
 obtain ⟨y,hy,rfl⟩:=Hr hx
 try dsimp only
 refine ak<|rP 1 [] I ?_
 refine aF<|aR (H _ _ ?_)
 refine ax<|ak<|rP 2 [] (mc 2 U I) ?_
 refine cV (xs:=[.tmp 9]) (cs:=[(vI y)]) U cv ja U U U U (by simp [Value.cells]) U U fun P=>?_
 refine c_ (es2:=(List.map iC (nl.take (k+1)))) (m':=(nl.take (k+1)).length) 2 U U U pZ U U sm (aZ (es:=List.map iC [y]) 0 U U (by simp [bE]) U) (kb _) (by simp; omega) (by simp [maxLen]; omega) (by rw [lG hy]; simp) sm U fun N C=>?_
 try dsimp only
 refine Ul U Ai U U<|aF<|aG ?_
 exact B (N,C) _ _ (by trivial) (aI [1,2,3,4])
theorem Hw (nl:List Int) (nlA:OA) (nlC g1:Nat) (hlen:nl.length≤12):
 lD Tryz.prog 67 [(Value.func (.func 81) [].toArray [(vP g1)].toArray)] [(rd nlA nl.length 1 (nl.map iC)),(bU g1 32 [(vS nlA nl.length nlC)])] (fun (x:(OA)×Nat)=>(vS x.1 nl.length x.2)) (fun (x:(OA)×Nat)=>True) (fun (x:(OA)×Nat)=>[(own x.1 x.2 3 1 (nl.map iC))]):=by
 refine di kr Tryz.func67 U U fun G Q hQ hN=>?_
 try dsimp only
 refine WS fun _ A=>a_ 1 U<|RK A<|WS fun _ B=>rP 1 [] I ?_
 refine cX (IE nl nlA nlC g1 hlen) (bf [0,1]) U fun F E=>?_
 obtain ⟨C,D⟩:=F
 try dsimp only
 refine rP 1 [] I ?_
 refine RK B<|ao<|LX hQ (C,D) [0] [] I U U U U ?_
 trivial
theorem wo (nl:List Int) (nlA:OA) (nlC g1:Nat) (hlen:nl.length≤12):
 lD Tryz.prog 41 [(Value.func (.func 81) [].toArray [(vP g1)].toArray)] [(rd nlA nl.length 1 (nl.map iC)),(bU g1 32 [(vS nlA nl.length nlC)])] (fun (x:(OA)×Nat)=>(vS x.1 nl.length x.2)) (fun (x:(OA)×Nat)=>True) (fun (x:(OA)×Nat)=>[(own x.1 x.2 3 1 ((dg nl).map iC))]):=by
 refine di kr Tryz.func41 U U fun J Q hQ hN=>?_
 try dsimp only
 refine WS fun _ B=>a_ 1 U<|RK B<|WS fun _ C=>rP 1 [] I ?_
 refine cX (Hw nl nlA nlC g1 hlen) (bf [0,1]) U fun AA H=>?_
 obtain ⟨F,G⟩:=AA
 try dsimp only
 refine a_ 1 U<|RK C<|WS fun _ D=>rP 1 [] I ?_
 refine iP 0 U U U U (AJ nl F G hlen) U kd U (fun m A=>?_)
 try dsimp only
 refine RK D<|WS fun _ E=>?_
 obtain rfl:=qs A.1 A.2
 skip
 refine rP 2 [] I ?_
 refine RK E<|ao<|LX hQ (F,G) [0] [] I U U U U ?_
 trivial
end
section
open Go.RowKit
section
variable {K:Type} [DecidableEq K] {kV:K→Value}
variable {E:e_} {ops:Array Oper} {Q:cW} {rest:List Oper} {D:List Deferred} {L:List (Nat×Value)} {C:List au}
variable {ty:TypeId} {ps:String} {af:Array Edge} {g:Option (Nat×Bool)}
theorem pf {t kt et:TypeId} {xm xk:Operand} {ts:Array TypeId} {b:Nat} {x:K} {m m':List (K×Value)} {C':List au} (i:Nat) (hg:jq ops L g=true) (hm:ev L xm=some (.map (some b))) (hk:ev L xk=some (kV x)) (hts:ts[0]? =some t)
 (ht:E.P.underlying t=some (.map kt et)) (hkt:um E.P kt kV) (hC:C[i]? =some (hE kV b m)) (hm':cj m x=m') (hC':C.set i (hE kV b m')=C') (k:RJ E ops Q rest D L C'):
 RJ E ops Q (⟨none,.call {callee:= .builtin .delete,args:= #[xm,xk],argTypes:=ts},ty,ps,af,g⟩::rest) D L C:=by
 subst hm' hC'
 intro a w A hs
 unfold rI
 rw [if_pos (dN A hg)]
 obtain ⟨es,c,he,hi⟩:=hs.holds _ (aT hC)
 have B:(getObj b).run E.P w= .ok (.map es c) w:=MapKept.run_getObj_map he
 rcases oL (P:=E.P) (w:=w) (x:=x) hkt hi with ⟨F,G⟩|⟨j,AA,F,G,H⟩
 ·refine gO (v:= .tuple #[]) (w':={w with heap:=w.heap.setIfInBounds b (.map es c)}) sm ?_ ?_
  ·simp [execOp,resolve,invoke,builtin,A.ev hm,A.ev hk,Builtin.delete_,hts,run_underlying ht,B,iK hkt,F,MapKept.run_setObj_map _ he]
  ·refine k _ _ ⟨A.defers,A.size,A.at_⟩ (hs.Dk (b:=b) i hC U U (mU _) (fun _ h=>h) ⟨_,_,o4 he,?_⟩)
   rw [DB G]; exact hi
 ·refine gO (v:= .tuple #[]) (w':={w with heap:=w.heap.setIfInBounds b (.map (es.eraseIdxIfInBounds j) c)}) sm ?_ ?_
  ·simp [execOp,resolve,invoke,builtin,A.ev hm,A.ev hk,Builtin.delete_,hts,run_underlying ht,B,iK hkt,F,MapKept.run_setObj_map _ he]
  ·exact k _ _ ⟨A.defers,A.size,A.at_⟩ (hs.Dk (b:=b) i hC U U (mU _) (fun _ h=>h) ⟨_,_,o4 he,hi.del G⟩)
end
end
section
open Go.RowKit
theorem Jw (n lo hi:Int) (g1 g2:Nat):
 dV Tryz.prog 140 [(vI n),(vP g1),(vP g2)] [(bU g1 3 [(vI lo)]),(bU g2 3 [(vI hi)])] (vB (decide (n<lo∨hi<n))):=by
 refine bx kr Tryz.func140 U U fun D Q hQ hN=>?_
 try dsimp only
 refine WS fun _ B=>a_ 1 U<|RK B<|WS fun _ A=>rP 4 [] (mr 0 U I) ?_
 refine cN (t:=8) U (aP fun C=>?_) (aQ fun C=>?_)
 ·refine rP 5 [] I ?_
  refine RK A<|ao<|Q1 hQ U U U ?_
  exact cB (fI om).symm
 refine rP 5 [] (mr 1 U I) ?_
 refine RK A<|ao<|Q1 hQ U U U ?_
 exact cB (decide_eq_decide.2 om)
theorem iO (lo hi:Int) (l:List Int) (lA:OA) (lC:Nat) (hlen:l.length≤1000000):
 dV Tryz.prog 116 [(vI lo),(vI hi),(vS lA l.length lC)] [(rd lA l.length 1 (l.map iC))] (vB (pT lo hi l)):=by
 refine bx kr Tryz.func116 U U fun F Q hQ hN=>?_
 try dsimp only
 refine WS fun _ D=>uT U U fun A=>uT U U fun B=>a_ 1 U<|RK D<|WS fun _ E=>rP 1 [] I ?_
 refine rS (FU U) ?_
 refine rS (CL (r9 l lA lC (Value.func (.func 140) [].toArray [(vP A),(vP B)].toArray) (fun C=>(decide (C<lo∨hi<C))) (e7 [(bU A 3 [(vI lo)]),(bU B 3 [(vI hi)])]) (by intro C _; exact nc (fi:=[]) (ca:=[(vP A),(vP B)]) (l4 (Jw C lo hi A B) (bf [0,1]))) hlen) (fq 2 U U<|aq (l0 (bf [1,0]))<|aJ) U) ?_
 refine rP 2 [] I ?_
 refine RK E<|ao ?_
 exact Q1 hQ U U U U
theorem Us (n d:Int) (hd:2≤d):
 dV Tryz.prog 142 [(vI n),(vI d)] [] (vI (SQ n d)):=by
 refine bx kr Tryz.func142 U U fun C Q hQ hN=>?_
 try dsimp only
 refine WS fun _ A=>a_ 1 U<|RK A<|WS fun _ B=>a_ 2 U<|rS (BI U P8)<|rS (BI U Iu)<|a_ 1 U<|rS (BI U (PJ om (Qj (S3 _) hd)))<|rP 1 [] I ?_
 refine RK B<|ao ?_
 exact Q1 hQ U U U U
theorem OG (n d:Int) (hd:1≤d∧d≤1000000) (hn:0≤n∧n≤1000000000000000):
 dV Tryz.prog 142 [(vI n),(vI d)] [] (vI (o7 n d)):=by
 refine bx kr Tryz.func142 U U fun C Q hQ hN=>?_
 try dsimp only
 refine WS fun _ A=>a_ 1 U<|RK A<|WS fun _ B=>a_ 5 U<|rS (BI U (s9 om om om))<|rP 1 [] I ?_
 refine RK B<|ao ?_
 exact Q1 hQ U U U U
theorem FO (c:av) (sA:OA) (sC:Nat) (at_:Int) (hc:eY c) (ha:0≤at_∧at_≤90000000):
 dV Tryz.prog 218 [(vA (dk.cells (dk.mk c.de (bp.mk sA c.br.length sC)))),(vI at_)] [(rd sA c.br.length 3 (c.br.map cw.cells))] (vA (aa.cells (ij c at_))):=by
 have X:=hc.len
 have J:=hc.rU
 refine bx kr Tryz.func218 U U fun e Q hQ hN=>?_
 try dsimp only
 refine WS fun _ M=>fQ U fun b=>AL U cZ fun d=>RK M<|WS fun _ N=>rS (SX (bh (xs:=[(0,.const (vI (-1099511627776))),(1,.const (vI 1099511627776))]) (cs:=(aa.cells (aa.mk (-1099511627776) 1099511627776))) U U (bg gn U)) U U)<|AL U cZ fun W=>fO U cp U<|RK N<|ai fun _ O=>ai fun _ P=>?_
 have R:(aa.cells (aa.mk (-1099511627776) 1099511627776))=(aa.cells (gj c at_ 0)):=by rfl
 rw [R]
 refine ak<|rP 4 [] (mc 2 U I) ?_
 refine RK P<|ax ?_
 have A:(0≤c.br.length):=by exact Nat.zero_le _
 refine bK (ι:={z:Nat // (z≤c.br.length)}) [1,2,4,5,11,12] [1,2,3] U U (fun z=>[(13,(vI (z.1:Int)))]) (fun z=>[(bU W 40 (aa.cells (gj c at_ z.1)))]) (fun _=>rfl) (fun _=>rfl) (fun z=>c.br.length-z.1) ⟨0,A⟩ (aS U) (aI [1,2,3,0]) ?_
 clear A
 rintro ⟨i,S⟩ J9 L
 try dsimp only
 refine WS fun _ B=>rP 1 [] I ?_
 refine RK B<|ai fun _ C=>bM U (aQ fun K=>?_) (aP fun K=>?_)
 ·refine bw<|ab<|ab<|ay<|KK O<|WS fun _ G=>rP 1 [] (mc 3 U I) ?_
  refine fO U cp U<|RK G<|ao<|Ic hQ [0] (mc 0 U I) U ?_
  rw [nJ (show c.br.length≤i by omega)]
 refine WK C<|ai fun _ D=>ax<|WS fun _ E=>?_
 obtain ⟨x,hx⟩:=aL c.br i om
 have AA:=bH cw.cells hx
 refine rS (IA i U (aD 2 U) qE dc om om)<|rS (oE i 0 (cw.cells x) U b_ (aD 2 U) AA U dc U U)<|AL U rR fun V=>fO U sR U<|RK E<|WS fun _ F=>rP 5 [0,1] (mc 2 U (mc 0 U I)) ?_
 have T:=hc.uy hx
 have Z:=Cl hc ha i
 have Y:=Ft J ha (show 0≤x.At∧x.At≤90000000 by omega)
 refine fy 5 [] (mc 0 U I) U<|rS (MX U)<|rS (BI U (Gf ⟨om,om⟩))<|rS (CL (OG (c.de*(max (at_-x.At) (x.At-at_))) 1000000 om om) (aJ) U)<|a_ 1 U<|RK F<|ak<|rP 6 [0,1] (mc 4 U (mc 0 U I)) ?_
 have a:0≤o7 (c.de*max (at_-x.At) (x.At-at_)) 1000000∧o7 (c.de*max (at_-x.At) (x.At-at_)) 1000000≤90001:=uv J ha T.1
 refine a_ 1 U<|rS (MX U)<|rP 7 [0,1] (mc 4 U (mc 0 U I)) ?_
 refine rS (MN U)<|rS (SX (bh (xs:=[(0,.tmp 37),(1,.tmp 45)]) (cs:=(aa.cells (aa.mk (max ((gj c at_ i).Lo) (x.ei.Lo-(o7 (c.de*(max (at_-x.At) (x.At-at_))) 1000000))) (min ((gj c at_ i).Hi) (x.ei.Hi+(o7 (c.de*(max (at_-x.At) (x.At-at_))) 1000000)))))) U U (bg gn U)) U U)<|Ps U cp U<|aF<|aG<|KK D ?_
 have H:(aa.cells (aa.mk (max ((gj c at_ i).Lo) (x.ei.Lo-(o7 (c.de*(max (at_-x.At) (x.At-at_))) 1000000))) (min ((gj c at_ i).Hi) (x.ei.Hi+(o7 (c.de*(max (at_-x.At) (x.At-at_))) 1000000)))))=(aa.cells (gj c at_ (i+1))):=by rw [jD hx]; rfl
 rw [H]
 refine ak<|rP 2 [] I ?_
 refine aF ?_
 have AB:(vI (((i+1):Nat):Int))=(vI ((i:Int)+1)):=by exact cI om
 refine aR (L ⟨(i+1),(by first|omega|(simp only []; omega))⟩ _ _ _ U os (cO 6<|bo U AB<|dw.nil _) (aI [1,2,3,4]))
theorem QD (c:av) (sA:OA) (sC:Nat) (hlen:c.br.length≤1000000) (hcap:c.br.length≤sC):
 dV Tryz.prog 120 [(vA (dk.cells (dk.mk c.de (bp.mk sA c.br.length sC))))] [(rd sA c.br.length 3 (c.br.map cw.cells))] (vB (decide (eY c))):=by
 refine bx kr Tryz.func120 U U fun w0 Q hQ hN=>?_
 try dsimp only
 refine WS fun _ AO=>fQ U fun b2=>a_ 1 U<|RK AO<|zZ U<|ai fun _ AP=>WS fun _ q=>rP 2 [] (mc 0 U I) ?_
 refine cV (xs:=[.tmp 11]) (cs:=[(vI c.de)]) U cv ja U U U U (by simp [Value.cells]) U U fun b5=>?_
 refine rS (CL (dV.eq (iO 0 1000 ([c.de]) (some ⟨b5,0,none⟩) 1 (by (simp; done))) cR) (aq (aZ 0 U U (by simp [bE]) U)<|aJ) U) ?_
 refine rP 2 [] I ?_
 refine cN (t:=15) U (bk fun Aa=>?_) (bj fun Aa=>?_)
 ·refine a_ 7 U<|RK q<|aO U<|WS fun _ AR=>rP 1 [] I ?_
  refine RK AR<|ao<|Q1 hQ U U U ?_
  exact cB (cd fun h=>Aa h.rU).symm
 refine rP 3 [] (mc 1 U I) ?_
 refine cV (xs:=[.tmp 18]) (cs:=[(vI (c.br.length:Int))]) U cv ja U U U U (by simp [Value.cells]) U U fun b7=>?_
 refine rS (CL (dV.eq (iO 1 5 ([(c.br.length:Int)]) (some ⟨b7,0,none⟩) 1 (by (simp; done))) cR) (aq (aZ 0 U U (by simp [bE]) U)<|aJ) U) ?_
 refine rP 2 [] I ?_
 refine RK q<|cy U (bk fun O=>?_) (bj fun O=>?_)
 ·refine WS fun _ AS=>rP 1 [] I ?_
  refine RK AS<|ao<|Q1 hQ U U U ?_
  exact cB (cd fun h=>O (by have:=h.len; omega)).symm
 refine WK AP<|WS fun _ AT=>a_ 1 U<|RK AT<|WS fun _ R=>a_ 1 U<|RK R<|ai fun _ S=>AQ<|KK S<|ai fun _ K=>WS fun _ T=>rP 4 [] (mc 2 U I) ?_
 refine RK T<|ax ?_
 have B:(0≤c.br.length)∧(se c 0):=by exact ⟨Nat.zero_le _,Hn⟩
 have r:(vI (j_ c 0))=(vI (-1)):=by rw [gu rfl]
 refine bK (ι:={z:Nat // (z≤c.br.length)∧(se c z)}) [1,2,4,24,25] [2,3] U U (fun z=>[(3,(vI (j_ c z.1))),(26,(vI (z.1:Int)))]) (fun z=>[]) (fun _=>rfl) (fun _=>rfl) (fun z=>c.br.length-z.1) ⟨0,B⟩ (bo U r<|aS U) (aI [2,3]) ?_
 clear B
 rintro ⟨i,⟨L,C⟩⟩ J15 P
 try dsimp only
 have Ac: -1≤j_ c i∧j_ c i≤86400000:=QT L C
 refine WS fun _ AJ=>rP 1 [] I ?_
 refine RK AJ<|ai fun _ V=>bM U (aQ fun AI=>?_) (aP fun AI=>?_)
 ·refine bw<|ab<|ab<|ay<|KK K<|WS fun _ f=>rP 2 [] I ?_
  refine RK f<|ao<|Q1 hQ U U U ?_
  exact cB (fI (Hy Aa om (by have e:i=c.br.length:=om; rw [← e]; exact C))).symm
 refine WK V<|ai fun _ W=>ax<|WS fun _ X=>rP 1 [] I ?_
 obtain ⟨x,hx⟩:=aL c.br i om
 have AX:=bH cw.cells hx
 refine rS (IA i U (aD 1 U) qE dc om om)<|rS (oE i 0 (cw.cells x) U b_ (aD 1 U) AX U dc U U)<|AL U rR fun AY=>rP 1 [] I ?_
 refine fO U sR U<|RK X ?_
 refine og (ι:=Unit) [1,2,3,5,6,24,25,26] [0,1,2] U U (fun z=>[(4,(vB (decide (fm c i x))))]) (fun z=>[]) (fun _=>rfl) (fun _=>rfl) ?_ fun K22 G=>?_
 ·intro _
  try dsimp only
  refine ai fun _ Y=>WS fun _ Z=>fy 3 [] (mc 1 U I) U<|rS (Vp i U qE om om)<|rP 2 [] I ?_
  refine RK Z<|ax ?_
  have B:(0≤i)∧((decide (fm c i x))=(decide (lZ c i x 0))):=by exact ⟨Nat.zero_le _,decide_eq_decide.2 D_.symm⟩
  refine bK (ι:={z:Nat×Bool // (z.1≤i)∧(z.2=(decide (lZ c i x z.1)))}) [1,2,3,5,6,24,25,26,59,60] [0,1,2] U U (fun z=>[(4,(vB z.1.2)),(61,(vI (z.1.1:Int)))]) (fun z=>[]) (fun _=>rfl) (fun _=>rfl) (fun z=>i-z.1.1) ⟨(0,(decide (fm c i x))),B⟩ (aS U) (aI [0,1,2]) ?_
  clear B
  rintro ⟨⟨k,b⟩,⟨M,A⟩⟩ J25 F
  try dsimp only at M A
  try dsimp only
  refine WS fun _ a=>rP 1 [] I ?_
  refine RK a<|ai fun _ d=>bM U (aQ fun AK=>?_) (aP fun AK=>?_)
  ·refine bw<|ab<|ab<|ay<|KK Y<|ai fun _ m=>WS fun _ n=>rP 2 [] I ?_
   refine RK n<|cy U (fun D=>?_) (fun D=>?_)
   ·rw [Bool.not_eq_true'] at D
    refine bw<|ab<|iE U<|ab<|ab<|ay<|KK K<|WS fun _ p=>rP 2 [] I ?_
    refine RK p<|ao<|Q1 hQ U U U ?_
    exact cB (by have e:k=i:=om; rw [e] at A; rw [D] at A ⊢; exact (cd (Kh hx (of_decide_eq_false A.symm))).symm)
   rw [Bool.not_eq_false'] at D
   refine WK m<|ak<|fy 3 [] (mc 0 U I) U<|aF<|aG<|KK W<|ak<|rP 2 [] I ?_
   refine aF ?_
   have AC:(vB true)=(vB b):=by exact cB D.symm
   have AD:(vI (j_ c (i+1)))=(vI x.At):=by rw [nW hx]
   have AE:(vI (((i+1):Nat):Int))=(vI ((i:Int)+1)):=by exact cI om
   refine aR (P ⟨(i+1),⟨om,Hq C hx (by have e:k=i:=om; rw [e] at A; exact of_decide_eq_true (A.symm.trans D))⟩⟩ _ _ _ U os (dw.cons U<|dw.cons U<|bo U AC<|dw.cons U<|dw.cons U<|bo U AD<|bo U AE<|dw.nil _) (aI [1,2]))
  refine WK d<|ai fun _ H=>ax<|WS fun _ g=>?_
  obtain ⟨o,ho⟩:=aL c.br k om
  have AU:=bH cw.cells ho
  refine rS (Rs k U (aD 2 U) qE dc om om om)<|rS (oE k 0 (cw.cells o) U b_ (aD 2 U) AU U dc U U)<|AL U rR fun AZ=>fO U sR U<|RK g<|WS fun _ l=>fy 6 [0,1,2] (mc 2 U (mc 1 U (mc 0 U I))) U<|rS (BI U Iu)<|rS (BI U Qc)<|rS (CL (Us (AW (c.de*(AW (x.At-o.At)))) 1000000 om) (aJ) U)<|a_ 1 U<|RK l<|ak<|rP 2 [] I ?_
  refine bZ (t:=75) U (fun J=>?_) (fun J=>?_)
  ·refine a_ 6 U<|a_ 16 U<|aF<|aG<|KK H<|ak<|rP 2 [] I ?_
   refine aF ?_
   have AB:(vI (((k+1):Nat):Int))=(vI ((k:Int)+1)):=by exact cI om
   refine aR (F ⟨((k+1),false),⟨om,by exact (cd fun h=>by have h2:=((rZ ho).1 h).1; rw [A] at J; exact absurd (fI h2) (by rw [J]; decide)).symm⟩⟩ _ _ _ U os (cO 11<|bo U AB<|dw.nil _) (aI [1,2,3]))
  refine rP 6 [0,1] (mc 1 U (mc 0 U I)) ?_
  have AF:lZ c i x k:=of_decide_eq_true (A.symm.trans J)
  obtain ⟨AV,Ad,Ae⟩:=uP (fun j y hj hy=>(C j y hj hy).1) hx AF.1 om ho
  have N:=MD Aa AV
  refine rP 5 [] I ?_
  refine bZ (t:=86) U (aQ fun E=>?_) (aP fun E=>?_)
  ·refine a_ 11 U<|aF<|aG<|KK H<|ak<|rP 2 [] I ?_
   refine aF ?_
   have AA:(vI (((k+1):Nat):Int))=(vI ((k:Int)+1)):=by exact cI om
   refine aR (F ⟨((k+1),false),⟨om,by exact (cd fun h=>by have h2:=((rZ ho).1 h).2; rw [N] at E; exact E h2.1).symm⟩⟩ _ _ _ U os (cO 11<|bo U AA<|dw.nil _) (aI [1,2,3]))
  refine fy 11 [0,1] (mc 0 U (mc 1 U I)) U<|aF<|aG<|KK H<|ak<|rP 2 [] I ?_
  refine aF ?_
  have w:(vI (((k+1):Nat):Int))=(vI ((k:Int)+1)):=by exact cI om
  refine aR (F ⟨((k+1),(decide ((o.ei.Lo-x.ei.Hi)≤(SQ (AW (c.de*(AW (x.At-o.At)))) 1000000)))),⟨om,by exact decide_eq_decide.2 (by rw [rZ ho,N]; rw [N] at E; exact ⟨fun h=>⟨AF,E,h⟩,fun h=>h.2.2⟩)⟩⟩ _ _ _ U os (cO 11<|bo U w<|dw.nil _) (aI [1,2,3]))
 refine ak<|rP 4 [] (mc 0 U I) ?_
 refine cV (xs:=[.tmp 34]) (cs:=[(vI x.At)]) U cv ja U U U U (by simp [Value.cells]) U U fun AG=>?_
 refine rS (CL (dV.eq (iO ((j_ c i)+1) 86400000 ([x.At]) (some ⟨AG,0,none⟩) 1 (by (simp; done))) cR) (aq (aZ 0 U U (by simp [bE]) U)<|aJ) U) ?_
 refine rP 1 [] I ?_
 refine bZ (t:=37) U (aQ fun AM=>?_) (aP fun AM=>?_)
 ·refine rP 19 [] I ?_
  refine aF ?_
  have v:(decide (fm c i x))=false:=cd (by unfold fm; omega)
  refine aR (jB (cO 8<|ny U v<|dw.nil _) (aI [1,2,3]) (G ()))
 refine rP 6 [] (mc 1 U I) ?_
 refine cV (xs:=[.tmp 40,.tmp 43]) (cs:=[(vI x.ei.Lo),(vI x.ei.Hi)]) U cv ja U U U U (by simp [Value.cells]) U U fun AH=>?_
 refine rS (CL (dV.eq (iO (-10000) 10000 ([x.ei.Lo,x.ei.Hi]) (some ⟨AH,0,none⟩) 2 (by (simp; done))) qQ) (aq (aZ 0 U U (by simp [bE]) U)<|aJ) U) ?_
 refine rP 2 [] I ?_
 refine bZ (t:=47) U (aQ fun AN=>?_) (aP fun AN=>?_)
 ·refine rP 9 [] I ?_
  refine aF ?_
  have u:(decide (fm c i x))=false:=cd (by unfold fm; omega)
  refine aR (jB (cO 8<|ny U u<|dw.nil _) (aI [2,3,4]) (G ()))
 refine rP 9 [] (mc 2 U I) ?_
 refine aF ?_
 have s:(decide (fm c i x))=(decide (x.ei.Lo≤x.ei.Hi)):=decide_eq_decide.2 (by unfold fm; omega)
 refine aR (jB (cO 8<|ny U s<|dw.nil _) (aI [2,3,4]) (G ()))
theorem RT (ms:List av) (az:List RA) (k:Nat) (m:av) (a:RA) (hm:ms[k]? =some m) (ha:az[k]? =some a) (hc:m.br.length≤a.2∧m.br.length≤1000000):
 dV Tryz.prog 119 [(vA (dk.cells (dk.mk m.de (bp.mk a.1 m.br.length a.2))))] [(e7 (aU av.g0 ms az))] (vB (!(decide (eY m)))):=by
 obtain ⟨C,D⟩:=hc
 refine bx kr Tryz.func119 U U fun F Q hQ hN=>?_
 try dsimp only
 refine WS fun _ A=>fQ U fun E=>a_ 1 U<|RK A<|WS fun _ B=>fy 1 [] (mc 0 U I) U<|rS (CL (QD m a.1 a.2 asm asm) (aq (show i_ _ (rd a.1 m.br.length 3 (m.br.map cw.cells)).holds from (dx 1 U (bW hm ha (by simp [av.g0]))))<|aJ) U)<|rP 2 [] I ?_
 refine RK B<|ao ?_
 exact Q1 hQ U U U U
theorem GX (l:List av) (az:List RA) (lA:OA) (lC:Nat) (f:Value) (p:av→Bool) (X:au) (hf: ∀ (k:Nat) m a,l[k]? =some m→az[k]? =some a→Ef Tryz.prog f [.agg (av.cells m a).toArray] [X] (.bool (p m))) (hlen:l.length≤1000000) (has:az.length=l.length):
 dV Tryz.prog 141 [(vS lA l.length lC),f] [(rd lA l.length 2 (List.zipWith av.cells l az)),(e7 (aU av.g0 l az)),X] (vI (tx p l)):=by
 refine bx kr Tryz.func141 U U fun T Q hQ hN=>?_
 try dsimp only
 refine WS fun _ AA=>a_ 1 U<|RK AA<|ai fun _ J=>WS fun _ K=>rP 3 [] I ?_
 refine RK K<|ax ?_
 have B:(0≤l.length)∧((l.take 0).any p=false):=by simp
 refine bK (ι:={z:Nat // (z≤l.length)∧((l.take z).any p=false)}) [0,1,7] [0,1,2] U U (fun z=>[(8,(vI (z.1:Int)))]) (fun z=>[]) (fun _=>rfl) (fun _=>rfl) (fun z=>l.length-z.1) ⟨0,B⟩ (aS U) (aI [0,1,2]) ?_
 clear B
 rintro ⟨i,⟨P,A⟩⟩ J4 H
 try dsimp only
 refine WS fun _ L=>rP 1 [] I ?_
 refine RK L<|ai fun _ M=>bM U (aQ fun S=>?_) (aP fun S=>?_)
 ·refine bw<|ab<|ab<|ay<|KK J<|WS fun _ E=>rP 1 [] I ?_
  refine RK E<|ao<|Q1 hQ U U U ?_
  exact cI (sx om A).symm
 refine WK M<|ai fun _ N=>ax<|WS fun _ O=>a_ 2 U<|RK O<|WS fun _ C=>rP 3 [] I ?_
 obtain ⟨x,hx⟩:=aL l i om
 obtain ⟨xa,G⟩:=aL az i om
 have R:(List.zipWith av.cells l az)[i]? =some (av.cells x xa):=dM hx G
 refine rS (IA i U (aD 0 U) Ar dc om om)<|rS (oE i 0 (dk.cells (dk.mk x.de (bp.mk xa.1 x.br.length xa.2))) U b_ (aD 0 U) R U dc U U)<|rS (SX (sf U U U (hf i x xa hx G) (bf [2])) U U)<|RK C<|cy U (fun hp=>?_) (fun hp=>?_)
 ·refine WS fun _ D=>rP 2 [] I ?_
  refine RK D<|ao<|Q1 hQ U U U ?_
  exact cI (wQ hx hp A).symm
 refine bV<|aG<|KK N<|ak<|rP 2 [] I ?_
 refine aF ?_
 have F:(vI (((i+1):Nat):Int))=(vI ((i:Int)+1)):=by exact cI om
 refine aR (H ⟨(i+1),⟨om,yc hx A hp⟩⟩ _ _ _ U os (cO 3<|bo U F<|dw.nil _) (aI [0,1,2]))
theorem Ao (l:List av) (az:List RA) (lA:OA) (lC:Nat) (f:Value) (p:av→Bool) (X:au) (hf: ∀ (k:Nat) m a,l[k]? =some m→az[k]? =some a→Ef Tryz.prog f [.agg (av.cells m a).toArray] [X] (.bool (p m))) (hlen:l.length≤1000000) (has:az.length=l.length):
 dV Tryz.prog 118 [(vS lA l.length lC),f] [(rd lA l.length 2 (List.zipWith av.cells l az)),(e7 (aU av.g0 l az)),X] (vB (l.any p)):=by
 refine bx kr Tryz.func118 U U fun C Q hQ hN=>?_
 try dsimp only
 refine WS fun _ A=>a_ 1 U<|RK A<|WS fun _ B=>a_ 2 U<|rS (CL (GX l az lA lC f p X (by exact hf) hlen has) (M8 0 1 2 U U U U U U) U)<|rP 2 [] I ?_
 refine RK B<|ao<|Q1 hQ U U U ?_
 exact cB uh
theorem HK (l:List bB) (lA:OA) (lC:Nat) (f:Value) (p:bB→Bool) (X:au) (hf: ∀ x0,x0∈l→Ef Tryz.prog f [.agg (bB.cells x0).toArray] [X] (.bool (p x0))) (hlen:l.length≤1000000):
 dV Tryz.prog 143 [(vS lA l.length lC),f] [(rd lA l.length 4 (l.map bB.cells)),X] (vI (tx p l)):=by
 refine bx kr Tryz.func143 U U fun S Q hQ hN=>?_
 try dsimp only
 refine WS fun _ H=>a_ 1 U<|RK H<|ai fun _ AA=>WS fun _ J=>rP 3 [] I ?_
 refine RK J<|ax ?_
 have B:(0≤l.length)∧((l.take 0).any p=false):=by simp
 refine bK (ι:={z:Nat // (z≤l.length)∧((l.take z).any p=false)}) [0,1,7] [0,1] U U (fun z=>[(8,(vI (z.1:Int)))]) (fun z=>[]) (fun _=>rfl) (fun _=>rfl) (fun z=>l.length-z.1) ⟨0,B⟩ (aS U) (aI [0,1]) ?_
 clear B
 rintro ⟨i,⟨O,A⟩⟩ J4 G
 try dsimp only
 refine WS fun _ K=>rP 1 [] I ?_
 refine RK K<|ai fun _ L=>bM U (aQ fun R=>?_) (aP fun R=>?_)
 ·refine bw<|ab<|ab<|ay<|KK AA<|WS fun _ E=>rP 1 [] I ?_
  refine RK E<|ao<|Q1 hQ U U U ?_
  exact cI (sx om A).symm
 refine WK L<|ai fun _ M=>ax<|WS fun _ N=>a_ 2 U<|RK N<|WS fun _ C=>rP 3 [] I ?_
 obtain ⟨x,hx⟩:=aL l i om
 have P:=bH bB.cells hx
 refine rS (IA i U (aD 0 U) vw dc om om)<|rS (oE i 0 (bB.cells x) U b_ (aD 0 U) P U dc U U)<|rS (SX (sf U U U (hf x (aT hx)) (bf [1])) U U)<|RK C<|cy U (fun hp=>?_) (fun hp=>?_)
 ·refine WS fun _ D=>rP 2 [] I ?_
  refine RK D<|ao<|Q1 hQ U U U ?_
  exact cI (wQ hx hp A).symm
 refine bV<|aG<|KK M<|ak<|rP 2 [] I ?_
 refine aF ?_
 have F:(vI (((i+1):Nat):Int))=(vI ((i:Int)+1)):=by exact cI om
 refine aR (G ⟨(i+1),⟨om,yc hx A hp⟩⟩ _ _ _ U os (cO 3<|bo U F<|dw.nil _) (aI [0,1]))
theorem An (l:List bB) (lA:OA) (lC:Nat) (f:Value) (p:bB→Bool) (X:au) (hf: ∀ x0,x0∈l→Ef Tryz.prog f [.agg (bB.cells x0).toArray] [X] (.bool (p x0))) (hlen:l.length≤1000000):
 dV Tryz.prog 122 [(vS lA l.length lC),f] [(rd lA l.length 4 (l.map bB.cells)),X] (vB (l.any p)):=by
 refine bx kr Tryz.func122 U U fun C Q hQ hN=>?_
 try dsimp only
 refine WS fun _ A=>a_ 1 U<|RK A<|WS fun _ B=>a_ 2 U<|rS (CL (HK l lA lC f p X (by exact hf) hlen) (bf [0,1]) U)<|rP 2 [] I ?_
 refine RK B<|ao<|Q1 hQ U U U ?_
 exact cB uh
end
section
open Go.RowKit
theorem pL (a:aa) (l:List aa) (lA:OA) (lC:Nat) (ha:lx a) (hl: ∀ z∈l,lx z) (hlen:l.length≤4):
 dV Tryz.prog 147 [(vA (aa.cells a)),(vS lA l.length lC)] [(rd lA l.length 2 (l.map aa.cells))] (vA (aa.cells (kv a l))):=by
 refine bx kr Tryz.func147 U U fun AA Q hQ hN=>?_
 try dsimp only
 refine WS fun _ AB=>fQ U fun R=>AL U cZ fun T=>RK AB<|ai fun _ J=>WS fun _ K=>rP 3 [] I ?_
 refine RK K<|ax ?_
 have A:(0≤l.length):=by exact Nat.zero_le _
 refine bK (ι:={z:Nat // (z≤l.length)}) [2,4,7,8] [0,2] U U (fun z=>[(9,(vI (z.1:Int)))]) (fun z=>[(bU R 40 (aa.cells (kv a (l.take z.1))))]) (fun _=>rfl) (fun _=>rfl) (fun z=>l.length-z.1) ⟨0,A⟩ (aS U) (aI [0,2,1]) ?_
 clear A
 rintro ⟨i,N⟩ J6 H
 try dsimp only
 refine WS fun _ L=>rP 1 [] I ?_
 refine RK L<|ai fun _ M=>bM U (aQ fun S=>?_) (aP fun S=>?_)
 ·refine bw<|ab<|ab<|ay<|KK J<|ai fun _ D=>?_
  have G:(aa.cells (kv a (l.take i)))=(aa.cells (kv a l)):=by rw [ID om]
  rw [G]
  refine ak<|rP 1 [] (mc 2 U I) ?_
  refine fO U cp U<|RK D<|ao ?_
  exact Ic hQ [0] (mc 0 U I) U U
 refine WK M<|ai fun _ B=>ax<|WS fun _ C=>?_
 obtain ⟨x,hx⟩:=aL l i om
 have O:=bH aa.cells hx
 refine rS (IA i U (aD 1 U) jF dc om om)<|rS (oE i 0 (aa.cells x) U b_ (aD 1 U) O U dc U U)<|AL U cZ fun P=>fO U cp U<|RK C<|ak ?_
 have hb:=PY ha hl i
 have hz:=hl x (aT hx)
 unfold lx at hz
 refine rP 10 [0,1,0,1] (mc 3 U (mc 0 U I)) ?_
 refine rS (SX (bh (xs:=[(0,.tmp 17),(1,.tmp 22)]) (cs:=(aa.cells (aa.mk (((kv a (l.take i)).Lo)+x.Lo) (((kv a (l.take i)).Hi)+x.Hi)))) U U (bg gn U)) U U)<|TQ U cp U<|aF<|aG<|KK B ?_
 have E:(aa.cells (aa.mk (((kv a (l.take i)).Lo)+x.Lo) (((kv a (l.take i)).Hi)+x.Hi)))=(aa.cells (kv a (l.take (i+1)))):=by rw [zG hx]; rfl
 rw [E]
 refine ak<|rP 2 [] I ?_
 refine aF ?_
 have F:(vI ((i+1):Int))=(vI ((i:Int)+1)):=by exact cI om
 refine aR (H ⟨(i+1),(by first|omega|(simp only []; omega))⟩ _ _ _ U os (cO 4<|bo U F<|dw.nil _) (aI [1,2,3]))
theorem F_ (ts:List al) (tsA:OA) (tsC:Nat) (hlen:ts.length≤1000000) (hside: ∀ x∈ts,0≤x.iX∧x.iX≤255):
 dV Tryz.prog 144 [(vA (bD.cells (bD.mk (bp.mk tsA ts.length tsC))))] [(rd tsA ts.length 9 (ts.map al.cells))] (vT [(vA (eh.cells (eh.mk (bD.mk (bp.mk tsA ts.length tsC))))),(vI (if cT ts=true then 0 else 10))]):=by
 refine bx kr Tryz.func144 U U fun E Q hQ hN=>?_
 try dsimp only
 refine WS fun _ A=>fQ U fun C=>AL U Jr fun D=>a_ 1 U<|RK A<|ai fun _ B=>du cq 4 kr<|my 1 [] (mc 1 U I) U<|dS (SX (bh (xs:=[(0,.tmp 4)]) (cs:=(eh.cells (eh.mk (bD.mk (bp.mk tsA ts.length tsC))))) U U (bg Rm U)) U U)<|my 1 [] (mc 1 U I) U<|dS (CL (CE ts tsA tsC hlen hside) (bf [2]) U)<|cH<|fO U JS U<|rP 1 [] I ?_
 refine RK B<|ao ?_
 exact lp hQ [0] (mc 0 U I) U U
theorem MK (f:Int) (tsA:OA) (tsN tsC:Nat):
 lD Tryz.prog 161 [(vA (eh.cells (eh.mk (bD.mk (bp.mk tsA tsN tsC))))),(vI f)] [] (fun (x:Nat×Nat)=>(Value.func (.func 169) [].toArray [(Value.pointer (some ⟨x.1,0,none⟩)),(Value.pointer (some ⟨x.2,0,none⟩))].toArray)) (fun (x:Nat×Nat)=>True) (fun (x:Nat×Nat)=>[(bU x.1 3 [(vI f)]),(bU x.2 203 (eh.cells (eh.mk (bD.mk (bp.mk tsA tsN tsC)))))]):=by
 refine di kr Tryz.func161 U U fun E Q hQ hN=>?_
 try dsimp only
 refine WS fun _ A=>fQ U fun C=>uT U U fun D=>a_ 1 U<|RK A<|WS fun _ B=>rS (FU U)<|rP 1 [] I ?_
 refine RK B<|ao<|LX hQ (D,C) [0,1] [] I U U U U ?_
 trivial
theorem GS (ts:List al) (tsA:OA) (tsC:Nat) (f:Int) (g1 g2:Nat) (hst: ∀ x∈ts,bJ x) (hlen:ts.length≤12) (hf:0≤f∧f≤ts.length):
 MZ Tryz.prog 169 [] [(vP g1),(vP g2)] [(rd tsA ts.length 9 (ts.map al.cells)),(bU g1 3 [(vI f)]),(bU g2 203 (eh.cells (eh.mk (bD.mk (bp.mk tsA ts.length tsC)))))] (tg ts f.toNat):=by
 refine Fz kr Tryz.func169 U U fun l J Z A0 p Q hY g d hQ hN=>?_
 try dsimp only
 refine WS fun _ h=>AL U cZ fun n=>AL U cZ fun o=>RK h<|WS fun _ i=>rP 2 [] (mr 4 U I) ?_
 refine RK i<|ax ?_
 have P:(0≤ts.length-f.toNat)∧(J 0 A0)∧(Fo A0 p A0):=by exact ⟨Nat.zero_le _,g,d⟩
 have m:(vI (f+(0:Int)))=(vI f):=by exact cI om
 refine bK (ι:={z:Nat×au // (z.1≤ts.length-f.toNat)∧(J z.1 z.2)∧(Fo A0 p z.2)}) [0,1,2,4,5] [3,4,5] U U (fun z=>[(6,(vI (f+(z.1.1:Int))))]) (fun z=>[(bU o 40 (aa.cells (gd ts f.toNat z.1.1))),(bU n 40 (aa.cells (eD ts f.toNat z.1.1))),z.1.2]) (fun _=>rfl) (fun _=>rfl) (fun z=>ts.length-f.toNat-z.1.1) ⟨(0,A0),P⟩ (bo U m<|dw.nil _) (aI [3,4,5,0,1,2]) ?_
 clear P
 rintro ⟨⟨k,A⟩,⟨W,R,S⟩⟩ J6 V
 try dsimp only at W R S
 try dsimp only
 refine ai fun _ j=>WS fun _ X=>rP 3 [0,1] (mc 4 U (mc 3 U I)) ?_
 refine FP 5 hY R S U U U (zb om) U U (fun B9 C B=>?_) (fun B9 C B=>?_)
 rotate_left 1
 ·refine rP 8 [] I ?_
  refine RK X<|aW U<|bw<|ab<|ab<|ay ?_
  refine hN _ _ _ (gX (vs:=[]) trivial fun w hs=>Pk 5 U C B hs)
 refine rP 8 [] (mr 2 U I) ?_
 refine RK X<|bM U (aQ fun c=>?_) (aP fun c=>?_)
 ·refine bw<|ab<|ab<|ay ?_
  refine hN _ _ _ (gX (vs:=[]) trivial fun w hs=>SK 5 U (by rw [tw]; have e:ts.length-f.toNat+1=k+1:=om; rw [e]; exact C) B hs)
 refine WK j<|ai fun _ M=>ax<|pa cq [0,1,2,3,4,5,6,7,10,11,12,13,14,15,16,17] [8,9,18,19,20,21] [true,false,false,false,false,false,false,false,true,false,false,false,false,false,false,false] [8,9,18] [(rd tsA ts.length 9 (ts.map al.cells)).ro,(bU g1 3 [(vI f)]).ro,(bU g2 203 (eh.cells (eh.mk (bD.mk (bp.mk tsA ts.length tsC))))).ro,B9] [(rd tsA ts.length 9 (ts.map al.cells)).ro,(bU g1 3 [(vI f)]).ro,(bU g2 203 (eh.cells (eh.mk (bD.mk (bp.mk tsA ts.length tsC))))).ro,(bU o 40 (aa.cells (gd ts f.toNat k))),(bU n 40 (aa.cells (eD ts f.toNat k))),B9] kr (aI [0,1,2,5]) (aI [0,1,2,3,4,5])<|fS U (LW 4 U b_ U U)<|eS U (FA 0 U fx U)<|eS U (FA 0 U fx U)<|eS U (Ib (vS tsA ts.length tsC) 2 U b_ U U)<|eS U (MV U) ?_
 obtain ⟨x,hx⟩:=aL ts (f.toNat+k) om
 have a:=bH al.cells hx
 refine eS U (IA (f.toNat+k) U (aD 0 U) yi dc om om) ?_
 have L:=hst x (aT hx)
 refine eS U (nN (((f.toNat+k)*9)+1) U (aD 0 U) (Nat.mul_pos om dc) fx U)<|eS U (oE (f.toNat+k) 1 (aa.cells x.ks) U b_ (aD 0 U) a U dc U U)<|fS U (LW 3 U b_ U U)<|eS U (FA 0 U fx U)<|eS U (FA 0 U fx U)<|eS U (Ib (vS tsA ts.length tsC) 2 U b_ U U)<|eS U (MV U)<|eS U (IA (f.toNat+k) U (aD 0 U) yi dc om om)<|eS U (nN (((f.toNat+k)*9)+3) U (aD 0 U) (Nat.mul_pos om dc) fx U)<|eS U (oE (f.toNat+k) 3 (aa.cells x.lU) U b_ (aD 0 U) a U dc U U)<|eX U<|iQ [8,18] kr (eI ?_<|eI ?_<|kQ)
 rotate_left 1
 ·refine u_ (rem':=[8,9,19,20,21]) U kr fun T14 N=>cV (xs:=[.tmp 39]) (cs:=(aa.cells x.lU)) U jF cZ U U U U (by simp [Value.cells,aa.aV]) U U fun T=>aF (N _ _ (aI [1,2,3,6]) (aI [1,2,3,4,5,6]) ?_)
  refine N1 8<|u_ (rem':=[9,19,20,21]) U kr fun T16 D=>cV (xs:=[.tmp 29]) (cs:=(aa.cells x.ks)) U jF cZ U U U U (by simp [Value.cells,aa.aV]) U U fun AA=>aF (D _ _ (aI [2,3,4,7]) (aI [2,3,4,5,6,7]) ?_)
  refine N1 9<|u_ (rem':=[19,20,21]) U kr fun T18 O=>?_
  refine rS (CL (dV.eq (pL (eD ts f.toNat k) ([x.ks]) (some ⟨AA,0,none⟩) 1 (by exact qe hst om) (by intro z hz; simp only [bR] at hz; subst hz; exact ue L) sm) m8) (aq (aZ 0 rfl rfl (by simp [aa.aV]) rfl)<|aJ) rfl) ?_
  refine aF (O _ _ (aI [2,3,4,7]) (aI [2,3,4,5,6,7]) ?_)
  refine N1 19<|NO U U [20,21] fun T19 E=>?_
  refine rS (CL (dV.eq (pL (gd ts f.toNat k) ([x.lU]) (some ⟨T,0,none⟩) 1 (by exact wS hst om) (by intro z hz; simp only [bR] at hz; subst hz; exact ur L) sm) m8) (aq (aZ 1 rfl rfl (by simp [aa.aV]) rfl)<|aJ) rfl) ?_
  refine aF (E _ _ (aI [2,3,4,7]) ?_)
  refine N1 20<|NO U U [21] fun T20 F=>O_ U cp U<|aF (F _ _ (aI [2,3,4,7]) ?_)
  refine N1 21<|NO U U [] fun T21 G=>Ia U cp U<|aF (G _ _ (aI [2,3,4,7]) ?_)
  refine pW<|aG<|KK M ?_
  have H:(aa.cells (l9 (eD ts f.toNat k) x.ks))=(aa.cells (eD ts f.toNat (k+1))):=by rw [pb hx]
  rw [H]
  have AB:(aa.cells (l9 (gd ts f.toNat k) x.lU))=(aa.cells (gd ts f.toNat (k+1))):=by rw [pt hx]
  rw [AB]
  refine ak<|rP 3 [] I ?_
  refine aF ?_
  have K:(vI (f+(((k+1):Nat):Int)))=(vI ((f+(k:Int))+1)):=by exact cI om
  refine aR (V ⟨((k+1),B9),⟨om,C,B⟩⟩ _ _ _ U os (cO 5<|bo U K<|dw.nil _) (aI [2,3,4,5,6,7]))
 refine u_ (rem':=[9,18,19,20,21]) U kr fun T14 N=>cV (xs:=[.tmp 29]) (cs:=(aa.cells x.ks)) U jF cZ U U U U (by simp [Value.cells,aa.aV]) U U fun T=>aF (N _ _ (aI [1,2,3,6]) (aI [1,2,3,4,5,6]) ?_)
 refine iQ [9,18] kr (eI ?_<|eI ?_<|kQ)
 rotate_left 1
 ·refine u_ (rem':=[9,19,20,21]) U kr fun T16 D=>cV (xs:=[.tmp 39]) (cs:=(aa.cells x.lU)) U jF cZ U U U U (by simp [Value.cells,aa.aV]) U U fun AA=>aF (D _ _ (aI [2,3,4,7]) (aI [2,3,4,5,6,7]) ?_)
  refine N1 9<|u_ (rem':=[19,20,21]) U kr fun T18 O=>?_
  refine rS (CL (dV.eq (pL (eD ts f.toNat k) ([x.ks]) (some ⟨T,0,none⟩) 1 (by exact qe hst om) (by intro z hz; simp only [bR] at hz; subst hz; exact ue L) sm) m8) (aq (aZ 1 rfl rfl (by simp [aa.aV]) rfl)<|aJ) rfl) ?_
  refine aF (O _ _ (aI [2,3,4,7]) (aI [2,3,4,5,6,7]) ?_)
  refine N1 19<|NO U U [20,21] fun T19 E=>?_
  refine rS (CL (dV.eq (pL (gd ts f.toNat k) ([x.lU]) (some ⟨AA,0,none⟩) 1 (by exact wS hst om) (by intro z hz; simp only [bR] at hz; subst hz; exact ur L) sm) m8) (aq (aZ 0 rfl rfl (by simp [aa.aV]) rfl)<|aJ) rfl) ?_
  refine aF (E _ _ (aI [2,3,4,7]) ?_)
  refine N1 20<|NO U U [21] fun T20 F=>O_ U cp U<|aF (F _ _ (aI [2,3,4,7]) ?_)
  refine N1 21<|NO U U [] fun T21 G=>Ia U cp U<|aF (G _ _ (aI [2,3,4,7]) ?_)
  refine pW<|aG<|KK M ?_
  have H:(aa.cells (l9 (eD ts f.toNat k) x.ks))=(aa.cells (eD ts f.toNat (k+1))):=by rw [pb hx]
  rw [H]
  have AB:(aa.cells (l9 (gd ts f.toNat k) x.lU))=(aa.cells (gd ts f.toNat (k+1))):=by rw [pt hx]
  rw [AB]
  refine ak<|rP 3 [] I ?_
  refine aF ?_
  have K:(vI (f+(((k+1):Nat):Int)))=(vI ((f+(k:Int))+1)):=by exact cI om
  refine aR (V ⟨((k+1),B9),⟨om,C,B⟩⟩ _ _ _ U os (cO 5<|bo U K<|dw.nil _) (aI [2,3,4,5,6,7]))
 refine u_ (rem':=[18,19,20,21]) U kr fun T16 D=>?_
 refine rS (CL (dV.eq (pL (eD ts f.toNat k) ([x.ks]) (some ⟨T,0,none⟩) 1 (by exact qe hst om) (by intro z hz; simp only [bR] at hz; subst hz; exact ue L) sm) m8) (aq (aZ 0 rfl rfl (by simp [aa.aV]) rfl)<|aJ) rfl) ?_
 refine aF (D _ _ (aI [1,2,3,6]) (aI [1,2,3,4,5,6]) ?_)
 refine N1 18<|u_ (rem':=[19,20,21]) U kr fun T17 Y=>cV (xs:=[.tmp 39]) (cs:=(aa.cells x.lU)) U jF cZ U U U U (by simp [Value.cells,aa.aV]) U U fun b=>aF (Y _ _ (aI [2,3,4,7]) (aI [2,3,4,5,6,7]) ?_)
 refine N1 19<|NO U U [20,21] fun T19 E=>?_
 refine rS (CL (dV.eq (pL (gd ts f.toNat k) ([x.lU]) (some ⟨b,0,none⟩) 1 (by exact wS hst om) (by intro z hz; simp only [bR] at hz; subst hz; exact ur L) sm) m8) (aq (aZ 0 rfl rfl (by simp [aa.aV]) rfl)<|aJ) rfl) ?_
 refine aF (E _ _ (aI [2,3,4,7]) ?_)
 refine N1 20<|NO U U [21] fun T20 F=>O_ U cp U<|aF (F _ _ (aI [2,3,4,7]) ?_)
 refine N1 21<|NO U U [] fun T21 G=>Ia U cp U<|aF (G _ _ (aI [2,3,4,7]) ?_)
 refine pW<|aG<|KK M ?_
 have H:(aa.cells (l9 (eD ts f.toNat k) x.ks))=(aa.cells (eD ts f.toNat (k+1))):=by rw [pb hx]
 rw [H]
 have AB:(aa.cells (l9 (gd ts f.toNat k) x.lU))=(aa.cells (gd ts f.toNat (k+1))):=by rw [pt hx]
 rw [AB]
 refine ak<|rP 3 [] I ?_
 refine aF ?_
 have K:(vI (f+(((k+1):Nat):Int)))=(vI ((f+(k:Int))+1)):=by exact cI om
 refine aR (V ⟨((k+1),B9),⟨om,C,B⟩⟩ _ _ _ U os (cO 5<|bo U K<|dw.nil _) (aI [2,3,4,5,6,7]))
theorem JP (ts:List al) (tsA:OA) (tsC:Nat) (f t:Int) (hst: ∀ x∈ts,bJ x) (hlen:ts.length≤12) (hf:0≤f∧f≤t∧t≤ts.length):
 dV Tryz.prog 146 [(vA (eh.cells (eh.mk (bD.mk (bp.mk tsA ts.length tsC))))),(vI f),(vI t)] [(rd tsA ts.length 9 (ts.map al.cells))] (vT [(vA (aa.cells (eD ts f.toNat (t-f).toNat))),(vA (aa.cells (gd ts f.toNat (t-f).toNat)))]):=by
 refine bx kr Tryz.func146 U U fun w0 Q hQ hN=>?_
 try dsimp only
 refine WS fun _ M=>fQ U fun a=>uT U U fun b=>uT U U fun d=>AL U cZ fun e=>AL U cZ fun g=>RK M<|ai fun _ AA=>WS fun _ V=>rP 2 [0,1] (mc 4 U (mc 3 U I)) ?_
 refine cX (MK f tsA ts.length tsC) (aJ) U fun u n=>?_
 obtain ⟨B,C⟩:=u
 try dsimp only
 refine RK V<|ax<|kl 7 U (by exact fun _ h=>h) ?_
 refine E9 (L0:=[(3,(vP a)),(4,(vP b)),(5,(vP d)),(6,(vP e)),(7,(vP g))]) (F:=[(rd tsA ts.length 9 (ts.map al.cells)).ro,(bU B 3 [(vI f)]),(bU C 203 (eh.cells (eh.mk (bD.mk (bp.mk tsA ts.length tsC)))))]) (xs:=(tg ts f.toNat)) (fun k (y:aa×aa×Int)=>(k≤(t-f).toNat)∧(y.2.2=f+(k:Int))) (fun k y=>[(bU g 40 (aa.cells y.2.1)),(bU e 40 (aa.cells y.1)),(bU d 3 [(vI t)]),(bU b 3 [(vI y.2.2)]),(bU a 203 (eh.cells (eh.mk (bD.mk (bp.mk tsA ts.length tsC))))),(rd tsA ts.length 9 (ts.map al.cells)).ro]) (fun c (z:Unit)=>(c= .exit 0)) (fun _ z=>[(bU g 40 (aa.cells (gd ts f.toNat (t-f).toNat))),(bU e 40 (aa.cells (eD ts f.toNat (t-f).toNat))),(bU d 3 [(vI t)]),(bU b 3 [(vI t)]),(bU a 203 (eh.cells (eh.mk (bD.mk (bp.mk tsA ts.length tsC))))),(rd tsA ts.length 9 (ts.map al.cells)).ro]) [3,4,5,6,7,8] [0,1,2] (dv,dv,f) U U (GS ts tsA tsC f B C (by first|assumption|omega|(simp; done)) (by first|assumption|omega|(simp; done)) om) U U U (by exact ⟨Nat.zero_le _,sm⟩) (by simp only [List.forall_mem_cons,List.not_mem_nil,false_imp_iff,implies_true,and_true]; exact ⟨⟨_,sm,(dC (bP _))⟩,⟨_,sm,(bP _)⟩,⟨_,sm,(bP _)⟩⟩) (by exact DL) U (aS U) ?_ ?_ ?_ ?_
 rotate_left 1
 ·rintro q ⟨v,z2,m⟩ J
  obtain ⟨A,K⟩:=J
  try dsimp only at A K
  try dsimp only
  exfalso; rw [tw] at A; omega
 ·rintro r id _ Y
  have hc:=Y
  cases hc
  try dsimp only
  refine ay<|KK AA<|ai fun _ D=>dD cq [2,3] [] [] [0,1,2,3,4,5,6,7,8,9] [] U U U U U<|eS U (LW 5 U b_ U U)<|eS U (LW 4 U b_ U U)<|eX U<|bX U fun T30 E=>Ia U cp U<|aF (E _ _ (aI [0,1,2,3,4,5,6,7,8,9]) ?_)
  refine bX U fun T31 G=>Ps U cp U<|aF (G _ _ (aI [0,1,2,3,4,5,6,7,8,9]) ?_)
  refine fF U<|KK D<|ao<|hQ _ _ _ (ox 0 U U<|gX (vs:=[(vA (aa.cells (eD ts f.toNat (t-f).toNat))),(vA (aa.cells (gd ts f.toNat (t-f).toNat)))]) ⟨⟨_,U,.inl ⟨_,_,b_,ph (vs:=(aa.cells (eD ts f.toNat (t-f).toNat))) 5 U U,U,U⟩⟩,⟨_,U,.inl ⟨_,_,b_,ph (vs:=(aa.cells (gd ts f.toNat (t-f).toNat))) 4 U U,U,U⟩⟩,trivial⟩ fun w hs=>EG ?_ hs)
  show (vT [(vA (aa.cells (eD ts f.toNat (t-f).toNat))),(vA (aa.cells (gd ts f.toNat (t-f).toNat)))])=(vT [(vA (aa.cells (eD ts f.toNat (t-f).toNat))),(vA (aa.cells (gd ts f.toNat (t-f).toNat)))])
  clear hs w hQ hN G T31 E T30 D V AA M
  rfl
 ·rintro s _ Z
  cases Z
 rintro k x ⟨v,z2,m⟩ l ra rb S w1 K13 Qr14 hx AB N H L j
 obtain ⟨hk,rfl⟩:=H9 hx
 obtain ⟨A,K⟩:=AB
 try dsimp only at A K
 try dsimp only
 refine WS fun _ O=>AL U cZ fun o=>fO U cp U<|RK O<|ak<|AL U cZ fun p=>fO U cp U<|aF<|jB (fun _ _ h=>h) (aI [2,0,1,3,4,5,6,7,8])<|aR (N _ _ ?_)
 refine ax<|ai fun _ P=>ai fun _ R=>dD cq [2,3] [] [] [0,1,2,5,6,7,8] [] U U U U U<|eS U (LW 2 U b_ U U)<|eS U (LW 1 U b_ U U)<|eX U<|bX U fun T21 W=>Ps U cp U<|aF (W _ _ (aI [0,1,2,5,6,7,8]) ?_)
 refine bX U fun T22 X=>TQ U cp U<|aF (X _ _ (aI [0,1,2,5,6,7,8]) ?_)
 refine fF U<|KK R<|WS fun _ T=>rP 3 [0,1] (mc 6 U (mc 5 U I)) ?_
 refine RK T<|cy U (aP fun i=>?_) (aQ fun i=>?_)
 ·refine bw<|ab<|iE U ?_
  rw [show m=t from by omega]
  obtain rfl:k=(t-f).toNat:=by omega
  exact L _ () _ _ (by exact U) (aI [0,3,4,5,6,7,8])
 refine WK P<|ak<|rP 2 [] (mc 6 U I) ?_
 refine VH U B1 U U<|aF<|aG ?_
 exact H ((eD ts f.toNat k),(gd ts f.toNat k),(m+1)) _ _ (by refine ⟨om,?_⟩; dsimp only; omega) (aI [0,3,4,5,6,7,8])
end
section
open Go.RowKit
theorem H5 (i:Int) (s:cD) (ts:List al) (tsA:OA) (tsC g1:Nat) (hst: ∀ x∈ts,bJ x) (hlen:ts.length≤12):
 dV Tryz.prog 160 [(vI i),(vA (cD.cells s)),(vP g1)] [(rd tsA ts.length 9 (ts.map al.cells)),(bU g1 203 (eh.cells (eh.mk (bD.mk (bp.mk tsA ts.length tsC)))))] (vB (!(decide (fj ts s)))):=by
 refine bx kr Tryz.func160 U U fun AA Q hQ hN=>?_
 try dsimp only
 refine WS fun _ C=>fQ U fun G=>rP 1 [] I ?_
 refine RK C<|ai fun _ A=>pa cq [0,1,2,3,4,5,6] [7,8,9,10,11,12,13,14,15,16,17,18,19,20,21,22,23,24,25,26] [false,false,false,false,false,false,false] [] [(bU G 111 (cD.cells s)),(rd tsA ts.length 9 (ts.map al.cells)).ro,(bU g1 203 (eh.cells (eh.mk (bD.mk (bp.mk tsA ts.length tsC))))).ro] [] kr (aI [0,1,2]) (aI [])<|eS U (FA 0 U fx U)<|eS U (FA 0 U fx U)<|eS U (Ib (vS tsA ts.length tsC) 2 U b_ U U)<|eS U (LN U PC)<|eS U (BI U (qk ⟨om,om⟩))<|eS U (FA 0 U fx U)<|eS U (L1 (vI s.aY) 0 U b_ U U)<|eX U<|N1 7<|NO U U [8,9,10,11,12,13,14,15,16,17,18,19,20,21,22,23,24,25,26] fun T4 D=>cV (xs:=[.tmp 12]) (cs:=[(vI s.aY)]) U cv ja U U U U (by simp [Value.cells]) U U fun H=>RD D 1 U<|Ji [14,15,16,17,18,19,20,21,22,23,24,25,26,27,28,29,30,31,5] kr kr U _ U U (aI [1,2,3]) ?_
 refine dS (CL (dV.eq (o3 0 ((ts.length:Int)-1) ([s.aY]) (some ⟨H,0,none⟩) 1 (by (simp; done))) cR) (aq (aZ 0 U U (by simp [bE]) U)<|aJ) U) ?_
 refine dP 2 [] I ?_
 refine iR (t:=16) U (bk fun B=>?_) (bj fun B=>?_)
 ·refine lv 9 U<|dP 7 [] I ?_
  refine cH<|RK A<|ao<|Q1 hQ U U U ?_
  (refine cB ?_; rw [cd (CI om)]; rfl)
 refine lv 1 U<|dS (LP (aa.cells s.mB) 1 U b_ U U U)<|dP 5 [0,1] (mr 3 U (mc 1 U I)) ?_
 obtain ⟨x,hx⟩:=aL ts ((s.aY).toNat) om
 have E:=bH al.cells hx
 refine dS (IA ((s.aY).toNat) U (aD 2 U) yi dc om om)<|dS (nN ((((s.aY).toNat)*9)+1) U (aD 2 U) (Nat.mul_pos om dc) fx U) ?_
 have F:=(hst x (aT hx)).2.1
 simp only [dI] at F
 refine dS (nN ((((s.aY).toNat)*9)+1) U (aD 2 U) (Nat.mul_pos om dc) fx U)<|dS (gp ((s.aY).toNat) 1 (vI x.ks.Lo) U b_ (aD 2 U) E U dc U)<|lv 1 U<|dS (CL (vJ s.mB 0 (x.ks.Lo-1)) (aJ) U)<|dP 3 [] I ?_
 refine cH<|RK A<|ao<|Q1 hQ U U U ?_
 exact congrArg (fun b=>vB (!b)) (decide_eq_decide.2 (CT om hx).symm)
theorem Ep (l:List cD) (lA:OA) (lC:Nat) (f:Value) (p:Int→cD→Bool) (X:au) (hf: ∀ x0 x1,(∃ k:Nat,x0=(k:Int)∧l[k]? =some x1)→Ef Tryz.prog f [.int .i64 x0,.agg (cD.cells x1).toArray] [X] (.bool (p x0 x1))) (hlen:l.length≤1000000):
 lD Tryz.prog 159 [(vS lA l.length lC),f] [(rd lA l.length 3 (l.map cD.cells)),X] (fun (x:(OA)×Nat)=>(vS x.1 ((Lw (fun jj yy=>p (jj:Int) yy) l).length) x.2)) (fun (x:(OA)×Nat)=>True) (fun (x:(OA)×Nat)=>[(own x.1 x.2 3 1 ((Lw (fun jj yy=>p (jj:Int) yy) l).map iC))]):=by
 refine di kr Tryz.func159 U U fun W Q hQ hN=>?_
 try dsimp only
 refine WS fun _ L=>a_ 1 U<|RK L<|WS fun _ M=>a_ 1 U<|RK M<|ai fun _ N=>WS fun _ O=>rP 3 [] I ?_
 refine RK O<|ax<|fV 3 1 ?_
 have A:(0≤l.length):=by exact Nat.zero_le _
 refine bK (ι:={z:Nat×(OA)×Nat // (z.1≤l.length)}) [0,1,8,9] [1,2] U U (fun z=>[(5,(vS z.1.2.1 ((su (fun jj yy=>p (jj:Int) yy) l z.1.1).length) z.1.2.2)),(10,(vI (z.1.1:Int)))]) (fun z=>[(own z.1.2.1 z.1.2.2 3 1 ((su (fun jj yy=>p (jj:Int) yy) l z.1.1).map iC))]) (fun _=>rfl) (fun _=>rfl) (fun z=>l.length-z.1.1) ⟨(0,none,0),A⟩ (aS U) (aI [1,2,0]) ?_
 clear A
 rintro ⟨⟨i,a,c⟩,B⟩ J5 C
 try dsimp only at B
 try dsimp only
 refine WS fun _ P=>rP 1 [] I ?_
 refine RK P<|ai fun _ R=>bM U (aQ fun V=>?_) (aP fun V=>?_)
 ·refine bw<|ab<|ab<|ay<|KK N<|WS fun _ F=>?_
  rw [Nh (p:=fun (i:Nat) x=>p (i:Int) x) (show i=l.length by omega)]
  refine rP 2 [] I ?_
  refine RK F<|ao<|LX hQ (a,c) [2] [] I U U U U ?_
  trivial
 refine WK R<|ai fun _ G=>ax<|WS fun _ D=>rP 1 [] I ?_
 obtain ⟨x,hx⟩:=aL l i om
 have S:=bH cD.cells hx
 refine rS (IA i U (aD 0 U) Kj dc om om)<|rS (oE i 0 (cD.cells x) U b_ (aD 0 U) S U dc U U)<|AL U BE fun T=>a_ 1 U<|fO U KG U<|RK D<|WS fun _ E=>rP 3 [] (mc 0 U I) ?_
 refine rS (SX (sf U U U (hf (i:Int) x ⟨i,U,hx⟩) (bf [2])) U U)<|RK E<|bM U (fun hp=>?_) (fun hp=>?_)
 ·refine bV<|aG<|KK G<|ak ?_
  rw [← Nu (p:=fun (i:Nat) x=>p (i:Int) x) hx hp]
  refine rP 2 [] I ?_
  refine aF ?_
  have AB:(vI (((i+1):Nat):Int))=(vI ((i:Int)+1)):=by exact cI om
  refine aR (C ⟨((i+1),a,c),(by first|omega|(simp only []; omega))⟩ _ _ _ U os (cO 5<|bo U AB<|dw.nil _) (aI [1,2,3]))
 refine ak<|rP 2 [] I ?_
 refine cV (xs:=[.tmp 20]) (cs:=[(vI (i:Int))]) U cv ja U U U U (by simp [Value.cells]) U U fun AA=>?_
 refine c_ (es2:=(List.map iC (su (fun jj yy=>p (jj:Int) yy) l (i+1)))) (m':=(su (fun jj yy=>p (jj:Int) yy) l (i+1)).length) 4 U U U pZ U U sm (aZ (es:=List.map iC [(i:Int)]) 0 U U (by simp [bE]) U) (kb _) (by have:=Bf (p:=fun (i:Nat) x=>p (i:Int) x) (l:=l) (n:=i); simp; omega) (by have:=Bf (p:=fun (i:Nat) x=>p (i:Int) x) (l:=l) (n:=i); simp only [maxLen]; omega) (by rw [KW hx hp]; simp) sm U fun J K=>?_
 try dsimp only
 refine a_ 1 U<|aF<|aG<|KK G<|ak<|rP 2 [] I ?_
 refine aF ?_
 have H:(vI (((i+1):Nat):Int))=(vI ((i:Int)+1)):=by exact cI om
 refine aR (C ⟨((i+1),J,K),(by first|omega|(simp only []; omega))⟩ _ _ _ U os (cO 5<|bo U H<|dw.nil _) (aI [2,3,4]))
theorem Cr (ts:List al) (tsA:OA) (tsC:Nat) (l:List cD) (lA:OA) (lC:Nat) (hst: ∀ x∈ts,bJ x) (hlen:ts.length≤12) (hl:l.length≤4):
 dV Tryz.prog 145 [(vA (eh.cells (eh.mk (bD.mk (bp.mk tsA ts.length tsC))))),(vS lA l.length lC)] [(rd tsA ts.length 9 (ts.map al.cells)),(rd lA l.length 3 (l.map cD.cells))] (vB (decide (∀ s∈l,fj ts s))):=by
 refine bx kr Tryz.func145 U U fun J Q hQ hN=>?_
 try dsimp only
 refine WS fun _ B=>fQ U fun A=>a_ 1 U<|RK B<|WS fun _ C=>rP 1 [] I ?_
 refine rS (FU U) ?_
 refine cX (Ep l lA lC (Value.func (.func 160) [].toArray [(vP A)].toArray) (fun E D=>(!(decide (fj ts D)))) (e7 [(rd tsA ts.length 9 (ts.map al.cells)),(bU A 203 (eh.cells (eh.mk (bD.mk (bp.mk tsA ts.length tsC)))))]) (by intro E D _; exact nc (fi:=[]) (ca:=[(vP A)]) (l4 (H5 E D ts tsA tsC A (by first|assumption|omega) (by first|assumption|omega)) (bf [0,1]))) om) (fq 2 U U<|aq (l0 (bf [1,0]))<|aJ) U fun G F=>?_
 obtain ⟨H,AA⟩:=G
 try dsimp only
 refine rP 3 [] I ?_
 refine RK C<|ao<|Q1 hQ U U U ?_
 exact congrArg Value.bool (decide_eq_decide.2 (by rw [show ∀ n:Nat,((n:Int)=0)↔n=0 from fun n=>by omega,G8]; simp only [Bool.not_eq_false',decide_eq_true_eq]; exact ⟨fun h s hs=>by obtain ⟨k,hk⟩:=List.getElem?_of_mem hs; exact h k s hk,fun h k s hk=>h s (List.mem_of_getElem? hk)⟩))
theorem DY (z:aa) (hz:lx z):
 dV Tryz.prog 162 [(vA (aa.cells z))] [] (vA (aa.cells (nY z))):=by
 unfold lx at hz
 refine bx kr Tryz.func162 U U fun E Q hQ hN=>?_
 try dsimp only
 refine WS fun _ A=>fQ U fun C=>AL U cZ fun D=>RK A<|WS fun _ B=>fy 2 [] (mc 1 U I) U<|rS (NG U ⟨om,om⟩)<|rP 2 [] (mc 1 U I) ?_
 refine rS (NG U ⟨om,om⟩)<|rS (SX (bh (xs:=[(0,.tmp 5),(1,.tmp 8)]) (cs:=(aa.cells (aa.mk (-z.Hi) (-z.Lo)))) U U (bg gn U)) U U)<|fO U cp U<|RK B<|ao ?_
 exact Ic hQ [0] (mc 0 U I) U U
theorem SI (ts:List al) (tsA:OA) (tsC:Nat) (s:cD) (hlen:ts.length≤1000000) (hside: ∀ x∈ts,0≤x.iX∧x.iX≤255):
 dV Tryz.prog 124 [(vA (bD.cells (bD.mk (bp.mk tsA ts.length tsC)))),(vA (cD.cells s))] [(rd tsA ts.length 9 (ts.map al.cells))] (vT [(vA (aa.cells (QA ts s))),(vI (E_ ts s))]):=by
 refine bx kr Tryz.func124 U U fun Z Q hQ hN=>?_
 try dsimp only
 refine WS fun _ K=>fQ U fun V=>fQ U fun W=>AL U cZ fun X=>a_ 1 U<|RK K<|WS fun _ L=>fy 1 [] (mc 2 U I) U<|rS (CL (F_ ts tsA tsC hlen hside) (bf [3]) U)<|a_ 3 U<|AL U Jr fun Y=>fO U JS U<|a_ 1 U<|RK L<|ai fun _ M=>WS fun _ N=>rP 2 [] I ?_
 refine RK N<|cy U (bk fun he=>?_) (bj fun he=>?_)
 ·refine WS fun _ O=>rS (SX (bh (xs:=[]) (cs:=(aa.cells (aa.mk 0 0))) U U (bg gn U)) U U)<|a_ 1 U<|t_ U cp U<|rP 1 [] I ?_
  refine RK O<|ao<|lp hQ [0] (mc 1 U I) U ?_
  (have e:=LQ (s:=s) (zo he).1; rw [e.1,e.2,(zo he).2]<;>rfl)
 refine WK M<|ai fun _ C=>WS fun _ D=>?_
 have B:=D3 he
 have H:=jN B
 have R:=kD B
 refine rP 2 [0,1] (mc 0 U (mc 2 U I)) ?_
 refine cV (xs:=[.tmp 20]) (cs:=(cD.cells s)) U Kj BE U U U U (by simp [Value.cells,cD.aV]) U U fun AB=>?_
 refine rS (CL (dV.eq (Cr ts tsA tsC ([s]) (some ⟨AB,0,none⟩) 1 asm asm (by (simp; done))) DC) (fq 5 U U<|aq (aZ 0 U U (by simp [cD.aV]) U)<|aJ) U) ?_
 refine rP 1 [] I ?_
 refine RK D<|cy U (bk fun A=>?_) (bj fun A=>?_)
 ·refine WS fun _ E=>rS (SX (bh (xs:=[]) (cs:=(aa.cells (aa.mk 0 0))) U U (bg gn U)) U U)<|HO U cp U<|rP 1 [] I ?_
  refine RK E<|ao<|lp hQ [0] (mc 2 U I) U ?_
  (have e:=KA B A; rw [e.1,e.2]<;>rfl)
 refine WK C<|WS fun _ F=>?_
 have AA:=A.1
 have P:=p9 H A
 refine fy 3 [0,1] (mc 1 U (mc 3 U I)) U<|rS (CL (JP ts tsA tsC 0 s.aY asm asm om) (bf [5]) U)<|a_ 3 U<|AL U cZ fun S=>AL U cZ fun T=>t_ U cp U<|fO U cp U<|RK F<|WS fun _ G=>rP 2 [] (mc 1 U I) ?_
 refine rS (LP (aa.cells s.mB) 5 U b_ U U U)<|cV (xs:=[.tmp 34]) (cs:=(aa.cells s.mB)) U jF cZ U U U U (by simp [Value.cells,aa.aV]) U U fun J=>?_
 refine rS (CL (dV.eq (pL (eD ts (0:Int).toNat (s.aY-0).toNat) ([s.mB]) (some ⟨J,0,none⟩) 1 (by exact qe H om) (by intro z hz; simp only [bR] at hz; subst hz; exact P) sm) m8) (aq (aZ 0 rfl rfl (by simp [aa.aV]) rfl)<|aJ) rfl) ?_
 refine Ia U cp U<|rP 1 [] I ?_
 refine RK G<|ao<|lp hQ [0] (mc 5 U I) U ?_
 (have e:=wU B A; rw [e.1,e.2]; unfold Mr; rw [show (s.aY-0).toNat=s.aY.toNat by rw [Int.sub_zero]]<;>rfl)
theorem Mu (ts:List al) (tsA:OA) (tsC:Nat) (p:cD) (q:cD) (hlen:ts.length≤1000000) (hside: ∀ x∈ts,0≤x.iX∧x.iX≤255):
 dV Tryz.prog 148 [(vA (bD.cells (bD.mk (bp.mk tsA ts.length tsC)))),(vA (cD.cells p)),(vA (cD.cells q))] [(rd tsA ts.length 9 (ts.map al.cells))] (vT [(vA (aa.cells (kE ts p q))),(vI (lK ts p q))]):=by
 refine bx kr Tryz.func148 U U fun w Q hQ hN=>?_
 try dsimp only
 refine WS fun _ c=>fQ U fun r=>fQ U fun s=>fQ U fun t=>AL U cZ fun u=>a_ 1 U<|RK c<|WS fun _ d=>fy 1 [] (mc 3 U I) U<|rS (CL (F_ ts tsA tsC hlen hside) (bf [4]) U)<|a_ 3 U<|AL U Jr fun v=>fO U JS U<|a_ 1 U<|RK d<|ai fun _ g=>WS fun _ h=>rP 2 [] I ?_
 refine RK h<|cy U (bk fun he=>?_) (bj fun he=>?_)
 ·refine WS fun _ G=>rS (SX (bh (xs:=[]) (cs:=(aa.cells (aa.mk 0 0))) U U (bg gn U)) U U)<|a_ 1 U<|t_ U cp U<|rP 1 [] I ?_
  refine RK G<|ao<|lp hQ [0] (mc 1 U I) U ?_
  (have e:=uE (a:=p) (b:=q) (zo he).1; rw [e.1,e.2,(zo he).2]<;>rfl)
 refine WK g<|ai fun _ H=>WS fun _ AB=>?_
 have A:=D3 he
 have F:=jN A
 have j:=kD A
 refine rP 3 [0,1,2] (mc 0 U (mc 3 U (mc 2 U I))) ?_
 refine cV (xs:=[.tmp 22,.tmp 23]) (cs:=((cD.cells p)++(cD.cells q))) U Kj BE U U U U (by simp [Value.cells,cD.aV]) U U fun X=>?_
 refine rS (CL (dV.eq (Cr ts tsA tsC ([p,q]) (some ⟨X,0,none⟩) 2 asm asm (by (simp; done))) Et) (fq 6 U U<|aq (aZ 0 U U (by simp [cD.aV]) U)<|aJ) U) ?_
 refine rP 1 [] I ?_
 refine RK AB<|cy U (bk fun D=>?_) (bj fun D=>?_)
 ·refine WS fun _ J=>rS (SX (bh (xs:=[]) (cs:=(aa.cells (aa.mk 0 0))) U U (bg gn U)) U U)<|HO U cp U<|rP 1 [] I ?_
  refine RK J<|ao<|lp hQ [0] (mc 2 U I) U ?_
  (have e:=oT A D; rw [e.1,e.2]<;>rfl)
 refine WK H<|WS fun _ K=>?_
 obtain ⟨hp,hq⟩:=D
 have n:=hp.1
 have o:=hq.1
 have i:=p9 F hp
 have W:=p9 F hq
 have V:=Aj i
 have B:=qe F (f:=(min p.aY q.aY).toNat) (k:=(max p.aY q.aY-min p.aY q.aY).toNat) om
 refine fy 5 [0,1,2] (mc 1 U (mc 4 U (mc 3 U I))) U<|rS (MN U)<|fy 4 [0,1] (mc 4 U (mc 3 U I)) U<|rS (MX U)<|rS (CL (JP ts tsA tsC (min p.aY q.aY) (max p.aY q.aY) asm asm om) (bf [6]) U)<|a_ 3 U<|AL U cZ fun l=>AL U cZ fun m=>t_ U cp U<|fO U cp U<|RK K<|ai fun _ C=>WS fun _ L=>rP 5 [0,1] (mc 5 U (mc 6 U I)) ?_
 refine RK L<|bM U (aQ fun E=>?_) (aP fun E=>?_)
 ·refine WK C<|ai fun _ N=>dD cq [6,7,8] [] [] [0,1,2,3,5,6,7,8] [] U U U U U<|eS U (LW 1 U b_ U U)<|eS U (FA 1 U fx U)<|eS U (LP (aa.cells q.mB) 4 U b_ U U U)<|eS U (FA 1 U fx U)<|eS U (LP (aa.cells p.mB) 5 U b_ U U U)<|eS U (CL (DY p.mB asm) (aJ) U)<|eS U (AG U)<|eX U<|bX U fun T26 S=>cV (xs:=[.tmp 52,.tmp 55]) (cs:=((aa.cells q.mB)++(aa.cells (nY p.mB)))) U jF cZ U U U U (by simp [Value.cells,aa.aV]) U U fun Z=>aF (S _ _ (aI [1,2,3,4,6,7,8,9]) ?_)
  refine bX U fun T28 T=>?_
  refine rS (CL (dV.eq (pL (eD ts (min p.aY q.aY).toNat ((max p.aY q.aY)-(min p.aY q.aY)).toNat) ([q.mB,(nY p.mB)]) (some ⟨Z,0,none⟩) 2 (by first|exact B|exact Aj B) (by intro z hz; simp only [ed,List.not_mem_nil,or_false] at hz; rcases hz with rfl|rfl; exact W; exact V) sm) Db) (aq (aZ 0 rfl rfl (by simp [aa.aV]) rfl)<|aJ) rfl) ?_
  refine aF (T _ _ (aI [1,2,3,4,6,7,8,9]) ?_)
  refine bX U fun T29 AA=>Ia U cp U<|aF (AA _ _ (aI [1,2,3,4,6,7,8,9]) ?_)
  refine fF U<|KK N<|ao<|lp hQ [0] (mc 5 U I) U ?_
  (have e:=k7 A ⟨hp,hq⟩; rw [e.1,e.2]; unfold jP xD; rw [if_neg E]<;>rfl)
 refine ak<|rP 1 [] (mc 1 U I) ?_
 refine rS (CL (DY (eD ts (min p.aY q.aY).toNat ((max p.aY q.aY)-(min p.aY q.aY)).toNat) asm) (aJ) U)<|t_ U cp U<|RK C<|ai fun _ M=>dD cq [6,7,8] [] [] [0,1,2,3,5,6,7,8] [] U U U U U<|eS U (LW 1 U b_ U U)<|eS U (FA 1 U fx U)<|eS U (LP (aa.cells q.mB) 4 U b_ U U U)<|eS U (FA 1 U fx U)<|eS U (LP (aa.cells p.mB) 5 U b_ U U U)<|eS U (CL (DY p.mB asm) (aJ) U)<|eS U (AG U)<|eX U<|bX U fun T21 O=>cV (xs:=[.tmp 52,.tmp 55]) (cs:=((aa.cells q.mB)++(aa.cells (nY p.mB)))) U jF cZ U U U U (by simp [Value.cells,aa.aV]) U U fun Y=>aF (O _ _ (aI [1,2,3,4,6,7,8,9]) ?_)
 refine bX U fun T23 P=>?_
 refine rS (CL (dV.eq (pL (nY (eD ts (min p.aY q.aY).toNat ((max p.aY q.aY)-(min p.aY q.aY)).toNat)) ([q.mB,(nY p.mB)]) (some ⟨Y,0,none⟩) 2 (by first|exact B|exact Aj B) (by intro z hz; simp only [ed,List.not_mem_nil,or_false] at hz; rcases hz with rfl|rfl; exact W; exact V) sm) Db) (aq (aZ 0 rfl rfl (by simp [aa.aV]) rfl)<|aJ) rfl) ?_
 refine aF (P _ _ (aI [1,2,3,4,6,7,8,9]) ?_)
 refine bX U fun T24 R=>Ia U cp U<|aF (R _ _ (aI [1,2,3,4,6,7,8,9]) ?_)
 refine fF U<|KK M<|ao<|lp hQ [0] (mc 5 U I) U ?_
 (have e:=k7 A ⟨hp,hq⟩; rw [e.1,e.2]; unfold jP xD; rw [if_pos E]<;>rfl)
theorem q8 (ts:List al) (tsA:OA) (tsC:Nat) (s:cD) (hst: ∀ x∈ts,bJ x) (hlen:ts.length≤12):
 dV Tryz.prog 155 [(vA (bD.cells (bD.mk (bp.mk tsA ts.length tsC)))),(vA (cD.cells s))] [(rd tsA ts.length 9 (ts.map al.cells))] (vB (decide (fj ts s))):=by
 refine bx kr Tryz.func155 U U fun H Q hQ hN=>?_
 try dsimp only
 refine WS fun _ C=>fQ U fun F=>fQ U fun G=>a_ 1 U<|RK C<|ai fun _ A=>du cq 22 kr<|my 6 [0,1] (mc 0 U (mc 1 U I)) U<|dS (CL (oO s.aY 0 ((ts.length:Int)-1)) (aJ) U)<|dP 1 [] I ?_
 refine ji (t:=12) U (aQ fun B=>?_) (aP fun B=>?_)
 ·refine lv 8 U<|dP 6 [] I ?_
  refine cH<|RK A<|ao<|Q1 hQ U U U ?_
  (refine cB ?_; rw [cd (CI om)])
 refine lv 1 U<|dS (LP (aa.cells s.mB) 0 U b_ U U U)<|dP 4 [0,1] (mc 1 U (mc 0 U I)) ?_
 obtain ⟨x,hx⟩:=aL ts ((s.aY).toNat) om
 have D:=bH al.cells hx
 refine dS (IA ((s.aY).toNat) U (aD 2 U) yi dc om om)<|dS (nN ((((s.aY).toNat)*9)+1) U (aD 2 U) (Nat.mul_pos om dc) fx U) ?_
 have E:=(hst x (aT hx)).2.1
 simp only [dI] at E
 refine dS (nN ((((s.aY).toNat)*9)+1) U (aD 2 U) (Nat.mul_pos om dc) fx U)<|dS (gp ((s.aY).toNat) 1 (vI x.ks.Lo) U b_ (aD 2 U) D U dc U)<|lv 1 U<|dS (CL (pH s.mB 0 (x.ks.Lo-1)) (aJ) U)<|dP 2 [] I ?_
 refine cH<|RK A<|ao<|Q1 hQ U U U ?_
 exact cB (decide_eq_decide.2 (CT om hx).symm)
theorem zJ (ts:List al) (tsA:OA) (tsC:Nat) (f t:Int) (hst: ∀ x∈ts,bJ x) (hlen:ts.length≤12) (hf:0≤f∧f≤t∧t≤ts.length):
 dV Tryz.prog 171 [(vA (bD.cells (bD.mk (bp.mk tsA ts.length tsC)))),(vI f),(vI t)] [(rd tsA ts.length 9 (ts.map al.cells))] (vT [(vA (aa.cells (eD ts f.toNat (t-f).toNat))),(vA (aa.cells (gd ts f.toNat (t-f).toNat)))]):=by
 refine bx kr Tryz.func171 U U fun i Q hQ hN=>?_
 try dsimp only
 refine WS fun _ R=>fQ U fun e=>AL U cZ fun g=>AL U cZ fun h=>RK R<|WS fun _ S=>AL U cZ fun a=>AL U cZ fun b=>RK S<|ai fun _ T=>WS fun _ AA=>rP 2 [] I ?_
 refine RK AA<|ax ?_
 have A:(0≤(t-f).toNat):=by exact Nat.zero_le _
 have K:(vI (f+(0:Int)))=(vI f):=by exact cI om
 refine bK (ι:={z:Nat // (z≤(t-f).toNat)}) [1,2,3,6,7,8,9] [2,3,4,5] U U (fun z=>[(10,(vI (f+(z.1:Int))))]) (fun z=>[(bU b 40 (aa.cells (gd ts f.toNat z.1))),(bU a 40 (aa.cells (eD ts f.toNat z.1)))]) (fun _=>rfl) (fun _=>rfl) (fun z=>(t-f).toNat-z.1) ⟨0,A⟩ (bo U K<|dw.nil _) (aI [2,3,4,5,0,1]) ?_
 clear A
 rintro ⟨k,V⟩ J11 B
 try dsimp only
 refine ai fun _ C=>WS fun _ D=>rP 3 [] I ?_
 refine RK D<|bM U (aQ fun P=>?_) (aP fun P=>?_)
 ·refine bw<|ab<|ab<|ay<|KK T<|ai fun _ H=>dD cq [2,3] [] [] [2,3,4,5] [] U U U U U<|eS U (LW 3 U b_ U U)<|eS U (LW 2 U b_ U U)<|eX U<|bX U fun T23 AB=>t_ U cp U<|aF (AB _ _ (aI [2,3,4,5]) ?_)
  refine bX U fun T24 J=>fO U cp U<|aF (J _ _ (aI [2,3,4,5]) ?_)
  refine fF U<|KK H<|ao<|lp hQ [0,1] (mc 1 U (mc 0 U I)) U ?_
  obtain rfl:k=(t-f).toNat:=om; rfl
 refine WK C<|ai fun _ E=>ax<|WS fun _ F=>rP 3 [] (mc 2 U I) ?_
 obtain ⟨x,hx⟩:=aL ts (f.toNat+k) om
 have Y:=bH al.cells hx
 refine rS (IA (f.toNat+k) U (aD 3 U) yi dc om om)<|rS (oE (f.toNat+k) 0 (al.cells x) U b_ (aD 3 U) Y U dc U U)<|AL U Fa fun Z=>fO U Lh U<|RK F<|WS fun _ G=>?_
 have O:=hst x (aT hx)
 have d:=lY hst f.toNat k
 have c:=FD hst f.toNat k
 have W:=O.2.1
 have X:=O.2.2.1
 simp only [dI] at W X
 refine fy 12 [0,1,0,1] (mc 6 U (mc 0 U I)) U<|rS (SX (bh (xs:=[(0,.tmp 28),(1,.tmp 34)]) (cs:=(aa.cells (aa.mk (((eD ts f.toNat k).Lo)+x.ks.Lo) (((eD ts f.toNat k).Hi)+x.ks.Hi)))) U U (bg gn U)) U U)<|O_ U cp U<|RK G<|ak<|rP 12 [0,1,0,1] (mc 5 U (mc 0 U I)) ?_
 refine rS (SX (bh (xs:=[(0,.tmp 41),(1,.tmp 47)]) (cs:=(aa.cells (aa.mk (((gd ts f.toNat k).Lo)+x.lU.Lo) (((gd ts f.toNat k).Hi)+x.lU.Hi)))) U U (bg gn U)) U U)<|Ia U cp U<|aF<|aG<|KK E ?_
 have L:(aa.cells (aa.mk (((eD ts f.toNat k).Lo)+x.ks.Lo) (((eD ts f.toNat k).Hi)+x.ks.Hi)))=(aa.cells (eD ts f.toNat (k+1))):=by rw [pb hx]; rfl
 rw [L]
 have M:(aa.cells (aa.mk (((gd ts f.toNat k).Lo)+x.lU.Lo) (((gd ts f.toNat k).Hi)+x.lU.Hi)))=(aa.cells (gd ts f.toNat (k+1))):=by rw [pt hx]; rfl
 rw [M]
 refine ak<|rP 3 [] I ?_
 refine aF ?_
 have N:(vI (f+(((k+1):Nat):Int)))=(vI ((f+(k:Int))+1)):=by exact cI om
 refine aR (B ⟨(k+1),(by first|omega|(simp only []; omega))⟩ _ _ _ U os (cO 7<|bo U N<|dw.nil _) (aI [1,2,3,4,5,6]))
end
section
open Go.RowKit
theorem QV (l:aX) (kA:OA) (kC:Nat) (az:List RA) (cA:OA) (cC:Nat) (bA:OA) (bC:Nat) (hin:eu l az):
 dV Tryz.prog 115 [(vA (cb.cells (ly l kA kC cA cC bA bC)))] [(rd kA l.aN.length 9 (l.aN.map al.cells)),(rd cA l.aj.length 2 (List.zipWith av.cells l.aj az)),(e7 (aU av.g0 l.aj az)),(rd bA l.ae.length 4 (l.ae.map bB.cells))] (vB (decide (gl l))):=by
 have R:=hin.sM
 have P:=hin.sO
 have N:=hin.oq
 have O:=hin.sN
 refine bx kr Tryz.func115 U U fun T Q hQ hN=>?_
 try dsimp only
 refine WS fun _ G=>fQ U fun S=>a_ 1 U<|RK G<|WS fun _ A=>rP 2 [] (mc 0 U I) ?_
 refine cV (xs:=[.tmp 4]) (cs:=[(vI l.gT)]) U cv ja U U U U (by simp [Value.cells]) U U fun H=>?_
 refine rS (CL (dV.eq (iO 1 5000 ([l.gT]) (some ⟨H,0,none⟩) 1 (by (simp; done))) cR) (aq (aZ 0 U U (by simp [bE]) U)<|aJ) U) ?_
 refine rP 1 [] I ?_
 refine bZ (t:=7) U (aQ fun K=>?_) (aP fun K=>?_)
 ·refine rP 36 [] I ?_
  refine RK A<|ao<|Q1 hQ U U U ?_
  exact cB (cd (by unfold gl; omega)).symm
 refine rP 3 [] (mc 1 U I) ?_
 refine cV (xs:=[.tmp 10]) (cs:=[(vI (l.aj.length:Int))]) U cv ja U U U U (by simp [Value.cells]) U U fun AA=>?_
 refine rS (CL (dV.eq (iO 1 4 ([(l.aj.length:Int)]) (some ⟨AA,0,none⟩) 1 (by (simp; done))) cR) (aq (aZ 0 U U (by simp [bE]) U)<|aJ) U) ?_
 refine rP 2 [] I ?_
 refine bZ (t:=14) U (aQ fun L=>?_) (aP fun L=>?_)
 ·refine rP 29 [] I ?_
  refine RK A<|ao<|Q1 hQ U U U ?_
  exact cB (cd (by unfold gl; omega)).symm
 refine rP 3 [] (mc 2 U I) ?_
 refine cV (xs:=[.tmp 17]) (cs:=[(vI (l.ae.length:Int))]) U cv ja U U U U (by simp [Value.cells]) U U fun J=>?_
 refine rS (CL (dV.eq (iO 1 6 ([(l.ae.length:Int)]) (some ⟨J,0,none⟩) 1 (by (simp; done))) cR) (aq (aZ 0 U U (by simp [bE]) U)<|aJ) U) ?_
 refine rP 2 [] I ?_
 refine bZ (t:=21) U (aQ fun M=>?_) (aP fun M=>?_)
 ·refine rP 22 [] I ?_
  refine RK A<|ao<|Q1 hQ U U U ?_
  exact cB (cd (by unfold gl; omega)).symm
 refine rP 6 [] (mc 3 U I) ?_
 refine cV (xs:=[.tmp 27]) (cs:=[(vI l.cu)]) U cv ja U U U U (by simp [Value.cells]) U U fun B=>?_
 refine rS (CL (dV.eq (iO 0 ((l.ae.length:Int)-1) ([l.cu]) (some ⟨B,0,none⟩) 1 (by (simp; done))) cR) (aq (aZ 0 U U (by simp [bE]) U)<|aJ) U) ?_
 refine rP 2 [] I ?_
 refine bZ (t:=31) U (aQ fun E=>?_) (aP fun E=>?_)
 ·refine rP 12 [] I ?_
  refine RK A<|ao<|Q1 hQ U U U ?_
  exact cB (cd (by unfold gl; omega)).symm
 refine rP 2 [] (mc 4 U I) ?_
 refine cV (xs:=[.tmp 33]) (cs:=[(vI l.eM)]) U cv ja U U U U (by simp [Value.cells]) U U fun C=>?_
 refine rS (CL (dV.eq (iO 0 3 ([l.eM]) (some ⟨C,0,none⟩) 1 (by (simp; done))) cR) (aq (aZ 0 U U (by simp [bE]) U)<|aJ) U) ?_
 refine rP 2 [] I ?_
 refine bZ (t:=37) U (aQ fun F=>?_) (aP fun F=>?_)
 ·refine rP 6 [] I ?_
  refine RK A<|ao<|Q1 hQ U U U ?_
  exact cB (cd (by unfold gl; omega)).symm
 refine rP 2 [] (mc 5 U I) ?_
 refine cV (xs:=[.tmp 39]) (cs:=[(vI l.cQ)]) U cv ja U U U U (by simp [Value.cells]) U U fun D=>?_
 refine rS (CL (dV.eq (iO 0 3 ([l.cQ]) (some ⟨D,0,none⟩) 1 (by (simp; done))) cR) (aq (aZ 0 U U (by simp [bE]) U)<|aJ) U) ?_
 refine rP 2 [] I ?_
 refine RK A<|ao<|Q1 hQ U U U ?_
 exact cB (decide_eq_decide.2 (by unfold gl; omega))
theorem QO (l:aX) (kA:OA) (kC:Nat) (az:List RA) (cA:OA) (cC:Nat) (bA:OA) (bC:Nat) (hin:eu l az):
 dV Tryz.prog 117 [(vA (cb.cells (ly l kA kC cA cC bA bC)))] [(rd kA l.aN.length 9 (l.aN.map al.cells)),(rd cA l.aj.length 2 (List.zipWith av.cells l.aj az)),(e7 (aU av.g0 l.aj az)),(rd bA l.ae.length 4 (l.ae.map bB.cells))] (vB (decide (∀ c∈l.aj,eY c))):=by
 have H:=hin.sM
 have G:=hin.sO
 have E:=hin.oq
 have F:=hin.sN
 refine bx kr Tryz.func117 U U fun K Q hQ hN=>?_
 try dsimp only
 refine WS fun _ C=>fQ U fun J=>a_ 1 U<|RK C<|WS fun _ D=>rP 2 [] (mc 0 U I) ?_
 refine rS (CL (Ao l.aj az cA cC (Value.func (.func 119) [].toArray [].toArray) (fun m=>(!(decide (eY m)))) (e7 (aU av.g0 l.aj az)) (by intro AA m a B A; exact nc (fi:=[]) (ca:=[]) (RT l.aj az AA m a (by exact B) (by exact A) (by exact hin.QZ _ _ _ B A))) asm asm) (M8 2 3 3 U U U U U U) U) ?_
 refine rP 2 [] I ?_
 refine RK D<|ao<|Q1 hQ U U U ?_
 exact cB (by rw [Bool.eq_iff_iff,decide_eq_true_eq]; exact Ec)
theorem Pv (b:bB) (l:aX) (kA:OA) (kC:Nat) (az:List RA) (cA:OA) (cC:Nat) (bA:OA) (bC g1:Nat) (hin:eu l az) (htr:cT l.aN=true):
 dV Tryz.prog 123 [(vA (bB.cells b)),(vP g1)] [(rd kA l.aN.length 9 (l.aN.map al.cells)),(rd cA l.aj.length 2 (List.zipWith av.cells l.aj az)),(e7 (aU av.g0 l.aj az)),(rd bA l.ae.length 4 (l.ae.map bB.cells)),(bU g1 31 (cb.cells (ly l kA kC cA cC bA bC)))] (vB (!(decide (jT l b)))):=by
 have J:=hin.sM
 have H:=hin.sO
 have F:=hin.oq
 have G:=hin.sN
 have AA:=hin.side
 refine bx kr Tryz.func123 U U fun M Q hQ hN=>?_
 try dsimp only
 refine WS fun _ C=>fQ U fun K=>a_ 1 U<|RK C<|WS fun _ D=>a_ 1 U<|rS (Vz (bD.cells (bD.mk (bp.mk kA l.aN.length kC))) 5 U b_ U U U)<|a_ 1 U<|rS (LP (cD.cells b.mC) 0 U b_ U U U)<|rS (CL (SI l.aN kA kC b.mC asm asm) (bf [1]) U)<|a_ 3 U<|AL U cZ fun L=>fO U cp U<|a_ 1 U<|RK D<|WS fun _ B=>rP 3 [] I ?_
 refine cN (t:=16) U (bk fun A=>?_) (bj fun A=>?_)
 ·refine rP 11 [] I ?_
  refine RK B<|ao<|Q1 hQ U U U ?_
  (refine cB ?_; rw [cd (fun h:jT l b=>A ((Fe htr).2 h.1))]; rfl)
 refine rP 6 [0,1] (mr 6 U (mc 1 U I)) ?_
 refine cV (xs:=[.tmp 22]) (cs:=[(vI b.jG)]) U cv ja U U U U (by simp [Value.cells]) U U fun E=>?_
 refine rS (CL (dV.eq (iO 0 ((l.aj.length:Int)-1) ([b.jG]) (some ⟨E,0,none⟩) 1 (by (simp; done))) cR) (aq (aZ 0 U U (by simp [bE]) U)<|aJ) U) ?_
 refine rP 3 [] I ?_
 refine RK B<|ao<|Q1 hQ U U U ?_
 (refine cB ?_; refine congrArg Bool.not (decide_eq_decide.2 ⟨fun h=>⟨(Fe htr).1 A,om,om⟩,fun h=>by have:=h.2; omega⟩))
theorem QW (l:aX) (kA:OA) (kC:Nat) (az:List RA) (cA:OA) (cC:Nat) (bA:OA) (bC:Nat) (hin:eu l az) (htr:cT l.aN=true):
 dV Tryz.prog 121 [(vA (cb.cells (ly l kA kC cA cC bA bC)))] [(rd kA l.aN.length 9 (l.aN.map al.cells)),(rd cA l.aj.length 2 (List.zipWith av.cells l.aj az)),(e7 (aU av.g0 l.aj az)),(rd bA l.ae.length 4 (l.ae.map bB.cells))] (vB (decide (∀ b∈l.ae,jT l b))):=by
 have H:=hin.sM
 have G:=hin.sO
 have E:=hin.oq
 have F:=hin.sN
 refine bx kr Tryz.func121 U U fun AA Q hQ hN=>?_
 try dsimp only
 refine WS fun _ B=>fQ U fun A=>a_ 1 U<|RK B<|WS fun _ C=>rP 2 [] (mc 0 U I) ?_
 refine rS (FU U) ?_
 refine rS (CL (An l.ae bA bC (Value.func (.func 123) [].toArray [(vP A)].toArray) (fun D=>(!(decide (jT l D)))) (e7 [(rd kA l.aN.length 9 (l.aN.map al.cells)),(rd cA l.aj.length 2 (List.zipWith av.cells l.aj az)),(e7 (aU av.g0 l.aj az)),(rd bA l.ae.length 4 (l.ae.map bB.cells)),(bU A 31 (cb.cells (ly l kA kC cA cC bA bC)))]) (by intro D _; exact nc (fi:=[]) (ca:=[(vP A)]) (l4 (Pv D l kA kC az cA cC bA bC A (by first|assumption|omega) (by first|assumption|omega)) (bf [0,1,2,3,4]))) asm) (fq 4 U U<|aq (l0 (bf [1,2,3,4,0]))<|aJ) U) ?_
 refine rP 2 [] I ?_
 refine RK C<|ao<|Q1 hQ U U U ?_
 exact cB (by rw [Bool.eq_iff_iff,decide_eq_true_eq]; exact HV)
theorem OR (l:aX) (kA:OA) (kC:Nat) (az:List RA) (cA:OA) (cC:Nat) (bA:OA) (bC:Nat) (n:Int) (hin:eu l az) (htr:cT l.aN=true) (hbk: ∀ b∈l.ae,jT l b) (hn:0≤n∧n<(l.ae.length:Int)):
 dV Tryz.prog 126 [(vA (cb.cells (ly l kA kC cA cC bA bC))),(vI n)] [(rd kA l.aN.length 9 (l.aN.map al.cells)),(rd cA l.aj.length 2 (List.zipWith av.cells l.aj az)),(e7 (aU av.g0 l.aj az)),(rd bA l.ae.length 4 (l.ae.map bB.cells))] (vI (lX l n.toNat)):=by
 have P:=hin.sM
 have N:=hin.sO
 have L:=hin.oq
 have M:=hin.sN
 have O:=hin.side
 refine bx kr Tryz.func126 U U fun AA Q hQ hN=>?_
 try dsimp only
 refine WS fun _ E=>fQ U fun R=>a_ 1 U<|RK E<|WS fun _ F=>rP 3 [] (mc 0 U I) ?_
 obtain ⟨x,hx⟩:=aL l.ae ((n).toNat) om
 have J:=bH bB.cells hx
 refine rS (IA ((n).toNat) U (aD 4 U) vw dc om om)<|rS (nN (((n).toNat)*4) U (aD 4 U) (Nat.mul_pos om dc) fx U)<|rS (oE ((n).toNat) 0 (cD.cells x.mC) U b_ (aD 4 U) J U dc U U)<|AL U BE fun S=>fO U KG U<|RK F<|WS fun _ G=>a_ 1 U<|rS (LP (bD.cells (bD.mk (bp.mk kA l.aN.length kC))) 1 U b_ U U U)<|fy 1 [] (mc 0 U I) U<|rS (CL (SI l.aN kA kC x.mC asm asm) (bf [2]) U)<|a_ 3 U<|AL U cZ fun T=>fO U cp U<|a_ 1 U<|RK G<|ai fun _ C=>WS fun _ H=>rP 2 [] I ?_
 refine RK H<|bM U (aQ fun D=>?_) (aP fun D=>?_)
 ·refine WK C<|WS fun _ B=>rP 3 [] (mc 0 U I) ?_
  refine RK B<|ao<|Q1 hQ U U U ?_
  (refine congrArg (Value.int .i64) ?_; rw [show n.toNat=0 by omega] at hx ⊢; rw [yD hx,(wU htr (hbk _ (List.mem_of_getElem? hx)).1).2])
 refine dD cq [14] [] [] [1,2,3,4,5,6] [] U U U U U<|eS U (FA 0 U fx U)<|eS U (LP (bD.cells (bD.mk (bp.mk kA l.aN.length kC))) 1 U b_ U U U)<|eS U (FA 3 U fx U)<|eS U (L1 (vS bA l.ae.length bC) 1 U b_ U U)<|eS U (MV U)<|eS U (BI U (qk ⟨om,om⟩)) ?_
 obtain ⟨y,hy⟩:=aL l.ae (((n-1)).toNat) om
 have K:=bH bB.cells hy
 refine eS U (IA (((n-1)).toNat) U (aD 5 U) vw dc om om)<|eS U (nN ((((n-1)).toNat)*4) U (aD 5 U) (Nat.mul_pos om dc) fx U)<|eS U (oE (((n-1)).toNat) 0 (cD.cells y.mC) U b_ (aD 5 U) K U dc U U)<|eS U (LW 0 U b_ U U)<|eS U (CL (Mu l.aN kA kC y.mC x.mC asm asm) (bf [2]) U)<|eS U (MV U)<|eS U (EX U)<|eS U (EX U)<|eX U<|bX U fun T9 AB=>fO U cp U<|aF (AB _ _ (aI [1,2,3,4,5,6]) ?_)
 refine fF U<|KK C<|WS fun _ A=>rP 3 [] (mc 0 U I) ?_
 refine RK A<|ao<|Q1 hQ U U U ?_
 (refine congrArg (Value.int .i64) ?_; rw [Da om hx (by rw [show n.toNat-1=(n-1).toNat by omega]; exact hy),(k7 htr ⟨(hbk _ (List.mem_of_getElem? hy)).1,(hbk _ (List.mem_of_getElem? hx)).1⟩).2])
theorem Pz (l:aX) (kA:OA) (kC:Nat) (az:List RA) (cA:OA) (cC:Nat) (bA:OA) (bC:Nat) (hin:eu l az) (htr:cT l.aN=true) (hbk: ∀ b∈l.ae,jT l b):
 dV Tryz.prog 125 [(vA (cb.cells (ly l kA kC cA cC bA bC)))] [(rd kA l.aN.length 9 (l.aN.map al.cells)),(rd cA l.aj.length 2 (List.zipWith av.cells l.aj az)),(e7 (aU av.g0 l.aj az)),(rd bA l.ae.length 4 (l.ae.map bB.cells))] (vB (decide (∀ i,i<l.ae.length→1≤lX l i))):=by
 have V:=hin.sM
 have AA:=hin.sO
 have S:=hin.oq
 have T:=hin.sN
 refine bx kr Tryz.func125 U U fun X Q hQ hN=>?_
 try dsimp only
 refine WS fun _ J=>fQ U fun W=>a_ 1 U<|RK J<|ai fun _ K=>WS fun _ L=>rP 4 [] (mc 0 U I) ?_
 refine RK L<|ax ?_
 have A:(0≤l.ae.length)∧(∀ j,j<0→1≤lX l j):=by exact ⟨Nat.zero_le _,fun j hj=>absurd hj (Nat.not_lt_zero _)⟩
 refine bK (ι:={z:Nat // (z≤l.ae.length)∧(∀ j,j<z→1≤lX l j)}) [1,6] [0,1,2,3,4] U U (fun z=>[(7,(vI (z.1:Int)))]) (fun z=>[]) (fun _=>rfl) (fun _=>rfl) (fun z=>l.ae.length-z.1) ⟨0,A⟩ (aS U) (aI [0,1,2,3,4]) ?_
 clear A
 rintro ⟨i,⟨P,B⟩⟩ J5 AB
 try dsimp only
 refine WS fun _ M=>rP 1 [] I ?_
 refine RK M<|ai fun _ N=>bM U (aQ fun R=>?_) (aP fun R=>?_)
 ·refine bw<|ab<|ab<|ay<|KK K<|WS fun _ G=>rP 1 [] I ?_
  refine RK G<|ao<|Q1 hQ U U U ?_
  exact cB (fI (fun j hj=>B j om)).symm
 refine WK N<|ai fun _ O=>ax<|WS fun _ D=>a_ 2 U<|RK D<|WS fun _ E=>fy 2 [] (mc 0 U I) U<|rS (CL (OR l kA kC az cA cC bA bC (i:Int) hin htr hbk om) (bf [1,2,3,4]) U)<|rP 1 [] I ?_
 refine RK E<|cy U (aP fun C=>?_) (aQ fun C=>?_)
 ·refine WS fun _ F=>rP 1 [] I ?_
  refine RK F<|ao<|Q1 hQ U U U ?_
  exact cB (cd (fun h=>by have:=h i om; simp only [Int.toNat_natCast] at C; omega)).symm
 refine bV<|aG<|KK O<|ak<|rP 2 [] I ?_
 refine aF ?_
 have H:(vI (((i+1):Nat):Int))=(vI ((i:Int)+1)):=by exact cI om
 refine aR (AB ⟨(i+1),⟨om,fun j hj=>by rcases Nat.lt_or_ge j i with q|q; exact B j q; (obtain rfl:j=i:=by omega); simp only [Int.toNat_natCast] at C; omega⟩⟩ _ _ _ rfl os (dw.cons rfl<|dw.cons rfl<|bo rfl H<|dw.nil _) (aI [0,1,2,3,4]))
end
section
open Go.RowKit
theorem Qx:
 dV Tryz.prog 83 [] [] (vA ((gK.cells (gK.mk (Value.func (.func 115) [].toArray [].toArray)))++(gK.cells (gK.mk (Value.func (.func 117) [].toArray [].toArray)))++(gK.cells (gK.mk (Value.func (.func 121) [].toArray [].toArray)))++(gK.cells (gK.mk (Value.func (.func 125) [].toArray [].toArray))))):=by
 refine bx kr Tryz.func83 U U fun D Q hQ hN=>?_
 try dsimp only
 refine WS fun _ A=>AL U SW fun C=>RK A<|WS fun _ B=>rS (SX (bh (xs:=[(0,.func 115)]) (cs:=(gK.cells (gK.mk (Value.func (.func 115) [].toArray [].toArray)))) U U (bg Gn U)) U U)<|rS (SX (bh (xs:=[(0,.func 117)]) (cs:=(gK.cells (gK.mk (Value.func (.func 117) [].toArray [].toArray)))) U U (bg Gn U)) U U)<|rS (SX (bh (xs:=[(0,.func 121)]) (cs:=(gK.cells (gK.mk (Value.func (.func 121) [].toArray [].toArray)))) U U (bg Gn U)) U U)<|rS (SX (bh (xs:=[(0,.func 125)]) (cs:=(gK.cells (gK.mk (Value.func (.func 125) [].toArray [].toArray)))) U U (bg Gn U)) U U)<|rS (SX (bh (xs:=[(0,.tmp 1),(1,.tmp 2),(2,.tmp 3),(3,.tmp 4)]) (cs:=((gK.cells (gK.mk (Value.func (.func 115) [].toArray [].toArray)))++(gK.cells (gK.mk (Value.func (.func 117) [].toArray [].toArray)))++(gK.cells (gK.mk (Value.func (.func 121) [].toArray [].toArray)))++(gK.cells (gK.mk (Value.func (.func 125) [].toArray [].toArray))))) U U (bg Sl U)) U U)<|fO U Tb U<|RK B<|ao ?_
 exact Ic hQ [0] (mc 0 U I) U U
theorem Bt (l:aX) (kA:OA) (kC:Nat) (az:List RA) (cA:OA) (cC:Nat) (bA:OA) (bC:Nat) (hin:eu l az):
 dV Tryz.prog 61 [(vA (cb.cells (ly l kA kC cA cC bA bC)))] [(rd kA l.aN.length 9 (l.aN.map al.cells)),(rd cA l.aj.length 2 (List.zipWith av.cells l.aj az)),(e7 (aU av.g0 l.aj az)),(rd bA l.ae.length 4 (l.ae.map bB.cells))] (vI (dp l)):=by
 have AF:=hin.sM
 have AD:=hin.sO
 have AB:=hin.oq
 have AC:=hin.sN
 have AE:=hin.side
 refine bx kr Tryz.func61 U U fun w0 Q hQ hN=>?_
 try dsimp only
 refine WS fun _ m=>fQ U fun b2=>a_ 1 U<|RK m<|ai fun _ n=>WS fun _ o=>a_ 1 U<|rS (LP (bD.cells (bD.mk (bp.mk kA l.aN.length kC))) 0 U b_ U U U)<|rS (CL (CE l.aN kA kC asm asm) (bf [1]) U)<|a_ 1 U<|RK o<|WS fun _ p=>rP 2 [] I ?_
 refine RK p<|cy U (bk fun B=>?_) (bj fun B=>?_)
 ·refine WS fun _ q=>rP 2 [] I ?_
  refine RK q<|ao<|Q1 hQ U U U ?_
  (refine cI ?_; rw [(zo B).2,zm (zo B).1])
 refine WK n<|ai fun _ s=>WS fun _ t=>?_
 have A:=D3 B
 refine rS (CL Qx (aJ) U)<|a_ 1 U<|RK t<|ax<|jE 5<|eg fun R9 u=>WS fun _ C=>rS (SX (bS (r:= .bool true) U U U gQ) U U)<|RK C<|ai fun _ D=>aO U<|WK D<|ai fun _ E=>ax<|WS fun _ F=>rS (SX (tT (vs:=(gK.cells (gK.mk (Value.func (.func 115) [].toArray [].toArray)))) 0 U U U Fk b_ U dc U) U U)<|AL U Gk fun x=>fO U Fl U<|RK F<|WS fun _ G=>fy 3 [0,1] (mc 0 U (mc 1 U I)) U<|rS (CL (QV l kA kC az cA cC bA bC hin) (bf [2,3,4,5]) U)<|rP 1 [] I ?_
 refine RK G<|cy U (bk fun g=>?_) (bj fun g=>?_)
 ·refine WS fun _ H=>rP 1 [] I ?_
  refine RK H<|ao<|Q1 hQ U U U ?_
  exact cI (qb A fun h=>absurd h.head asm).symm
 refine bV<|aG<|KK E<|ak<|rS (SX (bS (r:= .int .i64 1) U U U (gY ⟨dc,dc⟩)) U U)<|a_ 1 U<|RK u<|eg fun R18 d=>WS fun _ AH=>rS (SX (bS (r:= .bool true) U U U gQ) U U)<|RK AH<|ai fun _ J=>aO U<|WK J<|ai fun _ K=>ax<|WS fun _ L=>rS (SX (tT (vs:=(gK.cells (gK.mk (Value.func (.func 117) [].toArray [].toArray)))) 1 U U U Fk b_ U dc U) U U)<|AL U Gk fun y=>fO U Fl U<|RK L<|WS fun _ M=>fy 3 [0,1] (mc 0 U (mc 2 U I)) U<|rS (CL (QO l kA kC az cA cC bA bC hin) (bf [3,4,5,6]) U)<|rP 1 [] I ?_
 refine RK M<|cy U (bk fun i=>?_) (bj fun i=>?_)
 ·refine WS fun _ N=>rP 1 [] I ?_
  refine RK N<|ao<|Q1 hQ U U U ?_
  exact cI (qb A fun h=>absurd h.clock asm).symm
 refine bV<|aG<|KK K<|ak<|rS (SX (bS (r:= .int .i64 2) U U U (gY ⟨dc,dc⟩)) U U)<|a_ 1 U<|RK d<|eg fun R27 e=>WS fun _ O=>rS (SX (bS (r:= .bool true) U U U gQ) U U)<|RK O<|ai fun _ P=>aO U<|WK P<|ai fun _ R=>ax<|WS fun _ S=>rS (SX (tT (vs:=(gK.cells (gK.mk (Value.func (.func 121) [].toArray [].toArray)))) 2 U U U Fk b_ U dc U) U U)<|AL U Gk fun z=>fO U Fl U<|RK S<|WS fun _ T=>fy 3 [0,1] (mc 0 U (mc 3 U I)) U<|rS (CL (QW l kA kC az cA cC bA bC hin asm) (bf [4,5,6,7]) U)<|rP 1 [] I ?_
 refine RK T<|cy U (bk fun j=>?_) (bj fun j=>?_)
 ·refine WS fun _ AG=>rP 1 [] I ?_
  refine RK AG<|ao<|Q1 hQ U U U ?_
  exact cI (qb A fun h=>absurd h.vy asm).symm
 refine bV<|aG<|KK R<|ak<|rS (SX (bS (r:= .int .i64 3) U U U (gY ⟨dc,dc⟩)) U U)<|a_ 1 U<|RK e<|eg fun R36 f=>WS fun _ V=>rS (SX (bS (r:= .bool true) U U U gQ) U U)<|RK V<|ai fun _ W=>aO U<|WK W<|ai fun _ X=>ax<|WS fun _ Y=>rS (SX (tT (vs:=(gK.cells (gK.mk (Value.func (.func 125) [].toArray [].toArray)))) 3 U U U Fk b_ U dc U) U U)<|AL U Gk fun AA=>fO U Fl U<|RK Y<|WS fun _ Z=>fy 3 [0,1] (mc 0 U (mc 4 U I)) U<|rS (CL (Pz l kA kC az cA cC bA bC hin asm asm) (bf [5,6,7,8]) U)<|rP 1 [] I ?_
 refine RK Z<|cy U (bk fun k=>?_) (bj fun k=>?_)
 ·refine WS fun _ a=>rP 1 [] I ?_
  refine RK a<|ao<|Q1 hQ U U U ?_
  exact cI (qb A fun h=>absurd h.Q0 asm).symm
 refine bV<|aG<|KK X<|ak<|rS (SX (bS (r:= .int .i64 4) U U U (gY ⟨dc,dc⟩)) U U)<|a_ 1 U<|RK f<|eg fun R45 w=>WS fun _ b=>rS (SX (bS (r:= .bool false) U U U gQ) U U)<|RK b<|ai fun _ v=>aW U<|bw<|ab<|ab<|ay<|KK s<|WS fun _ c=>rP 1 [] I ?_
 refine RK c<|ao<|Q1 hQ U U U ?_
 exact cI (xA A (zA asm asm asm asm)).symm
theorem CZ (lo hi:Int) (f:Value) (p:Int→Bool) (X:au) (r:Int) (hf: ∀ x0,0≤x0∧x0<hi→Ef Tryz.prog f [.int .i64 x0] [X] (.bool (p x0))) (hb:0≤lo∧lo≤r∧r≤hi∧hi≤100000000) (hno: ∀ x,lo≤x→x<r→p x=false) (hyes: ∀ x,r≤x→x<hi→p x=true):
 dV Tryz.prog 216 [(vI lo),(vI hi),f] [X] (vI r):=by
 refine bx kr Tryz.func216 U U fun N Q hQ hN=>?_
 try dsimp only
 refine WS fun _ F=>rP 1 [] I ?_
 refine RK F<|ai fun _ G=>ax ?_
 have A:(lo≤lo∧lo≤r)∧(r≤hi∧hi≤hi):=by omega
 refine bK (ι:={z:Int×Int // (lo≤z.1∧z.1≤r)∧(r≤z.2∧z.2≤hi)}) [2] [0] U U (fun z=>[(0,(vI z.1.1)),(1,(vI z.1.2))]) (fun z=>[]) (fun _=>rfl) (fun _=>rfl) (fun z=>(z.1.2-z.1.1).toNat) ⟨(lo,hi),A⟩ (aS U) (aI [0]) ?_
 clear A
 rintro ⟨⟨a,b⟩,⟨B,C⟩⟩ J3 D
 try dsimp only at B C
 try dsimp only
 refine ai fun _ H=>WS fun _ AA=>rP 3 [] I ?_
 refine RK AA<|bM U (aQ fun M=>?_) (aP fun M=>?_)
 ·refine bw<|ab<|ab<|ay<|KK G<|WS fun _ L=>rP 2 [] I ?_
  refine RK L<|ao<|Q1 hQ U U U ?_
  exact cI om
 refine WK H<|ax<|WS fun _ J=>a_ 4 U<|rS (BI U (s9 om om om))<|a_ 2 U<|RK J<|WS fun _ K=>rP 2 [] I ?_
 refine rS (SX (sf U U U (hf (a+((b-a)/2)) om) (bf [0])) U U)<|RK K<|cy U (fun hp=>?_) (fun hp=>?_)
 ·refine ak<|rP 2 [] I ?_
  refine aF<|aG ?_
  refine aR (D ⟨(a,(a+((b-a)/2))),(by dsimp only; rcases Int.lt_or_le (a+(b-a)/2) r with q|q; (have E:=hno _ om q; (rw [E] at hp; cases hp)); (have E:=hyes _ q om; (refine ⟨⟨om,om⟩,om,om⟩)))⟩ _ _ _ rfl (by simp only []; omega) (aS rfl) (aI [0]))
 refine ak<|rP 3 [] I ?_
 refine aF<|aG ?_
 refine aR (D ⟨(((a+((b-a)/2))+1),b),(by dsimp only; rcases Int.lt_or_le (a+(b-a)/2) r with q|q; (have E:=hno _ om q; (refine ⟨⟨om,om⟩,om,om⟩)); (have E:=hyes _ q om; (rw [E] at hp; cases hp)))⟩ _ _ _ rfl (by simp only []; omega) (aS rfl) (aI [0]))
theorem I3 (u:Int) (c:av) (sA:OA) (sC g1:Nat) (s:aM) (g2:Nat) (hc:eY c) (hu:0≤u∧u≤90000000):
 dV Tryz.prog 217 [(vI u),(vP g1),(vP g2)] [(rd sA c.br.length 3 (c.br.map cw.cells)),(bU g1 119 (dk.cells (dk.mk c.de (bp.mk sA c.br.length sC)))),(bU g2 123 (aM.cells s))] (vB (decide (s.Read≤u+(ij c u).Hi))):=by
 have C:=qM hc hu
 refine bx kr Tryz.func217 U U fun D Q hQ hN=>?_
 try dsimp only
 refine WS fun _ A=>a_ 1 U<|RK A<|ai fun _ B=>du cq 10 kr<|my 3 [] (mr 1 U I) U<|dS (CL (FO c sA sC u hc hu) (bf [0]) U)<|dS (SX (kK (v:=(vI ((ij c u).Hi))) U U fx Az U) U U)<|dP 5 [] (mr 2 U I) ?_
 refine cH<|RK B<|ao ?_
 exact Q1 hQ U U U U
theorem Jz (u:Int) (c:av) (sA:OA) (sC g1:Nat) (s:aM) (g2:Nat) (hc:eY c) (hu:0≤u∧u≤90000000):
 dV Tryz.prog 219 [(vI u),(vP g1),(vP g2)] [(rd sA c.br.length 3 (c.br.map cw.cells)),(bU g1 119 (dk.cells (dk.mk c.de (bp.mk sA c.br.length sC)))),(bU g2 123 (aM.cells s))] (vB (decide (s.Read<u+(ij c u).Lo))):=by
 have C:=qM hc hu
 refine bx kr Tryz.func219 U U fun D Q hQ hN=>?_
 try dsimp only
 refine WS fun _ A=>a_ 1 U<|RK A<|ai fun _ B=>du cq 10 kr<|my 3 [] (mr 1 U I) U<|dS (CL (FO c sA sC u hc hu) (bf [0]) U)<|dS (SX (kK (v:=(vI ((ij c u).Lo))) U U fx AE U) U U)<|dP 5 [] (mr 2 U I) ?_
 refine cH<|RK B<|ao ?_
 exact Q1 hQ U U U U
theorem Lx (l:aX) (kA:OA) (kC:Nat) (az:List RA) (cA:OA) (cC:Nat) (bA:OA) (bC:Nat) (s:aM) (hin:eu l az) (hok:kW l) (hs:(0≤s.gf∧s.gf≤(l.ae.length:Int)-1)∧0≤s.Read∧s.Read≤86400000):
 dV Tryz.prog 208 [(vA (cb.cells (ly l kA kC cA cC bA bC))),(vA (aM.cells s))] [(rd kA l.aN.length 9 (l.aN.map al.cells)),(rd cA l.aj.length 2 (List.zipWith av.cells l.aj az)),(e7 (aU av.g0 l.aj az)),(rd bA l.ae.length 4 (l.ae.map bB.cells))] (vA (aa.cells (cz l s))):=by
 have V:=hin.sM
 have S:=hin.sO
 have P:=hin.oq
 have R:=hin.sN
 refine bx kr Tryz.func208 U U fun Z Q hQ hN=>?_
 try dsimp only
 refine WS fun _ AB=>fQ U fun X=>fQ U fun D=>AL U cZ fun Y=>RK AB<|ai fun _ J=>dD cq [11,12] [] [] [0,1,2,3,4,5,6] [] U U U U U<|eS U (FA 2 U fx U)<|eS U (L1 (vS cA l.aj.length cC) 2 U b_ U U)<|eS U (FA 3 U fx U)<|eS U (L1 (vS bA l.ae.length bC) 2 U b_ U U)<|eS U (FA 0 U fx U)<|eS U (L1 (vI s.gf) 1 U b_ U U) ?_
 obtain ⟨y,hy⟩:=aL l.ae ((s.gf).toNat) om
 have O:=bH bB.cells hy
 refine eS U (IA ((s.gf).toNat) U (aD 6 U) vw dc om om)<|eS U (nN ((((s.gf).toNat)*4)+3) U (aD 6 U) (Nat.mul_pos om dc) fx U)<|eS U (gp ((s.gf).toNat) 3 (vI y.jG) U b_ (aD 6 U) O U dc U) ?_
 have W:=(hok.vy _ (aT hy)).2
 obtain ⟨x,hx⟩:=aL l.aj ((y.jG).toNat) om
 obtain ⟨xa,F⟩:=aL az ((y.jG).toNat) om
 have N:(List.zipWith av.cells l.aj az)[(y.jG).toNat]? =some (av.cells x xa):=dM hx F
 refine eS U (IA ((y.jG).toNat) U (aD 4 U) Ar dc om om)<|eS U (oE ((y.jG).toNat) 0 (dk.cells (dk.mk x.de (bp.mk xa.1 x.br.length xa.2))) U b_ (aD 4 U) N U dc U U)<|eX U<|bX U fun T6 L=>AL U Jl fun E=>aF (L _ _ (aI [1,2,3,4,5,6,7]) ?_)
 refine bX U fun T8 M=>fO U O5 U<|aF (M _ _ (aI [1,2,3,4,5,6,7]) ?_)
 refine fF U<|KK J<|WS fun _ K=>?_
 have A:=hok.clock _ (aT hx)
 have AA:=ig (p:=fX x s.Read) (n:=86400001)
 have T:=ig (p:=fY x s.Read) (n:=86400001)
 refine rS (FU U) ?_
 refine rS (CL (CZ 0 86400001 (Value.func (.func 217) [].toArray [(vP E),(vP D)].toArray) (fun B=>(decide (s.Read≤B+(ij x B).Hi))) (e7 [(rd xa.1 x.br.length 3 (x.br.map cw.cells)),(bU E 119 (dk.cells (dk.mk x.de (bp.mk xa.1 x.br.length xa.2)))),(bU D 123 (aM.cells s))]) (fp (fX x s.Read) 86400001) (by intro B _; exact nc (fi:=[]) (ca:=[(vP E),(vP D)]) (l4 (I3 B x xa.1 xa.2 E s D (by first|assumption|omega) (by first|assumption|omega)) (M8 0 1 2 U U U U U U))) om (by intro z G hz; exact (kI A G om).1 hz) (by intro z hz H; exact (kI A om H).2.1 hz)) (aq (l0 (aq (show i_ _ (rd xa.1 x.br.length 3 (x.br.map cw.cells)).holds from (dx 6 U (bW hx F (by simp [av.g0]))))<|fq 0 U U<|fq 2 U U<|aJ))<|aJ) U) ?_
 refine rS (FU U) ?_
 refine rS (CL (CZ 0 86400001 (Value.func (.func 219) [].toArray [(vP E),(vP D)].toArray) (fun C=>(decide (s.Read<C+(ij x C).Lo))) (e7 [(rd xa.1 x.br.length 3 (x.br.map cw.cells)),(bU E 119 (dk.cells (dk.mk x.de (bp.mk xa.1 x.br.length xa.2)))),(bU D 123 (aM.cells s))]) (fp (fY x s.Read) 86400001) (by intro C _; exact nc (fi:=[]) (ca:=[(vP E),(vP D)]) (l4 (Jz C x xa.1 xa.2 E s D (by first|assumption|omega) (by first|assumption|omega)) (M8 0 1 2 U U U U U U))) om (by intro z G hz; exact (kI A G om).2.2.1 hz) (by intro z hz H; exact (kI A om H).2.2.2 hz)) (aq (l0 (aq (show i_ _ (rd xa.1 x.br.length 3 (x.br.map cw.cells)).holds from (dx 6 U (bW hx F (by simp [av.g0]))))<|fq 0 U U<|fq 2 U U<|aJ))<|aJ) U) ?_
 refine rP 1 [] I ?_
 refine rS (SX (bh (xs:=[(0,.tmp 18),(1,.tmp 21)]) (cs:=(aa.cells (aa.mk (fp (fX x s.Read) 86400001) ((fp (fY x s.Read) 86400001)-1)))) U U (bg gn U)) U U)<|t_ U cp U<|RK K<|ao<|Ic hQ [0] (mc 1 U I) U ?_
 unfold cz qf; rw [xh hy hx]
end
section
open Go.RowKit
structure IY (S:BS) (w0:World) (X:au) (C0:List au) (w:World) (S':BS):Prop where
 st:St S w0 (X::C0) w
 w_: ∀ b,S'.w b↔ ∃ A∈C0,A.wf b
theorem Ez {A B:au} (h:Dq A B):Dq A.ro B:=fun b C D=>⟨fun h=>h,(h b C D).2⟩
theorem CO {E:e_} {c:Code} {Q:cW} {D:List Deferred} {L:List (Nat×Value)} {C C0:List au} {X:au} (i:Nat) (hn:decide (i::(List.range C.length).filter fun k=>k != i).Nodup=true) (hC:kf C (i::(List.range C.length).filter fun k=>k != i)=X::C0)
 (h: ∀ w S',IY E.S E.w0 X C0 w S'→WJ ⟨E.P,E.r,E.n,S',w⟩ c Q D L (X.ro::C0)):WJ E c Q D L C:=fun a w hf hs=>by
 have F:=St.kf _ hn hC hs
 obtain ⟨G,H⟩:=List.pairwise_cons.1 F.sep
 refine h w ⟨fun b=> ∃ A∈C0,A.wf b,fun _=>True⟩ ⟨F,fun b=>Iff.rfl⟩ a w hf ⟨dL.refl _ _,fun A hA=>?_,List.Pairwise.cons (fun B hB=>Ez (G B hB)) H,fun A hA b hb=>?_,fun A hA b hb=> .inr trivial⟩
 ·rcases List.mem_cons.1 hA with rfl|hA
  ·exact F.holds X (cf ..)
  ·exact F.holds A (cS _ hA)
 ·rcases List.mem_cons.1 hA with rfl|hA
  ·exact hb.elim
  ·exact .inr ⟨A,hA,hb⟩
theorem zN {E:e_} {S':BS} {w:World} {K:Act→World→Prop} {D:List Deferred} {L:List (Nat×Value)} {C0 C1 C2:List au} {X:au} (hz:IY E.S E.w0 X C0 w S') (is:List Nat) (hn:decide is.Nodup=true) (hC:kf C2 is=C1) (hwr:C1.all (·.wr)=true)
 (h:KJ E K D L (X::C1)):KJ ⟨E.P,E.r,E.n,S',w⟩ K D L C2:=fun a w' hf hs=>by
 have F:=St.kf is hn hC hs
 have C:=hz.st
 obtain ⟨J,M⟩:=List.pairwise_cons.1 C.sep
 have AA: ∀ b,X.fg b→ ¬ S'.w b:=fun b hb hw=>by
  obtain ⟨A,hA,hw⟩:=(hz.w_ b).1 hw
  exact (J A hA b hb (A.ki b hw)).2 hw
 have G: ∀ b,S'.w b→E.w0.heap.size≤b∨E.S.w b:=fun b hb=>by
  obtain ⟨A,hA,hw⟩:=(hz.w_ b).1 hb
  exact C.own A (cS _ hA) b hw
 have H: ∀ A∈C1,∀ b,A.fg b→w.heap.size≤b∨S'.w b:=fun A hA b hb=>F.own A hA b (A.whole (List.all_eq_true.1 hwr A hA) b hb)
 refine h a w' hf ⟨?_,fun A hA=>?_,List.Pairwise.cons (fun B hB b hb hb'=>?_) F.sep,fun A hA b hb=>?_,fun A hA b hb=>?_⟩
 ·refine ⟨F.keeps.os.trans C.keeps.os,F.keeps.tape.trans C.keeps.tape,F.keeps.output.trans C.keeps.output,Nat.le_trans C.keeps.size F.keeps.size,fun k hk hn'=>?_⟩
  refine (F.keeps.block k (Nat.lt_of_lt_of_le hk C.keeps.size) fun hw=>?_).trans (C.keeps.block k hk hn')
  rcases G k hw with q|q
  ·omega
  ·exact hn' q
 ·rcases List.mem_cons.1 hA with rfl|hA
  ·have hh:=C.holds A (cf ..)
   exact A.ou w w' (fun b hb=>F.keeps.block b (A.lt w hh b hb) (AA b hb)) hh
  ·exact F.holds A hA
 ·exfalso
  have hl:=X.lt w (C.holds X (cf ..)) b hb
  rcases H B hB b hb' with q|q
  ·omega
  ·exact AA b hb q
 ·rcases List.mem_cons.1 hA with rfl|hA
  ·exact C.own A (cf ..) b hb
  ·rcases F.own A hA b hb with q|q
   ·exact .inl (Nat.le_trans C.keeps.size q)
   ·exact G b q
 ·rcases List.mem_cons.1 hA with rfl|hA
  ·exact C.seen A (cf ..) b hb
  ·rcases H A hA b hb with q|q
   ·exact .inl (Nat.le_trans C.keeps.size q)
   ·obtain ⟨B,hB,hw⟩:=(hz.w_ b).1 q
    exact C.seen B (cS _ hB) b (B.ki b hw)
/-- put back, as it was -/
theorem H8 {M A:Type} {f:M→A→List au} {S:BS} {w0 w:World} {C:List au} {ms:List M} {asl:List A} {k:Nat} {m:M} {a:A} {X:au} (hm:ms[k]? =some m) (ha:asl[k]? =some a) (hf:f m a=[X]) (h:St S w0 (X::bu (fu f ms asl k)::C) w):St S w0 (bu (aU f ms asl)::C) w:=by
 have B:St S w0 (bu (fu f ms asl k)::X::C) w:=h.perm (List.Perm.swap _ _ _)
 have D:St S w0 ((f m a++fu f ms asl k)++C) w:=by
  rw [hf]
  exact B.hZ.perm (List.perm_middle (a:=X) (l₁:=fu f ms asl k) (l₂:=C))
 exact kJ (kP hm ha).symm D.tied
theorem KB {E:e_} {K:Act→World→Prop} {D:List Deferred} {L:List (Nat×Value)} {C C1:List au} {M A:Type} {f:M→A→List au} {ms:List M} {asl:List A} {k:Nat} {m:M} {a:A} {X:au} (i j:Nat) (hm:ms[k]? =some m) (ha:asl[k]? =some a) (hf:f m a=[X])
 (hn:decide (j::i::(List.range C.length).filter fun k=>k != i&&k != j).Nodup=true) (hC:kf C (j::i::(List.range C.length).filter fun k=>k != i&&k != j)=X::bu (fu f ms asl k)::C1)
 (h:KJ E K D L (bu (aU f ms asl)::C1)):KJ E K D L C:=fun a w hf' hs=>h a w hf' (H8 hm ha hf (St.kf _ hn hC hs))
theorem zB {M A:Type} {f:M→A→List au} {ms:List M} {asl:List A} {m:M} {a:A} {X:au} (hl:ms.length=asl.length) (hf:f m a=[X]):aU f ms asl++[X]=aU f (ms++[m]) (asl++[a]):=by
 rw [jS hl,← hf]; simp [aU]
theorem yX {E:e_} {K:Act→World→Prop} {D:List Deferred} {L:List (Nat×Value)} {C C1:List au} {M A:Type} {f:M→A→List au} {ms:List M} {asl:List A} {m:M} {a:A} {X:au} (i j:Nat) (hf:f m a=[X])
 (hn:decide (j::i::(List.range C.length).filter fun k=>k != i&&k != j).Nodup=true) (hC:kf C (j::i::(List.range C.length).filter fun k=>k != i&&k != j)=X::bu (aU f ms asl)::C1)
 (h:KJ E K D L (bu (aU f (m::ms) (a::asl))::C1)):KJ E K D L C:=fun b w hf' hs=>by
 have B:=St.kf _ hn hC hs
 have F:St E.S E.w0 (bu (aU f ms asl)::X::C1) w:=B.perm (List.Perm.swap _ _ _)
 have G:St E.S E.w0 (aU f (m::ms) (a::asl)++C1) w:=by
  show St E.S E.w0 ((f m a++aU f ms asl)++C1) w
  rw [hf]
  exact F.hZ.perm (List.perm_middle (a:=X) (l₁:=aU f ms asl) (l₂:=C1))
 exact h b w hf' G.tied
end
section
open Go.RowKit
abbrev lP (r:Nat):au:=lh r (.deferred (some []))
theorem N7 (rs:List Nat):(bu (rs.map lP)).wr=true:=by
 show (rs.map lP).all (·.wr)=true
 rw [e9]
 intro X hX
 obtain ⟨r,_,rfl⟩:=List.mem_map.1 hX
 rfl
theorem vK {E:e_} {c:Code} {Q:cW} {D:List Deferred} {L:List (Nat×Value)} {C:List au} {ι:Type} (Di:ι→List Deferred) (Li:ι→List (Nat×Value)) (Ci:ι→List au) (μ:ι→Nat) (x0:ι)
 (hD:D=Di x0) (h0:dw L (Li x0)) (hC: ∀ w,St E.S E.w0 C w→St E.S E.w0 (Ci x0) w)
 (round: ∀ x (J:Act→World→Prop),(∀ y D' L' C',D'=Di y→μ y<μ x→dw L' (Li y)→(∀ w,St E.S E.w0 C' w→St E.S E.w0 (Ci y) w)→KJ E J D' L' C')→WJ E c (Exit.then J Q) (Di x) (Li x) (Ci x)):WJ E (.loop c) Q D L C:=by
 intro a w hf hs
 subst hD
 have H: ∃ x,Fr E.n (Di x) (Li x) a∧St E.S E.w0 (Ci x) w:=⟨x0,hf.sub h0,hC w hs⟩
 clear hf hs
 have key: ∀ (m:Nat) (a:Act) (w:World),(∃ x,μ x=m∧Fr E.n (Di x) (Li x) a∧St E.S E.w0 (Ci x) w)→(Code.loop c).wpIn (Fw E.r) 0 E.P Q a w:=by
  intro m a w hx
  refine wpIn_loop (fun a w=> ∃ x,Fr E.n (Di x) (Li x) a∧St E.S E.w0 (Ci x) w) (fun a w=>leastOf fun k=> ∃ x,μ x=k∧Fr E.n (Di x) (Li x) a∧St E.S E.w0 (Ci x) w) (by obtain ⟨x,_,h⟩:=hx; exact ⟨x,h⟩) ?_
  intro a w hx
  have F: ∃ k,∃ x,μ x=k∧Fr E.n (Di x) (Li x) a∧St E.S E.w0 (Ci x) w:=by obtain ⟨x,h⟩:=hx; exact ⟨_,x,rfl,h⟩
  obtain ⟨x,K,AA,M⟩:=(leastOf_spec F).1
  refine round x _ ?_ a w AA M
  intro y D' L' C' hD G A B a' w' hf' hs'
  subst hD
  refine ⟨⟨y,hf'.sub A,B _ hs'⟩,?_⟩
  rw [← K]
  exact Nat.lt_of_le_of_lt ((leastOf_spec ⟨_,y,U,hf'.sub A,B _ hs'⟩).2 _ ⟨y,U,hf'.sub A,B _ hs'⟩) G
 obtain ⟨x,h⟩:=H
 exact key _ a w ⟨x,U,h⟩
theorem St.Un {S:BS} {w0 w:World} {C X:List au} {A:au} (h:St S w0 (A::bu X::C) w):St S w0 (bu (A::X)::C) w:=by
 have B:St S w0 (bu X::A::C) w:=h.perm (List.Perm.swap _ _ _)
 have D:St S w0 ((A::X)++C) w:=B.hZ.perm (List.perm_middle (a:=A) (l₁:=X) (l₂:=C))
 exact D.tied
theorem Kl {E:e_} {K:Act→World→Prop} {D:List Deferred} {L:List (Nat×Value)} {C C1 X:List au} {A:au} (i j:Nat) (hn:decide (j::i::(List.range C.length).filter fun k=>k != i&&k != j).Nodup=true) (hC:kf C (j::i::(List.range C.length).filter fun k=>k != i&&k != j)=A::bu X::C1)
 (h:KJ E K D L (bu (A::X)::C1)):KJ E K D L C:=fun a w hf hs=>h a w hf ((St.kf _ hn hC hs).Un)
theorem Dz {E:e_} {K:Act→World→Prop} {D:List Deferred} {L:List (Nat×Value)} {C:List au} (h:KJ E K D L (bu []::C)):KJ E K D L C:=fun a w hf hs=>h a w hf hs.P5
theorem Qt {E:e_} {K:Act→World→Prop} {D:List Deferred} {L:List (Nat×Value)} (C1 C2:List au) (h:KJ E K D L (bu C1::C2)):KJ E K D L (C1++C2):=fun a w hf hs=>h a w hf (St.tied hs)
theorem Nn {E:e_} {fn:Func} {R:Ending→World→Prop} {D:List Deferred} {L:List (Nat×Value)} {C C1:List au} {rs:List Nat} (i:Nat) (hn:decide (i::(List.range C.length).filter fun k=>k != i).Nodup=true) (hC:kf C (i::(List.range C.length).filter fun k=>k != i)=bu (rs.map lP)::C1)
 (h:LJ E fn R D L C1):LJ E fn R (rs.map lz++D) L C:=by
 have key: ∀ rs:List Nat,LJ E fn R (rs.map lz++D) L (bu (rs.map lP)::C1):=by
  intro rs
  induction rs with
  |nil=>exact fun a w hf hs=>h a w hf (hs.take (List.sublist_cons_self _ _))
  |cons r rs ih=>
   have A:LJ E fn R (lz r::(rs.map lz++D)) L (lP r::bu (rs.map lP)::C1):=ox 0 rfl rfl (fun a w hf hs=>ih a w hf (hs.take (List.sublist_cons_self _ _)))
   intro a w hf hs
   refine A a w hf ?_
   have B:St E.S E.w0 ((lP r::rs.map lP)++C1) w:=St.hZ (C1:=lP r::rs.map lP) hs
   have F:St E.S E.w0 (rs.map lP++(lP r::C1)) w:=B.perm (List.perm_middle (a:=lP r) (l₁:=rs.map lP) (l₂:=C1)).symm
   exact F.tied.perm (List.Perm.swap _ _ _)
 exact fun a w hf hs=>key rs a w hf (St.kf _ hn hC hs)
theorem IW {E:e_} {fn:Func} {R:Ending→World→Prop} {L:List (Nat×Value)} {C C1:List au} {rs:List Nat} (i:Nat) (hn:decide (i::(List.range C.length).filter fun k=>k != i).Nodup=true) (hC:kf C (i::(List.range C.length).filter fun k=>k != i)=bu (rs.map lP)::C1)
 (h:LJ E fn R [] L C1):LJ E fn R (rs.map lz) L C:=by
 have:=Nn (D:=[]) i hn hC h
 rwa [List.append_nil] at this
end
section
open Go.RowKit
theorem KY (fs:List FM) (fb:List Nat):(bu (aU nM fs fb)).wr=true:=by
 show (aU nM fs fb).all (·.wr)=true
 rw [e9]
 intro X hX
 obtain ⟨k,m,a,_,_,h⟩:=jM hX
 simp only [nM,bR] at h
 subst h; rfl
theorem SY (fs:List TM) (fb:List Nat):(bu (aU rz fs fb)).wr=true:=by
 show (aU rz fs fb).all (·.wr)=true
 rw [e9]
 intro X hX
 obtain ⟨k,m,a,_,_,h⟩:=jM hX
 simp only [rz,bR] at h
 subst h; rfl
end
section
def ej (bl:List Nat) (n:Nat):List (Option Nat):=bl.map some++List.replicate (n-bl.length) none
def gV (bl:List Nat) (n:Nat):List (Option Nat):=List.replicate (n-bl.length) none++bl.map some
theorem re {bl:List Nat} {n:Nat} (h:bl.length≤n):(ej bl n).length=n:=by simp [ej]; omega
theorem yB {bl:List Nat} {n:Nat} (h:bl.length≤n):(gV bl n).length=n:=by simp [gV]; omega
theorem yq {n:Nat}:List.replicate n none=ej [] n:=by simp [ej]
theorem Hg {n:Nat}:List.replicate n none=gV [] n:=by simp [gV]
theorem yR {bl:List Nat} {n:Nat} (h:bl.length=n):ej bl n=bl.map some:=by simp [ej,h]
theorem HS {bl:List Nat} {n:Nat} (h:bl.length=n):gV bl n=bl.map some:=by simp [gV,h]
theorem oW {bl:List Nat} {n k g:Nat} (h:bl[k]? =some g):(ej bl n)[k]? =some (some g):=by
 have hk:=(List.getElem?_eq_some_iff.1 h).1
 unfold ej
 rw [List.getElem?_append_left (by simpa using hk),fw,h]; rfl
theorem sU {bl:List Nat} {n k i g:Nat} (h:bl[i]? =some g) (hk:k=n-bl.length+i):(gV bl n)[k]? =some (some g):=by
 subst hk
 unfold gV
 rw [List.getElem?_append_right sm,fw,List.length_replicate,Nat.add_sub_cancel_left,h]; rfl
theorem uG {bl:List Nat} {n k g:Nat} (hk:k=bl.length) (h:bl.length<n):(ej bl n).set k (some g)=ej (bl++[g]) n:=by
 subst hk
 unfold ej
 rw [List.set_append_right _ _ sm]
 have e:n-bl.length=(n-(bl++[g]).length)+1:=by simp; omega
 rw [e,List.replicate_succ]
 simp
theorem Gr {bl:List Nat} {n k g:Nat} (hk:k+1+bl.length=n):(gV bl n).set k (some g)=gV (g::bl) n:=by
 unfold gV
 have e:n-bl.length=k+1:=by omega
 have A:n-(g::bl).length=k:=by simp; omega
 rw [e,A,List.set_append_left _ _ sm,List.replicate_succ',List.set_append_right _ _ sm]
 simp
theorem rJ {l:List (Option Nat)} {k g:Nat} (h:l[k]? =some (some g)):(l.map oC)[k]? =some (oC (some g)):=by rw [fw,h]; rfl
theorem Af {α:Type} {l:List α} {x:α} {k:Nat} (h:k=l.length):(l++[x])[k]? =some x:=by subst h; simp
theorem KL {α:Type} {l:List α} {x y:α} {k:Nat} (h:l[k]? =some y):(l++[x])[k]? =some y:=by rw [List.getElem?_append_left (List.getElem?_eq_some_iff.1 h).1]; exact h
structure pS (w:bO) (fs:List FM):Prop where
 all: ∀ (b:Nat) m,fs[b]? =some m→tR m (fwd w b)∧(m.map (·.1)).Nodup
structure g4 (w:bO) (k:Nat) (bs:List FM):Prop where
 all: ∀ (i:Nat) m,bs[i]? =some m→uV m (back w (k+i))∧(m.map (·.1)).Nodup
variable {w:bO} {b:Nat} {mb m left:List (aC×Int)} {o:Int×aa} {os:List (Int×aa)} {p:aC×Int}
theorem pS.first:pS w [[(⟨0,0⟩,w.Start)]]:=⟨fun b m h=>by
 match b with
 |0=>simp at h; subst h; exact ⟨H3,sm⟩
 |n+1=>simp at h⟩
theorem pS.add {fs:List FM} (h:pS w fs) (hl:fs.length=b+1) (hmb:fs[b]? =some mb) (hm:w6 w b m) (hd:jK w b mb m left) (h0:left=[]):pS w (fs++[m]):=⟨fun i x hx=>by
 rcases Nat.lt_or_ge i fs.length with q|q
 ·rw [List.getElem?_append_left q] at hx; exact h.all i x hx
 ·rw [List.getElem?_append_right q] at hx
  have hi:i-fs.length=0:=by
   rcases Nat.eq_zero_or_pos (i-fs.length) with z|z
   ·exact z
   ·rw [List.getElem?_eq_none (by simp; omega)] at hx; cases hx
  rw [hi] at hx
  simp at hx; subst hx
  obtain rfl:i=b+1:=by omega
  have A:=h.all b mb hmb
  exact ⟨Ki A.2 A.1 hm.snd (hd.fin h0),hm.keys⟩⟩
theorem pS.ok {fs:List FM} (h:pS w fs) (hl:fs.length=w.n+1):xC w fs:=⟨hl,fun b m hm=>(h.all b m hm).1,fun b m hm=>(h.all b m hm).2⟩
theorem g4.none_:g4 w b []:=⟨fun i m h=>by simp at h⟩
theorem g4.last (hb:w.n≤b):g4 w b [[(⟨0,0⟩,w.f_)]]:=⟨fun i m h=>by
 match i with
 |0=>simp at h; subst h; exact ⟨KR om,sm⟩
 |n+1=>simp at h⟩
theorem g4.add {bs:List FM} (h:g4 w (b+1) bs) (hb:b<w.n) (hmb:bs[0]? =some mb) (hm:vG w b m) (hd:js w b mb m left) (h0:left=[]):g4 w b (m::bs):=⟨fun i x hx=>by
 match i with
 |0=>
  simp at hx; subst hx
  have A:=h.all 0 mb hmb
  exact ⟨Jg hb A.2 A.1 hm.snd hm.zero (hd.fin h0),hm.keys⟩
 |n+1=>
  have:=h.all n x (by simpa using hx)
  rw [show b+1+n=b+(n+1) by omega] at this
  exact this⟩
theorem g4.ok {bs:List FM} (h:g4 w 0 bs) (hl:bs.length=w.n+1):ug w bs:=⟨hl,fun b m hm=>by have:=(h.all b m hm).1; rwa [Nat.zero_add] at this,fun b m hm=>(h.all b m hm).2⟩
/-- on the way through one entry's options -/
structure m6 (w:bO) (b:Nat) (mb left m:List (aC×Int)) (p:aC×Int) (os:List (Int×aa)):Prop where
 on:w6 w b m
 tp:jK w b mb m left
 done:iW w b m p os
structure nu (w:bO) (b:Nat) (mb left m:List (aC×Int)) (p:aC×Int) (os:List (Int×aa)):Prop where
 on:vG w b m
 tp:js w b mb m left
 done:iT w b m p os
theorem m6.start (h:w6 w b m) (h2:jK w b mb m left):m6 w b mb left m p []:=⟨h,h2,fun o ho=>by cases ho⟩
theorem nu.start (h:vG w b m) (h2:js w b mb m left):nu w b mb left m p []:=⟨h,h2,fun o ho=>by cases ho⟩
theorem Hb {q:aC×Int} (h:(m.lookup q.1).isSome=false∨q.2<(m.lookup q.1).getD 0):o5 m q=ew m q.1 q.2:=by
 unfold o5
 cases e:m.lookup q.1 with
 |none=>rfl
 |some v=>rw [e] at h; simp at h; simp only; rw [if_pos h]
theorem Eb {q:aC×Int} (h:(m.lookup q.1).isSome=true) (h2: ¬ q.2<(m.lookup q.1).getD 0):o5 m q=m:=by
 unfold o5
 cases e:m.lookup q.1 with
 |none=>rw [e] at h; cases h
 |some v=>rw [e] at h2; simp only [Option.getD_some] at h2; simp only; rw [if_neg h2]
theorem GH {q:aC×Int} (h:(m.lookup q.1).isSome=false∨(m.lookup q.1).getD 0<q.2):oN m q=ew m q.1 q.2:=by
 unfold oN
 cases e:m.lookup q.1 with
 |none=>rfl
 |some v=>rw [e] at h; simp at h; simp only; rw [if_pos h]
theorem DI {q:aC×Int} (h:(m.lookup q.1).isSome=true) (h2: ¬ (m.lookup q.1).getD 0<q.2):oN m q=m:=by
 unfold oN
 cases e:m.lookup q.1 with
 |none=>rw [e] at h; cases h
 |some v=>rw [e] at h2; simp only [Option.getD_some] at h2; simp only; rw [if_neg h2]
theorem z3 {t:aC} {v y:Int} (hy:w.pX[b]? =some y) (h:max (v+y) o.2.Lo≤min o.2.Hi w.f_):kH w b (t,v) o=some (dj t (fh o.1),max (v+y) o.2.Lo):=by
 have e:=m7 hy
 subst e
 exact KN h
theorem KD {t:aC} {v y:Int} (hy:w.pX[b]? =some y) (h: ¬ max (v+y) o.2.Lo≤min o.2.Hi w.f_):kH w b (t,v) o=none:=by
 have e:=m7 hy
 subst e
 exact Of h
theorem AN {t:aC} {v y:Int} (hy:w.pX[b]? =some y) (h:o.2.Lo≤min v o.2.Hi):nP w b (t,v) o=some (dj t (fh o.1),min v o.2.Hi-y):=by
 have e:=m7 hy
 subst e
 exact Lg h
theorem m6.set {q:aC×Int} (h:m6 w b mb left m p os) (hp:p∈fwd w b) (ho:o∈il w b) (he:kH w b p o=some q) (hs:(m.lookup q.1).isSome=false∨q.2<(m.lookup q.1).getD 0):m6 w b mb left (ew m q.1 q.2) p (os++[o]):=by
 rw [← Hb hs]
 exact ⟨h.on.add hp ho he,h.tp.lower vf,h.done.Im he⟩
theorem m6.ou {q:aC×Int} (h:m6 w b mb left m p os) (he:kH w b p o=some q) (hs:(m.lookup q.1).isSome=true) (h2: ¬ q.2<(m.lookup q.1).getD 0):m6 w b mb left m p (os++[o]):=by
 have:=h.done.Im he
 rw [Eb hs h2] at this
 exact ⟨h.on,h.tp,this⟩
theorem m6.skip (h:m6 w b mb left m p os) (he:kH w b p o=none):m6 w b mb left m p (os++[o]):=⟨h.on,h.tp,h.done.none_ he⟩
theorem nu.set {q:aC×Int} (hb:b<w.n) (h:nu w b mb left m p os) (hp:p∈back w (b+1)) (ho:o∈il w b) (he:nP w b p o=some q) (hs:(m.lookup q.1).isSome=false∨(m.lookup q.1).getD 0<q.2):nu w b mb left (ew m q.1 q.2) p (os++[o]):=by
 rw [← GH hs]
 exact ⟨h.on.add hb hp ho he,h.tp.upper qq,h.done.Im he⟩
theorem nu.ou {q:aC×Int} (h:nu w b mb left m p os) (he:nP w b p o=some q) (hs:(m.lookup q.1).isSome=true) (h2: ¬ (m.lookup q.1).getD 0<q.2):nu w b mb left m p (os++[o]):=by
 have:=h.done.Im he
 rw [DI hs h2] at this
 exact ⟨h.on,h.tp,this⟩
theorem nu.skip (h:nu w b mb left m p os) (he:nP w b p o=none):nu w b mb left m p (os++[o]):=⟨h.on,h.tp,h.done.none_ he⟩
theorem m6.next {t:aC} {v:Int} (hn:(left.map (·.1)).Nodup) (hm:(t,v)∈left) (h:m6 w b mb left m (t,v) os) (ho: ∀ o∈il w b,o∈os):jK w b mb m (cj left t):=h.tp.next hn hm h.done ho
theorem nu.next {t:aC} {v:Int} (hn:(left.map (·.1)).Nodup) (hm:(t,v)∈left) (h:nu w b mb left m (t,v) os) (ho: ∀ o∈il w b,o∈os):js w b mb m (cj left t):=h.tp.next hn hm h.done ho
theorem pS.mem {fs:List FM} (h:pS w fs) (hm:fs[b]? =some mb) (hp:p∈mb):p∈fwd w b:=(h.all b mb hm).1.1 _ _ ((fr (h.all b mb hm).2).1 hp)
theorem g4.Vd {bs:List FM} {k:Nat} (h:g4 w k bs) (hk:k=b+1) (hm:bs[0]? =some mb) (hp:p∈mb):p∈back w (b+1):=by
 subst hk
 exact (h.all 0 mb hm).1.1 _ _ ((fr (h.all 0 mb hm).2).1 hp)
theorem g4.end_ {bs:List FM} {k j:Nat} (h:g4 w k bs) (hj:bs.length=0) (hk:j=b) (hb:w.n≤b):g4 w j ([(⟨0,0⟩,w.f_)]::bs):=by
 subst hk
 rw [jC hj]
 exact g4.last hb
theorem g4.more {bs:List FM} {k j:Nat} (h:g4 w k bs) (hk:k=b+1) (hj:j=b) (hb:b<w.n) (hmb:bs[0]? =some mb) (hm:vG w b m) (hd:js w b mb m left) (h0:left=[]):g4 w j (m::bs):=by
 subst hk hj
 exact h.add hb hmb hm hd h0
end
section
open Go.RowKit
theorem j0 {a:OA} {c e sz n:Nat} {es:List (List Value)} (h:es.length=n):Mp (own a c e sz es) (rd a n sz es):=by subst h; exact Oi
theorem sX {L:List au}:Mp (bu L) (e7 L):=⟨fun w h=>h.1,fun b h=>h⟩
theorem M1 {b:Nat} {fb:List Nat} {g:Nat} (h:fb.length=b):aU rz (List.replicate b ([]:TM)) fb++[hE iV g (bG db [])]=aU rz (List.replicate (b+1) ([]:TM)) (fb++[g]):=by
 rw [List.replicate_succ']
 exact zB (by rw [List.length_replicate]; exact h.symm) U
theorem U0 {α:Type} {ms:List α} {fb:List Nat} {n:Nat} (h:fb.length=n) (h2:ms.length=n):List.map oC (ej fb n)=List.zipWith gG ms fb:=by
 rw [yR h]; exact (zM om).symm
theorem vZ {l:aX} {r:cx} {i:Nat} {x:aM} (hx:r.ah[i]? =some x) (h: ¬ j5 l r.ah i x): ¬ ff l r:=fun q=>h (q.sig i x hx)
end
end Go.Proofs.YtadjgjnicdcjbaaGreatDoor
