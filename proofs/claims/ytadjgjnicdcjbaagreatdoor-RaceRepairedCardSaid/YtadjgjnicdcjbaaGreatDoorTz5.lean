/-
 The statement raceRepaired_said, part 5 of 9: RaceV, RankP, OrdX, TabP, NestS, Grp, Twin, Fresh, Rep, Ex6, Win6, BoolC, RaceR, Tied6, Sel6, Nar6, Nar7, Rep6, Rep8, MapD, Async, NJoin, Bits, B1, Rc1, Rs5, CloneM, Rs1, S2, Rs2, B4, B2, B3, B5.
 Conditions: none.
-/
import Derived.Test.YtadjgjnicdcjbaaGreatDoorTz1
import Derived.Test.YtadjgjnicdcjbaaGreatDoorTz2
import Derived.Test.YtadjgjnicdcjbaaGreatDoorTz3
import Derived.Test.YtadjgjnicdcjbaaGreatDoorTz4
import Derived.KernelRfl
import Derived.MapKept
import Derived.Laws.Externs
namespace Go.Proofs.YtadjgjnicdcjbaaGreatDoor
set_option maxRecDepth 100000
set_option maxHeartbeats 4000000
set_option linter.unusedVariables false
section
def aC (m:g0) (i:Int):aa:=(m.lookup i).getD dN
def pj (r:bY) (i:Int):Prop:=0≤i∧i≤(r.aK.length:Int)-1
instance (r:bY) (i:Int):Decidable (pj r i):=by unfold pj; infer_instance
noncomputable def j7 (r:bY) (i:Int):Int:=if cV r=0 then (if pj r i then (if (ax r).lookup i=none then 6 else 0) else 2) else cV r
noncomputable def pO (r:bY) (i:Int):aa:=if j7 r i=0 then aC (ax r) i else dN
noncomputable def nY (r:bY) (a b:Int):Int:=if cV r=0 then (if pj r a∧pj r b∧a≠b then (if (ax r).lookup a=none∨(ax r).lookup b=none then 6 else 0) else 2) else cV r
def BP (s t:aa):Int:=if s.Hi<t.Lo then 2 else if s.Lo<t.Hi then 1 else 0
def sU (s t:aa):Int:=if s=t∧s.Lo=s.Hi then 2 else if s.Lo≤t.Hi∧t.Lo≤s.Hi then 1 else 0
noncomputable def wD (r:bY) (a b:Int):Int:=if nY r a b=0 then BP (aC (ax r) a) (aC (ax r) b) else 0
noncomputable def qZ (r:bY) (a b:Int):Int:=if nY r a b=0 then sU (aC (ax r) a) (aC (ax r) b) else 0
noncomputable def gM (r:bY) (i:Int):List Int:=if j7 r i=0 then cY (ax r) i (aC (ax r) i) else []
noncomputable def m0 (r:bY) (h i:Int):Int:=if cV r=0 then (if (0≤h∧h≤(r.ao.length:Int)-1)∧pj r i then (if ((r.ao[h.toNat]?).bind (·[i.toNat]?)).any (·.Out)=true then 6 else 0) else 2) else cV r
noncomputable def iG (r:bY) (h i:Int):aa:=if m0 r h i=0 then ((((r.ao[h.toNat]?).bind (·[i.toNat]?)).map (dF r.an)).getD dN) else dN
noncomputable def uR (r:bY) (h:Nat):List Int:=let l:=eN (fun i=>(aC (eL r h) i).Hi) (r.bL.filter fun i=>((eL r h).lookup i).isSome); sQ (min r.gZ.toNat l.length) l
noncomputable def i_ (r:bY) (h:Int):Int:=if cV r=0 then (if 0≤h∧h≤(r.ao.length:Int) then 0 else 2) else cV r
noncomputable def il (r:bY) (h:Int):List Int:=if i_ r h=0 then (if h=0 then r.bL else uR r h.toNat) else []
section
variable {r:bY} {i a b:Int}
theorem vd {m:g0} {i:Int} (h:(m.lookup i).isSome=true): ¬ m.lookup i=none:=fun e=>by rw [e] at h; cases h
theorem vx {m:g0} {i:Int} (h:(m.lookup i).isSome=false):m.lookup i=none:=by cases e:m.lookup i with |none=>rfl|some v=>rw [e] at h; cases h
theorem uW (h:j7 r i=0):cV r=0∧pj r i∧(ax r).lookup i≠none:=by
 unfold j7 at h
 split at h
 ·split at h
  ·split at h
   ·cases h
   ·exact ⟨asm,asm,asm⟩
  ·cases h
 ·exact absurd h asm
theorem zj (h:nY r a b=0):cV r=0∧(pj r a∧pj r b∧a≠b)∧(ax r).lookup a≠none∧(ax r).lookup b≠none:=by
 unfold nY at h
 split at h
 ·split at h
  ·split at h
   ·cases h
   ·rename_i _ _ q
    exact ⟨asm,asm,fun e=>q (.inl e),fun e=>q (.inr e)⟩
  ·cases h
 ·exact absurd h asm
theorem u6 {k:Nat} {p:Int×aa} (h:p∈eL r k): ∃ q:Nat,q<r.aK.length∧p.1=(q:Int)∧fm r.an r.ao q k=some p.2:=by
 unfold eL at h
 obtain ⟨q,hq,e⟩:=List.mem_filterMap.1 h
 obtain ⟨s,hs,rfl⟩:=Option.map_eq_some_iff.1 e
 exact ⟨q,List.mem_range.1 hq,U,hs⟩
theorem GZ {k:Nat} (h:cV r=0) (hk:k≤r.ao.length): ∀ p∈eL r k,0≤p.2.Lo∧p.2.Lo≤p.2.Hi∧p.2.Hi≤30000000:=fun p hp=>by
 obtain ⟨q,_,_,hs⟩:=u6 hp
 have A:=AP (iw h).2.Av hk hs
 have B:=(iw h).2.nh
 omega
theorem nZ (h:cV r=0): ∀ p∈ax r,0≤p.2.Lo∧p.2.Lo≤p.2.Hi∧p.2.Hi≤30000000:=GZ h (Nat.le_refl _)
theorem vk {k:Nat}:(eL r k).length≤r.aK.length:=by
 unfold eL
 refine Nat.le_trans (List.length_filterMap_le _ _) ?_
 rw [List.length_range]; exact Nat.le_refl _
theorem pB (h:cV r=0):(ax r).length≤5:=by
 have A:=vk (r:=r) (k:=r.ao.length)
 have B:=(iw h).2.num
 unfold ax; omega
theorem Nb {s t:aa}:(if decide (s.Hi<t.Lo)=true then (2:Int) else if decide (s.Lo<t.Hi)=true then 1 else 0)=BP s t:=by simp only [decide_eq_true_eq]; rfl
theorem LH {s t:aa} (h:s=t):(if decide (max s.Lo t.Lo=min s.Hi t.Hi)=true then (2:Int) else if decide (max s.Lo t.Lo≤min s.Hi t.Hi)=true then 1 else 0)=sU s t:=by
 subst h
 simp only [decide_eq_true_eq,sU,Int.max_self,Int.min_self,true_and,and_self]
theorem OZ {s t:aa} (hs:s.Lo≤s.Hi) (ht:t.Lo≤t.Hi) (h: ¬ s=t):(if false=true then (2:Int) else if decide (max s.Lo t.Lo≤min s.Hi t.Hi)=true then 1 else 0)=sU s t:=by
 unfold sU
 rw [if_neg dc,if_neg (fun q:s=t∧s.Lo=s.Hi=>h q.1)]
 by_cases c:s.Lo≤t.Hi∧t.Lo≤s.Hi
 ·rw [if_pos c,if_pos (dK I)]
 ·rw [if_neg c,if_neg (by rw [decide_eq_true_eq]; omega)]
theorem J0 (h: ¬ cV r=0):j7 r i=cV r:=if_neg h
theorem I8 (h:cV r=0) (hi: ¬ (0≤i∧i≤(r.aK.length:Int)-1)):j7 r i=2:=by unfold j7; rw [if_pos h,if_neg (show ¬ pj r i from hi)]
theorem zi (h:cV r=0) (hi:0≤i∧i≤(r.aK.length:Int)-1) (hl:((ax r).lookup i).isSome=false):j7 r i=6:=by unfold j7; rw [if_pos h,if_pos (show pj r i from hi),if_pos (vx hl)]
theorem GI (h:cV r=0) (hi:0≤i∧i≤(r.aK.length:Int)-1) (hl:((ax r).lookup i).isSome=true):j7 r i=0:=by unfold j7; rw [if_pos h,if_pos (show pj r i from hi),if_neg (vd hl)]
theorem Mf (h: ¬ cV r=0):nY r a b=cV r:=if_neg h
theorem B5 (h:cV r=0) (hi: ¬ ((0≤a∧a≤(r.aK.length:Int)-1)∧(0≤b∧b≤(r.aK.length:Int)-1)∧a≠b)):nY r a b=2:=by unfold nY; rw [if_pos h,if_neg (show ¬ (pj r a∧pj r b∧a≠b) from hi)]
theorem zE (h:cV r=0) (hi:(0≤a∧a≤(r.aK.length:Int)-1)∧(0≤b∧b≤(r.aK.length:Int)-1)∧a≠b) (hl:((ax r).lookup a).isSome=false∨((ax r).lookup b).isSome=false):nY r a b=6:=by
 unfold nY; rw [if_pos h,if_pos (show pj r a∧pj r b∧a≠b from hi),if_pos (hl.imp vx vx)]
theorem O1 (h:cV r=0) (hi:(0≤a∧a≤(r.aK.length:Int)-1)∧(0≤b∧b≤(r.aK.length:Int)-1)∧a≠b) (h1:((ax r).lookup a).isSome=true) (h2:((ax r).lookup b).isSome=true):nY r a b=0:=by
 unfold nY; rw [if_pos h,if_pos (show pj r a∧pj r b∧a≠b from hi),if_neg (fun q=>q.elim (vd h1) (vd h2))]
end
end
section
abbrev rm:=List (Int×Bool)
def jm (m:rm) (P:Int→Prop):Prop:=(m.map (·.1)).Nodup∧ ∀ k,k∈m.map (·.1)↔P k
section
variable {m:rm} {P Q:Int→Prop} {k:Int}
theorem jm.yZ (h:jm m P) (e: ∀ k,P k↔Q k):jm m Q:=⟨h.1,fun k=>(h.2 k).trans (e k)⟩
theorem MQ (h: ∀ k,¬ P k):jm [] P:=⟨List.Pairwise.nil,fun k=>⟨fun q=>by simp at q,fun q=>absurd q (h k)⟩⟩
theorem Im:k∈m.map (·.1)↔(m.lookup k).isSome=true:=by
 induction m with
 |nil=>simp
 |cons p m ih=>
  obtain ⟨a,b⟩:=p
  by_cases e:k=a
  ·subst e; simp [List.lookup]
  ·have:(k==a)=false:=by simpa using e
   simp only [List.map_cons,bE,e,false_or,List.lookup,this]
   exact ih
theorem JQ {b:Bool} (h:jm m P) (hk: ¬ P k):jm (eP m k b) fun q=>P q∨q=k:=by
 have hn:(m.lookup k).isSome=false:=by
  rw [Bool.eq_false_iff]
  exact fun q=>hk ((h.2 k).1 (Im.2 q))
 unfold eP
 rw [hn]
 simp only [Bool.false_eq_true,if_false]
 refine ⟨?_,fun q=>?_⟩
 ·rw [List.map_append]
  refine List.nodup_append.2 ⟨h.1,sm,fun a ha b hb e=>?_⟩
  simp at hb
  subst hb; subst e
  exact hk ((h.2 _).1 ha)
 ·rw [List.map_append,dQ,h.2 q]
  simp
theorem CG (h:jm m P):jm (cJ m k) fun q=>P q∧q≠k:=by
 have hs:((cJ m k).map (·.1)).Sublist (m.map (·.1)):=List.Sublist.map _ List.filter_sublist
 refine ⟨h.1.sublist hs,fun q=>?_⟩
 constructor
 ·intro hq
  obtain ⟨p,hp,rfl⟩:=bW.1 hq
  obtain ⟨A,B⟩:=ko.1 hp
  exact ⟨(h.2 _).1 (List.mem_map_of_mem A),B⟩
 ·rintro ⟨A,B⟩
  obtain ⟨p,hp,rfl⟩:=bW.1 ((h.2 q).2 A)
  exact List.mem_map_of_mem (ko.2 ⟨hp,B⟩)
end
/-- two rows that go up and have the same numbers, each once -/
theorem pw {a b:List Int} (ha:a.Pairwise (· ≤ ·)) (hb:b.Pairwise (· ≤ ·)) (na:a.Nodup) (nb:b.Nodup) (h: ∀ x,x∈a↔x∈b):a=b:=
 sM ((List.perm_ext_iff_of_nodup na nb).2 h) ha hb
def Jo (l:List Int):Nat:=if l.length=2∧l[1]? =l[0]? then 1 else l.length
theorem zF {l:List Int} {x y:Int} (h:l.length=2) (h0:l[0]? =some y) (h1:l[1]? =some x) (e:x=y):Jo l=1:=if_pos ⟨h,by rw [h0,h1,e]⟩
theorem CC {l:List Int} {x y:Int} (h:l.length=2) (h0:l[0]? =some y) (h1:l[1]? =some x) (e: ¬ x=y):Jo l=l.length:=if_neg fun q=>e (by have:=q.2; rw [h0,h1] at this; exact Option.some.inj this)
theorem Kz (a b:Int):(a=b∧Jo (dA [a,b])=1)∨(¬ a=b∧Jo (dA [a,b])=2):=by
 have hl:(dA [a,b]).length=2:=by simp
 have hp:(dA [a,b]).Perm [a,b]:=fp
 match hs:dA [a,b],hl with
 |[x,y],_=>
  rw [hs] at hp
  by_cases e:a=b
  ·subst e
   left
   refine ⟨U,zF U U U ?_⟩
   have A:x∈[a,a]:=hp.mem_iff.1 sm
   have B:y∈[a,a]:=hp.mem_iff.1 sm
   simp at A B; omega
  ·right
   refine ⟨e,(CC (x:=y) (y:=x) U U U fun q=>?_).trans U⟩
   subst q
   have A:=hp.nodup_iff.2 (show [a,b].Nodup by simp [e])
   simp at A
section
variable {m left:g0} {i n x:Int} {y:aa}
theorem mu {p:Int×aa→Bool} (hn:(left.map (·.1)).Nodup) (hm:(x,y)∈left):left.countP p=(cJ left x).countP p+(if p (x,y)=true then 1 else 0):=by
 induction left with
 |nil=>cases hm
 |cons q left ih=>
  obtain ⟨a,b⟩:=q
  simp only [List.map_cons,List.nodup_cons] at hn
  rcases bE.1 hm with e|hm
  ·cases e
   have A:cJ ((x,y)::left) x=left:=by
    unfold cJ
    rw [List.filter_cons_of_neg sm]
    exact List.filter_eq_self.2 fun q hq=>by
     have:q.1≠x:=fun e=>hn.1 (e▸List.mem_map_of_mem hq)
     simpa using this
   rw [A,List.countP_cons]
  ·have B:a≠x:=fun e=>hn.1 (e▸List.mem_map_of_mem (f:=fun z:Int×aa=>z.1) hm)
   have A:cJ ((a,b)::left) x=(a,b)::cJ left x:=by
    unfold cJ
    rw [List.filter_cons_of_pos (by simpa using B)]
   rw [A,List.countP_cons,List.countP_cons,ih hn.2 hm]
   omega
theorem np:iK left i n=left.countP fun p=>decide (p.2.Hi<n)&& !decide (p.1=i):=by unfold iK nc; rw [List.countP_filter]
theorem pZ:j5 left i n=left.countP fun p=>decide (p.2.Lo<n)&& !decide (p.1=i):=by unfold j5 nc; rw [List.countP_filter]
theorem Ia (hn:(left.map (·.1)).Nodup) (hm:(x,y)∈left) (h:x=i):iK left i n=iK (cJ left x) i n:=by
 rw [np,np,mu hn hm]; simp [h]
theorem Mx (hn:(left.map (·.1)).Nodup) (hm:(x,y)∈left) (h:x=i):j5 left i n=j5 (cJ left x) i n:=by
 rw [pZ,pZ,mu hn hm]; simp [h]
theorem zn (hn:(left.map (·.1)).Nodup) (hm:(x,y)∈left) (h: ¬ x=i) (hy:y.Hi<n):iK left i n=iK (cJ left x) i n+1:=by
 rw [np,np,mu hn hm]; simp [h,hy]
theorem Cf (hn:(left.map (·.1)).Nodup) (hm:(x,y)∈left) (h: ¬ x=i) (hy: ¬ y.Hi<n):iK left i n=iK (cJ left x) i n:=by
 rw [np,np,mu hn hm]; simp [h,hy]
theorem Db (hn:(left.map (·.1)).Nodup) (hm:(x,y)∈left) (h: ¬ x=i) (hy:y.Lo<n):j5 left i n=j5 (cJ left x) i n+1:=by
 rw [pZ,pZ,mu hn hm]; simp [h,hy]
theorem Gi (hn:(left.map (·.1)).Nodup) (hm:(x,y)∈left) (h: ¬ x=i) (hy: ¬ y.Lo<n):j5 left i n=j5 (cJ left x) i n:=by
 rw [pZ,pZ,mu hn hm]; simp [h,hy]
theorem z3:iK [] i n=0:=rfl
theorem BK:j5 [] i n=0:=rfl
theorem GY:iK m i n≤m.length:=by unfold iK nc; exact Nat.le_trans List.countP_le_length (List.length_filter_le _ _)
theorem LK:j5 m i n≤m.length:=by unfold j5 nc; exact Nat.le_trans List.countP_le_length (List.length_filter_le _ _)
end
def o0 {β:Type} (m left:List (Int×β)) (ys:List Int):Prop:=(ys++left.map (·.1)).Perm (m.map (·.1))
theorem wg {β:Type} {m:List (Int×β)}:o0 m m []:=List.Perm.refl _
theorem wV {β:Type} {m:List (Int×β)} {ys:List Int} (h:o0 m [] ys):ys.Perm (m.map (·.1)):=by simpa [o0] using h
theorem MP {β:Type} {left:List (Int×β)} {x:Int} {y:β} (hn:(left.map (·.1)).Nodup) (hm:(x,y)∈left):(left.map (·.1)).Perm (x::(cJ left x).map (·.1)):=by
 induction left with
 |nil=>cases hm
 |cons q left ih=>
  obtain ⟨a,b⟩:=q
  simp only [List.map_cons,List.nodup_cons] at hn
  rcases bE.1 hm with e|hm
  ·cases e
   have A:cJ ((x,y)::left) x=left:=by
    unfold cJ
    rw [List.filter_cons_of_neg sm]
    exact List.filter_eq_self.2 fun q hq=>by
     have:q.1≠x:=fun e=>hn.1 (e▸List.mem_map_of_mem hq)
     simpa using this
   rw [A]; exact List.Perm.refl _
  ·have B:a≠x:=fun e=>hn.1 (e▸List.mem_map_of_mem (f:=fun z:Int×β=>z.1) hm)
   have A:cJ ((a,b)::left) x=(a,b)::cJ left x:=by
    unfold cJ
    rw [List.filter_cons_of_pos (by simpa using B)]
   rw [A,List.map_cons,List.map_cons]
   exact ((ih hn.2 hm).cons a).trans (List.Perm.swap _ _ _)
theorem oE {β:Type} {m left:List (Int×β)} {ys:List Int} {x:Int} {y:β} (hn:(left.map (·.1)).Nodup) (hm:(x,y)∈left) (h:o0 m left ys):o0 m (cJ left x) (ys++[x]):=by
 unfold o0 at h ⊢
 refine List.Perm.trans ?_ h
 rw [List.append_assoc]
 exact (MP hn hm).symm.append_left ys
theorem gh {β:Type} {m left:List (Int×β)} {x:Int} (h: ∀ p∈left,p∈m): ∀ p∈cJ left x,p∈m:=fun p hp=>h p (ko.1 hp).1
theorem g6 {m:g0} {i:Int} (h: ∀ p∈m,0≤p.2.Lo∧p.2.Lo≤p.2.Hi∧p.2.Hi≤30000000):0≤(aC m i).Lo∧(aC m i).Lo≤(aC m i).Hi∧(aC m i).Hi≤30000000:=by
 unfold aC
 cases e:m.lookup i with
 |none=>simp [dN]
 |some v=>
  have hm:(i,v)∈m:=by
   clear h
   induction m with
   |nil=>cases e
   |cons p m ih=>
    obtain ⟨a,b⟩:=p
    by_cases c:i=a
    ·subst c; simp [List.lookup] at e; subst e; exact bZ
    ·have:(i==a)=false:=by simpa using c
     simp only [List.lookup,this] at e
     exact c_ _ (ih e)
  simpa using h _ hm
/-- not reached by the numbers so far -/
def vf (m:g0) (i:Int) (ys:List Int) (k:Int):Prop:=(1≤k∧k≤(m.length:Int))∧ ∀ n∈ys,¬ ((iK m i n:Int)+1≤k∧k≤(j5 m i n:Int)+1)
section
variable {m:g0} {i:Int} {own:aa} {ys:List Int} {nev ranks:rm} {n a b:Int}
theorem LV (h:jm nev fun k=>1≤k∧k≤(m.length:Int)):jm nev (vf m i []):=h.yZ fun k=>⟨fun h=>⟨h,fun n hn=>by cases hn⟩,fun h=>h.1⟩
theorem IP (ha:a=(iK m i n:Int)+1) (hb:b=(j5 m i n:Int)+1) (h:jm nev fun q=>vf m i ys q∧ ¬ (a≤q∧q≤b)):jm nev (vf m i (ys++[n])):=by
 subst ha hb
 refine h.yZ fun k=>?_
 unfold vf
 constructor
 ·rintro ⟨⟨B,A⟩,C⟩
  refine ⟨B,fun x hx=>?_⟩
  rcases dQ.1 hx with hx|hx
  ·exact A x hx
  ·rw [bP] at hx; subst hx; exact C
 ·rintro ⟨B,A⟩
  exact ⟨⟨B,fun x hx=>A x (List.mem_append_left _ hx)⟩,A n sm⟩
theorem D_ {P:Int→Prop} {k:Int} (hk:a≤k) (h:jm nev fun q=>P q∧ ¬ (a≤q∧q<k)):jm (cJ nev k) fun q=>P q∧ ¬ (a≤q∧q<k+1):=
 (CG (k:=k) h).yZ fun q=>by
  constructor
  ·rintro ⟨⟨B,A⟩,E⟩; exact ⟨B,fun ⟨C,D⟩=>A ⟨C,I⟩⟩
  ·rintro ⟨B,A⟩; exact ⟨⟨B,fun ⟨C,D⟩=>A ⟨C,I⟩⟩,fun e=>A ⟨I,I⟩⟩
theorem G3 (hall: ∀ n,n∈ys↔n∈jQ m i own) {k:Int} (hk:1≤k∧k≤(m.length:Int)): ¬ vf m i ys k↔sV m i own k:=by
 unfold vf sV
 constructor
 ·intro h
  refine Classical.byContradiction fun q=>h ⟨hk,fun n hn hc=>q ⟨n,(hall n).1 hn,hc.1,hc.2⟩⟩
 ·rintro ⟨n,hn,A,B⟩ h
  exact h.2 n ((hall n).2 hn) ⟨A,B⟩
/-- the ranks, from what is left of the map -/
theorem Ey (hi:m.lookup i≠none) (hall: ∀ n,n∈ys↔n∈jQ m i own) (h:jm ranks fun k=>(1≤k∧k≤(m.length:Int))∧ ¬ vf m i ys k):dA (ranks.map (·.1))=cY m i own:=by
 refine pw ks ?_ ((fp (l:=ranks.map (·.1))).nodup_iff.2 h.1) ?_ fun k=>?_
 ·unfold cY
  refine List.Pairwise.filter _ ?_
  rw [List.pairwise_map]
  exact List.pairwise_lt_range.imp fun h=>by omega
 ·unfold cY
  refine List.Pairwise.filter _ ?_
  rw [List.pairwise_map]
  exact List.pairwise_lt_range.imp fun h=>by omega
 ·rw [(fp (l:=ranks.map (·.1))).mem_iff,h.2 k,Ic hi]
  constructor
  ·rintro ⟨A,B⟩; exact (G3 hall A).1 B
  ·intro A
   have hk:1≤k∧k≤(m.length:Int):=by
    obtain ⟨n,_,B,C⟩:=A
    have:=IZ hi (x:=n)
    omega
   exact ⟨hk,(G3 hall hk).2 A⟩
end
section
variable {nw left rk:rm} {N R:Int→Prop} {u:Int} {v:Bool}
theorem Ol (hl: ∀ p∈left,p∈nw) (hk:jm nw N) (hm:(u,v)∈left) (h:jm rk fun w=>R w∧ ¬ (N w∧w ∉ left.map (·.1))):jm (cJ rk u) fun w=>R w∧ ¬ (N w∧w ∉ (cJ left u).map (·.1)):=
 (CG (k:=u) h).yZ fun w=>by
  have hd:w∈(cJ left u).map (·.1)↔w∈left.map (·.1)∧w≠u:=by
   constructor
   ·intro q
    obtain ⟨p,hp,rfl⟩:=bW.1 q
    exact ⟨List.mem_map_of_mem (ko.1 hp).1,(ko.1 hp).2⟩
   ·rintro ⟨D,E⟩
    obtain ⟨p,hp,rfl⟩:=bW.1 D
    exact List.mem_map_of_mem (ko.2 ⟨hp,E⟩)
  constructor
  ·rintro ⟨⟨B,A⟩,C⟩
   exact ⟨B,fun q=>A ⟨q.1,fun z=>q.2 (hd.2 ⟨z,C⟩)⟩⟩
  ·rintro ⟨B,A⟩
   refine ⟨⟨B,fun q=>A ⟨q.1,fun z=>q.2 (hd.1 z).1⟩⟩,fun e=>A ⟨?_,fun z=>(hd.1 z).2 e⟩⟩
   subst e
   exact (hk.2 _).1 (List.mem_map_of_mem (f:=fun z:Int×Bool=>z.1) (hl _ hm))
theorem IT {n:Nat} (h:jm rk R) (hR: ∀ k,R k→1≤k∧k≤(n:Int)):rk.length≤n:=by
 have hp:((List.range n).map fun (k:Nat)=>(k:Int)+1).Pairwise (· < ·):=by
  rw [List.pairwise_map]
  exact List.pairwise_lt_range.imp fun h=>by omega
 have e:dA (rk.map (·.1))=((List.range n).map fun (k:Nat)=>(k:Int)+1).filter fun k=>decide (k∈rk.map (·.1)):=by
  refine pw ks ((hp.filter _).imp fun h=>by omega) ((fp (l:=rk.map (·.1))).nodup_iff.2 h.1) ((hp.filter _).imp fun h=>by omega) fun k=>?_
  rw [(fp (l:=rk.map (·.1))).mem_iff,List.mem_filter,decide_eq_true_eq]
  refine ⟨fun q=>⟨?_,q⟩,fun q=>q.2⟩
  have:=hR k ((h.2 k).1 q)
  exact bW.2 ⟨(k-1).toNat,List.mem_range.2 I,I⟩
 have A:=congrArg List.length e
 have B:=List.length_filter_le (fun k=>decide (k∈rk.map (·.1))) ((List.range n).map fun (k:Nat)=>(k:Int)+1)
 rw [gF,List.length_map] at A
 rw [List.length_map,List.length_range] at B
 omega
end
section
variable {m left:g0} {i x n:Int} {own y:aa} {ys:List Int}
/-- what was told so far: all of those who are not left -/
def zd (m:g0) (i:Int) (own:aa) (left:g0) (ys:List Int):Prop:=(∀ n∈ys,n∈jQ m i own)∧own.Lo∈ys∧ ∀ p∈m,p.1≠i→p ∉ left→ ∀ n∈[p.2.Lo+1,p.2.Hi+1],own.Lo≤n∧n≤own.Hi→n∈ys
theorem nx {p:Int×aa} (hp:p∈m) (hi:p.1≠i) (hn:n=p.2.Lo+1∨n=p.2.Hi+1) (hb:own.Lo≤n∧n≤own.Hi):n∈jQ m i own:=
 c_ _ (List.mem_filter.2 ⟨List.mem_flatMap.2 ⟨p,List.mem_filter.2 ⟨hp,by simpa using hi⟩,by simpa using hn⟩,dK hb⟩)
theorem JN:zd m i own m [own.Lo]:=⟨fun n hn=>by rw [bP] at hn; subst hn; exact bZ,sm,fun p hp _ hl=>absurd hp hl⟩
theorem Nz (h:zd m i own [] ys) (n:Int):n∈ys↔n∈jQ m i own:=by
 refine ⟨h.1 n,fun hn=>?_⟩
 rcases bE.1 hn with rfl|hn
 ·exact h.2.1
 ·obtain ⟨C,D⟩:=List.mem_filter.1 hn
  obtain ⟨p,hp,hx⟩:=List.mem_flatMap.1 C
  obtain ⟨A,B⟩:=List.mem_filter.1 hp
  exact h.2.2 p A (by simpa using B) sm n hx (of_decide_eq_true D)
theorem lK {ys':List Int} (hm:(left.map (·.1)).Nodup) (hx:(x,y)∈left) (hl: ∀ p∈left,p∈m) (h:zd m i own left ys) (hs: ∀ n∈ys,n∈ys') (hn: ∀ n∈ys',n∈ys∨n∈jQ m i own)
 (hy:x≠i→ ∀ n∈[y.Lo+1,y.Hi+1],own.Lo≤n∧n≤own.Hi→n∈ys'):zd m i own (cJ left x) ys':=by
 refine ⟨fun n A=>?_,hs _ h.2.1,fun p hp hi B n A hb=>?_⟩
 ·rcases hn n A with q|q
  ·exact h.1 n q
  ·exact q
 ·by_cases e:p∈left
  ·have C:p.1=x:=by
    refine Classical.byContradiction fun q=>B (ko.2 ⟨e,q⟩)
   have E:p=(x,y):=by
    obtain ⟨G,H⟩:=p
    simp only at C; subst C
    have F:=(jZ hm).1 e
    have D:=(jZ hm).1 hx
    rw [F] at D; cases D; rfl
   subst E
   exact hy hi n A hb
  ·exact hs n (h.2.2 p hp hi e n A hb)
end
section
variable {r:bY} {h i:Int} {ht:List au} {d:au}
theorem pc (he: ¬ cV r=0):m0 r h i=cV r:=if_neg he
theorem o4 (he:cV r=0) (hi: ¬ ((0≤h∧h≤(r.ao.length:Int)-1)∧0≤i∧i≤(r.aK.length:Int)-1)):m0 r h i=2:=by
 unfold m0; rw [if_pos he,if_neg (show ¬ ((0≤h∧h≤(r.ao.length:Int)-1)∧pj r i) from hi)]
theorem C7 (he:cV r=0) (hi:(0≤h∧h≤(r.ao.length:Int)-1)∧0≤i∧i≤(r.aK.length:Int)-1) (h1:r.ao[h.toNat]? =some ht) (h2:ht[i.toNat]? =some d):m0 r h i=if d.Out=true then 6 else 0:=by
 unfold m0; rw [if_pos he,if_pos (show (0≤h∧h≤(r.ao.length:Int)-1)∧pj r i from hi),h1]
 simp [h2]
theorem n9 (he:cV r=0) (hi:(0≤h∧h≤(r.ao.length:Int)-1)∧0≤i∧i≤(r.aK.length:Int)-1) (h1:r.ao[h.toNat]? =some ht) (h2:ht[i.toNat]? =some d) (ho:d.Out=true):m0 r h i=6:=by rw [C7 he hi h1 h2,if_pos ho]
theorem q6 (he:cV r=0) (hi:(0≤h∧h≤(r.ao.length:Int)-1)∧0≤i∧i≤(r.aK.length:Int)-1) (h1:r.ao[h.toNat]? =some ht) (h2:ht[i.toNat]? =some d) (ho:d.Out=false):m0 r h i=0∧iG r h i=dF r.an d:=by
 have e:m0 r h i=0:=by rw [C7 he hi h1 h2,if_neg (by rw [ho]; decide)]
 refine ⟨e,?_⟩
 unfold iG
 rw [if_pos e,h1]
 simp [h2]
end
theorem Aj {r:bY} {i:Int} (h: ¬ j7 r i=0):gM r i=[]:=if_neg h
theorem zw {r:bY} {i:Int} (h:j7 r i=0):gM r i=cY (ax r) i (aC (ax r) i):=if_pos h
end
section
open Go.RowKit
section
variable {key:Int→Int} {l q m:List Int} {i j:Nat} {x y:Int}
theorem ID:1=1∧l=[]∨tJ key l 1 l:=by
 cases l with
 |nil=>exact .inl ⟨rfl,rfl⟩
 |cons a l=>exact .inr (KU sm)
theorem OC (h:i<l.length) (hd:i=1∧l=[]∨tJ key l i m):tJ key l i m:=by
 rcases hd with ⟨_,rfl⟩|hd
 ·simp at h
 ·exact hd
theorem Lp (hi: ¬ i<l.length) (hl:m.length=l.length) (hd:i=1∧l=[]∨tJ key l i m):m=eN key l:=by
 rcases hd with ⟨_,rfl⟩|hd
 ·exact jS hl
 ·exact Kg I hd
theorem Mg (hx:q[j]? =some x) (hy:q[j-1]? =some y) (h: ∀ z∈q,z∈l): ∀ z∈(q.set j y).set (j-1) x,z∈l:=fun z hz=>by
 rcases List.mem_or_eq_of_mem_set hz with hz|rfl
 ·rcases List.mem_or_eq_of_mem_set hz with hz|rfl
  ·exact h z hz
  ·exact h _ (aS hy)
 ·exact h _ (aS hx)
theorem yq {p:Int→Bool} (hx:l[i]? =some x) (h:p x=true):(l.take (i+1)).filter p=(l.take i).filter p++[x]:=by
 rw [mx hx,List.filter_append]; simp [h]
theorem Gg {p:Int→Bool} (hx:l[i]? =some x) (h:p x=false):(l.take (i+1)).filter p=(l.take i).filter p:=by
 rw [mx hx,List.filter_append]; simp [h]
end
section
variable {r:bY} {h:Int} {n:Nat}
theorem E9 (e: ¬ cV r=0):i_ r h=cV r:=if_neg e
theorem Ed (e:cV r=0) (q: ¬ (0≤h∧h≤(r.ao.length:Int))):i_ r h=2:=by unfold i_; rw [if_pos e,if_neg q]
theorem z7 (e:cV r=0) (q:0≤h∧h≤(r.ao.length:Int)):i_ r h=0:=by unfold i_; rw [if_pos e,if_pos q]
theorem EH (hd:r.bL.length≤12):(il r h).length≤12:=by
 unfold il
 split
 ·split
  ·exact hd
  ·unfold uR
   simp only [ku,kK]
   exact Nat.le_trans (List.length_filter_le _ _) hd
 ·simp
theorem zK (e: ¬ i_ r h=0):il r h=[]:=if_neg e
theorem v_ (e:i_ r h=0) (q:h=0):il r h=r.bL:=by unfold il; rw [if_pos e,if_pos q]
theorem v7 (e:i_ r (n:Int)=0) (q: ¬ (n:Int)=0):il r (n:Int)=uR r n:=by unfold il; rw [if_pos e,if_neg q,Int.toNat_natCast]
theorem z6 {k:Nat} {l:List Int} (hl:l=eN (fun i=>(aC (eL r n) i).Hi) (r.bL.filter fun i=>((eL r n).lookup i).isSome)) (hk:k=min r.gZ.toNat l.length):sQ k l=uR r n:=by subst hl; subst hk; rfl
theorem Un {m:g0} {l:List Int} (hb: ∀ p∈m,0≤p.2.Lo∧p.2.Lo≤p.2.Hi∧p.2.Hi≤30000000): ∀ x∈l,0≤(aC m x).Hi∧(aC m x).Hi≤30000000:=fun x _=>by have:=g6 (i:=x) hb; omega
theorem Ts {m:g0} {l:List Int} (hb: ∀ p∈m,0≤p.2.Lo∧p.2.Lo≤p.2.Hi∧p.2.Hi≤30000000): ∀ x∈l,0≤(aC m x).Lo∧(aC m x).Lo≤30000000:=fun x _=>by have:=g6 (i:=x) hb; omega
end
end
section
def L4 (f:Int→aa) (g:List Int):Prop:= ∀ t,(∃ a∈g,(f a).Lo<t)→(∃ b∈g,t≤(f b).Lo)→ ∃ c∈g,(f c).Lo<t∧t≤(f c).Hi
def KV (f:Int→aa) (g h:List Int):Prop:= ∀ a∈g,∀ b∈h,(f a).Hi<(f b).Lo
structure iH (f:Int→aa) (keys:List Int) (G:List (List Int)):Prop where
 perm:G.flatten.Perm keys
 some_: ∀ g∈G,g≠[]
 apart:G.Pairwise (KV f)
 tight: ∀ g∈G,L4 f g
def De (G:List (List Int)):Prop:= ∀ g∈G,g.Pairwise (· ≤ ·)
section
variable {f:Int→aa} {keys:List Int} {G G':List (List Int)} {g h:List Int} {x:Int}
theorem xK: ∀ {g:List Int},g≠[]→ ∃ a∈g,∀ b∈g,(f a).Lo≤(f b).Lo
 |[],h=>absurd rfl h
 |[a],_=>⟨a,sm,fun b hb=>by simp at hb; subst hb; omega⟩
 |a::b::g,_=>by
  obtain ⟨c,hc,hm⟩:=xK (g:=b::g) sm
  rcases Int.le_total (f a).Lo (f c).Lo with q|q
  ·refine ⟨a,sm,fun d hd=>?_⟩
   rcases bE.1 hd with rfl|hd
   ·omega
   ·have:=hm d hd; omega
  ·refine ⟨c,c_ _ hc,fun d hd=>?_⟩
   rcases bE.1 hd with rfl|hd
   ·exact q
   ·exact hm d hd
/-- the first group is what no cut parts from the least -/
theorem rZ (hf: ∀ i∈keys,(f i).Lo≤(f i).Hi) (h:iH f keys (g::G)) {a:Int} (ha:a∈keys) (hm: ∀ b∈keys,(f a).Lo≤(f b).Lo) {b:Int} (hb:b∈keys):b∈g↔ ∀ t,(f a).Lo<t→t≤(f b).Lo→ ∃ c∈keys,(f c).Lo<t∧t≤(f c).Hi:=by
 have hk: ∀ x,x∈keys↔x∈g∨x∈G.flatten:=fun x=>by rw [← h.perm.mem_iff,List.flatten_cons,dQ]
 have A:=List.pairwise_cons.1 h.apart
 have B:a∈g:=by
  rcases (hk a).1 ha with q|q
  ·exact q
  ·obtain ⟨y,hy⟩:=List.exists_mem_of_ne_nil _ (h.some_ g bZ)
   obtain ⟨g',hg',hag'⟩:=List.mem_flatten.1 q
   have F:=A.1 g' hg' y hy a hag'
   have H:=hm y ((hk y).2 (.inl hy))
   have E:=hf y ((hk y).2 (.inl hy))
   omega
 constructor
 ·intro AA t F H
  obtain ⟨c,hc,E⟩:=h.tight g bZ t ⟨a,B,F⟩ ⟨b,AA,H⟩
  exact ⟨c,(hk c).2 (.inl hc),E⟩
 ·intro C
  rcases (hk b).1 hb with q|q
  ·exact q
  ·exfalso
   obtain ⟨d,hd,D⟩:=xK (f:=f) (g:=G.flatten) (fun e=>by rw [e] at q; cases q)
   obtain ⟨g',hg',hdg'⟩:=List.mem_flatten.1 hd
   have F:=A.1 g' hg' a B d hdg'
   have H:=hf a ha
   have E:=D b q
   obtain ⟨c,hc,K,L⟩:=C (f d).Lo I E
   rcases (hk c).1 hc with J|J
   ·have:=A.1 g' hg' c J d hdg'; omega
   ·have:=D c J; omega
theorem wi (h:iH f keys (g::G)):iH f G.flatten G:=
 ⟨List.Perm.refl _,fun x hx=>h.some_ x (c_ _ hx),(List.pairwise_cons.1 h.apart).2,fun x hx=>h.tight x (c_ _ hx)⟩
theorem qH {k2:List Int} (h:iH f keys G) (p:keys.Perm k2):iH f k2 G:=⟨h.perm.trans p,h.some_,h.apart,h.tight⟩
theorem sK: ∀ {G G':List (List Int)} {keys:List Int},keys.Nodup→(∀ i∈keys,(f i).Lo≤(f i).Hi)→iH f keys G→iH f keys G'→De G→De G'→G=G'
 |[],[],keys,_,_,_,_,_,_=>rfl
 |[],g'::G',keys,_,_,h,h',_,_=>by
  exfalso
  have F:keys=[]:=List.Perm.eq_nil (by simpa using h.perm.symm)
  subst F
  have:=h'.perm.eq_nil
  simp at this
  exact h'.some_ g' bZ this.1
 |g::G,[],keys,_,_,h,h',_,_=>by
  exfalso
  have F:keys=[]:=List.Perm.eq_nil (by simpa using h'.perm.symm)
  subst F
  have:=h.perm.eq_nil
  simp at this
  exact h.some_ g bZ this.1
 |g::G,g'::G',keys,hn,hf,h,h',ha,ha'=>by
  have H:keys≠[]:=fun e=>by
   subst e
   have:=h.perm.eq_nil
   simp at this
   exact h.some_ g bZ this.1
  obtain ⟨a,A,B⟩:=xK (f:=f) H
  have D:=h.perm.nodup_iff.2 hn
  have E:=h'.perm.nodup_iff.2 hn
  rw [List.flatten_cons,List.nodup_append] at D E
  have Ar: ∀ b∈g,b∈keys:=fun b hb=>h.perm.mem_iff.1 (by rw [List.flatten_cons]; exact List.mem_append_left _ hb)
  have C: ∀ b∈g',b∈keys:=fun b hb=>h'.perm.mem_iff.1 (by rw [List.flatten_cons]; exact List.mem_append_left _ hb)
  have e:g=g':=by
   refine pw (ha g bZ) (ha' g' bZ) D.1 E.1 fun b=>?_
   constructor
   ·intro hb
    exact (rZ hf h' A B (Ar b hb)).2 ((rZ hf h A B (Ar b hb)).1 hb)
   ·intro hb
    exact (rZ hf h A B (C b hb)).2 ((rZ hf h' A B (C b hb)).1 hb)
  subst e
  have p:G.flatten.Perm G'.flatten:=by
   have:=h.perm.trans h'.perm.symm
   rw [List.flatten_cons,List.flatten_cons] at this
   exact (List.perm_append_left_iff g).1 this
  rw [sK (G:=G) (G':=G') D.2.1 (fun i hi=>hf i (h.perm.mem_iff.1 (by rw [List.flatten_cons]; exact List.mem_append_right _ hi))) (wi h) (qH (wi h') p.symm) (fun x hx=>ha x (c_ _ hx)) (fun x hx=>ha' x (c_ _ hx))]
/-- groups, each one put in order -/
theorem vG (h:iH f keys G):iH f keys (G.map dA)∧De (G.map dA):=by
 have hp: ∀ G:List (List Int),(G.map dA).flatten.Perm G.flatten:=fun G=>by
  induction G with
  |nil=>simp
  |cons g G ih=>simp only [List.map_cons,List.flatten_cons]; exact fp.append ih
 have hm: ∀ {g:List Int} {x:Int},x∈dA g↔x∈g:=fp.mem_iff
 refine ⟨⟨(hp G).trans h.perm,fun g hg=>?_,?_,fun g hg=>?_⟩,fun g hg=>?_⟩
 ·obtain ⟨y,hy,rfl⟩:=bW.1 hg
  intro e
  have:=(fp (l:=y)).symm
  rw [e] at this
  exact h.some_ y hy this.eq_nil
 ·rw [List.pairwise_map]
  exact h.apart.imp fun q a ha b hb=>q a (hm.1 ha) b (hm.1 hb)
 ·obtain ⟨y,hy,rfl⟩:=bW.1 hg
  rintro t ⟨a,ha,A⟩ ⟨b,hb,B⟩
  obtain ⟨c,hc,C⟩:=h.tight y hy t ⟨a,hm.1 ha,A⟩ ⟨b,hm.1 hb,B⟩
  exact ⟨c,hm.2 hc,C⟩
 ·obtain ⟨y,hy,rfl⟩:=bW.1 hg
  exact ks
end
/-- so far: groups, and the greatest of all -/
structure mK (f:Int→aa) (p:List Int) (G:List (List Int)) (last:Int):Prop where
 ok:iH f p G
 RH: ∀ a∈p,(f a).Hi≤last
 at_:p=[]∧last= -1∨ ∃ a∈p,(f a).Hi=last
section
variable {f:Int→aa} {p:List Int} {G:List (List Int)} {g:List Int} {x last:Int}
theorem FQ:mK f [] [] (-1):=⟨⟨sm,fun g hg=>(by cases hg),List.Pairwise.nil,fun g hg=>by cases hg⟩,fun a ha=>(by cases ha),.inl ⟨rfl,rfl⟩⟩
theorem G5:L4 f [x]:=by
 rintro t ⟨a,ha,A⟩ ⟨b,hb,B⟩
 simp at ha hb; subst ha hb; omega
theorem rW (h0: -1≤(f x).Hi) (h:mK f p G last):(∀ a∈p++[x],(f a).Hi≤max last (f x).Hi)∧((p++[x])=[]∧max last (f x).Hi= -1∨ ∃ a∈p++[x],(f a).Hi=max last (f x).Hi):=by
 refine ⟨fun a ha=>?_,.inr ?_⟩
 ·rcases dQ.1 ha with ha|ha
  ·have:=h.RH a ha; omega
  ·rw [bP] at ha; subst ha; omega
 ·rcases Int.le_total last (f x).Hi with q|q
  ·exact ⟨x,sm,I⟩
  ·rcases h.at_ with ⟨rfl,e⟩|⟨a,ha,e⟩
   ·exact ⟨x,sm,I⟩
   ·exact ⟨a,List.mem_append_left _ ha,I⟩
theorem OK (h0: -1≤(f x).Hi) (h:mK f p G last) (hl:last<(f x).Lo):mK f (p++[x]) (G++[[x]]) (max last (f x).Hi):=by
 have A: ∀ y∈G,∀ a∈y,a∈p:=fun y hy a ha=>h.ok.perm.mem_iff.1 (List.mem_flatten.2 ⟨y,hy,ha⟩)
 refine ⟨⟨?_,fun y hy=>?_,?_,fun y hy=>?_⟩,(rW h0 h).1,(rW h0 h).2⟩
 ·rw [List.flatten_append]
  exact h.ok.perm.append sm
 ·rcases dQ.1 hy with hy|hy
  ·exact h.ok.some_ y hy
  ·rw [bP] at hy; subst hy; simp
 ·rw [List.pairwise_append]
  refine ⟨h.ok.apart,List.pairwise_singleton _ _,fun y hy z hz a ha b hb=>?_⟩
  rw [bP] at hz; subst hz
  rw [bP] at hb; subst hb
  have:=h.RH a (A y hy a ha); omega
 ·rcases dQ.1 hy with hy|hy
  ·exact h.ok.tight y hy
  ·rw [bP] at hy; subst hy; exact G5
theorem Ke (h0: -1≤(f x).Hi) (hf: ∀ i∈p,(f i).Lo≤(f i).Hi) (hx: ∀ a∈p,(f a).Lo≤(f x).Lo) (h:mK f p (G++[g]) last) (hl: ¬ last<(f x).Lo):mK f (p++[x]) (G++[g++[x]]) (max last (f x).Hi):=by
 have A: ∀ y∈G++[g],∀ a∈y,a∈p:=fun y hy a ha=>h.ok.perm.mem_iff.1 (List.mem_flatten.2 ⟨y,hy,ha⟩)
 have C:=List.pairwise_append.1 h.ok.apart
 have B:=h.ok.some_ g sm
 refine ⟨⟨?_,fun y hy=>?_,?_,fun y hy=>?_⟩,(rW h0 h).1,(rW h0 h).2⟩
 ·have:=h.ok.perm
  rw [List.flatten_append] at this ⊢
  simp only [List.flatten_cons,List.flatten_nil,List.append_nil] at this ⊢
  rw [← List.append_assoc]
  exact this.append_right _
 ·rcases dQ.1 hy with hy|hy
  ·exact h.ok.some_ y (List.mem_append_left _ hy)
  ·rw [bP] at hy; subst hy; simp
 ·rw [List.pairwise_append]
  refine ⟨C.1,List.pairwise_singleton _ _,fun y hy z hz a ha b hb=>?_⟩
  rw [bP] at hz; subst hz
  rcases dQ.1 hb with hb|hb
  ·exact C.2.2 y hy g sm a ha b hb
  ·rw [bP] at hb; subst hb
   obtain ⟨c,hc⟩:=List.exists_mem_of_ne_nil _ B
   have K:=C.2.2 y hy g sm a ha c hc
   have H:=hx c (A g sm c hc)
   omega
 ·rcases dQ.1 hy with hy|hy
  ·exact h.ok.tight y (List.mem_append_left _ hy)
  ·rw [bP] at hy; subst hy
   rintro t ⟨a,ha,K⟩ ⟨b,hb,H⟩
   by_cases D: ∃ b∈g,t≤(f b).Lo
   ·obtain ⟨b',hb',L⟩:=D
    have AA:a∈g:=by
     rcases dQ.1 ha with q|q
     ·exact q
     ·rw [bP] at q; subst q
      have:=hx b' (A g sm b' hb'); omega
    obtain ⟨c,hc,M⟩:=h.ok.tight g sm t ⟨a,AA,K⟩ ⟨b',hb',L⟩
    exact ⟨c,List.mem_append_left _ hc,M⟩
   ·have J: ∀ c∈g,(f c).Lo<t:=fun c hc=>by
     refine Classical.byContradiction fun q=>D ⟨c,hc,I⟩
    have N:t≤(f x).Lo:=by
     rcases dQ.1 hb with q|q
     ·exact absurd ⟨b,q,H⟩ D
     ·rw [bP] at q; subst q; exact H
    rcases h.at_ with ⟨e,_⟩|⟨c,hc,e⟩
    ·exfalso
     obtain ⟨c,hc⟩:=List.exists_mem_of_ne_nil _ B
     have:=A g sm c hc
     rw [e] at this; cases this
    ·have E:c∈g:=by
      obtain ⟨y,hy,F⟩:=List.mem_flatten.1 (h.ok.perm.mem_iff.2 hc)
      rcases dQ.1 hy with hy|hy
      ·exfalso
       obtain ⟨d,hd⟩:=List.exists_mem_of_ne_nil _ B
       have L:=C.2.2 y hy g sm c F d hd
       have M:=hf d (A g sm d hd)
       have O:=h.RH d (A g sm d hd)
       omega
      ·rw [bP] at hy; subst hy; exact F
     exact ⟨c,List.mem_append_left _ E,J c E,I⟩
theorem JU (h:mK f p G last) (hp:p≠[]):G≠[]:=fun e=>by
 subst e
 exact hp (by simpa using h.ok.perm.symm.eq_nil)
end
end
section
open Go.RowKit
/-- a map, or nil -/
def oC (o:Option Nat):List Value:=[Value.map o]
theorem Bd {α:Type}: ∀ {ms:List α} {asl:List Nat},ms.length=asl.length→List.zipWith gS ms asl=(asl.map some).map oC
 |[],[],_=>rfl
 |[],_::_,h=>by simp at h
 |_::_,[],h=>by simp at h
 |x::ms,y::asl,h=>by simp only [List.zipWith_cons_cons,List.map_cons,Bd (ms:=ms) (asl:=asl) (by simpa using h)]; rfl
/-- what stands for all but one -/
def fJ {M A:Type} (f:M→A→List aw) (ms:List M) (asl:List A) (k:Nat):List aw:=aU f (ms.take k) (asl.take k)++aU f (ms.drop (k+1)) (asl.drop (k+1))
theorem k9 {M A:Type} {f:M→A→List aw}: ∀ {ms:List M} {asl:List A} {k:Nat} {m:M} {a:A},ms[k]? =some m→asl[k]? =some a→(aU f ms asl).Perm (f m a++fJ f ms asl k)
 |[],_,k,m,a,h,_=>by simp at h
 |_::_,[],k,m,a,_,h=>by simp at h
 |x::ms,y::asl,0,m,a,h,h2=>by
  simp at h h2; subst h h2
  simp [fJ,aU]
 |x::ms,y::asl,k+1,m,a,h,h2=>by
  have ih:=k9 (f:=f) (ms:=ms) (asl:=asl) (k:=k) (by simpa using h) (by simpa using h2)
  show (f x y++aU f ms asl).Perm (f m a++fJ f (x::ms) (y::asl) (k+1))
  have e:fJ f (x::ms) (y::asl) (k+1)=f x y++fJ f ms asl k:=by simp [fJ,aU,List.append_assoc]
  rw [e]
  refine (ih.append_left (f x y)).trans ?_
  rw [← List.append_assoc,← List.append_assoc]
  exact List.perm_append_comm.append_right _
theorem IH {M A:Type} {f:M→A→List aw} {ms:List M} {asl:List A} {k:Nat} {m':M}:fJ f (ms.set k m') asl k=fJ f ms asl k:=by
 unfold fJ
 rw [List.take_set_of_le (Nat.le_refl k),List.drop_set_of_lt (Nat.lt_succ_self k)]
theorem lk {S:BS} {w0 w:World} {C X Y:List aw} (hp:X.Perm Y) (h:St S w0 (bB X::C) w):St S w0 (bB Y::C) w:=by
 have A:St S w0 (X++C) w:=h.iz
 exact (A.perm (hp.append_right C)).tied
theorem St.out {M A:Type} {f:M→A→List aw} {S:BS} {w0 w:World} {C:List aw} {ms:List M} {asl:List A} {k:Nat} {m:M} {a:A} {X:aw} (hm:ms[k]? =some m) (ha:asl[k]? =some a) (hf:f m a=[X]) (h:St S w0 (bB (aU f ms asl)::C) w):St S w0 (X::bB (fJ f ms asl k)::C) w:=by
 have B:=(lk (k9 hm ha) h).iz
 rw [hf] at B
 have D:St S w0 (fJ f ms asl k++(X::C)) w:=B.perm (List.perm_middle (a:=X) (l₁:=fJ f ms asl k) (l₂:=C)).symm
 exact D.tied.perm (List.Perm.swap _ _ _)
theorem St.back {M A:Type} {f:M→A→List aw} {S:BS} {w0 w:World} {C:List aw} {ms:List M} {asl:List A} {k:Nat} {m':M} {a:A} {X:aw} (hk:k<ms.length) (ha:asl[k]? =some a) (hf:f m' a=[X]) (h:St S w0 (X::bB (fJ f ms asl k)::C) w):St S w0 (bB (aU f (ms.set k m') asl)::C) w:=by
 have B:St S w0 (bB (fJ f ms asl k)::X::C) w:=h.perm (List.Perm.swap _ _ _)
 have D:=B.iz
 have E:St S w0 ((f m' a++fJ f (ms.set k m') asl k)++C) w:=by
  rw [hf,IH]
  exact D.perm (List.perm_middle (a:=X) (l₁:=fJ f ms asl k) (l₂:=C))
 exact lk (k9 (List.getElem?_set_self hk) ha).symm E.tied
section
variable {E:fq} {ops:Array Oper} {Q:dk} {rest:List Oper} {D:List Deferred} {L:List (Nat×Value)} {C C1:List aw}
variable {M A:Type} {f:M→A→List aw} {ms:List M} {asl:List A} {k:Nat} {m:M} {a:A} {X:aw}
theorem GH {c:Code} (i:Nat) (hm:ms[k]? =some m) (ha:asl[k]? =some a) (hf:f m a=[X]) (hn:decide (i::(List.range C.length).filter fun k=>k != i).Nodup=true) (hC:kF C (i::(List.range C.length).filter fun k=>k != i)=bB (aU f ms asl)::C1)
 (h:WJ E c Q D L (X::bB (fJ f ms asl k)::C1)):WJ E c Q D L C:=fun a w hf' hs=>h a w hf' (St.out hm ha hf (St.kF _ hn hC hs))
theorem Kb {K:Act→World→Prop} (i j:Nat) (hk:k<ms.length) (ha:asl[k]? =some a) (hf:f m a=[X]) (hn:decide (j::i::(List.range C.length).filter fun k=>k != i&&k != j).Nodup=true) (hC:kF C (j::i::(List.range C.length).filter fun k=>k != i&&k != j)=X::bB (fJ f ms asl k)::C1)
 (h:KJ E K D L (bB (aU f (ms.set k m) asl)::C1)):KJ E K D L C:=fun a w hf' hs=>h a w hf' (St.back hk ha hf (St.kF _ hn hC hs))
end
end
section
open Go.RowKit
def nI (l:List Int) (a:RA):List Value:=[vS a.1 l.length a.2]
def RO (l:List Int) (a:RA):List aw:=[rd a.1 l.length 1 (l.map iC)]
def tF (l:List Int) (a:RA):List aw:=[own a.1 a.2 Ux 1 (l.map iC)]
theorem GP: ∀ (m:List Int) (a:RA) (w:World),(∀ X∈tF m a,X.holds w)→ ∀ X∈RO m a,X.holds w:=fun m a w h X hX=>by
 simp only [RO,bP] at hX
 subst hX
 have:=ob (h _ (bP.2 rfl))
 simpa using this
theorem JV {l:List (List Int)} {bz:List RA}:(bB (aU tF l bz)).wr=true:=by
 show (aU tF l bz).all (·.wr)=true
 rw [cZ]
 intro X hX
 obtain ⟨k,m,a,_,_,h⟩:=jX hX
 simp only [tF,bP] at h
 subst h; rfl
theorem lD {ls:List (List Int)} {az:List RA} (h:az.length=ls.length):(List.zipWith nI ls az).length=ls.length:=by simp [h]
theorem N3 (l:List (List Int)) (az:List RA): ∀ v∈(List.zipWith nI l az).flatten,v.oneCell'=true:=by
 induction l generalizing az with
 |nil=>intro v hv; simp at hv
 |cons x l ih=>
  cases az with
  |nil=>intro v hv; simp at hv
  |cons a az=>
   intro v hv
   rw [List.zipWith_cons_cons,List.flatten_cons,dQ] at hv
   rcases hv with hv|hv
   ·simp [nI] at hv; subst hv; rfl
   ·exact ih az v hv
section
variable {M A:Type} {f:M→A→List aw} {ms:List M} {asl:List A} {k:Nat} {m:M} {a:A} {X:aw}
theorem td:fJ f (ms.set k m) (asl.set k a) k=fJ f ms asl k:=by
 unfold fJ
 rw [List.take_set_of_le (Nat.le_refl k),List.drop_set_of_lt (Nat.lt_succ_self k),List.take_set_of_le (Nat.le_refl k),List.drop_set_of_lt (Nat.lt_succ_self k)]
theorem St.RZ {S:BS} {w0 w:World} {C:List aw} (hk:k<ms.length) (hk2:k<asl.length) (hf:f m a=[X]) (h:St S w0 (X::bB (fJ f ms asl k)::C) w):St S w0 (bB (aU f (ms.set k m) (asl.set k a))::C) w:=by
 have A:St S w0 (bB (fJ f ms asl k)::X::C) w:=h.perm (List.Perm.swap _ _ _)
 have B:=A.iz
 have D:St S w0 ((f m a++fJ f (ms.set k m) (asl.set k a) k)++C) w:=by
  rw [hf,td]
  exact B.perm (List.perm_middle (a:=X) (l₁:=fJ f ms asl k) (l₂:=C))
 exact lk (k9 (List.getElem?_set_self hk) (List.getElem?_set_self hk2)).symm D.tied
theorem o6 {β:Type} {c:M→A→β}:(List.zipWith c ms asl).set k (c m a)=List.zipWith c (ms.set k m) (asl.set k a):=by
 apply List.ext_getElem?
 intro j
 rw [List.getElem?_set]
 by_cases e:k=j
 ·subst e
  rw [if_pos rfl,List.length_zipWith,List.getElem?_zipWith,List.getElem?_set,List.getElem?_set,if_pos rfl,if_pos rfl]
  by_cases B:k<ms.length
  ·by_cases C:k<asl.length
   ·rw [if_pos I,if_pos B,if_pos C]
   ·rw [if_neg I,if_pos B,if_neg C]
  ·rw [if_neg I,if_neg B]
 ·rw [if_neg e,List.getElem?_zipWith,List.getElem?_zipWith,List.getElem?_set_ne e,List.getElem?_set_ne e]
variable {E:fq} {ops:Array Oper} {Q:dk} {rest:List Oper} {D:List Deferred} {L:List (Nat×Value)} {C C1:List aw}
abbrev BU (C:List aw) (i j:Nat):List Nat:=j::i::(List.range C.length).filter fun k=>k != i&&k != j
abbrev H7 (C:List aw) (i:Nat):List Nat:=i::(List.range C.length).filter fun k=>k != i
theorem FP (i j:Nat) (hk:k<ms.length) (hk2:k<asl.length) (hf:f m a=[X]) (hn:decide (BU C i j).Nodup=true) (hC:lU C (BU C i j)=some (X::bB (fJ f ms asl k)::C1))
 (h:RJ E ops Q rest D L (bB (aU f (ms.set k m) (asl.set k a))::C1)):RJ E ops Q rest D L C:=fun a w hf' hs=>h a w hf' (St.RZ hk hk2 hf (St.kF _ hn (jz hC) hs))
theorem E3 {c:Code} (i:Nat) (hm:ms[k]? =some m) (ha:asl[k]? =some a) (hf:f m a=[X]) (hn:decide (H7 C i).Nodup=true) (hC:lU C (H7 C i)=some (bB (aU f ms asl)::C1))
 (h:WJ E c Q D L (X::bB (fJ f ms asl k)::C1)):WJ E c Q D L C:=fun a w hf' hs=>h a w hf' (St.out hm ha hf (St.kF _ hn (jz hC) hs))
theorem Np {K:Act→World→Prop} (i j:Nat) (hk:k<ms.length) (ha:asl[k]? =some a) (hf:f m a=[X]) (hn:decide (BU C i j).Nodup=true) (hC:lU C (BU C i j)=some (X::bB (fJ f ms asl k)::C1))
 (h:KJ E K D L (bB (aU f (ms.set k m) asl)::C1)):KJ E K D L C:=fun a w hf' hs=>h a w hf' (St.back hk ha hf (St.kF _ hn (jz hC) hs))
theorem QN {Y Y':List aw} (i j:Nat) (hn:decide (BU C i j).Nodup=true) (hC:lU C (BU C i j)=some (X::bB Y::C1)) (e:Y++[X]=Y') (h:RJ E ops Q rest D L (bB Y'::C1)):RJ E ops Q rest D L C:=fun a w hf hs=>h a w hf ((St.kF _ hn (jz hC) hs).tie e)
theorem Fu {K:Act→World→Prop} {Y Y':List aw} (i j:Nat) (hn:decide (BU C i j).Nodup=true) (hC:lU C (BU C i j)=some (X::bB Y::C1)) (e:Y++[X]=Y') (h:KJ E K D L (bB Y'::C1)):KJ E K D L C:=fun a w hf hs=>h a w hf ((St.kF _ hn (jz hC) hs).tie e)
end
theorem E6 {M A:Type} {f:M→A→List aw} {ms:List M} {asl:List A} {m:M} {a:A} {X:aw} (h:ms.length=asl.length) (hf:f m a=[X]):aU f ms asl++[X]=aU f (ms++[m]) (asl++[a]):=by
 rw [jt h]; simp [aU,hf]
theorem HS {M A β:Type} {f:M→A→β} {ms:List M} {asl:List A} {m:M} {a:A} (h:ms.length=asl.length):List.zipWith f ms asl++List.zipWith f [m] [a]=List.zipWith f (ms++[m]) (asl++[a]):=(List.zipWith_append h).symm
theorem mh {r:bY} {k:Nat}:((eL r k).map (·.1)).Nodup:=by
 unfold eL
 rw [List.map_filterMap]
 refine List.Pairwise.filterMap _ ?_ (List.nodup_range (n:=r.aK.length))
 intro a b A x hx y hy e
 subst e
 simp only [Option.map_map,Option.map_eq_some_iff,Function.comp] at hx hy
 obtain ⟨_,_,rfl⟩:=hx
 obtain ⟨_,_,h⟩:=hy
 exact A I
noncomputable def dU (r:bY):List (List Int):=if cV r=0 then Classical.epsilon (fun G=>iH (aC (ax r)) ((ax r).map (·.1)) G∧De G) else []
theorem BJ {r:bY} (h: ¬ cV r=0):dU r=[]:=if_neg h
theorem ux {r:bY} {G:List (List Int)} (he:cV r=0) (h1:iH (aC (ax r)) ((ax r).map (·.1)) G) (h2:De G):G=dU r:=by
 unfold dU
 rw [if_pos he]
 have A:=Classical.epsilon_spec (p:=fun G=>iH (aC (ax r)) ((ax r).map (·.1)) G∧De G) ⟨G,h1,h2⟩
 exact sK mh (fun i hi=>(g6 (nZ he)).2.1) h1 A.1 h2 A.2
section
variable {f:Int→aa} {L:List Int} {G:List (List Int)} {g:List Int} {x last:Int} {i j:Nat}
theorem AD (h:mK f (L.take i) G last) (hg:g∈G):g.length≤L.length:=by
 have A:=h.ok.perm.length_eq
 have B:g.length≤G.flatten.length:=(List.sublist_flatten_of_mem hg).length_le
 rw [List.length_take] at A; omega
theorem Gf (h:mK f (L.take i) G last):G.length≤L.length:=by
 have A:=h.ok.perm.length_eq
 have B: ∀ G:List (List Int),(∀ g∈G,g≠[])→G.length≤G.flatten.length:=fun G=>by
  induction G with
  |nil=>intro _; simp
  |cons g G ih=>
   intro hG
   have C:=ih fun y hy=>hG y (c_ _ hy)
   have D:=List.length_pos_iff.2 (hG g bZ)
   simp only [List.flatten_cons,List.length_cons,List.length_append]; omega
 have C:=B G h.ok.some_
 rw [List.length_take] at A; omega
theorem pU (h0: -1≤(f x).Hi) (hx:L[i]? =some x) (hg:(G++[[]])[(G++[([]:List Int)]).length-1]? =some g) (h:mK f (L.take i) G last) (hl:last<(f x).Lo):mK f (L.take (i+1)) ((G++[[]]).set ((G++[([]:List Int)]).length-1) (g++[x])) (max last (f x).Hi):=by
 have A:(G++[([]:List Int)]).length-1=G.length:=by simp
 rw [A] at hg ⊢
 simp at hg
 subst hg
 rw [mx hx]
 have B:(G++[([]:List Int)]).set G.length ([]++[x])=G++[[x]]:=by simp
 rw [B]
 exact OK h0 h hl
theorem oV (h0: -1≤(f x).Hi) (hf: ∀ i∈L,(f i).Lo≤(f i).Hi) (hup:En (fun u=>(f u).Lo) L) (hx:L[i]? =some x) (hg:G[G.length-1]? =some g) (h:mK f (L.take i) G last) (hl: ¬ last<(f x).Lo):mK f (L.take (i+1)) (G.set (G.length-1) (g++[x])) (max last (f x).Hi):=by
 obtain ⟨A,F⟩:=aX.1 hg
 obtain ⟨G',y,rfl⟩: ∃ G' y,G=G'++[y]:=⟨G.dropLast,G.getLast (by intro e; subst e; simp at A),(List.dropLast_concat_getLast _).symm⟩
 have D:(G'++[y]).length-1=G'.length:=by simp
 simp only [D] at hg ⊢
 simp at hg
 subst hg
 have E:(G'++[y]).set G'.length (y++[x])=G'++[y++[x]]:=by simp
 rw [mx hx,E]
 refine Ke h0 (fun i hi=>hf i (List.mem_of_mem_take hi)) (fun a ha=>?_) h hl
 obtain ⟨C,B⟩:=aX.1 hx
 obtain ⟨q,hq,rfl⟩:=List.mem_iff_getElem.1 ha
 rw [List.length_take] at hq
 rw [List.getElem_take]
 have:=eW.1 hup q i I C I
 rw [B] at this
 exact this
theorem F0 (hlo:0≤(f x).Lo) (h:mK f (L.take i) G last) (hl: ¬ last<(f x).Lo):1≤G.length:=by
 rcases h.at_ with ⟨_,e⟩|⟨a,ha,_⟩
 ·omega
 ·exact List.length_pos_iff.2 (JU h (fun e=>by rw [e] at ha; cases ha))
/-- the first groups are in order -/
def nM (G:List (List Int)) (j:Nat):List (List Int):=(G.take j).map dA++G.drop j
theorem EY (h:G.length≤j):nM G j=G.map dA:=by unfold nM; rw [List.take_of_length_le h,List.drop_eq_nil_of_le h,List.append_nil]
theorem Fy:(nM G j).length=G.length:=by unfold nM; rw [List.length_append,List.length_map,List.length_take,List.length_drop]; omega
theorem Io (h:G[j]? =some g):(nM G j)[j]? =some g:=by
 have hj:=(aX.1 h).1
 unfold nM
 rw [List.getElem?_append_right (by rw [List.length_map,List.length_take]; omega),List.length_map,List.length_take,Nat.min_eq_left I,Nat.sub_self,List.getElem?_drop]
 simpa using h
theorem Ee (h:G[j]? =some g):(nM G j).set j (dA g)=nM G (j+1):=by
 have hj:=(aX.1 h).1
 unfold nM
 rw [List.set_append_right _ _ (by rw [List.length_map,List.length_take]; omega),List.length_map,List.length_take,Nat.min_eq_left I,Nat.sub_self,List.drop_eq_getElem_cons hj,List.set_cons_zero,List.take_add_one,h]
 simp
theorem L_ {gz:List RA}:List.zipWith nI (G.map dA) gz=List.zipWith nI G gz:=by
 induction G generalizing gz with
 |nil=>rfl
 |cons g G ih=>
  cases gz with
  |nil=>rfl
  |cons a gz=>simp only [List.map_cons,List.zipWith_cons_cons,ih]; simp [nI]
end
end
section
open Go.RowKit
theorem xV (l:List aq) (az:List RA): ∀ v∈(List.zipWith aq.cells l az).flatten,v.oneCell'=true:=by
 induction l generalizing az with
 |nil=>intro v hv; simp at hv
 |cons x l ih=>
  cases az with
  |nil=>intro v hv; simp at hv
  |cons a az=>
   intro v hv
   rw [List.zipWith_cons_cons,List.flatten_cons,dQ] at hv
   rcases hv with hv|hv
   ·simp [aq.cells,dh.cells] at hv
    rcases hv with rfl|rfl<;>rfl
   ·exact ih az v hv
theorem fr {l:List aq} {az:List RA} (h:az.length=l.length):(List.zipWith aq.cells l az).length=l.length:=by simp [h]
/-- addresses, of which some are new -/
def sD (bz az:List RA) (i:Nat):List RA:=bz++az.drop i
theorem re {bz az:List RA} {i:Nat} (hb:bz.length=i) (hi:i≤az.length):(sD bz az i).length=az.length:=by simp [sD,hb]; omega
theorem L7 {bz az:List RA} {i:Nat} (h:az.length≤i):sD bz az i=bz:=by unfold sD; rw [List.drop_eq_nil_of_le h,List.append_nil]
theorem FK {bz az:List RA} {i:Nat} {a:RA} (hb:bz.length=i) (h:az[i]? =some a):(sD bz az i)[i]? =some a:=by
 unfold sD
 rw [List.getElem?_append_right I,hb,Nat.sub_self,List.getElem?_drop]
 simpa using h
theorem KX {bz az:List RA} {i:Nat} {a b:RA} (hb:bz.length=i) (h:az[i]? =some a):(sD bz az i).set i b=sD (bz++[b]) az (i+1):=by
 unfold sD
 have hi:=(aX.1 h).1
 rw [List.set_append_right _ _ I,hb,Nat.sub_self,List.drop_eq_getElem_cons hi,List.set_cons_zero]
 simp
theorem Nh {l:List aq} {bz az:List RA} {i:Nat} {x:aq} {xa nw:RA} (hx:l[i]? =some x) (hb:bz.length=i) (ha:az[i]? =some xa):
 (List.zipWith aq.cells l (sD bz az i)).set i (aq.cells x nw)=List.zipWith aq.cells l (sD (bz++[nw]) az (i+1)):=by
 rw [← KX hb ha]
 apply List.ext_getElem?
 intro k
 rw [List.getElem?_set]
 by_cases e:i=k
 ·subst e
  have A:=FK hb ha
  have B:=(aX.1 A).1
  have C:=(aX.1 hx).1
  rw [if_pos rfl,List.getElem?_zipWith,hx,List.getElem?_set_self B,if_pos (by simp; omega)]
 ·rw [if_neg e,List.getElem?_zipWith,List.getElem?_zipWith,List.getElem?_set_ne e]
theorem G_ {l:List aq} {bz:List RA} {i:Nat} {x:aq} {nw:RA} (hx:l[i]? =some x) (hb:bz.length=i):aU aq.owns (l.take i) bz++aq.owns x nw=aU aq.owns (l.take (i+1)) (bz++[nw]):=by
 have hi:=(aX.1 hx).1
 rw [List.take_add_one,hx,Option.toList_some,jt (by rw [List.length_take,hb]; omega)]
 simp [aU]
theorem fQ {l:List aq} {bz:List RA}:(bB (aU aq.owns l bz)).wr=true:=by
 show (aU aq.owns l bz).all (·.wr)=true
 rw [cZ]
 intro X hX
 obtain ⟨k,m,a,_,_,h⟩:=jX hX
 simp only [aq.owns,bP] at h
 subst h; rfl
/-- what is known of new rows -/
def oN (l:List aq) (bz:List RA):Prop:= ∀ (k:Nat) m (a:RA),l[k]? =some m→bz[k]? =some a→m.aV.length≤a.2
theorem Dg {l:List aq} {bz:List RA} {i:Nat} {x:aq} {nw:RA} (h:oN l bz) (hb:bz.length=i) (hx:l[i]? =some x) (hc:x.aV.length≤nw.2):oN l (bz++[nw]):=fun k m a hm ha=>by
 by_cases e:k<bz.length
 ·rw [List.getElem?_append_left e] at ha
  exact h k m a hm ha
 ·rw [List.getElem?_append_right I] at ha
  have hk:k-bz.length=0:=by
   rcases Nat.eq_zero_or_pos (k-bz.length) with A|A
   ·exact A
   ·rw [List.getElem?_eq_none (by simp; omega)] at ha; cases ha
  rw [hk] at ha
  simp at ha
  have:k=i:=by omega
  subst this
  rw [hx] at hm; cases hm
  subst ha; exact hc
theorem g7: ∀ (m:aq) (a:RA) (w:World),(∀ X∈aq.owns m a,X.holds w)→ ∀ X∈aq.gE m a,X.holds w:=fun m a w h X hX=>by
 simp only [aq.gE,bP] at hX
 subst hX
 have:=ob (h _ (bP.2 rfl))
 simpa using this
theorem ep.Q_ {l:bf} {az bz:List RA} (h:ep l az) (hb:bz.length=l.ah.length) (hc:oN l.ah bz):ep l bz:=⟨h.sx,h.side,h.sG,hb,h.sk,fun k m a hm ha=>⟨hc k m a hm ha,by
 obtain ⟨A,B⟩: ∃ A,az[k]? =some A:=⟨az[k]'(by rw [h.mW]; exact (aX.1 hm).1),e7 _⟩
 exact (h.RP k m A hm B).2⟩⟩
theorem w6 {x y:aq} {k:Nat} (h1:x.dv=y.dv) (h2:(x.aV.length:Int)=(y.aV.length:Int)) (hk:x.aV.length≤k) (h:x.aV.take k=y.aV.take k):x=y:=by
 cases x; cases y
 simp only [aq.mk.injEq] at *
 rw [List.take_of_length_le hk,List.take_of_length_le I] at h
 exact ⟨h1,h⟩
theorem gU {l m:bf} (h1:l.aL=m.aL) (h2:l.f_=m.f_) (h3:l.cq=m.cq) (h4:l.dM=m.dM) (h5:l.cD=m.cD) (h6:l.ah=m.ah) (h7:l.ae=m.ae):l=m:=by
 cases l; cases m; simp_all
section
variable {E:fq} {ops:Array Oper} {Q:dk} {rest:List Oper} {D:List Deferred} {L:List (Nat×Value)} {C:List aw}
theorem Ut {a:OA} {c e sz:Nat} {es:List (List Value)} (i:Nat) (hC:C[i]? =some (own a c e sz es)) (k:es.length≤c→RJ E ops Q rest D L C):RJ E ops Q rest D L C:=fun act w hf hs=>
 k (Be (hs.holds _ (aS hC))) act w hf hs
end
end
section
open Go.RowKit
def nz (m:au) (a:RA):List aw:=[own a.1 a.2 Pp 2 (m.b_.ai.map aJ.cells)]
def iD (m:List au) (a:cG):List aw:=own a.1.1 a.1.2 Dt 7 (List.zipWith au.cells m a.2)::aU nz m a.2
theorem P8: ∀ (m:au) (a:RA) (w:World),(∀ X∈nz m a,X.holds w)→ ∀ X∈au.gE m a,X.holds w:=fun m a w h X hX=>by
 simp only [au.gE,bP] at hX
 subst hX
 have:=ob (h _ (bP.2 rfl))
 simpa using this
theorem jG {m:List au} {asl:List RA} (h:asl.length=m.length):(List.zipWith au.cells m asl).length=m.length:=by simp [h]
theorem de {m:List (List au)} {asl:List cG} (h:asl.length=m.length):(List.zipWith ct m asl).length=m.length:=by simp [h]
theorem On {m:List au} {asl:List RA}:(aU nz m asl).all (·.wr)=true:=by
 rw [cZ]
 intro X hX
 obtain ⟨k,d,a,_,_,h⟩:=jX hX
 simp only [nz,bP] at h
 subst h; rfl
theorem j8 {m:List (List au)} {asl:List cG}:(bB (aU iD m asl)).wr=true:=by
 show (aU iD m asl).all (·.wr)=true
 rw [cZ]
 intro X hX
 obtain ⟨k,d,a,_,_,h⟩:=jX hX
 rcases bE.1 h with rfl|h
 ·rfl
 ·exact cZ.1 On X h
theorem GW (l:List au) (az:List RA): ∀ v∈(List.zipWith au.cells l az).flatten,v.oneCell'=true:=by
 induction l generalizing az with
 |nil=>intro v hv; simp at hv
 |cons x l ih=>
  cases az with
  |nil=>intro v hv; simp at hv
  |cons a az=>
   intro v hv
   rw [List.zipWith_cons_cons,List.flatten_cons,dQ] at hv
   rcases hv with hv|hv
   ·simp [au.cells,bg.cells,dL.cells,aa.cells] at hv
    rcases hv with rfl|rfl|rfl|rfl|rfl|rfl|rfl<;>rfl
   ·exact ih az v hv
theorem Ac (l:List (List au)) (az:List cG): ∀ v∈(List.zipWith ct l az).flatten,v.oneCell'=true:=by
 induction l generalizing az with
 |nil=>intro v hv; simp at hv
 |cons x l ih=>
  cases az with
  |nil=>intro v hv; simp at hv
  |cons a az=>
   intro v hv
   rw [List.zipWith_cons_cons,List.flatten_cons,dQ] at hv
   rcases hv with hv|hv
   ·simp [ct] at hv; subst hv; rfl
   ·exact ih az v hv
/-- every heat has as many places as descents -/
def su (H:List (List au)) (hz:List cG):Prop:=hz.length=H.length∧ ∀ (k:Nat) h (a:cG),H[k]? =some h→hz[k]? =some a→a.2.length=h.length
theorem OW {a:OA} {c e sz n:Nat} {es:List (List Value)} {w:World} (h:(own a c e sz es).holds w) (hn:es.length=n):(rd a n sz es).holds w:=by subst hn; exact ob h
theorem gn {C:List aw} {H:List (List au)} {hz:List cG} (i:Nat) (hC:C[i]? =some (bB (aU iD H hz))) (hh:su H hz):g9 C (eX (aU hO H hz)).holds:=fun w hw X hX=>by
 have hb:=hw _ (aS hC)
 obtain ⟨k,m,a,A,B,D⟩:=jX hX
 rcases bE.1 D with rfl|D
 ·exact OW (hb.1 _ (bH A B bZ)) (jG (hh.2 k m a A B))
 ·obtain ⟨q,d,b,E,F,G⟩:=jX D
  exact P8 d b w (fun Y hY=>hb.1 Y (bH A B (c_ _ (bH E F hY)))) X G
section
variable {α:Type}
def ja (bz az:List α) (i:Nat):List α:=bz++az.drop i
variable {bz az:List α} {i:Nat} {a b:α}
theorem eK (hb:bz.length=i) (hi:i≤az.length):(ja bz az i).length=az.length:=by simp [ja,hb]; omega
theorem rn (h:az.length≤i):ja bz az i=bz:=by unfold ja; rw [List.drop_eq_nil_of_le h,List.append_nil]
theorem uy (hb:bz.length=i) (h:az[i]? =some a):(ja bz az i)[i]? =some a:=by
 unfold ja
 rw [List.getElem?_append_right I,hb,Nat.sub_self,List.getElem?_drop]
 simpa using h
theorem Cg (hb:bz.length=i):(ja (bz++[b]) az (i+1))[i]? =some b:=by
 unfold ja
 rw [List.getElem?_append_left (by simp; omega),List.getElem?_append_right I,hb,Nat.sub_self]; rfl
theorem KR (hb:bz.length=i) (h:az[i]? =some a):(ja bz az i).set i b=ja (bz++[b]) az (i+1):=by
 unfold ja
 have hi:=(aX.1 h).1
 rw [List.set_append_right _ _ I,hb,Nat.sub_self,List.drop_eq_getElem_cons hi,List.set_cons_zero]
 simp
theorem qO {M β:Type} {c:M→α→β} {l:List M} {x:M} (hx:l[i]? =some x) (hb:bz.length=i) (h:az[i]? =some a):(List.zipWith c l (ja bz az i)).set i (c x b)=List.zipWith c l (ja (bz++[b]) az (i+1)):=by
 rw [o6,KR hb h]
 congr 1
 obtain ⟨hi,rfl⟩:=aX.1 hx
 exact List.set_getElem_self hi
theorem nP {M:Type} {f:M→α→List aw} {l:List M} {x:M} (hx:l[i]? =some x) (hb:bz.length=i):aU f (l.take i) bz++f x b=aU f (l.take (i+1)) (bz++[b]):=by
 have hi:=(aX.1 hx).1
 rw [List.take_add_one,hx,Option.toList_some,jt (by rw [List.length_take,hb]; omega)]
 simp [aU]
end
theorem BF: ∀ {l:List (List au)} {u v:List cG},u.map (·.1)=v.map (·.1)→List.zipWith ct l u=List.zipWith ct l v
 |[],u,v,_=>by simp
 |x::l,[],[],_=>rfl
 |x::l,[],b::v,h=>by simp at h
 |x::l,a::u,[],h=>by simp at h
 |x::l,a::u,b::v,h=>by
  simp only [List.map_cons,List.cons.injEq] at h
  rw [List.zipWith_cons_cons,List.zipWith_cons_cons,BF h.2]
  have e:ct x a=ct x b:=by simp only [ct,h.1]
  rw [e]
theorem Cz {l:List (List au)} {hz ha:List cG} {p:RA} {x y:List RA} {i:Nat}:List.zipWith ct l (ja (hz++[(p,x)]) ha i)=List.zipWith ct l (ja (hz++[(p,y)]) ha i):=BF (by simp [ja])
theorem Gt {H:List (List au)} {hz:List cG} {i:Nat} {x:List au} {b:cG} (hx:H[i]? =some x) (h: ∀ (k:Nat) y (a:cG),H[k]? =some y→hz[k]? =some a→a.2.length=y.length) (hb:hz.length=i) (hl:b.2.length=x.length): ∀ (k:Nat) y (a:cG),H[k]? =some y→(hz++[b])[k]? =some a→a.2.length=y.length:=fun k y a hy ha=>by
 by_cases e:k<hz.length
 ·rw [List.getElem?_append_left e] at ha
  exact h k y a hy ha
 ·rw [List.getElem?_append_right I] at ha
  have hk:k-hz.length=0:=by
   rcases Nat.eq_zero_or_pos (k-hz.length) with A|A
   ·exact A
   ·rw [List.getElem?_eq_none (by simp; omega)] at ha; cases ha
  rw [hk] at ha
  simp at ha
  have:k=i:=by omega
  subst this
  rw [hx] at hy; cases hy
  subst ha; exact hl
theorem Gm {S:BS} {w0 w:World} {C:List aw} {A:aw} {Y Z:List aw} (h:St S w0 (A::bB Y::bB Z::C) w):St S w0 (bB (Z++A::Y)::C) w:=by
 have D:St S w0 (bB Y::A::bB Z::C) w:=h.perm (List.Perm.swap _ _ _)
 have E:St S w0 (Y++(A::bB Z::C)) w:=D.iz
 have F:St S w0 (bB Z::(A::Y)++C) w:=E.perm (by
  have B:(Y++(A::bB Z::C)).Perm ((A::bB Z::C)++Y):=List.perm_append_comm
  refine B.trans ?_
  show (A::bB Z::(C++Y)).Perm (bB Z::A::(Y++C))
  exact (List.Perm.swap _ _ _).trans (((List.perm_append_comm (l₁:=C) (l₂:=Y)).cons A).cons _))
 have G:St S w0 (Z++((A::Y)++C)) w:=F.iz
 have H:St S w0 ((Z++A::Y)++C) w:=by simpa using G
 exact H.tied
theorem H5 {S:BS} {w0 w:World} {C:List aw} {A:aw} {Y Z:List aw} (h:St S w0 (bB (A::Y++Z)::C) w):St S w0 (A::bB Y::bB Z::C) w:=by
 have D:St S w0 ((A::Y++Z)++C) w:=h.iz
 have E:St S w0 (Z++(A::(Y++C))) w:=D.perm (by
  show (A::(Y++Z)++C).Perm (Z++(A::(Y++C)))
  have B:(A::(Y++Z)++C).Perm (A::(Z++(Y++C))):=by
   show (A::((Y++Z)++C)).Perm _
   refine List.Perm.cons A ?_
   rw [← List.append_assoc]
   exact List.perm_append_comm.append_right C
  exact B.trans (List.perm_middle (a:=A) (l₁:=Z) (l₂:=Y++C)).symm)
 have F:=E.tied
 have G:St S w0 (Y++(A::bB Z::C)) w:=F.perm (by
  show (bB Z::A::(Y++C)).Perm (Y++(A::bB Z::C))
  have B:(Y++(A::bB Z::C)).Perm (A::bB Z::(Y++C)):=by
   have:=List.perm_append_comm (l₁:=Y) (l₂:=A::bB Z::C)
   refine this.trans ?_
   show (A::bB Z::(C++Y)).Perm _
   exact (List.perm_append_comm.cons _).cons _
  exact (B.trans (List.Perm.swap _ _ _)).symm)
 have H:=G.tied
 exact H.perm (List.Perm.swap _ _ _)
theorem xE {H:List (List au)} {hz:List cG} {k:Nat} {h:List au} {a:cG} (hh:H[k]? =some h) (ha:hz[k]? =some a):(aU iD H hz).Perm (own a.1.1 a.1.2 Dt 7 (List.zipWith au.cells h a.2)::aU nz h a.2++fJ iD H hz k):=k9 hh ha
theorem Q9 {E:fq} {K:Act→World→Prop} {D:g3} {L:dw} {C:List aw} {a:OA} {c e sz:Nat} {es:List (List Value)} (i:Nat) (hC:C[i]? =some (own a c e sz es)) (k:es.length≤c→KJ E K D L C):KJ E K D L C:=fun act w hf hs=>k (Be (hs.holds _ (aS hC))) act w hf hs
abbrev NW (C:List aw) (i j k:Nat):List Nat:=k::j::i::(List.range C.length).filter fun q=>q != i&&q != j&&q != k
section
variable {E:fq} {ops:Array Oper} {Q:dk} {rest:List Oper} {D:List Deferred} {L:List (Nat×Value)} {C C1:List aw} {K:Act→World→Prop}
variable {H:List (List au)} {hz:List cG} {h h':List au} {a a':cG} {k:Nat} {X:aw} {Y Z Z':List aw}
/-- i: the others, j: what hangs on the row, q: the row -/
theorem LG (i j q:Nat) (hn:decide (NW C i j q).Nodup=true) (hC:lU C (NW C i j q)=some (X::bB Y::bB Z::C1)) (e:Z++X::Y=Z') (hk:KJ E K D L (bB Z'::C1)):KJ E K D L C:=fun a w hf hs=>by
 subst e; exact hk a w hf (Gm (St.kF _ hn (jz hC) hs))
theorem JW {c:Code} (i:Nat) (hh:H[k]? =some h) (ha:hz[k]? =some a) (hn:decide (H7 C i).Nodup=true) (hC:lU C (H7 C i)=some (bB (aU iD H hz)::C1))
 (hk:WJ E c Q D L (own a.1.1 a.1.2 Dt 7 (List.zipWith au.cells h a.2)::bB (aU nz h a.2)::bB (fJ iD H hz k)::C1)):WJ E c Q D L C:=fun act w hf hs=>
 hk act w hf (H5 (lk (xE hh ha) (St.kF _ hn (jz hC) hs)))
theorem I1 {S:BS} {w0 w:World} (hk:k<H.length) (hk2:k<hz.length) (hs:St S w0 (own a'.1.1 a'.1.2 Dt 7 (List.zipWith au.cells h' a'.2)::bB (aU nz h' a'.2)::bB (fJ iD H hz k)::C) w):St S w0 (bB (aU iD (H.set k h') (hz.set k a'))::C) w:=by
 have B:=Gm hs
 refine lk ?_ B
 have A:=xE (H:=H.set k h') (hz:=hz.set k a') (List.getElem?_set_self hk) (List.getElem?_set_self hk2)
 rw [td] at A
 exact (List.perm_append_comm).trans A.symm
end
theorem Al {H:List (List au)} {hz:List cG} {k:Nat} {h h':List au} {a:cG} {bs:List RA} (hh:H[k]? =some h) (ha:hz[k]? =some a) (hl:h'.length=h.length):List.zipWith ct (H.set k h') (hz.set k (a.1,bs))=List.zipWith ct H hz:=by
 rw [← o6]
 have e:ct h' (a.1,bs)=ct h a:=by simp only [ct,hl]
 rw [e]
 have hz':=cT (f:=ct) hh ha
 obtain ⟨hi,A⟩:=aX.1 hz'
 rw [← A]
 exact List.set_getElem_self hi
theorem NY {S:BS} {w0 w:World} {C:List aw} {h:List au} {bs:List RA} {i:Nat} {d:au} {b:RA} {d':au} (hd:h[i]? =some d) (hb:bs[i]? =some b) (hs':d'.b_.ai=[]) (hs:St S w0 (bB (aU nz h bs)::C) w):St S w0 (bB (aU nz (h.set i d') (bs.set i (none,0)))::C) w:=by
 have A:=(lk (k9 hd hb) hs).iz
 have B:St S w0 (fJ nz h bs i++C) w:=St.take (by simpa using A) (List.sublist_append_right (nz d b) (fJ nz h bs i++C))
 have D:=B.rE Pp 2
 have E:St S w0 ((nz d' (none,0)++fJ nz (h.set i d') (bs.set i (none,0)) i)++C) w:=by
  rw [td]
  simpa [nz,hs'] using D
 exact lk (k9 (List.getElem?_set_self (aX.1 hd).1) (List.getElem?_set_self (aX.1 hb).1)).symm E.tied
theorem po {d e:au}:d=e↔d.Out=e.Out∧d.dZ=e.dZ∧d.Time=e.Time∧d.b_.Start=e.b_.Start∧d.b_.fZ=e.b_.fZ∧d.b_.ai=e.b_.ai:=by
 obtain ⟨a,b,c,⟨x,y,z⟩⟩:=d
 obtain ⟨A,B,C,⟨D,E,F⟩⟩:=e
 simp only [au.mk.injEq,cL.mk.injEq]
theorem lg {r q:bY} (h1:r.an=q.an) (h2:r.aK=q.aK) (h3:r.bL=q.bL) (h4:r.gZ=q.gZ) (h5:r.ao=q.ao):r=q:=by
 cases r; cases q; simp_all
theorem ej.Q_ {r:bY} {az bz:List RA} {ha hz:List cG} (h:ej r az ha) (hb:bz.length=r.an.ah.length) (hc:oN r.an.ah bz) (hh:su r.ao hz):ej r bz hz:=⟨h.line.Q_ hb hc,h.iA,h.draw,h.iv,hh.1,fun k x a hx ha'=>by
 obtain ⟨A,C⟩: ∃ A,ha[k]? =some A:=⟨ha[k]'(by rw [h.has]; exact (aX.1 hx).1),e7 _⟩
 have B:=h.kb k x A hx C
 exact ⟨B.len,hh.2 k x a hx ha',B.sig⟩⟩
end
section
open Go.RowKit
def iY (t:aa):au:=⟨false,true,t,⟨0,0,[]⟩⟩
def fR (H:List (List au)) (h i:Int) (t:aa):List (List au):=H.set h.toNat ((H[h.toNat]?.getD []).set i.toNat (iY t))
def eC (r:bY) (h i:Int) (t:aa):bY:=⟨r.an,r.aK,r.bL,r.gZ,fR r.ao h i t⟩
@[simp] theorem RN {r:bY} {h i:Int} {t:aa}:(eC r h i t).an=r.an:=rfl
@[simp] theorem QR {r:bY} {h i:Int} {t:aa}:(eC r h i t).aK=r.aK:=rfl
@[simp] theorem RQ {r:bY} {h i:Int} {t:aa}:(eC r h i t).bL=r.bL:=rfl
theorem xM {m:g0} {i:Int} {s:aa}:(cY m i s).length≤m.length:=by
 unfold cY
 refine Nat.le_trans (List.length_filter_le _ _) ?_
 rw [List.length_map,List.length_range]; exact Nat.le_refl _
noncomputable def p9 (r:bY) (h i:Int) (t:aa):Int:=if ((0≤h∧h≤(r.ao.length:Int)-1)∧pj r i)∧iP t then (if ((r.ao[h.toNat]?).bind (·[i.toNat]?)).any (·.Out)=true then 8 else 0) else 2
noncomputable def eV (r:bY) (h i:Int) (t:aa):Int:=if cV r=0 then p9 r h i t else cV r
noncomputable def dR (r:bY) (h i:Int) (t:aa):List Int:=if eV r h i t=0 then (dA ((ax r).map (·.1))).filter (fun k=> !decide (cY (ax r) k (aC (ax r) k)=cY (ax (eC r h i t)) k (aC (ax (eC r h i t)) k))) else []
section
variable {r:bY} {h i:Int} {t:aa} {ht:List au} {d:au}
theorem rH {H:List (List au)} (hh:H[h.toNat]? =some ht):fR H h i t=H.set h.toNat (ht.set i.toNat (iY t)):=by unfold fR; rw [hh]; rfl
theorem gQ {H:List (List au)}:(fR H h i t).length=H.length:=by unfold fR; rw [List.length_set]
theorem mQ (q: ¬ (((0≤h∧h≤(r.ao.length:Int)-1)∧0≤i∧i≤(r.aK.length:Int)-1)∧iP t)):p9 r h i t=2:=if_neg q
theorem GD (q:((0≤h∧h≤(r.ao.length:Int)-1)∧0≤i∧i≤(r.aK.length:Int)-1)∧iP t) (h1:r.ao[h.toNat]? =some ht) (h2:ht[i.toNat]? =some d):p9 r h i t=if d.Out=true then 8 else 0:=by
 unfold p9
 rw [if_pos (show ((0≤h∧h≤(r.ao.length:Int)-1)∧pj r i)∧iP t from q),h1,Option.bind_some,h2,Option.any_some]
theorem uK (q:((0≤h∧h≤(r.ao.length:Int)-1)∧0≤i∧i≤(r.aK.length:Int)-1)∧iP t) (h1:r.ao[h.toNat]? =some ht) (h2:ht[i.toNat]? =some d) (ho:d.Out=true):p9 r h i t=8:=by rw [GD q h1 h2,if_pos ho]
theorem Nn (q:((0≤h∧h≤(r.ao.length:Int)-1)∧0≤i∧i≤(r.aK.length:Int)-1)∧iP t) (h1:r.ao[h.toNat]? =some ht) (h2:ht[i.toNat]? =some d) (ho:d.Out=false):p9 r h i t=0:=by rw [GD q h1 h2,if_neg (by rw [ho]; decide)]
/-- what it means that there is no error -/
theorem nF (e:p9 r h i t=0):((0≤h∧h≤(r.ao.length:Int)-1)∧pj r i)∧iP t∧((r.ao[h.toNat]?).bind (·[i.toNat]?)).any (·.Out)=false:=by
 unfold p9 at e
 split at e
 ·rename_i q
  split at e
  ·cases e
  ·rename_i A; exact ⟨q.1,q.2,by simpa using A⟩
 ·cases e
theorem lh (e:eV r h i t=0):cV r=0∧p9 r h i t=0:=by
 unfold eV at e
 split at e
 ·exact ⟨asm,e⟩
 ·exact absurd e asm
theorem tf (e: ¬ cV r=0):eV r h i t=cV r:=if_neg e
theorem o3 (e:cV r=0):eV r h i t=p9 r h i t:=if_pos e
theorem xg {H:List (List au)} {k:Nat} {y:List au} (hy:(fR H h i t)[k]? =some y): ∃ x,H[k]? =some x∧y.length=x.length∧ ∀ d∈y,d∈x∨d=iY t:=by
 unfold fR at hy
 rw [List.getElem?_set] at hy
 split at hy
 ·rename_i e
  split at hy
  ·rename_i hl
   have A:H[h.toNat]? =some H[h.toNat]:=e7 hl
   rw [A] at hy
   simp only [Option.getD_some,Option.some.injEq] at hy
   subst hy
   refine ⟨H[h.toNat],by rw [← e]; exact A,by rw [List.length_set],fun d hd=>?_⟩
   exact List.mem_or_eq_of_mem_set hd
  ·cases hy
 ·exact ⟨y,hy,U,fun d hd=> .inl hd⟩
theorem Fl (hr:fc r) (ht:iP t):fc (eC r h i t):=⟨hr.num,hr.wZ,by
 have:=hr.nh
 show 1≤((fR r.ao h i t).length:Int)∧((fR r.ao h i t).length:Int)≤3
 rw [gQ]; exact this,hr.ids,hr.draw,fun y hy=>by
 obtain ⟨k,hk⟩:=List.mem_iff_getElem?.1 hy
 obtain ⟨x,hx,hl,hm⟩:=xg hk
 have A:=hr.kb x (aS hx)
 refine ⟨hl.trans A.1,fun d hd=>?_⟩
 rcases hm d hd with q|rfl
 ·exact A.2 d q
 ·unfold iy
  rw [if_neg (by simp [iY]),if_pos (by rfl)]
  exact ⟨ht,by simp [mG,iY]⟩⟩
theorem pg (e:eV r h i t=0):cV (eC r h i t)=0:=by
 obtain ⟨A,B⟩:=lh e
 obtain ⟨C,D⟩:=iw A
 unfold cV
 rw [if_pos (show dH (eC r h i t).an=0 from C),if_pos (Fl D (nF B).2.1)]
theorem ej.rep {az bz:List RA} {ha hz:List cG} (hin:ej r az ha) (hb:bz.length=r.an.ah.length) (hc:oN r.an.ah bz) (hh:su (fR r.ao h i t) hz):ej (eC r h i t) bz hz:=⟨hin.line.Q_ hb hc,hin.iA,hin.draw,by
 show (fR r.ao h i t).length≤1000000
 rw [gQ]; exact hin.iv,hh.1,fun k y a hy ha'=>by
 obtain ⟨x,hx,hl,hm⟩:=xg hy
 obtain ⟨b,hb⟩: ∃ b,ha[k]? =some b:=⟨ha[k]'(by rw [hin.has]; exact (aX.1 hx).1),e7 _⟩
 have A:=hin.kb k x b hx hb
 refine ⟨by rw [hl]; exact A.len,hh.2 k y a hy ha',fun d hd=>?_⟩
 rcases hm d hd with q|rfl
 ·exact A.sig d q
 ·simp [iY]⟩
theorem CT {H:List (List au)} {k q:Nat}:((fR H h i t)[k]?).bind (·[q]?)=(H[k]?).bind (·[q]?)∨(k=h.toNat∧q=i.toNat∧(∃ d,(H[k]?).bind (·[q]?)=some d)∧((fR H h i t)[k]?).bind (·[q]?)=some (iY t)):=by
 by_cases e:h.toNat=k
 ·cases hk:H[k]? with
  |none=>
   left
   have:(fR H h i t)[k]? =none:=by rw [List.getElem?_eq_none_iff,gQ]; exact List.getElem?_eq_none_iff.1 hk
   rw [this]
  |some x=>
   have B:(fR H h i t)[k]? =some (x.set i.toNat (iY t)):=by
    subst e
    rw [rH hk]
    exact List.getElem?_set_self (aX.1 hk).1
   rw [B,Option.bind_some,Option.bind_some]
   by_cases A:i.toNat=q
   ·cases hq:x[q]? with
    |none=>
     left
     rw [List.getElem?_eq_none_iff,List.length_set]; exact List.getElem?_eq_none_iff.1 hq
    |some d=>
     right
     subst A
     exact ⟨e.symm,U,⟨d,U⟩,List.getElem?_set_self (aX.1 hq).1⟩
   ·left; rw [List.getElem?_set_ne A]
 ·left
  unfold fR
  rw [List.getElem?_set_ne e]
theorem rU {l:bf} {H:List (List au)} {q:Nat} (ho:((H[h.toNat]?).bind (·[i.toNat]?)).any (·.Out)=false): ∀ n,(fm l (fR H h i t) q n).isSome=(fm l H q n).isSome
 |0=>rfl
 |n+1=>by
  have ih:=rU (l:=l) (q:=q) ho n
  unfold fm
  rcases CT (H:=H) (h:=h) (i:=i) (t:=t) (k:=n) (q:=q) with e|⟨rfl,rfl,⟨d,hd⟩,e⟩
  ·rw [e]
   cases e1:fm l (fR H h i t) q n<;>cases e2:fm l H q n<;>simp_all
   cases (H[n]?).bind (·[q]?) with
   |none=>rfl
   |some d=>by_cases c:d.Out=true<;>simp [c]
  ·rw [e,hd]
   have A:d.Out=false:=by rw [hd] at ho; simpa using ho
   cases e1:fm l (fR H h i t) i.toNat h.toNat<;>cases e2:fm l H i.toNat h.toNat<;>simp_all [iY]
theorem qb {l:bf} {H:List (List au)} {q:Nat} (hq:q≠i.toNat): ∀ n,fm l (fR H h i t) q n=fm l H q n
 |0=>rfl
 |n+1=>by
  have ih:=qb (l:=l) (H:=H) hq n
  unfold fm
  rcases CT (H:=H) (h:=h) (i:=i) (t:=t) (k:=n) (q:=q) with e|⟨_,e,_⟩
  ·rw [e,ih]
  ·exact absurd e hq
theorem GM {r:bY} {k:Nat} {x:Int}:(eL r k).lookup x=if 0≤x∧x<(r.aK.length:Int) then fm r.an r.ao x.toNat k else none:=by
 by_cases c:0≤x∧x<(r.aK.length:Int)
 ·rw [if_pos c]
  have:=pt (f:=fun q=>fm r.an r.ao q k) r.aK.length x.toNat
  rw [if_pos I,show (x.toNat:Int)=x by omega] at this
  exact this
 ·rw [if_neg c]
  cases e:(eL r k).lookup x with
  |none=>rfl
  |some v=>
   exfalso
   obtain ⟨q,hq,A,_⟩:=u6 ((pL mh).2 e)
   simp only at A
   omega
theorem Du (e:p9 r h i t=0) (k:Int):((ax (eC r h i t)).lookup k).isSome=((ax r).lookup k).isSome:=by
 obtain ⟨_,_,ho⟩:=nF e
 unfold ax
 rw [GM,GM]
 show (if 0≤k∧k<(r.aK.length:Int) then fm r.an (fR r.ao h i t) k.toNat (fR r.ao h i t).length else none).isSome=_
 rw [gQ]
 split
 ·exact rU ho _
 ·rfl
theorem CN {m:g0} {k:Int} (h:k∈dA (m.map (·.1))):m.lookup k≠none:=by
 obtain ⟨p,hp,rfl⟩:=bW.1 (fp.mem_iff.1 h)
 intro e
 exact absurd (List.lookup_eq_none_iff.1 e p hp) sm
theorem Kt {hz:List cG} {hza:cG} (hh:su r.ao hz) (h1:r.ao[h.toNat]? =some ht) (h2:hz[h.toNat]? =some hza):su (fR r.ao h i t) (hz.set h.toNat (hza.1,hza.2.set i.toNat (none,0))):=by
 refine ⟨by rw [List.length_set,gQ]; exact hh.1,fun k y a hy ha=>?_⟩
 rw [rH h1] at hy
 rw [List.getElem?_set] at hy ha
 by_cases e:h.toNat=k
 ·rw [if_pos e,if_pos (aX.1 h1).1] at hy
  rw [if_pos e,if_pos (aX.1 h2).1] at ha
  cases hy; cases ha
  simp only [List.length_set]
  exact hh.2 _ _ _ h1 h2
 ·rw [if_neg e] at hy ha
  exact hh.2 k y a hy ha
theorem x_ (e: ¬ eV r h i t=0):dR r h i t=[]:=if_neg e
theorem x4 (e:eV r h i t=0):dR r h i t=(dA ((ax r).map (·.1))).filter (fun k=> !decide (cY (ax r) k (aC (ax r) k)=cY (ax (eC r h i t)) k (aC (ax (eC r h i t)) k))):=if_pos e
end
section
variable {E:fq} {Q:dk} {D:List Deferred} {L:List (Nat×Value)} {C C1:List aw} {c:Code}
variable {H:List (List au)} {hz:List cG} {h h':List au} {a a':cG} {k:Nat} {bs:List RA} {i:Nat} {d d':au} {b:RA}
theorem Ml (j:Nat) (hd:h[i]? =some d) (hb:bs[i]? =some b) (hs':d'.b_.ai=[]) (hn:decide (H7 C j).Nodup=true) (hC:lU C (H7 C j)=some (bB (aU nz h bs)::C1))
 (hk:WJ E c Q D L (bB (aU nz (h.set i d') (bs.set i (none,0)))::C1)):WJ E c Q D L C:=fun act w hf hs=>hk act w hf (NY hd hb hs' (St.kF _ hn (jz hC) hs))
theorem Gw (i j q:Nat) (hk:k<H.length) (hk2:k<hz.length) (hn:decide (NW C i j q).Nodup=true) (hC:lU C (NW C i j q)=some (own a'.1.1 a'.1.2 Dt 7 (List.zipWith au.cells h' a'.2)::bB (aU nz h' a'.2)::bB (fJ iD H hz k)::C1))
 (hr:WJ E c Q D L (bB (aU iD (H.set k h') (hz.set k a'))::C1)):WJ E c Q D L C:=fun act w hf hs=>hr act w hf (I1 hk hk2 (St.kF _ hn (jz hC) hs))
end
end
section
set_option maxRecDepth 20000
def Cj (x y:Int):au:=iY ⟨x,y⟩
def aQ:bY:=⟨nj,[4,7,9],[2,0,1],2,[[⟨false,false,dN,mY⟩,Cj 2600 2600,Cj 2580 2609],[Cj 2555 2559,Cj 2540 2549,Cj 2570 2575]]⟩
theorem AT {l:bf} {x y:Int} (h:iP ⟨x,y⟩):iy l (Cj x y):=by rw [tT ⟨rfl,rfl⟩]; exact ⟨h,rfl,rfl,rfl⟩
theorem QT:fc aQ:=by
 refine ⟨dc,dc,dc,fun i x hx=>?_,dc,fun h hh=>?_⟩
 ·match i with
  |0=>simp [aQ] at hx; subst hx; exact ⟨dc,fun y h=>absurd h dc⟩
  |1=>simp [aQ] at hx; subst hx; exact ⟨dc,fun y _ h=>by simp [aQ] at h; omega⟩
  |2=>simp [aQ] at hx; subst hx; exact ⟨dc,fun y _ h=>by simp [aQ] at h; omega⟩
  |n+3=>simp [aQ] at hx
 ·simp only [aQ,bE,List.not_mem_nil,or_false] at hh
  rcases hh with rfl|rfl
  ·refine ⟨U,fun d hd=>?_⟩
   simp only [bE,List.not_mem_nil,or_false] at hd
   rcases hd with rfl|rfl|rfl
   ·rw [uH ⟨rfl,rfl⟩]; exact ⟨Ec.1,rfl⟩
   ·exact AT dc
   ·exact AT dc
  ·refine ⟨U,fun d hd=>?_⟩
   simp only [bE,List.not_mem_nil,or_false] at hd
   rcases hd with rfl|rfl|rfl<;>exact AT dc
theorem qL:cV aQ=0:=by unfold cV; rw [if_pos (show dH aQ.an=0 from Pa),if_pos QT]
theorem PV:m0 aQ 0 0=0∧iG aQ 0 0=⟨2596,2602⟩:=by
 have h:m0 aQ 0 0=0:=by unfold m0; rw [if_pos qL]; decide
 refine ⟨h,?_⟩
 unfold iG
 rw [if_pos h]
 show dF nj ⟨false,false,dN,mY⟩=_
 rw [wG ⟨rfl,rfl⟩]; exact Ec.2
/-- the sums of a race of three sleds and two heats, all of which run -/
theorem Jc {l:bf} {ids dr:List Int} {t:Int} {H:List (List au)} {a b c d e f:au} (hH:H=[[a,b,c],[d,e,f]]) (hi:ids.length=3) (hoa: ∀ x∈[a,b,c,d,e,f],x.Out=false):
 ax ⟨l,ids,dr,t,H⟩=[(0,⟨(dF l a).Lo/10+(dF l d).Lo/10,(dF l a).Hi/10+(dF l d).Hi/10⟩),(1,⟨(dF l b).Lo/10+(dF l e).Lo/10,(dF l b).Hi/10+(dF l e).Hi/10⟩),(2,⟨(dF l c).Lo/10+(dF l f).Lo/10,(dF l c).Hi/10+(dF l f).Hi/10⟩)]∧
 eL ⟨l,ids,dr,t,H⟩ 1=[(0,⟨(dF l a).Lo/10,(dF l a).Hi/10⟩),(1,⟨(dF l b).Lo/10,(dF l b).Hi/10⟩),(2,⟨(dF l c).Lo/10,(dF l c).Hi/10⟩)]:=by
 subst hH
 simp only [bE,List.not_mem_nil,or_false,forall_eq_or_imp,forall_eq] at hoa
 obtain ⟨A,B,C,D,E,F⟩:=hoa
 simp [ax,eL,hi,List.range_succ,fm,A,B,C,D,E,F]
def Oq:g0:=[(0,⟨514,515⟩),(1,⟨514,514⟩),(2,⟨515,517⟩)]
def OL:g0:=[(0,⟨514,515⟩),(1,⟨514,514⟩),(2,⟨516,516⟩)]
def Uc:g0:=[(0,⟨259,260⟩),(1,⟨260,260⟩),(2,⟨258,260⟩)]
theorem Bb:dF nj ⟨false,false,dN,mY⟩=⟨2596,2602⟩:=by rw [wG ⟨rfl,rfl⟩]; exact Ec.2
theorem qo {l:bf} {x y:Int}:dF l (Cj x y)=⟨x,y⟩:=Bg ⟨rfl,rfl⟩
theorem vY:ax aQ=Oq∧eL aQ 1=Uc:=by
 obtain ⟨A,B⟩:=Jc (l:=nj) (ids:=[4,7,9]) (dr:=[2,0,1]) (t:=2) (H:=aQ.ao) rfl rfl dc
 refine ⟨A.trans ?_,B.trans ?_⟩
 ·rw [Bb,qo,qo,qo,qo,qo]; rfl
 ·rw [Bb,qo,qo]; rfl
def lF:bY:=eC aQ 0 2 ⟨2590,2599⟩
theorem B2:eV aQ 0 2 ⟨2590,2599⟩=0:=by unfold eV; rw [if_pos qL]; unfold p9; decide
theorem yF:cV lF=0:=pg B2
theorem KW:ax lF=OL:=by
 obtain ⟨A,B⟩:=Jc (l:=nj) (ids:=[4,7,9]) (dr:=[2,0,1]) (t:=2) (H:=lF.ao) (a:=⟨false,false,dN,mY⟩) (b:=Cj 2600 2600) (c:=Cj 2590 2599) (d:=Cj 2555 2559) (e:=Cj 2540 2549) (f:=Cj 2570 2575) rfl rfl dc
 refine A.trans ?_
 rw [Bb,qo,qo,qo,qo,qo]; rfl
/-- ranks, as they can be reckoned -/
def Em (m:g0) (i:Int) (own:aa):List Int:=((List.range m.length).map fun (k:Nat)=>(k:Int)+1).filter fun k=>(jQ m i own).any fun n=>decide ((iK m i n:Int)+1≤k∧k≤(j5 m i n:Int)+1)
theorem FW {m:g0} {i:Int} {own:aa}:cY m i own=Em m i own:=by
 unfold cY Em
 congr 1
 funext k
 rw [Bool.eq_iff_iff,decide_eq_true_eq,List.any_eq_true]
 simp only [decide_eq_true_eq,sV]
theorem AU {r:bY} {m:g0} {i:Int} {s:aa} (he:cV r=0) (hm:ax r=m) (hi:pj r i) (hl:m.lookup i=some s):j7 r i=0∧pO r i=s∧gM r i=Em m i s:=by
 have h:j7 r i=0:=by unfold j7; rw [if_pos he,if_pos hi,hm,hl]; rfl
 refine ⟨h,?_,?_⟩
 ·unfold pO aC; rw [if_pos h,hm,hl]; rfl
 ·unfold gM aC; rw [if_pos h,hm,hl,FW]; rfl
theorem FI {r:bY} {m:g0} {a b:Int} {s t:aa} (he:cV r=0) (hm:ax r=m) (hi:pj r a∧pj r b∧a≠b) (hs:m.lookup a=some s) (ht:m.lookup b=some t):nY r a b=0∧wD r a b=BP s t∧qZ r a b=sU s t:=by
 have h:nY r a b=0:=by unfold nY; rw [if_pos he,if_pos hi,hm,hs,ht]; simp
 refine ⟨h,?_,?_⟩
 ·unfold wD aC; rw [if_pos h,hm,hs,ht]; rfl
 ·unfold qZ aC; rw [if_pos h,hm,hs,ht]; rfl
theorem mS:j7 aQ 0=0∧pO aQ 0=⟨514,515⟩∧gM aQ 0=[1,2]:=by have h:=AU (i:=0) (s:=⟨514,515⟩) qL vY.1 dc rfl; exact ⟨h.1,h.2.1,h.2.2.trans dc⟩
theorem BN:j7 aQ 2=0∧pO aQ 2=⟨515,517⟩∧gM aQ 2=[2,3]:=by have h:=AU (i:=2) (s:=⟨515,517⟩) qL vY.1 dc rfl; exact ⟨h.1,h.2.1,h.2.2.trans dc⟩
theorem I3:j7 lF 2=0∧pO lF 2=⟨516,516⟩:=by have h:=AU (i:=2) (s:=⟨516,516⟩) yF KW dc rfl; exact ⟨h.1,h.2.1⟩
theorem Bq:nY aQ 1 2=0∧wD aQ 1 2=2∧qZ aQ 1 2=0:=by have h:=FI (a:=1) (b:=2) (s:=⟨514,514⟩) (t:=⟨515,517⟩) qL vY.1 dc rfl rfl; exact ⟨h.1,h.2.1.trans dc,h.2.2.trans dc⟩
theorem AF:nY aQ 0 1=0∧wD aQ 0 1=0∧qZ aQ 0 1=1:=by have h:=FI (a:=0) (b:=1) (s:=⟨514,515⟩) (t:=⟨514,514⟩) qL vY.1 dc rfl rfl; exact ⟨h.1,h.2.1.trans dc,h.2.2.trans dc⟩
theorem Jh:i_ aQ 1=0∧il aQ 1=[0,2,1]:=by
 have h:i_ aQ 1=0:=by unfold i_; rw [if_pos qL]; decide
 refine ⟨h,?_⟩
 unfold il
 rw [if_pos h,if_neg dc]
 unfold uR
 rw [show eL aQ (1:Int).toNat=Uc from vY.2]
 decide
theorem Jf:i_ aQ 2=0∧il aQ 2=[0,1,2]:=by
 have h:i_ aQ 2=0:=by unfold i_; rw [if_pos qL]; decide
 refine ⟨h,?_⟩
 unfold il
 rw [if_pos h,if_neg dc]
 unfold uR
 rw [show eL aQ (2:Int).toNat=Oq from vY.1]
 decide
theorem NB:dU aQ=[[0,1,2]]:=by
 refine (ux qL ?_ ?_).symm
 ·rw [vY.1]
  refine ⟨dc,dc,sm,fun g hg t A B=>?_⟩
  rw [bP.1 hg] at A B ⊢
  simp [Oq,aC,List.lookup] at A B ⊢
  omega
 ·intro g hg; rw [bP.1 hg]; decide
theorem KL:dU lF=[[0,1],[2]]:=by
 refine (ux yF ?_ ?_).symm
 ·rw [KW]
  refine ⟨dc,dc,?_,fun g hg t A B=>?_⟩
  ·simp [KV,OL,aC,List.lookup]
  ·simp only [bE,List.not_mem_nil,or_false] at hg
   rcases hg with rfl|rfl<;>(simp [OL,aC,List.lookup] at A B ⊢; omega)
 ·intro g hg; simp only [bE,List.not_mem_nil,or_false] at hg; rcases hg with rfl|rfl<;>decide
theorem O2:dR aQ 0 2 ⟨2590,2599⟩=[2]:=by
 unfold dR
 rw [if_pos B2,vY.1,show ax (eC aQ 0 2 ⟨2590,2599⟩)=OL from KW]
 simp only [FW]
 rw [show dA (Oq.map (·.1))=[0,1,2] from vE (n:=3) dc]
 decide
end
section
open Go.RowKit
section
variable {E:fq} {ops:Array Oper} {Q:dk} {rest:List Oper} {D:List Deferred} {L:List (Nat×Value)} {C C1:List aw}
end
theorem Cm {C:List aw}: ∀ {a b:List Nat} {X Y:List aw},lU C a=some X→lU C b=some Y→lU C (a++b)=some (X++Y)
 |[],b,X,Y,h,h2=>by cases h; exact h2
 |i::a,b,X,Y,h,h2=>by
  unfold lU at h
  split at h
  ·rename_i A hA
   split at h
   ·rename_i l hl
    cases h
    have ih:=Cm hl h2
    show (match C[i]? with
     |some A=>match lU C (a++b) with
      |some l=>some (A::l)
      |none=>none
     |none=>none)=_
    rw [hA,ih]; rfl
   ·cases h
  ·cases h
theorem uS {E:fq} {ops:Array Oper} {Q:dk} {rest:List Oper} {D:g3} {L:dw} {C C1:List aw} (X:List aw) (i1 i2:List Nat) (h1:lU C i1=some X) (h2:lU C i2=some C1) (h:RJ E ops Q rest D L (bB X::C1)) (hn:decide (i1++i2).Nodup=true:=by rfl):RJ E ops Q rest D L C:=fun a w hf hs=>h a w hf (St.tied (St.kF _ hn (jz (Cm h1 h2)) hs))
theorem Rg {E:fq} {c:Code} {Q:dk} {D:g3} {L:dw} {C C1:List aw} (ix:List Nat) (hC:lU C ix=some C1) (h:WJ E c Q D L C1) (hn:decide ix.Nodup=true:=by rfl):WJ E c Q D L C:=fun a w hf hs=>h a w hf (St.kF _ hn (jz hC) hs)
theorem qR {E:fq} {ops:Array Oper} {Q:dk} {rest:List Oper} {D:g3} {L:dw} {C C1:List aw} (ix:List Nat) (hn:decide ix.Nodup=true) (hC:lU C ix=some C1) (h:RJ E ops Q rest D L C1):RJ E ops Q rest D L C:=fun a w hf hs=>h a w hf (St.kF _ hn (jz hC) hs)
theorem pk {M A B:Type} {f:M→A→List B} {n:Nat} (h: ∀ m a,(f m a).length=n): ∀ {ms:List M} {asl:List A},∀ x∈List.zipWith f ms asl,x.length=n
 |[],asl,x,hx=>by simp at hx
 |m::ms,[],x,hx=>by simp at hx
 |m::ms,a::asl,x,hx=>by
  rw [List.zipWith_cons_cons] at hx
  rcases bE.1 hx with rfl|hx
  ·exact h m a
  ·exact pk h x hx
theorem FX (m:au) (a:RA):(au.cells m a).length=7:=rfl
theorem MI (m:List au) (a:cG):(ct m a).length=1:=rfl
theorem KP (m:List Int) (a:RA):(nI m a).length=1:=rfl
def Tl:List au:=[⟨false,false,dN,mY⟩,Cj 2600 2600,Cj 2580 2609]
def SY:List au:=[Cj 2555 2559,Cj 2540 2549,Cj 2570 2575]
theorem KO {p q s t u v x y:RA}:su aQ.ao [(p,[s,t,u]),(q,[v,x,y])]:=⟨rfl,fun k h a hk ha=>by
 match k with
 |0=>simp [aQ] at hk ha; subst hk; subst ha; rfl
 |1=>simp [aQ] at hk ha; subst hk; subst ha; rfl
 |n+2=>simp at ha⟩
theorem Rv {bz:List RA} {hz:List cG} (h:ep nj bz) (hh:su aQ.ao hz):ej aQ bz hz:=⟨h,dc,dc,dc,hh.1,fun k x a hx ha=>by
 have hm:=aS hx
 have hs:=hh.2 k x a hx ha
 simp only [aQ,bE,List.not_mem_nil,or_false] at hm
 rcases hm with rfl|rfl
 ·exact ⟨dc,hs,dc⟩
 ·exact ⟨dc,hs,dc⟩⟩
end
section
open Go.RowKit
def qs (b:Bool):List Value:=[.bool b]
@[simp] theorem AH (b:Bool):(qs b).length=1:=rfl
theorem IB (l:List Bool): ∀ v∈(l.map qs).flatten,v.oneCell'=true:=mP (fun s=>rfl) l
end
section
def mo (r:bY) (i:Nat):Prop:= ∀ (j:Nat) x,j<i→r.ao[j]? =some x→ ¬ py x
def nE (x:List au) (i:Nat):Prop:= ∀ (j:Nat) d,j<i→x[j]? =some d→ ¬ 15<(d.b_.ai.length:Int)
section
variable {r:bY} {i:Nat} {x:List au} {d:au}
theorem CS:mo r 0:=fun j x hj=>absurd hj (Nat.not_lt_zero _)
theorem C6 (h:mo r i) (hx:r.ao[i]? =some x) (ho: ¬ py x):mo r (i+1):=fun j y hj hy=>by
 rcases Nat.lt_or_ge j i with q|q
 ·exact h j y q hy
 ·obtain rfl:j=i:=by omega
  rw [hx] at hy; cases hy; exact ho
theorem BT:nE x 0:=fun j x hj=>absurd hj (Nat.not_lt_zero _)
theorem Cr (h:nE x i) (hx:x[i]? =some d) (ho: ¬ 15<(d.b_.ai.length:Int)):nE x (i+1):=fun j y hj hy=>by
 rcases Nat.lt_or_ge j i with q|q
 ·exact h j y q hy
 ·obtain rfl:j=i:=by omega
  rw [hx] at hy; cases hy; exact ho
theorem Ff (hl: ¬ 8<(x.length:Int)) (h:nE x i) (hi:x.length≤i): ¬ py x:=by
 rintro (q|⟨d,hd,q⟩)
 ·exact hl q
 ·obtain ⟨j,hj⟩:=List.getElem?_of_mem hd
  exact h j d (by have:=(aX.1 hj).1; omega) hj q
theorem HC (h1: ¬ k8 r.an) (h2: ¬ 8<(r.aK.length:Int)∧ ¬ 8<(r.bL.length:Int)∧ ¬ 5<(r.ao.length:Int)) (h:mo r i) (hi:r.ao.length≤i): ¬ kW r:=by
 rintro ((q|q)|⟨x,hx,q⟩)
 ·exact h1 q
 ·omega
 ·obtain ⟨j,hj⟩:=List.getElem?_of_mem hx
  exact h j x (by have:=(aX.1 hj).1; omega) hj q
theorem pJ (h:k8 r.an∨8<(r.aK.length:Int)∨8<(r.bL.length:Int)∨5<(r.ao.length:Int)):kW r:= .inl h
theorem Cw (hx:r.ao[i]? =some x) (h:8<(x.length:Int)):kW r:= .inr ⟨x,aS hx,.inl h⟩
theorem Fz {j:Nat} (hx:r.ao[i]? =some x) (hd:x[j]? =some d) (h:15<(d.b_.ai.length:Int)):kW r:= .inr ⟨x,aS hx,.inr ⟨d,aS hd,h⟩⟩
end
noncomputable def px (l:bf) (d:au):aa:=if d.Out=true then dN else dF l d
theorem JF {l:bf} {d:au} (h:iy l d):px l d=dF l d:=by
 unfold px
 split
 ·rename_i q
  rw [FR q]
  rw [q_ q] at h
  exact h.2.1.symm
 ·rfl
theorem AE {l:bf} {d:au} (h:d.Out=true):px l d=dN:=if_pos h
theorem FV {l:bf} {d:au} (h:d.Out=false∧d.dZ=true):px l d=d.Time:=by unfold px; rw [if_neg (by rw [h.1]; decide),Bg h]
theorem Ga {l:bf} {d:au} (h:d.Out=false∧d.dZ=false):px l d=AA l d.b_:=by unfold px; rw [if_neg (by rw [h.1]; decide),wG h]
def SK (r:bY) (j:Nat):Prop:= ∀ x,r.aK[j]? =some x→(0≤x∧x≤9999)∧ ∀ y,0<j→r.aK[j-1]? =some y→y<x
def JH (r:bY) (j:Nat):Prop:= ∀ x,r.bL[j]? =some x→(0≤x∧x≤(r.aK.length:Int)-1)∧ ∀ (k:Nat) y,k<j→r.bL[k]? =some y→y≠x
def yu (r:bY) (i:Nat):Prop:= ∀ j,j<i→SK r j∧JH r j
section
variable {r:bY} {i k:Nat} {x:Int}
theorem MJ:yu r 0:=fun j hj=>absurd hj (Nat.not_lt_zero _)
theorem Ds (h:yu r i) (h1:SK r i) (h2:JH r i):yu r (i+1):=fun j hj=>by
 rcases Nat.lt_or_ge j i with q|q
 ·exact h j q
 ·obtain rfl:j=i:=by omega
  exact ⟨h1,h2⟩
theorem yJ {l:List Int} {u v:Int} (h: ∀ (q:Nat) y,q<k→l[q]? =some y→y≠v) (hx:l[k]? =some u) (hne: ¬ u=v): ∀ (q:Nat) y,q<k+1→l[q]? =some y→y≠v:=fun q y hq hy=>by
 rcases Nat.lt_or_ge q k with c|c
 ·exact h q y c hy
 ·obtain rfl:q=k:=by omega
  rw [hx] at hy; cases hy; exact hne
theorem Jq (hl:r.bL.length=r.aK.length) (h:yu r r.aK.length):r.bL.Perm (HX r.aK.length):=by
 have nd:r.bL.Nodup:=by
  rw [List.nodup_iff_pairwise_ne,eW]
  intro a b ha hb A
  exact ((h b I).2 _ (e7 hb)).2 a _ A (e7 ha)
 have hm: ∀ x∈r.bL,x∈HX r.aK.length:=fun x hx=>by
  obtain ⟨j,hj⟩:=List.getElem?_of_mem hx
  have:=((h j (by have:=(aX.1 hj).1; omega)).2 x hj).1
  exact bW.2 ⟨x.toNat,List.mem_range.2 I,I⟩
 have ndu:(HX r.aK.length).Nodup:=by
  unfold HX
  rw [List.nodup_iff_pairwise_ne,List.pairwise_map]
  exact List.pairwise_lt_range.imp fun h=>by omega
 have e:dA r.bL=(HX r.aK.length).filter fun x=>decide (x∈r.bL):=by
  refine pw ks ((wY _).filter _) (fp.nodup_iff.2 nd) (ndu.filter _) fun x=>?_
  rw [fp.mem_iff,List.mem_filter,decide_eq_true_eq]
  exact ⟨fun q=>⟨hm x q,q⟩,fun q=>q.2⟩
 have B:=congrArg List.length e
 rw [gF,hl] at B
 have C:(HX r.aK.length).filter (fun x=>decide (x∈r.bL))=HX r.aK.length:=List.filter_sublist.eq_of_length (by rw [← B]; simp)
 rw [C] at e
 rw [← e]; exact fp.symm
theorem HZ {n:Nat} (h1:1≤(r.aK.length:Int)∧(r.aK.length:Int)≤5) (h2:r.bL.length=r.aK.length) (h3:0≤r.gZ∧r.gZ≤5) (h4:1≤(r.ao.length:Int)∧(r.ao.length:Int)≤3)
 (hn:n=r.aK.length) (h6:yu r n) (h7:kl r i) (hi:r.ao.length≤i):fc r:=by
 subst hn
 refine ⟨h1,h3,h4,fun k x hx=>(h6 k (aX.1 hx).1).1 x hx,Jq h2 h6,fun h hh=>?_⟩
 obtain ⟨j,hj⟩:=List.getElem?_of_mem hh
 exact h7 j h (by have:=(aX.1 hj).1; omega) hj
theorem fc.KY (h:fc r) (hx:r.bL[i]? =some x):0≤x∧x≤(r.aK.length:Int)-1:=by
 obtain ⟨k,hk,rfl⟩:=bW.1 (h.draw.mem_iff.1 (aS hx))
 have:=List.mem_range.1 hk
 omega
theorem fc.Rh (h:fc r):r.bL.Nodup:=by
 refine h.draw.nodup_iff.2 ?_
 rw [List.nodup_iff_pairwise_ne,List.pairwise_map]
 exact List.pairwise_lt_range.imp fun h=>by omega
theorem fc.Qq (h:fc r) {u v:Int} (hki:k<i) (hu:r.bL[k]? =some u) (hv:r.bL[i]? =some v): ¬ u=v:=by
 have A:=h.Rh
 rw [List.nodup_iff_pairwise_ne,eW] at A
 obtain ⟨a,ea⟩:=aX.1 hu
 obtain ⟨b,eb⟩:=aX.1 hv
 subst ea eb
 exact A k i a b hki
end
section
variable {r:bY} {i k n:Nat} {s:aa} {l:bf} {hs:List (List au)}
end
section
variable {r:bY} {i x:Int} {own s:aa} {k:Nat} {ys zs:List Int}
end
section
variable {B:List Bool} {P Q:Int→Prop} {k x:Nat} {m:g0} {i y a b:Int} {ys:List Int}
end
theorem tn {r:bY} {i:Int}:(gM r i).length≤r.aK.length:=by
 unfold gM
 split
 ·unfold cY
  refine Nat.le_trans (List.length_filter_le _ _) ?_
  rw [List.length_map,List.length_range]
  exact vk
 ·simp
end
section
theorem uh: ∀ {m:g0} {a:Int} {s:aa},m.lookup a=some s→(a,s)∈m
 |[],a,s,h=>by cases h
 |(b,u)::m,a,s,h=>by
  by_cases e:a=b
  ·subst e
   simp [List.lookup] at h; subst h; exact bZ
  ·have:(a==b)=false:=by simpa using e
   simp only [List.lookup,this] at h
   exact c_ _ (uh h)
theorem wN: ∀ {m:g0} {a:Int} {s:aa},(m.map (·.1)).Nodup→(a,s)∈m→m.lookup a=some s
 |[],a,s,_,h=>by cases h
 |(b,u)::m,a,s,hn,h=>by
  rw [List.map_cons,List.nodup_cons] at hn
  rcases bE.1 h with e|h
  ·cases e; simp [List.lookup]
  ·have e:a≠b:=fun e=>hn.1 (by rw [← e]; exact List.mem_map_of_mem (f:=(·.1)) h)
   have:(a==b)=false:=by simpa using e
   simp only [List.lookup,this]
   exact wN hn.2 h
/-- sums, each of another sled -/
structure nX (m:g0):Prop where
 nd:(m.map (·.1)).Nodup
 le: ∀ p∈m,p.2.Lo≤p.2.Hi
theorem FY {r:bY} (h:cV r=0):nX (ax r):=⟨mh,fun p hp=>(nZ h p hp).2.1⟩
section
variable {m:g0} {a b i n:Int} {s t own:aa}
theorem nX.at (h:nX m) (hs:m.lookup a=some s):s.Lo≤s.Hi:=h.le _ (uh hs)
theorem nX.one (h:nX m) (hs:m.lookup a=some s) {p:Int×aa} (hp:p∈m) (e:p.1=a):p.2=s:=by
 obtain ⟨x,y⟩:=p
 cases e
 have:=wN h.nd hp
 rw [hs] at this; cases this; rfl
/-- who is surely tied has the same ranks -/
theorem Hc (h:nX m) (hs:m.lookup a=some s) (ht:m.lookup b=some s) (he:s.Lo=s.Hi):cY m a s=cY m b s:=by
 have C:iK m a s.Lo=iK m b s.Lo:=by
  rw [np,np]
  apply List.countP_congr
  intro p hp
  simp only [cW,decide_eq_true_eq,Bool.not_eq_true',decide_eq_false_iff_not]
  exact ⟨fun q=>⟨q.1,fun e=>by have:=h.one ht hp e; rw [this] at q; omega⟩,fun q=>⟨q.1,fun e=>by have:=h.one hs hp e; rw [this] at q; omega⟩⟩
 have D:j5 m a s.Lo=j5 m b s.Lo:=by
  rw [pZ,pZ]
  apply List.countP_congr
  intro p hp
  simp only [cW,decide_eq_true_eq,Bool.not_eq_true',decide_eq_false_iff_not]
  exact ⟨fun q=>⟨q.1,fun e=>by have:=h.one ht hp e; rw [this] at q; omega⟩,fun q=>⟨q.1,fun e=>by have:=h.one hs hp e; rw [this] at q; omega⟩⟩
 unfold cY
 congr 1
 funext k
 rw [gi,uv (h.at hs),uv (h.at hs)]
 constructor<;>rintro ⟨x,A,B,E,F⟩<;>(have:x=s.Lo:=by omega)<;>subst this<;>exact ⟨s.Lo,A,B,I,I⟩
end
section
variable {r:bY} {a b i:Int} {s t:aa}
/-- what is known of two sleds that have sums -/
structure Pr (r:bY) (a b:Int) (s t:aa):Prop where
 ne:a≠b
 P5:nX (ax r)
 sa:(ax r).lookup a=some s
 sb:(ax r).lookup b=some t
 ea:j7 r a=0
 eb:j7 r b=0
 va:pO r a=s
 vb:pO r b=t
 ra:gM r a=cY (ax r) a s
 rb:gM r b=cY (ax r) b t
 Wb:wD r a b=BP s t
 Kx:wD r b a=BP t s
 tied:qZ r a b=sU s t
theorem Bu (he:cV r=0) (hi:pj r i) (hl:(ax r).lookup i=some s):j7 r i=0∧pO r i=s∧gM r i=cY (ax r) i s:=by
 have h:j7 r i=0:=by unfold j7; rw [if_pos he,if_pos hi,hl]; rfl
 have A:aC (ax r) i=s:=by unfold aC; rw [hl]; rfl
 exact ⟨h,by unfold pO; rw [if_pos h,A],by rw [zw h,A]⟩
theorem Pr.tie (h:Pr r a b s t) (e:qZ r a b=2):s=t∧s.Lo=s.Hi∧gM r a=gM r b∧wD r a b=0∧wD r b a=0:=by
 rw [h.tied] at e
 unfold sU at e
 split at e
 ·rename_i q
  obtain ⟨rfl,q⟩:=q
  have hb:BP s s=0:=by unfold BP; rw [if_neg I,if_neg I]
  exact ⟨U,q,by rw [h.ra,h.rb,Hc h.P5 h.sa h.sb q],h.Wb.trans hb,h.Kx.trans hb⟩
 ·split at e<;>cases e
end
end
section
section
variable {r:bY} {h i:Nat} {ht:List au} {d:au} {bl:List Int} {n:Int} {out:Bool}
structure MO (r:bY) (h i:Nat) (d:au):Prop where
 off:d.Out=true→m0 r ↑h ↑i=6
 on:d.Out=false→m0 r ↑h ↑i=0∧iG r ↑h ↑i=dF r.an d
 b:0≤(iG r ↑h ↑i).Lo∧(iG r ↑h ↑i).Lo≤(iG r ↑h ↑i).Hi∧(iG r ↑h ↑i).Hi≤86400000
 at_:(r.ao[h]?).bind (·[i]?)=some d
theorem MO.same (q:MO r h i d):d.Out=decide (m0 r ↑h ↑i=6):=by
 cases ho:d.Out with
 |true=>rw [q.off ho]; rfl
 |false=>rw [(q.on ho).1]; rfl
end
/-- the sums of the first sleds -/
noncomputable def kd (r:bY) (i:Nat):g0:=(List.range i).filterMap fun q=>(fm r.an r.ao q r.ao.length).map fun s=>((q:Int),s)
section
variable {r:bY} {i:Nat} {k:Int}
theorem vM:kd r (i+1)=kd r i++((fm r.an r.ao i r.ao.length).map fun s=>((i:Int),s)).toList:=by
 unfold kd
 rw [List.range_succ,List.filterMap_append]
 cases h:fm r.an r.ao i r.ao.length<;>simp [h]
theorem Eu:(kd r i).lookup (i:Int)=none:=by
 rw [ik]
 intro p hp e
 unfold kd at hp
 obtain ⟨q,hq,A⟩:=List.mem_filterMap.1 hp
 obtain ⟨s,_,rfl⟩:=Option.map_eq_some_iff.1 A
 have:=List.mem_range.1 hq
 simp only at e; omega
theorem CI (hi:i<r.aK.length):(ax r).lookup (i:Int)=fm r.an r.ao i r.ao.length:=by unfold ax; rw [wh,if_pos hi]
theorem Cn (he:cV r=0) (hi:pj r k):(j7 r k=0∧((ax r).lookup k).isSome=true)∨(j7 r k=6∧((ax r).lookup k).isSome=false):=by
 cases h:((ax r).lookup k).isSome with
 |true=>exact .inl ⟨GI he hi h,rfl⟩
 |false=>exact .inr ⟨zi he hi h,rfl⟩
theorem C_ (he:cV r=0) (hi:i<r.aK.length) (h:j7 r (i:Int)=0):eP (kd r i) (i:Int) (pO r (i:Int))=kd r (i+1):=by
 obtain ⟨_,A,hl⟩:=uW h
 obtain ⟨s,hs⟩:=Option.ne_none_iff_exists'.1 hl
 have e:fm r.an r.ao i r.ao.length=some s:=(CI hi).symm.trans hs
 have hv:=(Bu he A hs).2.1
 rw [vM,e,hv]
 unfold eP; rw [Eu]; rfl
theorem Af (he:cV r=0) (hi:i<r.aK.length) (h: ¬ j7 r (i:Int)=0):kd r i=kd r (i+1):=by
 have A:pj r (i:Int):=by unfold pj; omega
 rcases Cn he A with ⟨C,_⟩|⟨_,B⟩
 ·exact absurd C h
 ·rw [CI hi] at B
  rw [vM,Option.isSome_eq_false_iff.1 B |> Option.isNone_iff_eq_none.1]
  simp
end
end
section
def x3 (s t:aa):Prop:=s.Lo≤t.Lo∧t.Lo≤t.Hi∧t.Hi≤s.Hi
/-- sums of the same sleds, each within the old one -/
structure Hx (m m':g0):Prop where
 ok:nX m
 ok':nX m'
 keys:m'.map (·.1)=m.map (·.1)
 V6: ∀ (k:Int) s s',m.lookup k=some s→m'.lookup k=some s'→x3 s s'
section
variable {m m':g0} {i k n:Int} {s t own:aa}
theorem uf {m:g0} (h:k∈m.map (·.1)): ∃ s,m.lookup k=some s:=by
 obtain ⟨p,hp,rfl⟩:=bW.1 h
 cases e:m.lookup p.1 with
 |some s=>exact ⟨s,rfl⟩
 |none=>exact absurd rfl ((ik.1 e) p hp)
theorem gW {m:g0} (h:m.lookup k=some s):aC m k=s:=by unfold aC; rw [h]; rfl
theorem zP (h:nX m):iK m i n=(m.map (·.1)).countP fun k=>decide ((aC m k).Hi<n)&& !decide (k=i):=by
 rw [np,List.countP_map]
 apply List.countP_congr
 intro p hp
 have:aC m p.1=p.2:=gW (wN h.nd hp)
 simp only [Function.comp,this]
theorem ui (h:nX m):j5 m i n=(m.map (·.1)).countP fun k=>decide ((aC m k).Lo<n)&& !decide (k=i):=by
 rw [pZ,List.countP_map]
 apply List.countP_congr
 intro p hp
 have:aC m p.1=p.2:=gW (wN h.nd hp)
 simp only [Function.comp,this]
theorem Hx.look (h:Hx m m') (hs:m.lookup k=some s): ∃ s',m'.lookup k=some s'∧x3 s s':=by
 obtain ⟨s',e⟩:=uf (m:=m') (k:=k) (by rw [h.keys]; exact bW.2 ⟨_,uh hs,rfl⟩)
 exact ⟨s',e,h.V6 k s s' hs e⟩
theorem Hx.back (h:Hx m m') (hs:m'.lookup k=some t): ∃ s,m.lookup k=some s∧x3 s t:=by
 obtain ⟨s,e⟩:=uf (m:=m) (k:=k) (by rw [← h.keys]; exact bW.2 ⟨_,uh hs,rfl⟩)
 exact ⟨s,e,h.V6 k s t e hs⟩
theorem Hx.may (h:Hx m m'):j5 m' i n≤j5 m i n:=by
 rw [ui h.ok,ui h.ok',h.keys]
 refine List.countP_mono_left fun k hk q=>?_
 obtain ⟨s,hs⟩:=uf hk
 obtain ⟨s',hs',hw⟩:=h.look hs
 rw [gW hs'] at q
 rw [gW hs]
 unfold x3 at hw
 simp only [cW,decide_eq_true_eq] at q ⊢
 exact ⟨I,q.2⟩
end
def Vd (l l':bf) (d d':au):Prop:=d.Out=d'.Out∧(d.Out=false→x3 (dF l d) (dF l' d'))
structure VU (l l':bf) (H H':List (List au)) (q:Nat):Prop where
 len: ∀ k:Nat,((H'[k]?).bind (·[q]?)).isSome=((H[k]?).bind (·[q]?)).isSome
 Wn: ∀ (k:Nat) d d',(H[k]?).bind (·[q]?)=some d→(H'[k]?).bind (·[q]?)=some d'→Vd l l' d d'∧0≤(dF l d).Lo
theorem Ak {r:bY}:(ax r).map (·.1)=((List.range r.aK.length).filter fun (q:Nat)=>(fm r.an r.ao q r.ao.length).isSome).map fun (q:Nat)=>(q:Int):=by
 unfold ax eL
 generalize List.range r.aK.length=L
 induction L with
 |nil=>rfl
 |cons q L ih=>
  cases e:fm r.an r.ao q r.ao.length with
  |none=>simp only [List.filterMap_cons,List.filter_cons,e,Option.map_none,Option.isSome_none]; simpa using ih
  |some s=>simp only [List.filterMap_cons,List.filter_cons,e,Option.map_some,Option.isSome_some,if_true,List.map_cons,ih]
end
section
section
variable {r:bY} {h i k:Int} {t s u:aa} {d:au} {q n:Nat}
theorem tH (e:eV r h i t=0):(ax (eC r h i t)).map (·.1)=(ax r).map (·.1):=by
 obtain ⟨he,A⟩:=lh e
 rw [Ak,Ak,show (eC r h i t).ao.length=r.ao.length from gQ]
 congr 1
 apply List.filter_congr
 intro q hq
 exact rU (nF A).2.2 _
theorem vm (e:eV r h i t=0) (hk:k≠i):(ax (eC r h i t)).lookup k=(ax r).lookup k:=by
 obtain ⟨he,A⟩:=lh e
 have hb:=(nF A).1.2
 unfold pj at hb
 unfold ax
 rw [GM,GM,show (eC r h i t).ao.length=r.ao.length from gQ]
 show (if 0≤k∧k<(r.aK.length:Int) then fm r.an (fR r.ao h i t) k.toNat r.ao.length else none)=_
 split
 ·exact qb I _
 ·rfl
/-- counts that one key alone could change -/
theorem JC {L:List Int} {P Q:Int→Bool} (h: ∀ k∈L,P k=Q k):L.countP P=L.countP Q:=by
 apply List.countP_congr
 intro k hk
 rw [h k hk]
/-- a sled that was surely before, and is, or was surely behind, and is, has the ranks that it had -/
theorem Nl (e:eV r h i t=0) (hk:k≠i) {o m:aa} (hs:(ax r).lookup k=some s) (h0:(ax r).lookup i=some o) (h1:(ax (eC r h i t)).lookup i=some m) (hf:(s.Hi<o.Lo∧s.Hi<m.Lo)∨(o.Hi<s.Lo∧m.Hi<s.Lo)):cY (ax r) k s=cY (ax (eC r h i t)) k s:=by
 have he:=(lh e).1
 have ok:=FY he
 have ok':=FY (pg e)
 have D:=ok.at h0
 have E:=ok'.at h1
 have hl:=congrArg List.length (tH e)
 rw [List.length_map,List.length_map] at hl
 have A: ∀ j,j≠i→aC (ax (eC r h i t)) j=aC (ax r) j:=fun j hj=>by unfold aC; rw [vm e hj]
 have key: ∀ x,s.Lo≤x→x≤s.Hi→iK (ax (eC r h i t)) k x=iK (ax r) k x∧j5 (ax (eC r h i t)) k x=j5 (ax r) k x:=fun x B C=>by
  rw [zP ok,zP ok',ui ok,ui ok',tH e]
  constructor<;>refine JC fun j hj=>?_
  ·by_cases c:j=i
   ·subst c; rw [gW h0,gW h1]; congr 1; rw [gi]; omega
   ·rw [A j c]
  ·by_cases c:j=i
   ·subst c; rw [gW h0,gW h1]; congr 1; rw [gi]; omega
   ·rw [A j c]
 have hs':(ax (eC r h i t)).lookup k=some s:=by rw [vm e hk]; exact hs
 unfold cY
 rw [hl]
 congr 1
 funext j
 rw [gi,uv (ok.at hs),uv (ok.at hs)]
 constructor<;>rintro ⟨x,B,C,F,G⟩<;>(have:=key x B C)<;>exact ⟨x,B,C,I,I⟩
end
end
section
open Go.RowKit
noncomputable def wk (r:bY) (h i:Int) (t:aa) (q:Nat):Bool:=((ax r).lookup (q:Int)).isSome&& !decide (cY (ax r) (q:Int) (aC (ax r) (q:Int))=cY (ax (eC r h i t)) (q:Int) (aC (ax (eC r h i t)) (q:Int)))
noncomputable def ng (r:bY) (h i:Int) (t:aa) (k:Nat):List Int:=((List.range k).filter (wk r h i t)).map fun (q:Nat)=>(q:Int)
section
variable {r:bY} {h i:Int} {t:aa} {k:Nat}
theorem o_ (hb:wk r h i t k=true):ng r h i t (k+1)=ng r h i t k++[(k:Int)]:=by unfold ng; rw [List.range_succ,List.filter_append,List.map_append]; simp [hb]
theorem nt (hb:wk r h i t k=false):ng r h i t (k+1)=ng r h i t k:=by unfold ng; rw [List.range_succ,List.filter_append,List.map_append]; simp [hb]
theorem qE (h1:((ax r).lookup (k:Int)).isSome=true) (h2: ¬ cY (ax r) (k:Int) (aC (ax r) (k:Int))=cY (ax (eC r h i t)) (k:Int) (aC (ax (eC r h i t)) (k:Int))):wk r h i t k=true:=by unfold wk; rw [h1,bx h2]; rfl
theorem AW (h1:((ax r).lookup (k:Int)).isSome=false):wk r h i t k=false:=by unfold wk; rw [h1]; rfl
theorem Bx (h2:cY (ax r) (k:Int) (aC (ax r) (k:Int))=cY (ax (eC r h i t)) (k:Int) (aC (ax (eC r h i t)) (k:Int))):wk r h i t k=false:=by unfold wk; rw [dK h2]; simp
theorem D9:dA ((ax r).map (·.1))=((List.range r.aK.length).filter fun (q:Nat)=>((ax r).lookup (q:Int)).isSome).map fun (q:Nat)=>(q:Int):=by
 refine pw ks ?_ (fp.nodup_iff.2 mh) ?_ fun x=>?_
 ·rw [List.pairwise_map]
  exact ((List.pairwise_lt_range (n:=r.aK.length)).filter _).imp fun h=>by omega
 ·refine List.Pairwise.map _ ?_ (List.Pairwise.filter _ (List.nodup_range (n:=r.aK.length)))
  intro a b h e
  exact h I
 ·rw [fp.mem_iff]
  constructor
  ·intro hx
   obtain ⟨v,hv,rfl⟩:=bW.1 hx
   obtain ⟨q,hq,e,_⟩:=u6 hv
   refine bW.2 ⟨q,List.mem_filter.2 ⟨List.mem_range.2 hq,?_⟩,e.symm⟩
   show ((ax r).lookup (q:Int)).isSome=true
   rw [← e]; exact Option.isSome_iff_exists.2 ⟨v.2,(pL mh).1 hv⟩
  ·intro hx
   obtain ⟨q,hq,rfl⟩:=bW.1 hx
   obtain ⟨v,hv⟩:=Option.isSome_iff_exists.1 (List.mem_filter.1 hq).2
   exact bW.2 ⟨_,(pL mh).2 hv,U⟩
theorem qW (e:eV r h i t=0):ng r h i t r.aK.length=dR r h i t:=by
 rw [x4 e,D9]
 unfold ng
 rw [List.filter_map,List.filter_filter]
 congr 1
 refine List.filter_congr fun q _=>?_
 unfold wk
 simp only [Function.comp]
 exact Bool.and_comm _ _
end
/-- there is a table -/
theorem Am {r:bY} (he:cV r=0): ∃ G,iH (aC (ax r)) ((ax r).map (·.1)) G∧De G:=by
 have key: ∀ (L:List Int),En (fun u=>(aC (ax r) u).Lo) L→ ∀ i,i≤L.length→ ∃ G last,mK (aC (ax r)) (L.take i) G last:=fun L B i=>by
  induction i with
  |zero=>intro _; exact ⟨[],-1,FQ⟩
  |succ i ih=>
   intro hi
   obtain ⟨G,last,hG⟩:=ih I
   have hx:L[i]? =some (L[i]'I):=e7 _
   have C:=g6 (i:=L[i]'I) (nZ he)
   by_cases hl:last<(aC (ax r) (L[i]'I)).Lo
   ·obtain ⟨g,hg⟩: ∃ g,(G++[[]])[(G++[([]:List Int)]).length-1]? =some g:=⟨_,e7 sm⟩
    exact ⟨_,_,pU I hx hg hG hl⟩
   ·have hp:=F0 C.1 hG hl
    obtain ⟨g,hg⟩: ∃ g,G[G.length-1]? =some g:=⟨_,e7 I⟩
    exact ⟨_,_,oV I (fun u _=>(g6 (i:=u) (nZ he)).2.1) B hx hg hG hl⟩
 obtain ⟨G,last,hG⟩:=key (eN (fun u=>(aC (ax r) u).Lo) ((ax r).map (·.1))) u0 _ (Nat.le_refl _)
 have A:=vG hG.ok
 rw [List.take_length] at A
 exact ⟨_,qH A.1 qS,A.2⟩
theorem Hk {r:bY} {h i:Int} {t:aa} (hg: ¬ kW r): ¬ kW (eC r h i t):=by
 have A:=uC hg
 rintro ((q|q|q|q)|⟨x,hx,q⟩)
 ·exact A.1 q
 ·have:=A.2.1; have e:(eC r h i t).aK=r.aK:=rfl; rw [e] at q; omega
 ·have:=A.2.2.1; have e:(eC r h i t).bL=r.bL:=rfl; rw [e] at q; omega
 ·have:=A.2.2.2.1
  have e:(eC r h i t).ao.length=r.ao.length:=gQ
  rw [e] at q; omega
 ·obtain ⟨k,hk⟩:=List.mem_iff_getElem?.1 hx
  obtain ⟨y,hy,hl,hm⟩:=xg hk
  have B:=A.2.2.2.2 y (aS hy)
  rcases q with q|⟨d,hd,q⟩
  ·rw [hl] at q; omega
  ·rcases hm d hd with c|rfl
   ·have:=B.2 d c; omega
   ·simp [iY] at q
theorem vX {r:bY}:(dU r).length≤1000000∧ ∀ l∈dU r,l.length≤1000000:=by
 by_cases he:cV r=0
 ·have E:(ax r).length≤5:=pB he
  have A: ∃ G,iH (aC (ax r)) ((ax r).map (·.1)) G∧De G:=by
   refine Classical.byContradiction fun hn=>?_
   exact hn (Am he)
  obtain ⟨G,hG,hA⟩:=A
  rw [← ux he hG hA]
  have C:=hG.perm.length_eq
  rw [List.length_map] at C
  have B: ∀ G:List (List Int),(∀ g∈G,g≠[])→G.length≤G.flatten.length:=fun G=>by
   induction G with
   |nil=>intro _; simp
   |cons g G ih=>
    intro hG
    have B:=ih fun y hy=>hG y (c_ _ hy)
    have D:=List.length_pos_iff.2 (hG g bZ)
    simp only [List.flatten_cons,List.length_cons,List.length_append]; omega
  refine ⟨by have:=B G hG.some_; omega,fun l hl=>?_⟩
  have D:l.length≤G.flatten.length:=(List.sublist_flatten_of_mem hl).length_le
  omega
 ·rw [BJ he]; simp
theorem qI {r:bY} {h i:Int} {t:aa}:(dR r h i t).length≤r.aK.length:=by
 unfold dR
 split
 ·refine Nat.le_trans (List.length_filter_le _ _) ?_
  rw [gF,List.length_map]
  exact vk
 ·simp
end
section
section
variable {r:bY} {h i k:Int} {t s s':aa} {q n:Nat}
theorem Gr: ∀ m,∃ l,ng r h i t (q+m)=ng r h i t q++l
 |0=>⟨[],sm⟩
 |m+1=>by
  obtain ⟨l,e⟩:=Gr m
  cases hb:wk r h i t (q+m) with
  |true=>exact ⟨l++[((q+m:Nat):Int)],by rw [show q+(m+1)=(q+m)+1 from rfl,o_ hb,e,List.append_assoc]⟩
  |false=>exact ⟨l,by rw [show q+(m+1)=(q+m)+1 from rfl,nt hb,e]⟩
theorem Qp (e:eV r h i t=0) (hb:wk r h i t q=true) (hq:q<r.aK.length):(dR r h i t)[(ng r h i t q).length]? =some (q:Int):=by
 obtain ⟨l,hl⟩:=Gr (r:=r) (h:=h) (i:=i) (t:=t) (q:=q+1) (r.aK.length-(q+1))
 rw [show q+1+(r.aK.length-(q+1))=r.aK.length by omega,qW e,o_ hb] at hl
 rw [hl,List.append_assoc,List.getElem?_append_right (Nat.le_refl _),Nat.sub_self]; rfl
theorem JX (e:eV r h i t=0) (hn:(ax r).lookup i=none):ax (eC r h i t)=ax r:=by
 obtain ⟨he,B⟩:=lh e
 have hb:=(nF B).1.2
 unfold pj at hb
 have hi:(i.toNat:Int)=i:=by omega
 have A:fm r.an r.ao i.toNat r.ao.length=none:=by
  have C:=(show (ax r).lookup (i.toNat:Int)=_ from by unfold ax; rw [wh,if_pos (show i.toNat<r.aK.length by omega)])
  rw [hi,hn] at C; exact C.symm
 unfold ax eL
 show (List.range r.aK.length).filterMap (fun q=>(fm r.an (fR r.ao h i t) q (fR r.ao h i t).length).map fun s=>((q:Int),s))=_
 rw [gQ]
 apply l8
 intro u hu
 by_cases c:u=i.toNat
 ·subst c
  have D:=rU (t:=t) (l:=r.an) (q:=i.toNat) (nF B).2.2 r.ao.length
  rw [A] at D ⊢
  rw [Option.isSome_eq_false_iff.1 D |> Option.isNone_iff_eq_none.1]
 ·rw [qb c]
/-- who is touched, and is another one, has the sum that it had, and it is near -/
theorem yD (e:eV r h i t=0) (hk: ¬ k=i) (hs:(ax r).lookup k=some s) (hd: ¬ cY (ax r) k (aC (ax r) k)=cY (ax (eC r h i t)) k (aC (ax (eC r h i t)) k)):
 aC (ax (eC r h i t)) k=s∧ ¬ s.Hi<min (aC (ax r) i).Lo (aC (ax (eC r h i t)) i).Lo∧ ¬ s.Lo>max (aC (ax r) i).Hi (aC (ax (eC r h i t)) i).Hi:=by
 have A:(ax (eC r h i t)).lookup k=some s:=(vm e hk).trans hs
 rw [gW hs,gW A] at hd
 refine ⟨gW A,?_⟩
 cases ho:(ax r).lookup i with
 |none=>rw [JX e ho] at hd; exact absurd rfl hd
 |some o=>
  have hm:((ax (eC r h i t)).lookup i).isSome=true:=by
   rw [Option.isSome_iff_exists]
   have B:i∈(ax (eC r h i t)).map (·.1):=by rw [tH e]; exact bW.2 ⟨_,uh ho,rfl⟩
   exact uf B
  obtain ⟨m,hm⟩:=Option.isSome_iff_exists.1 hm
  rw [gW ho,gW hm]
  have C: ¬ ((s.Hi<o.Lo∧s.Hi<m.Lo)∨(o.Hi<s.Lo∧m.Hi<s.Lo)):=fun q=>hd (Nl e hk hs ho hm q)
  omega
theorem JY (he:cV r=0) (hir:(0≤h∧h≤(r.ao.length:Int)-1)∧pj r i) (hf:iP t): ∃ ht,r.ao[h.toNat]? =some ht∧ ∃ d,ht[i.toNat]? =some d∧(d.Out=true→eV r h i t=8)∧(d.Out=false→eV r h i t=0):=by
 have B:=(iw he).2
 have hi:=hir.2
 unfold pj at hi
 obtain ⟨ht,A⟩: ∃ y,r.ao[h.toNat]? =some y:=⟨r.ao[h.toNat]'I,e7 _⟩
 have hl:=(B.kb ht (aS A)).1
 obtain ⟨d,hd⟩: ∃ y,ht[i.toNat]? =some y:=⟨ht[i.toNat]'I,e7 _⟩
 refine ⟨ht,A,d,hd,fun q=>?_,fun q=>?_⟩
 ·unfold eV; rw [if_pos he]; unfold p9; rw [if_pos ⟨hir,hf⟩,A]; simp [hd,q]
 ·unfold eV; rw [if_pos he]; unfold p9; rw [if_pos ⟨hir,hf⟩,A]; simp [hd,q]
end
end
section
open Go.RowKit
section
variable {K:Type} [DecidableEq K] {kV:K→Value}
variable {E:fq} {ops:Array Oper} {Q:dk} {rest:List Oper} {D:List Deferred} {L:List (Nat×Value)} {C:List aw}
variable {ty:TypeId} {ps:String} {af:Array Edge} {g:Option (Nat×Bool)}
theorem qj {t kt et:TypeId} {xm xk:Operand} {ts:Array TypeId} {b:Nat} {x:K} {m m':List (K×Value)} {C':List aw} (i:Nat) (hg:jM ops L g=true) (hm:ev L xm=some (.map (some b))) (hk:ev L xk=some (kV x)) (hts:ts[0]? =some t)
 (ht:E.P.underlying t=some (.map kt et)) (hkt:uQ E.P kt kV) (hC:C[i]? =some (im kV b m)) (hm':cJ m x=m') (hC':C.set i (im kV b m')=C') (k:RJ E ops Q rest D L C'):
 RJ E ops Q (⟨none,.call {callee:= .builtin .delete,args:= #[xm,xk],argTypes:=ts},ty,ps,af,g⟩::rest) D L C:=by
 subst hm' hC'
 intro a w A hs
 unfold sH
 rw [if_pos (eo A hg)]
 obtain ⟨es,c,he,hi⟩:=hs.holds _ (aS hC)
 have B:(getObj b).run E.P w= .ok (.map es c) w:=MapKept.run_getObj_map he
 rcases o7 (P:=E.P) (w:=w) (x:=x) hkt hi with ⟨F,G⟩|⟨j,AA,F,G,H⟩
 ·refine g4 (v:= .tuple #[]) (w':={w with heap:=w.heap.setIfInBounds b (.map es c)}) sm ?_ ?_
  ·simp [execOp,resolve,invoke,builtin,A.ev hm,A.ev hk,Builtin.delete_,hts,run_underlying ht,B,jc hkt,F,MapKept.run_setObj_map _ he]
  ·refine k _ _ ⟨A.defers,A.size,A.at_⟩ (hs.DV (b:=b) i hC U U (nG _) (fun _ h=>h) ⟨_,_,pH he,?_⟩)
   rw [Ep G]; exact hi
 ·refine g4 (v:= .tuple #[]) (w':={w with heap:=w.heap.setIfInBounds b (.map (es.eraseIdxIfInBounds j) c)}) sm ?_ ?_
  ·simp [execOp,resolve,invoke,builtin,A.ev hm,A.ev hk,Builtin.delete_,hts,run_underlying ht,B,jc hkt,F,MapKept.run_setObj_map _ he]
  ·exact k _ _ ⟨A.defers,A.size,A.at_⟩ (hs.DV (b:=b) i hC U U (nG _) (fun _ h=>h) ⟨_,_,pH he,hi.del G⟩)
end
end
section
open Go.RowKit
/-- a row is taken that was made before; an operation -/
inductive fU where
 |take (i:Nat)
 |op (j:Nat)
def fU.ix:fU→Nat
 | .take i=>i
 | .op j=>j
def CA (dO:Nat→Nat):List fU→List Nat
 |[]=>[]
 | .take i::s=>dO i::CA dO s
 | .op _::s=>CA dO s
theorem tQ {dO:Nat→Nat} {i:Nat}: ∀ {s:List fU},fU.take i∈s→dO i∈CA dO s
 | .take k::s,h=>by
  rcases bE.1 h with e|h
  ·cases e; exact bZ ..
  ·exact c_ _ (tQ h)
 | .op k::s,h=>by
  rcases bE.1 h with e|h
  ·cases e
  ·exact tQ (s:=s) h
def rB (m:Array Nat) (dO:Nat→Nat) (x y:fU):Bool:=x.ix != y.ix&&(match y with | .op j=>iL m x.ix j| .take i=>match x with | .take k=>dO k != dO i| .op _=>true)
def UR (m:Array Nat) (dO:Nat→Nat):List fU→Bool
 |[]=>true
 |x::s=>s.all (rB m dO x)&&UR m dO s
theorem Gy {m:Array Nat} {dO:Nat→Nat}: ∀ {s:List fU},UR m dO s=true→s.Pairwise fun x y=>rB m dO x y=true
 |[],_=>List.Pairwise.nil
 |x::s,h=>by
  simp only [UR,cW] at h
  exact List.Pairwise.cons (fun y hy=>cZ.1 h.1 y hy) (Gy h.2)
/-- what is known of the slots B is known in L -/
def BZ (B L:dw):Prop:= ∀ t v,B.lookup t=some v→L.lookup t=some v
theorem wK {B L:dw} (h:B.map (fun p=>L.lookup p.1)=B.map (fun p=>some p.2)):BZ B L:=by
 induction B with
 |nil=>intro t v h; simp at h
 |cons p B ih=>
  obtain ⟨k,u⟩:=p
  simp only [List.map_cons,List.cons.injEq] at h
  intro t v hl
  by_cases e:t=k
  ·subst e
   simp only [List.lookup,beq_self_eq_true,Option.some.injEq] at hl
   rw [h.1,hl]
  ·have:(t==k)=false:=by simpa using e
   simp only [List.lookup,this] at hl
   exact ih h.2 t v hl
theorem oo {L Y:dw} {t:Nat}:(L++Y).lookup t=match L.lookup t with |some v=>some v|none=>Y.lookup t:=by
 induction L with
 |nil=>rfl
 |cons p L ih=>
  obtain ⟨k,u⟩:=p
  by_cases e:t==k
  ·simp [List.lookup,e]
  ·have:(t==k)=false:=by simpa using e
   simp only [List.cons_append,List.lookup,this,ih]
theorem BZ.app {B L Y:dw} (h:BZ B L):BZ B (L++Y):=fun t v ht=>by rw [oo,h t v ht]
theorem QF {B L:dw} (h:BZ B L) {x:Operand} {v:Value} (hv:ev B x=some v):ev L x=some v:=by
 cases x<;>simp only [ev] at hv ⊢ <;>first|exact h _ _ hv|exact hv
theorem Gz {B L:dw} (h:BZ B L): ∀ {xs:List Operand} {vs:List Value},evs B xs=some vs→evs L xs=some vs
 |[],vs,hv=>hv
 |x::xs,vs,hv=>by
  simp only [evs] at hv ⊢
  cases e1:ev B x with
  |none=>rw [e1] at hv; simp at hv
  |some v=>
   cases e2:evs B xs with
   |none=>rw [e1,e2] at hv; simp at hv
   |some us=>
    rw [e1,e2] at hv
    rw [QF h e1,Gz h e2]; exact hv
section
variable (E:fq) (ops:Array Oper) (D:List Deferred) (C':List aw) (K0:Act→World→Prop) (B:List (Nat×Value)) (dO:Nat→Nat) (VO:Nat→Nat→Value) (AO:Nat→Nat→aw)
def CH:List fU→dw→List aw→Prop
 |[],L,C=>KJ E K0 D L C
 | .take i::s,L,C=> ∀ b,CH s ((dO i,VO i b)::L) (AO i b::C)
 | .op j::s,L,C=> ∀ o,ops[j]? =some o→ ∀ (Y:dw) (X:List aw) (K:Act→World→Prop),(∀ L' C'',(∀ w,St E.S E.w0 C'' w→St E.S E.w0 C' w)→((CA dO s).all fun d=>(L'.lookup d).isNone)=true→B.map (fun p=>L'.lookup p.1)=B.map (fun p=>some p.2)→CH s L' C''→KJ E K D (L'++Y) (C''++X))→RJ E ops (NQ K) [o] D (L++Y) (C++X)
/-- a row that is made at any time -/
def Sv (i:Nat):Prop:= ∀ o,ops[i]? =some o→ ∀ (L:dw) (C:List aw) (K:Act→World→Prop),BZ B L→(∀ b,KJ E K D ((dO i,VO i b)::L) (AO i b::C))→RJ E ops (NQ K) [o] D L C
end
section
variable {E:fq} {ops:Array Oper} {D:List Deferred} {C' C1:List aw} {K0:Act→World→Prop} {B:List (Nat×Value)} {dO:Nat→Nat} {VO:Nat→Nat→Value} {AO:Nat→Nat→aw}
theorem F9 {Q:dk} {rest:List Oper} {L L2:dw} {C C2:List aw} (hL: ∀ a,Fr E.n D L a→Fr E.n D L2 a) (hC: ∀ w,St E.S E.w0 C w→St E.S E.w0 C2 w) (h:RJ E ops Q rest D L2 C2):RJ E ops Q rest D L C:=fun a w hf hs=>h a w (hL a hf) (hC w hs)
theorem Bs {K:Act→World→Prop} {L L2:dw} {C C2:List aw} (hL: ∀ a,Fr E.n D L a→Fr E.n D L2 a) (hC: ∀ w,St E.S E.w0 C w→St E.S E.w0 C2 w) (h:KJ E K D L2 C2):KJ E K D L C:=fun a w hf hs=>h a w (hL a hf) (hC w hs)
theorem BM {n:Nat} {L L2:dw} (h: ∀ t v,L2.lookup t=some v→L.lookup t=some v) (a:Act) (hf:Fr n D L a):Fr n D L2 a:=⟨hf.defers,hf.size,fun t v ht=>hf.at_ t v (h t v ht)⟩
theorem El: ∀ (T0 s':List fU) (dn:List (Nat×Nat)) (L Y:dw) (C:List aw),(∀ x∈T0,∃ i b,x= .take i∧(i,b)∈dn)→(T0++s').Pairwise (fun x y=>rB (qu ops) dO x y=true)→(dn.map (·.1)).Nodup→(∀ p∈dn,fU.take p.1∈T0++s')→(∀ p∈dn,Y.lookup (dO p.1)=some (VO p.1 p.2))→(∀ i,fU.take i∈T0++s'→L.lookup (dO i)=none)→
 CH E ops D C' K0 B dO VO AO (T0++s') L C→ ∃ (dn':List (Nat×Nat)) (L':dw) (C2:List aw),CH E ops D C' K0 B dO VO AO s' L' C2∧(dn'.map (·.1)).Nodup∧(∀ p,p∈dn'↔p∈dn∧fU.take p.1∈s')∧(∀ t v,(L'++Y).lookup t=some v→(L++Y).lookup t=some v)∧(∀ i,fU.take i∈s'→L'.lookup (dO i)=none)∧(∀ w,St E.S E.w0 (C++dn.map fun p=>AO p.1 p.2) w→St E.S E.w0 (C2++dn'.map fun p=>AO p.1 p.2) w)
 |[],s',dn,L,Y,C,_,_,hn,hm,_,hl,h=>⟨dn,L,C,h,hn,fun p=>⟨fun q=>⟨q,hm p q⟩,fun q=>q.1⟩,fun t v q=>q,hl,fun w q=>q⟩
 |x::T0,s',dn,L,Y,C,ht,hp,hn,hm,hy,hl,h=>by
  obtain ⟨i,b,rfl,hb⟩:=ht x (bZ ..)
  obtain ⟨J,P⟩:=List.pairwise_cons.1 hp
  have AB: ∀ y∈T0++s',i≠y.ix:=fun y hy e=>by
   have:=J y hy
   simp only [rB,cW,bne_iff_ne,fU.ix] at this
   exact this.1 e
  have N: ∀ k,fU.take k∈T0++s'→dO k≠dO i:=fun k hk e=>by
   have:=J _ hk
   simp only [rB,cW,bne_iff_ne] at this
   exact this.2 e.symm
  have K:dn.Perm ((i,b)::dn.erase (i,b)):=List.perm_cons_erase hb
  have H:((dn.erase (i,b)).map (·.1)).Nodup∧i ∉ (dn.erase (i,b)).map (·.1):=by
   have:=(K.map (·.1)).nodup_iff.1 hn
   exact ⟨(List.nodup_cons.1 this).2,(List.nodup_cons.1 this).1⟩
  have A: ∀ p∈dn.erase (i,b),p∈dn∧p.1≠i:=fun p hp=>⟨List.mem_of_mem_erase hp,fun e=>by have q:=List.mem_map_of_mem (f:=fun p:Nat×Nat=>p.1) hp; simp only [e] at q; exact H.2 q⟩
  have O:L.lookup (dO i)=none:=hl i (bZ ..)
  obtain ⟨dn',L',C2,R,T,AA,V,W,X⟩:=El T0 s' (dn.erase (i,b)) ((dO i,VO i b)::L) Y (AO i b::C) (fun x hx=>by
   obtain ⟨k,c,rfl,hk⟩:=ht x (c_ _ hx)
   refine ⟨k,c,U,?_⟩
   have F:k≠i:=fun e=>AB _ (List.mem_append_left _ hx) e.symm
   exact (List.mem_erase_of_ne (fun e=>F (congrArg Prod.fst e))).2 hk) P H.1 (fun p hp=>by
   obtain ⟨M,G⟩:=A p hp
   rcases bE.1 (hm p M) with e|e
   ·injection e with e; exact absurd e G
   ·exact e) (fun p hp=>hy p (A p hp).1) (fun k hk=>by
   have:(dO k==dO i)=false:=by simpa using N k hk
   simp only [List.lookup,this]
   exact hl k (c_ _ hk)) (h b)
  refine ⟨dn',L',C2,R,T,fun p=>?_,fun t v hv=>?_,W,fun w hw=>X w ?_⟩
  ·rw [AA]
   constructor
   ·rintro ⟨M,G⟩; exact ⟨(A p M).1,G⟩
   ·rintro ⟨M,G⟩
    have F:p.1≠i:=fun e=>AB _ (List.mem_append_right _ G) e.symm
    exact ⟨(List.mem_erase_of_ne (fun e=>F (congrArg Prod.fst e))).2 M,G⟩
  ·have:=V t v hv
   rw [oo] at this ⊢
   by_cases e:t=dO i
   ·subst e
    simp only [List.lookup,beq_self_eq_true] at this
    rw [O]; simp only
    rw [hy _ hb]; exact this
   ·have Q:(t==dO i)=false:=by simpa using e
    simp only [List.lookup,Q] at this
    exact this
  ·refine hw.perm ?_
   show (C++dn.map fun p=>AO p.1 p.2).Perm (AO i b::(C++(dn.erase (i,b)).map fun p=>AO p.1 p.2))
   refine ((K.map fun p:Nat×Nat=>AO p.1 p.2).append_left C).trans ?_
   exact List.perm_middle
theorem BW: ∀ (s:List fU) (j:Nat),fU.op j∈s→ ∃ T0 k s',s=T0++fU.op k::s'∧ ∀ x∈T0,∃ i,x=fU.take i
 | .take i::s,j,h=>by
  rcases bE.1 h with e|h
  ·cases e
  ·obtain ⟨T0,k,s',rfl,A⟩:=BW s j h
   exact ⟨.take i::T0,k,s',U,fun x hx=>by
    rcases bE.1 hx with rfl|hx
    ·exact ⟨i,U⟩
    ·exact A x hx⟩
 | .op k::s,j,_=>⟨[],k,s,rfl,fun x hx=>by cases hx⟩
def kM (s:List fU) (dn:List (Nat×Nat)):List Nat:=(s.map fU.ix).filter fun i=> !(dn.map (·.1)).contains i
theorem rT {s:List fU} {dn:List (Nat×Nat)} {i:Nat}:i∈kM s dn↔(∃ x∈s,x.ix=i)∧ ∀ p∈dn,p.1≠i:=by
 unfold kM
 rw [List.mem_filter,bW]
 refine and_congr Iff.rfl ?_
 rw [Bool.not_eq_true',← Bool.not_eq_true,List.contains_iff_mem,bW]
 constructor
 ·intro h p hp e; exact h ⟨p,hp,e⟩
 ·rintro h ⟨p,hp,e⟩; exact h p hp e
theorem ru (hal: ∀ i,Sv E ops D B dO VO AO i∨True): ∀ (n:Nat) (s:List fU) (dn:List (Nat×Nat)) (L Y:dw) (C:List aw),(∀ i,fU.take i∈s→Sv E ops D B dO VO AO i)→s.Pairwise (fun x y=>rB (qu ops) dO x y=true)→(kM s dn).length=n→(dn.map (·.1)).Nodup→(∀ p∈dn,fU.take p.1∈s)→(∀ p∈dn,Y.lookup (dO p.1)=some (VO p.1 p.2))→(∀ i,fU.take i∈s→L.lookup (dO i)=none)→BZ B L→
 (∀ w,St E.S E.w0 C w→St E.S E.w0 C' w)→CH E ops D C' K0 B dO VO AO s L C→TN E ops D C' C1 (fun L C=>KJ E K0 D L C) [] n (kM s dn) (L++Y) (C++dn.map fun p=>AO p.1 p.2)
 |0,s,dn,L,Y,C,_,hp,hlen,hn,hm,hy,hl,hB,hC,h=>by
  have hr:kM s dn=[]:=jS hlen
  have Q: ∀ x∈s,∃ i b,x=fU.take i∧(i,b)∈dn:=fun x hx=>by
   have hx':x.ix ∉ kM s dn:=by rw [hr]; exact List.not_mem_nil
   rw [rT] at hx'
   have: ∃ p∈dn,p.1=x.ix:=by
    apply Classical.byContradiction
    intro q
    exact hx' ⟨⟨x,hx,U⟩,fun p hp e=>q ⟨p,hp,e⟩⟩
   obtain ⟨p,T,AA⟩:=this
   have ht:=hm p T
   rcases List.mem_iff_getElem.1 hx with ⟨a,ha,ea⟩
   rcases List.mem_iff_getElem.1 ht with ⟨c,hc,ec⟩
   have d:a=c:=by
    rcases Nat.lt_trichotomy a c with q|q|q
    ·have:=eW.1 hp a c ha hc q
     simp only [rB,cW,bne_iff_ne,ea,ec] at this
     exact absurd AA.symm this.1
    ·exact q
    ·have:=eW.1 hp c a hc ha q
     simp only [rB,cW,bne_iff_ne,ea,ec] at this
     exact absurd AA this.1
   subst d
   exact ⟨p.1,p.2,by rw [← ea,ec],T⟩
  obtain ⟨dn',L',C2,V,J,O,W,h5,X⟩:=El s [] dn L Y C Q (by simpa using hp) hn (by simpa using hm) hy (by simpa using hl) (by simpa using h)
  show KJ E K0 D _ _
  have hd:dn'=[]:=List.eq_nil_iff_forall_not_mem.2 fun p hp=>by have:=((O p).1 hp).2; cases this
  subst hd
  refine Bs (L2:=L') (C2:=C2) (fun a hf=>BM (fun t v ht=>W t v (by rw [oo,ht])) a hf) (fun w hw=>by have:=X w hw; simpa using this) V
 |n+1,s,dn,L,Y,C,hal',hp,hlen,hn,hm,hy,hl,hB,hC,h=>by
  intro i hi o ho K hK
  obtain ⟨G,m⟩:=List.mem_filter.1 hi
  obtain ⟨⟨x,hx,rfl⟩,H⟩:=rT.1 G
  have A: ∀ k∈kM s dn,iL (qu ops) k x.ix=false:=fun k hk=>by
   have:=cZ.1 m k hk
   simpa using this
  cases x with
  |take i=>
   simp only [fU.ix] at H A ho hK G ⊢
   refine hal' i hx o ho _ _ K hB.app fun b=>?_
   have l:=hl i hx
   have AB:(kM s dn).filter (· != i)=kM s ((i,b)::dn):=by
    unfold kM
    rw [List.filter_filter]
    apply List.filter_congr
    intro k _
    simp only [List.map_cons,List.contains_cons,Bool.not_or]
    rfl
   have N:(kM s dn).Nodup:=by
    unfold kM
    refine List.Nodup.sublist List.filter_sublist<|List.pairwise_map.2 (hp.imp fun {a c} q=>?_)
    simp only [rB,cW,bne_iff_ne] at q
    exact q.1
   have M: ∀ k,fU.take k∈s→k≠i→dO k≠dO i:=fun k hk AC e=>by
    rcases List.mem_iff_getElem.1 hx with ⟨a,ha,ea⟩
    rcases List.mem_iff_getElem.1 hk with ⟨c,hc,ec⟩
    rcases Nat.lt_trichotomy a c with q|q|q
    ·have:=eW.1 hp a c ha hc q
     simp only [rB,cW,bne_iff_ne,ea,ec] at this
     exact this.2 e.symm
    ·subst q; rw [ea] at ec; cases ec; exact AC rfl
    ·have:=eW.1 hp c a hc ha q
     simp only [rB,cW,bne_iff_ne,ea,ec] at this
     exact this.2 e
   refine Bs (L2:=L++((dO i,VO i b)::Y)) (C2:=C++((i,b)::dn).map fun p=>AO p.1 p.2) (fun a hf=>BM (fun t v ht=>?_) a hf) (fun w hw=>hw.perm (List.perm_middle).symm) (hK _ _ (fun w hw=>hC w (hw.take (List.sublist_append_left _ _))) (fun q=>by cases q) ?_)
   ·rw [oo] at ht
    by_cases e:t=dO i
    ·subst e
     rw [l] at ht
     simp only [List.lookup,beq_self_eq_true] at ht ⊢
     exact ht
    ·have e2:(t==dO i)=false:=by simpa using e
     simp only [List.lookup,e2] at ht ⊢
     rw [oo]; exact ht
   ·rw [AB]
    refine ru hal n s ((i,b)::dn) L ((dO i,VO i b)::Y) C hal' hp ?_ (List.nodup_cons.2 ⟨fun q=>?_,hn⟩) (fun p hp'=>?_) (fun p hp'=>?_) hl hB hC h
    ·rw [← AB,← List.Nodup.erase_eq_filter N,List.length_erase_of_mem G,hlen]; rfl
    ·obtain ⟨p,hp',e⟩:=bW.1 q
     exact H p hp' e
    ·rcases bE.1 hp' with rfl|hp'
     ·exact hx
     ·exact hm p hp'
    ·rcases bE.1 hp' with rfl|hp'
     ·simp [List.lookup]
     ·have:(dO p.1==dO i)=false:=by simpa using M p.1 (hm p hp') (H p hp')
      simp only [List.lookup,this]
      exact hy p hp'
  |op j=>
   simp only [fU.ix] at H A ho hK G ⊢
   obtain ⟨T0,k,s',rfl,hT⟩:=BW s j hx
   obtain ⟨q1,q2,q3⟩:=List.pairwise_append.1 hp
   obtain ⟨q4,q5⟩:=List.pairwise_cons.1 q2
   have R: ∀ k',fU.op k'∈T0++fU.op k::s'→k'∈kM (T0++fU.op k::s') dn:=fun k' hk'=>by
    refine rT.2 ⟨⟨_,hk',U⟩,fun p hp' e=>?_⟩
    have ht:=hm p hp'
    rcases List.mem_iff_getElem.1 hk' with ⟨a,ha,ea⟩
    rcases List.mem_iff_getElem.1 ht with ⟨c,hc,ec⟩
    rcases Nat.lt_trichotomy a c with q|q|q
    ·have:=eW.1 hp a c ha hc q
     simp only [rB,cW,bne_iff_ne,ea,ec,fU.ix] at this
     exact this.1 e.symm
    ·subst q; rw [ea] at ec; cases ec
    ·have:=eW.1 hp c a hc ha q
     simp only [rB,cW,bne_iff_ne,ea,ec,fU.ix] at this
     exact this.1 e
   have An:k=j:=by
    apply Classical.byContradiction
    intro Av
    have hj':fU.op j∈s':=by
     rcases dQ.1 hx with q|q
     ·obtain ⟨i,e⟩:=hT _ q; cases e
     ·rcases bE.1 q with e|q
      ·injection e with e; exact absurd e.symm Av
      ·exact q
    have:=q4 _ hj'
    simp only [rB,cW,fU.ix] at this
    have J:=A k (R k sm)
    rw [this.2] at J; cases J
   subst An
   have F: ∀ x∈T0,∃ i b,x=fU.take i∧(i,b)∈dn:=fun x hx'=>by
    obtain ⟨i,rfl⟩:=hT x hx'
    apply Classical.byContradiction
    intro q
    have r:i∈kM (T0++fU.op k::s') dn:=rT.2 ⟨⟨_,List.mem_append_left _ hx',rfl⟩,fun p hp' e=>q ⟨i,p.2,rfl,by rw [← e]; exact hp'⟩⟩
    have:=q3 _ hx' _ (bZ ..)
    simp only [rB,cW,fU.ix] at this
    have J:=A i r
    rw [this.2] at J; cases J
   obtain ⟨dn',L',C2,V,J,O,W,h5,X⟩:=El T0 (fU.op k::s') dn L Y C F hp hn hm hy hl h
   refine F9 (fun a hf=>BM W a hf) X (V o ho Y (dn'.map fun p=>AO p.1 p.2) K fun L3 C3 P A0 Z g=>?_)
   have AB:(kM (T0++fU.op k::s') dn).filter (· != k)=kM s' dn':=by
    unfold kM
    rw [List.map_append,List.filter_append,List.map_cons,List.filter_append]
    have e1:(List.map fU.ix T0).filter (fun i=> !(dn.map (·.1)).contains i)=[]:=by
     apply List.filter_eq_nil_iff.2
     intro z hz
     obtain ⟨x,hx',rfl⟩:=bW.1 hz
     obtain ⟨i,b,rfl,hb⟩:=F x hx'
     simp only [fU.ix,Bool.not_eq_true',Bool.not_eq_false,List.contains_iff_mem]
     exact List.mem_map_of_mem (f:=(·.1)) hb
    rw [e1]
    simp only [List.filter_nil,List.nil_append]
    have u:k ∉ dn.map (·.1):=fun q=>by
     obtain ⟨p,hp',e⟩:=bW.1 q
     exact H p hp' e
    rw [List.filter_cons_of_pos (by simpa [fU.ix] using u),List.filter_cons_of_neg (by simp [fU.ix]),List.filter_filter]
    apply List.filter_congr
    intro z hz
    obtain ⟨y,hy',rfl⟩:=bW.1 hz
    have A1:y.ix≠k:=fun e=>by
     have:=q4 y hy'
     simp only [rB,cW,bne_iff_ne,fU.ix] at this
     exact this.1 e.symm
    rw [Bool.eq_iff_iff]
    simp only [cW,bne_iff_ne,Bool.not_eq_true',← Bool.not_eq_true,List.contains_iff_mem]
    constructor
    ·rintro ⟨_,hq⟩ hc
     obtain ⟨p,hp',e⟩:=bW.1 hc
     exact hq (by rw [← e]; exact List.mem_map_of_mem (f:=(·.1)) ((O p).1 hp').1)
    ·intro hq
     refine ⟨A1,fun hc=>?_⟩
     obtain ⟨p,hp',e⟩:=bW.1 hc
     apply hq
     rw [← e]
     refine List.mem_map_of_mem (f:=(·.1)) ((O p).2 ⟨hp',?_⟩)
     have ht:=hm p hp'
     rcases dQ.1 ht with ht|ht
     ·exfalso
      have:=q3 _ ht _ (c_ _ hy')
      simp only [rB,cW,bne_iff_ne,fU.ix] at this
      exact this.1 e
     ·exact ht
   have N:(kM (T0++fU.op k::s') dn).Nodup:=by
    unfold kM
    refine List.Nodup.sublist List.filter_sublist<|List.pairwise_map.2 (hp.imp fun {a c} q=>?_)
    simp only [rB,cW,bne_iff_ne] at q
    exact q.1
   refine hK _ _ (fun w hw=>P w (hw.take (List.sublist_append_left _ _))) (fun q=>by cases q) ?_
   rw [AB]
   have hdn': ∀ p∈dn',fU.take p.1∈s':=fun p hp'=>by
    rcases bE.1 ((O p).1 hp').2 with e|e
    ·cases e
    ·exact e
   refine ru hal n s' dn' L3 Y C3 (fun i hi=>hal' i (by simp [hi])) q5 ?_ J hdn' (fun p hp'=>hy p ((O p).1 hp').1) (fun i hi=>?_) (wK Z) P g
   ·rw [← AB,← List.Nodup.erase_eq_filter N,List.length_erase_of_mem G,hlen]; rfl
   ·have:=cZ.1 A0 _ (tQ hi)
    simpa using this
/-- the rows, at any time; the others, one after the other -/
theorem Oh {tb rem:List Nat} {L:dw} {C:List aw} (s:List fU) (B:dw) (dO:Nat→Nat) (VO:Nat→Nat→Value) (AO:Nat→Nat→aw) {n:Nat} (htb:tb=[]) (hr:s.map fU.ix=rem) (hn:rem.length=n) (hp:UR (qu ops) dO s=true) (hl:((CA dO s).all fun d=>(L.lookup d).isNone)=true) (hB:B.map (fun p=>L.lookup p.1)=B.map (fun p=>some p.2)) (hC: ∀ w,St E.S E.w0 C w→St E.S E.w0 C' w)
 (hal: ∀ i,fU.take i∈s→Sv E ops D B dO VO AO i) (h:CH E ops D C' K0 B dO VO AO s L C):TN E ops D C' C1 (fun L C=>KJ E K0 D L C) tb n rem L C:=by
 subst htb hr
 have e:kM s []=s.map fU.ix:=by unfold kM; simp
 have:=ru (C1:=C1) (fun i=> .inr trivial) n s [] L [] C hal (Gy hp) (by rw [e]; exact hn) List.nodup_nil (fun p hp=>by cases hp) (fun p hp=>by cases hp) (fun i hi=>by
  have:=cZ.1 hl _ (tQ hi)
  simpa using this) (wK hB) hC h
 simpa [e] using this
theorem Qw {p:Nat→Prop}: ∀ i,fU.take i∈([]:List fU)→p i:=fun i h=>by cases h
theorem xr {p:Nat→Prop} {j:Nat} {s:List fU} (h: ∀ i,fU.take i∈s→p i): ∀ i,fU.take i∈fU.op j::s→p i:=fun i hi=>by
 rcases bE.1 hi with e|hi
 ·cases e
 ·exact h i hi
theorem wP {p:Nat→Prop} {j:Nat} {s:List fU} (hj:p j) (h: ∀ i,fU.take i∈s→p i): ∀ i,fU.take i∈fU.take j::s→p i:=fun i hi=>by
 rcases bE.1 hi with e|hi
 ·cases e; exact hj
 ·exact h i hi
end
section
variable {E:fq} {ops:Array Oper} {D:List Deferred} {B:List (Nat×Value)} {dO:Nat→Nat} {VO:Nat→Nat→Value} {AO:Nat→Nat→aw}
variable {d:Nat} {ty:TypeId} {ps:String} {af:Array Edge}
theorem Ln {i t e sz:Nat} (ho:ops[i]? =some ⟨some d,.buildSlice t 0 #[],ty,ps,af,none⟩) (ht:tE E.P t=some (e,sz)) (hd:Nat.blt d E.n=true) (h1:dO i=d) (h2: ∀ b,VO i b= .slice (some ⟨b,0,none⟩) 0 0) (h3: ∀ b,AO i b=cm b e []):Sv E ops D B dO VO AO i:=fun o ho' L C K hB hk=>by
 rw [ho] at ho'; cases ho'
 exact lW U ht hd fun b=>aD (by have:=hk b; rw [h1,h2,h3] at this; exact this)
theorem PZ {i t e sz n:Nat} {xs:List Operand} {vs:List Value} {cs zs:List Value} (ho:ops[i]? =some ⟨some d,.buildSlice t n ((xs.zipIdx.map fun p=>(p.2,p.1)).toArray),ty,ps,af,none⟩) (ht:tE E.P t=some (e,sz)) (hz:tZ E.P e=some zs) (hx:evs B xs=some vs) (hn:xs.length=n) (hp:Nat.blt 0 (n*sz)=true) (hb:Nat.ble (n*sz) 16777216=true) (hv: ∀ v∈vs,v.cells.size=sz)
 (hc:(vs.map (·.cells.toList)).flatten=cs) (hd:Nat.blt d E.n=true) (h1:dO i=d) (h2: ∀ b,VO i b= .slice (some ⟨b,0,none⟩) n n) (h3: ∀ b,AO i b=cm b e cs):Sv E ops D B dO VO AO i:=fun o ho' L C K hB hk=>by
 rw [ho] at ho'; cases ho'
 exact du U ht hz (Gz hB hx) hn hp hb hv hc hd fun b=>aD (by have:=hk b; rw [h1,h2,h3] at this; exact this)
end
section
variable {E:fq} {ops:Array Oper} {D:List Deferred} {C':List aw} {K0:Act→World→Prop} {B:List (Nat×Value)} {dO:Nat→Nat} {VO:Nat→Nat→Value} {AO:Nat→Nat→aw}
theorem w4 {j:Nat} {s:List fU} {L:dw} {C:List aw} {o:Oper} (ho:ops[j]? =some o)
 (h: ∀ (Y:dw) (X:List aw) (K:Act→World→Prop),(∀ L' C'',(∀ w,St E.S E.w0 C'' w→St E.S E.w0 C' w)→((CA dO s).all fun d=>(L'.lookup d).isNone)=true→B.map (fun p=>L'.lookup p.1)=B.map (fun p=>some p.2)→CH E ops D C' K0 B dO VO AO s L' C''→KJ E K D (L'++Y) (C''++X))→RJ E ops (NQ K) [o] D (L++Y) (C++X)):CH E ops D C' K0 B dO VO AO (.op j::s) L C:=fun o' ho'=>by
 rw [ho] at ho'; cases ho'
 exact h
theorem tq {s:List fU} {L Y:dw} {C X:List aw} {K:Act→World→Prop} (hT: ∀ L' C'',(∀ w,St E.S E.w0 C'' w→St E.S E.w0 C' w)→((CA dO s).all fun d=>(L'.lookup d).isNone)=true→B.map (fun p=>L'.lookup p.1)=B.map (fun p=>some p.2)→CH E ops D C' K0 B dO VO AO s L' C''→KJ E K D (L'++Y) (C''++X)) (nL nC:Nat)
 (hL:L.take nL++Y=L) (hC:C.take nC++X=C) (h1: ∀ w,St E.S E.w0 (C.take nC) w→St E.S E.w0 C' w) (h2:((CA dO s).all fun d=>((L.take nL).lookup d).isNone)=true) (h3:B.map (fun p=>(L.take nL).lookup p.1)=B.map (fun p=>some p.2)) (h:CH E ops D C' K0 B dO VO AO s (L.take nL) (C.take nC)):RJ E ops (NQ K) [] D L C:=by
 have:=hT _ _ h1 h2 h3 h
 rw [hL,hC] at this
 exact aD this
theorem SU {c:Code} {Q:dk} {L L':dw} {C:List aw} (h:L'.map (fun p=>L.lookup p.1)=L'.map (fun p=>some p.2)) (k:WJ E c Q D L' C):WJ E c Q D L C:=fun a w hf hs=>k a w (BM (wK h) a hf) hs
theorem xG: ∀ {C:List aw} {i:Nat} {A:aw},C[i]? =some A→C.Perm (A::C.eraseIdx i)
 |[],i,A,h=>by simp at h
 |x::C,0,A,h=>by
  simp at h; subst h
  exact List.Perm.refl _
 |x::C,i+1,A,h=>((xG (C:=C) (i:=i) (by simpa using h)).cons x).trans (List.Perm.swap _ _ _)
theorem St.front {S:BS} {w0 w:World} {C:List aw} {A:aw} (i:Nat) (hi:C[i]? =some A) (h:St S w0 C w):St S w0 (A::C.eraseIdx i) w:=h.perm (xG hi)
theorem F_ {K:Act→World→Prop} {L:dw} {C:List aw} {A:aw} (i:Nat) (hi:C[i]? =some A) (h:KJ E K D L (A::C.eraseIdx i)):KJ E K D L C:=fun a w hf hs=>h a w hf (hs.front i hi)
theorem r9 {Q:dk} {rest:List Oper} {L:dw} {C:List aw} {A:aw} (i:Nat) (hi:C[i]? =some A) (h:RJ E ops Q rest D L (A::C.eraseIdx i)):RJ E ops Q rest D L C:=fun a w hf hs=>h a w hf (hs.front i hi)
end
end
section
open Go.RowKit
section
variable {E:fq} {ops:Array Oper} {D:List Deferred} {C' C1:List aw} {tb:List Nat}
theorem uY {V:Type} {F:dw→List aw→Prop} (P:V→Prop) (fL:V→dw) (fC:V→List aw) (n:Nat) (rest:List Nat) {m:Nat} {rem:List Nat} {L:dw} {C:List aw} (h1:(∀ v,P v→TN E ops D C' C1 F tb n rest (fL v) (fC v))→TN E ops D C' C1 F tb m rem L C) (h2: ∀ v,P v→TN E ops D C' C1 F tb n rest (fL v) (fC v)):TN E ops D C' C1 F tb m rem L C:=h1 h2
theorem g_ {F:dw→List aw→Prop} {rem':List Nat} {n i:Nat} {L:dw} {C:List aw} {o:Oper} (ho:ops[i]? =some o)
 (h: ∀ K:Act→World→Prop,(∀ L' C'',(∀ w,St E.S E.w0 C'' w→St E.S E.w0 C' w)→TN E ops D C' C1 F tb n rem' L' C''→KJ E K D L' C'')→RJ E ops (NQ K) [o] D L C) (hm:((i::rem').filter fun k=>(i::rem').all fun j=> !iL (qu ops) j k)=[i]:=by kernel_rfl) (hr:(i::rem').filter (· != i)=rem':=by kernel_rfl) (ht:tb.contains i=false:=by rfl):TN E ops D C' C1 F tb (n+1) (i::rem') L C:=
 iJ [i] hm (ek (hZ ho hr ht h) j_)
theorem Q5 {K0:Act→World→Prop} {n:Nat} {rem:List Nat} {L L2:dw} {C C2:List aw} (hL: ∀ a,Fr E.n D L a→Fr E.n D L2 a) (hC: ∀ w,St E.S E.w0 C w→St E.S E.w0 C2 w) (h:TN E ops D C' C1 (fun L C=>KJ E K0 D L C) tb n rem L2 C2):TN E ops D C' C1 (fun L C=>KJ E K0 D L C) tb n rem L C:=by
 cases n with
 |zero=>exact Bs hL hC h
 |succ n=>exact fun i hi o ho K hK=>F9 hL hC (h i hi o ho K hK)
theorem jy {V:Type} {P:V→Prop} {fL:V→dw} {fC:V→List aw} {K0:Act→World→Prop} {n:Nat} {rem rest:List Nat} {L:dw} {C:List aw} (hJ: ∀ v,P v→TN E ops D C' C1 (fun L C=>KJ E K0 D L C) tb n rest (fL v) (fC v)) (v:V) (hp:P v) (ix:List Nat) (hL:(fL v).map (fun p=>L.lookup p.1)=(fL v).map (fun p=>some p.2)) (hn:decide ix.Nodup=true) (hC:lU C ix=some (fC v)) (hr:rem=rest:=by kernel_rfl):TN E ops D C' C1 (fun L C=>KJ E K0 D L C) tb n rem L C:=hr▸
 Q5 (fun a hf=>BM (wK hL) a hf) (fun w hs=>St.kF _ hn (jz hC) hs) (hJ v hp)
end
theorem DK {E:fq} {id:Nat} {ops:Array Oper} {Q:dk} {D:g3} {L:dw} {C:List aw} (hm:E.P.follows .mixedOrders=true) (T i1:List Nat) {C':List aw} {free:List Nat} {Kx:List Bool} (h1:lU C i1=some C') (hf:free=RU ops.size T) (hfe:Kx=Vp free.length [])
 (h:qA E ops D C' [] (fun L'=>TN E ops D C' [] (fun L C=>KJ E (Q .normal) D L C) [] T.length T L' C) Kx (eY ops free) L) (hc:GJ ops free T Kx []=true:=by kernel_rfl) (n1:decide i1.Nodup=true:=by rfl):WJ E (.region id ops true) Q D L C:=
 ow hm free T Kx [] C' [] hc (OI i1 h1 n1) (OI [] rfl rfl) h
section
end
end
section
open Go.RowKit
section
variable {P:Program} {t:TypeId} {x y:Operand}
theorem ry {e:TypeId} {a:OA} {n c:Nat} (ht:P.underlying t=some (.slice e)):gL P .eql t x y (.slice a n c) (.slice none 0 0) (.bool (decide (a=none))):=fun w=>by
 have A:(Op.equal t (.slice a n c) (.slice none 0 0)).run P w= .ok (decide (a=none)) w:=by
  unfold Op.equal
  show (Op.equalIn (9999+1) t (.slice a n c) (.slice none 0 0)).run P w=_
  unfold Op.equalIn
  cases a<;>simp [run_underlying ht]
 have B:eqGuard .eql t x y (.slice a n c) (.slice none 0 0)=pure ():=rfl
 rw [B]
 show (Sem.run P (do let b ← Op.equal t (.slice a n c) (.slice none 0 0); pure (vB b)) w)=_
 simp [A]
end
section
variable {E:fq} {ops:Array Oper} {Q:dk} {rest:List Oper} {D:List Deferred} {L:List (Nat×Value)} {C:List aw}
variable {dst:Option Tmp} {d:Nat} {ty:TypeId} {ps:String} {af:Array Edge} {g:Option (Nat×Bool)}
/-- a row that lies nowhere is empty -/
theorem mJ {a:OA} {n sz:Nat} {es:List (List Value)} (hR:g9 C (rd a n sz es).holds) (ha:a=none) (hz:0<sz) (k:es=[]→RJ E ops Q rest D L C):RJ E ops Q rest D L C:=fun act w hf hs=>by
 refine k ?_ act w hf hs
 obtain ⟨F,G,B⟩:=hs.has hR
 rcases Nat.eq_zero_or_pos (n*sz) with h|h
 ·have:n=0:=by
   rcases Nat.mul_eq_zero.1 h with h|h
   ·exact h
   ·omega
  exact jS I
 ·obtain ⟨ad,A,_⟩:=B h
  rw [ha] at A; cases A
theorem Mc {a:OA} {c e sz:Nat} {es:List (List Value)} (i:Nat) (hC:C[i]? =some (own a c e sz es)) (k:es.length≤c→RJ E ops Q rest D L C):RJ E ops Q rest D L C:=fun act w hf hs=>
 k (Be (hs.holds _ (aS hC))) act w hf hs
theorem ly {A:aw} (i:Nat) (h:C[i]? =some A.ro):g9 C A.holds:=fun w hw=>by
 have B:=hw A.ro (aS h)
 exact B
/-- the end of a row is set to zero: it is no more of it -/
theorem Oz {x:Operand} {t e sz by_ k n c c':Nat} {z:Value} {a:OA} {es:List (List Value)} (i:Nat) (hg:jM ops L g=true) (hx:ev L x=some (.slice (Ar a c k sz) (n-k) c')) (ht:tA E.P t=some (e,sz,by_,z)) (hz1: ∀ v∈z.cells.toList,v.oneCell'=true)
 (hC:C[i]? =some (own a c e sz es)) (hn:n=es.length) (hk:k≤n) (K:RJ E ops Q rest D L (C.set i (own a c e sz (es.take k)))):
 RJ E ops Q (⟨none,.call {callee:= .builtin .clear,args:= #[x],argTypes:= #[t]},ty,ps,af,g⟩::rest) D L C:=by
 intro act w A F
 obtain ⟨inf,hu,hi,f,h3,h4,s⟩:=D5 ht
 unfold sH
 rw [if_pos (eo A hg)]
 subst hn
 obtain ⟨W,N⟩:(own a c e sz es).holds w:=F.holds _ (aS hC)
 have B: ∀ y∈es.take k,y.length=sz:=fun y hy=>W y (List.mem_of_mem_take hy)
 have V:(es.take k).flatten=es.flatten.take (k*sz):=by
  have h:=List.take_append_drop k es
  have l:es.flatten=(es.take k).flatten++(es.drop k).flatten:=by rw [← List.flatten_append,h]
  have m:(es.take k).flatten.length=k*sz:=by rw [iR B,List.length_take]; congr 1; omega
  rw [l,← m,List.take_left]
 by_cases r:es.length-k=0
 ·have AA:es.take k=es:=List.take_of_length_le I
  refine g4 sm (w':=w) (v:= .tuple #[]) ?_ ?_
  ·rw [r] at hx
   cases hs:Ar a c k sz with
   |none=>rw [hs] at hx; simp [execOp,resolve,invoke,builtin,Builtin.clear_,A.ev hx,run_underlying hu]
   |some q=>rw [hs] at hx; simp [execOp,resolve,invoke,builtin,Builtin.clear_,A.ev hx,run_underlying hu]
  ·rw [AA] at K
   exact K _ _ A (by
    have:C.set i (own a c e sz es)=C:=by
     apply List.ext_getElem?
     intro q
     rw [List.getElem?_set]
     by_cases j:i=q
     ·subst j; rw [if_pos rfl,if_pos (aX.1 hC).1,hC]
     ·rw [if_neg j]
    rw [this]; exact F)
 ·rcases N.2 with ⟨l,m⟩|⟨gg,cap,cur,hv,AC,M,Y,T,J,G⟩
  ·omega
  ·injection hv with Z AO d
   subst Z d
   have R:Ar (some (⟨gg,0,none⟩:Addr)) c k sz=some ⟨gg,k*sz,none⟩:=by
    unfold Ar; rw [if_neg I]; simp [Addr.add_lit]
   rw [R] at hx
   have H:(Builtin.zeroCells z.cells (es.length-k)).toList.length=(es.length-k)*sz:=by
    rw [Array.length_toList,size_zeroCells,s]
   have p:k*sz+(es.length-k)*sz=es.length*sz:=by rw [← Nat.add_mul]; congr 1; omega
   have o:es.length*sz≤cur.size:=by rw [J]; exact Nat.mul_le_mul_right _ Y
   have h1': ∀ v∈(Builtin.zeroCells z.cells (es.length-k)).toList,v.oneCell'=true:=fun v hv=>by
    refine hz1 v ?_
    simp [Builtin.zeroCells] at hv
    obtain ⟨q,hq,hv⟩:=hv
    have O:0<z.cells.size:=by
     rcases Nat.eq_zero_or_pos z.cells.size with AB|AB
     ·rw [AB] at hq; simp at hq
     ·exact AB
    have X:q % z.cells.size<z.cells.size:=Nat.mod_lt _ O
    rw [getElem!_pos z.cells _ X] at hv
    rw [← hv]; simp
   have hst':=run_storeCells_at E.P gg (k*sz) e (Builtin.zeroCells z.cells (es.length-k)).toList 0 cur w M (by rw [H]; omega) h1'
   simp only [Nat.add_zero] at hst'
   obtain ⟨q,hq⟩: ∃ q,es.length-k=q+1:=⟨es.length-k-1,I⟩
   refine g4 sm (w':=w.setRow gg (cur.toList.take (k*sz)++(Builtin.zeroCells z.cells (es.length-k)).toList++cur.toList.drop (k*sz+(Builtin.zeroCells z.cells (es.length-k)).toList.length)).toArray) (v:= .tuple #[]) ?_ ?_
   ·rw [hq] at hx hst' ⊢
    simp [execOp,resolve,invoke,builtin,Builtin.clear_,A.ev hx,run_underlying hu,zeroValue,typeInfo,hi,f,hst']
   ·refine K _ _ A ?_
    refine F.move i hC (row:=some gg) (fun b hb=>by cases hb; exact ⟨_,rfl,rfl⟩) rfl ⟨rfl,rfl,rfl,sm,fun k' _ hk'=>setRow_other w gg k' _ (fun e=>hk' (by simp [e]))⟩ (fun y hy=>by
     obtain ⟨ad,AB,rfl⟩:=hy
     cases AB; exact .inl rfl) ?_
    refine ⟨B,?_,.inr ⟨gg,c,_,U,Nat.zero_le _,setRow_heap w gg cur _ e _ M,?_,T,?_,?_⟩⟩
    ·exact iR B
    ·rw [List.length_take]; omega
    ·simp only [List.size_toArray,List.length_append,List.length_take,List.length_drop,Array.length_toList,H]
     have:=J
     simp only [Array.length_toList] at H
     omega
    ·have u:(es.take k).length*sz=k*sz:=by rw [List.length_take]; congr 1; omega
     have S:(cur.toList.take (k*sz)).length=k*sz:=by rw [List.length_take,Array.length_toList]; omega
     rw [u,V,← G,List.take_take,Nat.min_eq_left I]
     show List.take (k*sz) (_++_++_)=_
     rw [List.append_assoc,List.take_left' S]
end
end
section
open Go.RowKit
theorem o9 (n lo hi:Int):
 er Tryz.prog 151 [(vI n),(vI lo),(vI hi)] [] (vB (decide (lo≤n∧n≤hi))):=by
 refine bI kr Tryz.func151 U U fun D Q hQ hN=>?_
 try dsimp only
 refine WS fun _ B=>bo 1 U<|RK B<|WS fun _ A=>rP 4 [] mn ?_
 refine cH (t:=10) U (aP fun C=>?_) (aO fun C=>?_)
 ·refine rP 5 [] mn ?_
  refine RK A<|ar<|Q1 hQ U U U ?_
  exact cB (gi.2 I)
 refine rP 5 [] mn ?_
 refine RK A<|ar<|Q1 hQ U U U ?_
 exact cB (bx I).symm
theorem p5 (s:aa) (lo hi:Int):
 er Tryz.prog 152 [(vA (aa.cells s)),(vI lo),(vI hi)] [] (vB (decide (s.Lo≤s.Hi∧lo≤s.Lo∧s.Hi≤hi))):=by
 refine bI kr Tryz.func152 U U fun E Q hQ hN=>?_
 try dsimp only
 refine WS fun _ B=>fK U fun D=>bo 1 U<|RK B<|WS fun _ A=>fG 5 [] (mc 0 U mn) U<|rS (CL (o9 s.Lo lo s.Hi) (aM) U)<|rP 1 [] mn ?_
 refine cj (t:=13) U (aO fun C=>?_) (aP fun C=>?_)
 ·refine rP 6 [] mn ?_
  refine RK A<|ar<|Q1 hQ U U U ?_
  exact cB (bx I).symm
 refine rP 6 [] (mc 0 U mn) ?_
 refine RK A<|ar<|Q1 hQ U U U ?_
 exact cB (gi.2 I)
theorem Nk (t:List ak) (tA:OA) (tC:Nat):
 er Tryz.prog 110 [(vA (bw.cells (bw.mk (bq.mk tA t.length tC))))] [(rd tA t.length 9 (t.map ak.cells))] (vB (decide (20<(t.length:Int)))):=by
 refine bI kr Tryz.func110 U U fun D Q hQ hN=>?_
 try dsimp only
 refine WS fun _ A=>fK U fun C=>bo 1 U<|RK A<|WS fun _ B=>rP 5 [] (mc 0 U mn) ?_
 refine RK B<|ar ?_
 exact Q1 hQ U U U U
theorem M7 (l:List Int) (lA:OA) (lC:Nat) (f:Value) (p:Int→Bool) (X:aw) (hf: ∀ x0,x0∈l→DY Tryz.prog f [.int .i64 x0] [X] (.bool (p x0))) (hlen:l.length≤1000000):
 er Tryz.prog 86 [(vS lA l.length lC),f] [(rd lA l.length 1 (l.map iC)),X] (vI (t_ p l)):=by
 refine bI kr Tryz.func86 U U fun R Q hQ hN=>?_
 try dsimp only
 refine WS fun _ G=>bo 1 U<|RK G<|aj fun _ H=>WS fun _ AA=>rP 3 [] mn ?_
 refine RK AA<|ay ?_
 have B:(0≤l.length)∧((l.take 0).any p=false):=by simp
 refine bK (ι:={z:Nat // (z≤l.length)∧((l.take z).any p=false)}) [0,1,7] [0,1] U U (fun z=>[(8,(vI (z.1:Int)))]) (fun z=>[]) (fun _=>rfl) (fun _=>rfl) (fun z=>l.length-z.1) ⟨0,B⟩ (aT U) (aI [0,1]) ?_
 clear B
 rintro ⟨i,⟨N,A⟩⟩ J4 F
 try dsimp only
 refine WS fun _ J=>rP 1 [] mn ?_
 refine RK J<|aj fun _ K=>bO U (aO fun P=>?_) (aP fun P=>?_)
 ·refine bD<|ab<|ab<|aA<|KK H<|WS fun _ E=>rP 1 [] mn ?_
  refine RK E<|ar<|Q1 hQ U U U ?_
  exact cI (s9 I A).symm
 refine WK K<|aj fun _ L=>ay<|WS fun _ M=>bo 2 U<|RK M<|WS fun _ C=>rP 3 [] mn ?_
 obtain ⟨x,hx⟩:=aH l i I
 have O:=bJ iC hx
 refine rS (IA i U (aB 0 U) cN dc I I)<|rS (fX i 0 (vI x) U cb (aB 0 U) O U dc U)<|rS (SX (sZ U U U (hf x (aS hx)) (bk [1])) U U)<|RK C<|cE U (fun hp=>?_) (fun hp=>?_)
 ·refine WS fun _ D=>rP 2 [] mn ?_
  refine RK D<|ar<|Q1 hQ U U U ?_
  exact cI (xw hx hp A).symm
 refine ck<|aG<|KK L<|al<|rP 2 [] mn ?_
 refine aD ?_
 refine aR (F ⟨(i+1),⟨I,yI hx A hp⟩⟩ _ _ _ U os (aT U) (aI [0,1]))
theorem s7 (l:List Int) (lA:OA) (lC:Nat) (f:Value) (p:Int→Bool) (X:aw) (hf: ∀ x0,x0∈l→DY Tryz.prog f [.int .i64 x0] [X] (.bool (p x0))) (hlen:l.length≤1000000):
 er Tryz.prog 63 [(vS lA l.length lC),f] [(rd lA l.length 1 (l.map iC)),X] (vB (l.any p)):=by
 refine bI kr Tryz.func63 U U fun C Q hQ hN=>?_
 try dsimp only
 refine WS fun _ A=>bo 1 U<|RK A<|WS fun _ B=>bo 2 U<|rS (CL (M7 l lA lC f p X (by exact hf) hlen) (bk [0,1]) U)<|rP 2 [] mn ?_
 refine RK B<|ar<|Q1 hQ U U U ?_
 exact cB vj
theorem Ik (n lo hi:Int) (g1 g2:Nat):
 er Tryz.prog 139 [(vI n),(vP g1),(vP g2)] [(cm g1 3 [(vI lo)]),(cm g2 3 [(vI hi)])] (vB (decide (n<lo∨hi<n))):=by
 refine bI kr Tryz.func139 U U fun D Q hQ hN=>?_
 try dsimp only
 refine WS fun _ B=>bo 1 U<|RK B<|WS fun _ A=>rP 4 [] (mr 0 U mn) ?_
 refine cH (t:=8) U (aP fun C=>?_) (aO fun C=>?_)
 ·refine rP 5 [] mn ?_
  refine RK A<|ar<|Q1 hQ U U U ?_
  exact cB (dK I).symm
 refine rP 5 [] (mr 1 U mn) ?_
 refine RK A<|ar<|Q1 hQ U U U ?_
 exact cB (gi.2 I)
theorem pE (lo hi:Int) (l:List Int) (lA:OA) (lC:Nat) (hlen:l.length≤1000000):
 er Tryz.prog 113 [(vI lo),(vI hi),(vS lA l.length lC)] [(rd lA l.length 1 (l.map iC))] (vB (qx lo hi l)):=by
 refine bI kr Tryz.func113 U U fun F Q hQ hN=>?_
 try dsimp only
 refine WS fun _ D=>uP U U fun A=>uP U U fun B=>bo 1 U<|RK D<|WS fun _ E=>rP 1 [] mn ?_
 refine rS (FU U) ?_
 refine rS (CL (s7 l lA lC (Value.func (.func 139) [].toArray [(vP A),(vP B)].toArray) (fun C=>(decide (C<lo∨hi<C))) (eX [(cm A 3 [(vI lo)]),(cm B 3 [(vI hi)])]) (by intro C _; exact n_ (fi:=[]) (ca:=[(vP A),(vP B)]) (mz (Ik C lo hi A B) (bk [0,1]))) hlen) (fM 2 U U<|av (mE (bk [1,0]))<|aM) U) ?_
 refine rP 2 [] mn ?_
 refine RK E<|ar ?_
 exact Q1 hQ U U U U
theorem wH (s:aa) (lo hi:Int):
 er Tryz.prog 114 [(vA (aa.cells s)),(vI lo),(vI hi)] [] (vB (decide (s.Lo≤s.Hi∧lo≤s.Lo∧s.Hi≤hi))):=by
 refine bI kr Tryz.func114 U U fun F Q hQ hN=>?_
 try dsimp only
 refine WS fun _ B=>fK U fun E=>bo 1 U<|RK B<|WS fun _ A=>rP 6 [] (mc 0 U mn) ?_
 refine du (xs:=[.tmp 10,.tmp 12]) (cs:=[(vI s.Lo),(vI s.Hi)]) U cN jv U U U U (by simp [Value.cells]) U U fun C=>?_
 refine rS (CL (er.eq (pE lo hi ([s.Lo,s.Hi]) (some ⟨C,0,none⟩) 2 (by (simp; done))) r_) (av (bp 0 U U (by simp [bM]) U)<|aM) U) ?_
 refine rP 1 [] mn ?_
 refine cj (t:=15) U (aO fun D=>?_) (aP fun D=>?_)
 ·refine rP 7 [] mn ?_
  refine RK A<|ar<|Q1 hQ U U U ?_
  exact cB (bx I).symm
 refine rP 7 [] (mc 1 U mn) ?_
 refine RK A<|ar<|Q1 hQ U U U ?_
 exact cB (gi.2 I)
theorem wO (ts:List ak) (tsA:OA) (tsC:Nat) (hlen:ts.length≤1000000):
 er Tryz.prog 135 [(vA (bw.cells (bw.mk (bq.mk tsA ts.length tsC))))] [(rd tsA ts.length 9 (ts.map ak.cells))] (vB (di ts)):=by
 refine bI kr Tryz.func135 U U fun w0 Q hQ hN=>?_
 try dsimp only
 refine WS fun _ C2=>fK U fun b2=>bo 1 U<|RK C2<|aj fun _ C3=>WS fun _ DV=>fG 3 [] (mc 0 U mn) U<|rS (CL (o9 (ts.length:Int) 1 12) (aM) U)<|rP 1 [] mn ?_
 refine RK DV<|cE U (aZ fun h5=>?_) (a_ fun h5=>?_)
 ·refine WS fun _ Di=>rP 1 [] mn ?_
  refine RK Di<|ar<|Q1 hQ U U U ?_
  exact cB (oz I).symm
 refine WK C3<|aj fun _ Do=>WS fun _ EQ=>rP 1 [] mn ?_
 refine RK EQ<|ay ?_
 have E:(0≤ts.length)∧(eZ (-1) ts=eZ (gr ts 0) (ts.drop 0))∧(-1≤gr ts 0):=by (refine ⟨I,rfl,by simp [gr]⟩)
 refine bK (ι:={z:Nat // (z≤ts.length)∧(eZ (-1) ts=eZ (gr ts z) (ts.drop z))∧(-1≤gr ts z)}) [1] [0,1] U U (fun z=>[(3,(vI (z.1:Int)))]) (fun z=>[]) (fun _=>rfl) (fun _=>rfl) (fun z=>ts.length-z.1) ⟨0,E⟩ (aT U) (aI [0,1]) ?_
 clear E
 rintro ⟨i,⟨Eq,A,FS⟩⟩ J9 D
 try dsimp only
 have hz:i=0→gr ts i= -1:=CE
 refine aj fun _ K=>WS fun _ L=>rP 5 [] (mc 0 U mn) ?_
 refine RK L<|bO U (aO fun v=>?_) (aP fun v=>?_)
 ·refine bD<|ab<|ab<|aA<|KK Do<|WS fun _ u=>rP 1 [] mn ?_
  refine RK u<|ar<|Q1 hQ U U U ?_
  exact cB (vO A I I).symm
 refine WK K<|aj fun _ C=>ay<|WS fun _ M=>rP 3 [] (mc 0 U mn) ?_
 obtain ⟨x,hx⟩:=aH ts i I
 have Fd:=bJ ak.cells hx
 refine rS (IA i U (aB 1 U) uU dc I I)<|rS (lS i 0 (ak.cells x) U cb (aB 1 U) Fd U dc U U)<|AL U GV fun GE=>fW U JI U<|RK M<|aj fun _ F=>aj fun _ B=>dg cv 38 kr<|mw 2 [] (mc 0 U mn) U<|dS (CL (o9 x.Id 0 9999) (aM) U)<|dP 2 [] mn ?_
 refine jh (t:=26) U (aZ fun w=>?_) (a_ fun w=>?_)
 ·refine lQ 11 U<|lQ 22 U<|cM<|RK B<|aN U<|WS fun _ N=>rP 1 [] mn ?_
  refine RK N<|ar<|Q1 hQ U U U ?_
  exact cB (ed A hx (by simp only [bR,eh]; omega)).symm
 refine dP 3 [] mn ?_
 refine jA (t:=29) U (aO fun AC=>?_) (aP fun AC=>?_)
 ·refine lQ 8 U<|lQ 6 U<|dS (LP (aa.cells x.jL) 0 U cb U U U)<|dS (CL (p5 x.jL 1 30000) (aM) U)<|dP 3 [] mn ?_
  refine jh (t:=48) U (aZ fun A9=>?_) (a_ fun A9=>?_)
  ·refine lQ 11 U<|cM<|RK B<|aN U<|WS fun _ e=>rP 1 [] mn ?_
   refine RK e<|ar<|Q1 hQ U U U ?_
   exact cB (ed A hx (by simp only [bR,eh]; omega)).symm
  refine lQ 1 U<|dS (LP (aa.cells x.ky) 0 U cb U U U)<|dS (CL (p5 x.ky 0 5000) (aM) U)<|dP 3 [] mn ?_
  refine jh (t:=54) U (aZ fun BX=>?_) (a_ fun BX=>?_)
  ·refine lQ 5 U<|cM<|RK B<|aN U<|WS fun _ f=>rP 1 [] mn ?_
   refine RK f<|ar<|Q1 hQ U U U ?_
   exact cB (ed A hx (by simp only [bR,eh]; omega)).symm
  refine mw 2 [] (mc 0 U mn) U<|dS (CL (o9 x.xQ 0 5000) (aM) U)<|dP 2 [] mn ?_
  refine cM<|RK B<|cE U (aZ fun B3=>?_) (a_ fun B3=>?_)
  ·refine WS fun _ g=>rP 1 [] mn ?_
   refine RK g<|ar<|Q1 hQ U U U ?_
   exact cB (ed A hx (by simp only [bR,eh]; omega)).symm
  refine WK F<|WS fun _ h=>fG 2 [] (mc 0 U mn) U<|RK h<|ay<|WS fun _ j=>rS (BI U mO)<|rP 1 [] mn ?_
  refine RK j<|cE U (aP fun B7=>?_) (aO fun B7=>?_)
  ·refine WS fun _ AB=>rP 5 [] (mc 0 U mn) ?_
   refine cH (t:=68) U (aZ fun B9=>?_) (a_ fun B9=>?_)
   ·refine bo 5 U<|RK AB<|aN U<|WS fun _ k=>rP 1 [] mn ?_
    refine RK k<|ar<|Q1 hQ U U U ?_
    exact cB (ed A hx (by simp only [bR,eh]; omega)).symm
   refine rP 5 [] (mc 0 U mn) ?_
   refine RK AB<|bO U (a_ fun Ci=>?_) (aZ fun Ci=>?_)
   ·refine ck<|aG<|aG<|KK C<|al<|rP 3 [] mn ?_
    refine aD ?_
    refine aR (D ⟨(i+1),⟨I,g8 A hx (by simp only [bR,eh]; omega),by rw [gj hx]; omega⟩⟩ _ _ _ U os (aT U) (aI [1,2]))
   refine WS fun _ l=>rP 1 [] mn ?_
   refine RK l<|ar<|Q1 hQ U U U ?_
   exact cB (ed A hx (by simp only [bR,eh]; omega)).symm
  refine aj fun _ J=>WS fun _ m=>rS (BI U mO)<|rP 1 [] mn ?_
  refine RK m<|cE U (aP fun Ck=>?_) (aO fun Ck=>?_)
  ·refine WK J<|bO U (aO fun Cp=>?_) (aP fun Cp=>?_)
   ·refine WS fun _ p=>rP 1 [] mn ?_
    refine RK p<|ar<|Q1 hQ U U U ?_
    exact cB (oz I).symm
   refine WS fun _ n=>bo 1 U<|rS (LP (aa.cells x.dY) 0 U cb U U U)<|rS (CL (p5 x.dY 500 20000) (aM) U)<|rP 1 [] mn ?_
   refine RK n<|bO U (a_ fun Cx=>?_) (aZ fun Cx=>?_)
   ·refine ck<|aG<|aG<|KK C<|al<|rP 3 [] mn ?_
    refine aD ?_
    refine aR (D ⟨(i+1),⟨I,g8 A hx (by simp only [bR,eh]; omega),by rw [gj hx]; omega⟩⟩ _ _ _ U os (aT U) (aI [1,2]))
   refine WS fun _ o=>rP 1 [] mn ?_
   refine RK o<|ar<|Q1 hQ U U U ?_
   exact cB (ed A hx (by simp only [bR,eh]; omega)).symm
  refine al<|rS (BI U mO)<|rP 1 [] mn ?_
  refine RK J<|bO U (aO fun C0=>?_) (aP fun C0=>?_)
  ·refine WS fun _ s=>rP 1 [] mn ?_
   refine RK s<|ar<|Q1 hQ U U U ?_
   exact cB (ed A hx (by simp only [bR,eh]; omega)).symm
  refine WS fun _ q=>bo 1 U<|rS (LP (aa.cells x.dY) 0 U cb U U U)<|rS (CL (p5 x.dY 500 20000) (aM) U)<|rP 1 [] mn ?_
  refine RK q<|bO U (a_ fun C1=>?_) (aZ fun C1=>?_)
  ·refine ck<|aG<|aG<|KK C<|al<|rP 3 [] mn ?_
   refine aD ?_
   refine aR (D ⟨(i+1),⟨I,g8 A hx (by simp only [bR,eh]; omega),by rw [gj hx]; omega⟩⟩ _ _ _ U os (aT U) (aI [1,2]))
  refine WS fun _ r=>rP 1 [] mn ?_
  refine RK r<|ar<|Q1 hQ U U U ?_
  exact cB (ed A hx (by simp only [bR,eh]; omega)).symm
 refine dP 6 [0,1] (mc 0 U (mc 1 U mn)) ?_
 obtain ⟨y,hy⟩:=aH ts (i-1) I
 have Fn:=bJ ak.cells hy
 refine dS (IA (i-1) U (aB 2 U) uU dc I I)<|dS (mV ((i-1)*9) U (aB 2 U) (Nat.mul_pos I dc) fw U) ?_
 have Ge:=EN I hy
 refine dS (fX (i-1) 0 (vI y.Id) U cb (aB 2 U) Fn U dc U)<|dP 4 [] mn ?_
 refine jh (t:=42) U (aP fun AO=>?_) (aO fun AO=>?_)
 ·refine lQ 17 U<|cM<|RK B<|aN U<|WS fun _ O=>rP 1 [] mn ?_
  refine RK O<|ar<|Q1 hQ U U U ?_
  exact cB (ed A hx (by simp only [bR,eh]; omega)).symm
 refine lQ 1 U<|dS (LP (aa.cells x.jL) 0 U cb U U U)<|dS (CL (p5 x.jL 1 30000) (aM) U)<|dP 3 [] mn ?_
 refine jh (t:=48) U (aZ fun An=>?_) (a_ fun An=>?_)
 ·refine lQ 11 U<|cM<|RK B<|aN U<|WS fun _ P=>rP 1 [] mn ?_
  refine RK P<|ar<|Q1 hQ U U U ?_
  exact cB (ed A hx (by simp only [bR,eh]; omega)).symm
 refine lQ 1 U<|dS (LP (aa.cells x.ky) 0 U cb U U U)<|dS (CL (p5 x.ky 0 5000) (aM) U)<|dP 3 [] mn ?_
 refine jh (t:=54) U (aZ fun Av=>?_) (a_ fun Av=>?_)
 ·refine lQ 5 U<|cM<|RK B<|aN U<|WS fun _ R=>rP 1 [] mn ?_
  refine RK R<|ar<|Q1 hQ U U U ?_
  exact cB (ed A hx (by simp only [bR,eh]; omega)).symm
 refine mw 2 [] (mc 0 U mn) U<|dS (CL (o9 x.xQ 0 5000) (aM) U)<|dP 2 [] mn ?_
 refine cM<|RK B<|cE U (aZ fun A0=>?_) (a_ fun A0=>?_)
 ·refine WS fun _ S=>rP 1 [] mn ?_
  refine RK S<|ar<|Q1 hQ U U U ?_
  exact cB (ed A hx (by simp only [bR,eh]; omega)).symm
 refine WK F<|WS fun _ T=>fG 2 [] (mc 0 U mn) U<|RK T<|ay<|WS fun _ AA=>rS (BI U mO)<|rP 1 [] mn ?_
 refine RK AA<|cE U (aP fun A1=>?_) (aO fun A1=>?_)
 ·refine WS fun _ G=>rP 5 [] (mc 0 U mn) ?_
  refine cH (t:=68) U (aZ fun A2=>?_) (a_ fun A2=>?_)
  ·refine bo 5 U<|RK G<|aN U<|WS fun _ V=>rP 1 [] mn ?_
   refine RK V<|ar<|Q1 hQ U U U ?_
   exact cB (ed A hx (by simp only [bR,eh]; omega)).symm
  refine rP 5 [] (mc 0 U mn) ?_
  refine RK G<|bO U (a_ fun A3=>?_) (aZ fun A3=>?_)
  ·refine ck<|aG<|aG<|KK C<|al<|rP 3 [] mn ?_
   refine aD ?_
   refine aR (D ⟨(i+1),⟨I,g8 A hx (by simp only [bR,eh]; omega),by rw [gj hx]; omega⟩⟩ _ _ _ U os (aT U) (aI [1,2]))
  refine WS fun _ W=>rP 1 [] mn ?_
  refine RK W<|ar<|Q1 hQ U U U ?_
  exact cB (ed A hx (by simp only [bR,eh]; omega)).symm
 refine aj fun _ H=>WS fun _ X=>rS (BI U mO)<|rP 1 [] mn ?_
 refine RK X<|cE U (aP fun A4=>?_) (aO fun A4=>?_)
 ·refine WK H<|bO U (aO fun A5=>?_) (aP fun A5=>?_)
  ·refine WS fun _ a=>rP 1 [] mn ?_
   refine RK a<|ar<|Q1 hQ U U U ?_
   exact cB (oz I).symm
  refine WS fun _ Y=>bo 1 U<|rS (LP (aa.cells x.dY) 0 U cb U U U)<|rS (CL (p5 x.dY 500 20000) (aM) U)<|rP 1 [] mn ?_
  refine RK Y<|bO U (a_ fun A6=>?_) (aZ fun A6=>?_)
  ·refine ck<|aG<|aG<|KK C<|al<|rP 3 [] mn ?_
   refine aD ?_
   refine aR (D ⟨(i+1),⟨I,g8 A hx (by simp only [bR,eh]; omega),by rw [gj hx]; omega⟩⟩ _ _ _ U os (aT U) (aI [1,2]))
  refine WS fun _ Z=>rP 1 [] mn ?_
  refine RK Z<|ar<|Q1 hQ U U U ?_
  exact cB (ed A hx (by simp only [bR,eh]; omega)).symm
 refine al<|rS (BI U mO)<|rP 1 [] mn ?_
 refine RK H<|bO U (aO fun A7=>?_) (aP fun A7=>?_)
 ·refine WS fun _ d=>rP 1 [] mn ?_
  refine RK d<|ar<|Q1 hQ U U U ?_
  exact cB (ed A hx (by simp only [bR,eh]; omega)).symm
 refine WS fun _ b=>bo 1 U<|rS (LP (aa.cells x.dY) 0 U cb U U U)<|rS (CL (p5 x.dY 500 20000) (aM) U)<|rP 1 [] mn ?_
 refine RK b<|bO U (a_ fun A8=>?_) (aZ fun A8=>?_)
 ·refine ck<|aG<|aG<|KK C<|al<|rP 3 [] mn ?_
  refine aD ?_
  refine aR (D ⟨(i+1),⟨I,g8 A hx (by simp only [bR,eh]; omega),by rw [gj hx]; omega⟩⟩ _ _ _ U os (aT U) (aI [1,2]))
 refine WS fun _ c=>rP 1 [] mn ?_
 refine RK c<|ar<|Q1 hQ U U U ?_
 exact cB (ed A hx (by simp only [bR,eh]; omega)).symm
theorem CZ (ts:List ak) (tsA:OA) (tsC:Nat) (hlen:ts.length≤1000000) (hside: ∀ x∈ts,0≤x.iZ∧x.iZ≤255):
 er Tryz.prog 82 [(vA (bw.cells (bw.mk (bq.mk tsA ts.length tsC))))] [(rd tsA ts.length 9 (ts.map ak.cells))] (vI (if di ts=true then 0 else 10)):=by
 refine bI kr Tryz.func82 U U fun w0 Q hQ hN=>?_
 try dsimp only
 refine WS fun _ v=>fK U fun b2=>bo 1 U<|RK v<|Br U<|aj fun _ w=>WS fun _ y=>rP 3 [] (mc 0 U mn) ?_
 refine du (xs:=[.tmp 11]) (cs:=[(vI (ts.length:Int))]) U cN jv U U U U (by simp [Value.cells]) U U fun b5=>?_
 refine rS (CL (er.eq (pE 1 12 ([(ts.length:Int)]) (some ⟨b5,0,none⟩) 1 (by (simp; done))) df) (av (bp 0 U U (by simp [bM]) U)<|aM) U) ?_
 refine rP 1 [] mn ?_
 refine RK y<|cE U (aZ fun h6=>?_) (a_ fun h6=>?_)
 ·refine WS fun _ AC=>rP 1 [] mn ?_
  refine RK AC<|ar<|Q1 hQ U U U ?_
  exact cI (if_neg (by rw [oz I]; decide)).symm
 refine WK w<|WS fun _ AO=>bo 1 U<|RK AO<|WS fun _ An=>bo 1 U<|RK An<|aj fun _ J=>Az<|KK J<|aj fun _ B=>WS fun _ K=>rP 4 [] (mc 1 U mn) ?_
 refine RK K<|ay ?_
 have D:(0≤ts.length)∧(eZ (-1) ts=eZ (gr ts 0) (ts.drop 0))∧(-1≤gr ts 0)∧(gr ts 0≤9999):=by (refine ⟨I,rfl,by simp [gr],by simp [gr]⟩)
 refine bK (ι:={z:Nat // (z≤ts.length)∧(eZ (-1) ts=eZ (gr ts z) (ts.drop z))∧(-1≤gr ts z)∧(gr ts z≤9999)}) [1,4,16,17] [1,2] U U (fun z=>[(3,(vI (gr ts z.1))),(18,(vI (z.1:Int)))]) (fun z=>[]) (fun _=>rfl) (fun _=>rfl) (fun z=>ts.length-z.1) ⟨0,D⟩ (aT U) (aI [1,2]) ?_
 clear D
 rintro ⟨i,⟨Av,A,A0,A1⟩⟩ J13 E
 try dsimp only
 refine WS fun _ L=>rP 1 [] mn ?_
 refine RK L<|aj fun _ M=>bO U (aO fun k=>?_) (aP fun k=>?_)
 ·refine bD<|ab<|ab<|aA<|KK B<|WS fun _ O=>rP 2 [] mn ?_
  refine RK O<|ar<|Q1 hQ U U U ?_
  exact cI (if_pos (vO A I I)).symm
 refine WK M<|aj fun _ F=>ay<|WS fun _ N=>?_
 obtain ⟨x,hx⟩:=aH ts i I
 have A2:=bJ ak.cells hx
 refine rS (IA i U (aB 1 U) uU dc I I) ?_
 have A6:=hside x (aS hx)
 refine rS (lS i 0 (ak.cells x) U cb (aB 1 U) A2 U dc U U)<|AL U GV fun A3=>fW U JI U<|RK N ?_
 refine oI (ι:=Unit) [1,3,4,6,16,17,18] [0,1,2] U U (fun z=>[(7,(vB (decide (x.iZ=0∧x.dY.Lo=0∧x.dY.Hi=0))))]) (fun z=>[]) (fun _=>rfl) (fun _=>rfl) ?_ fun K20 G=>?_
 ·intro _
  try dsimp only
  refine oI (ι:=Unit) [1,3,4,6,7,16,17,18] [0,1,2] U U (fun z=>[(8,(vB (decide ((1≤x.iZ∧x.iZ≤2)∧x.dY.Lo≤x.dY.Hi∧500≤x.dY.Lo∧x.dY.Hi≤20000))))]) (fun z=>[]) (fun _=>rfl) (fun _=>rfl) ?_ fun K21 H=>?_
  ·intro _
   try dsimp only
   refine aj fun _ AB=>WS fun _ C=>rP 4 [] (mc 0 U mn) ?_
   refine du (xs:=[.tmp 44]) (cs:=[(vI x.Id)]) U cN jv U U U U (by simp [Value.cells]) U U fun h=>?_
   refine rS (CL (er.eq (pE ((gr ts i)+1) 9999 ([x.Id]) (some ⟨h,0,none⟩) 1 (by (simp; done))) df) (av (bp 0 U U (by simp [bM]) U)<|aM) U) ?_
   refine rP 2 [] mn ?_
   refine cH (t:=48) U (aZ fun o=>?_) (a_ fun o=>?_)
   ·refine bo 26 U<|RK C<|aN U<|WS fun _ P=>bo 1 U<|RK P<|bD<|ab<|iW U<|ab<|ab<|aA<|KK B<|WS fun _ R=>rP 2 [] mn ?_
    refine RK R<|ar<|Q1 hQ U U U ?_
    exact cI (if_neg (by rw [ed A hx (by simp only [bR,eh]; omega)]; decide)).symm
   refine bo 1 U<|rS (LP (aa.cells x.jL) 1 U cb U U U)<|rS (CL (wH x.jL 1 30000) (aM) U)<|rP 3 [] mn ?_
   refine cH (t:=54) U (aZ fun p=>?_) (a_ fun p=>?_)
   ·refine bo 20 U<|RK C<|aN U<|WS fun _ S=>bo 1 U<|RK S<|bD<|ab<|iW U<|ab<|ab<|aA<|KK B<|WS fun _ T=>rP 2 [] mn ?_
    refine RK T<|ar<|Q1 hQ U U U ?_
    exact cI (if_neg (by rw [ed A hx (by simp only [bR,eh]; omega)]; decide)).symm
   refine bo 1 U<|rS (LP (aa.cells x.ky) 1 U cb U U U)<|rS (CL (wH x.ky 0 5000) (aM) U)<|rP 3 [] mn ?_
   refine cH (t:=60) U (aZ fun q=>?_) (a_ fun q=>?_)
   ·refine bo 14 U<|RK C<|aN U<|WS fun _ AA=>bo 1 U<|RK AA<|bD<|ab<|iW U<|ab<|ab<|aA<|KK B<|WS fun _ V=>rP 2 [] mn ?_
    refine RK V<|ar<|Q1 hQ U U U ?_
    exact cI (if_neg (by rw [ed A hx (by simp only [bR,eh]; omega)]; decide)).symm
   refine rP 2 [] (mc 1 U mn) ?_
   refine du (xs:=[.tmp 62]) (cs:=[(vI x.xQ)]) U cN jv U U U U (by simp [Value.cells]) U U fun j=>?_
   refine rS (CL (er.eq (pE 0 5000 ([x.xQ]) (some ⟨j,0,none⟩) 1 (by (simp; done))) df) (av (bp 0 U U (by simp [bM]) U)<|aM) U) ?_
   refine rP 3 [] mn ?_
   refine cH (t:=67) U (aZ fun r=>?_) (a_ fun r=>?_)
   ·refine bo 7 U<|RK C<|aN U<|WS fun _ W=>bo 1 U<|RK W<|bD<|ab<|iW U<|ab<|ab<|aA<|KK B<|WS fun _ X=>rP 2 [] mn ?_
    refine RK X<|ar<|Q1 hQ U U U ?_
    exact cI (if_neg (by rw [ed A hx (by simp only [bR,eh]; omega)]; decide)).symm
   refine rP 3 [] mn ?_
   refine cj (t:=70) U (a_ fun s=>?_) (aZ fun s=>?_)
   ·refine bo 4 U<|RK C<|bh U<|WK AB<|al<|fG 3 [] (mc 2 U mn) U<|aD<|aG<|KK F<|al<|rP 2 [] mn ?_
    refine aD ?_
    have f:(vI (gr ts (i+1)))=(vI x.Id):=by rw [gj hx]
    refine aR (E ⟨(i+1),⟨I,g8 A hx (by simp only [bR,eh]; omega),by rw [gj hx]; omega,by rw [gj hx]; omega⟩⟩ _ _ _ U os (cR 4<|aY U f<|aT U) (aI [3,4]))
   refine rP 4 [] mn ?_
   refine RK C<|bO U (a_ fun u=>?_) (aZ fun u=>?_)
   ·refine WK AB<|al<|fG 3 [] (mc 2 U mn) U<|aD<|aG<|KK F<|al<|rP 2 [] mn ?_
    refine aD ?_
    have e:(vI (gr ts (i+1)))=(vI x.Id):=by rw [gj hx]
    refine aR (E ⟨(i+1),⟨I,g8 A hx (by simp only [bR,eh]; omega),by rw [gj hx]; omega,by rw [gj hx]; omega⟩⟩ _ _ _ U os (cR 4<|aY U e<|aT U) (aI [3,4]))
   refine WS fun _ Y=>bo 1 U<|RK Y<|bD<|ab<|iW U<|ab<|ab<|aA<|KK B<|WS fun _ Z=>rP 2 [] mn ?_
   refine RK Z<|ar<|Q1 hQ U U U ?_
   exact cI (if_neg (by rw [ed A hx (by simp only [bR,eh]; omega)]; decide)).symm
  refine al<|rP 2 [] (mc 0 U mn) ?_
  refine rS (SX (rK (m:=x.iZ) U U N8 mX (oQ (by first|assumption|omega))) U U)<|du (xs:=[.tmp 33]) (cs:=[(vI x.iZ)]) U cN jv U U U U (by simp [Value.cells]) U U fun g=>?_
  refine rS (CL (er.eq (pE 1 2 ([x.iZ]) (some ⟨g,0,none⟩) 1 (by (simp; done))) df) (av (bp 0 U U (by simp [bM]) U)<|aM) U) ?_
  refine rP 1 [] mn ?_
  refine cj (t:=36) U (aO fun n=>?_) (aP fun n=>?_)
  ·refine rP 5 [] mn ?_
   refine aD ?_
   have d:(decide ((1≤x.iZ∧x.iZ≤2)∧x.dY.Lo≤x.dY.Hi∧500≤x.dY.Lo∧x.dY.Hi≤20000))=false:=bx I
   refine aR (jT (cR 8<|n7 U d<|dj.nil _) (aI [1,2,3]) (H ()))
  refine bo 1 U<|rS (LP (aa.cells x.dY) 1 U cb U U U)<|rS (CL (wH x.dY 500 20000) (aM) U)<|rP 2 [] mn ?_
  refine aD ?_
  have c:(decide ((1≤x.iZ∧x.iZ≤2)∧x.dY.Lo≤x.dY.Hi∧500≤x.dY.Lo∧x.dY.Hi≤20000))=(decide (x.dY.Lo≤x.dY.Hi∧500≤x.dY.Lo∧x.dY.Hi≤20000)):=gi.2 I
  refine aR (jT (cR 8<|n7 U c<|dj.nil _) (aI [1,2,3]) (H ()))
 refine al<|fG 2 [] (mc 0 U mn) U<|rS (BI U mO)<|rP 1 [] mn ?_
 refine cj (t:=25) U (aO fun l=>?_) (aP fun l=>?_)
 ·refine rP 6 [] mn ?_
  refine aD ?_
  have b:(decide (x.iZ=0∧x.dY.Lo=0∧x.dY.Hi=0))=false:=bx I
  refine aR (jT (cR 7<|n7 U b<|dj.nil _) (aI [0,1,2]) (G ()))
 refine bo 1 U<|rS (LP (aa.cells x.dY) 0 U cb U U U)<|rS (SX (bu (xs:=[]) (cs:=(aa.cells (aa.mk 0 0))) U U (br gG U)) U U)<|rS (BI U (sS _ _ x.dY (aa.mk 0 0)))<|rP 2 [] mn ?_
 refine aD ?_
 have a:(decide (x.iZ=0∧x.dY.Lo=0∧x.dY.Hi=0))=(decide (x.dY=(aa.mk 0 0))):=gi.2 (by (simp only [aa.ext_iff] at *; omega))
 refine aR (jT (cR 7<|n7 U a<|dj.nil _) (aI [0,1,2]) (G ()))
theorem Qm (ts:List ak) (tsA:OA) (tsC:Nat) (hlen:ts.length≤1000000):
 lx Tryz.prog 78 [(vA (bw.cells (bw.mk (bq.mk tsA ts.length tsC))))] [(rd tsA ts.length 9 (ts.map ak.cells))] (fun (x:(OA)×Nat)=>(vA (bw.cells (bw.mk (bq.mk x.1 ts.length x.2))))) (fun (x:(OA)×Nat)=>True) (fun (x:(OA)×Nat)=>[(own x.1 x.2 114 9 (ts.map ak.cells))]):=by
 refine dp kr Tryz.func78 U U fun H Q hQ hN=>?_
 try dsimp only
 refine WS fun _ A=>fK U fun F=>AL U U0 fun G=>RK A<|WS fun _ B=>lW U uU U fun E=>rP 2 [] (mc 2 U mn) ?_
 refine db (es:=(List.map ak.cells [])) (C':=[own (some ⟨E,0,none⟩) 0 114 9 (List.map ak.cells []),_,_,_]) 0 U sm U (by simp [maxLen]) U ?_
 refine cO (es2:=(List.map ak.cells ts)) (m':=ts.length) 0 U U U Uj U U sm (aB 3 U) (nS _) os (by first|(simp only [maxLen]; omega)|(simp [maxLen]; omega)) sm sm U fun C D=>?_
 try dsimp only
 refine rS (SX (bu (xs:=[(0,.tmp 6)]) (cs:=(bw.cells (bw.mk (bq.mk C ts.length D)))) U U (br Sh U)) U U)<|sj U Ug U<|RK B<|ar<|LX hQ (C,D) [0] [0] (mc 1 U mn) U U U U ?_
 trivial
theorem Qx (la:List ak) (laA:OA) (laC:Nat) (lb:List ak) (lbA:OA) (lbC:Nat) (h1:la.length≤1000000) (h2:lb.length≤1000000):
 er Tryz.prog 79 [(vA (bw.cells (bw.mk (bq.mk laA la.length laC)))),(vA (bw.cells (bw.mk (bq.mk lbA lb.length lbC))))] [(rd laA la.length 9 (la.map ak.cells)),(rd lbA lb.length 9 (lb.map ak.cells))] (vB (decide (la=lb))):=by
 refine bI kr Tryz.func79 U U fun X Q hQ hN=>?_
 try dsimp only
 refine WS fun _ L=>fK U fun V=>fK U fun W=>bo 1 U<|RK L<|aj fun _ M=>WS fun _ N=>rP 7 [0,1] (mc 1 U (mc 0 U mn)) ?_
 refine RK N<|cE U (aZ fun hl=>?_) (a_ fun hl=>?_)
 ·refine WS fun _ O=>rP 1 [] mn ?_
  refine RK O<|ar<|Q1 hQ U U U ?_
  first|exact cB (bx (jg hx hy h)).symm|exact cB (dK (cx I A I)).symm|exact cB (bx (fun e=>by subst e; omega)).symm
 refine WK M<|aj fun _ P=>WS fun _ R=>rP 1 [] mn ?_
 refine RK R<|ay ?_
 have B:(0≤la.length)∧(la.take 0=lb.take 0):=by simp
 refine bK (ι:={z:Nat // (z≤la.length)∧(la.take z=lb.take z)}) [2,3] [0,1,2,3] U U (fun z=>[(5,(vI (z.1:Int)))]) (fun z=>[]) (fun _=>rfl) (fun _=>rfl) (fun z=>la.length-z.1) ⟨0,B⟩ (aT U) (aI [0,1,2,3]) ?_
 clear B
 rintro ⟨i,⟨S,A⟩⟩ J9 K
 try dsimp only
 refine aj fun _ C=>WS fun _ D=>rP 5 [] (mc 1 U mn) ?_
 refine RK D<|bO U (aO fun J=>?_) (aP fun J=>?_)
 ·refine bD<|ab<|ab<|aA<|KK P<|WS fun _ H=>rP 1 [] mn ?_
  refine RK H<|ar<|Q1 hQ U U U ?_
  first|exact cB (bx (jg hx hy h)).symm|exact cB (dK (cx I A I)).symm|exact cB (bx (fun e=>by subst e; omega)).symm
 refine WK C<|aj fun _ E=>ay<|aj fun _ F=>dg cv 11 kr<|dP 3 [] (mc 1 U mn) ?_
 obtain ⟨x,hx⟩:=aH la i I
 have T:=bJ ak.cells hx
 refine dS (IA i U (aB 2 U) uU dc I I)<|dS (lS i 0 (ak.cells x) U cb (aB 2 U) T U dc U U)<|dP 3 [] (mc 0 U mn) ?_
 obtain ⟨y,hy⟩:=aH lb i I
 have AA:=bJ ak.cells hy
 refine dS (IA i U (aB 3 U) uU dc I I)<|dS (lS i 0 (ak.cells y) U cb (aB 3 U) AA U dc U U)<|dS (BI U (QZ _ _ x y))<|cM<|RK F<|cE U (aZ fun h=>?_) (a_ fun h=>?_)
 ·refine WS fun _ G=>rP 1 [] mn ?_
  refine RK G<|ar<|Q1 hQ U U U ?_
  first|exact cB (bx (jg hx hy h)).symm|exact cB (dK (cx I A I)).symm|exact cB (bx (fun e=>by subst e; omega)).symm
 refine ck<|aG<|KK E<|al<|rP 3 [] mn ?_
 refine aD ?_
 have AB:(vI (((i+1):Nat):Int))=(vI ((i:Int)+1)):=by exact cI I
 refine aR (K ⟨(i+1),⟨I,iQ A hx hy h⟩⟩ _ _ _ U os (dj.cons U<|dj.cons U<|aY U AB<|dj.nil _) (aI [0,1,2,3]))
end
section
open Go.RowKit
theorem Ll (n lo hi:Int) (g1 g2:Nat):
 er Tryz.prog 64 [(vI n),(vP g1),(vP g2)] [(cm g1 3 [(vI lo)]),(cm g2 3 [(vI hi)])] (vB (decide (n<lo∨hi<n))):=by
 refine bI kr Tryz.func64 U U fun D Q hQ hN=>?_
 try dsimp only
 refine WS fun _ B=>bo 1 U<|RK B<|WS fun _ A=>rP 4 [] (mr 0 U mn) ?_
 refine cH (t:=8) U (aP fun C=>?_) (aO fun C=>?_)
 ·refine rP 5 [] mn ?_
  refine RK A<|ar<|Q1 hQ U U U ?_
  exact cB (dK I).symm
 refine rP 5 [] (mr 1 U mn) ?_
 refine RK A<|ar<|Q1 hQ U U U ?_
 exact cB (gi.2 I)
theorem kp (lo hi:Int) (l:List Int) (lA:OA) (lC:Nat) (hlen:l.length≤1000000):
 er Tryz.prog 37 [(vI lo),(vI hi),(vS lA l.length lC)] [(rd lA l.length 1 (l.map iC))] (vB (qx lo hi l)):=by
 refine bI kr Tryz.func37 U U fun F Q hQ hN=>?_
 try dsimp only
 refine WS fun _ D=>uP U U fun A=>uP U U fun B=>bo 1 U<|RK D<|WS fun _ E=>rP 1 [] mn ?_
 refine rS (FU U) ?_
 refine rS (CL (s7 l lA lC (Value.func (.func 64) [].toArray [(vP A),(vP B)].toArray) (fun C=>(decide (C<lo∨hi<C))) (eX [(cm A 3 [(vI lo)]),(cm B 3 [(vI hi)])]) (by intro C _; exact n_ (fi:=[]) (ca:=[(vP A),(vP B)]) (mz (Ll C lo hi A B) (bk [0,1]))) hlen) (fM 2 U U<|av (mE (bk [1,0]))<|aM) U) ?_
 refine rP 2 [] mn ?_
 refine RK E<|ar ?_
 exact Q1 hQ U U U U
theorem F3 (s:aa):
 er Tryz.prog 65 [(vA (aa.cells s))] [] (vB (decide (iP s))):=by
 refine bI kr Tryz.func65 U U fun F Q hQ hN=>?_
 try dsimp only
 refine WS fun _ B=>fK U fun E=>bo 1 U<|RK B<|WS fun _ A=>rP 4 [] (mc 0 U mn) ?_
 refine du (xs:=[.tmp 4,.tmp 6]) (cs:=[(vI s.Lo),(vI s.Hi)]) U cN jv U U U U (by simp [Value.cells]) U U fun C=>?_
 refine rS (CL (er.eq (kp 1 600000 ([s.Lo,s.Hi]) (some ⟨C,0,none⟩) 2 (by (simp; done))) r_) (av (bp 0 U U (by simp [bM]) U)<|aM) U) ?_
 refine rP 1 [] mn ?_
 refine cj (t:=9) U (aO fun D=>?_) (aP fun D=>?_)
 ·refine rP 7 [] mn ?_
  refine RK A<|ar<|Q1 hQ U U U ?_
  simp only [iP]
  exact cB (bx I).symm
 refine rP 7 [] (mc 1 U mn) ?_
 refine RK A<|ar<|Q1 hQ U U U ?_
 simp only [iP]
 exact cB (gi.2 I)
theorem JK (d:au) (sgA:OA) (sgC:Nat):
 er Tryz.prog 198 [(vA (bg.cells (bg.mk d.Out d.dZ d.Time (lV d.b_ sgA sgC))))] [(rd sgA d.b_.ai.length 2 (d.b_.ai.map aJ.cells))] (vB (decide (mG d.b_))):=by
 refine bI kr Tryz.func198 U U fun F Q hQ hN=>?_
 try dsimp only
 refine WS fun _ B=>fK U fun E=>bo 1 U<|RK B<|WS fun _ A=>rP 5 [] (mc 0 U mn) ?_
 refine cj (t:=7) U (aO fun C=>?_) (aP fun C=>?_)
 ·refine rP 13 [] mn ?_
  refine RK A<|ar<|Q1 hQ U U U ?_
  simp only [mG]
  exact cB (bx I).symm
 refine rP 6 [] (mc 0 U mn) ?_
 refine cj (t:=13) U (aO fun D=>?_) (aP fun D=>?_)
 ·refine rP 7 [] mn ?_
  refine RK A<|ar<|Q1 hQ U U U ?_
  simp only [mG]
  exact cB (bx I).symm
 refine rP 7 [] (mc 0 U mn) ?_
 refine RK A<|ar<|Q1 hQ U U U ?_
 simp only [mG]
 exact cB (gi.2 I)
theorem TI (d:au) (sgA:OA) (sgC:Nat):
 er Tryz.prog 196 [(vA (bg.cells (bg.mk d.Out d.dZ d.Time (lV d.b_ sgA sgC))))] [(rd sgA d.b_.ai.length 2 (d.b_.ai.map aJ.cells))] (vB d.Out):=by
 refine bI kr Tryz.func196 U U fun D Q hQ hN=>?_
 try dsimp only
 refine WS fun _ A=>fK U fun C=>bo 1 U<|RK A<|WS fun _ B=>rP 3 [] (mc 0 U mn) ?_
 refine RK B<|ar<|Q1 hQ U U U ?_
 rfl
theorem SZ (d:au) (sgA:OA) (sgC:Nat):
 er Tryz.prog 199 [(vA (bg.cells (bg.mk d.Out d.dZ d.Time (lV d.b_ sgA sgC))))] [(rd sgA d.b_.ai.length 2 (d.b_.ai.map aJ.cells))] (vB d.dZ):=by
 refine bI kr Tryz.func199 U U fun D Q hQ hN=>?_
 try dsimp only
 refine WS fun _ A=>fK U fun C=>bo 1 U<|RK A<|WS fun _ B=>rP 3 [] (mc 0 U mn) ?_
 refine RK B<|ar<|Q1 hQ U U U ?_
 rfl
theorem Tz (d:au) (sgA:OA) (sgC:Nat):
 er Tryz.prog 201 [(vA (bg.cells (bg.mk d.Out d.dZ d.Time (lV d.b_ sgA sgC))))] [(rd sgA d.b_.ai.length 2 (d.b_.ai.map aJ.cells))] (vB true):=by
 refine bI kr Tryz.func201 U U fun D Q hQ hN=>?_
 try dsimp only
 refine WS fun _ A=>fK U fun C=>bo 1 U<|RK A<|WS fun _ B=>rP 1 [] mn ?_
 refine RK B<|ar<|Q1 hQ U U U ?_
 rfl
end
section
open Go.RowKit
theorem Bh (r:bY) (kA:OA) (kC:Nat) (az:List RA) (cA:OA) (cC:Nat) (bA:OA) (bC:Nat) (slA:OA) (slC:Nat) (drA:OA) (drC:Nat) (ha:List cG) (heA:OA) (heC:Nat) (tz:List RA) (tA:OA) (tC:Nat) (ms:Value) (gw:Nat) (l:List Int) (lA:OA) (lC:Nat) (hin:ej r az ha) (hlen:l.length≤1000000):
 er Tryz.prog 38 [(vP gw),(vS lA l.length lC)] [(rd kA r.an.aL.length 9 (r.an.aL.map ak.cells)),(rd cA r.an.ah.length 2 (List.zipWith aq.cells r.an.ah az)),(eX (aU aq.gE r.an.ah az)),(rd bA r.an.ae.length 4 (r.an.ae.map bG.cells)),(rd slA r.aK.length 1 (r.aK.map iC)),(rd drA r.bL.length 1 (r.bL.map iC)),(rd heA r.ao.length 1 (List.zipWith ct r.ao ha)),(eX (aU hO r.ao ha)),(rd tA ((cU r).length) 1 (List.zipWith Ew (cU r) tz)),(eX (aU M3 (cU r) tz)),(cm gw 91 (gd.cells (gd.mk (ou r kA kC cA cC bA bC slA slC drA drC heA heC) (bq.mk tA ((cU r).length) tC) ms))),(rd lA l.length 1 (l.map iC))] (vB (qx 0 ((r.aK.length:Int)-1) l)):=by
 have C:=hin.line
 have G:=hin.iv
 have H:=hin.has
 have E:=hin.iA
 have D:=hin.draw
 have F:=dB (r:=r)
 refine bI kr Tryz.func38 U U fun AA Q hQ hN=>?_
 try dsimp only
 refine WS fun _ A=>bo 1 U<|RK A<|WS fun _ B=>bo 1 U<|rS (SX (bQ U U) U U)<|fG 6 [] (mr 10 U mn) U<|rS (CL (kp 0 ((r.aK.length:Int)-1) l lA lC hlen) (bk [11]) U)<|rP 1 [] mn ?_
 refine RK B<|ar ?_
 exact Q1 hQ U U U U
theorem yd (a b:Bool):
 er Tryz.prog 39 [(vB a),(vB b)] [] (Value.int .u8 (if a=true then 2 else if b=true then 1 else 0)):=by
 refine bI kr Tryz.func39 U U fun J Q hQ hN=>?_
 try dsimp only
 refine WS fun _ C=>bo 1 U<|RK C<|aj fun _ D=>ay<|WS fun _ E=>rP 2 [] mn ?_
 refine RK E<|cE U (fun A=>?_) (fun A=>?_)
 ·refine WS fun _ F=>rP 1 [] mn ?_
  refine RK F<|ar<|Q1 hQ U U U ?_
  rw [if_pos A]
 refine WS fun _ G=>rP 2 [] mn ?_
 refine RK G<|cE U (fun B=>?_) (fun B=>?_)
 ·refine WS fun _ H=>rP 1 [] mn ?_
  refine RK H<|ar<|Q1 hQ U U U ?_
  (rw [if_neg (by rw [A]; decide),if_pos B])
 refine ck<|aG<|KK D<|WS fun _ AA=>rP 1 [] mn ?_
 refine RK AA<|ar<|Q1 hQ U U U ?_
 (rw [if_neg (by rw [A]; decide),if_neg (by rw [B]; decide)])
end
section
open Go.RowKit
theorem Qc {P:Program} {t:TypeId} {x y:Operand} {k e:TypeId} {p:Option Nat} (h:P.underlying t=some (.map k e)):gL P .eql t x y (.map p) (.map none) (.bool p.isNone):=fun w=>by
 have A:(Op.equal t (.map p) (.map none)).run P w= .ok p.isNone w:=by
  unfold Op.equal
  show (Op.equalIn (9999+1) t (.map p) (.map none)).run P w=_
  unfold Op.equalIn
  cases p<;>simp [run_underlying h]
 have B:eqGuard .eql t x y (.map p) (.map none)=pure ():=rfl
 rw [B]
 show (Sem.run P (do let b ← Op.equal t (.map p) (.map none); pure (vB b)) w)=_
 simp [A]
theorem FE {P:Program} {r:Nat} {es:Array MapEntry} {clock:Nat} {w:World} (t:TypeId) (hb:w.heap[r]? =some (.map es clock)):
 (Extern.MapsClone.clone #[.iface t (.map (some r))]).run P w= .ok (.iface t (.map (some w.heap.size))) (w.alloc (.map es clock)):=by
 have e:Extern.MapsClone.clone #[.iface t (.map (some r))]=(getObj r >>= fun o=>match o with
  | .map entries clock=>(newObj (.map entries clock) >>= fun n=>pure (.iface t (.map (some n))))
  |_=>stuck "maps.clone: a map expected"):=rfl
 rw [e]
 simp [MapKept.run_getObj_map hb,Result.andThen,go_sem]
theorem B0 {P:Program} {xt t k e:TypeId} {v:Value} {w:World} (h:P.underlying t=some (.map k e)):(Instr.typeAssert (.iface t v) xt t false).run P w= .ok v w:=by
 simp [Instr.typeAssert,run_underlying h,go_sem,Result.andThen]
theorem oM {C:List aw} {g t:Nat} {cs:List Value} {n sz:Nat} {es:List (List Value)} (i:Nat) (hC:C[i]? =some (cm g t cs).ro) (h1:es.length=n) (h2: ∀ e∈es,e.length=sz) (h3:es.flatten=cs):g9 C (rd (some ⟨g,0,none⟩) n sz es).holds:=fun w hw=>
 vD (show (cm g t cs).holds w from hw (cm g t cs).ro (aS hC)) h1 h2 ⟨[],by simp [h3]⟩
section
variable {E:fq} {ops:Array Oper} {Q:dk} {rest:List Oper} {D:List Deferred} {L:List (Nat×Value)} {C:List aw}
variable {dst:Option Nat} {d:Nat} {ty:TypeId} {ps:String} {af:Array Edge} {g:Option (Nat×Bool)}
theorem IX {P:Program} {t k e:TypeId} {v:Value} {w:World} (h:P.underlying t=some (.map k e)):(Instr.makeInterface t v).run P w= .ok (.iface t v) w:=by
 simp [Instr.makeInterface,run_underlying h,Result.andThen]
theorem OE {t k e:TypeId} {x:Operand} {v:Value} (hg:jM ops L g=true) (hx:ev L x=some v) (ht:E.P.underlying t=some (.map k e)):SD E ops ⟨dst,.makeInterface t x,ty,ps,af,g⟩ D L C (.iface t v):=
 dW hg sm fun a w hf _=>by
  have e:=hf.ev hx
  simp only [execOp,e]
  rw [Sem.run_bind,IX ht]
  simp
theorem SJ {xt t kt et:TypeId} {x:Operand} {v:Value} (hg:jM ops L g=true) (hx:ev L x=some (.iface t v)) (ht:E.P.underlying t=some (.map kt et)):SD E ops ⟨dst,.typeAssert x xt t false,ty,ps,af,g⟩ D L C v:=
 dW hg sm fun a w hf _=>by
  have e:=hf.ev hx
  simp only [execOp,e]
  rw [Sem.run_bind,B0 ht]
  simp
theorem KC {K:Type} [DecidableEq K] {kV:K→Value} {x:Operand} {ts:Array TypeId} {f:FuncId} {fn:Func} {t b:Nat} {m:List (K×Value)} (hg:jM ops L g=true) (hx:ev L x=some (.iface t (.map (some b)))) (hf:E.P.funcs[f]? =some fn) (hname:(fn.name=="runtime.NumGoroutine")=false)
 (hb:fn.body.isNone=true) (hn:Extern.findNext fn=none) (he:Extern.find fn=some Extern.MapsClone.clone) (hC:g9 C (im kV b m).holds) (hd:Nat.blt d E.n=true) (k: ∀ b',RJ E ops Q rest D ((d,.iface t (.map (some b')))::L) (im kV b' m::C)):
 RJ E ops Q (⟨some d,.call {callee:= .value (.func f),args:= #[x],argTypes:=ts},ty,ps,af,g⟩::rest) D L C:=by
 intro a w B hs
 have hd':d<E.n:=by rw [← Nat.blt_eq]; exact hd
 obtain ⟨es,c,F,hi⟩:=hC w hs.holds
 unfold sH
 rw [if_pos (eo B hg)]
 refine g4 (v:= .iface t (.map (some w.heap.size))) (w':=w.alloc (.map es c)) sm ?_ ?_
 ·have e:=B.ev hx
  have G:a.eval (.func f)= .func (.func f) #[] #[]:=rfl
  simp [execOp,resolve,e,G,Deferred.ofValue,invoke,run_callFunc_extern hf hname hb hn he,FE t F]
 ·refine k _ _ _ (B.put hd' _) (hs.grow (ei.alloc no w _) (N:=[im kV w.heap.size m]) ⟨fun A hA=>?_,fun A hA b hb=>?_,List.pairwise_singleton _ _⟩)
  ·simp at hA; subst hA; exact ⟨es,c,heap_alloc_new w _,hi⟩
  ·simp at hA; subst hA; exact Nat.le_of_eq (Eq.symm hb)
end
end
section
open Go.RowKit
theorem w5 (lA:OA) (lN lC:Nat):
 lx Tryz.prog 60 [(vS lA lN lC)] [] (fun (x:Nat)=>(Value.func (.func 81) [].toArray [(vP x)].toArray)) (fun (x:Nat)=>True) (fun (x:Nat)=>[(cm x 32 [(vS lA lN lC)])]):=by
 refine dp kr Tryz.func60 U U fun D Q hQ hN=>?_
 try dsimp only
 refine WS fun _ A=>uP U U fun C=>bo 1 U<|RK A<|WS fun _ B=>rS (FU U)<|rP 1 [] mn ?_
 refine RK B<|ar<|LX hQ C [0] [] mn U U U U ?_
 trivial
theorem KM (nl:List Int) (nlA:OA) (nlC g1:Nat) (hlen:nl.length≤12):
 Oj Tryz.prog 81 [] [(vP g1)] [(rd nlA nl.length 1 (nl.map iC)),(cm g1 32 [(vS nlA nl.length nlC)])] (qG nl):=by
 refine F4 kr Tryz.func81 U U fun l J Z A0 T Q hY K AB hQ hN=>?_
 try dsimp only
 refine WS fun _ M=>rP 3 [] (mr 2 U mn) ?_
 refine RK M<|ay ?_
 have F:(0≤nl.length)∧(J 0 A0)∧(Fo A0 T A0):=by exact ⟨Nat.zero_le _,K,AB⟩
 refine bK (ι:={z:Nat×aw // (z.1≤nl.length)∧(J z.1 z.2)∧(Fo A0 T z.2)}) [0,1,5,6] [1] U U (fun z=>[(7,(vI (z.1.1:Int)))]) (fun z=>[z.1.2]) (fun _=>rfl) (fun _=>rfl) (fun z=>nl.length-z.1.1) ⟨(0,A0),F⟩ (aT U) (aI [1,0]) ?_
 clear F
 rintro ⟨⟨i,A⟩,⟨G,B,C⟩⟩ J2 L
 try dsimp only at G B C
 try dsimp only
 refine WS fun _ N=>rP 1 [] mn ?_
 refine RK N<|aj fun _ O=>bO U (aO fun AA=>?_) (aP fun AA=>?_)
 ·refine bD<|ab<|ab<|aA ?_
  refine hN _ _ _ (ic (vs:=[]) trivial fun w hs=>S_ 1 U (by rw [tW]; have e:nl.length=i:=I; rw [e]; exact B) C hs)
 refine WK O<|aj fun _ P=>ay<|WS fun _ R=>?_
 obtain ⟨x,hx⟩:=aH nl i I
 have S:=bJ iC hx
 refine rS (IA i U (aB 0 U) cN dc I I)<|rS (fX i 0 (vI x) U cb (aB 0 U) S U dc U)<|bo 1 U<|RK R<|WS fun _ H=>rP 2 [] mn ?_
 refine Gj 1 hY B C U U U (IJ hx) U U (fun B9 E D=>?_) (fun B9 E D=>?_)
 rotate_left 1
 ·refine rP 1 [] mn ?_
  refine RK H<|aN U<|ar ?_
  refine hQ _ _ _ (ic (vs:=[]) trivial fun w hs=>Pe 1 U E D hs)
 refine bo 1 U<|RK H<|bh U<|ck<|aG<|KK P<|al<|rP 2 [] mn ?_
 refine aD ?_
 refine aR (L ⟨((i+1),B9),⟨I,E,D⟩⟩ _ _ _ U os (aT U) (aI [0,1]))
end
section
open Go.RowKit
theorem NA (x:Int):
 er Tryz.prog 134 [(vI x)] [] (vB false):=by
 refine bI kr Tryz.func134 U U fun C Q hQ hN=>?_
 try dsimp only
 refine WS fun _ A=>bo 1 U<|RK A<|WS fun _ B=>rP 4 [] mn ?_
 refine RK B<|ar<|Q1 hQ U U U ?_
 simp
theorem N0 (x y:Int):
 er Tryz.prog 105 [(vI x),(vI y)] [] (vB (decide (x<y))):=by
 refine bI kr Tryz.func105 U U fun C Q hQ hN=>?_
 try dsimp only
 refine WS fun _ A=>bo 1 U<|RK A<|WS fun _ B=>bo 1 U<|rS (CL (NA x) (aM) U)<|rP 11 [] mn ?_
 refine RK B<|ar<|Q1 hQ U U U ?_
 exact cB (gi.2 I)
theorem G7 (l:List Int) (lA:OA) (lC:Nat) (hlen:l.length≤1000000):
 DS Tryz.prog 99 [(vS lA l.length lC),(vI 0),(vI (l.length:Int))] [] (own lA lC 3 1 (l.map iC)) (fun (x:(List Int))=>(vT [])) (fun (x:(List Int))=>x.Perm l∧x.Pairwise (· ≤ ·)) (fun (x:(List Int))=>(own lA lC 3 1 (x.map iC))):=by
 refine mZ kr Tryz.func99 U U fun g Q hQ hN=>?_
 try dsimp only
 refine WS fun _ X=>bo 1 U<|rS (SX (cf (r:= .int .i64 1) U U U (iE ⟨dc,dc⟩)) U U)<|rP 1 [] mn ?_
 refine RK X<|ay ?_
 have A:(1≤1∧(1≤l.length∨1=1))∧(l.length=l.length)∧(l.Perm l)∧(P9 l 1):=by exact ⟨I,rfl,List.Perm.refl _,Nw⟩
 refine bK (ι:={z:Nat×(List Int) // (1≤z.1∧(z.1≤l.length∨z.1=1))∧(z.2.length=l.length)∧(z.2.Perm l)∧(P9 z.2 z.1)}) [0,1,2] [] U U (fun z=>[(6,(vI (z.1.1:Int)))]) (fun z=>[(own lA lC 3 1 (z.1.2.map iC))]) (fun _=>rfl) (fun _=>rfl) (fun z=>l.length-z.1.1) ⟨(1,l),A⟩ (aT U) (aI [0]) ?_
 clear A
 rintro ⟨⟨i,m⟩,⟨K,AB,E,F⟩⟩ J2 M
 try dsimp only at K AB E F
 try dsimp only
 refine aj fun _ Y=>WS fun _ Z=>rP 3 [] mn ?_
 refine RK Z<|bO U (aO fun e=>?_) (aP fun e=>?_)
 ·refine bD<|ab<|ab<|aA<|LM hN m 0 [] mn U U U U ?_
  exact ⟨E,OD F I⟩
 refine WK Y<|aj fun _ O=>ay<|WS fun _ b=>rP 2 [] mn ?_
 refine RK b<|ay ?_
 have A:(i≤i)∧(m.length=l.length)∧(m.Perm l)∧(Ra m i i):=by exact ⟨Nat.le_refl _,AB,E,Hd F I⟩
 refine bK (ι:={z:Nat×(List Int) // (z.1≤i)∧(z.2.length=l.length)∧(z.2.Perm l)∧(Ra z.2 i z.1)}) [0,1,2,6] [] U U (fun z=>[(7,(vI (z.1.1:Int)))]) (fun z=>[(own lA lC 3 1 (z.1.2.map iC))]) (fun _=>rfl) (fun _=>rfl) (fun z=>z.1.1) ⟨(i,m),A⟩ (aT U) (aI [0]) ?_
 clear A
 rintro ⟨⟨j,q⟩,⟨G,B,C,D⟩⟩ J8 W
 try dsimp only at G B C D
 try dsimp only
 refine aj fun _ c=>aj fun _ J=>dg cv 15 kr<|dP 4 [] mn ?_
 refine jA (t:=19) U (aO fun hj=>?_) (aP fun hj=>?_)
 ·refine lQ 11 U<|cM<|RK J<|bh U<|bD<|ab<|ab<|aA<|aG<|KK O<|al<|rP 3 [] mn ?_
  refine aD ?_
  refine aR (M ⟨((i+1),q),⟨I,B,C,by exact Jj I D⟩⟩ _ _ _ U (by simp only []; omega) (aT U) (aI [0]))
 refine dP 2 [] mn ?_
 obtain ⟨x,hx⟩:=aH q j I
 have L:=bJ iC hx
 refine dS (IA j U (ag (n:=l.length) 0 U sq) cN dc I I) ?_
 refine dS (fX j 0 (vI x) U cb (ag (n:=q.length) 0 U sm) L U dc U)<|dP 3 [] mn ?_
 obtain ⟨y,hy⟩:=aH q (j-1) I
 have V:=bJ iC hy
 refine dS (IA (j-1) U (ag (n:=l.length) 0 U sq) cN dc I I) ?_
 refine dS (fX (j-1) 0 (vI y) U cb (ag (n:=q.length) 0 U sm) V U dc U)<|dS (CL (N0 x y) (aM) U)<|dP 1 [] mn ?_
 refine cM<|RK J<|bO U (aO fun H=>?_) (aP fun H=>?_)
 ·refine bD<|ab<|ab<|aA<|aG<|KK O<|al<|rP 3 [] mn ?_
  refine aD ?_
  refine aR (M ⟨((i+1),q),⟨I,B,C,by exact KA hx hy I G H D⟩⟩ _ _ _ U (by simp only []; omega) (aT U) (aI [0]))
 refine WK c<|aj fun _ N=>ay<|dJ cv [15,16,17] [8,9,12,13,14] [] [] [0] U U U U U<|eS U (MV U)<|eS U (MV U)<|eS U (MV U)<|eS U (MV U)<|eS U (BI U (sJ ⟨I,I⟩))<|eS U (MV U)<|eS U (MV U)<|eS U (BI U (sJ ⟨I,I⟩)) ?_
 refine fS U (IA (j-1) U (ag (n:=l.length) 0 U sq) cN dc I I) ?_
 refine fS U (fX (j-1) 0 (vI y) U cb (ag (n:=q.length) 0 U sm) V U dc U)<|eS U (MV U)<|eS U (MV U) ?_
 refine fS U (IA j U (ag (n:=l.length) 0 U sq) cN dc I I) ?_
 refine fS U (fX j 0 (vI x) U cb (ag (n:=q.length) 0 U sm) L U dc U) ?_
 refine fS U (IA j U (ag (n:=l.length) 0 U sq) cN dc I I) ?_
 refine eT U<|cp U fun T12 P=>dI (k:=j) (o:=0) (vs:=[(vI y)]) (es':=(List.map iC (q.set j y))) (C':=[(own lA lC 3 1 (List.map iC (q.set j y)))]) 0 U U U DM U U U U L U dc (by exact (List.map_set (f:=iC) (l:=q) (i:=j) (a:=y)).symm) U<|aD (P _ _ (aI []) ?_)
 refine cp U fun T13 R=>?_
 obtain ⟨d,AA⟩:=aH (q.set j y) (j-1) os
 have hx15m:(List.map iC (q.set j y))[(j-1)]? =some (iC d):=by rw [fP,AA]; rfl
 refine rS (IA (j-1) U (ag (n:=l.length) 0 U sq) cN dc I I) ?_
 refine aD (R _ _ (aI []) ?_)
 refine cp U fun T16 S=>dI (k:=(j-1)) (o:=0) (vs:=[(vI x)]) (es':=(List.map iC ((q.set j y).set (j-1) x))) (C':=[(own lA lC 3 1 (List.map iC ((q.set j y).set (j-1) x)))]) 0 U U U DM U U U U hx15m U dc (by exact (List.map_set (f:=iC) (l:=(q.set j y)) (i:=(j-1)) (a:=x)).symm) U<|aD (S _ _ (aI []) ?_)
 refine fO U<|aG<|KK N<|al<|rP 3 [] mn ?_
 refine aD ?_
 have T:(vI (((j-1):Nat):Int))=(vI ((j:Int)-1)):=by exact cI I
 refine aR (W ⟨((j-1),((q.set j y).set (j-1) x)),⟨I,by simp; exact B,(IK hx hy).trans C,Kj hx hy I G H D⟩⟩ _ _ _ U (by simp only []; omega) (cR 4<|aY U T<|dj.nil _) (aI [0]))
theorem NZ (x:Int) (hx:0≤x∧x≤100):
 lx Tryz.prog 109 [(Value.int .u64 x)] [] (fun (x:Int)=>(vI x)) (fun (x:Int)=>True) (fun (x:Int)=>[]):=by
 refine dp kr Tryz.func109 U U fun N Q hQ hN=>?_
 try dsimp only
 refine WS fun _ D=>bo 1 U<|RK D<|aj fun _ E=>WS fun _ F=>rP 1 [] mn ?_
 refine rS (BI U GC)<|RK F<|cE U (aP fun L=>?_) (aO fun L=>?_)
 ·exfalso; omega
 refine WK E<|aj fun _ G=>WS fun _ H=>rP 1 [] mn ?_
 refine rS (BI U GC)<|RK H<|cE U (aP fun M=>?_) (aO fun M=>?_)
 ·exfalso; omega
 refine WK G<|aj fun _ AA=>WS fun _ J=>rP 1 [] mn ?_
 refine rS (BI U GC)<|RK J<|cE U (aP fun C=>?_) (aO fun C=>?_)
 ·exfalso; omega
 refine WK AA<|WS fun _ B=>bo 2 U<|rS (SX (rK (m:=x) U U Sq N8 (Cv (by first|assumption|omega))) U U)<|Qj (k:=(x).toNat) U U U Wg I (Nat.lt_of_lt_of_le (m:=200) I (of_decide_eq_true kr)) U fun A K=>rS (SX (rK (m:=A) U U N8 mX (oQ (by first|assumption|omega))) U U)<|rP 2 [] mn ?_
 refine RK B<|ar<|LX hQ (0+A) [] [] mn U U U U ?_
 trivial
theorem Ru (x:Int) (hx:0≤x∧x≤100):
 lx Tryz.prog 75 [(Value.int .u64 x)] [] (fun (x:Int)=>(vI x)) (fun (x:Int)=>True) (fun (x:Int)=>[]):=by
 refine dp kr Tryz.func75 U U fun F Q hQ hN=>?_
 try dsimp only
 refine WS fun _ A=>bo 1 U<|RK A<|aj fun _ B=>bh U<|WK B<|WS fun _ C=>rP 1 [] mn ?_
 refine cX (NZ x hx) (aM) U fun E D=>?_
 try dsimp only
 refine rP 1 [] mn ?_
 refine RK C<|ar<|LX hQ E [] [] mn U U U U ?_
 trivial
theorem TH (l:List Int) (lA:OA) (lC:Nat) (u:Int) (hlen:l.length≤12):
 DS Tryz.prog 74 [(vS lA l.length lC),(vI 0),(vI (l.length:Int)),(vI u)] [] (own lA lC 3 1 (l.map iC)) (fun (x:(List Int))=>(vT [])) (fun (x:(List Int))=>x.Perm l∧x.Pairwise (· ≤ ·)) (fun (x:(List Int))=>(own lA lC 3 1 (x.map iC))):=by
 refine mZ kr Tryz.func74 U U fun K Q hQ hN=>?_
 try dsimp only
 refine WS fun _ A=>bo 1 U<|RK A<|WS fun _ B=>bo 1 U<|RK B<|ay<|j2 1<|eJ fun R3 AA=>ay<|WS fun _ C=>bo 4 U<|RK C<|aj fun _ H=>WS fun _ D=>rP 2 [] mn ?_
 refine RK D<|bO U (aO fun G=>?_) (aP fun G=>?_)
 ·exfalso; omega
 refine WS fun _ E=>rP 3 [] mn ?_
 refine je 0 U U U U (G7 l lA lC I) U kG U (fun J F=>?_)
 try dsimp only
 refine RK E<|ar<|LM hQ J 0 [] mn U U U U ?_
 assumption
theorem Aq (l:List Int) (lA:OA) (lC:Nat) (hlen:l.length≤12):
 DS Tryz.prog 51 [(vS lA l.length lC)] [] (own lA lC 3 1 (l.map iC)) (fun (x:(List Int))=>(vT [])) (fun (x:(List Int))=>x.Perm l∧x.Pairwise (· ≤ ·)) (fun (x:(List Int))=>(own lA lC 3 1 (x.map iC))):=by
 refine mZ kr Tryz.func51 U U fun F Q hQ hN=>?_
 try dsimp only
 refine WS fun _ A=>bo 3 U<|RK A<|al<|rP 3 [] mn ?_
 refine rS (SX (rK (m:=(l.length:Int)) U U mX SC (AB (by first|assumption|omega))) U U)<|cX (Ru (l.length:Int) I) (aM) U fun E B=>?_
 try dsimp only
 refine je 0 U U U U (TH l lA lC E hlen) U kG U (fun D C=>?_)
 try dsimp only
 refine aD<|LM hN D 0 [] mn U U U U ?_
 assumption
end
section
open Go.RowKit
theorem LU (nl:List Int) (nlA:OA) (nlC g1:Nat) (hlen:nl.length≤12):
 lx Tryz.prog 94 [(vS none 0 0),(Value.func (.func 81) [].toArray [(vP g1)].toArray)] [(rd nlA nl.length 1 (nl.map iC)),(cm g1 32 [(vS nlA nl.length nlC)])] (fun (x:(OA)×Nat)=>(vS x.1 nl.length x.2)) (fun (x:(OA)×Nat)=>True) (fun (x:(OA)×Nat)=>[(own x.1 x.2 3 1 (nl.map iC))]):=by
 refine dp kr Tryz.func94 U U fun R Q hQ hN=>?_
 try dsimp only
 refine WS fun _ D=>uP U U fun J=>bo 1 U<|RK D<|aj fun _ E=>WS fun _ G=>rP 1 [] mn ?_
 refine RK G<|ay<|kN 1 U (by exact fun _ h=>h)<|kN 3 U (by exact fun _ h=>h)<|gl 3 1 ?_
 refine F7 (L0:=[(2,(vP J))]) (F:=[(rd nlA nl.length 1 (nl.map iC)).ro,(cm g1 32 [(vS nlA nl.length nlC)]).ro]) (xs:=(qG nl)) (fun k (y:(OA)×Nat)=>True) (fun k y=>[(own y.1 y.2 3 1 ((nl.take k).map iC)),(cm J 32 [(vS y.1 ((nl.take k).length) y.2)]),(rd nlA nl.length 1 (nl.map iC)).ro]) (fun _ (_:Unit)=>False) (fun _ _=>[]) [0,3,4] [2,1] (none,0) U U (KM nl nlA nlC g1 (by first|assumption|omega|(simp; done))) U U U (by trivial) (by simp only [List.forall_mem_cons,List.not_mem_nil,false_imp_iff,implies_true,and_true]; exact ⟨⟨_,sm,(dV (bU _))⟩,⟨_,sm,(dV (bU _))⟩⟩) (by exact EI) U (aT U) ?_ ?_ (fun _ _ _ h=>h.elim) (fun _ _ h=>h.elim)
 rotate_left 1
 ·rintro O ⟨a,c⟩ AA
  try dsimp only
  rw [yY]
  refine aG<|KK E<|WS fun _ A=>rP 2 [] (mc 4 U mn) ?_
  refine RK A<|ar<|hQ _ _ _ (oW 0 U U<|ic (vs:=[(vS a nl.length c)]) ⟨U,trivial⟩ fun w hs=>Ki (a,c) [3] ?_ ?_ U U U hs)
  ·rfl
  ·trivial
 rintro k x ⟨a,c⟩ l ra rb S T K5 Qr6 hx K H B L M
 obtain ⟨y,hy,rfl⟩:=Hp hx
 try dsimp only
 refine al<|rP 1 [] mn ?_
 refine aD<|aR (H _ _ ?_)
 refine ay<|al<|rP 2 [] (mc 2 U mn) ?_
 refine du (xs:=[.tmp 9]) (cs:=[(vI y)]) U cN jv U U U U (by simp [Value.cells]) U U fun P=>?_
 refine cO (es2:=(List.map iC (nl.take (k+1)))) (m':=(nl.take (k+1)).length) 2 U U U pq U U sm (bp (es:=List.map iC [y]) 0 U U (by simp [bM]) U) (jP _) (by simp; omega) (by simp [maxLen]; omega) (by rw [mx hy]; simp) sm U fun N C=>?_
 try dsimp only
 refine UY U xn U U<|aD<|aG ?_
 exact B (N,C) _ _ (by trivial) (aI [1,2,3,4])
theorem Iw (nl:List Int) (nlA:OA) (nlC g1:Nat) (hlen:nl.length≤12):
 lx Tryz.prog 67 [(Value.func (.func 81) [].toArray [(vP g1)].toArray)] [(rd nlA nl.length 1 (nl.map iC)),(cm g1 32 [(vS nlA nl.length nlC)])] (fun (x:(OA)×Nat)=>(vS x.1 nl.length x.2)) (fun (x:(OA)×Nat)=>True) (fun (x:(OA)×Nat)=>[(own x.1 x.2 3 1 (nl.map iC))]):=by
 refine dp kr Tryz.func67 U U fun G Q hQ hN=>?_
 try dsimp only
 refine WS fun _ A=>bo 1 U<|RK A<|WS fun _ B=>rP 1 [] mn ?_
 refine cX (LU nl nlA nlC g1 hlen) (bk [0,1]) U fun F E=>?_
 obtain ⟨C,D⟩:=F
 try dsimp only
 refine rP 1 [] mn ?_
 refine RK B<|ar<|LX hQ (C,D) [0] [] mn U U U U ?_
 trivial
theorem x8 (nl:List Int) (nlA:OA) (nlC g1:Nat) (hlen:nl.length≤12):
 lx Tryz.prog 41 [(Value.func (.func 81) [].toArray [(vP g1)].toArray)] [(rd nlA nl.length 1 (nl.map iC)),(cm g1 32 [(vS nlA nl.length nlC)])] (fun (x:(OA)×Nat)=>(vS x.1 nl.length x.2)) (fun (x:(OA)×Nat)=>True) (fun (x:(OA)×Nat)=>[(own x.1 x.2 3 1 ((dA nl).map iC))]):=by
 refine dp kr Tryz.func41 U U fun J Q hQ hN=>?_
 try dsimp only
 refine WS fun _ B=>bo 1 U<|RK B<|WS fun _ C=>rP 1 [] mn ?_
 refine cX (Iw nl nlA nlC g1 hlen) (bk [0,1]) U fun AA H=>?_
 obtain ⟨F,G⟩:=AA
 try dsimp only
 refine bo 1 U<|RK C<|WS fun _ D=>rP 1 [] mn ?_
 refine je 0 U U U U (Aq nl F G hlen) U kG U (fun m A=>?_)
 try dsimp only
 refine RK D<|WS fun _ E=>?_
 obtain rfl:=q8 A.1 A.2
 skip
 refine rP 2 [] mn ?_
 refine RK E<|ar<|LX hQ (F,G) [0] [] mn U U U U ?_
 trivial
end
section
open Go.RowKit
theorem MD (n lo hi:Int) (g1 g2:Nat):
 er Tryz.prog 140 [(vI n),(vP g1),(vP g2)] [(cm g1 3 [(vI lo)]),(cm g2 3 [(vI hi)])] (vB (decide (n<lo∨hi<n))):=by
 refine bI kr Tryz.func140 U U fun D Q hQ hN=>?_
 try dsimp only
 refine WS fun _ B=>bo 1 U<|RK B<|WS fun _ A=>rP 4 [] (mr 0 U mn) ?_
 refine cH (t:=8) U (aP fun C=>?_) (aO fun C=>?_)
 ·refine rP 5 [] mn ?_
  refine RK A<|ar<|Q1 hQ U U U ?_
  exact cB (dK I).symm
 refine rP 5 [] (mr 1 U mn) ?_
 refine RK A<|ar<|Q1 hQ U U U ?_
 exact cB (gi.2 I)
theorem jf (lo hi:Int) (l:List Int) (lA:OA) (lC:Nat) (hlen:l.length≤1000000):
 er Tryz.prog 116 [(vI lo),(vI hi),(vS lA l.length lC)] [(rd lA l.length 1 (l.map iC))] (vB (qx lo hi l)):=by
 refine bI kr Tryz.func116 U U fun F Q hQ hN=>?_
 try dsimp only
 refine WS fun _ D=>uP U U fun A=>uP U U fun B=>bo 1 U<|RK D<|WS fun _ E=>rP 1 [] mn ?_
 refine rS (FU U) ?_
 refine rS (CL (s7 l lA lC (Value.func (.func 140) [].toArray [(vP A),(vP B)].toArray) (fun C=>(decide (C<lo∨hi<C))) (eX [(cm A 3 [(vI lo)]),(cm B 3 [(vI hi)])]) (by intro C _; exact n_ (fi:=[]) (ca:=[(vP A),(vP B)]) (mz (MD C lo hi A B) (bk [0,1]))) hlen) (fM 2 U U<|av (mE (bk [1,0]))<|aM) U) ?_
 refine rP 2 [] mn ?_
 refine RK E<|ar ?_
 exact Q1 hQ U U U U
theorem UU (n d:Int) (hd:2≤d):
 er Tryz.prog 142 [(vI n),(vI d)] [] (vI (Tb n d)):=by
 refine bI kr Tryz.func142 U U fun C Q hQ hN=>?_
 try dsimp only
 refine WS fun _ A=>bo 1 U<|RK A<|WS fun _ B=>bo 2 U<|rS (BI U Rs)<|rS (BI U Lj)<|bo 1 U<|rS (BI U (Re I (QJ (TR _) hd)))<|rP 1 [] mn ?_
 refine RK B<|ar ?_
 exact Q1 hQ U U U U
theorem Pu (n d:Int) (hd:1≤d∧d≤1000000) (hn:0≤n∧n≤1000000000000000):
 er Tryz.prog 142 [(vI n),(vI d)] [] (vI (pI n d)):=by
 refine bI kr Tryz.func142 U U fun C Q hQ hN=>?_
 try dsimp only
 refine WS fun _ A=>bo 1 U<|RK A<|WS fun _ B=>bo 5 U<|rS (BI U (uu I I I))<|rP 1 [] mn ?_
 refine RK B<|ar ?_
 exact Q1 hQ U U U U
theorem GF (c:aq) (sA:OA) (sC:Nat) (at_:Int) (hc:fj c) (ha:0≤at_∧at_≤90000000):
 er Tryz.prog 218 [(vA (dh.cells (dh.mk c.dv (bq.mk sA c.aV.length sC)))),(vI at_)] [(rd sA c.aV.length 3 (c.aV.map cd.cells))] (vA (aa.cells (iI c at_))):=by
 have X:=hc.len
 have J:=hc.sT
 refine bI kr Tryz.func218 U U fun e Q hQ hN=>?_
 try dsimp only
 refine WS fun _ M=>fK U fun b=>AL U dx fun d=>RK M<|WS fun _ N=>rS (SX (bu (xs:=[(0,.const (vI (-1099511627776))),(1,.const (vI 1099511627776))]) (cs:=(aa.cells (aa.mk (-1099511627776) 1099511627776))) U U (br gG U)) U U)<|AL U dx fun W=>fW U cz U<|RK N<|aj fun _ O=>aj fun _ P=>?_
 have R:(aa.cells (aa.mk (-1099511627776) 1099511627776))=(aa.cells (gI c at_ 0)):=by rfl
 rw [R]
 refine al<|rP 4 [] (mc 2 U mn) ?_
 refine RK P<|ay ?_
 have A:(0≤c.aV.length):=by exact Nat.zero_le _
 refine bK (ι:={z:Nat // (z≤c.aV.length)}) [1,2,4,5,11,12] [1,2,3] U U (fun z=>[(13,(vI (z.1:Int)))]) (fun z=>[(cm W 40 (aa.cells (gI c at_ z.1)))]) (fun _=>rfl) (fun _=>rfl) (fun z=>c.aV.length-z.1) ⟨0,A⟩ (aT U) (aI [1,2,3,0]) ?_
 clear A
 rintro ⟨i,S⟩ J9 L
 try dsimp only
 refine WS fun _ B=>rP 1 [] mn ?_
 refine RK B<|aj fun _ C=>bO U (aO fun K=>?_) (aP fun K=>?_)
 ·refine bD<|ab<|ab<|aA<|KK O<|WS fun _ G=>rP 1 [] (mc 3 U mn) ?_
  refine fW U cz U<|RK G<|ar<|IN hQ [0] (mc 0 U mn) U ?_
  rw [nK (show c.aV.length≤i by omega)]
 refine WK C<|aj fun _ D=>ay<|WS fun _ E=>?_
 obtain ⟨x,hx⟩:=aH c.aV i I
 have AA:=bJ cd.cells hx
 refine rS (IA i U (aB 2 U) m8 dc I I)<|rS (lS i 0 (cd.cells x) U cb (aB 2 U) AA U dc U U)<|AL U sI fun V=>fW U tY U<|RK E<|WS fun _ F=>rP 5 [0,1] (mc 2 U (mc 0 U mn)) ?_
 have T:=hc.vy hx
 have Z:=Dn hc ha i
 have Y:=FZ J ha (show 0≤x.At∧x.At≤90000000 by omega)
 refine fG 5 [] (mc 0 U mn) U<|rS (MX U)<|rS (BI U (F5 ⟨I,I⟩))<|rS (CL (Pu (c.dv*(max (at_-x.At) (x.At-at_))) 1000000 I I) (aM) U)<|bo 1 U<|RK F<|al<|rP 6 [0,1] (mc 4 U (mc 0 U mn)) ?_
 have a:0≤pI (c.dv*max (at_-x.At) (x.At-at_)) 1000000∧pI (c.dv*max (at_-x.At) (x.At-at_)) 1000000≤90001:=vr J ha T.1
 refine bo 1 U<|rS (MX U)<|rP 7 [0,1] (mc 4 U (mc 0 U mn)) ?_
 refine rS (MN U)<|rS (SX (bu (xs:=[(0,.tmp 37),(1,.tmp 45)]) (cs:=(aa.cells (aa.mk (max ((gI c at_ i).Lo) (x.d_.Lo-(pI (c.dv*(max (at_-x.At) (x.At-at_))) 1000000))) (min ((gI c at_ i).Hi) (x.d_.Hi+(pI (c.dv*(max (at_-x.At) (x.At-at_))) 1000000)))))) U U (br gG U)) U U)<|Pw U cz U<|aD<|aG<|KK D ?_
 have H:(aa.cells (aa.mk (max ((gI c at_ i).Lo) (x.d_.Lo-(pI (c.dv*(max (at_-x.At) (x.At-at_))) 1000000))) (min ((gI c at_ i).Hi) (x.d_.Hi+(pI (c.dv*(max (at_-x.At) (x.At-at_))) 1000000)))))=(aa.cells (gI c at_ (i+1))):=by rw [kf hx]; rfl
 rw [H]
 refine al<|rP 2 [] mn ?_
 refine aD ?_
 have AB:(vI (((i+1):Nat):Int))=(vI ((i:Int)+1)):=by exact cI I
 refine aR (L ⟨(i+1),(by first|omega|(simp only []; omega))⟩ _ _ _ U os (cR 6<|aY U AB<|dj.nil _) (aI [1,2,3,4]))
theorem QY (c:aq) (sA:OA) (sC:Nat) (hlen:c.aV.length≤1000000) (hcap:c.aV.length≤sC):
 er Tryz.prog 120 [(vA (dh.cells (dh.mk c.dv (bq.mk sA c.aV.length sC))))] [(rd sA c.aV.length 3 (c.aV.map cd.cells))] (vB (decide (fj c))):=by
 refine bI kr Tryz.func120 U U fun w0 Q hQ hN=>?_
 try dsimp only
 refine WS fun _ A9=>fK U fun b2=>bo 1 U<|RK A9<|Br U<|aj fun _ BX=>WS fun _ q=>rP 2 [] (mc 0 U mn) ?_
 refine du (xs:=[.tmp 11]) (cs:=[(vI c.dv)]) U cN jv U U U U (by simp [Value.cells]) U U fun b5=>?_
 refine rS (CL (er.eq (jf 0 1000 ([c.dv]) (some ⟨b5,0,none⟩) 1 (by (simp; done))) df) (av (bp 0 U U (by simp [bM]) U)<|aM) U) ?_
 refine rP 2 [] mn ?_
 refine cH (t:=15) U (aZ fun AB=>?_) (a_ fun AB=>?_)
 ·refine bo 7 U<|RK q<|aN U<|WS fun _ B3=>rP 1 [] mn ?_
  refine RK B3<|ar<|Q1 hQ U U U ?_
  exact cB (bx fun h=>AB h.sT).symm
 refine rP 3 [] (mc 1 U mn) ?_
 refine du (xs:=[.tmp 18]) (cs:=[(vI (c.aV.length:Int))]) U cN jv U U U U (by simp [Value.cells]) U U fun b7=>?_
 refine rS (CL (er.eq (jf 1 5 ([(c.aV.length:Int)]) (some ⟨b7,0,none⟩) 1 (by (simp; done))) df) (av (bp 0 U U (by simp [bM]) U)<|aM) U) ?_
 refine rP 2 [] mn ?_
 refine RK q<|cE U (aZ fun O=>?_) (a_ fun O=>?_)
 ·refine WS fun _ B7=>rP 1 [] mn ?_
  refine RK B7<|ar<|Q1 hQ U U U ?_
  exact cB (bx fun h=>O (by have:=h.len; omega)).symm
 refine WK BX<|WS fun _ B9=>bo 1 U<|RK B9<|WS fun _ R=>bo 1 U<|RK R<|aj fun _ S=>Az<|KK S<|aj fun _ K=>WS fun _ T=>rP 4 [] (mc 2 U mn) ?_
 refine RK T<|ay ?_
 have B:(0≤c.aV.length)∧(tx c 0):=by exact ⟨Nat.zero_le _,HT⟩
 have r:(vI (kE c 0))=(vI (-1)):=by rw [gK rfl]
 refine bK (ι:={z:Nat // (z≤c.aV.length)∧(tx c z)}) [1,2,4,24,25] [2,3] U U (fun z=>[(3,(vI (kE c z.1))),(26,(vI (z.1:Int)))]) (fun z=>[]) (fun _=>rfl) (fun _=>rfl) (fun z=>c.aV.length-z.1) ⟨0,B⟩ (aY U r<|aT U) (aI [2,3]) ?_
 clear B
 rintro ⟨i,⟨L,C⟩⟩ J15 P
 try dsimp only
 have C3: -1≤kE c i∧kE c i≤86400000:=QI L C
 refine WS fun _ AA=>rP 1 [] mn ?_
 refine RK AA<|aj fun _ V=>bO U (aO fun A4=>?_) (aP fun A4=>?_)
 ·refine bD<|ab<|ab<|aA<|KK K<|WS fun _ f=>rP 2 [] mn ?_
  refine RK f<|ar<|Q1 hQ U U U ?_
  exact cB (dK (Hb AB I (by have e:i=c.aV.length:=I; rw [← e]; exact C))).symm
 refine WK V<|aj fun _ W=>ay<|WS fun _ X=>rP 1 [] mn ?_
 obtain ⟨x,hx⟩:=aH c.aV i I
 have Cp:=bJ cd.cells hx
 refine rS (IA i U (aB 1 U) m8 dc I I)<|rS (lS i 0 (cd.cells x) U cb (aB 1 U) Cp U dc U U)<|AL U sI fun Cx=>rP 1 [] mn ?_
 refine fW U tY U<|RK X ?_
 refine oI (ι:=Unit) [1,2,3,5,6,24,25,26] [0,1,2] U U (fun z=>[(4,(vB (decide (fD c i x))))]) (fun z=>[]) (fun _=>rfl) (fun _=>rfl) ?_ fun K22 G=>?_
 ·intro _
  try dsimp only
  refine aj fun _ Y=>WS fun _ Z=>fG 3 [] (mc 1 U mn) U<|rS (Vl i U m8 I I)<|rP 2 [] mn ?_
  refine RK Z<|ay ?_
  have B:(0≤i)∧((decide (fD c i x))=(decide (mC c i x 0))):=by exact ⟨Nat.zero_le _,gi.2 Fh.symm⟩
  refine bK (ι:={z:Nat×Bool // (z.1≤i)∧(z.2=(decide (mC c i x z.1)))}) [1,2,3,5,6,24,25,26,59,60] [0,1,2] U U (fun z=>[(4,(vB z.1.2)),(61,(vI (z.1.1:Int)))]) (fun z=>[]) (fun _=>rfl) (fun _=>rfl) (fun z=>i-z.1.1) ⟨(0,(decide (fD c i x))),B⟩ (aT U) (aI [0,1,2]) ?_
  clear B
  rintro ⟨⟨k,b⟩,⟨M,A⟩⟩ J25 F
  try dsimp only at M A
  try dsimp only
  refine WS fun _ a=>rP 1 [] mn ?_
  refine RK a<|aj fun _ d=>bO U (aO fun A6=>?_) (aP fun A6=>?_)
  ·refine bD<|ab<|ab<|aA<|KK Y<|aj fun _ m=>WS fun _ n=>rP 2 [] mn ?_
   refine RK n<|cE U (fun D=>?_) (fun D=>?_)
   ·rw [Bool.not_eq_true'] at D
    refine bD<|ab<|iW U<|ab<|ab<|aA<|KK K<|WS fun _ p=>rP 2 [] mn ?_
    refine RK p<|ar<|Q1 hQ U U U ?_
    exact cB (by have e:k=i:=I; rw [e] at A; rw [D] at A ⊢; exact (bx (Kh hx (of_decide_eq_false A.symm))).symm)
   rw [Bool.not_eq_false'] at D
   refine WK m<|al<|fG 3 [] (mc 0 U mn) U<|aD<|aG<|KK W<|al<|rP 2 [] mn ?_
   refine aD ?_
   have An:(vB true)=(vB b):=by exact cB D.symm
   have Av:(vI (kE c (i+1)))=(vI x.At):=by rw [oL hx]
   have A0:(vI (((i+1):Nat):Int))=(vI ((i:Int)+1)):=by exact cI I
   refine aR (P ⟨(i+1),⟨I,Ip C hx (by have e:k=i:=I; rw [e] at A; exact of_decide_eq_true (A.symm.trans D))⟩⟩ _ _ _ U os (dj.cons U<|dj.cons U<|aY U An<|dj.cons U<|dj.cons U<|aY U Av<|aY U A0<|dj.nil _) (aI [1,2]))
  refine WK d<|aj fun _ H=>ay<|WS fun _ g=>?_
  obtain ⟨o,ho⟩:=aH c.aV k I
  have Ci:=bJ cd.cells ho
  refine rS (Tf k U (aB 2 U) m8 dc I I I)<|rS (lS k 0 (cd.cells o) U cb (aB 2 U) Ci U dc U U)<|AL U sI fun C0=>fW U tY U<|RK g<|WS fun _ l=>fG 6 [0,1,2] (mc 2 U (mc 1 U (mc 0 U mn))) U<|rS (BI U Lj)<|rS (BI U QH)<|rS (CL (UU (BA (c.dv*(BA (x.At-o.At)))) 1000000 I) (aM) U)<|bo 1 U<|RK l<|al<|rP 2 [] mn ?_
  refine cj (t:=75) U (fun J=>?_) (fun J=>?_)
  ·refine bo 6 U<|bo 16 U<|aD<|aG<|KK H<|al<|rP 2 [] mn ?_
   refine aD ?_
   have AO:(vI (((k+1):Nat):Int))=(vI ((k:Int)+1)):=by exact cI I
   refine aR (F ⟨((k+1),false),⟨I,by exact (bx fun h=>by have h2:=((tv ho).1 h).1; rw [A] at J; exact absurd (dK h2) (by rw [J]; decide)).symm⟩⟩ _ _ _ U os (cR 11<|aY U AO<|dj.nil _) (aI [1,2,3]))
  refine rP 6 [0,1] (mc 1 U (mc 0 U mn)) ?_
  have A1:mC c i x k:=of_decide_eq_true (A.symm.trans J)
  obtain ⟨Ck,DV,Di⟩:=u3 (fun j y hj hy=>(C j y hj hy).1) hx A1.1 I ho
  have N:=OY AB Ck
  refine rP 5 [] mn ?_
  refine cj (t:=86) U (aO fun E=>?_) (aP fun E=>?_)
  ·refine bo 11 U<|aD<|aG<|KK H<|al<|rP 2 [] mn ?_
   refine aD ?_
   have AC:(vI (((k+1):Nat):Int))=(vI ((k:Int)+1)):=by exact cI I
   refine aR (F ⟨((k+1),false),⟨I,by exact (bx fun h=>by have h2:=((tv ho).1 h).2; rw [N] at E; exact E h2.1).symm⟩⟩ _ _ _ U os (cR 11<|aY U AC<|dj.nil _) (aI [1,2,3]))
  refine fG 11 [0,1] (mc 0 U (mc 1 U mn)) U<|aD<|aG<|KK H<|al<|rP 2 [] mn ?_
  refine aD ?_
  have w:(vI (((k+1):Nat):Int))=(vI ((k:Int)+1)):=by exact cI I
  refine aR (F ⟨((k+1),(decide ((o.d_.Lo-x.d_.Hi)≤(Tb (BA (c.dv*(BA (x.At-o.At)))) 1000000)))),⟨I,by exact gi.2 (by rw [tv ho,N]; rw [N] at E; exact ⟨fun h=>⟨A1,E,h⟩,fun h=>h.2.2⟩)⟩⟩ _ _ _ U os (cR 11<|aY U w<|dj.nil _) (aI [1,2,3]))
 refine al<|rP 4 [] (mc 0 U mn) ?_
 refine du (xs:=[.tmp 34]) (cs:=[(vI x.At)]) U cN jv U U U U (by simp [Value.cells]) U U fun A2=>?_
 refine rS (CL (er.eq (jf ((kE c i)+1) 86400000 ([x.At]) (some ⟨A2,0,none⟩) 1 (by (simp; done))) df) (av (bp 0 U U (by simp [bM]) U)<|aM) U) ?_
 refine rP 1 [] mn ?_
 refine cj (t:=37) U (aO fun A7=>?_) (aP fun A7=>?_)
 ·refine rP 19 [] mn ?_
  refine aD ?_
  have v:(decide (fD c i x))=false:=bx (by unfold fD; omega)
  refine aR (jT (cR 8<|n7 U v<|dj.nil _) (aI [1,2,3]) (G ()))
 refine rP 6 [] (mc 1 U mn) ?_
 refine du (xs:=[.tmp 40,.tmp 43]) (cs:=[(vI x.d_.Lo),(vI x.d_.Hi)]) U cN jv U U U U (by simp [Value.cells]) U U fun A3=>?_
 refine rS (CL (er.eq (jf (-10000) 10000 ([x.d_.Lo,x.d_.Hi]) (some ⟨A3,0,none⟩) 2 (by (simp; done))) r_) (av (bp 0 U U (by simp [bM]) U)<|aM) U) ?_
 refine rP 2 [] mn ?_
 refine cj (t:=47) U (aO fun A8=>?_) (aP fun A8=>?_)
 ·refine rP 9 [] mn ?_
  refine aD ?_
  have u:(decide (fD c i x))=false:=bx (by unfold fD; omega)
  refine aR (jT (cR 8<|n7 U u<|dj.nil _) (aI [2,3,4]) (G ()))
 refine rP 9 [] (mc 2 U mn) ?_
 refine aD ?_
 have s:(decide (fD c i x))=(decide (x.d_.Lo≤x.d_.Hi)):=gi.2 (by unfold fD; omega)
 refine aR (jT (cR 8<|n7 U s<|dj.nil _) (aI [2,3,4]) (G ()))
theorem Tm (ms:List aq) (az:List RA) (k:Nat) (m:aq) (a:RA) (hm:ms[k]? =some m) (ha:az[k]? =some a) (hc:m.aV.length≤a.2∧m.aV.length≤1000000):
 er Tryz.prog 119 [(vA (dh.cells (dh.mk m.dv (bq.mk a.1 m.aV.length a.2))))] [(eX (aU aq.gE ms az))] (vB (!(decide (fj m)))):=by
 obtain ⟨C,D⟩:=hc
 refine bI kr Tryz.func119 U U fun F Q hQ hN=>?_
 try dsimp only
 refine WS fun _ A=>fK U fun E=>bo 1 U<|RK A<|WS fun _ B=>fG 1 [] (mc 0 U mn) U<|rS (CL (QY m a.1 a.2 asm asm) (av (show g9 _ (rd a.1 m.aV.length 3 (m.aV.map cd.cells)).holds from (cw 1 U (bH hm ha (by simp [aq.gE]))))<|aM) U)<|rP 2 [] mn ?_
 refine RK B<|ar ?_
 exact Q1 hQ U U U U
theorem HI (l:List aq) (az:List RA) (lA:OA) (lC:Nat) (f:Value) (p:aq→Bool) (X:aw) (hf: ∀ (k:Nat) m a,l[k]? =some m→az[k]? =some a→DY Tryz.prog f [.agg (aq.cells m a).toArray] [X] (.bool (p m))) (hlen:l.length≤1000000) (has:az.length=l.length):
 er Tryz.prog 141 [(vS lA l.length lC),f] [(rd lA l.length 2 (List.zipWith aq.cells l az)),(eX (aU aq.gE l az)),X] (vI (t_ p l)):=by
 refine bI kr Tryz.func141 U U fun T Q hQ hN=>?_
 try dsimp only
 refine WS fun _ AA=>bo 1 U<|RK AA<|aj fun _ J=>WS fun _ K=>rP 3 [] mn ?_
 refine RK K<|ay ?_
 have B:(0≤l.length)∧((l.take 0).any p=false):=by simp
 refine bK (ι:={z:Nat // (z≤l.length)∧((l.take z).any p=false)}) [0,1,7] [0,1,2] U U (fun z=>[(8,(vI (z.1:Int)))]) (fun z=>[]) (fun _=>rfl) (fun _=>rfl) (fun z=>l.length-z.1) ⟨0,B⟩ (aT U) (aI [0,1,2]) ?_
 clear B
 rintro ⟨i,⟨P,A⟩⟩ J4 H
 try dsimp only
 refine WS fun _ L=>rP 1 [] mn ?_
 refine RK L<|aj fun _ M=>bO U (aO fun S=>?_) (aP fun S=>?_)
 ·refine bD<|ab<|ab<|aA<|KK J<|WS fun _ E=>rP 1 [] mn ?_
  refine RK E<|ar<|Q1 hQ U U U ?_
  exact cI (s9 I A).symm
 refine WK M<|aj fun _ N=>ay<|WS fun _ O=>bo 2 U<|RK O<|WS fun _ C=>rP 3 [] mn ?_
 obtain ⟨x,hx⟩:=aH l i I
 obtain ⟨xa,G⟩:=aH az i I
 have R:(List.zipWith aq.cells l az)[i]? =some (aq.cells x xa):=cT hx G
 refine rS (IA i U (aB 0 U) uB dc I I)<|rS (lS i 0 (dh.cells (dh.mk x.dv (bq.mk xa.1 x.aV.length xa.2))) U cb (aB 0 U) R U dc U U)<|rS (SX (sZ U U U (hf i x xa hx G) (bk [2])) U U)<|RK C<|cE U (fun hp=>?_) (fun hp=>?_)
 ·refine WS fun _ D=>rP 2 [] mn ?_
  refine RK D<|ar<|Q1 hQ U U U ?_
  exact cI (xw hx hp A).symm
 refine ck<|aG<|KK N<|al<|rP 2 [] mn ?_
 refine aD ?_
 have F:(vI (((i+1):Nat):Int))=(vI ((i:Int)+1)):=by exact cI I
 refine aR (H ⟨(i+1),⟨I,yI hx A hp⟩⟩ _ _ _ U os (cR 3<|aY U F<|dj.nil _) (aI [0,1,2]))
theorem By (l:List aq) (az:List RA) (lA:OA) (lC:Nat) (f:Value) (p:aq→Bool) (X:aw) (hf: ∀ (k:Nat) m a,l[k]? =some m→az[k]? =some a→DY Tryz.prog f [.agg (aq.cells m a).toArray] [X] (.bool (p m))) (hlen:l.length≤1000000) (has:az.length=l.length):
 er Tryz.prog 118 [(vS lA l.length lC),f] [(rd lA l.length 2 (List.zipWith aq.cells l az)),(eX (aU aq.gE l az)),X] (vB (l.any p)):=by
 refine bI kr Tryz.func118 U U fun C Q hQ hN=>?_
 try dsimp only
 refine WS fun _ A=>bo 1 U<|RK A<|WS fun _ B=>bo 2 U<|rS (CL (HI l az lA lC f p X (by exact hf) hlen has) (NC 0 1 2 U U U U U U) U)<|rP 2 [] mn ?_
 refine RK B<|ar<|Q1 hQ U U U ?_
 exact cB vj
theorem Hl (l:List bG) (lA:OA) (lC:Nat) (f:Value) (p:bG→Bool) (X:aw) (hf: ∀ x0,x0∈l→DY Tryz.prog f [.agg (bG.cells x0).toArray] [X] (.bool (p x0))) (hlen:l.length≤1000000):
 er Tryz.prog 143 [(vS lA l.length lC),f] [(rd lA l.length 4 (l.map bG.cells)),X] (vI (t_ p l)):=by
 refine bI kr Tryz.func143 U U fun S Q hQ hN=>?_
 try dsimp only
 refine WS fun _ H=>bo 1 U<|RK H<|aj fun _ AA=>WS fun _ J=>rP 3 [] mn ?_
 refine RK J<|ay ?_
 have B:(0≤l.length)∧((l.take 0).any p=false):=by simp
 refine bK (ι:={z:Nat // (z≤l.length)∧((l.take z).any p=false)}) [0,1,7] [0,1] U U (fun z=>[(8,(vI (z.1:Int)))]) (fun z=>[]) (fun _=>rfl) (fun _=>rfl) (fun z=>l.length-z.1) ⟨0,B⟩ (aT U) (aI [0,1]) ?_
 clear B
 rintro ⟨i,⟨O,A⟩⟩ J4 G
 try dsimp only
 refine WS fun _ K=>rP 1 [] mn ?_
 refine RK K<|aj fun _ L=>bO U (aO fun R=>?_) (aP fun R=>?_)
 ·refine bD<|ab<|ab<|aA<|KK AA<|WS fun _ E=>rP 1 [] mn ?_
  refine RK E<|ar<|Q1 hQ U U U ?_
  exact cI (s9 I A).symm
 refine WK L<|aj fun _ M=>ay<|WS fun _ N=>bo 2 U<|RK N<|WS fun _ C=>rP 3 [] mn ?_
 obtain ⟨x,hx⟩:=aH l i I
 have P:=bJ bG.cells hx
 refine rS (IA i U (aB 0 U) th dc I I)<|rS (lS i 0 (bG.cells x) U cb (aB 0 U) P U dc U U)<|rS (SX (sZ U U U (hf x (aS hx)) (bk [1])) U U)<|RK C<|cE U (fun hp=>?_) (fun hp=>?_)
 ·refine WS fun _ D=>rP 2 [] mn ?_
  refine RK D<|ar<|Q1 hQ U U U ?_
  exact cI (xw hx hp A).symm
 refine ck<|aG<|KK M<|al<|rP 2 [] mn ?_
 refine aD ?_
 have F:(vI (((i+1):Nat):Int))=(vI ((i:Int)+1)):=by exact cI I
 refine aR (G ⟨(i+1),⟨I,yI hx A hp⟩⟩ _ _ _ U os (cR 3<|aY U F<|dj.nil _) (aI [0,1]))
theorem A_ (l:List bG) (lA:OA) (lC:Nat) (f:Value) (p:bG→Bool) (X:aw) (hf: ∀ x0,x0∈l→DY Tryz.prog f [.agg (bG.cells x0).toArray] [X] (.bool (p x0))) (hlen:l.length≤1000000):
 er Tryz.prog 122 [(vS lA l.length lC),f] [(rd lA l.length 4 (l.map bG.cells)),X] (vB (l.any p)):=by
 refine bI kr Tryz.func122 U U fun C Q hQ hN=>?_
 try dsimp only
 refine WS fun _ A=>bo 1 U<|RK A<|WS fun _ B=>bo 2 U<|rS (CL (Hl l lA lC f p X (by exact hf) hlen) (bk [0,1]) U)<|rP 2 [] mn ?_
 refine RK B<|ar<|Q1 hQ U U U ?_
 exact cB vj
end
section
open Go.RowKit
theorem qk (a:aa) (l:List aa) (lA:OA) (lC:Nat) (ha:lR a) (hl: ∀ z∈l,lR z) (hlen:l.length≤4):
 er Tryz.prog 147 [(vA (aa.cells a)),(vS lA l.length lC)] [(rd lA l.length 2 (l.map aa.cells))] (vA (aa.cells (kP a l))):=by
 refine bI kr Tryz.func147 U U fun AA Q hQ hN=>?_
 try dsimp only
 refine WS fun _ AB=>fK U fun R=>AL U dx fun T=>RK AB<|aj fun _ J=>WS fun _ K=>rP 3 [] mn ?_
 refine RK K<|ay ?_
 have A:(0≤l.length):=by exact Nat.zero_le _
 refine bK (ι:={z:Nat // (z≤l.length)}) [2,4,7,8] [0,2] U U (fun z=>[(9,(vI (z.1:Int)))]) (fun z=>[(cm R 40 (aa.cells (kP a (l.take z.1))))]) (fun _=>rfl) (fun _=>rfl) (fun z=>l.length-z.1) ⟨0,A⟩ (aT U) (aI [0,2,1]) ?_
 clear A
 rintro ⟨i,N⟩ J6 H
 try dsimp only
 refine WS fun _ L=>rP 1 [] mn ?_
 refine RK L<|aj fun _ M=>bO U (aO fun S=>?_) (aP fun S=>?_)
 ·refine bD<|ab<|ab<|aA<|KK J<|aj fun _ D=>?_
  have G:(aa.cells (kP a (l.take i)))=(aa.cells (kP a l)):=by rw [IY I]
  rw [G]
  refine al<|rP 1 [] (mc 2 U mn) ?_
  refine fW U cz U<|RK D<|ar ?_
  exact IN hQ [0] (mc 0 U mn) U U
 refine WK M<|aj fun _ B=>ay<|WS fun _ C=>?_
 obtain ⟨x,hx⟩:=aH l i I
 have O:=bJ aa.cells hx
 refine rS (IA i U (aB 1 U) jY dc I I)<|rS (lS i 0 (aa.cells x) U cb (aB 1 U) O U dc U U)<|AL U dx fun P=>fW U cz U<|RK C<|al ?_
 have hb:=Qi ha hl i
 have hz:=hl x (aS hx)
 unfold lR at hz
 refine rP 10 [0,1,0,1] (mc 3 U (mc 0 U mn)) ?_
 refine rS (SX (bu (xs:=[(0,.tmp 17),(1,.tmp 22)]) (cs:=(aa.cells (aa.mk (((kP a (l.take i)).Lo)+x.Lo) (((kP a (l.take i)).Hi)+x.Hi)))) U U (br gG U)) U U)<|UP U cz U<|aD<|aG<|KK B ?_
 have E:(aa.cells (aa.mk (((kP a (l.take i)).Lo)+x.Lo) (((kP a (l.take i)).Hi)+x.Hi)))=(aa.cells (kP a (l.take (i+1)))):=by rw [zV hx]; rfl
 rw [E]
 refine al<|rP 2 [] mn ?_
 refine aD ?_
 have F:(vI ((i+1):Int))=(vI ((i:Int)+1)):=by exact cI I
 refine aR (H ⟨(i+1),(by first|omega|(simp only []; omega))⟩ _ _ _ U os (cR 4<|aY U F<|dj.nil _) (aI [1,2,3]))
theorem Gn (ts:List ak) (tsA:OA) (tsC:Nat) (hlen:ts.length≤1000000) (hside: ∀ x∈ts,0≤x.iZ∧x.iZ≤255):
 er Tryz.prog 144 [(vA (bw.cells (bw.mk (bq.mk tsA ts.length tsC))))] [(rd tsA ts.length 9 (ts.map ak.cells))] (vT [(vA (eI.cells (eI.mk (bw.mk (bq.mk tsA ts.length tsC))))),(vI (if di ts=true then 0 else 10))]):=by
 refine bI kr Tryz.func144 U U fun E Q hQ hN=>?_
 try dsimp only
 refine WS fun _ A=>fK U fun C=>AL U Km fun D=>bo 1 U<|RK A<|aj fun _ B=>dg cv 4 kr<|mw 1 [] (mc 1 U mn) U<|dS (SX (bu (xs:=[(0,.tmp 4)]) (cs:=(eI.cells (eI.mk (bw.mk (bq.mk tsA ts.length tsC))))) U U (br SF U)) U U)<|mw 1 [] (mc 1 U mn) U<|dS (CL (CZ ts tsA tsC hlen hside) (bk [2]) U)<|cM<|fW U LC U<|rP 1 [] mn ?_
 refine RK B<|ar ?_
 exact lP hQ [0] (mc 0 U mn) U U
theorem Nm (f:Int) (tsA:OA) (tsN tsC:Nat):
 lx Tryz.prog 161 [(vA (eI.cells (eI.mk (bw.mk (bq.mk tsA tsN tsC))))),(vI f)] [] (fun (x:Nat×Nat)=>(Value.func (.func 169) [].toArray [(Value.pointer (some ⟨x.1,0,none⟩)),(Value.pointer (some ⟨x.2,0,none⟩))].toArray)) (fun (x:Nat×Nat)=>True) (fun (x:Nat×Nat)=>[(cm x.1 3 [(vI f)]),(cm x.2 203 (eI.cells (eI.mk (bw.mk (bq.mk tsA tsN tsC)))))]):=by
 refine dp kr Tryz.func161 U U fun E Q hQ hN=>?_
 try dsimp only
 refine WS fun _ A=>fK U fun C=>uP U U fun D=>bo 1 U<|RK A<|WS fun _ B=>rS (FU U)<|rP 1 [] mn ?_
 refine RK B<|ar<|LX hQ (D,C) [0,1] [] mn U U U U ?_
 trivial
theorem Hq (ts:List ak) (tsA:OA) (tsC:Nat) (f:Int) (g1 g2:Nat) (hst: ∀ x∈ts,bR x) (hlen:ts.length≤12) (hf:0≤f∧f≤ts.length):
 Oj Tryz.prog 169 [] [(vP g1),(vP g2)] [(rd tsA ts.length 9 (ts.map ak.cells)),(cm g1 3 [(vI f)]),(cm g2 203 (eI.cells (eI.mk (bw.mk (bq.mk tsA ts.length tsC)))))] (uI ts f.toNat):=by
 refine F4 kr Tryz.func169 U U fun l J Z A0 p Q hY g d hQ hN=>?_
 try dsimp only
 refine WS fun _ h=>AL U dx fun n=>AL U dx fun o=>RK h<|WS fun _ i=>rP 2 [] (mr 4 U mn) ?_
 refine RK i<|ay ?_
 have P:(0≤ts.length-f.toNat)∧(J 0 A0)∧(Fo A0 p A0):=by exact ⟨Nat.zero_le _,g,d⟩
 have m:(vI (f+(0:Int)))=(vI f):=by exact cI I
 refine bK (ι:={z:Nat×aw // (z.1≤ts.length-f.toNat)∧(J z.1 z.2)∧(Fo A0 p z.2)}) [0,1,2,4,5] [3,4,5] U U (fun z=>[(6,(vI (f+(z.1.1:Int))))]) (fun z=>[(cm o 40 (aa.cells (gD ts f.toNat z.1.1))),(cm n 40 (aa.cells (eQ ts f.toNat z.1.1))),z.1.2]) (fun _=>rfl) (fun _=>rfl) (fun z=>ts.length-f.toNat-z.1.1) ⟨(0,A0),P⟩ (aY U m<|dj.nil _) (aI [3,4,5,0,1,2]) ?_
 clear P
 rintro ⟨⟨k,A⟩,⟨W,R,S⟩⟩ J6 V
 try dsimp only at W R S
 try dsimp only
 refine aj fun _ j=>WS fun _ X=>rP 3 [0,1] (mc 4 U (mc 3 U mn)) ?_
 refine Gj 5 hY R S U U U (zI I) U U (fun B9 C B=>?_) (fun B9 C B=>?_)
 rotate_left 1
 ·refine rP 8 [] mn ?_
  refine RK X<|bh U<|bD<|ab<|ab<|aA ?_
  refine hN _ _ _ (ic (vs:=[]) trivial fun w hs=>Pe 5 U C B hs)
 refine rP 8 [] (mr 2 U mn) ?_
 refine RK X<|bO U (aO fun c=>?_) (aP fun c=>?_)
 ·refine bD<|ab<|ab<|aA ?_
  refine hN _ _ _ (ic (vs:=[]) trivial fun w hs=>S_ 5 U (by rw [uj]; have e:ts.length-f.toNat+1=k+1:=I; rw [e]; exact C) B hs)
 refine WK j<|aj fun _ M=>ay<|ow cv [0,1,2,3,4,5,6,7,10,11,12,13,14,15,16,17] [8,9,18,19,20,21] [true,false,false,false,false,false,false,false,true,false,false,false,false,false,false,false] [8,9,18] [(rd tsA ts.length 9 (ts.map ak.cells)).ro,(cm g1 3 [(vI f)]).ro,(cm g2 203 (eI.cells (eI.mk (bw.mk (bq.mk tsA ts.length tsC))))).ro,B9] [(rd tsA ts.length 9 (ts.map ak.cells)).ro,(cm g1 3 [(vI f)]).ro,(cm g2 203 (eI.cells (eI.mk (bw.mk (bq.mk tsA ts.length tsC))))).ro,(cm o 40 (aa.cells (gD ts f.toNat k))),(cm n 40 (aa.cells (eQ ts f.toNat k))),B9] kr (aI [0,1,2,5]) (aI [0,1,2,3,4,5])<|fS U (LW 4 U cb U U)<|eS U (FA 0 U fw U)<|eS U (FA 0 U fw U)<|eS U (IL (vS tsA ts.length tsC) 2 U cb U U)<|eS U (MV U) ?_
 obtain ⟨x,hx⟩:=aH ts (f.toNat+k) I
 have a:=bJ ak.cells hx
 refine eS U (IA (f.toNat+k) U (aB 0 U) uU dc I I) ?_
 have L:=hst x (aS hx)
 refine eS U (mV (((f.toNat+k)*9)+1) U (aB 0 U) (Nat.mul_pos I dc) fw U)<|eS U (lS (f.toNat+k) 1 (aa.cells x.jL) U cb (aB 0 U) a U dc U U)<|fS U (LW 3 U cb U U)<|eS U (FA 0 U fw U)<|eS U (FA 0 U fw U)<|eS U (IL (vS tsA ts.length tsC) 2 U cb U U)<|eS U (MV U)<|eS U (IA (f.toNat+k) U (aB 0 U) uU dc I I)<|eS U (mV (((f.toNat+k)*9)+3) U (aB 0 U) (Nat.mul_pos I dc) fw U)<|eS U (lS (f.toNat+k) 3 (aa.cells x.ky) U cb (aB 0 U) a U dc U U)<|eT U<|iJ [8,18] kr (ek ?_<|ek ?_<|j_)
 rotate_left 1
 ·refine vN (rem':=[8,9,19,20,21]) U kr fun T14 N=>du (xs:=[.tmp 39]) (cs:=(aa.cells x.ky)) U jY dx U U U U (by simp [Value.cells,aa.aW]) U U fun T=>aD (N _ _ (aI [1,2,3,6]) (aI [1,2,3,4,5,6]) ?_)
  refine N1 8<|vN (rem':=[9,19,20,21]) U kr fun T16 D=>du (xs:=[.tmp 29]) (cs:=(aa.cells x.jL)) U jY dx U U U U (by simp [Value.cells,aa.aW]) U U fun AA=>aD (D _ _ (aI [2,3,4,7]) (aI [2,3,4,5,6,7]) ?_)
  refine N1 9<|vN (rem':=[19,20,21]) U kr fun T18 O=>?_
  refine rS (CL (er.eq (qk (eQ ts f.toNat k) ([x.jL]) (some ⟨AA,0,none⟩) 1 (by exact qX hst I) (by intro z hz; simp only [bP] at hz; subst hz; exact ve L) sm) nT) (av (bp 0 rfl rfl (by simp [aa.aW]) rfl)<|aM) rfl) ?_
  refine aD (O _ _ (aI [2,3,4,7]) (aI [2,3,4,5,6,7]) ?_)
  refine N1 19<|NO U U [20,21] fun T19 E=>?_
  refine rS (CL (er.eq (qk (gD ts f.toNat k) ([x.ky]) (some ⟨T,0,none⟩) 1 (by exact yP hst I) (by intro z hz; simp only [bP] at hz; subst hz; exact vc L) sm) nT) (av (bp 1 rfl rfl (by simp [aa.aW]) rfl)<|aM) rfl) ?_
  refine aD (E _ _ (aI [2,3,4,7]) ?_)
  refine N1 20<|NO U U [21] fun T20 F=>Nd U cz U<|aD (F _ _ (aI [2,3,4,7]) ?_)
  refine N1 21<|NO U U [] fun T21 G=>IM U cz U<|aD (G _ _ (aI [2,3,4,7]) ?_)
  refine od<|aG<|KK M ?_
  have H:(aa.cells (mR (eQ ts f.toNat k) x.jL))=(aa.cells (eQ ts f.toNat (k+1))):=by rw [qd hx]
  rw [H]
  have AB:(aa.cells (mR (gD ts f.toNat k) x.ky))=(aa.cells (gD ts f.toNat (k+1))):=by rw [pR hx]
  rw [AB]
  refine al<|rP 3 [] mn ?_
  refine aD ?_
  have K:(vI (f+(((k+1):Nat):Int)))=(vI ((f+(k:Int))+1)):=by exact cI I
  refine aR (V ⟨((k+1),B9),⟨I,C,B⟩⟩ _ _ _ U os (cR 5<|aY U K<|dj.nil _) (aI [2,3,4,5,6,7]))
 refine vN (rem':=[9,18,19,20,21]) U kr fun T14 N=>du (xs:=[.tmp 29]) (cs:=(aa.cells x.jL)) U jY dx U U U U (by simp [Value.cells,aa.aW]) U U fun T=>aD (N _ _ (aI [1,2,3,6]) (aI [1,2,3,4,5,6]) ?_)
 refine iJ [9,18] kr (ek ?_<|ek ?_<|j_)
 rotate_left 1
 ·refine vN (rem':=[9,19,20,21]) U kr fun T16 D=>du (xs:=[.tmp 39]) (cs:=(aa.cells x.ky)) U jY dx U U U U (by simp [Value.cells,aa.aW]) U U fun AA=>aD (D _ _ (aI [2,3,4,7]) (aI [2,3,4,5,6,7]) ?_)
  refine N1 9<|vN (rem':=[19,20,21]) U kr fun T18 O=>?_
  refine rS (CL (er.eq (qk (eQ ts f.toNat k) ([x.jL]) (some ⟨T,0,none⟩) 1 (by exact qX hst I) (by intro z hz; simp only [bP] at hz; subst hz; exact ve L) sm) nT) (av (bp 1 rfl rfl (by simp [aa.aW]) rfl)<|aM) rfl) ?_
  refine aD (O _ _ (aI [2,3,4,7]) (aI [2,3,4,5,6,7]) ?_)
  refine N1 19<|NO U U [20,21] fun T19 E=>?_
  refine rS (CL (er.eq (qk (gD ts f.toNat k) ([x.ky]) (some ⟨AA,0,none⟩) 1 (by exact yP hst I) (by intro z hz; simp only [bP] at hz; subst hz; exact vc L) sm) nT) (av (bp 0 rfl rfl (by simp [aa.aW]) rfl)<|aM) rfl) ?_
  refine aD (E _ _ (aI [2,3,4,7]) ?_)
  refine N1 20<|NO U U [21] fun T20 F=>Nd U cz U<|aD (F _ _ (aI [2,3,4,7]) ?_)
  refine N1 21<|NO U U [] fun T21 G=>IM U cz U<|aD (G _ _ (aI [2,3,4,7]) ?_)
  refine od<|aG<|KK M ?_
  have H:(aa.cells (mR (eQ ts f.toNat k) x.jL))=(aa.cells (eQ ts f.toNat (k+1))):=by rw [qd hx]
  rw [H]
  have AB:(aa.cells (mR (gD ts f.toNat k) x.ky))=(aa.cells (gD ts f.toNat (k+1))):=by rw [pR hx]
  rw [AB]
  refine al<|rP 3 [] mn ?_
  refine aD ?_
  have K:(vI (f+(((k+1):Nat):Int)))=(vI ((f+(k:Int))+1)):=by exact cI I
  refine aR (V ⟨((k+1),B9),⟨I,C,B⟩⟩ _ _ _ U os (cR 5<|aY U K<|dj.nil _) (aI [2,3,4,5,6,7]))
 refine vN (rem':=[18,19,20,21]) U kr fun T16 D=>?_
 refine rS (CL (er.eq (qk (eQ ts f.toNat k) ([x.jL]) (some ⟨T,0,none⟩) 1 (by exact qX hst I) (by intro z hz; simp only [bP] at hz; subst hz; exact ve L) sm) nT) (av (bp 0 rfl rfl (by simp [aa.aW]) rfl)<|aM) rfl) ?_
 refine aD (D _ _ (aI [1,2,3,6]) (aI [1,2,3,4,5,6]) ?_)
 refine N1 18<|vN (rem':=[19,20,21]) U kr fun T17 Y=>du (xs:=[.tmp 39]) (cs:=(aa.cells x.ky)) U jY dx U U U U (by simp [Value.cells,aa.aW]) U U fun b=>aD (Y _ _ (aI [2,3,4,7]) (aI [2,3,4,5,6,7]) ?_)
 refine N1 19<|NO U U [20,21] fun T19 E=>?_
 refine rS (CL (er.eq (qk (gD ts f.toNat k) ([x.ky]) (some ⟨b,0,none⟩) 1 (by exact yP hst I) (by intro z hz; simp only [bP] at hz; subst hz; exact vc L) sm) nT) (av (bp 0 rfl rfl (by simp [aa.aW]) rfl)<|aM) rfl) ?_
 refine aD (E _ _ (aI [2,3,4,7]) ?_)
 refine N1 20<|NO U U [21] fun T20 F=>Nd U cz U<|aD (F _ _ (aI [2,3,4,7]) ?_)
 refine N1 21<|NO U U [] fun T21 G=>IM U cz U<|aD (G _ _ (aI [2,3,4,7]) ?_)
 refine od<|aG<|KK M ?_
 have H:(aa.cells (mR (eQ ts f.toNat k) x.jL))=(aa.cells (eQ ts f.toNat (k+1))):=by rw [qd hx]
 rw [H]
 have AB:(aa.cells (mR (gD ts f.toNat k) x.ky))=(aa.cells (gD ts f.toNat (k+1))):=by rw [pR hx]
 rw [AB]
 refine al<|rP 3 [] mn ?_
 refine aD ?_
 have K:(vI (f+(((k+1):Nat):Int)))=(vI ((f+(k:Int))+1)):=by exact cI I
 refine aR (V ⟨((k+1),B9),⟨I,C,B⟩⟩ _ _ _ U os (cR 5<|aY U K<|dj.nil _) (aI [2,3,4,5,6,7]))
theorem I2 (ts:List ak) (tsA:OA) (tsC:Nat) (f t:Int) (hst: ∀ x∈ts,bR x) (hlen:ts.length≤12) (hf:0≤f∧f≤t∧t≤ts.length):
 er Tryz.prog 146 [(vA (eI.cells (eI.mk (bw.mk (bq.mk tsA ts.length tsC))))),(vI f),(vI t)] [(rd tsA ts.length 9 (ts.map ak.cells))] (vT [(vA (aa.cells (eQ ts f.toNat (t-f).toNat))),(vA (aa.cells (gD ts f.toNat (t-f).toNat)))]):=by
 refine bI kr Tryz.func146 U U fun w0 Q hQ hN=>?_
 try dsimp only
 refine WS fun _ M=>fK U fun a=>uP U U fun b=>uP U U fun d=>AL U dx fun e=>AL U dx fun g=>RK M<|aj fun _ AA=>WS fun _ V=>rP 2 [0,1] (mc 4 U (mc 3 U mn)) ?_
 refine cX (Nm f tsA ts.length tsC) (aM) U fun u n=>?_
 obtain ⟨B,C⟩:=u
 try dsimp only
 refine RK V<|ay<|kN 7 U (by exact fun _ h=>h) ?_
 refine F7 (L0:=[(3,(vP a)),(4,(vP b)),(5,(vP d)),(6,(vP e)),(7,(vP g))]) (F:=[(rd tsA ts.length 9 (ts.map ak.cells)).ro,(cm B 3 [(vI f)]),(cm C 203 (eI.cells (eI.mk (bw.mk (bq.mk tsA ts.length tsC)))))]) (xs:=(uI ts f.toNat)) (fun k (y:aa×aa×Int)=>(k≤(t-f).toNat)∧(y.2.2=f+(k:Int))) (fun k y=>[(cm g 40 (aa.cells y.2.1)),(cm e 40 (aa.cells y.1)),(cm d 3 [(vI t)]),(cm b 3 [(vI y.2.2)]),(cm a 203 (eI.cells (eI.mk (bw.mk (bq.mk tsA ts.length tsC))))),(rd tsA ts.length 9 (ts.map ak.cells)).ro]) (fun c (z:Unit)=>(c= .exit 0)) (fun _ z=>[(cm g 40 (aa.cells (gD ts f.toNat (t-f).toNat))),(cm e 40 (aa.cells (eQ ts f.toNat (t-f).toNat))),(cm d 3 [(vI t)]),(cm b 3 [(vI t)]),(cm a 203 (eI.cells (eI.mk (bw.mk (bq.mk tsA ts.length tsC))))),(rd tsA ts.length 9 (ts.map ak.cells)).ro]) [3,4,5,6,7,8] [0,1,2] (dN,dN,f) U U (Hq ts tsA tsC f B C (by first|assumption|omega|(simp; done)) (by first|assumption|omega|(simp; done)) I) U U U (by exact ⟨Nat.zero_le _,sm⟩) (by simp only [List.forall_mem_cons,List.not_mem_nil,false_imp_iff,implies_true,and_true]; exact ⟨⟨_,sm,(dV (bU _))⟩,⟨_,sm,(bU _)⟩,⟨_,sm,(bU _)⟩⟩) (by exact E_) U (aT U) ?_ ?_ ?_ ?_
 rotate_left 1
 ·rintro q ⟨v,z2,m⟩ J
  obtain ⟨A,K⟩:=J
  try dsimp only at A K
  try dsimp only
  exfalso; rw [uj] at A; omega
 ·rintro r id _ Y
  have hc:=Y
  cases hc
  try dsimp only
  refine aA<|KK AA<|aj fun _ D=>dJ cv [2,3] [] [] [0,1,2,3,4,5,6,7,8,9] [] U U U U U<|eS U (LW 5 U cb U U)<|eS U (LW 4 U cb U U)<|eT U<|cp U fun T30 E=>IM U cz U<|aD (E _ _ (aI [0,1,2,3,4,5,6,7,8,9]) ?_)
  refine cp U fun T31 G=>Pw U cz U<|aD (G _ _ (aI [0,1,2,3,4,5,6,7,8,9]) ?_)
  refine fO U<|KK D<|ar<|hQ _ _ _ (oW 0 U U<|ic (vs:=[(vA (aa.cells (eQ ts f.toNat (t-f).toNat))),(vA (aa.cells (gD ts f.toNat (t-f).toNat)))]) ⟨⟨_,U,.inl ⟨_,_,cb,qh (vs:=(aa.cells (eQ ts f.toNat (t-f).toNat))) 5 U U,U,U⟩⟩,⟨_,U,.inl ⟨_,_,cb,qh (vs:=(aa.cells (gD ts f.toNat (t-f).toNat))) 4 U U,U,U⟩⟩,trivial⟩ fun w hs=>Fe ?_ hs)
  show (vT [(vA (aa.cells (eQ ts f.toNat (t-f).toNat))),(vA (aa.cells (gD ts f.toNat (t-f).toNat)))])=(vT [(vA (aa.cells (eQ ts f.toNat (t-f).toNat))),(vA (aa.cells (gD ts f.toNat (t-f).toNat)))])
  clear hs w hQ hN G T31 E T30 D V AA M
  rfl
 ·rintro s _ Z
  cases Z
 rintro k x ⟨v,z2,m⟩ l ra rb S w1 K13 Qr14 hx AB N H L j
 obtain ⟨hk,rfl⟩:=HF hx
 obtain ⟨A,K⟩:=AB
 try dsimp only at A K
 try dsimp only
 refine WS fun _ O=>AL U dx fun o=>fW U cz U<|RK O<|al<|AL U dx fun p=>fW U cz U<|aD<|jT (fun _ _ h=>h) (aI [2,0,1,3,4,5,6,7,8])<|aR (N _ _ ?_)
 refine ay<|aj fun _ P=>aj fun _ R=>dJ cv [2,3] [] [] [0,1,2,5,6,7,8] [] U U U U U<|eS U (LW 2 U cb U U)<|eS U (LW 1 U cb U U)<|eT U<|cp U fun T21 W=>Pw U cz U<|aD (W _ _ (aI [0,1,2,5,6,7,8]) ?_)
 refine cp U fun T22 X=>UP U cz U<|aD (X _ _ (aI [0,1,2,5,6,7,8]) ?_)
 refine fO U<|KK R<|WS fun _ T=>rP 3 [0,1] (mc 6 U (mc 5 U mn)) ?_
 refine RK T<|cE U (aP fun i=>?_) (aO fun i=>?_)
 ·refine bD<|ab<|iW U ?_
  rw [show m=t from by omega]
  obtain rfl:k=(t-f).toNat:=by omega
  exact L _ () _ _ (by exact U) (aI [0,3,4,5,6,7,8])
 refine WK P<|al<|rP 2 [] (mc 6 U mn) ?_
 refine Wl U DM U U<|aD<|aG ?_
 exact H ((eQ ts f.toNat k),(gD ts f.toNat k),(m+1)) _ _ (by refine ⟨I,?_⟩; dsimp only; omega) (aI [0,3,4,5,6,7,8])
end
section
open Go.RowKit
theorem G8 (i:Int) (s:cK) (ts:List ak) (tsA:OA) (tsC g1:Nat) (hst: ∀ x∈ts,bR x) (hlen:ts.length≤12):
 er Tryz.prog 160 [(vI i),(vA (cK.cells s)),(vP g1)] [(rd tsA ts.length 9 (ts.map ak.cells)),(cm g1 203 (eI.cells (eI.mk (bw.mk (bq.mk tsA ts.length tsC)))))] (vB (!(decide (fE ts s)))):=by
 refine bI kr Tryz.func160 U U fun AA Q hQ hN=>?_
 try dsimp only
 refine WS fun _ C=>fK U fun G=>rP 1 [] mn ?_
 refine RK C<|aj fun _ A=>ow cv [0,1,2,3,4,5,6] [7,8,9,10,11,12,13,14,15,16,17,18,19,20,21,22,23,24,25,26] [false,false,false,false,false,false,false] [] [(cm G 111 (cK.cells s)),(rd tsA ts.length 9 (ts.map ak.cells)).ro,(cm g1 203 (eI.cells (eI.mk (bw.mk (bq.mk tsA ts.length tsC))))).ro] [] kr (aI [0,1,2]) (aI [])<|eS U (FA 0 U fw U)<|eS U (FA 0 U fw U)<|eS U (IL (vS tsA ts.length tsC) 2 U cb U U)<|eS U (LN U Qa)<|eS U (BI U (sJ ⟨I,I⟩))<|eS U (FA 0 U fw U)<|eS U (L1 (vI s.bj) 0 U cb U U)<|eT U<|N1 7<|NO U U [8,9,10,11,12,13,14,15,16,17,18,19,20,21,22,23,24,25,26] fun T4 D=>du (xs:=[.tmp 12]) (cs:=[(vI s.bj)]) U cN jv U U U U (by simp [Value.cells]) U U fun H=>RD D 1 U<|IV [14,15,16,17,18,19,20,21,22,23,24,25,26,27,28,29,30,31,5] kr kr U _ U U (aI [1,2,3]) ?_
 refine dS (CL (er.eq (pE 0 ((ts.length:Int)-1) ([s.bj]) (some ⟨H,0,none⟩) 1 (by (simp; done))) df) (av (bp 0 U U (by simp [bM]) U)<|aM) U) ?_
 refine dP 2 [] mn ?_
 refine jh (t:=16) U (aZ fun B=>?_) (a_ fun B=>?_)
 ·refine lQ 9 U<|dP 7 [] mn ?_
  refine cM<|RK A<|ar<|Q1 hQ U U U ?_
  (refine cB ?_; rw [bx (Dc I)]; rfl)
 refine lQ 1 U<|dS (LP (aa.cells s.lO) 1 U cb U U U)<|dP 5 [0,1] (mr 3 U (mc 1 U mn)) ?_
 obtain ⟨x,hx⟩:=aH ts ((s.bj).toNat) I
 have E:=bJ ak.cells hx
 refine dS (IA ((s.bj).toNat) U (aB 2 U) uU dc I I)<|dS (mV ((((s.bj).toNat)*9)+1) U (aB 2 U) (Nat.mul_pos I dc) fw U) ?_
 have F:=(hst x (aS hx)).2.1
 simp only [eh] at F
 refine dS (mV ((((s.bj).toNat)*9)+1) U (aB 2 U) (Nat.mul_pos I dc) fw U)<|dS (fX ((s.bj).toNat) 1 (vI x.jL.Lo) U cb (aB 2 U) E U dc U)<|lQ 1 U<|dS (CL (wH s.lO 0 (x.jL.Lo-1)) (aM) U)<|dP 3 [] mn ?_
 refine cM<|RK A<|ar<|Q1 hQ U U U ?_
 exact congrArg (fun b=>vB (!b)) (gi.2 (CB I hx).symm)
theorem D0 (l:List cK) (lA:OA) (lC:Nat) (f:Value) (p:Int→cK→Bool) (X:aw) (hf: ∀ x0 x1,(∃ k:Nat,x0=(k:Int)∧l[k]? =some x1)→DY Tryz.prog f [.int .i64 x0,.agg (cK.cells x1).toArray] [X] (.bool (p x0 x1))) (hlen:l.length≤1000000):
 lx Tryz.prog 159 [(vS lA l.length lC),f] [(rd lA l.length 3 (l.map cK.cells)),X] (fun (x:(OA)×Nat)=>(vS x.1 ((Je (fun jj yy=>p (jj:Int) yy) l).length) x.2)) (fun (x:(OA)×Nat)=>True) (fun (x:(OA)×Nat)=>[(own x.1 x.2 3 1 ((Je (fun jj yy=>p (jj:Int) yy) l).map iC))]):=by
 refine dp kr Tryz.func159 U U fun W Q hQ hN=>?_
 try dsimp only
 refine WS fun _ L=>bo 1 U<|RK L<|WS fun _ M=>bo 1 U<|RK M<|aj fun _ N=>WS fun _ O=>rP 3 [] mn ?_
 refine RK O<|ay<|gl 3 1 ?_
 have A:(0≤l.length):=by exact Nat.zero_le _
 refine bK (ι:={z:Nat×(OA)×Nat // (z.1≤l.length)}) [0,1,8,9] [1,2] U U (fun z=>[(5,(vS z.1.2.1 ((s8 (fun jj yy=>p (jj:Int) yy) l z.1.1).length) z.1.2.2)),(10,(vI (z.1.1:Int)))]) (fun z=>[(own z.1.2.1 z.1.2.2 3 1 ((s8 (fun jj yy=>p (jj:Int) yy) l z.1.1).map iC))]) (fun _=>rfl) (fun _=>rfl) (fun z=>l.length-z.1.1) ⟨(0,none,0),A⟩ (aT U) (aI [1,2,0]) ?_
 clear A
 rintro ⟨⟨i,a,c⟩,B⟩ J5 C
 try dsimp only at B
 try dsimp only
 refine WS fun _ P=>rP 1 [] mn ?_
 refine RK P<|aj fun _ R=>bO U (aO fun V=>?_) (aP fun V=>?_)
 ·refine bD<|ab<|ab<|aA<|KK N<|WS fun _ F=>?_
  rw [NN (p:=fun (i:Nat) x=>p (i:Int) x) (show i=l.length by omega)]
  refine rP 2 [] mn ?_
  refine RK F<|ar<|LX hQ (a,c) [2] [] mn U U U U ?_
  trivial
 refine WK R<|aj fun _ G=>ay<|WS fun _ D=>rP 1 [] mn ?_
 obtain ⟨x,hx⟩:=aH l i I
 have S:=bJ cK.cells hx
 refine rS (IA i U (aB 0 U) LI dc I I)<|rS (lS i 0 (cK.cells x) U cb (aB 0 U) S U dc U U)<|AL U CV fun T=>bo 1 U<|fW U L5 U<|RK D<|WS fun _ E=>rP 3 [] (mc 0 U mn) ?_
 refine rS (SX (sZ U U U (hf (i:Int) x ⟨i,U,hx⟩) (bk [2])) U U)<|RK E<|bO U (fun hp=>?_) (fun hp=>?_)
 ·refine ck<|aG<|KK G<|al ?_
  rw [← Ox (p:=fun (i:Nat) x=>p (i:Int) x) hx hp]
  refine rP 2 [] mn ?_
  refine aD ?_
  have AB:(vI (((i+1):Nat):Int))=(vI ((i:Int)+1)):=by exact cI I
  refine aR (C ⟨((i+1),a,c),(by first|omega|(simp only []; omega))⟩ _ _ _ U os (cR 5<|aY U AB<|dj.nil _) (aI [1,2,3]))
 refine al<|rP 2 [] mn ?_
 refine du (xs:=[.tmp 20]) (cs:=[(vI (i:Int))]) U cN jv U U U U (by simp [Value.cells]) U U fun AA=>?_
 refine cO (es2:=(List.map iC (s8 (fun jj yy=>p (jj:Int) yy) l (i+1)))) (m':=(s8 (fun jj yy=>p (jj:Int) yy) l (i+1)).length) 4 U U U pq U U sm (bp (es:=List.map iC [(i:Int)]) 0 U U (by simp [bM]) U) (jP _) (by have:=CJ (p:=fun (i:Nat) x=>p (i:Int) x) (l:=l) (n:=i); simp; omega) (by have:=CJ (p:=fun (i:Nat) x=>p (i:Int) x) (l:=l) (n:=i); simp only [maxLen]; omega) (by rw [K1 hx hp]; simp) sm U fun J K=>?_
 try dsimp only
 refine bo 1 U<|aD<|aG<|KK G<|al<|rP 2 [] mn ?_
 refine aD ?_
 have H:(vI (((i+1):Nat):Int))=(vI ((i:Int)+1)):=by exact cI I
 refine aR (C ⟨((i+1),J,K),(by first|omega|(simp only []; omega))⟩ _ _ _ U os (cR 5<|aY U H<|dj.nil _) (aI [2,3,4]))
theorem Dz (ts:List ak) (tsA:OA) (tsC:Nat) (l:List cK) (lA:OA) (lC:Nat) (hst: ∀ x∈ts,bR x) (hlen:ts.length≤12) (hl:l.length≤4):
 er Tryz.prog 145 [(vA (eI.cells (eI.mk (bw.mk (bq.mk tsA ts.length tsC))))),(vS lA l.length lC)] [(rd tsA ts.length 9 (ts.map ak.cells)),(rd lA l.length 3 (l.map cK.cells))] (vB (decide (∀ s∈l,fE ts s))):=by
 refine bI kr Tryz.func145 U U fun J Q hQ hN=>?_
 try dsimp only
 refine WS fun _ B=>fK U fun A=>bo 1 U<|RK B<|WS fun _ C=>rP 1 [] mn ?_
 refine rS (FU U) ?_
 refine cX (D0 l lA lC (Value.func (.func 160) [].toArray [(vP A)].toArray) (fun E D=>(!(decide (fE ts D)))) (eX [(rd tsA ts.length 9 (ts.map ak.cells)),(cm A 203 (eI.cells (eI.mk (bw.mk (bq.mk tsA ts.length tsC)))))]) (by intro E D _; exact n_ (fi:=[]) (ca:=[(vP A)]) (mz (G8 E D ts tsA tsC A (by first|assumption|omega) (by first|assumption|omega)) (bk [0,1]))) I) (fM 2 U U<|av (mE (bk [1,0]))<|aM) U fun G F=>?_
 obtain ⟨H,AA⟩:=G
 try dsimp only
 refine rP 3 [] mn ?_
 refine RK C<|ar<|Q1 hQ U U U ?_
 exact congrArg Value.bool (decide_eq_decide.2 (by rw [show ∀ n:Nat,((n:Int)=0)↔n=0 from fun n=>by omega,Hv]; simp only [Bool.not_eq_false',decide_eq_true_eq]; exact ⟨fun h s hs=>by obtain ⟨k,hk⟩:=List.getElem?_of_mem hs; exact h k s hk,fun h k s hk=>h s (List.mem_of_getElem? hk)⟩))
theorem Fa (z:aa) (hz:lR z):
 er Tryz.prog 162 [(vA (aa.cells z))] [] (vA (aa.cells (oB z))):=by
 unfold lR at hz
 refine bI kr Tryz.func162 U U fun E Q hQ hN=>?_
 try dsimp only
 refine WS fun _ A=>fK U fun C=>AL U dx fun D=>RK A<|WS fun _ B=>fG 2 [] (mc 1 U mn) U<|rS (NG U ⟨I,I⟩)<|rP 2 [] (mc 1 U mn) ?_
 refine rS (NG U ⟨I,I⟩)<|rS (SX (bu (xs:=[(0,.tmp 5),(1,.tmp 8)]) (cs:=(aa.cells (aa.mk (-z.Hi) (-z.Lo)))) U U (br gG U)) U U)<|fW U cz U<|RK B<|ar ?_
 exact IN hQ [0] (mc 0 U mn) U U
theorem Td (ts:List ak) (tsA:OA) (tsC:Nat) (s:cK) (hlen:ts.length≤1000000) (hside: ∀ x∈ts,0≤x.iZ∧x.iZ≤255):
 er Tryz.prog 124 [(vA (bw.cells (bw.mk (bq.mk tsA ts.length tsC)))),(vA (cK.cells s))] [(rd tsA ts.length 9 (ts.map ak.cells))] (vT [(vA (aa.cells (Rc ts s))),(vI (Gb ts s))]):=by
 refine bI kr Tryz.func124 U U fun Z Q hQ hN=>?_
 try dsimp only
 refine WS fun _ K=>fK U fun V=>fK U fun W=>AL U dx fun X=>bo 1 U<|RK K<|WS fun _ L=>fG 1 [] (mc 2 U mn) U<|rS (CL (Gn ts tsA tsC hlen hside) (bk [3]) U)<|bo 3 U<|AL U Km fun Y=>fW U LC U<|bo 1 U<|RK L<|aj fun _ M=>WS fun _ N=>rP 2 [] mn ?_
 refine RK N<|cE U (aZ fun he=>?_) (a_ fun he=>?_)
 ·refine WS fun _ O=>rS (SX (bu (xs:=[]) (cs:=(aa.cells (aa.mk 0 0))) U U (br gG U)) U U)<|bo 1 U<|sj U cz U<|rP 1 [] mn ?_
  refine RK O<|ar<|lP hQ [0] (mc 1 U mn) U ?_
  (have e:=Mn (s:=s) (zU he).1; rw [e.1,e.2,(zU he).2]<;>rfl)
 refine WK M<|aj fun _ C=>WS fun _ D=>?_
 have B:=D2 he
 have H:=j0 B
 have R:=kT B
 refine rP 2 [0,1] (mc 0 U (mc 2 U mn)) ?_
 refine du (xs:=[.tmp 20]) (cs:=(cK.cells s)) U LI CV U U U U (by simp [Value.cells,cK.aW]) U U fun AB=>?_
 refine rS (CL (er.eq (Dz ts tsA tsC ([s]) (some ⟨AB,0,none⟩) 1 asm asm (by (simp; done))) EO) (fM 5 U U<|av (bp 0 U U (by simp [cK.aW]) U)<|aM) U) ?_
 refine rP 1 [] mn ?_
 refine RK D<|cE U (aZ fun A=>?_) (a_ fun A=>?_)
 ·refine WS fun _ E=>rS (SX (bu (xs:=[]) (cs:=(aa.cells (aa.mk 0 0))) U U (br gG U)) U U)<|Gx U cz U<|rP 1 [] mn ?_
  refine RK E<|ar<|lP hQ [0] (mc 2 U mn) U ?_
  (have e:=LQ B A; rw [e.1,e.2]<;>rfl)
 refine WK C<|WS fun _ F=>?_
 have AA:=A.1
 have P:=rq H A
 refine fG 3 [0,1] (mc 1 U (mc 3 U mn)) U<|rS (CL (I2 ts tsA tsC 0 s.bj asm asm I) (bk [5]) U)<|bo 3 U<|AL U dx fun S=>AL U dx fun T=>sj U cz U<|fW U cz U<|RK F<|WS fun _ G=>rP 2 [] (mc 1 U mn) ?_
 refine rS (LP (aa.cells s.lO) 5 U cb U U U)<|du (xs:=[.tmp 34]) (cs:=(aa.cells s.lO)) U jY dx U U U U (by simp [Value.cells,aa.aW]) U U fun J=>?_
 refine rS (CL (er.eq (qk (eQ ts (0:Int).toNat (s.bj-0).toNat) ([s.lO]) (some ⟨J,0,none⟩) 1 (by exact qX H I) (by intro z hz; simp only [bP] at hz; subst hz; exact P) sm) nT) (av (bp 0 rfl rfl (by simp [aa.aW]) rfl)<|aM) rfl) ?_
 refine IM U cz U<|rP 1 [] mn ?_
 refine RK G<|ar<|lP hQ [0] (mc 5 U mn) U ?_
 (have e:=yb B A; rw [e.1,e.2]; unfold MZ; rw [show (s.bj-0).toNat=s.bj.toNat by rw [Int.sub_zero]]<;>rfl)
theorem NH (ts:List ak) (tsA:OA) (tsC:Nat) (p:cK) (q:cK) (hlen:ts.length≤1000000) (hside: ∀ x∈ts,0≤x.iZ∧x.iZ≤255):
 er Tryz.prog 148 [(vA (bw.cells (bw.mk (bq.mk tsA ts.length tsC)))),(vA (cK.cells p)),(vA (cK.cells q))] [(rd tsA ts.length 9 (ts.map ak.cells))] (vT [(vA (aa.cells (kS ts p q))),(vI (mq ts p q))]):=by
 refine bI kr Tryz.func148 U U fun w Q hQ hN=>?_
 try dsimp only
 refine WS fun _ c=>fK U fun r=>fK U fun s=>fK U fun t=>AL U dx fun u=>bo 1 U<|RK c<|WS fun _ d=>fG 1 [] (mc 3 U mn) U<|rS (CL (Gn ts tsA tsC hlen hside) (bk [4]) U)<|bo 3 U<|AL U Km fun v=>fW U LC U<|bo 1 U<|RK d<|aj fun _ g=>WS fun _ h=>rP 2 [] mn ?_
 refine RK h<|cE U (aZ fun he=>?_) (a_ fun he=>?_)
 ·refine WS fun _ G=>rS (SX (bu (xs:=[]) (cs:=(aa.cells (aa.mk 0 0))) U U (br gG U)) U U)<|bo 1 U<|sj U cz U<|rP 1 [] mn ?_
  refine RK G<|ar<|lP hQ [0] (mc 1 U mn) U ?_
  (have e:=vz (a:=p) (b:=q) (zU he).1; rw [e.1,e.2,(zU he).2]<;>rfl)
 refine WK g<|aj fun _ H=>WS fun _ AB=>?_
 have A:=D2 he
 have F:=j0 A
 have j:=kT A
 refine rP 3 [0,1,2] (mc 0 U (mc 3 U (mc 2 U mn))) ?_
 refine du (xs:=[.tmp 22,.tmp 23]) (cs:=((cK.cells p)++(cK.cells q))) U LI CV U U U U (by simp [Value.cells,cK.aW]) U U fun X=>?_
 refine rS (CL (er.eq (Dz ts tsA tsC ([p,q]) (some ⟨X,0,none⟩) 2 asm asm (by (simp; done))) EJ) (fM 6 U U<|av (bp 0 U U (by simp [cK.aW]) U)<|aM) U) ?_
 refine rP 1 [] mn ?_
 refine RK AB<|cE U (aZ fun D=>?_) (a_ fun D=>?_)
 ·refine WS fun _ J=>rS (SX (bu (xs:=[]) (cs:=(aa.cells (aa.mk 0 0))) U U (br gG U)) U U)<|Gx U cz U<|rP 1 [] mn ?_
  refine RK J<|ar<|lP hQ [0] (mc 2 U mn) U ?_
  (have e:=pn A D; rw [e.1,e.2]<;>rfl)
 refine WK H<|WS fun _ K=>?_
 obtain ⟨hp,hq⟩:=D
 have n:=hp.1
 have o:=hq.1
 have i:=rq F hp
 have W:=rq F hq
 have V:=Bc i
 have B:=qX F (f:=(min p.bj q.bj).toNat) (k:=(max p.bj q.bj-min p.bj q.bj).toNat) I
 refine fG 5 [0,1,2] (mc 1 U (mc 4 U (mc 3 U mn))) U<|rS (MN U)<|fG 4 [0,1] (mc 4 U (mc 3 U mn)) U<|rS (MX U)<|rS (CL (I2 ts tsA tsC (min p.bj q.bj) (max p.bj q.bj) asm asm I) (bk [6]) U)<|bo 3 U<|AL U dx fun l=>AL U dx fun m=>sj U cz U<|fW U cz U<|RK K<|aj fun _ C=>WS fun _ L=>rP 5 [0,1] (mc 5 U (mc 6 U mn)) ?_
 refine RK L<|bO U (aO fun E=>?_) (aP fun E=>?_)
 ·refine WK C<|aj fun _ N=>dJ cv [6,7,8] [] [] [0,1,2,3,5,6,7,8] [] U U U U U<|eS U (LW 1 U cb U U)<|eS U (FA 1 U fw U)<|eS U (LP (aa.cells q.lO) 4 U cb U U U)<|eS U (FA 1 U fw U)<|eS U (LP (aa.cells p.lO) 5 U cb U U U)<|eS U (CL (Fa p.lO asm) (aM) U)<|eS U (AG U)<|eT U<|cp U fun T26 S=>du (xs:=[.tmp 52,.tmp 55]) (cs:=((aa.cells q.lO)++(aa.cells (oB p.lO)))) U jY dx U U U U (by simp [Value.cells,aa.aW]) U U fun Z=>aD (S _ _ (aI [1,2,3,4,6,7,8,9]) ?_)
  refine cp U fun T28 T=>?_
  refine rS (CL (er.eq (qk (eQ ts (min p.bj q.bj).toNat ((max p.bj q.bj)-(min p.bj q.bj)).toNat) ([q.lO,(oB p.lO)]) (some ⟨Z,0,none⟩) 2 (by first|exact B|exact Bc B) (by intro z hz; simp only [bE,List.not_mem_nil,or_false] at hz; rcases hz with rfl|rfl; exact W; exact V) sm) DG) (av (bp 0 rfl rfl (by simp [aa.aW]) rfl)<|aM) rfl) ?_
  refine aD (T _ _ (aI [1,2,3,4,6,7,8,9]) ?_)
  refine cp U fun T29 AA=>IM U cz U<|aD (AA _ _ (aI [1,2,3,4,6,7,8,9]) ?_)
  refine fO U<|KK N<|ar<|lP hQ [0] (mc 5 U mn) U ?_
  (have e:=lH A ⟨hp,hq⟩; rw [e.1,e.2]; unfold j6 yB; rw [if_neg E]<;>rfl)
 refine al<|rP 1 [] (mc 1 U mn) ?_
 refine rS (CL (Fa (eQ ts (min p.bj q.bj).toNat ((max p.bj q.bj)-(min p.bj q.bj)).toNat) asm) (aM) U)<|sj U cz U<|RK C<|aj fun _ M=>dJ cv [6,7,8] [] [] [0,1,2,3,5,6,7,8] [] U U U U U<|eS U (LW 1 U cb U U)<|eS U (FA 1 U fw U)<|eS U (LP (aa.cells q.lO) 4 U cb U U U)<|eS U (FA 1 U fw U)<|eS U (LP (aa.cells p.lO) 5 U cb U U U)<|eS U (CL (Fa p.lO asm) (aM) U)<|eS U (AG U)<|eT U<|cp U fun T21 O=>du (xs:=[.tmp 52,.tmp 55]) (cs:=((aa.cells q.lO)++(aa.cells (oB p.lO)))) U jY dx U U U U (by simp [Value.cells,aa.aW]) U U fun Y=>aD (O _ _ (aI [1,2,3,4,6,7,8,9]) ?_)
 refine cp U fun T23 P=>?_
 refine rS (CL (er.eq (qk (oB (eQ ts (min p.bj q.bj).toNat ((max p.bj q.bj)-(min p.bj q.bj)).toNat)) ([q.lO,(oB p.lO)]) (some ⟨Y,0,none⟩) 2 (by first|exact B|exact Bc B) (by intro z hz; simp only [bE,List.not_mem_nil,or_false] at hz; rcases hz with rfl|rfl; exact W; exact V) sm) DG) (av (bp 0 rfl rfl (by simp [aa.aW]) rfl)<|aM) rfl) ?_
 refine aD (P _ _ (aI [1,2,3,4,6,7,8,9]) ?_)
 refine cp U fun T24 R=>IM U cz U<|aD (R _ _ (aI [1,2,3,4,6,7,8,9]) ?_)
 refine fO U<|KK M<|ar<|lP hQ [0] (mc 5 U mn) U ?_
 (have e:=lH A ⟨hp,hq⟩; rw [e.1,e.2]; unfold j6 yB; rw [if_pos E]<;>rfl)
theorem rX (ts:List ak) (tsA:OA) (tsC:Nat) (s:cK) (hst: ∀ x∈ts,bR x) (hlen:ts.length≤12):
 er Tryz.prog 155 [(vA (bw.cells (bw.mk (bq.mk tsA ts.length tsC)))),(vA (cK.cells s))] [(rd tsA ts.length 9 (ts.map ak.cells))] (vB (decide (fE ts s))):=by
 refine bI kr Tryz.func155 U U fun H Q hQ hN=>?_
 try dsimp only
 refine WS fun _ C=>fK U fun F=>fK U fun G=>bo 1 U<|RK C<|aj fun _ A=>dg cv 22 kr<|mw 6 [0,1] (mc 0 U (mc 1 U mn)) U<|dS (CL (o9 s.bj 0 ((ts.length:Int)-1)) (aM) U)<|dP 1 [] mn ?_
 refine jA (t:=12) U (aO fun B=>?_) (aP fun B=>?_)
 ·refine lQ 8 U<|dP 6 [] mn ?_
  refine cM<|RK A<|ar<|Q1 hQ U U U ?_
  (refine cB ?_; rw [bx (Dc I)])
 refine lQ 1 U<|dS (LP (aa.cells s.lO) 0 U cb U U U)<|dP 4 [0,1] (mc 1 U (mc 0 U mn)) ?_
 obtain ⟨x,hx⟩:=aH ts ((s.bj).toNat) I
 have D:=bJ ak.cells hx
 refine dS (IA ((s.bj).toNat) U (aB 2 U) uU dc I I)<|dS (mV ((((s.bj).toNat)*9)+1) U (aB 2 U) (Nat.mul_pos I dc) fw U) ?_
 have E:=(hst x (aS hx)).2.1
 simp only [eh] at E
 refine dS (mV ((((s.bj).toNat)*9)+1) U (aB 2 U) (Nat.mul_pos I dc) fw U)<|dS (fX ((s.bj).toNat) 1 (vI x.jL.Lo) U cb (aB 2 U) D U dc U)<|lQ 1 U<|dS (CL (p5 s.lO 0 (x.jL.Lo-1)) (aM) U)<|dP 2 [] mn ?_
 refine cM<|RK A<|ar<|Q1 hQ U U U ?_
 exact cB (gi.2 (CB I hx).symm)
theorem Ao (ts:List ak) (tsA:OA) (tsC:Nat) (f t:Int) (hst: ∀ x∈ts,bR x) (hlen:ts.length≤12) (hf:0≤f∧f≤t∧t≤ts.length):
 er Tryz.prog 171 [(vA (bw.cells (bw.mk (bq.mk tsA ts.length tsC)))),(vI f),(vI t)] [(rd tsA ts.length 9 (ts.map ak.cells))] (vT [(vA (aa.cells (eQ ts f.toNat (t-f).toNat))),(vA (aa.cells (gD ts f.toNat (t-f).toNat)))]):=by
 refine bI kr Tryz.func171 U U fun i Q hQ hN=>?_
 try dsimp only
 refine WS fun _ R=>fK U fun e=>AL U dx fun g=>AL U dx fun h=>RK R<|WS fun _ S=>AL U dx fun a=>AL U dx fun b=>RK S<|aj fun _ T=>WS fun _ AA=>rP 2 [] mn ?_
 refine RK AA<|ay ?_
 have A:(0≤(t-f).toNat):=by exact Nat.zero_le _
 have K:(vI (f+(0:Int)))=(vI f):=by exact cI I
 refine bK (ι:={z:Nat // (z≤(t-f).toNat)}) [1,2,3,6,7,8,9] [2,3,4,5] U U (fun z=>[(10,(vI (f+(z.1:Int))))]) (fun z=>[(cm b 40 (aa.cells (gD ts f.toNat z.1))),(cm a 40 (aa.cells (eQ ts f.toNat z.1)))]) (fun _=>rfl) (fun _=>rfl) (fun z=>(t-f).toNat-z.1) ⟨0,A⟩ (aY U K<|dj.nil _) (aI [2,3,4,5,0,1]) ?_
 clear A
 rintro ⟨k,V⟩ J11 B
 try dsimp only
 refine aj fun _ C=>WS fun _ D=>rP 3 [] mn ?_
 refine RK D<|bO U (aO fun P=>?_) (aP fun P=>?_)
 ·refine bD<|ab<|ab<|aA<|KK T<|aj fun _ H=>dJ cv [2,3] [] [] [2,3,4,5] [] U U U U U<|eS U (LW 3 U cb U U)<|eS U (LW 2 U cb U U)<|eT U<|cp U fun T23 AB=>sj U cz U<|aD (AB _ _ (aI [2,3,4,5]) ?_)
  refine cp U fun T24 J=>fW U cz U<|aD (J _ _ (aI [2,3,4,5]) ?_)
  refine fO U<|KK H<|ar<|lP hQ [0,1] (mc 1 U (mc 0 U mn)) U ?_
  obtain rfl:k=(t-f).toNat:=I; rfl
 refine WK C<|aj fun _ E=>ay<|WS fun _ F=>rP 3 [] (mc 2 U mn) ?_
 obtain ⟨x,hx⟩:=aH ts (f.toNat+k) I
 have Y:=bJ ak.cells hx
 refine rS (IA (f.toNat+k) U (aB 3 U) uU dc I I)<|rS (lS (f.toNat+k) 0 (ak.cells x) U cb (aB 3 U) Y U dc U U)<|AL U GV fun Z=>fW U JI U<|RK F<|WS fun _ G=>?_
 have O:=hst x (aS hx)
 have d:=mA hst f.toNat k
 have c:=Gu hst f.toNat k
 have W:=O.2.1
 have X:=O.2.2.1
 simp only [eh] at W X
 refine fG 12 [0,1,0,1] (mc 6 U (mc 0 U mn)) U<|rS (SX (bu (xs:=[(0,.tmp 28),(1,.tmp 34)]) (cs:=(aa.cells (aa.mk (((eQ ts f.toNat k).Lo)+x.jL.Lo) (((eQ ts f.toNat k).Hi)+x.jL.Hi)))) U U (br gG U)) U U)<|Nd U cz U<|RK G<|al<|rP 12 [0,1,0,1] (mc 5 U (mc 0 U mn)) ?_
 refine rS (SX (bu (xs:=[(0,.tmp 41),(1,.tmp 47)]) (cs:=(aa.cells (aa.mk (((gD ts f.toNat k).Lo)+x.ky.Lo) (((gD ts f.toNat k).Hi)+x.ky.Hi)))) U U (br gG U)) U U)<|IM U cz U<|aD<|aG<|KK E ?_
 have L:(aa.cells (aa.mk (((eQ ts f.toNat k).Lo)+x.jL.Lo) (((eQ ts f.toNat k).Hi)+x.jL.Hi)))=(aa.cells (eQ ts f.toNat (k+1))):=by rw [qd hx]; rfl
 rw [L]
 have M:(aa.cells (aa.mk (((gD ts f.toNat k).Lo)+x.ky.Lo) (((gD ts f.toNat k).Hi)+x.ky.Hi)))=(aa.cells (gD ts f.toNat (k+1))):=by rw [pR hx]; rfl
 rw [M]
 refine al<|rP 3 [] mn ?_
 refine aD ?_
 have N:(vI (f+(((k+1):Nat):Int)))=(vI ((f+(k:Int))+1)):=by exact cI I
 refine aR (B ⟨(k+1),(by first|omega|(simp only []; omega))⟩ _ _ _ U os (cR 7<|aY U N<|dj.nil _) (aI [1,2,3,4,5,6]))
end
section
open Go.RowKit
theorem QE (l:bf) (kA:OA) (kC:Nat) (az:List RA) (cA:OA) (cC:Nat) (bA:OA) (bC:Nat) (hin:ep l az):
 er Tryz.prog 115 [(vA (bV.cells (lq l kA kC cA cC bA bC)))] [(rd kA l.aL.length 9 (l.aL.map ak.cells)),(rd cA l.ah.length 2 (List.zipWith aq.cells l.ah az)),(eX (aU aq.gE l.ah az)),(rd bA l.ae.length 4 (l.ae.map bG.cells))] (vB (decide (gJ l))):=by
 have R:=hin.sx
 have P:=hin.sG
 have N:=hin.mW
 have O:=hin.sk
 refine bI kr Tryz.func115 U U fun T Q hQ hN=>?_
 try dsimp only
 refine WS fun _ G=>fK U fun S=>bo 1 U<|RK G<|WS fun _ A=>rP 2 [] (mc 0 U mn) ?_
 refine du (xs:=[.tmp 4]) (cs:=[(vI l.f_)]) U cN jv U U U U (by simp [Value.cells]) U U fun H=>?_
 refine rS (CL (er.eq (jf 1 5000 ([l.f_]) (some ⟨H,0,none⟩) 1 (by (simp; done))) df) (av (bp 0 U U (by simp [bM]) U)<|aM) U) ?_
 refine rP 1 [] mn ?_
 refine cj (t:=7) U (aO fun K=>?_) (aP fun K=>?_)
 ·refine rP 36 [] mn ?_
  refine RK A<|ar<|Q1 hQ U U U ?_
  exact cB (bx (by unfold gJ; omega)).symm
 refine rP 3 [] (mc 1 U mn) ?_
 refine du (xs:=[.tmp 10]) (cs:=[(vI (l.ah.length:Int))]) U cN jv U U U U (by simp [Value.cells]) U U fun AA=>?_
 refine rS (CL (er.eq (jf 1 4 ([(l.ah.length:Int)]) (some ⟨AA,0,none⟩) 1 (by (simp; done))) df) (av (bp 0 U U (by simp [bM]) U)<|aM) U) ?_
 refine rP 2 [] mn ?_
 refine cj (t:=14) U (aO fun L=>?_) (aP fun L=>?_)
 ·refine rP 29 [] mn ?_
  refine RK A<|ar<|Q1 hQ U U U ?_
  exact cB (bx (by unfold gJ; omega)).symm
 refine rP 3 [] (mc 2 U mn) ?_
 refine du (xs:=[.tmp 17]) (cs:=[(vI (l.ae.length:Int))]) U cN jv U U U U (by simp [Value.cells]) U U fun J=>?_
 refine rS (CL (er.eq (jf 1 6 ([(l.ae.length:Int)]) (some ⟨J,0,none⟩) 1 (by (simp; done))) df) (av (bp 0 U U (by simp [bM]) U)<|aM) U) ?_
 refine rP 2 [] mn ?_
 refine cj (t:=21) U (aO fun M=>?_) (aP fun M=>?_)
 ·refine rP 22 [] mn ?_
  refine RK A<|ar<|Q1 hQ U U U ?_
  exact cB (bx (by unfold gJ; omega)).symm
 refine rP 6 [] (mc 3 U mn) ?_
 refine du (xs:=[.tmp 27]) (cs:=[(vI l.cq)]) U cN jv U U U U (by simp [Value.cells]) U U fun B=>?_
 refine rS (CL (er.eq (jf 0 ((l.ae.length:Int)-1) ([l.cq]) (some ⟨B,0,none⟩) 1 (by (simp; done))) df) (av (bp 0 U U (by simp [bM]) U)<|aM) U) ?_
 refine rP 2 [] mn ?_
 refine cj (t:=31) U (aO fun E=>?_) (aP fun E=>?_)
 ·refine rP 12 [] mn ?_
  refine RK A<|ar<|Q1 hQ U U U ?_
  exact cB (bx (by unfold gJ; omega)).symm
 refine rP 2 [] (mc 4 U mn) ?_
 refine du (xs:=[.tmp 33]) (cs:=[(vI l.dM)]) U cN jv U U U U (by simp [Value.cells]) U U fun C=>?_
 refine rS (CL (er.eq (jf 0 3 ([l.dM]) (some ⟨C,0,none⟩) 1 (by (simp; done))) df) (av (bp 0 U U (by simp [bM]) U)<|aM) U) ?_
 refine rP 2 [] mn ?_
 refine cj (t:=37) U (aO fun F=>?_) (aP fun F=>?_)
 ·refine rP 6 [] mn ?_
  refine RK A<|ar<|Q1 hQ U U U ?_
  exact cB (bx (by unfold gJ; omega)).symm
 refine rP 2 [] (mc 5 U mn) ?_
 refine du (xs:=[.tmp 39]) (cs:=[(vI l.cD)]) U cN jv U U U U (by simp [Value.cells]) U U fun D=>?_
 refine rS (CL (er.eq (jf 0 3 ([l.cD]) (some ⟨D,0,none⟩) 1 (by (simp; done))) df) (av (bp 0 U U (by simp [bM]) U)<|aM) U) ?_
 refine rP 2 [] mn ?_
 refine RK A<|ar<|Q1 hQ U U U ?_
 exact cB (gi.2 (by unfold gJ; omega))
theorem Rl (l:bf) (kA:OA) (kC:Nat) (az:List RA) (cA:OA) (cC:Nat) (bA:OA) (bC:Nat) (hin:ep l az):
 er Tryz.prog 117 [(vA (bV.cells (lq l kA kC cA cC bA bC)))] [(rd kA l.aL.length 9 (l.aL.map ak.cells)),(rd cA l.ah.length 2 (List.zipWith aq.cells l.ah az)),(eX (aU aq.gE l.ah az)),(rd bA l.ae.length 4 (l.ae.map bG.cells))] (vB (decide (∀ c∈l.ah,fj c))):=by
 have H:=hin.sx
 have G:=hin.sG
 have E:=hin.mW
 have F:=hin.sk
 refine bI kr Tryz.func117 U U fun K Q hQ hN=>?_
 try dsimp only
 refine WS fun _ C=>fK U fun J=>bo 1 U<|RK C<|WS fun _ D=>rP 2 [] (mc 0 U mn) ?_
 refine rS (CL (By l.ah az cA cC (Value.func (.func 119) [].toArray [].toArray) (fun m=>(!(decide (fj m)))) (eX (aU aq.gE l.ah az)) (by intro AA m a B A; exact n_ (fi:=[]) (ca:=[]) (Tm l.ah az AA m a (by exact B) (by exact A) (by exact hin.RP _ _ _ B A))) asm asm) (NC 2 3 3 U U U U U U) U) ?_
 refine rP 2 [] mn ?_
 refine RK D<|ar<|Q1 hQ U U U ?_
 exact cB (by rw [Bool.eq_iff_iff,decide_eq_true_eq]; exact EZ)
theorem RI (b:bG) (l:bf) (kA:OA) (kC:Nat) (az:List RA) (cA:OA) (cC:Nat) (bA:OA) (bC g1:Nat) (hin:ep l az) (htr:di l.aL=true):
 er Tryz.prog 123 [(vA (bG.cells b)),(vP g1)] [(rd kA l.aL.length 9 (l.aL.map ak.cells)),(rd cA l.ah.length 2 (List.zipWith aq.cells l.ah az)),(eX (aU aq.gE l.ah az)),(rd bA l.ae.length 4 (l.ae.map bG.cells)),(cm g1 31 (bV.cells (lq l kA kC cA cC bA bC)))] (vB (!(decide (j9 l b)))):=by
 have J:=hin.sx
 have H:=hin.sG
 have F:=hin.mW
 have G:=hin.sk
 have AA:=hin.side
 refine bI kr Tryz.func123 U U fun M Q hQ hN=>?_
 try dsimp only
 refine WS fun _ C=>fK U fun K=>bo 1 U<|RK C<|WS fun _ D=>bo 1 U<|rS (V_ (bw.cells (bw.mk (bq.mk kA l.aL.length kC))) 5 U cb U U U)<|bo 1 U<|rS (LP (cK.cells b.kZ) 0 U cb U U U)<|rS (CL (Td l.aL kA kC b.kZ asm asm) (bk [1]) U)<|bo 3 U<|AL U dx fun L=>fW U cz U<|bo 1 U<|RK D<|WS fun _ B=>rP 3 [] mn ?_
 refine cH (t:=16) U (aZ fun A=>?_) (a_ fun A=>?_)
 ·refine rP 11 [] mn ?_
  refine RK B<|ar<|Q1 hQ U U U ?_
  (refine cB ?_; rw [bx (fun h:j9 l b=>A ((F8 htr).2 h.1))]; rfl)
 refine rP 6 [0,1] (mr 6 U (mc 1 U mn)) ?_
 refine du (xs:=[.tmp 22]) (cs:=[(vI b.jH)]) U cN jv U U U U (by simp [Value.cells]) U U fun E=>?_
 refine rS (CL (er.eq (jf 0 ((l.ah.length:Int)-1) ([b.jH]) (some ⟨E,0,none⟩) 1 (by (simp; done))) df) (av (bp 0 U U (by simp [bM]) U)<|aM) U) ?_
 refine rP 3 [] mn ?_
 refine RK B<|ar<|Q1 hQ U U U ?_
 (refine cB ?_; refine congrArg Bool.not (gi.2 ⟨fun h=>⟨(F8 htr).1 A,I,I⟩,fun h=>by have:=h.2; omega⟩))
theorem Rn (l:bf) (kA:OA) (kC:Nat) (az:List RA) (cA:OA) (cC:Nat) (bA:OA) (bC:Nat) (hin:ep l az) (htr:di l.aL=true):
 er Tryz.prog 121 [(vA (bV.cells (lq l kA kC cA cC bA bC)))] [(rd kA l.aL.length 9 (l.aL.map ak.cells)),(rd cA l.ah.length 2 (List.zipWith aq.cells l.ah az)),(eX (aU aq.gE l.ah az)),(rd bA l.ae.length 4 (l.ae.map bG.cells))] (vB (decide (∀ b∈l.ae,j9 l b))):=by
 have H:=hin.sx
 have G:=hin.sG
 have E:=hin.mW
 have F:=hin.sk
 refine bI kr Tryz.func121 U U fun AA Q hQ hN=>?_
 try dsimp only
 refine WS fun _ B=>fK U fun A=>bo 1 U<|RK B<|WS fun _ C=>rP 2 [] (mc 0 U mn) ?_
 refine rS (FU U) ?_
 refine rS (CL (A_ l.ae bA bC (Value.func (.func 123) [].toArray [(vP A)].toArray) (fun D=>(!(decide (j9 l D)))) (eX [(rd kA l.aL.length 9 (l.aL.map ak.cells)),(rd cA l.ah.length 2 (List.zipWith aq.cells l.ah az)),(eX (aU aq.gE l.ah az)),(rd bA l.ae.length 4 (l.ae.map bG.cells)),(cm A 31 (bV.cells (lq l kA kC cA cC bA bC)))]) (by intro D _; exact n_ (fi:=[]) (ca:=[(vP A)]) (mz (RI D l kA kC az cA cC bA bC A (by first|assumption|omega) (by first|assumption|omega)) (bk [0,1,2,3,4]))) asm) (fM 4 U U<|av (mE (bk [1,2,3,4,0]))<|aM) U) ?_
 refine rP 2 [] mn ?_
 refine RK C<|ar<|Q1 hQ U U U ?_
 exact cB (by rw [Bool.eq_iff_iff,decide_eq_true_eq]; exact HM)
theorem PE (l:bf) (kA:OA) (kC:Nat) (az:List RA) (cA:OA) (cC:Nat) (bA:OA) (bC:Nat) (n:Int) (hin:ep l az) (htr:di l.aL=true) (hbk: ∀ b∈l.ae,j9 l b) (hn:0≤n∧n<(l.ae.length:Int)):
 er Tryz.prog 126 [(vA (bV.cells (lq l kA kC cA cC bA bC))),(vI n)] [(rd kA l.aL.length 9 (l.aL.map ak.cells)),(rd cA l.ah.length 2 (List.zipWith aq.cells l.ah az)),(eX (aU aq.gE l.ah az)),(rd bA l.ae.length 4 (l.ae.map bG.cells))] (vI (my l n.toNat)):=by
 have P:=hin.sx
 have N:=hin.sG
 have L:=hin.mW
 have M:=hin.sk
 have O:=hin.side
 refine bI kr Tryz.func126 U U fun AA Q hQ hN=>?_
 try dsimp only
 refine WS fun _ E=>fK U fun R=>bo 1 U<|RK E<|WS fun _ F=>rP 3 [] (mc 0 U mn) ?_
 obtain ⟨x,hx⟩:=aH l.ae ((n).toNat) I
 have J:=bJ bG.cells hx
 refine rS (IA ((n).toNat) U (aB 4 U) th dc I I)<|rS (mV (((n).toNat)*4) U (aB 4 U) (Nat.mul_pos I dc) fw U)<|rS (lS ((n).toNat) 0 (cK.cells x.kZ) U cb (aB 4 U) J U dc U U)<|AL U CV fun S=>fW U L5 U<|RK F<|WS fun _ G=>bo 1 U<|rS (LP (bw.cells (bw.mk (bq.mk kA l.aL.length kC))) 1 U cb U U U)<|fG 1 [] (mc 0 U mn) U<|rS (CL (Td l.aL kA kC x.kZ asm asm) (bk [2]) U)<|bo 3 U<|AL U dx fun T=>fW U cz U<|bo 1 U<|RK G<|aj fun _ C=>WS fun _ H=>rP 2 [] mn ?_
 refine RK H<|bO U (aO fun D=>?_) (aP fun D=>?_)
 ·refine WK C<|WS fun _ B=>rP 3 [] (mc 0 U mn) ?_
  refine RK B<|ar<|Q1 hQ U U U ?_
  (refine congrArg (Value.int .i64) ?_; rw [show n.toNat=0 by omega] at hx ⊢; rw [zz hx,(yb htr (hbk _ (List.mem_of_getElem? hx)).1).2])
 refine dJ cv [14] [] [] [1,2,3,4,5,6] [] U U U U U<|eS U (FA 0 U fw U)<|eS U (LP (bw.cells (bw.mk (bq.mk kA l.aL.length kC))) 1 U cb U U U)<|eS U (FA 3 U fw U)<|eS U (L1 (vS bA l.ae.length bC) 1 U cb U U)<|eS U (MV U)<|eS U (BI U (sJ ⟨I,I⟩)) ?_
 obtain ⟨y,hy⟩:=aH l.ae (((n-1)).toNat) I
 have K:=bJ bG.cells hy
 refine eS U (IA (((n-1)).toNat) U (aB 5 U) th dc I I)<|eS U (mV ((((n-1)).toNat)*4) U (aB 5 U) (Nat.mul_pos I dc) fw U)<|eS U (lS (((n-1)).toNat) 0 (cK.cells y.kZ) U cb (aB 5 U) K U dc U U)<|eS U (LW 0 U cb U U)<|eS U (CL (NH l.aL kA kC y.kZ x.kZ asm asm) (bk [2]) U)<|eS U (MV U)<|eS U (EX U)<|eS U (EX U)<|eT U<|cp U fun T9 AB=>fW U cz U<|aD (AB _ _ (aI [1,2,3,4,5,6]) ?_)
 refine fO U<|KK C<|WS fun _ A=>rP 3 [] (mc 0 U mn) ?_
 refine RK A<|ar<|Q1 hQ U U U ?_
 (refine congrArg (Value.int .i64) ?_; rw [Dw I hx (by rw [show n.toNat-1=(n-1).toNat by omega]; exact hy),(lH htr ⟨(hbk _ (List.mem_of_getElem? hy)).1,(hbk _ (List.mem_of_getElem? hx)).1⟩).2])
theorem RB (l:bf) (kA:OA) (kC:Nat) (az:List RA) (cA:OA) (cC:Nat) (bA:OA) (bC:Nat) (hin:ep l az) (htr:di l.aL=true) (hbk: ∀ b∈l.ae,j9 l b):
 er Tryz.prog 125 [(vA (bV.cells (lq l kA kC cA cC bA bC)))] [(rd kA l.aL.length 9 (l.aL.map ak.cells)),(rd cA l.ah.length 2 (List.zipWith aq.cells l.ah az)),(eX (aU aq.gE l.ah az)),(rd bA l.ae.length 4 (l.ae.map bG.cells))] (vB (decide (∀ i,i<l.ae.length→1≤my l i))):=by
 have V:=hin.sx
 have AA:=hin.sG
 have S:=hin.mW
 have T:=hin.sk
 refine bI kr Tryz.func125 U U fun X Q hQ hN=>?_
 try dsimp only
 refine WS fun _ J=>fK U fun W=>bo 1 U<|RK J<|aj fun _ K=>WS fun _ L=>rP 4 [] (mc 0 U mn) ?_
 refine RK L<|ay ?_
 have A:(0≤l.ae.length)∧(∀ j,j<0→1≤my l j):=by exact ⟨Nat.zero_le _,fun j hj=>absurd hj (Nat.not_lt_zero _)⟩
 refine bK (ι:={z:Nat // (z≤l.ae.length)∧(∀ j,j<z→1≤my l j)}) [1,6] [0,1,2,3,4] U U (fun z=>[(7,(vI (z.1:Int)))]) (fun z=>[]) (fun _=>rfl) (fun _=>rfl) (fun z=>l.ae.length-z.1) ⟨0,A⟩ (aT U) (aI [0,1,2,3,4]) ?_
 clear A
 rintro ⟨i,⟨P,B⟩⟩ J5 AB
 try dsimp only
 refine WS fun _ M=>rP 1 [] mn ?_
 refine RK M<|aj fun _ N=>bO U (aO fun R=>?_) (aP fun R=>?_)
 ·refine bD<|ab<|ab<|aA<|KK K<|WS fun _ G=>rP 1 [] mn ?_
  refine RK G<|ar<|Q1 hQ U U U ?_
  exact cB (dK (fun j hj=>B j I)).symm
 refine WK N<|aj fun _ O=>ay<|WS fun _ D=>bo 2 U<|RK D<|WS fun _ E=>fG 2 [] (mc 0 U mn) U<|rS (CL (PE l kA kC az cA cC bA bC (i:Int) hin htr hbk I) (bk [1,2,3,4]) U)<|rP 1 [] mn ?_
 refine RK E<|cE U (aP fun C=>?_) (aO fun C=>?_)
 ·refine WS fun _ F=>rP 1 [] mn ?_
  refine RK F<|ar<|Q1 hQ U U U ?_
  exact cB (bx (fun h=>by have:=h i I; simp only [Int.toNat_natCast] at C; omega)).symm
 refine ck<|aG<|KK O<|al<|rP 2 [] mn ?_
 refine aD ?_
 have H:(vI (((i+1):Nat):Int))=(vI ((i:Int)+1)):=by exact cI I
 refine aR (AB ⟨(i+1),⟨I,fun j hj=>by rcases Nat.lt_or_ge j i with q|q; exact B j q; (obtain rfl:j=i:=by omega); simp only [Int.toNat_natCast] at C; omega⟩⟩ _ _ _ rfl os (dj.cons rfl<|dj.cons rfl<|aY rfl H<|dj.nil _) (aI [0,1,2,3,4]))
end
end Go.Proofs.YtadjgjnicdcjbaaGreatDoor
