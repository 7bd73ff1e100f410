/-
 The statement raceTable_said, part 5 of 8: RaceV, RankP, OrdX, TabP, NestS, Grp, Twin, Fresh, Rep, Ex6, Win6, BoolC, RaceR, Tied6, Sel6, Rep6, Tab7, Bits, B1, Rc1, Rs5, CloneM, Rs1, S2, Rs2, MapD, B4, B2, B3, B5, B6, Frozen, MarkD, Marks.
 Conditions: none.
-/
import Derived.Test.YtadjgjnicdcjbaaGreatDoorTy1
import Derived.Test.YtadjgjnicdcjbaaGreatDoorTy2
import Derived.Test.YtadjgjnicdcjbaaGreatDoorTy3
import Derived.Test.YtadjgjnicdcjbaaGreatDoorTy4
import Derived.KernelRfl
import Derived.MapKept
import Derived.Laws.Externs
namespace Go.Proofs.YtadjgjnicdcjbaaGreatDoor
set_option maxRecDepth 100000
set_option maxHeartbeats 4000000
set_option linter.unusedVariables false
section
def aA (m:gV) (i:Int):aa:=(m.lookup i).getD dv
def rv (r:bT) (i:Int):Prop:=0≤i∧i≤(r.aQ.length:Int)-1
instance (r:bT) (i:Int):Decidable (rv r i):=by unfold rv; infer_instance
noncomputable def jS (r:bT) (i:Int):Int:=if cK r=0 then (if rv r i then (if (aF r).lookup i=none then 6 else 0) else 2) else cK r
noncomputable def pD (r:bT) (i:Int):aa:=if jS r i=0 then aA (aF r) i else dv
noncomputable def mq (r:bT) (a b:Int):Int:=if cK r=0 then (if rv r a∧rv r b∧a≠b then (if (aF r).lookup a=none∨(aF r).lookup b=none then 6 else 0) else 2) else cK r
def vJ (s t:aa):Int:=if s.Hi<t.Lo then 2 else if s.Lo<t.Hi then 1 else 0
def qC (s t:aa):Int:=if s=t∧s.Lo=s.Hi then 2 else if s.Lo≤t.Hi∧t.Lo≤s.Hi then 1 else 0
noncomputable def oB (r:bT) (a b:Int):Int:=if mq r a b=0 then vJ (aA (aF r) a) (aA (aF r) b) else 0
noncomputable def pU (r:bT) (a b:Int):Int:=if mq r a b=0 then qC (aA (aF r) a) (aA (aF r) b) else 0
noncomputable def gL (r:bT) (i:Int):List Int:=if jS r i=0 then c_ (aF r) i (aA (aF r) i) else []
noncomputable def mP (r:bT) (h i:Int):Int:=if cK r=0 then (if (0≤h∧h≤(r.ay.length:Int)-1)∧rv r i then (if ((r.ay[h.toNat]?).bind (·[i.toNat]?)).any (·.Out)=true then 6 else 0) else 2) else cK r
noncomputable def hU (r:bT) (h i:Int):aa:=if mP r h i=0 then ((((r.ay[h.toNat]?).bind (·[i.toNat]?)).map (dx r.ao)).getD dv) else dv
noncomputable def uo (r:bT) (h:Nat):List Int:=let l:=ep (fun i=>(aA (eG r h) i).Hi) (r.bQ.filter fun i=>((eG r h).lookup i).isSome); rH (min r.iK.toNat l.length) l
noncomputable def iI (r:bT) (h:Int):Int:=if cK r=0 then (if 0≤h∧h≤(r.ay.length:Int) then 0 else 2) else cK r
noncomputable def g5 (r:bT) (h:Int):List Int:=if iI r h=0 then (if h=0 then r.bQ else uo r h.toNat) else []
section
variable {r:bT} {i a b:Int}
theorem uM {m:gV} {i:Int} (h:(m.lookup i).isSome=true): ¬ m.lookup i=none:=fun e=>by rw [e] at h; cases h
theorem uN {m:gV} {i:Int} (h:(m.lookup i).isSome=false):m.lookup i=none:=by cases e:m.lookup i with |none=>rfl|some v=>rw [e] at h; cases h
theorem uP (h:jS r i=0):cK r=0∧rv r i∧(aF r).lookup i≠none:=by
 unfold jS at h
 split at h
 ·split at h
  ·split at h
   ·cases h
   ·exact ⟨asm,asm,asm⟩
  ·cases h
 ·exact absurd h asm
theorem yA (h:mq r a b=0):cK r=0∧(rv r a∧rv r b∧a≠b)∧(aF r).lookup a≠none∧(aF r).lookup b≠none:=by
 unfold mq at h
 split at h
 ·split at h
  ·split at h
   ·cases h
   ·rename_i _ _ q
    exact ⟨asm,asm,fun e=>q (.inl e),fun e=>q (.inr e)⟩
  ·cases h
 ·exact absurd h asm
theorem uy {k:Nat} {p:Int×aa} (h:p∈eG r k): ∃ q:Nat,q<r.aQ.length∧p.1=(q:Int)∧fJ r.ao r.ay q k=some p.2:=by
 unfold eG at h
 obtain ⟨q,hq,e⟩:=List.mem_filterMap.1 h
 obtain ⟨s,hs,rfl⟩:=Option.map_eq_some_iff.1 e
 exact ⟨q,List.mem_range.1 hq,U,hs⟩
theorem Fu {k:Nat} (h:cK r=0) (hk:k≤r.ay.length): ∀ p∈eG r k,0≤p.2.Lo∧p.2.Lo≤p.2.Hi∧p.2.Hi≤30000000:=fun p hp=>by
 obtain ⟨q,_,_,hs⟩:=uy hp
 have A:=zZ (iG h).2.AK hk hs
 have B:=(iG h).2.nh
 omega
theorem np (h:cK r=0): ∀ p∈aF r,0≤p.2.Lo∧p.2.Lo≤p.2.Hi∧p.2.Hi≤30000000:=Fu h (Nat.le_refl _)
theorem uG {k:Nat}:(eG r k).length≤r.aQ.length:=by
 unfold eG
 refine Nat.le_trans (List.length_filterMap_le _ _) ?_
 rw [List.length_range]; exact Nat.le_refl _
theorem mA (h:cK r=0):(aF r).length≤5:=by
 have A:=uG (r:=r) (k:=r.ay.length)
 have B:=(iG h).2.num
 unfold aF; omega
theorem NM {s t:aa}:(if decide (s.Hi<t.Lo)=true then (2:Int) else if decide (s.Lo<t.Hi)=true then 1 else 0)=vJ s t:=by simp only [decide_eq_true_eq]; rfl
theorem Jk {s t:aa} (h:s=t):(if decide (max s.Lo t.Lo=min s.Hi t.Hi)=true then (2:Int) else if decide (max s.Lo t.Lo≤min s.Hi t.Hi)=true then 1 else 0)=qC s t:=by
 subst h
 simp only [decide_eq_true_eq,qC,Int.max_self,Int.min_self,true_and,and_self]
theorem Oq {s t:aa} (hs:s.Lo≤s.Hi) (ht:t.Lo≤t.Hi) (h: ¬ s=t):(if false=true then (2:Int) else if decide (max s.Lo t.Lo≤min s.Hi t.Hi)=true then 1 else 0)=qC s t:=by
 unfold qC
 rw [if_neg dc,if_neg (fun q:s=t∧s.Lo=s.Hi=>h q.1)]
 by_cases c:s.Lo≤t.Hi∧t.Lo≤s.Hi
 ·rw [if_pos c,if_pos (fH I)]
 ·rw [if_neg c,if_neg (by rw [decide_eq_true_eq]; omega)]
theorem IS (h: ¬ cK r=0):jS r i=cK r:=if_neg h
theorem IX (h:cK r=0) (hi: ¬ (0≤i∧i≤(r.aQ.length:Int)-1)):jS r i=2:=by unfold jS; rw [if_pos h,if_neg (show ¬ rv r i from hi)]
theorem zk (h:cK r=0) (hi:0≤i∧i≤(r.aQ.length:Int)-1) (hl:((aF r).lookup i).isSome=false):jS r i=6:=by unfold jS; rw [if_pos h,if_pos (show rv r i from hi),if_pos (uN hl)]
theorem Gd (h:cK r=0) (hi:0≤i∧i≤(r.aQ.length:Int)-1) (hl:((aF r).lookup i).isSome=true):jS r i=0:=by unfold jS; rw [if_pos h,if_pos (show rv r i from hi),if_neg (uM hl)]
theorem JM (h: ¬ cK r=0):mq r a b=cK r:=if_neg h
theorem Bf (h:cK r=0) (hi: ¬ ((0≤a∧a≤(r.aQ.length:Int)-1)∧(0≤b∧b≤(r.aQ.length:Int)-1)∧a≠b)):mq r a b=2:=by unfold mq; rw [if_pos h,if_neg (show ¬ (rv r a∧rv r b∧a≠b) from hi)]
theorem zu (h:cK r=0) (hi:(0≤a∧a≤(r.aQ.length:Int)-1)∧(0≤b∧b≤(r.aQ.length:Int)-1)∧a≠b) (hl:((aF r).lookup a).isSome=false∨((aF r).lookup b).isSome=false):mq r a b=6:=by
 unfold mq; rw [if_pos h,if_pos (show rv r a∧rv r b∧a≠b from hi),if_pos (hl.imp uN uN)]
theorem NN (h:cK r=0) (hi:(0≤a∧a≤(r.aQ.length:Int)-1)∧(0≤b∧b≤(r.aQ.length:Int)-1)∧a≠b) (h1:((aF r).lookup a).isSome=true) (h2:((aF r).lookup b).isSome=true):mq r a b=0:=by
 unfold mq; rw [if_pos h,if_pos (show rv r a∧rv r b∧a≠b from hi),if_neg (fun q=>q.elim (uM h1) (uM h2))]
end
end
section
abbrev qI:=List (Int×Bool)
def iR (m:qI) (P:Int→Prop):Prop:=(m.map (·.1)).Nodup∧ ∀ k,k∈m.map (·.1)↔P k
section
variable {m:qI} {P Q:Int→Prop} {k:Int}
theorem iR.yu (h:iR m P) (e: ∀ k,P k↔Q k):iR m Q:=⟨h.1,fun k=>(h.2 k).trans (e k)⟩
theorem Mp (h: ∀ k,¬ P k):iR [] P:=⟨List.Pairwise.nil,fun k=>⟨fun q=>by simp at q,fun q=>absurd q (h k)⟩⟩
theorem Ht:k∈m.map (·.1)↔(m.lookup k).isSome=true:=by
 induction m with
 |nil=>simp
 |cons p m ih=>
  obtain ⟨a,b⟩:=p
  by_cases e:k=a
  ·subst e; simp [List.lookup]
  ·have:(k==a)=false:=by simpa using e
   simp only [List.map_cons,ed,e,false_or,List.lookup,this]
   exact ih
theorem Kp {b:Bool} (h:iR m P) (hk: ¬ P k):iR (dL m k b) fun q=>P q∨q=k:=by
 have hn:(m.lookup k).isSome=false:=by
  rw [Bool.eq_false_iff]
  exact fun q=>hk ((h.2 k).1 (Ht.2 q))
 unfold dL
 rw [hn]
 simp only [Bool.false_eq_true,if_false]
 refine ⟨?_,fun q=>?_⟩
 ·rw [List.map_append]
  refine List.nodup_append.2 ⟨h.1,sm,fun a ha b hb e=>?_⟩
  simp at hb
  subst hb; subst e
  exact hk ((h.2 _).1 ha)
 ·rw [List.map_append,kG,h.2 q]
  simp
theorem CJ (h:iR m P):iR (cq m k) fun q=>P q∧q≠k:=by
 have hs:((cq m k).map (·.1)).Sublist (m.map (·.1)):=List.Sublist.map _ List.filter_sublist
 refine ⟨h.1.sublist hs,fun q=>?_⟩
 constructor
 ·intro hq
  obtain ⟨p,hp,rfl⟩:=List.mem_map.1 hq
  obtain ⟨A,B⟩:=j5.1 hp
  exact ⟨(h.2 _).1 (List.mem_map_of_mem A),B⟩
 ·rintro ⟨A,B⟩
  obtain ⟨p,hp,rfl⟩:=List.mem_map.1 ((h.2 q).2 A)
  exact List.mem_map_of_mem (j5.2 ⟨hp,B⟩)
end
/-- two rows that go up and have the same numbers, each once -/
theorem qV {a b:List Int} (ha:a.Pairwise (· ≤ ·)) (hb:b.Pairwise (· ≤ ·)) (na:a.Nodup) (nb:b.Nodup) (h: ∀ x,x∈a↔x∈b):a=b:=
 rL ((List.perm_ext_iff_of_nodup na nb).2 h) ha hb
def Ks (l:List Int):Nat:=if l.length=2∧l[1]? =l[0]? then 1 else l.length
theorem zf {l:List Int} {x y:Int} (h:l.length=2) (h0:l[0]? =some y) (h1:l[1]? =some x) (e:x=y):Ks l=1:=if_pos ⟨h,by rw [h0,h1,e]⟩
theorem Bs {l:List Int} {x y:Int} (h:l.length=2) (h0:l[0]? =some y) (h1:l[1]? =some x) (e: ¬ x=y):Ks l=l.length:=if_neg fun q=>e (by have:=q.2; rw [h0,h1] at this; exact Option.some.inj this)
theorem IV (a b:Int):(a=b∧Ks (df [a,b])=1)∨(¬ a=b∧Ks (df [a,b])=2):=by
 have hl:(df [a,b]).length=2:=by simp
 have hp:(df [a,b]).Perm [a,b]:=fx
 match hs:df [a,b],hl with
 |[x,y],_=>
  rw [hs] at hp
  by_cases e:a=b
  ·subst e
   left
   refine ⟨U,zf U U U ?_⟩
   have A:x∈[a,a]:=hp.mem_iff.1 sm
   have B:y∈[a,a]:=hp.mem_iff.1 sm
   simp at A B; omega
  ·right
   refine ⟨e,(Bs (x:=y) (y:=x) U U U fun q=>?_).trans U⟩
   subst q
   have A:=hp.nodup_iff.2 (show [a,b].Nodup by simp [e])
   simp at A
section
variable {m left:gV} {i n x:Int} {y:aa}
theorem lB {p:Int×aa→Bool} (hn:(left.map (·.1)).Nodup) (hm:(x,y)∈left):left.countP p=(cq left x).countP p+(if p (x,y)=true then 1 else 0):=by
 induction left with
 |nil=>cases hm
 |cons q left ih=>
  obtain ⟨a,b⟩:=q
  simp only [List.map_cons,List.nodup_cons] at hn
  rcases List.mem_cons.1 hm with e|hm
  ·cases e
   have A:cq ((x,y)::left) x=left:=by
    unfold cq
    rw [List.filter_cons_of_neg sm]
    exact List.filter_eq_self.2 fun q hq=>by
     have:q.1≠x:=fun e=>hn.1 (e▸List.mem_map_of_mem hq)
     simpa using this
   rw [A,List.countP_cons]
  ·have B:a≠x:=fun e=>hn.1 (e▸List.mem_map_of_mem (f:=fun z:Int×aa=>z.1) hm)
   have A:cq ((a,b)::left) x=(a,b)::cq left x:=by
    unfold cq
    rw [List.filter_cons_of_pos (by simpa using B)]
   rw [A,List.countP_cons,List.countP_cons,ih hn.2 hm]
   omega
theorem kZ:gG left i n=left.countP fun p=>decide (p.2.Hi<n)&& !decide (p.1=i):=by unfold gG mT; rw [List.countP_filter]
theorem nD:jr left i n=left.countP fun p=>decide (p.2.Lo<n)&& !decide (p.1=i):=by unfold jr mT; rw [List.countP_filter]
theorem Hr (hn:(left.map (·.1)).Nodup) (hm:(x,y)∈left) (h:x=i):gG left i n=gG (cq left x) i n:=by
 rw [kZ,kZ,lB hn hm]; simp [h]
theorem KZ (hn:(left.map (·.1)).Nodup) (hm:(x,y)∈left) (h:x=i):jr left i n=jr (cq left x) i n:=by
 rw [nD,nD,lB hn hm]; simp [h]
theorem zG (hn:(left.map (·.1)).Nodup) (hm:(x,y)∈left) (h: ¬ x=i) (hy:y.Hi<n):gG left i n=gG (cq left x) i n+1:=by
 rw [kZ,kZ,lB hn hm]; simp [h,hy]
theorem BQ (hn:(left.map (·.1)).Nodup) (hm:(x,y)∈left) (h: ¬ x=i) (hy: ¬ y.Hi<n):gG left i n=gG (cq left x) i n:=by
 rw [kZ,kZ,lB hn hm]; simp [h,hy]
theorem B2 (hn:(left.map (·.1)).Nodup) (hm:(x,y)∈left) (h: ¬ x=i) (hy:y.Lo<n):jr left i n=jr (cq left x) i n+1:=by
 rw [nD,nD,lB hn hm]; simp [h,hy]
theorem F9 (hn:(left.map (·.1)).Nodup) (hm:(x,y)∈left) (h: ¬ x=i) (hy: ¬ y.Lo<n):jr left i n=jr (cq left x) i n:=by
 rw [nD,nD,lB hn hm]; simp [h,hy]
theorem yM:gG [] i n=0:=rfl
theorem By:jr [] i n=0:=rfl
theorem Fl:gG m i n≤m.length:=by unfold gG mT; exact Nat.le_trans List.countP_le_length (List.length_filter_le _ _)
theorem IQ:jr m i n≤m.length:=by unfold jr mT; exact Nat.le_trans List.countP_le_length (List.length_filter_le _ _)
end
def ov {β:Type} (m left:List (Int×β)) (ys:List Int):Prop:=(ys++left.map (·.1)).Perm (m.map (·.1))
theorem vg {β:Type} {m:List (Int×β)}:ov m m []:=List.Perm.refl _
theorem wX {β:Type} {m:List (Int×β)} {ys:List Int} (h:ov m [] ys):ys.Perm (m.map (·.1)):=by simpa [ov] using h
theorem KY {β:Type} {left:List (Int×β)} {x:Int} {y:β} (hn:(left.map (·.1)).Nodup) (hm:(x,y)∈left):(left.map (·.1)).Perm (x::(cq left x).map (·.1)):=by
 induction left with
 |nil=>cases hm
 |cons q left ih=>
  obtain ⟨a,b⟩:=q
  simp only [List.map_cons,List.nodup_cons] at hn
  rcases List.mem_cons.1 hm with e|hm
  ·cases e
   have A:cq ((x,y)::left) x=left:=by
    unfold cq
    rw [List.filter_cons_of_neg sm]
    exact List.filter_eq_self.2 fun q hq=>by
     have:q.1≠x:=fun e=>hn.1 (e▸List.mem_map_of_mem hq)
     simpa using this
   rw [A]; exact List.Perm.refl _
  ·have B:a≠x:=fun e=>hn.1 (e▸List.mem_map_of_mem (f:=fun z:Int×β=>z.1) hm)
   have A:cq ((a,b)::left) x=(a,b)::cq left x:=by
    unfold cq
    rw [List.filter_cons_of_pos (by simpa using B)]
   rw [A,List.map_cons,List.map_cons]
   exact ((ih hn.2 hm).cons a).trans (List.Perm.swap _ _ _)
theorem od {β:Type} {m left:List (Int×β)} {ys:List Int} {x:Int} {y:β} (hn:(left.map (·.1)).Nodup) (hm:(x,y)∈left) (h:ov m left ys):ov m (cq left x) (ys++[x]):=by
 unfold ov at h ⊢
 refine List.Perm.trans ?_ h
 rw [List.append_assoc]
 exact (KY hn hm).symm.append_left ys
theorem fT {β:Type} {m left:List (Int×β)} {x:Int} (h: ∀ p∈left,p∈m): ∀ p∈cq left x,p∈m:=fun p hp=>h p (j5.1 hp).1
theorem gJ {m:gV} {i:Int} (h: ∀ p∈m,0≤p.2.Lo∧p.2.Lo≤p.2.Hi∧p.2.Hi≤30000000):0≤(aA m i).Lo∧(aA m i).Lo≤(aA m i).Hi∧(aA m i).Hi≤30000000:=by
 unfold aA
 cases e:m.lookup i with
 |none=>simp [dv]
 |some v=>
  have hm:(i,v)∈m:=by
   clear h
   induction m with
   |nil=>cases e
   |cons p m ih=>
    obtain ⟨a,b⟩:=p
    by_cases c:i=a
    ·subst c; simp [List.lookup] at e; subst e; exact cb
    ·have:(i==a)=false:=by simpa using c
     simp only [List.lookup,this] at e
     exact cR _ (ih e)
  simpa using h _ hm
/-- not reached by the numbers so far -/
def uc (m:gV) (i:Int) (ys:List Int) (k:Int):Prop:=(1≤k∧k≤(m.length:Int))∧ ∀ n∈ys,¬ ((gG m i n:Int)+1≤k∧k≤(jr m i n:Int)+1)
section
variable {m:gV} {i:Int} {own:aa} {ys:List Int} {nev ranks:qI} {n a b:Int}
theorem Ix (h:iR nev fun k=>1≤k∧k≤(m.length:Int)):iR nev (uc m i []):=h.yu fun k=>⟨fun h=>⟨h,fun n hn=>by cases hn⟩,fun h=>h.1⟩
theorem Kw (ha:a=(gG m i n:Int)+1) (hb:b=(jr m i n:Int)+1) (h:iR nev fun q=>uc m i ys q∧ ¬ (a≤q∧q≤b)):iR nev (uc m i (ys++[n])):=by
 subst ha hb
 refine h.yu fun k=>?_
 unfold uc
 constructor
 ·rintro ⟨⟨B,A⟩,C⟩
  refine ⟨B,fun x hx=>?_⟩
  rcases List.mem_append.1 hx with hx|hx
  ·exact A x hx
  ·rw [bS] at hx; subst hx; exact C
 ·rintro ⟨B,A⟩
  exact ⟨⟨B,fun x hx=>A x (List.mem_append_left _ hx)⟩,A n sm⟩
theorem D5 {P:Int→Prop} {k:Int} (hk:a≤k) (h:iR nev fun q=>P q∧ ¬ (a≤q∧q<k)):iR (cq nev k) fun q=>P q∧ ¬ (a≤q∧q<k+1):=
 (CJ (k:=k) h).yu fun q=>by
  constructor
  ·rintro ⟨⟨B,A⟩,E⟩; exact ⟨B,fun ⟨C,D⟩=>A ⟨C,I⟩⟩
  ·rintro ⟨B,A⟩; exact ⟨⟨B,fun ⟨C,D⟩=>A ⟨C,I⟩⟩,fun e=>A ⟨I,I⟩⟩
theorem Gs (hall: ∀ n,n∈ys↔n∈jE m i own) {k:Int} (hk:1≤k∧k≤(m.length:Int)): ¬ uc m i ys k↔rY m i own k:=by
 unfold uc rY
 constructor
 ·intro h
  refine Classical.byContradiction fun q=>h ⟨hk,fun n hn hc=>q ⟨n,(hall n).1 hn,hc.1,hc.2⟩⟩
 ·rintro ⟨n,hn,A,B⟩ h
  exact h.2 n ((hall n).2 hn) ⟨A,B⟩
/-- the ranks, from what is left of the map -/
theorem ED (hi:m.lookup i≠none) (hall: ∀ n,n∈ys↔n∈jE m i own) (h:iR ranks fun k=>(1≤k∧k≤(m.length:Int))∧ ¬ uc m i ys k):df (ranks.map (·.1))=c_ m i own:=by
 refine qV kW ?_ ((fx (l:=ranks.map (·.1))).nodup_iff.2 h.1) ?_ fun k=>?_
 ·unfold c_
  refine List.Pairwise.filter _ ?_
  rw [List.pairwise_map]
  exact List.pairwise_lt_range.imp fun h=>by omega
 ·unfold c_
  refine List.Pairwise.filter _ ?_
  rw [List.pairwise_map]
  exact List.pairwise_lt_range.imp fun h=>by omega
 ·rw [(fx (l:=ranks.map (·.1))).mem_iff,h.2 k,re hi]
  constructor
  ·rintro ⟨A,B⟩; exact (Gs hall A).1 B
  ·intro A
   have hk:1≤k∧k≤(m.length:Int):=by
    obtain ⟨n,_,B,C⟩:=A
    have:=IF hi (x:=n)
    omega
   exact ⟨hk,(Gs hall hk).2 A⟩
end
section
variable {nw left rk:qI} {N R:Int→Prop} {u:Int} {v:Bool}
theorem M0 (hl: ∀ p∈left,p∈nw) (hk:iR nw N) (hm:(u,v)∈left) (h:iR rk fun w=>R w∧ ¬ (N w∧w ∉ left.map (·.1))):iR (cq rk u) fun w=>R w∧ ¬ (N w∧w ∉ (cq left u).map (·.1)):=
 (CJ (k:=u) h).yu fun w=>by
  have hd:w∈(cq left u).map (·.1)↔w∈left.map (·.1)∧w≠u:=by
   constructor
   ·intro q
    obtain ⟨p,hp,rfl⟩:=List.mem_map.1 q
    exact ⟨List.mem_map_of_mem (j5.1 hp).1,(j5.1 hp).2⟩
   ·rintro ⟨D,E⟩
    obtain ⟨p,hp,rfl⟩:=List.mem_map.1 D
    exact List.mem_map_of_mem (j5.2 ⟨hp,E⟩)
  constructor
  ·rintro ⟨⟨B,A⟩,C⟩
   exact ⟨B,fun q=>A ⟨q.1,fun z=>q.2 (hd.2 ⟨z,C⟩)⟩⟩
  ·rintro ⟨B,A⟩
   refine ⟨⟨B,fun q=>A ⟨q.1,fun z=>q.2 (hd.1 z).1⟩⟩,fun e=>A ⟨?_,fun z=>(hd.1 z).2 e⟩⟩
   subst e
   exact (hk.2 _).1 (List.mem_map_of_mem (f:=fun z:Int×Bool=>z.1) (hl _ hm))
theorem Mi {n:Nat} (h:iR rk R) (hR: ∀ k,R k→1≤k∧k≤(n:Int)):rk.length≤n:=by
 have hp:((List.range n).map fun (k:Nat)=>(k:Int)+1).Pairwise (· < ·):=by
  rw [List.pairwise_map]
  exact List.pairwise_lt_range.imp fun h=>by omega
 have e:df (rk.map (·.1))=((List.range n).map fun (k:Nat)=>(k:Int)+1).filter fun k=>decide (k∈rk.map (·.1)):=by
  refine qV kW ((hp.filter _).imp fun h=>by omega) ((fx (l:=rk.map (·.1))).nodup_iff.2 h.1) ((hp.filter _).imp fun h=>by omega) fun k=>?_
  rw [(fx (l:=rk.map (·.1))).mem_iff,List.mem_filter,decide_eq_true_eq]
  refine ⟨fun q=>⟨?_,q⟩,fun q=>q.2⟩
  have:=hR k ((h.2 k).1 q)
  exact List.mem_map.2 ⟨(k-1).toNat,List.mem_range.2 I,I⟩
 have A:=congrArg List.length e
 have B:=List.length_filter_le (fun k=>decide (k∈rk.map (·.1))) ((List.range n).map fun (k:Nat)=>(k:Int)+1)
 rw [gf,List.length_map] at A
 rw [List.length_map,List.length_range] at B
 omega
end
section
variable {m left:gV} {i x n:Int} {own y:aa} {ys:List Int}
/-- what was told so far: all of those who are not left -/
def yJ (m:gV) (i:Int) (own:aa) (left:gV) (ys:List Int):Prop:=(∀ n∈ys,n∈jE m i own)∧own.Lo∈ys∧ ∀ p∈m,p.1≠i→p ∉ left→ ∀ n∈[p.2.Lo+1,p.2.Hi+1],own.Lo≤n∧n≤own.Hi→n∈ys
theorem mV {p:Int×aa} (hp:p∈m) (hi:p.1≠i) (hn:n=p.2.Lo+1∨n=p.2.Hi+1) (hb:own.Lo≤n∧n≤own.Hi):n∈jE m i own:=
 cR _ (List.mem_filter.2 ⟨List.mem_flatMap.2 ⟨p,List.mem_filter.2 ⟨hp,by simpa using hi⟩,by simpa using hn⟩,fH hb⟩)
theorem LL:yJ m i own m [own.Lo]:=⟨fun n hn=>by rw [bS] at hn; subst hn; exact cb,sm,fun p hp _ hl=>absurd hp hl⟩
theorem OE (h:yJ m i own [] ys) (n:Int):n∈ys↔n∈jE m i own:=by
 refine ⟨h.1 n,fun hn=>?_⟩
 rcases List.mem_cons.1 hn with rfl|hn
 ·exact h.2.1
 ·obtain ⟨C,D⟩:=List.mem_filter.1 hn
  obtain ⟨p,hp,hx⟩:=List.mem_flatMap.1 C
  obtain ⟨A,B⟩:=List.mem_filter.1 hp
  exact h.2.2 p A (by simpa using B) sm n hx (of_decide_eq_true D)
theorem ld {ys':List Int} (hm:(left.map (·.1)).Nodup) (hx:(x,y)∈left) (hl: ∀ p∈left,p∈m) (h:yJ m i own left ys) (hs: ∀ n∈ys,n∈ys') (hn: ∀ n∈ys',n∈ys∨n∈jE m i own)
 (hy:x≠i→ ∀ n∈[y.Lo+1,y.Hi+1],own.Lo≤n∧n≤own.Hi→n∈ys'):yJ m i own (cq left x) ys':=by
 refine ⟨fun n A=>?_,hs _ h.2.1,fun p hp hi B n A hb=>?_⟩
 ·rcases hn n A with q|q
  ·exact h.1 n q
  ·exact q
 ·by_cases e:p∈left
  ·have C:p.1=x:=by
    refine Classical.byContradiction fun q=>B (j5.2 ⟨e,q⟩)
   have E:p=(x,y):=by
    obtain ⟨G,H⟩:=p
    simp only at C; subst C
    have F:=(j1 hm).1 e
    have D:=(j1 hm).1 hx
    rw [F] at D; cases D; rfl
   subst E
   exact hy hi n A hb
  ·exact hs n (h.2.2 p hp hi e n A hb)
end
section
variable {r:bT} {h i:Int} {ht:List ax} {d:ax}
theorem o0 (he: ¬ cK r=0):mP r h i=cK r:=if_neg he
theorem o6 (he:cK r=0) (hi: ¬ ((0≤h∧h≤(r.ay.length:Int)-1)∧0≤i∧i≤(r.aQ.length:Int)-1)):mP r h i=2:=by
 unfold mP; rw [if_pos he,if_neg (show ¬ ((0≤h∧h≤(r.ay.length:Int)-1)∧rv r i) from hi)]
theorem Bg (he:cK r=0) (hi:(0≤h∧h≤(r.ay.length:Int)-1)∧0≤i∧i≤(r.aQ.length:Int)-1) (h1:r.ay[h.toNat]? =some ht) (h2:ht[i.toNat]? =some d):mP r h i=if d.Out=true then 6 else 0:=by
 unfold mP; rw [if_pos he,if_pos (show (0≤h∧h≤(r.ay.length:Int)-1)∧rv r i from hi),h1]
 simp [h2]
theorem nB (he:cK r=0) (hi:(0≤h∧h≤(r.ay.length:Int)-1)∧0≤i∧i≤(r.aQ.length:Int)-1) (h1:r.ay[h.toNat]? =some ht) (h2:ht[i.toNat]? =some d) (ho:d.Out=true):mP r h i=6:=by rw [Bg he hi h1 h2,if_pos ho]
theorem qd (he:cK r=0) (hi:(0≤h∧h≤(r.ay.length:Int)-1)∧0≤i∧i≤(r.aQ.length:Int)-1) (h1:r.ay[h.toNat]? =some ht) (h2:ht[i.toNat]? =some d) (ho:d.Out=false):mP r h i=0∧hU r h i=dx r.ao d:=by
 have e:mP r h i=0:=by rw [Bg he hi h1 h2,if_neg (by rw [ho]; decide)]
 refine ⟨e,?_⟩
 unfold hU
 rw [if_pos e,h1]
 simp [h2]
end
theorem zE {r:bT} {i:Int} (h: ¬ jS r i=0):gL r i=[]:=if_neg h
theorem zr {r:bT} {i:Int} (h:jS r i=0):gL r i=c_ (aF r) i (aA (aF r) i):=if_pos h
end
section
open Go.RowKit
section
variable {key:Int→Int} {l q m:List Int} {i j:Nat} {x y:Int}
theorem HU:1=1∧l=[]∨tG key l 1 l:=by
 cases l with
 |nil=>exact .inl ⟨rfl,rfl⟩
 |cons a l=>exact .inr (Iw sm)
theorem Nr (h:i<l.length) (hd:i=1∧l=[]∨tG key l i m):tG key l i m:=by
 rcases hd with ⟨_,rfl⟩|hd
 ·simp at h
 ·exact hd
theorem I2 (hi: ¬ i<l.length) (hl:m.length=l.length) (hd:i=1∧l=[]∨tG key l i m):m=ep key l:=by
 rcases hd with ⟨_,rfl⟩|hd
 ·exact jy hl
 ·exact Mc I hd
theorem Mj (hx:q[j]? =some x) (hy:q[j-1]? =some y) (h: ∀ z∈q,z∈l): ∀ z∈(q.set j y).set (j-1) x,z∈l:=fun z hz=>by
 rcases List.mem_or_eq_of_mem_set hz with hz|rfl
 ·rcases List.mem_or_eq_of_mem_set hz with hz|rfl
  ·exact h z hz
  ·exact h _ (aR hy)
 ·exact h _ (aR hx)
theorem x_ {p:Int→Bool} (hx:l[i]? =some x) (h:p x=true):(l.take (i+1)).filter p=(l.take i).filter p++[x]:=by
 rw [jU hx,List.filter_append]; simp [h]
theorem Fy {p:Int→Bool} (hx:l[i]? =some x) (h:p x=false):(l.take (i+1)).filter p=(l.take i).filter p:=by
 rw [jU hx,List.filter_append]; simp [h]
end
section
variable {r:bT} {h:Int} {n:Nat}
theorem EP (e: ¬ cK r=0):iI r h=cK r:=if_neg e
theorem E8 (e:cK r=0) (q: ¬ (0≤h∧h≤(r.ay.length:Int))):iI r h=2:=by unfold iI; rw [if_pos e,if_neg q]
theorem yD (e:cK r=0) (q:0≤h∧h≤(r.ay.length:Int)):iI r h=0:=by unfold iI; rw [if_pos e,if_pos q]
theorem EB (hd:r.bQ.length≤12):(g5 r h).length≤12:=by
 unfold g5
 split
 ·split
  ·exact hd
  ·unfold uo
   simp only [j3,kp]
   exact Nat.le_trans (List.length_filter_le _ _) hd
 ·simp
theorem yP (e: ¬ iI r h=0):g5 r h=[]:=if_neg e
theorem vu (e:iI r h=0) (q:h=0):g5 r h=r.bQ:=by unfold g5; rw [if_pos e,if_pos q]
theorem vw (e:iI r (n:Int)=0) (q: ¬ (n:Int)=0):g5 r (n:Int)=uo r n:=by unfold g5; rw [if_pos e,if_neg q,Int.toNat_natCast]
theorem yV {k:Nat} {l:List Int} (hl:l=ep (fun i=>(aA (eG r n) i).Hi) (r.bQ.filter fun i=>((eG r n).lookup i).isSome)) (hk:k=min r.iK.toNat l.length):rH k l=uo r n:=by subst hl; subst hk; rfl
theorem TB {m:gV} {l:List Int} (hb: ∀ p∈m,0≤p.2.Lo∧p.2.Lo≤p.2.Hi∧p.2.Hi≤30000000): ∀ x∈l,0≤(aA m x).Hi∧(aA m x).Hi≤30000000:=fun x _=>by have:=gJ (i:=x) hb; omega
theorem Tk {m:gV} {l:List Int} (hb: ∀ p∈m,0≤p.2.Lo∧p.2.Lo≤p.2.Hi∧p.2.Hi≤30000000): ∀ x∈l,0≤(aA m x).Lo∧(aA m x).Lo≤30000000:=fun x _=>by have:=gJ (i:=x) hb; omega
end
end
section
def E1 (f:Int→aa) (g:List Int):Prop:= ∀ t,(∃ a∈g,(f a).Lo<t)→(∃ b∈g,t≤(f b).Lo)→ ∃ c∈g,(f c).Lo<t∧t≤(f c).Hi
def KA (f:Int→aa) (g h:List Int):Prop:= ∀ a∈g,∀ b∈h,(f a).Hi<(f b).Lo
structure gX (f:Int→aa) (keys:List Int) (G:List (List Int)):Prop where
 perm:G.flatten.Perm keys
 some_: ∀ g∈G,g≠[]
 apart:G.Pairwise (KA f)
 tight: ∀ g∈G,E1 f g
def AA (G:List (List Int)):Prop:= ∀ g∈G,g.Pairwise (· ≤ ·)
section
variable {f:Int→aa} {keys:List Int} {G G':List (List Int)} {g h:List Int} {x:Int}
theorem th: ∀ {g:List Int},g≠[]→ ∃ a∈g,∀ b∈g,(f a).Lo≤(f b).Lo
 |[],h=>absurd rfl h
 |[a],_=>⟨a,sm,fun b hb=>by simp at hb; subst hb; omega⟩
 |a::b::g,_=>by
  obtain ⟨c,hc,hm⟩:=th (g:=b::g) sm
  rcases Int.le_total (f a).Lo (f c).Lo with q|q
  ·refine ⟨a,sm,fun d hd=>?_⟩
   rcases List.mem_cons.1 hd with rfl|hd
   ·omega
   ·have:=hm d hd; omega
  ·refine ⟨c,cR _ hc,fun d hd=>?_⟩
   rcases List.mem_cons.1 hd with rfl|hd
   ·exact q
   ·exact hm d hd
/-- the first group is what no cut parts from the least -/
theorem q9 (hf: ∀ i∈keys,(f i).Lo≤(f i).Hi) (h:gX f keys (g::G)) {a:Int} (ha:a∈keys) (hm: ∀ b∈keys,(f a).Lo≤(f b).Lo) {b:Int} (hb:b∈keys):b∈g↔ ∀ t,(f a).Lo<t→t≤(f b).Lo→ ∃ c∈keys,(f c).Lo<t∧t≤(f c).Hi:=by
 have hk: ∀ x,x∈keys↔x∈g∨x∈G.flatten:=fun x=>by rw [← h.perm.mem_iff,List.flatten_cons,kG]
 have A:=List.pairwise_cons.1 h.apart
 have B:a∈g:=by
  rcases (hk a).1 ha with q|q
  ·exact q
  ·obtain ⟨y,hy⟩:=List.exists_mem_of_ne_nil _ (h.some_ g cb)
   obtain ⟨g',hg',hag'⟩:=List.mem_flatten.1 q
   have F:=A.1 g' hg' y hy a hag'
   have H:=hm y ((hk y).2 (.inl hy))
   have E:=hf y ((hk y).2 (.inl hy))
   omega
 constructor
 ·intro AA t F H
  obtain ⟨c,hc,E⟩:=h.tight g cb t ⟨a,B,F⟩ ⟨b,AA,H⟩
  exact ⟨c,(hk c).2 (.inl hc),E⟩
 ·intro C
  rcases (hk b).1 hb with q|q
  ·exact q
  ·exfalso
   obtain ⟨d,hd,D⟩:=th (f:=f) (g:=G.flatten) (fun e=>by rw [e] at q; cases q)
   obtain ⟨g',hg',hdg'⟩:=List.mem_flatten.1 hd
   have F:=A.1 g' hg' a B d hdg'
   have H:=hf a ha
   have E:=D b q
   obtain ⟨c,hc,K,L⟩:=C (f d).Lo I E
   rcases (hk c).1 hc with J|J
   ·have:=A.1 g' hg' c J d hdg'; omega
   ·have:=D c J; omega
theorem u9 (h:gX f keys (g::G)):gX f G.flatten G:=
 ⟨List.Perm.refl _,fun x hx=>h.some_ x (cR _ hx),(List.pairwise_cons.1 h.apart).2,fun x hx=>h.tight x (cR _ hx)⟩
theorem qt {k2:List Int} (h:gX f keys G) (p:keys.Perm k2):gX f k2 G:=⟨h.perm.trans p,h.some_,h.apart,h.tight⟩
theorem rI: ∀ {G G':List (List Int)} {keys:List Int},keys.Nodup→(∀ i∈keys,(f i).Lo≤(f i).Hi)→gX f keys G→gX f keys G'→AA G→AA G'→G=G'
 |[],[],keys,_,_,_,_,_,_=>rfl
 |[],g'::G',keys,_,_,h,h',_,_=>by
  exfalso
  have F:keys=[]:=List.Perm.eq_nil (by simpa using h.perm.symm)
  subst F
  have:=h'.perm.eq_nil
  simp at this
  exact h'.some_ g' cb this.1
 |g::G,[],keys,_,_,h,h',_,_=>by
  exfalso
  have F:keys=[]:=List.Perm.eq_nil (by simpa using h'.perm.symm)
  subst F
  have:=h.perm.eq_nil
  simp at this
  exact h.some_ g cb this.1
 |g::G,g'::G',keys,hn,hf,h,h',ha,ha'=>by
  have H:keys≠[]:=fun e=>by
   subst e
   have:=h.perm.eq_nil
   simp at this
   exact h.some_ g cb this.1
  obtain ⟨a,A,B⟩:=th (f:=f) H
  have D:=h.perm.nodup_iff.2 hn
  have E:=h'.perm.nodup_iff.2 hn
  rw [List.flatten_cons,List.nodup_append] at D E
  have Ar: ∀ b∈g,b∈keys:=fun b hb=>h.perm.mem_iff.1 (by rw [List.flatten_cons]; exact List.mem_append_left _ hb)
  have C: ∀ b∈g',b∈keys:=fun b hb=>h'.perm.mem_iff.1 (by rw [List.flatten_cons]; exact List.mem_append_left _ hb)
  have e:g=g':=by
   refine qV (ha g cb) (ha' g' cb) D.1 E.1 fun b=>?_
   constructor
   ·intro hb
    exact (q9 hf h' A B (Ar b hb)).2 ((q9 hf h A B (Ar b hb)).1 hb)
   ·intro hb
    exact (q9 hf h A B (C b hb)).2 ((q9 hf h' A B (C b hb)).1 hb)
  subst e
  have p:G.flatten.Perm G'.flatten:=by
   have:=h.perm.trans h'.perm.symm
   rw [List.flatten_cons,List.flatten_cons] at this
   exact (List.perm_append_left_iff g).1 this
  rw [rI (G:=G) (G':=G') D.2.1 (fun i hi=>hf i (h.perm.mem_iff.1 (by rw [List.flatten_cons]; exact List.mem_append_right _ hi))) (u9 h) (qt (u9 h') p.symm) (fun x hx=>ha x (cR _ hx)) (fun x hx=>ha' x (cR _ hx))]
/-- groups, each one put in order -/
theorem u7 (h:gX f keys G):gX f keys (G.map df)∧AA (G.map df):=by
 have hp: ∀ G:List (List Int),(G.map df).flatten.Perm G.flatten:=fun G=>by
  induction G with
  |nil=>simp
  |cons g G ih=>simp only [List.map_cons,List.flatten_cons]; exact fx.append ih
 have hm: ∀ {g:List Int} {x:Int},x∈df g↔x∈g:=fx.mem_iff
 refine ⟨⟨(hp G).trans h.perm,fun g hg=>?_,?_,fun g hg=>?_⟩,fun g hg=>?_⟩
 ·obtain ⟨y,hy,rfl⟩:=List.mem_map.1 hg
  intro e
  have:=(fx (l:=y)).symm
  rw [e] at this
  exact h.some_ y hy this.eq_nil
 ·rw [List.pairwise_map]
  exact h.apart.imp fun q a ha b hb=>q a (hm.1 ha) b (hm.1 hb)
 ·obtain ⟨y,hy,rfl⟩:=List.mem_map.1 hg
  rintro t ⟨a,ha,A⟩ ⟨b,hb,B⟩
  obtain ⟨c,hc,C⟩:=h.tight y hy t ⟨a,hm.1 ha,A⟩ ⟨b,hm.1 hb,B⟩
  exact ⟨c,hm.2 hc,C⟩
 ·obtain ⟨y,hy,rfl⟩:=List.mem_map.1 hg
  exact kW
end
/-- so far: groups, and the greatest of all -/
structure mx (f:Int→aa) (p:List Int) (G:List (List Int)) (last:Int):Prop where
 ok:gX f p G
 PF: ∀ a∈p,(f a).Hi≤last
 at_:p=[]∧last= -1∨ ∃ a∈p,(f a).Hi=last
section
variable {f:Int→aa} {p:List Int} {G:List (List Int)} {g:List Int} {x last:Int}
theorem Gj:mx f [] [] (-1):=⟨⟨sm,fun g hg=>(by cases hg),List.Pairwise.nil,fun g hg=>by cases hg⟩,fun a ha=>(by cases ha),.inl ⟨rfl,rfl⟩⟩
theorem Hx:E1 f [x]:=by
 rintro t ⟨a,ha,A⟩ ⟨b,hb,B⟩
 simp at ha hb; subst ha hb; omega
theorem qQ (h0: -1≤(f x).Hi) (h:mx f p G last):(∀ a∈p++[x],(f a).Hi≤max last (f x).Hi)∧((p++[x])=[]∧max last (f x).Hi= -1∨ ∃ a∈p++[x],(f a).Hi=max last (f x).Hi):=by
 refine ⟨fun a ha=>?_,.inr ?_⟩
 ·rcases List.mem_append.1 ha with ha|ha
  ·have:=h.PF a ha; omega
  ·rw [bS] at ha; subst ha; omega
 ·rcases Int.le_total last (f x).Hi with q|q
  ·exact ⟨x,sm,I⟩
  ·rcases h.at_ with ⟨rfl,e⟩|⟨a,ha,e⟩
   ·exact ⟨x,sm,I⟩
   ·exact ⟨a,List.mem_append_left _ ha,I⟩
theorem Nx (h0: -1≤(f x).Hi) (h:mx f p G last) (hl:last<(f x).Lo):mx f (p++[x]) (G++[[x]]) (max last (f x).Hi):=by
 have A: ∀ y∈G,∀ a∈y,a∈p:=fun y hy a ha=>h.ok.perm.mem_iff.1 (List.mem_flatten.2 ⟨y,hy,ha⟩)
 refine ⟨⟨?_,fun y hy=>?_,?_,fun y hy=>?_⟩,(qQ h0 h).1,(qQ h0 h).2⟩
 ·rw [List.flatten_append]
  exact h.ok.perm.append sm
 ·rcases List.mem_append.1 hy with hy|hy
  ·exact h.ok.some_ y hy
  ·rw [bS] at hy; subst hy; simp
 ·rw [List.pairwise_append]
  refine ⟨h.ok.apart,List.pairwise_singleton _ _,fun y hy z hz a ha b hb=>?_⟩
  rw [bS] at hz; subst hz
  rw [bS] at hb; subst hb
  have:=h.PF a (A y hy a ha); omega
 ·rcases List.mem_append.1 hy with hy|hy
  ·exact h.ok.tight y hy
  ·rw [bS] at hy; subst hy; exact Hx
theorem It (h0: -1≤(f x).Hi) (hf: ∀ i∈p,(f i).Lo≤(f i).Hi) (hx: ∀ a∈p,(f a).Lo≤(f x).Lo) (h:mx f p (G++[g]) last) (hl: ¬ last<(f x).Lo):mx f (p++[x]) (G++[g++[x]]) (max last (f x).Hi):=by
 have A: ∀ y∈G++[g],∀ a∈y,a∈p:=fun y hy a ha=>h.ok.perm.mem_iff.1 (List.mem_flatten.2 ⟨y,hy,ha⟩)
 have C:=List.pairwise_append.1 h.ok.apart
 have B:=h.ok.some_ g sm
 refine ⟨⟨?_,fun y hy=>?_,?_,fun y hy=>?_⟩,(qQ h0 h).1,(qQ h0 h).2⟩
 ·have:=h.ok.perm
  rw [List.flatten_append] at this ⊢
  simp only [List.flatten_cons,List.flatten_nil,List.append_nil] at this ⊢
  rw [← List.append_assoc]
  exact this.append_right _
 ·rcases List.mem_append.1 hy with hy|hy
  ·exact h.ok.some_ y (List.mem_append_left _ hy)
  ·rw [bS] at hy; subst hy; simp
 ·rw [List.pairwise_append]
  refine ⟨C.1,List.pairwise_singleton _ _,fun y hy z hz a ha b hb=>?_⟩
  rw [bS] at hz; subst hz
  rcases List.mem_append.1 hb with hb|hb
  ·exact C.2.2 y hy g sm a ha b hb
  ·rw [bS] at hb; subst hb
   obtain ⟨c,hc⟩:=List.exists_mem_of_ne_nil _ B
   have K:=C.2.2 y hy g sm a ha c hc
   have H:=hx c (A g sm c hc)
   omega
 ·rcases List.mem_append.1 hy with hy|hy
  ·exact h.ok.tight y (List.mem_append_left _ hy)
  ·rw [bS] at hy; subst hy
   rintro t ⟨a,ha,K⟩ ⟨b,hb,H⟩
   by_cases D: ∃ b∈g,t≤(f b).Lo
   ·obtain ⟨b',hb',L⟩:=D
    have AA:a∈g:=by
     rcases List.mem_append.1 ha with q|q
     ·exact q
     ·rw [bS] at q; subst q
      have:=hx b' (A g sm b' hb'); omega
    obtain ⟨c,hc,M⟩:=h.ok.tight g sm t ⟨a,AA,K⟩ ⟨b',hb',L⟩
    exact ⟨c,List.mem_append_left _ hc,M⟩
   ·have J: ∀ c∈g,(f c).Lo<t:=fun c hc=>by
     refine Classical.byContradiction fun q=>D ⟨c,hc,I⟩
    have N:t≤(f x).Lo:=by
     rcases List.mem_append.1 hb with q|q
     ·exact absurd ⟨b,q,H⟩ D
     ·rw [bS] at q; subst q; exact H
    rcases h.at_ with ⟨e,_⟩|⟨c,hc,e⟩
    ·exfalso
     obtain ⟨c,hc⟩:=List.exists_mem_of_ne_nil _ B
     have:=A g sm c hc
     rw [e] at this; cases this
    ·have E:c∈g:=by
      obtain ⟨y,hy,F⟩:=List.mem_flatten.1 (h.ok.perm.mem_iff.2 hc)
      rcases List.mem_append.1 hy with hy|hy
      ·exfalso
       obtain ⟨d,hd⟩:=List.exists_mem_of_ne_nil _ B
       have L:=C.2.2 y hy g sm c F d hd
       have M:=hf d (A g sm d hd)
       have O:=h.PF d (A g sm d hd)
       omega
      ·rw [bS] at hy; subst hy; exact F
     exact ⟨c,List.mem_append_left _ E,J c E,I⟩
theorem IZ (h:mx f p G last) (hp:p≠[]):G≠[]:=fun e=>by
 subst e
 exact hp (by simpa using h.ok.perm.symm.eq_nil)
end
end
section
open Go.RowKit
/-- a map, or nil -/
def oC (o:Option Nat):List Value:=[Value.map o]
theorem Az {α:Type}: ∀ {ms:List α} {asl:List Nat},ms.length=asl.length→List.zipWith gD ms asl=(asl.map some).map oC
 |[],[],_=>rfl
 |[],_::_,h=>by simp at h
 |_::_,[],h=>by simp at h
 |x::ms,y::asl,h=>by simp only [List.zipWith_cons_cons,List.map_cons,Az (ms:=ms) (asl:=asl) (by simpa using h)]; rfl
/-- what stands for all but one -/
def fp {M A:Type} (f:M→A→List aq) (ms:List M) (asl:List A) (k:Nat):List aq:=aV f (ms.take k) (asl.take k)++aV f (ms.drop (k+1)) (asl.drop (k+1))
theorem kS {M A:Type} {f:M→A→List aq}: ∀ {ms:List M} {asl:List A} {k:Nat} {m:M} {a:A},ms[k]? =some m→asl[k]? =some a→(aV f ms asl).Perm (f m a++fp f ms asl k)
 |[],_,k,m,a,h,_=>by simp at h
 |_::_,[],k,m,a,_,h=>by simp at h
 |x::ms,y::asl,0,m,a,h,h2=>by
  simp at h h2; subst h h2
  simp [fp,aV]
 |x::ms,y::asl,k+1,m,a,h,h2=>by
  have ih:=kS (f:=f) (ms:=ms) (asl:=asl) (k:=k) (by simpa using h) (by simpa using h2)
  show (f x y++aV f ms asl).Perm (f m a++fp f (x::ms) (y::asl) (k+1))
  have e:fp f (x::ms) (y::asl) (k+1)=f x y++fp f ms asl k:=by simp [fp,aV,List.append_assoc]
  rw [e]
  refine (ih.append_left (f x y)).trans ?_
  rw [← List.append_assoc,← List.append_assoc]
  exact List.perm_append_comm.append_right _
theorem HG {M A:Type} {f:M→A→List aq} {ms:List M} {asl:List A} {k:Nat} {m':M}:fp f (ms.set k m') asl k=fp f ms asl k:=by
 unfold fp
 rw [List.take_set_of_le (Nat.le_refl k),List.drop_set_of_lt (Nat.lt_succ_self k)]
theorem kT {S:BS} {w0 w:World} {C X Y:List aq} (hp:X.Perm Y) (h:St S w0 (bw X::C) w):St S w0 (bw Y::C) w:=by
 have A:St S w0 (X++C) w:=h.ig
 exact (A.perm (hp.append_right C)).tied
theorem St.out {M A:Type} {f:M→A→List aq} {S:BS} {w0 w:World} {C:List aq} {ms:List M} {asl:List A} {k:Nat} {m:M} {a:A} {X:aq} (hm:ms[k]? =some m) (ha:asl[k]? =some a) (hf:f m a=[X]) (h:St S w0 (bw (aV f ms asl)::C) w):St S w0 (X::bw (fp f ms asl k)::C) w:=by
 have B:=(kT (kS hm ha) h).ig
 rw [hf] at B
 have D:St S w0 (fp f ms asl k++(X::C)) w:=B.perm (List.perm_middle (a:=X) (l₁:=fp f ms asl k) (l₂:=C)).symm
 exact D.tied.perm (List.Perm.swap _ _ _)
theorem St.back {M A:Type} {f:M→A→List aq} {S:BS} {w0 w:World} {C:List aq} {ms:List M} {asl:List A} {k:Nat} {m':M} {a:A} {X:aq} (hk:k<ms.length) (ha:asl[k]? =some a) (hf:f m' a=[X]) (h:St S w0 (X::bw (fp f ms asl k)::C) w):St S w0 (bw (aV f (ms.set k m') asl)::C) w:=by
 have B:St S w0 (bw (fp f ms asl k)::X::C) w:=h.perm (List.Perm.swap _ _ _)
 have D:=B.ig
 have E:St S w0 ((f m' a++fp f (ms.set k m') asl k)++C) w:=by
  rw [hf,HG]
  exact D.perm (List.perm_middle (a:=X) (l₁:=fp f ms asl k) (l₂:=C))
 exact kT (kS (List.getElem?_set_self hk) ha).symm E.tied
section
variable {E:eY} {ops:Array Oper} {Q:cU} {rest:List Oper} {D:List Deferred} {L:List (Nat×Value)} {C C1:List aq}
variable {M A:Type} {f:M→A→List aq} {ms:List M} {asl:List A} {k:Nat} {m:M} {a:A} {X:aq}
theorem Gr {c:Code} (i:Nat) (hm:ms[k]? =some m) (ha:asl[k]? =some a) (hf:f m a=[X]) (hn:decide (i::(List.range C.length).filter fun k=>k != i).Nodup=true) (hC:kj C (i::(List.range C.length).filter fun k=>k != i)=bw (aV f ms asl)::C1)
 (h:WJ E c Q D L (X::bw (fp f ms asl k)::C1)):WJ E c Q D L C:=fun a w hf' hs=>h a w hf' (St.out hm ha hf (St.kj _ hn hC hs))
theorem Ld {K:Act→World→Prop} (i j:Nat) (hk:k<ms.length) (ha:asl[k]? =some a) (hf:f m a=[X]) (hn:decide (j::i::(List.range C.length).filter fun k=>k != i&&k != j).Nodup=true) (hC:kj C (j::i::(List.range C.length).filter fun k=>k != i&&k != j)=X::bw (fp f ms asl k)::C1)
 (h:KJ E K D L (bw (aV f (ms.set k m) asl)::C1)):KJ E K D L C:=fun a w hf' hs=>h a w hf' (St.back hk ha hf (St.kj _ hn hC hs))
end
end
section
open Go.RowKit
def lX (l:List Int) (a:RA):List Value:=[vS a.1 l.length a.2]
def AY (l:List Int) (a:RA):List aq:=[rd a.1 l.length 1 (l.map iC)]
def sE (l:List Int) (a:RA):List aq:=[own a.1 a.2 Rf 1 (l.map iC)]
theorem mO: ∀ (m:List Int) (a:RA) (w:World),(∀ X∈sE m a,X.holds w)→ ∀ X∈AY m a,X.holds w:=fun m a w h X hX=>by
 simp only [AY,bS] at hX
 subst hX
 have:=nx (h _ (List.mem_singleton.2 rfl))
 simpa using this
theorem I8 {l:List (List Int)} {bz:List RA}:(bw (aV sE l bz)).wr=true:=by
 show (aV sE l bz).all (·.wr)=true
 rw [eZ]
 intro X hX
 obtain ⟨k,m,a,_,_,h⟩:=jK hX
 simp only [sE,bS] at h
 subst h; rfl
theorem iA {ls:List (List Int)} {az:List RA} (h:az.length=ls.length):(List.zipWith lX ls az).length=ls.length:=by simp [h]
theorem NZ (l:List (List Int)) (az:List RA): ∀ v∈(List.zipWith lX l az).flatten,v.oneCell'=true:=by
 induction l generalizing az with
 |nil=>intro v hv; simp at hv
 |cons x l ih=>
  cases az with
  |nil=>intro v hv; simp at hv
  |cons a az=>
   intro v hv
   rw [List.zipWith_cons_cons,List.flatten_cons,kG] at hv
   rcases hv with hv|hv
   ·simp [lX] at hv; subst hv; rfl
   ·exact ih az v hv
section
variable {M A:Type} {f:M→A→List aq} {ms:List M} {asl:List A} {k:Nat} {m:M} {a:A} {X:aq}
theorem rU:fp f (ms.set k m) (asl.set k a) k=fp f ms asl k:=by
 unfold fp
 rw [List.take_set_of_le (Nat.le_refl k),List.drop_set_of_lt (Nat.lt_succ_self k),List.take_set_of_le (Nat.le_refl k),List.drop_set_of_lt (Nat.lt_succ_self k)]
theorem St.Rz {S:BS} {w0 w:World} {C:List aq} (hk:k<ms.length) (hk2:k<asl.length) (hf:f m a=[X]) (h:St S w0 (X::bw (fp f ms asl k)::C) w):St S w0 (bw (aV f (ms.set k m) (asl.set k a))::C) w:=by
 have A:St S w0 (bw (fp f ms asl k)::X::C) w:=h.perm (List.Perm.swap _ _ _)
 have B:=A.ig
 have D:St S w0 ((f m a++fp f (ms.set k m) (asl.set k a) k)++C) w:=by
  rw [hf,rU]
  exact B.perm (List.perm_middle (a:=X) (l₁:=fp f ms asl k) (l₂:=C))
 exact kT (kS (List.getElem?_set_self hk) (List.getElem?_set_self hk2)).symm D.tied
theorem qN {β:Type} {c:M→A→β}:(List.zipWith c ms asl).set k (c m a)=List.zipWith c (ms.set k m) (asl.set k a):=by
 apply List.ext_getElem?
 intro j
 rw [List.getElem?_set]
 by_cases e:k=j
 ·subst e
  rw [if_pos rfl,List.length_zipWith,List.getElem?_zipWith,List.getElem?_set,List.getElem?_set,if_pos rfl,if_pos rfl]
  by_cases B:k<ms.length
  ·by_cases C:k<asl.length
   ·rw [if_pos I,if_pos B,if_pos C]
   ·rw [if_neg I,if_pos B,if_neg C]
  ·rw [if_neg I,if_neg B]
 ·rw [if_neg e,List.getElem?_zipWith,List.getElem?_zipWith,List.getElem?_set_ne e,List.getElem?_set_ne e]
variable {E:eY} {ops:Array Oper} {Q:cU} {rest:List Oper} {D:List Deferred} {L:List (Nat×Value)} {C C1:List aq}
abbrev BH (C:List aq) (i j:Nat):List Nat:=j::i::(List.range C.length).filter fun k=>k != i&&k != j
abbrev HH (C:List aq) (i:Nat):List Nat:=i::(List.range C.length).filter fun k=>k != i
theorem Fh (i j:Nat) (hk:k<ms.length) (hk2:k<asl.length) (hf:f m a=[X]) (hn:decide (BH C i j).Nodup=true) (hC:lV C (BH C i j)=some (X::bw (fp f ms asl k)::C1))
 (h:RJ E ops Q rest D L (bw (aV f (ms.set k m) (asl.set k a))::C1)):RJ E ops Q rest D L C:=fun a w hf' hs=>h a w hf' (St.Rz hk hk2 hf (St.kj _ hn (jB hC) hs))
theorem DS {c:Code} (i:Nat) (hm:ms[k]? =some m) (ha:asl[k]? =some a) (hf:f m a=[X]) (hn:decide (HH C i).Nodup=true) (hC:lV C (HH C i)=some (bw (aV f ms asl)::C1))
 (h:WJ E c Q D L (X::bw (fp f ms asl k)::C1)):WJ E c Q D L C:=fun a w hf' hs=>h a w hf' (St.out hm ha hf (St.kj _ hn (jB hC) hs))
theorem Nw {K:Act→World→Prop} (i j:Nat) (hk:k<ms.length) (ha:asl[k]? =some a) (hf:f m a=[X]) (hn:decide (BH C i j).Nodup=true) (hC:lV C (BH C i j)=some (X::bw (fp f ms asl k)::C1))
 (h:KJ E K D L (bw (aV f (ms.set k m) asl)::C1)):KJ E K D L C:=fun a w hf' hs=>h a w hf' (St.back hk ha hf (St.kj _ hn (jB hC) hs))
theorem Qk {Y Y':List aq} (i j:Nat) (hn:decide (BH C i j).Nodup=true) (hC:lV C (BH C i j)=some (X::bw Y::C1)) (e:Y++[X]=Y') (h:RJ E ops Q rest D L (bw Y'::C1)):RJ E ops Q rest D L C:=fun a w hf hs=>h a w hf ((St.kj _ hn (jB hC) hs).tie e)
theorem IG {K:Act→World→Prop} {Y Y':List aq} (i j:Nat) (hn:decide (BH C i j).Nodup=true) (hC:lV C (BH C i j)=some (X::bw Y::C1)) (e:Y++[X]=Y') (h:KJ E K D L (bw Y'::C1)):KJ E K D L C:=fun a w hf hs=>h a w hf ((St.kj _ hn (jB hC) hs).tie e)
end
theorem DH {M A:Type} {f:M→A→List aq} {ms:List M} {asl:List A} {m:M} {a:A} {X:aq} (h:ms.length=asl.length) (hf:f m a=[X]):aV f ms asl++[X]=aV f (ms++[m]) (asl++[a]):=by
 rw [jG h]; simp [aV,hf]
theorem H4 {M A β:Type} {f:M→A→β} {ms:List M} {asl:List A} {m:M} {a:A} (h:ms.length=asl.length):List.zipWith f ms asl++List.zipWith f [m] [a]=List.zipWith f (ms++[m]) (asl++[a]):=(List.zipWith_append h).symm
theorem nz {r:bT} {k:Nat}:((eG r k).map (·.1)).Nodup:=by
 unfold eG
 rw [List.map_filterMap]
 refine List.Pairwise.filterMap _ ?_ (List.nodup_range (n:=r.aQ.length))
 intro a b A x hx y hy e
 subst e
 simp only [Option.map_map,Option.map_eq_some_iff,Function.comp] at hx hy
 obtain ⟨_,_,rfl⟩:=hx
 obtain ⟨_,_,h⟩:=hy
 exact A I
noncomputable def cd (r:bT):List (List Int):=if cK r=0 then Classical.epsilon (fun G=>gX (aA (aF r)) ((aF r).map (·.1)) G∧AA G) else []
theorem De {r:bT} (h: ¬ cK r=0):cd r=[]:=if_neg h
theorem qL {r:bT} {G:List (List Int)} (he:cK r=0) (h1:gX (aA (aF r)) ((aF r).map (·.1)) G) (h2:AA G):G=cd r:=by
 unfold cd
 rw [if_pos he]
 have A:=Classical.epsilon_spec (p:=fun G=>gX (aA (aF r)) ((aF r).map (·.1)) G∧AA G) ⟨G,h1,h2⟩
 exact rI nz (fun i hi=>(gJ (np he)).2.1) h1 A.1 h2 A.2
section
variable {f:Int→aa} {L:List Int} {G:List (List Int)} {g:List Int} {x last:Int} {i j:Nat}
theorem AI (h:mx f (L.take i) G last) (hg:g∈G):g.length≤L.length:=by
 have A:=h.ok.perm.length_eq
 have B:g.length≤G.flatten.length:=(List.sublist_flatten_of_mem hg).length_le
 rw [List.length_take] at A; omega
theorem FV (h:mx f (L.take i) G last):G.length≤L.length:=by
 have A:=h.ok.perm.length_eq
 have B: ∀ G:List (List Int),(∀ g∈G,g≠[])→G.length≤G.flatten.length:=fun G=>by
  induction G with
  |nil=>intro _; simp
  |cons g G ih=>
   intro hG
   have C:=ih fun y hy=>hG y (cR _ hy)
   have D:=List.length_pos_iff.2 (hG g cb)
   simp only [List.flatten_cons,List.length_cons,List.length_append]; omega
 have C:=B G h.ok.some_
 rw [List.length_take] at A; omega
theorem pA (h0: -1≤(f x).Hi) (hx:L[i]? =some x) (hg:(G++[[]])[(G++[([]:List Int)]).length-1]? =some g) (h:mx f (L.take i) G last) (hl:last<(f x).Lo):mx f (L.take (i+1)) ((G++[[]]).set ((G++[([]:List Int)]).length-1) (g++[x])) (max last (f x).Hi):=by
 have A:(G++[([]:List Int)]).length-1=G.length:=by simp
 rw [A] at hg ⊢
 simp at hg
 subst hg
 rw [jU hx]
 have B:(G++[([]:List Int)]).set G.length ([]++[x])=G++[[x]]:=by simp
 rw [B]
 exact Nx h0 h hl
theorem oy (h0: -1≤(f x).Hi) (hf: ∀ i∈L,(f i).Lo≤(f i).Hi) (hup:Ev (fun u=>(f u).Lo) L) (hx:L[i]? =some x) (hg:G[G.length-1]? =some g) (h:mx f (L.take i) G last) (hl: ¬ last<(f x).Lo):mx f (L.take (i+1)) (G.set (G.length-1) (g++[x])) (max last (f x).Hi):=by
 obtain ⟨A,F⟩:=List.getElem?_eq_some_iff.1 hg
 obtain ⟨G',y,rfl⟩: ∃ G' y,G=G'++[y]:=⟨G.dropLast,G.getLast (by intro e; subst e; simp at A),(List.dropLast_concat_getLast _).symm⟩
 have D:(G'++[y]).length-1=G'.length:=by simp
 simp only [D] at hg ⊢
 simp at hg
 subst hg
 have E:(G'++[y]).set G'.length (y++[x])=G'++[y++[x]]:=by simp
 rw [jU hx,E]
 refine It h0 (fun i hi=>hf i (List.mem_of_mem_take hi)) (fun a ha=>?_) h hl
 obtain ⟨C,B⟩:=List.getElem?_eq_some_iff.1 hx
 obtain ⟨q,hq,rfl⟩:=List.mem_iff_getElem.1 ha
 rw [List.length_take] at hq
 rw [List.getElem_take]
 have:=List.pairwise_iff_getElem.1 hup q i I C I
 rw [B] at this
 exact this
theorem F3 (hlo:0≤(f x).Lo) (h:mx f (L.take i) G last) (hl: ¬ last<(f x).Lo):1≤G.length:=by
 rcases h.at_ with ⟨_,e⟩|⟨a,ha,_⟩
 ·omega
 ·exact List.length_pos_iff.2 (IZ h (fun e=>by rw [e] at ha; cases ha))
/-- the first groups are in order -/
def nE (G:List (List Int)) (j:Nat):List (List Int):=(G.take j).map df++G.drop j
theorem DD (h:G.length≤j):nE G j=G.map df:=by unfold nE; rw [List.take_of_length_le h,List.drop_eq_nil_of_le h,List.append_nil]
theorem EH:(nE G j).length=G.length:=by unfold nE; rw [List.length_append,List.length_map,List.length_take,List.length_drop]; omega
theorem GS (h:G[j]? =some g):(nE G j)[j]? =some g:=by
 have hj:=(List.getElem?_eq_some_iff.1 h).1
 unfold nE
 rw [List.getElem?_append_right (by rw [List.length_map,List.length_take]; omega),List.length_map,List.length_take,Nat.min_eq_left I,Nat.sub_self,List.getElem?_drop]
 simpa using h
theorem Ed (h:G[j]? =some g):(nE G j).set j (df g)=nE G (j+1):=by
 have hj:=(List.getElem?_eq_some_iff.1 h).1
 unfold nE
 rw [List.set_append_right _ _ (by rw [List.length_map,List.length_take]; omega),List.length_map,List.length_take,Nat.min_eq_left I,Nat.sub_self,List.drop_eq_getElem_cons hj,List.set_cons_zero,List.take_add_one,h]
 simp
theorem Ki {gz:List RA}:List.zipWith lX (G.map df) gz=List.zipWith lX G gz:=by
 induction G generalizing gz with
 |nil=>rfl
 |cons g G ih=>
  cases gz with
  |nil=>rfl
  |cons a gz=>simp only [List.map_cons,List.zipWith_cons_cons,ih]; simp [lX]
end
end
section
open Go.RowKit
theorem Eh (l:List ar) (az:List RA): ∀ v∈(List.zipWith ar.cells l az).flatten,v.oneCell'=true:=by
 induction l generalizing az with
 |nil=>intro v hv; simp at hv
 |cons x l ih=>
  cases az with
  |nil=>intro v hv; simp at hv
  |cons a az=>
   intro v hv
   rw [List.zipWith_cons_cons,List.flatten_cons,kG] at hv
   rcases hv with hv|hv
   ·simp [ar.cells,dp.cells] at hv
    rcases hv with rfl|rfl<;>rfl
   ·exact ih az v hv
theorem g7 {l:List ar} {az:List RA} (h:az.length=l.length):(List.zipWith ar.cells l az).length=l.length:=by simp [h]
theorem gh {l:List ar} {bz:List RA}:(bw (aV ar.owns l bz)).wr=true:=by
 show (aV ar.owns l bz).all (·.wr)=true
 rw [eZ]
 intro X hX
 obtain ⟨k,m,a,_,_,h⟩:=jK hX
 simp only [ar.owns,bS] at h
 subst h; rfl
/-- what is known of new rows -/
def rJ (l:List ar) (bz:List RA):Prop:= ∀ (k:Nat) m (a:RA),l[k]? =some m→bz[k]? =some a→m.bo.length≤a.2
theorem JZ {l:List ar} {bz:List RA} {i:Nat} {x:ar} {nw:RA} (h:rJ l bz) (hb:bz.length=i) (hx:l[i]? =some x) (hc:x.bo.length≤nw.2):rJ l (bz++[nw]):=fun k m a hm ha=>by
 by_cases e:k<bz.length
 ·rw [List.getElem?_append_left e] at ha
  exact h k m a hm ha
 ·rw [List.getElem?_append_right I] at ha
  have hk:k-bz.length=0:=by
   rcases Nat.eq_zero_or_pos (k-bz.length) with A|A
   ·exact A
   ·rw [List.getElem?_eq_none (by simp; omega)] at ha; cases ha
  rw [hk] at ha
  simp at ha
  have:k=i:=by omega
  subst this
  rw [hx] at hm; cases hm
  subst ha; exact hc
theorem iW: ∀ (m:ar) (a:RA) (w:World),(∀ X∈ar.owns m a,X.holds w)→ ∀ X∈ar.g0 m a,X.holds w:=fun m a w h X hX=>by
 simp only [ar.g0,bS] at hX
 subst hX
 have:=nx (h _ (List.mem_singleton.2 rfl))
 simpa using this
theorem er.QI {l:a_} {az bz:List RA} (h:er l az) (hb:bz.length=l.ak.length) (hc:rJ l.ak bz):er l bz:=⟨h.sH,h.side,h.sI,hb,h.sG,fun k m a hm ha=>⟨hc k m a hm ha,by
 obtain ⟨A,B⟩: ∃ A,az[k]? =some A:=⟨az[k]'(by rw [h.oF]; exact (List.getElem?_eq_some_iff.1 hm).1),eC _⟩
 exact (h.Q9 k m A hm B).2⟩⟩
section
variable {E:eY} {ops:Array Oper} {Q:cU} {rest:List Oper} {D:List Deferred} {L:List (Nat×Value)} {C:List aq}
end
end
section
open Go.RowKit
def oD (m:ax) (a:RA):List aq:=[own a.1 a.2 Pj 2 (m.cr.ag.map aK.cells)]
def je (m:List ax) (a:cO):List aq:=own a.1.1 a.1.2 Dk 7 (List.zipWith ax.cells m a.2)::aV oD m a.2
theorem QT: ∀ (m:ax) (a:RA) (w:World),(∀ X∈oD m a,X.holds w)→ ∀ X∈ax.g0 m a,X.holds w:=fun m a w h X hX=>by
 simp only [ax.g0,bS] at hX
 subst hX
 have:=nx (h _ (List.mem_singleton.2 rfl))
 simpa using this
theorem p_ {m:List ax} {asl:List RA} (h:asl.length=m.length):(List.zipWith ax.cells m asl).length=m.length:=by simp [h]
theorem fg {m:List (List ax)} {asl:List cO} (h:asl.length=m.length):(List.zipWith cP m asl).length=m.length:=by simp [h]
theorem OG {m:List ax} {asl:List RA}:(aV oD m asl).all (·.wr)=true:=by
 rw [eZ]
 intro X hX
 obtain ⟨k,d,a,_,_,h⟩:=jK hX
 simp only [oD,bS] at h
 subst h; rfl
theorem kB {m:List (List ax)} {asl:List cO}:(bw (aV je m asl)).wr=true:=by
 show (aV je m asl).all (·.wr)=true
 rw [eZ]
 intro X hX
 obtain ⟨k,d,a,_,_,h⟩:=jK hX
 rcases List.mem_cons.1 h with rfl|h
 ·rfl
 ·exact List.all_eq_true.1 OG X h
theorem N8 (l:List ax) (az:List RA): ∀ v∈(List.zipWith ax.cells l az).flatten,v.oneCell'=true:=by
 induction l generalizing az with
 |nil=>intro v hv; simp at hv
 |cons x l ih=>
  cases az with
  |nil=>intro v hv; simp at hv
  |cons a az=>
   intro v hv
   rw [List.zipWith_cons_cons,List.flatten_cons,kG] at hv
   rcases hv with hv|hv
   ·simp [ax.cells,bk.cells,eB.cells,aa.cells] at hv
    rcases hv with rfl|rfl|rfl|rfl|rfl|rfl|rfl<;>rfl
   ·exact ih az v hv
theorem HT (l:List (List ax)) (az:List cO): ∀ v∈(List.zipWith cP l az).flatten,v.oneCell'=true:=by
 induction l generalizing az with
 |nil=>intro v hv; simp at hv
 |cons x l ih=>
  cases az with
  |nil=>intro v hv; simp at hv
  |cons a az=>
   intro v hv
   rw [List.zipWith_cons_cons,List.flatten_cons,kG] at hv
   rcases hv with hv|hv
   ·simp [cP] at hv; subst hv; rfl
   ·exact ih az v hv
/-- every heat has as many places as descents -/
def tM (H:List (List ax)) (hz:List cO):Prop:=hz.length=H.length∧ ∀ (k:Nat) h (a:cO),H[k]? =some h→hz[k]? =some a→a.2.length=h.length
theorem MR {a:OA} {c e sz n:Nat} {es:List (List Value)} {w:World} (h:(own a c e sz es).holds w) (hn:es.length=n):(rd a n sz es).holds w:=by subst hn; exact nx h
theorem hP {C:List aq} {H:List (List ax)} {hz:List cO} (i:Nat) (hC:C[i]? =some (bw (aV je H hz))) (hh:tM H hz):il C (eW (aV iu H hz)).holds:=fun w hw X hX=>by
 have hb:=hw _ (aR hC)
 obtain ⟨k,m,a,A,B,D⟩:=jK hX
 rcases List.mem_cons.1 D with rfl|D
 ·exact MR (hb.1 _ (bM A B cb)) (p_ (hh.2 k m a A B))
 ·obtain ⟨q,d,b,E,F,G⟩:=jK D
  exact QT d b w (fun Y hY=>hb.1 Y (bM A B (cR _ (bM E F hY)))) X G
section
variable {α:Type}
def kq (bz az:List α) (i:Nat):List α:=bz++az.drop i
variable {bz az:List α} {i:Nat} {a b:α}
theorem iB (hb:bz.length=i) (hi:i≤az.length):(kq bz az i).length=az.length:=by simp [kq,hb]; omega
theorem wS (h:az.length≤i):kq bz az i=bz:=by unfold kq; rw [List.drop_eq_nil_of_le h,List.append_nil]
theorem AD (hb:bz.length=i) (h:az[i]? =some a):(kq bz az i)[i]? =some a:=by
 unfold kq
 rw [List.getElem?_append_right I,hb,Nat.sub_self,List.getElem?_drop]
 simpa using h
theorem LH (hb:bz.length=i):(kq (bz++[b]) az (i+1))[i]? =some b:=by
 unfold kq
 rw [List.getElem?_append_left (by simp; omega),List.getElem?_append_right I,hb,Nat.sub_self]; rfl
theorem LR (hb:bz.length=i) (h:az[i]? =some a):(kq bz az i).set i b=kq (bz++[b]) az (i+1):=by
 unfold kq
 have hi:=(List.getElem?_eq_some_iff.1 h).1
 rw [List.set_append_right _ _ I,hb,Nat.sub_self,List.drop_eq_getElem_cons hi,List.set_cons_zero]
 simp
theorem xB {M β:Type} {c:M→α→β} {l:List M} {x:M} (hx:l[i]? =some x) (hb:bz.length=i) (h:az[i]? =some a):(List.zipWith c l (kq bz az i)).set i (c x b)=List.zipWith c l (kq (bz++[b]) az (i+1)):=by
 rw [qN,LR hb h]
 congr 1
 obtain ⟨hi,rfl⟩:=List.getElem?_eq_some_iff.1 hx
 exact List.set_getElem_self hi
theorem rZ {M:Type} {f:M→α→List aq} {l:List M} {x:M} (hx:l[i]? =some x) (hb:bz.length=i):aV f (l.take i) bz++f x b=aV f (l.take (i+1)) (bz++[b]):=by
 have hi:=(List.getElem?_eq_some_iff.1 hx).1
 rw [List.take_add_one,hx,Option.toList_some,jG (by rw [List.length_take,hb]; omega)]
 simp [aV]
end
theorem CZ: ∀ {l:List (List ax)} {u v:List cO},u.map (·.1)=v.map (·.1)→List.zipWith cP l u=List.zipWith cP l v
 |[],u,v,_=>by simp
 |x::l,[],[],_=>rfl
 |x::l,[],b::v,h=>by simp at h
 |x::l,a::u,[],h=>by simp at h
 |x::l,a::u,b::v,h=>by
  simp only [List.map_cons,List.cons.injEq] at h
  rw [List.zipWith_cons_cons,List.zipWith_cons_cons,CZ h.2]
  have e:cP x a=cP x b:=by simp only [cP,h.1]
  rw [e]
theorem Kg {l:List (List ax)} {hz ha:List cO} {p:RA} {x y:List RA} {i:Nat}:List.zipWith cP l (kq (hz++[(p,x)]) ha i)=List.zipWith cP l (kq (hz++[(p,y)]) ha i):=CZ (by simp [kq])
theorem Nu {H:List (List ax)} {hz:List cO} {i:Nat} {x:List ax} {b:cO} (hx:H[i]? =some x) (h: ∀ (k:Nat) y (a:cO),H[k]? =some y→hz[k]? =some a→a.2.length=y.length) (hb:hz.length=i) (hl:b.2.length=x.length): ∀ (k:Nat) y (a:cO),H[k]? =some y→(hz++[b])[k]? =some a→a.2.length=y.length:=fun k y a hy ha=>by
 by_cases e:k<hz.length
 ·rw [List.getElem?_append_left e] at ha
  exact h k y a hy ha
 ·rw [List.getElem?_append_right I] at ha
  have hk:k-hz.length=0:=by
   rcases Nat.eq_zero_or_pos (k-hz.length) with A|A
   ·exact A
   ·rw [List.getElem?_eq_none (by simp; omega)] at ha; cases ha
  rw [hk] at ha
  simp at ha
  have:k=i:=by omega
  subst this
  rw [hx] at hy; cases hy
  subst ha; exact hl
theorem Gc {S:BS} {w0 w:World} {C:List aq} {A:aq} {Y Z:List aq} (h:St S w0 (A::bw Y::bw Z::C) w):St S w0 (bw (Z++A::Y)::C) w:=by
 have D:St S w0 (bw Y::A::bw Z::C) w:=h.perm (List.Perm.swap _ _ _)
 have E:St S w0 (Y++(A::bw Z::C)) w:=D.ig
 have F:St S w0 (bw Z::(A::Y)++C) w:=E.perm (by
  have B:(Y++(A::bw Z::C)).Perm ((A::bw Z::C)++Y):=List.perm_append_comm
  refine B.trans ?_
  show (A::bw Z::(C++Y)).Perm (bw Z::A::(Y++C))
  exact (List.Perm.swap _ _ _).trans (((List.perm_append_comm (l₁:=C) (l₂:=Y)).cons A).cons _))
 have G:St S w0 (Z++((A::Y)++C)) w:=F.ig
 have H:St S w0 ((Z++A::Y)++C) w:=by simpa using G
 exact H.tied
theorem HD {S:BS} {w0 w:World} {C:List aq} {A:aq} {Y Z:List aq} (h:St S w0 (bw (A::Y++Z)::C) w):St S w0 (A::bw Y::bw Z::C) w:=by
 have D:St S w0 ((A::Y++Z)++C) w:=h.ig
 have E:St S w0 (Z++(A::(Y++C))) w:=D.perm (by
  show (A::(Y++Z)++C).Perm (Z++(A::(Y++C)))
  have B:(A::(Y++Z)++C).Perm (A::(Z++(Y++C))):=by
   show (A::((Y++Z)++C)).Perm _
   refine List.Perm.cons A ?_
   rw [← List.append_assoc]
   exact List.perm_append_comm.append_right C
  exact B.trans (List.perm_middle (a:=A) (l₁:=Z) (l₂:=Y++C)).symm)
 have F:=E.tied
 have G:St S w0 (Y++(A::bw Z::C)) w:=F.perm (by
  show (bw Z::A::(Y++C)).Perm (Y++(A::bw Z::C))
  have B:(Y++(A::bw Z::C)).Perm (A::bw Z::(Y++C)):=by
   have:=List.perm_append_comm (l₁:=Y) (l₂:=A::bw Z::C)
   refine this.trans ?_
   show (A::bw Z::(C++Y)).Perm _
   exact (List.perm_append_comm.cons _).cons _
  exact (B.trans (List.Perm.swap _ _ _)).symm)
 have H:=G.tied
 exact H.perm (List.Perm.swap _ _ _)
theorem w6 {H:List (List ax)} {hz:List cO} {k:Nat} {h:List ax} {a:cO} (hh:H[k]? =some h) (ha:hz[k]? =some a):(aV je H hz).Perm (own a.1.1 a.1.2 Dk 7 (List.zipWith ax.cells h a.2)::aV oD h a.2++fp je H hz k):=kS hh ha
theorem Qu {E:eY} {K:Act→World→Prop} {D:List Deferred} {L:List (Nat×Value)} {C:List aq} {a:OA} {c e sz:Nat} {es:List (List Value)} (i:Nat) (hC:C[i]? =some (own a c e sz es)) (k:es.length≤c→KJ E K D L C):KJ E K D L C:=fun act w hf hs=>k (F2 (hs.holds _ (aR hC))) act w hf hs
abbrev MO (C:List aq) (i j k:Nat):List Nat:=k::j::i::(List.range C.length).filter fun q=>q != i&&q != j&&q != k
section
variable {E:eY} {ops:Array Oper} {Q:cU} {rest:List Oper} {D:List Deferred} {L:List (Nat×Value)} {C C1:List aq} {K:Act→World→Prop}
variable {H:List (List ax)} {hz:List cO} {h h':List ax} {a a':cO} {k:Nat} {X:aq} {Y Z Z':List aq}
/-- i: the others, j: what hangs on the row, q: the row -/
theorem Qy (i j q:Nat) (hn:decide (MO C i j q).Nodup=true) (hC:lV C (MO C i j q)=some (X::bw Y::bw Z::C1)) (e:Z++X::Y=Z') (hk:KJ E K D L (bw Z'::C1)):KJ E K D L C:=fun a w hf hs=>by
 subst e; exact hk a w hf (Gc (St.kj _ hn (jB hC) hs))
theorem QU {c:Code} (i:Nat) (hh:H[k]? =some h) (ha:hz[k]? =some a) (hn:decide (HH C i).Nodup=true) (hC:lV C (HH C i)=some (bw (aV je H hz)::C1))
 (hk:WJ E c Q D L (own a.1.1 a.1.2 Dk 7 (List.zipWith ax.cells h a.2)::bw (aV oD h a.2)::bw (fp je H hz k)::C1)):WJ E c Q D L C:=fun act w hf hs=>
 hk act w hf (HD (kT (w6 hh ha) (St.kj _ hn (jB hC) hs)))
theorem Ip {S:BS} {w0 w:World} (hk:k<H.length) (hk2:k<hz.length) (hs:St S w0 (own a'.1.1 a'.1.2 Dk 7 (List.zipWith ax.cells h' a'.2)::bw (aV oD h' a'.2)::bw (fp je H hz k)::C) w):St S w0 (bw (aV je (H.set k h') (hz.set k a'))::C) w:=by
 have B:=Gc hs
 refine kT ?_ B
 have A:=w6 (H:=H.set k h') (hz:=hz.set k a') (List.getElem?_set_self hk) (List.getElem?_set_self hk2)
 rw [rU] at A
 exact (List.perm_append_comm).trans A.symm
end
theorem Hf {H:List (List ax)} {hz:List cO} {k:Nat} {h h':List ax} {a:cO} {bs:List RA} (hh:H[k]? =some h) (ha:hz[k]? =some a) (hl:h'.length=h.length):List.zipWith cP (H.set k h') (hz.set k (a.1,bs))=List.zipWith cP H hz:=by
 rw [← qN]
 have e:cP h' (a.1,bs)=cP h a:=by simp only [cP,hl]
 rw [e]
 have hz':=dy (f:=cP) hh ha
 obtain ⟨hi,A⟩:=List.getElem?_eq_some_iff.1 hz'
 rw [← A]
 exact List.set_getElem_self hi
theorem Oo {S:BS} {w0 w:World} {C:List aq} {h:List ax} {bs:List RA} {i:Nat} {d:ax} {b:RA} {d':ax} (hd:h[i]? =some d) (hb:bs[i]? =some b) (hs':d'.cr.ag=[]) (hs:St S w0 (bw (aV oD h bs)::C) w):St S w0 (bw (aV oD (h.set i d') (bs.set i (none,0)))::C) w:=by
 have A:=(kT (kS hd hb) hs).ig
 have B:St S w0 (fp oD h bs i++C) w:=St.take (by simpa using A) (List.sublist_append_right (oD d b) (fp oD h bs i++C))
 have D:=B.q6 Pj 2
 have E:St S w0 ((oD d' (none,0)++fp oD (h.set i d') (bs.set i (none,0)) i)++C) w:=by
  rw [rU]
  simpa [oD,hs'] using D
 exact kT (kS (List.getElem?_set_self (List.getElem?_eq_some_iff.1 hd).1) (List.getElem?_set_self (List.getElem?_eq_some_iff.1 hb).1)).symm E.tied
theorem e9.QI {r:bT} {az bz:List RA} {ha hz:List cO} (h:e9 r az ha) (hb:bz.length=r.ao.ak.length) (hc:rJ r.ao.ak bz) (hh:tM r.ay hz):e9 r bz hz:=⟨h.line.QI hb hc,h.iN,h.draw,h.iO,hh.1,fun k x a hx ha'=>by
 obtain ⟨A,C⟩: ∃ A,ha[k]? =some A:=⟨ha[k]'(by rw [h.has]; exact (List.getElem?_eq_some_iff.1 hx).1),eC _⟩
 have B:=h.o5 k x A hx C
 exact ⟨B.len,hh.2 k x a hx ha',B.sig⟩⟩
end
section
open Go.RowKit
def kK (t:aa):ax:=⟨false,true,t,⟨0,0,[]⟩⟩
def gP (H:List (List ax)) (h i:Int) (t:aa):List (List ax):=H.set h.toNat ((H[h.toNat]?.getD []).set i.toNat (kK t))
def jw (r:bT) (h i:Int) (t:aa):bT:=⟨r.ao,r.aQ,r.bQ,r.iK,gP r.ay h i t⟩
@[simp] theorem Q_ {r:bT} {h i:Int} {t:aa}:(jw r h i t).ao=r.ao:=rfl
@[simp] theorem QV {r:bT} {h i:Int} {t:aa}:(jw r h i t).aQ=r.aQ:=rfl
@[simp] theorem Ra {r:bT} {h i:Int} {t:aa}:(jw r h i t).bQ=r.bQ:=rfl
theorem wk {m:gV} {i:Int} {s:aa}:(c_ m i s).length≤m.length:=by
 unfold c_
 refine Nat.le_trans (List.length_filter_le _ _) ?_
 rw [List.length_map,List.length_range]; exact Nat.le_refl _
noncomputable def qm (r:bT) (h i:Int) (t:aa):Int:=if ((0≤h∧h≤(r.ay.length:Int)-1)∧rv r i)∧iJ t then (if ((r.ay[h.toNat]?).bind (·[i.toNat]?)).any (·.Out)=true then 8 else 0) else 2
noncomputable def gI (r:bT) (h i:Int) (t:aa):Int:=if cK r=0 then qm r h i t else cK r
noncomputable def eO (r:bT) (h i:Int) (t:aa):List Int:=if gI r h i t=0 then (df ((aF r).map (·.1))).filter (fun k=> !decide (c_ (aF r) k (aA (aF r) k)=c_ (aF (jw r h i t)) k (aA (aF (jw r h i t)) k))) else []
section
variable {r:bT} {h i:Int} {t:aa} {ht:List ax} {d:ax}
theorem vR {H:List (List ax)} (hh:H[h.toNat]? =some ht):gP H h i t=H.set h.toNat (ht.set i.toNat (kK t)):=by unfold gP; rw [hh]; rfl
theorem iU {H:List (List ax)}:(gP H h i t).length=H.length:=by unfold gP; rw [List.length_set]
theorem mD (q: ¬ (((0≤h∧h≤(r.ay.length:Int)-1)∧0≤i∧i≤(r.aQ.length:Int)-1)∧iJ t)):qm r h i t=2:=if_neg q
theorem Fi (q:((0≤h∧h≤(r.ay.length:Int)-1)∧0≤i∧i≤(r.aQ.length:Int)-1)∧iJ t) (h1:r.ay[h.toNat]? =some ht) (h2:ht[i.toNat]? =some d):qm r h i t=if d.Out=true then 8 else 0:=by
 unfold qm
 rw [if_pos (show ((0≤h∧h≤(r.ay.length:Int)-1)∧rv r i)∧iJ t from q),h1,Option.bind_some,h2,Option.any_some]
theorem sS (q:((0≤h∧h≤(r.ay.length:Int)-1)∧0≤i∧i≤(r.aQ.length:Int)-1)∧iJ t) (h1:r.ay[h.toNat]? =some ht) (h2:ht[i.toNat]? =some d) (ho:d.Out=true):qm r h i t=8:=by rw [Fi q h1 h2,if_pos ho]
theorem Nn (q:((0≤h∧h≤(r.ay.length:Int)-1)∧0≤i∧i≤(r.aQ.length:Int)-1)∧iJ t) (h1:r.ay[h.toNat]? =some ht) (h2:ht[i.toNat]? =some d) (ho:d.Out=false):qm r h i t=0:=by rw [Fi q h1 h2,if_neg (by rw [ho]; decide)]
/-- what it means that there is no error -/
theorem yS (e:qm r h i t=0):((0≤h∧h≤(r.ay.length:Int)-1)∧rv r i)∧iJ t∧((r.ay[h.toNat]?).bind (·[i.toNat]?)).any (·.Out)=false:=by
 unfold qm at e
 split at e
 ·rename_i q
  split at e
  ·cases e
  ·rename_i A; exact ⟨q.1,q.2,by simpa using A⟩
 ·cases e
theorem Dl (e:gI r h i t=0):cK r=0∧qm r h i t=0:=by
 unfold gI at e
 split at e
 ·exact ⟨asm,e⟩
 ·exact absurd e asm
theorem sw (e: ¬ cK r=0):gI r h i t=cK r:=if_neg e
theorem o3 (e:cK r=0):gI r h i t=qm r h i t:=if_pos e
theorem CV {H:List (List ax)} {k:Nat} {y:List ax} (hy:(gP H h i t)[k]? =some y): ∃ x,H[k]? =some x∧y.length=x.length∧ ∀ d∈y,d∈x∨d=kK t:=by
 unfold gP at hy
 rw [List.getElem?_set] at hy
 split at hy
 ·rename_i e
  split at hy
  ·rename_i hl
   have A:H[h.toNat]? =some H[h.toNat]:=eC hl
   rw [A] at hy
   simp only [Option.getD_some,Option.some.injEq] at hy
   subst hy
   refine ⟨H[h.toNat],by rw [← e]; exact A,by rw [List.length_set],fun d hd=>?_⟩
   exact List.mem_or_eq_of_mem_set hd
  ·cases hy
 ·exact ⟨y,hy,U,fun d hd=> .inl hd⟩
theorem E_ (hr:eP r) (ht:iJ t):eP (jw r h i t):=⟨hr.num,hr.xo,by
 have:=hr.nh
 show 1≤((gP r.ay h i t).length:Int)∧((gP r.ay h i t).length:Int)≤3
 rw [iU]; exact this,hr.ids,hr.draw,fun y hy=>by
 obtain ⟨k,hk⟩:=List.mem_iff_getElem?.1 hy
 obtain ⟨x,hx,hl,hm⟩:=CV hk
 have A:=hr.o5 x (aR hx)
 refine ⟨hl.trans A.1,fun d hd=>?_⟩
 rcases hm d hd with q|rfl
 ·exact A.2 d q
 ·unfold ib
  rw [if_neg (by simp [kK]),if_pos (by rfl)]
  exact ⟨ht,by simp [l8,kK]⟩⟩
theorem yX (e:gI r h i t=0):cK (jw r h i t)=0:=by
 obtain ⟨A,B⟩:=Dl e
 obtain ⟨C,D⟩:=iG A
 unfold cK
 rw [if_pos (show dq (jw r h i t).ao=0 from C),if_pos (E_ D (yS B).2.1)]
theorem e9.rep {az bz:List RA} {ha hz:List cO} (hin:e9 r az ha) (hb:bz.length=r.ao.ak.length) (hc:rJ r.ao.ak bz) (hh:tM (gP r.ay h i t) hz):e9 (jw r h i t) bz hz:=⟨hin.line.QI hb hc,hin.iN,hin.draw,by
 show (gP r.ay h i t).length≤1000000
 rw [iU]; exact hin.iO,hh.1,fun k y a hy ha'=>by
 obtain ⟨x,hx,hl,hm⟩:=CV hy
 obtain ⟨b,hb⟩: ∃ b,ha[k]? =some b:=⟨ha[k]'(by rw [hin.has]; exact (List.getElem?_eq_some_iff.1 hx).1),eC _⟩
 have A:=hin.o5 k x b hx hb
 refine ⟨by rw [hl]; exact A.len,hh.2 k y a hy ha',fun d hd=>?_⟩
 rcases hm d hd with q|rfl
 ·exact A.sig d q
 ·simp [kK]⟩
theorem Mb {H:List (List ax)} {k q:Nat}:((gP H h i t)[k]?).bind (·[q]?)=(H[k]?).bind (·[q]?)∨(k=h.toNat∧q=i.toNat∧(∃ d,(H[k]?).bind (·[q]?)=some d)∧((gP H h i t)[k]?).bind (·[q]?)=some (kK t)):=by
 by_cases e:h.toNat=k
 ·cases hk:H[k]? with
  |none=>
   left
   have:(gP H h i t)[k]? =none:=by rw [List.getElem?_eq_none_iff,iU]; exact List.getElem?_eq_none_iff.1 hk
   rw [this]
  |some x=>
   have B:(gP H h i t)[k]? =some (x.set i.toNat (kK t)):=by
    subst e
    rw [vR hk]
    exact List.getElem?_set_self (List.getElem?_eq_some_iff.1 hk).1
   rw [B,Option.bind_some,Option.bind_some]
   by_cases A:i.toNat=q
   ·cases hq:x[q]? with
    |none=>
     left
     rw [List.getElem?_eq_none_iff,List.length_set]; exact List.getElem?_eq_none_iff.1 hq
    |some d=>
     right
     subst A
     exact ⟨e.symm,U,⟨d,U⟩,List.getElem?_set_self (List.getElem?_eq_some_iff.1 hq).1⟩
   ·left; rw [List.getElem?_set_ne A]
 ·left
  unfold gP
  rw [List.getElem?_set_ne e]
theorem zK {l:a_} {H:List (List ax)} {q:Nat} (ho:((H[h.toNat]?).bind (·[i.toNat]?)).any (·.Out)=false): ∀ n,(fJ l (gP H h i t) q n).isSome=(fJ l H q n).isSome
 |0=>rfl
 |n+1=>by
  have ih:=zK (l:=l) (q:=q) ho n
  unfold fJ
  rcases Mb (H:=H) (h:=h) (i:=i) (t:=t) (k:=n) (q:=q) with e|⟨rfl,rfl,⟨d,hd⟩,e⟩
  ·rw [e]
   cases e1:fJ l (gP H h i t) q n<;>cases e2:fJ l H q n<;>simp_all
   cases (H[n]?).bind (·[q]?) with
   |none=>rfl
   |some d=>by_cases c:d.Out=true<;>simp [c]
  ·rw [e,hd]
   have A:d.Out=false:=by rw [hd] at ho; simpa using ho
   cases e1:fJ l (gP H h i t) i.toNat h.toNat<;>cases e2:fJ l H i.toNat h.toNat<;>simp_all [kK]
theorem Pm {r:bT} {k:Nat} {x:Int}:(eG r k).lookup x=if 0≤x∧x<(r.aQ.length:Int) then fJ r.ao r.ay x.toNat k else none:=by
 by_cases c:0≤x∧x<(r.aQ.length:Int)
 ·rw [if_pos c]
  have:=o7 (f:=fun q=>fJ r.ao r.ay q k) r.aQ.length x.toNat
  rw [if_pos I,show (x.toNat:Int)=x by omega] at this
  exact this
 ·rw [if_neg c]
  cases e:(eG r k).lookup x with
  |none=>rfl
  |some v=>
   exfalso
   obtain ⟨q,hq,A,_⟩:=uy ((w4 nz).2 e)
   simp only at A
   omega
theorem LG (e:qm r h i t=0) (k:Int):((aF (jw r h i t)).lookup k).isSome=((aF r).lookup k).isSome:=by
 obtain ⟨_,_,ho⟩:=yS e
 unfold aF
 rw [Pm,Pm]
 show (if 0≤k∧k<(r.aQ.length:Int) then fJ r.ao (gP r.ay h i t) k.toNat (gP r.ay h i t).length else none).isSome=_
 rw [iU]
 split
 ·exact zK ho _
 ·rfl
theorem Ct {m:gV} {k:Int} (h:k∈df (m.map (·.1))):m.lookup k≠none:=by
 obtain ⟨p,hp,rfl⟩:=List.mem_map.1 (fx.mem_iff.1 h)
 intro e
 exact absurd (List.lookup_eq_none_iff.1 e p hp) sm
theorem Qo {hz:List cO} {hza:cO} (hh:tM r.ay hz) (h1:r.ay[h.toNat]? =some ht) (h2:hz[h.toNat]? =some hza):tM (gP r.ay h i t) (hz.set h.toNat (hza.1,hza.2.set i.toNat (none,0))):=by
 refine ⟨by rw [List.length_set,iU]; exact hh.1,fun k y a hy ha=>?_⟩
 rw [vR h1] at hy
 rw [List.getElem?_set] at hy ha
 by_cases e:h.toNat=k
 ·rw [if_pos e,if_pos (List.getElem?_eq_some_iff.1 h1).1] at hy
  rw [if_pos e,if_pos (List.getElem?_eq_some_iff.1 h2).1] at ha
  cases hy; cases ha
  simp only [List.length_set]
  exact hh.2 _ _ _ h1 h2
 ·rw [if_neg e] at hy ha
  exact hh.2 k y a hy ha
theorem wI (e: ¬ gI r h i t=0):eO r h i t=[]:=if_neg e
theorem DK (e:gI r h i t=0):eO r h i t=(df ((aF r).map (·.1))).filter (fun k=> !decide (c_ (aF r) k (aA (aF r) k)=c_ (aF (jw r h i t)) k (aA (aF (jw r h i t)) k))):=if_pos e
end
section
variable {E:eY} {Q:cU} {D:List Deferred} {L:List (Nat×Value)} {C C1:List aq} {c:Code}
variable {H:List (List ax)} {hz:List cO} {h h':List ax} {a a':cO} {k:Nat} {bs:List RA} {i:Nat} {d d':ax} {b:RA}
theorem P5 (j:Nat) (hd:h[i]? =some d) (hb:bs[i]? =some b) (hs':d'.cr.ag=[]) (hn:decide (HH C j).Nodup=true) (hC:lV C (HH C j)=some (bw (aV oD h bs)::C1))
 (hk:WJ E c Q D L (bw (aV oD (h.set i d') (bs.set i (none,0)))::C1)):WJ E c Q D L C:=fun act w hf hs=>hk act w hf (Oo hd hb hs' (St.kj _ hn (jB hC) hs))
theorem Nd (i j q:Nat) (hk:k<H.length) (hk2:k<hz.length) (hn:decide (MO C i j q).Nodup=true) (hC:lV C (MO C i j q)=some (own a'.1.1 a'.1.2 Dk 7 (List.zipWith ax.cells h' a'.2)::bw (aV oD h' a'.2)::bw (fp je H hz k)::C1))
 (hr:WJ E c Q D L (bw (aV je (H.set k h') (hz.set k a'))::C1)):WJ E c Q D L C:=fun act w hf hs=>hr act w hf (Ip hk hk2 (St.kj _ hn (jB hC) hs))
end
end
section
set_option maxRecDepth 20000
def CN (x y:Int):ax:=kK ⟨x,y⟩
def aN:bT:=⟨mU,[4,7,9],[2,0,1],2,[[⟨false,false,dv,mI⟩,CN 2600 2600,CN 2580 2609],[CN 2555 2559,CN 2540 2549,CN 2570 2575]]⟩
theorem Av {l:a_} {x y:Int} (h:iJ ⟨x,y⟩):ib l (CN x y):=by rw [sX ⟨rfl,rfl⟩]; exact ⟨h,rfl,rfl,rfl⟩
theorem Qc:eP aN:=by
 refine ⟨dc,dc,dc,fun i x hx=>?_,dc,fun h hh=>?_⟩
 ·match i with
  |0=>simp [aN] at hx; subst hx; exact ⟨dc,fun y h=>absurd h dc⟩
  |1=>simp [aN] at hx; subst hx; exact ⟨dc,fun y _ h=>by simp [aN] at h; omega⟩
  |2=>simp [aN] at hx; subst hx; exact ⟨dc,fun y _ h=>by simp [aN] at h; omega⟩
  |n+3=>simp [aN] at hx
 ·simp only [aN,ed,List.not_mem_nil,or_false] at hh
  rcases hh with rfl|rfl
  ·refine ⟨U,fun d hd=>?_⟩
   simp only [ed,List.not_mem_nil,or_false] at hd
   rcases hd with rfl|rfl|rfl
   ·rw [sU ⟨rfl,rfl⟩]; exact ⟨El.1,rfl⟩
   ·exact Av dc
   ·exact Av dc
  ·refine ⟨U,fun d hd=>?_⟩
   simp only [ed,List.not_mem_nil,or_false] at hd
   rcases hd with rfl|rfl|rfl<;>exact Av dc
theorem qi:cK aN=0:=by unfold cK; rw [if_pos (show dq aN.ao=0 from Pe),if_pos Qc]
theorem Ph:mP aN 0 0=0∧hU aN 0 0=⟨2596,2602⟩:=by
 have h:mP aN 0 0=0:=by unfold mP; rw [if_pos qi]; decide
 refine ⟨h,?_⟩
 unfold hU
 rw [if_pos h]
 show dx mU ⟨false,false,dv,mI⟩=_
 rw [wa ⟨rfl,rfl⟩]; exact El.2
/-- the sums of a race of three sleds and two heats, all of which run -/
theorem Lm {l:a_} {ids dr:List Int} {t:Int} {H:List (List ax)} {a b c d e f:ax} (hH:H=[[a,b,c],[d,e,f]]) (hi:ids.length=3) (hoa: ∀ x∈[a,b,c,d,e,f],x.Out=false):
 aF ⟨l,ids,dr,t,H⟩=[(0,⟨(dx l a).Lo/10+(dx l d).Lo/10,(dx l a).Hi/10+(dx l d).Hi/10⟩),(1,⟨(dx l b).Lo/10+(dx l e).Lo/10,(dx l b).Hi/10+(dx l e).Hi/10⟩),(2,⟨(dx l c).Lo/10+(dx l f).Lo/10,(dx l c).Hi/10+(dx l f).Hi/10⟩)]∧
 eG ⟨l,ids,dr,t,H⟩ 1=[(0,⟨(dx l a).Lo/10,(dx l a).Hi/10⟩),(1,⟨(dx l b).Lo/10,(dx l b).Hi/10⟩),(2,⟨(dx l c).Lo/10,(dx l c).Hi/10⟩)]:=by
 subst hH
 simp only [ed,List.not_mem_nil,or_false,forall_eq_or_imp,forall_eq] at hoa
 obtain ⟨A,B,C,D,E,F⟩:=hoa
 simp [aF,eG,hi,List.range_succ,fJ,A,B,C,D,E,F]
def Oc:gV:=[(0,⟨514,515⟩),(1,⟨514,514⟩),(2,⟨515,517⟩)]
def Oy:gV:=[(0,⟨514,515⟩),(1,⟨514,514⟩),(2,⟨516,516⟩)]
def Sa:gV:=[(0,⟨259,260⟩),(1,⟨260,260⟩),(2,⟨258,260⟩)]
theorem zP:dx mU ⟨false,false,dv,mI⟩=⟨2596,2602⟩:=by rw [wa ⟨rfl,rfl⟩]; exact El.2
theorem pZ {l:a_} {x y:Int}:dx l (CN x y)=⟨x,y⟩:=Ag ⟨rfl,rfl⟩
theorem u_:aF aN=Oc∧eG aN 1=Sa:=by
 obtain ⟨A,B⟩:=Lm (l:=mU) (ids:=[4,7,9]) (dr:=[2,0,1]) (t:=2) (H:=aN.ay) rfl rfl dc
 refine ⟨A.trans ?_,B.trans ?_⟩
 ·rw [zP,pZ,pZ,pZ,pZ,pZ]; rfl
 ·rw [zP,pZ,pZ]; rfl
def k8:bT:=jw aN 0 2 ⟨2590,2599⟩
theorem B_:gI aN 0 2 ⟨2590,2599⟩=0:=by unfold gI; rw [if_pos qi]; unfold qm; decide
theorem xr:cK k8=0:=yX B_
theorem IL:aF k8=Oy:=by
 obtain ⟨A,B⟩:=Lm (l:=mU) (ids:=[4,7,9]) (dr:=[2,0,1]) (t:=2) (H:=k8.ay) (a:=⟨false,false,dv,mI⟩) (b:=CN 2600 2600) (c:=CN 2590 2599) (d:=CN 2555 2559) (e:=CN 2540 2549) (f:=CN 2570 2575) rfl rfl dc
 refine A.trans ?_
 rw [zP,pZ,pZ,pZ,pZ,pZ]; rfl
/-- ranks, as they can be reckoned -/
def D2 (m:gV) (i:Int) (own:aa):List Int:=((List.range m.length).map fun (k:Nat)=>(k:Int)+1).filter fun k=>(jE m i own).any fun n=>decide ((gG m i n:Int)+1≤k∧k≤(jr m i n:Int)+1)
theorem Ga {m:gV} {i:Int} {own:aa}:c_ m i own=D2 m i own:=by
 unfold c_ D2
 congr 1
 funext k
 rw [Bool.eq_iff_iff,decide_eq_true_eq,List.any_eq_true]
 simp only [decide_eq_true_eq,rY]
theorem z5 {r:bT} {m:gV} {i:Int} {s:aa} (he:cK r=0) (hm:aF r=m) (hi:rv r i) (hl:m.lookup i=some s):jS r i=0∧pD r i=s∧gL r i=D2 m i s:=by
 have h:jS r i=0:=by unfold jS; rw [if_pos he,if_pos hi,hm,hl]; rfl
 refine ⟨h,?_,?_⟩
 ·unfold pD aA; rw [if_pos h,hm,hl]; rfl
 ·unfold gL aA; rw [if_pos h,hm,hl,Ga]; rfl
theorem Ff {r:bT} {m:gV} {a b:Int} {s t:aa} (he:cK r=0) (hm:aF r=m) (hi:rv r a∧rv r b∧a≠b) (hs:m.lookup a=some s) (ht:m.lookup b=some t):mq r a b=0∧oB r a b=vJ s t∧pU r a b=qC s t:=by
 have h:mq r a b=0:=by unfold mq; rw [if_pos he,if_pos hi,hm,hs,ht]; simp
 refine ⟨h,?_,?_⟩
 ·unfold oB aA; rw [if_pos h,hm,hs,ht]; rfl
 ·unfold pU aA; rw [if_pos h,hm,hs,ht]; rfl
theorem mj:jS aN 0=0∧pD aN 0=⟨514,515⟩∧gL aN 0=[1,2]:=by have h:=z5 (i:=0) (s:=⟨514,515⟩) qi u_.1 dc rfl; exact ⟨h.1,h.2.1,h.2.2.trans dc⟩
theorem Dj:jS aN 2=0∧pD aN 2=⟨515,517⟩∧gL aN 2=[2,3]:=by have h:=z5 (i:=2) (s:=⟨515,517⟩) qi u_.1 dc rfl; exact ⟨h.1,h.2.1,h.2.2.trans dc⟩
theorem Lq:jS k8 2=0∧pD k8 2=⟨516,516⟩:=by have h:=z5 (i:=2) (s:=⟨516,516⟩) xr IL dc rfl; exact ⟨h.1,h.2.1⟩
theorem Af:mq aN 1 2=0∧oB aN 1 2=2∧pU aN 1 2=0:=by have h:=Ff (a:=1) (b:=2) (s:=⟨514,514⟩) (t:=⟨515,517⟩) qi u_.1 dc rfl rfl; exact ⟨h.1,h.2.1.trans dc,h.2.2.trans dc⟩
theorem As:mq aN 0 1=0∧oB aN 0 1=0∧pU aN 0 1=1:=by have h:=Ff (a:=0) (b:=1) (s:=⟨514,515⟩) (t:=⟨514,514⟩) qi u_.1 dc rfl rfl; exact ⟨h.1,h.2.1.trans dc,h.2.2.trans dc⟩
theorem Kc:iI aN 1=0∧g5 aN 1=[0,2,1]:=by
 have h:iI aN 1=0:=by unfold iI; rw [if_pos qi]; decide
 refine ⟨h,?_⟩
 unfold g5
 rw [if_pos h,if_neg dc]
 unfold uo
 rw [show eG aN (1:Int).toNat=Sa from u_.2]
 decide
theorem KV:iI aN 2=0∧g5 aN 2=[0,1,2]:=by
 have h:iI aN 2=0:=by unfold iI; rw [if_pos qi]; decide
 refine ⟨h,?_⟩
 unfold g5
 rw [if_pos h,if_neg dc]
 unfold uo
 rw [show eG aN (2:Int).toNat=Oc from u_.1]
 decide
theorem Nv:cd aN=[[0,1,2]]:=by
 refine (qL qi ?_ ?_).symm
 ·rw [u_.1]
  refine ⟨dc,dc,sm,fun g hg t A B=>?_⟩
  rw [List.mem_singleton.1 hg] at A B ⊢
  simp [Oc,aA,List.lookup] at A B ⊢
  omega
 ·intro g hg; rw [List.mem_singleton.1 hg]; decide
theorem KQ:cd k8=[[0,1],[2]]:=by
 refine (qL xr ?_ ?_).symm
 ·rw [IL]
  refine ⟨dc,dc,?_,fun g hg t A B=>?_⟩
  ·simp [KA,Oy,aA,List.lookup]
  ·simp only [ed,List.not_mem_nil,or_false] at hg
   rcases hg with rfl|rfl<;>(simp [Oy,aA,List.lookup] at A B ⊢; omega)
 ·intro g hg; simp only [ed,List.not_mem_nil,or_false] at hg; rcases hg with rfl|rfl<;>decide
theorem MP:eO aN 0 2 ⟨2590,2599⟩=[2]:=by
 unfold eO
 rw [if_pos B_,u_.1,show aF (jw aN 0 2 ⟨2590,2599⟩)=Oy from IL]
 simp only [Ga]
 rw [show df (Oc.map (·.1))=[0,1,2] from vf (n:=3) dc]
 decide
end
section
open Go.RowKit
section
variable {E:eY} {ops:Array Oper} {Q:cU} {rest:List Oper} {D:List Deferred} {L:List (Nat×Value)} {C C1:List aq}
end
theorem Bn {C:List aq}: ∀ {a b:List Nat} {X Y:List aq},lV C a=some X→lV C b=some Y→lV C (a++b)=some (X++Y)
 |[],b,X,Y,h,h2=>by cases h; exact h2
 |i::a,b,X,Y,h,h2=>by
  unfold lV at h
  split at h
  ·rename_i A hA
   split at h
   ·rename_i l hl
    cases h
    have ih:=Bn hl h2
    show (match C[i]? with
     |some A=>match lV C (a++b) with
      |some l=>some (A::l)
      |none=>none
     |none=>none)=_
    rw [hA,ih]; rfl
   ·cases h
  ·cases h
theorem ur {E:eY} {ops:Array Oper} {Q:cU} {rest:List Oper} {D:List Deferred} {L:List (Nat×Value)} {C C1:List aq} (X:List aq) (i1 i2:List Nat) (h1:lV C i1=some X) (h2:lV C i2=some C1) (h:RJ E ops Q rest D L (bw X::C1)) (hn:decide (i1++i2).Nodup=true:=by rfl):RJ E ops Q rest D L C:=fun a w hf hs=>h a w hf (St.tied (St.kj _ hn (jB (Bn h1 h2)) hs))
theorem qF {E:eY} {ops:Array Oper} {Q:cU} {rest:List Oper} {D:List Deferred} {L:List (Nat×Value)} {C C1:List aq} (ix:List Nat) (hn:decide ix.Nodup=true) (hC:lV C ix=some C1) (h:RJ E ops Q rest D L C1):RJ E ops Q rest D L C:=fun a w hf hs=>h a w hf (St.kj _ hn (jB hC) hs)
theorem oZ {M A B:Type} {f:M→A→List B} {n:Nat} (h: ∀ m a,(f m a).length=n): ∀ {ms:List M} {asl:List A},∀ x∈List.zipWith f ms asl,x.length=n
 |[],asl,x,hx=>by simp at hx
 |m::ms,[],x,hx=>by simp at hx
 |m::ms,a::asl,x,hx=>by
  rw [List.zipWith_cons_cons] at hx
  rcases List.mem_cons.1 hx with rfl|hx
  ·exact h m a
  ·exact oZ h x hx
theorem FD (m:ax) (a:RA):(ax.cells m a).length=7:=rfl
theorem KO (m:List ax) (a:cO):(cP m a).length=1:=rfl
theorem Jq (m:List Int) (a:RA):(lX m a).length=1:=rfl
def Re:List ax:=[⟨false,false,dv,mI⟩,CN 2600 2600,CN 2580 2609]
def Te:List ax:=[CN 2555 2559,CN 2540 2549,CN 2570 2575]
theorem Jo {p q s t u v x y:RA}:tM aN.ay [(p,[s,t,u]),(q,[v,x,y])]:=⟨rfl,fun k h a hk ha=>by
 match k with
 |0=>simp [aN] at hk ha; subst hk; subst ha; rfl
 |1=>simp [aN] at hk ha; subst hk; subst ha; rfl
 |n+2=>simp at ha⟩
theorem QQ {bz:List RA} {hz:List cO} (h:er mU bz) (hh:tM aN.ay hz):e9 aN bz hz:=⟨h,dc,dc,dc,hh.1,fun k x a hx ha=>by
 have hm:=aR hx
 have hs:=hh.2 k x a hx ha
 simp only [aN,ed,List.not_mem_nil,or_false] at hm
 rcases hm with rfl|rfl
 ·exact ⟨dc,hs,dc⟩
 ·exact ⟨dc,hs,dc⟩⟩
end
section
open Go.RowKit
def pW (b:Bool):List Value:=[.bool b]
@[simp] theorem AP (b:Bool):(pW b).length=1:=rfl
theorem HN (l:List Bool): ∀ v∈(l.map pW).flatten,v.oneCell'=true:=ml (fun s=>rfl) l
end
section
def lL (r:bT) (i:Nat):Prop:= ∀ (j:Nat) x,j<i→r.ay[j]? =some x→ ¬ o4 x
def m0 (x:List ax) (i:Nat):Prop:= ∀ (j:Nat) d,j<i→x[j]? =some d→ ¬ 15<(d.cr.ag.length:Int)
section
variable {r:bT} {i:Nat} {x:List ax} {d:ax}
theorem Dh:lL r 0:=fun j x hj=>absurd hj (Nat.not_lt_zero _)
theorem CB (h:lL r i) (hx:r.ay[i]? =some x) (ho: ¬ o4 x):lL r (i+1):=fun j y hj hy=>by
 rcases Nat.lt_or_ge j i with q|q
 ·exact h j y q hy
 ·obtain rfl:j=i:=by omega
  rw [hx] at hy; cases hy; exact ho
theorem Cs:m0 x 0:=fun j x hj=>absurd hj (Nat.not_lt_zero _)
theorem Cj (h:m0 x i) (hx:x[i]? =some d) (ho: ¬ 15<(d.cr.ag.length:Int)):m0 x (i+1):=fun j y hj hy=>by
 rcases Nat.lt_or_ge j i with q|q
 ·exact h j y q hy
 ·obtain rfl:j=i:=by omega
  rw [hx] at hy; cases hy; exact ho
theorem E7 (hl: ¬ 8<(x.length:Int)) (h:m0 x i) (hi:x.length≤i): ¬ o4 x:=by
 rintro (q|⟨d,hd,q⟩)
 ·exact hl q
 ·obtain ⟨j,hj⟩:=List.getElem?_of_mem hd
  exact h j d (by have:=(List.getElem?_eq_some_iff.1 hj).1; omega) hj q
theorem GD (h1: ¬ mH r.ao) (h2: ¬ 8<(r.aQ.length:Int)∧ ¬ 8<(r.bQ.length:Int)∧ ¬ 5<(r.ay.length:Int)) (h:lL r i) (hi:r.ay.length≤i): ¬ ox r:=by
 rintro ((q|q)|⟨x,hx,q⟩)
 ·exact h1 q
 ·omega
 ·obtain ⟨j,hj⟩:=List.getElem?_of_mem hx
  exact h j x (by have:=(List.getElem?_eq_some_iff.1 hj).1; omega) hj q
theorem pJ (h:mH r.ao∨8<(r.aQ.length:Int)∨8<(r.bQ.length:Int)∨5<(r.ay.length:Int)):ox r:= .inl h
theorem BL (hx:r.ay[i]? =some x) (h:8<(x.length:Int)):ox r:= .inr ⟨x,aR hx,.inl h⟩
theorem DR {j:Nat} (hx:r.ay[i]? =some x) (hd:x[j]? =some d) (h:15<(d.cr.ag.length:Int)):ox r:= .inr ⟨x,aR hx,.inr ⟨d,aR hd,h⟩⟩
end
noncomputable def oW (l:a_) (d:ax):aa:=if d.Out=true then dv else dx l d
theorem Mm {l:a_} {d:ax} (h:ib l d):oW l d=dx l d:=by
 unfold oW
 split
 ·rename_i q
  rw [FQ q]
  rw [qE q] at h
  exact h.2.1.symm
 ·rfl
theorem AF {l:a_} {d:ax} (h:d.Out=true):oW l d=dv:=if_pos h
theorem Fv {l:a_} {d:ax} (h:d.Out=false∧d.eH=true):oW l d=d.Time:=by unfold oW; rw [if_neg (by rw [h.1]; decide),Ag h]
theorem Gp {l:a_} {d:ax} (h:d.Out=false∧d.eH=false):oW l d=AU l d.cr:=by unfold oW; rw [if_neg (by rw [h.1]; decide),wa h]
def RS (r:bT) (j:Nat):Prop:= ∀ x,r.aQ[j]? =some x→(0≤x∧x≤9999)∧ ∀ y,0<j→r.aQ[j-1]? =some y→y<x
def JA (r:bT) (j:Nat):Prop:= ∀ x,r.bQ[j]? =some x→(0≤x∧x≤(r.aQ.length:Int)-1)∧ ∀ (k:Nat) y,k<j→r.bQ[k]? =some y→y≠x
def xG (r:bT) (i:Nat):Prop:= ∀ j,j<i→RS r j∧JA r j
section
variable {r:bT} {i k:Nat} {x:Int}
theorem L5:xG r 0:=fun j hj=>absurd hj (Nat.not_lt_zero _)
theorem B8 (h:xG r i) (h1:RS r i) (h2:JA r i):xG r (i+1):=fun j hj=>by
 rcases Nat.lt_or_ge j i with q|q
 ·exact h j q
 ·obtain rfl:j=i:=by omega
  exact ⟨h1,h2⟩
theorem xu {l:List Int} {u v:Int} (h: ∀ (q:Nat) y,q<k→l[q]? =some y→y≠v) (hx:l[k]? =some u) (hne: ¬ u=v): ∀ (q:Nat) y,q<k+1→l[q]? =some y→y≠v:=fun q y hq hy=>by
 rcases Nat.lt_or_ge q k with c|c
 ·exact h q y c hy
 ·obtain rfl:q=k:=by omega
  rw [hx] at hy; cases hy; exact hne
theorem JY (hl:r.bQ.length=r.aQ.length) (h:xG r r.aQ.length):r.bQ.Perm (H9 r.aQ.length):=by
 have nd:r.bQ.Nodup:=by
  rw [List.nodup_iff_pairwise_ne,n_]
  intro a b ha hb A
  exact ((h b I).2 _ (eC hb)).2 a _ A (eC ha)
 have hm: ∀ x∈r.bQ,x∈H9 r.aQ.length:=fun x hx=>by
  obtain ⟨j,hj⟩:=List.getElem?_of_mem hx
  have:=((h j (by have:=(List.getElem?_eq_some_iff.1 hj).1; omega)).2 x hj).1
  exact List.mem_map.2 ⟨x.toNat,List.mem_range.2 I,I⟩
 have ndu:(H9 r.aQ.length).Nodup:=by
  unfold H9
  rw [List.nodup_iff_pairwise_ne,List.pairwise_map]
  exact List.pairwise_lt_range.imp fun h=>by omega
 have e:df r.bQ=(H9 r.aQ.length).filter fun x=>decide (x∈r.bQ):=by
  refine qV kW ((wx _).filter _) (fx.nodup_iff.2 nd) (ndu.filter _) fun x=>?_
  rw [fx.mem_iff,List.mem_filter,decide_eq_true_eq]
  exact ⟨fun q=>⟨hm x q,q⟩,fun q=>q.2⟩
 have B:=congrArg List.length e
 rw [gf,hl] at B
 have C:(H9 r.aQ.length).filter (fun x=>decide (x∈r.bQ))=H9 r.aQ.length:=List.filter_sublist.eq_of_length (by rw [← B]; simp)
 rw [C] at e
 rw [← e]; exact fx.symm
theorem Hv {n:Nat} (h1:1≤(r.aQ.length:Int)∧(r.aQ.length:Int)≤5) (h2:r.bQ.length=r.aQ.length) (h3:0≤r.iK∧r.iK≤5) (h4:1≤(r.ay.length:Int)∧(r.ay.length:Int)≤3)
 (hn:n=r.aQ.length) (h6:xG r n) (h7:j6 r i) (hi:r.ay.length≤i):eP r:=by
 subst hn
 refine ⟨h1,h3,h4,fun k x hx=>(h6 k (List.getElem?_eq_some_iff.1 hx).1).1 x hx,JY h2 h6,fun h hh=>?_⟩
 obtain ⟨j,hj⟩:=List.getElem?_of_mem hh
 exact h7 j h (by have:=(List.getElem?_eq_some_iff.1 hj).1; omega) hj
theorem eP.KW (h:eP r) (hx:r.bQ[i]? =some x):0≤x∧x≤(r.aQ.length:Int)-1:=by
 obtain ⟨k,hk,rfl⟩:=List.mem_map.1 (h.draw.mem_iff.1 (aR hx))
 have:=List.mem_range.1 hk
 omega
theorem eP.PU (h:eP r):r.bQ.Nodup:=by
 refine h.draw.nodup_iff.2 ?_
 rw [List.nodup_iff_pairwise_ne,List.pairwise_map]
 exact List.pairwise_lt_range.imp fun h=>by omega
theorem eP.P3 (h:eP r) {u v:Int} (hki:k<i) (hu:r.bQ[k]? =some u) (hv:r.bQ[i]? =some v): ¬ u=v:=by
 have A:=h.PU
 rw [List.nodup_iff_pairwise_ne,n_] at A
 obtain ⟨a,ea⟩:=List.getElem?_eq_some_iff.1 hu
 obtain ⟨b,eb⟩:=List.getElem?_eq_some_iff.1 hv
 subst ea eb
 exact A k i a b hki
end
section
variable {r:bT} {i k n:Nat} {s:aa} {l:a_} {hs:List (List ax)}
end
section
variable {r:bT} {i x:Int} {own s:aa} {k:Nat} {ys zs:List Int}
end
section
variable {B:List Bool} {P Q:Int→Prop} {k x:Nat} {m:gV} {i y a b:Int} {ys:List Int}
end
theorem DA {r:bT} {i:Int}:(gL r i).length≤r.aQ.length:=by
 unfold gL
 split
 ·unfold c_
  refine Nat.le_trans (List.length_filter_le _ _) ?_
  rw [List.length_map,List.length_range]
  exact uG
 ·simp
end
section
theorem Eb {α:Type} {P Q:α→Bool}: ∀ {m:List α} {x:α},(∀ p∈m,P p=true→Q p=true)→x∈m→Q x=true→P x=false→m.countP P+1≤m.countP Q
 |[],x,h,hx,_,_=>by cases hx
 |y::m,x,h,hx,hq,hp=>by
  have hy:=h y cb
  have hm:=fun p q=>h p (cR _ q)
  rw [List.countP_cons,List.countP_cons]
  rcases List.mem_cons.1 hx with rfl|hx
  ·rw [if_pos hq,if_neg (by rw [hp]; decide)]
   have:=List.countP_mono_left (l:=m) (p:=P) (q:=Q) hm
   omega
  ·have:=Eb hm hx hq hp
   split
   ·rw [if_pos (hy asm)]; omega
   ·split<;>omega
theorem sM: ∀ {m:gV} {a:Int} {s:aa},m.lookup a=some s→(a,s)∈m
 |[],a,s,h=>by cases h
 |(b,u)::m,a,s,h=>by
  by_cases e:a=b
  ·subst e
   simp [List.lookup] at h; subst h; exact cb
  ·have:(a==b)=false:=by simpa using e
   simp only [List.lookup,this] at h
   exact cR _ (sM h)
theorem Ax: ∀ {m:gV} {a:Int} {s:aa},(m.map (·.1)).Nodup→(a,s)∈m→m.lookup a=some s
 |[],a,s,_,h=>by cases h
 |(b,u)::m,a,s,hn,h=>by
  rw [List.map_cons,List.nodup_cons] at hn
  rcases List.mem_cons.1 h with e|h
  ·cases e; simp [List.lookup]
  ·have e:a≠b:=fun e=>hn.1 (by rw [← e]; exact List.mem_map_of_mem (f:=(·.1)) h)
   have:(a==b)=false:=by simpa using e
   simp only [List.lookup,this]
   exact Ax hn.2 h
/-- sums, each of another sled -/
structure kH (m:gV):Prop where
 nd:(m.map (·.1)).Nodup
 le: ∀ p∈m,p.2.Lo≤p.2.Hi
theorem F4 {r:bT} (h:cK r=0):kH (aF r):=⟨nz,fun p hp=>(np h p hp).2.1⟩
section
variable {m:gV} {a b i n:Int} {s t own:aa}
theorem kH.at (h:kH m) (hs:m.lookup a=some s):s.Lo≤s.Hi:=h.le _ (sM hs)
theorem kH.one (h:kH m) (hs:m.lookup a=some s) {p:Int×aa} (hp:p∈m) (e:p.1=a):p.2=s:=by
 obtain ⟨x,y⟩:=p
 cases e
 have:=Ax h.nd hp
 rw [hs] at this; cases this; rfl
theorem kH.sm (h:kH m):gG m i n≤jr m i n:=by
 rw [kZ,nD]
 refine List.countP_mono_left fun p hp q=>?_
 have:=h.le p hp
 simp only [cH,decide_eq_true_eq] at q ⊢
 exact ⟨I,q.2⟩
theorem Db:(c_ m i own).Pairwise (· < ·):=by
 unfold c_
 refine List.Pairwise.filter _ ?_
 rw [List.pairwise_map]
 exact List.pairwise_lt_range.imp fun h=>by omega
theorem Cz (h:kH m) (hs:m.lookup i=some s):(gG m i s.Lo:Int)+1∈c_ m i s:=by
 have A:=h.at hs
 have B:=h.sm (i:=i) (n:=s.Lo)
 exact (re (by rw [hs]; simp)).2 ((qK A).2 ⟨s.Lo,Int.le_refl _,A,Int.le_refl _,I⟩)
theorem DN (h:kH m) (hs:m.lookup i=some s):(jr m i s.Hi:Int)+1∈c_ m i s:=by
 have A:=h.at hs
 have B:=h.sm (i:=i) (n:=s.Hi)
 exact (re (by rw [hs]; simp)).2 ((qK A).2 ⟨s.Hi,A,Int.le_refl _,I,Int.le_refl _⟩)
theorem Cl (h:kH m) (hs:m.lookup i=some s) {x:Int} (hx:x∈c_ m i s):(gG m i s.Lo:Int)+1≤x∧x≤(jr m i s.Hi:Int)+1:=by
 obtain ⟨y,A,B,C,D⟩:=(qK (h.at hs)).1 ((re (by rw [hs]; simp)).1 hx)
 have:=Ia (m:=m) (i:=i) A
 have:=LB (m:=m) (i:=i) B
 omega
theorem Iz {l:List Int} {x y:Int} (h:l.Pairwise (· < ·)) (hx:l[0]? =some x) (hy:y∈l):x≤y:=by
 cases l with
 |nil=>cases hy
 |cons z l=>
  simp at hx; subst hx
  rcases List.mem_cons.1 hy with rfl|hy
  ·exact Int.le_refl _
  ·exact Int.le_of_lt ((List.pairwise_cons.1 h).1 y hy)
theorem Na {l:List Int} {x y:Int} (h:l.Pairwise (· < ·)) (hx:l[l.length-1]? =some x) (hy:y∈l):y≤x:=by
 obtain ⟨k,hk,rfl⟩:=List.mem_iff_getElem.1 hy
 obtain ⟨hl,rfl⟩:=List.getElem?_eq_some_iff.1 hx
 rcases Nat.lt_or_ge k (l.length-1) with c|c
 ·exact Int.le_of_lt (List.pairwise_iff_getElem.1 h k (l.length-1) hk hl c)
 ·have:k=l.length-1:=by omega
  subst this; exact Int.le_refl _
theorem wD (h:kH m) (hs:m.lookup i=some s) {x:Int} (hx:(c_ m i s)[0]? =some x):x=(gG m i s.Lo:Int)+1:=by
 have A:=Iz Db hx (Cz h hs)
 have B:=(Cl h hs (aR hx)).1
 omega
theorem zH (h:kH m) (hs:m.lookup i=some s) {x:Int} (hx:(c_ m i s)[(c_ m i s).length-1]? =some x):x=(jr m i s.Hi:Int)+1:=by
 have A:=Na Db hx (DN h hs)
 have B:=(Cl h hs (aR hx)).2
 omega
/-- who is surely before has a lesser rank, at the least and at the most -/
theorem CF (h:kH m) (hs:m.lookup a=some s) (ht:m.lookup b=some t) (hab:a≠b) (hl:s.Hi<t.Lo):gG m a s.Lo+1≤gG m b t.Lo∧jr m a s.Hi+1≤jr m b t.Hi:=by
 have A:=h.at hs
 have B:=h.at ht
 constructor
 ·rw [kZ,kZ]
  refine Eb (x:=(a,s)) (fun p hp q=>?_) (sM hs) ?_ ?_
  ·simp only [cH,decide_eq_true_eq,Bool.not_eq_true',decide_eq_false_iff_not] at q ⊢
   exact ⟨I,fun e=>by have:=h.one ht hp e; rw [this] at q; omega⟩
  ·simp only [cH,decide_eq_true_eq,Bool.not_eq_true',decide_eq_false_iff_not]; exact ⟨hl,hab⟩
  ·simp
 ·rw [nD,nD]
  refine Eb (x:=(a,s)) (fun p hp q=>?_) (sM hs) ?_ ?_
  ·simp only [cH,decide_eq_true_eq,Bool.not_eq_true',decide_eq_false_iff_not] at q ⊢
   exact ⟨I,fun e=>by have:=h.one ht hp e; rw [this] at q; omega⟩
  ·simp only [cH,decide_eq_true_eq,Bool.not_eq_true',decide_eq_false_iff_not]; exact ⟨I,hab⟩
  ·simp
/-- who is surely tied has the same ranks -/
theorem G4 (h:kH m) (hs:m.lookup a=some s) (ht:m.lookup b=some s) (he:s.Lo=s.Hi):c_ m a s=c_ m b s:=by
 have C:gG m a s.Lo=gG m b s.Lo:=by
  rw [kZ,kZ]
  apply List.countP_congr
  intro p hp
  simp only [cH,decide_eq_true_eq,Bool.not_eq_true',decide_eq_false_iff_not]
  exact ⟨fun q=>⟨q.1,fun e=>by have:=h.one ht hp e; rw [this] at q; omega⟩,fun q=>⟨q.1,fun e=>by have:=h.one hs hp e; rw [this] at q; omega⟩⟩
 have D:jr m a s.Lo=jr m b s.Lo:=by
  rw [nD,nD]
  apply List.countP_congr
  intro p hp
  simp only [cH,decide_eq_true_eq,Bool.not_eq_true',decide_eq_false_iff_not]
  exact ⟨fun q=>⟨q.1,fun e=>by have:=h.one ht hp e; rw [this] at q; omega⟩,fun q=>⟨q.1,fun e=>by have:=h.one hs hp e; rw [this] at q; omega⟩⟩
 unfold c_
 congr 1
 funext k
 rw [SV,qK (h.at hs),qK (h.at hs)]
 constructor<;>rintro ⟨x,A,B,E,F⟩<;>(have:x=s.Lo:=by omega)<;>subst this<;>exact ⟨s.Lo,A,B,I,I⟩
end
section
variable {r:bT} {a b i:Int} {s t:aa}
/-- what is known of two sleds that have sums -/
structure Fz (r:bT) (a b:Int) (s t:aa):Prop where
 ne:a≠b
 yj:kH (aF r)
 sa:(aF r).lookup a=some s
 sb:(aF r).lookup b=some t
 ea:jS r a=0
 eb:jS r b=0
 va:pD r a=s
 vb:pD r b=t
 ra:gL r a=c_ (aF r) a s
 rb:gL r b=c_ (aF r) b t
 Vv:oB r a b=vJ s t
 Ij:oB r b a=vJ t s
 tied:pU r a b=qC s t
theorem Ns (he:cK r=0) (hi:rv r i) (hl:(aF r).lookup i=some s):jS r i=0∧pD r i=s∧gL r i=c_ (aF r) i s:=by
 have h:jS r i=0:=by unfold jS; rw [if_pos he,if_pos hi,hl]; rfl
 have A:aA (aF r) i=s:=by unfold aA; rw [hl]; rfl
 exact ⟨h,by unfold pD; rw [if_pos h,A],by rw [zr h,A]⟩
theorem Fz.tie (h:Fz r a b s t) (e:pU r a b=2):s=t∧s.Lo=s.Hi∧gL r a=gL r b∧oB r a b=0∧oB r b a=0:=by
 rw [h.tied] at e
 unfold qC at e
 split at e
 ·rename_i q
  obtain ⟨rfl,q⟩:=q
  have hb:vJ s s=0:=by unfold vJ; rw [if_neg I,if_neg I]
  exact ⟨U,q,by rw [h.ra,h.rb,G4 h.yj h.sa h.sb q],h.Vv.trans hb,h.Ij.trans hb⟩
 ·split at e<;>cases e
theorem Fz.before (h:Fz r a b s t) (e:oB r a b=2):oB r b a=0∧pU r a b=0∧(∀ x y,(gL r a)[0]? =some x→(gL r b)[0]? =some y→x<y)∧ ∀ x y,(gL r a)[(gL r a).length-1]? =some x→(gL r b)[(gL r b).length-1]? =some y→x<y:=by
 have A:=h.yj.at h.sa
 have B:=h.yj.at h.sb
 rw [h.Vv] at e
 have hl:s.Hi<t.Lo:=by
  unfold vJ at e
  split at e
  ·assumption
  ·split at e<;>cases e
 have hc:=CF h.yj h.sa h.sb h.ne hl
 refine ⟨h.Ij.trans (by unfold vJ; rw [if_neg I,if_neg I]),h.tied.trans (by unfold qC; rw [if_neg fun q=>by have:=q.1; subst this; omega,if_neg I]),fun x y hx hy=>?_,fun x y hx hy=>?_⟩
 ·rw [h.ra] at hx; rw [h.rb] at hy
  have:=wD h.yj h.sa hx
  have:=wD h.yj h.sb hy
  omega
 ·rw [h.ra] at hx; rw [h.rb] at hy
  have:=zH h.yj h.sa hx
  have:=zH h.yj h.sb hy
  omega
end
end
section
section
variable {r:bT} {h i:Nat} {ht:List ax} {d:ax} {bl:List Int} {n:Int} {out:Bool}
structure LF (r:bT) (h i:Nat) (d:ax):Prop where
 off:d.Out=true→mP r ↑h ↑i=6
 on:d.Out=false→mP r ↑h ↑i=0∧hU r ↑h ↑i=dx r.ao d
 b:0≤(hU r ↑h ↑i).Lo∧(hU r ↑h ↑i).Lo≤(hU r ↑h ↑i).Hi∧(hU r ↑h ↑i).Hi≤86400000
 at_:(r.ay[h]?).bind (·[i]?)=some d
theorem LF.same (q:LF r h i d):d.Out=decide (mP r ↑h ↑i=6):=by
 cases ho:d.Out with
 |true=>rw [q.off ho]; rfl
 |false=>rw [(q.on ho).1]; rfl
end
/-- the sums of the first sleds -/
noncomputable def jP (r:bT) (i:Nat):gV:=(List.range i).filterMap fun q=>(fJ r.ao r.ay q r.ay.length).map fun s=>((q:Int),s)
section
variable {r:bT} {i:Nat} {k:Int}
theorem vm:jP r (i+1)=jP r i++((fJ r.ao r.ay i r.ay.length).map fun s=>((i:Int),s)).toList:=by
 unfold jP
 rw [List.range_succ,List.filterMap_append]
 cases h:fJ r.ao r.ay i r.ay.length<;>simp [h]
theorem Er:(jP r i).lookup (i:Int)=none:=by
 rw [g4]
 intro p hp e
 unfold jP at hp
 obtain ⟨q,hq,A⟩:=List.mem_filterMap.1 hp
 obtain ⟨s,_,rfl⟩:=Option.map_eq_some_iff.1 A
 have:=List.mem_range.1 hq
 simp only at e; omega
theorem B1 (hi:i<r.aQ.length):(aF r).lookup (i:Int)=fJ r.ao r.ay i r.ay.length:=by unfold aF; rw [C6,if_pos hi]
theorem BA (he:cK r=0) (hi:rv r k):(jS r k=0∧((aF r).lookup k).isSome=true)∨(jS r k=6∧((aF r).lookup k).isSome=false):=by
 cases h:((aF r).lookup k).isSome with
 |true=>exact .inl ⟨Gd he hi h,rfl⟩
 |false=>exact .inr ⟨zk he hi h,rfl⟩
theorem CR (he:cK r=0) (hi:i<r.aQ.length) (h:jS r (i:Int)=0):dL (jP r i) (i:Int) (pD r (i:Int))=jP r (i+1):=by
 obtain ⟨_,A,hl⟩:=uP h
 obtain ⟨s,hs⟩:=Option.ne_none_iff_exists'.1 hl
 have e:fJ r.ao r.ay i r.ay.length=some s:=(B1 hi).symm.trans hs
 have hv:=(Ns he A hs).2.1
 rw [vm,e,hv]
 unfold dL; rw [Er]; rfl
theorem yE (he:cK r=0) (hi:i<r.aQ.length) (h: ¬ jS r (i:Int)=0):jP r i=jP r (i+1):=by
 have A:rv r (i:Int):=by unfold rv; omega
 rcases BA he A with ⟨C,_⟩|⟨_,B⟩
 ·exact absurd C h
 ·rw [B1 hi] at B
  rw [vm,Option.isSome_eq_false_iff.1 B |> Option.isNone_iff_eq_none.1]
  simp
end
end
section
open Go.RowKit
section
variable {r:bT} {h i:Int} {t:aa} {k:Nat}
end
/-- there is a table -/
theorem sY {r:bT} (he:cK r=0): ∃ G,gX (aA (aF r)) ((aF r).map (·.1)) G∧AA G:=by
 have key: ∀ (L:List Int),Ev (fun u=>(aA (aF r) u).Lo) L→ ∀ i,i≤L.length→ ∃ G last,mx (aA (aF r)) (L.take i) G last:=fun L B i=>by
  induction i with
  |zero=>intro _; exact ⟨[],-1,Gj⟩
  |succ i ih=>
   intro hi
   obtain ⟨G,last,hG⟩:=ih I
   have hx:L[i]? =some (L[i]'I):=eC _
   have C:=gJ (i:=L[i]'I) (np he)
   by_cases hl:last<(aA (aF r) (L[i]'I)).Lo
   ·obtain ⟨g,hg⟩: ∃ g,(G++[[]])[(G++[([]:List Int)]).length-1]? =some g:=⟨_,eC sm⟩
    exact ⟨_,_,pA I hx hg hG hl⟩
   ·have hp:=F3 C.1 hG hl
    obtain ⟨g,hg⟩: ∃ g,G[G.length-1]? =some g:=⟨_,eC I⟩
    exact ⟨_,_,oy I (fun u _=>(gJ (i:=u) (np he)).2.1) B hx hg hG hl⟩
 obtain ⟨G,last,hG⟩:=key (ep (fun u=>(aA (aF r) u).Lo) ((aF r).map (·.1))) ui _ (Nat.le_refl _)
 have A:=u7 hG.ok
 rw [List.take_length] at A
 exact ⟨_,qt A.1 qx,A.2⟩
theorem qf {r:bT}:(cd r).length≤1000000∧ ∀ l∈cd r,l.length≤1000000:=by
 by_cases he:cK r=0
 ·have E:(aF r).length≤5:=mA he
  have A: ∃ G,gX (aA (aF r)) ((aF r).map (·.1)) G∧AA G:=by
   refine Classical.byContradiction fun hn=>?_
   exact hn (sY he)
  obtain ⟨G,hG,hA⟩:=A
  rw [← qL he hG hA]
  have C:=hG.perm.length_eq
  rw [List.length_map] at C
  have B: ∀ G:List (List Int),(∀ g∈G,g≠[])→G.length≤G.flatten.length:=fun G=>by
   induction G with
   |nil=>intro _; simp
   |cons g G ih=>
    intro hG
    have B:=ih fun y hy=>hG y (cR _ hy)
    have D:=List.length_pos_iff.2 (hG g cb)
    simp only [List.flatten_cons,List.length_cons,List.length_append]; omega
  refine ⟨by have:=B G hG.some_; omega,fun l hl=>?_⟩
  have D:l.length≤G.flatten.length:=(List.sublist_flatten_of_mem hl).length_le
  omega
 ·rw [De he]; simp
theorem BD {r:bT} {h i:Int} {t:aa}:(eO r h i t).length≤r.aQ.length:=by
 unfold eO
 split
 ·refine Nat.le_trans (List.length_filter_le _ _) ?_
  rw [gf,List.length_map]
  exact uG
 ·simp
end
section
theorem zJ {s:Nat}: ∀ {n:Nat},(∀ x,x<n→s/2^x % 2=0)→s % 2^n=0
 |0,_=>by simp [Nat.mod_one]
 |n+1,h=>by rw [Nat.mod_pow_succ,zJ (n:=n) fun x hx=>h x I,h n I]; rfl
theorem zt {s:Nat}: ∀ {n:Nat},(∀ x,x<n→s/2^x % 2=1)→s % 2^n+1=2^n
 |0,_=>by simp [Nat.mod_one]
 |n+1,h=>by
  have A:=zt (s:=s) (n:=n) fun x hx=>h x I
  rw [Nat.mod_pow_succ,h n I,Nat.pow_succ]; omega
theorem MI {s n:Nat} (h0:1≤s) (h:s<2^n): ∃ x,x<n∧s/2^x % 2=1:=by
 refine Classical.byContradiction fun q=>?_
 have:=zJ (s:=s) (n:=n) fun x hx=>by
  rcases Nat.mod_two_eq_zero_or_one (s/2^x) with c|c
  ·exact c
  ·exact absurd ⟨x,hx,c⟩ q
 rw [Nat.mod_eq_of_lt h] at this; omega
theorem I6 {s n:Nat} (h:s+1<2^n): ∃ x,x<n∧s/2^x % 2=0:=by
 refine Classical.byContradiction fun q=>?_
 have:=zt (s:=s) (n:=n) fun x hx=>by
  rcases Nat.mod_two_eq_zero_or_one (s/2^x) with c|c
  ·exact absurd ⟨x,hx,c⟩ q
  ·exact c
 rw [Nat.mod_eq_of_lt I] at this; omega
section
variable {f:Int→aa} {g:List Int}
/-- whatever some of a group are, they are not all surely before all others of it -/
theorem EW (ht:E1 f g) (hle: ∀ i∈g,(f i).Lo≤(f i).Hi) {s:Nat} (h0:1≤s) (h1:s+1<2^g.length)
 (h: ∀ (x y:Nat) i k,g[x]? =some i→g[y]? =some k→s/2^x % 2=1→s/2^y % 2=0→(f i).Hi<(f k).Lo):False:=by
 obtain ⟨x,hx,A⟩:=MI h0 (show s<2^g.length by omega)
 obtain ⟨y,hy,B⟩:=I6 h1
 have hB: ∀ k,k∈((List.range g.length).filter fun y=>decide (s/2^y % 2=0)).filterMap (fun y=>g[y]?)↔ ∃ y,g[y]? =some k∧s/2^y % 2=0:=fun k=>by
  rw [List.mem_filterMap]
  constructor
  ·rintro ⟨y,hy,e⟩; exact ⟨y,e,of_decide_eq_true (List.mem_filter.1 hy).2⟩
  ·rintro ⟨y,e,q⟩; exact ⟨y,List.mem_filter.2 ⟨List.mem_range.2 (List.getElem?_eq_some_iff.1 e).1,fH q⟩,e⟩
 obtain ⟨b,hb,hm⟩:=th (f:=f) (g:=((List.range g.length).filter fun y=>decide (s/2^y % 2=0)).filterMap (fun y=>g[y]?)) fun e=>by
  have:=(hB g[y]).2 ⟨y,eC hy,B⟩
  rw [e] at this; cases this
 obtain ⟨yb,eb,qb⟩:=(hB b).1 hb
 have hA: ∀ (z:Nat) i,g[z]? =some i→s/2^z % 2=1→(f i).Hi<(f b).Lo:=fun z i ez qz=>h z yb i b ez eb qz qb
 have ha:=hA x g[x] (eC hx) A
 have C:=hle g[x] (List.getElem_mem hx)
 obtain ⟨c,hc,D,E⟩:=ht (f b).Lo ⟨g[x],List.getElem_mem hx,I⟩ ⟨b,aR eb,Int.le_refl _⟩
 obtain ⟨z,hz,rfl⟩:=List.mem_iff_getElem.1 hc
 rcases Nat.mod_two_eq_zero_or_one (s/2^z) with q|q
 ·have:=hm _ ((hB g[z]).2 ⟨z,eC hz,q⟩); omega
 ·have:=hA z g[z] (eC hz) q; omega
end
def my (pre:List Int):List (Int×Bool):=pre.map fun k=>(k,true)
section
variable {pre:List Int} {k:Int}
theorem Fj (h:k ∉ pre):(my pre).lookup k=none:=g4.2 fun p hp e=>by
 obtain ⟨x,hx,rfl⟩:=List.mem_map.1 hp
 exact h (by rw [← e]; exact hx)
theorem Bi (h:k ∉ pre):dL (my pre) k true=my (pre++[k]):=by
 unfold dL
 rw [Fj h]
 simp [my]
end
structure lv (r:bT) (G:List (List Int)):Prop where
 ok:gX (aA (aF r)) ((aF r).map (·.1)) G
 VK:AA G
 nd:G.flatten.Nodup
section
variable {r:bT} {G:List (List Int)} {g h:List Int} {a b x:Nat} {i k:Int}
theorem lv.nodup (ht:lv r G) (hg:G[a]? =some g):g.Nodup:=by
 have A:=ht.nd
 unfold List.Nodup at A
 rw [List.pairwise_flatten] at A
 exact A.1 g (aR hg)
theorem lv.runs (ht:lv r G) (hg:G[a]? =some g) (hi:g[x]? =some i): ∃ s,(aF r).lookup i=some s:=by
 have A:i∈G.flatten:=List.mem_flatten.2 ⟨g,aR hg,aR hi⟩
 obtain ⟨p,hp,rfl⟩:=List.mem_map.1 (ht.ok.perm.mem_iff.1 A)
 exact ⟨p.2,Ax nz hp⟩
/-- each is greater than the one ahead of it in its group -/
theorem lv.up (ht:lv r G) (hg:G[a]? =some g) (hi:g[x]? =some i) (hx:0<x) (hk:g[x-1]? =some k):k<i:=by
 have C:=ht.VK g (aR hg)
 have B:=ht.nodup hg
 obtain ⟨hl,rfl⟩:=List.getElem?_eq_some_iff.1 hi
 obtain ⟨A,rfl⟩:=List.getElem?_eq_some_iff.1 hk
 have D:=List.pairwise_iff_getElem.1 C (x-1) x A hl I
 unfold List.Nodup at B
 have E:=List.pairwise_iff_getElem.1 B (x-1) x A hl I
 omega
/-- who is looked at was not seen -/
theorem lv.new (ht:lv r G) (hg:G[a]? =some g) (hi:g[x]? =some i):i ∉ (G.take a).flatten++g.take x:=by
 intro hm
 obtain ⟨hl,rfl⟩:=List.getElem?_eq_some_iff.1 hi
 obtain ⟨ha,e⟩:=List.getElem?_eq_some_iff.1 hg
 have A:=ht.nd
 have C:=ht.nodup hg
 unfold List.Nodup at A C
 rw [List.pairwise_flatten] at A
 rcases List.mem_append.1 hm with q|q
 ·obtain ⟨y,hy,B⟩:=List.mem_flatten.1 q
  obtain ⟨j,hj,ej⟩:=List.mem_iff_getElem.1 hy
  rw [List.length_take] at hj
  rw [List.getElem_take] at ej
  have D:=List.pairwise_iff_getElem.1 A.2 j a I ha I
  rw [ej,e] at D
  exact D _ B _ (List.getElem_mem hl) U
 ·obtain ⟨j,hj,ej⟩:=List.mem_iff_getElem.1 q
  rw [List.length_take] at hj
  rw [List.getElem_take] at ej
  exact List.pairwise_iff_getElem.1 C j x I hl I ej
theorem lv.before (ht:lv r G) (he:cK r=0) (hg:G[a]? =some g) (hh:G[a+1]? =some h) (hi:i∈g) (hk:k∈h):mq r i k=0∧oB r i k=2:=by
 obtain ⟨x,hx⟩:=List.getElem?_of_mem hi
 obtain ⟨y,hy⟩:=List.getElem?_of_mem hk
 obtain ⟨s,hs⟩:=ht.runs hg hx
 obtain ⟨t,A⟩:=ht.runs hh hy
 obtain ⟨ha,eg⟩:=List.getElem?_eq_some_iff.1 hg
 obtain ⟨hb,eh⟩:=List.getElem?_eq_some_iff.1 hh
 have D:=List.pairwise_iff_getElem.1 ht.ok.apart a (a+1) ha hb I
 rw [eg,eh] at D
 have C:=D i hi k hk
 have F:aA (aF r) i=s:=by unfold aA; rw [hs]; rfl
 have AA:aA (aF r) k=t:=by unfold aA; rw [A]; rfl
 have E:i≠k:=fun e=>by
  subst e
  have:=(F4 he).at hs
  rw [hs] at A; cases A
  rw [F] at C; omega
 have B: ∀ {i:Int} {s:aa},(aF r).lookup i=some s→rv r i:=fun {i s} e=>by
  obtain ⟨q,D,C,H⟩:=uy (sM e)
  unfold rv; simp only at C; omega
 have e:mq r i k=0:=by unfold mq; rw [if_pos he,if_pos ⟨B hs,B A,E⟩,hs,A]; simp
 exact ⟨e,by unfold oB; rw [if_pos e]; unfold vJ; rw [if_pos C]⟩
/-- some of a group are not all before all others -/
theorem lv.part (ht:lv r G) (he:cK r=0) (hg:G[a]? =some g) {s:Nat} (h0:1≤s) (h1:s+1<2^g.length)
 (h: ∀ (x y:Nat) i k,g[x]? =some i→g[y]? =some k→s/2^x % 2=1→s/2^y % 2=0→oB r i k=2):False:=by
 refine EW (ht.ok.tight g (aR hg)) (fun i hi=>?_) h0 h1 fun x y i k hx hy B C=>?_
 ·obtain ⟨x,hx⟩:=List.getElem?_of_mem hi
  obtain ⟨s,hs⟩:=ht.runs hg hx
  have A:aA (aF r) i=s:=by unfold aA; rw [hs]; rfl
  rw [A]; exact (F4 he).at hs
 ·have e:=h x y i k hx hy B C
  unfold oB at e
  split at e
  ·unfold vJ at e
   split at e
   ·assumption
   ·split at e<;>cases e
  ·cases e
theorem QO (he:cK r=0):lv r (cd r):=by
 obtain ⟨G,A,B⟩:=sY he
 have e:=qL he A B
 rw [← e]
 exact ⟨A,B,A.perm.nodup_iff.2 nz⟩
theorem lv.count (ht:lv r G):G.flatten.length=(aF r).length:=by
 have:=ht.ok.perm.length_eq
 rw [List.length_map] at this; exact this
end
def lG (r:bT) (g:List Int) (s x y:Nat) (p:Bool):Prop:=p=true→ ∀ (u v:Nat) (i k:Int),(u<x∨(u=x∧v<y))→g[u]? =some i→g[v]? =some k→s/2^u % 2=1→s/2^v % 2=0→oB r i k=2
section
variable {r:bT} {g:List Int} {s x y:Nat} {p:Bool} {i k:Int}
theorem Gz:lG r g s 0 0 true:=fun _ u v i k h=>by omega
theorem KF (h:lG r g s x y p) (hy:g.length≤y):lG r g s (x+1) 0 p:=fun hp u v i k hu gi gk=>by
 have hv:=(List.getElem?_eq_some_iff.1 gk).1
 exact h hp u v i k I gi gk
theorem o8 (h:lG r g s x y p) (hb:s/2^x % 2=0∨s/2^y % 2=1):lG r g s x (y+1) p:=fun hp u v i k hu gi gk A B=>by
 by_cases c:u=x∧v=y
 ·obtain ⟨rfl,rfl⟩:=c; omega
 ·exact h hp u v i k I gi gk A B
theorem tS:lG r g s x y false:=fun h=>by cases h
theorem qc (h:lG r g s x y p) (hp:p=true) (hx:g[x]? =some i) (hy:g[y]? =some k):lG r g s x (y+1) (decide (oB r i k=2)):=fun hb u v i' k' hu gi gk A B=>by
 by_cases c:u=x∧v=y
 ·obtain ⟨rfl,rfl⟩:=c
  rw [hx] at gi; rw [hy] at gk
  cases gi; cases gk
  exact of_decide_eq_true hb
 ·exact h hp u v i' k' I gi gk A B
theorem JT {G:List (List Int)} {a:Nat} (ht:lv r G) (he:cK r=0) (hg:G[a]? =some g) (h0:1≤s) (h1:s+1<2^g.length) (h:lG r g s x y p) (hx:g.length≤x):p=false:=by
 cases p with
 |false=>rfl
 |true=>exact (ht.part he hg h0 h1 fun u v i k gi gk A B=>h rfl u v i k (by have:=(List.getElem?_eq_some_iff.1 gi).1; omega) gi gk A B).elim
end
theorem lv.small {r:bT} {G:List (List Int)} {g:List Int} {a:Nat} (ht:lv r G) (he:cK r=0) (hg:G[a]? =some g):g.length≤5:=by
 have A:=(List.sublist_flatten_of_mem (aR hg)).length_le
 have B:=ht.count
 have C:=mA he
 omega
theorem Le {G:List (List Int)} {g:List Int} {a:Nat} (hg:G[a]? =some g):(G.take a).flatten++g=(G.take (a+1)).flatten:=by
 rw [List.take_add_one,hg,List.flatten_append]; simp
end
section
open Go.RowKit
section
variable {P:Program} {t:TypeId} {x y:Operand}
theorem Kv {s i:Nat} {j:Int} {yk:IntKind} (hj:j=(i:Int)) (hi:i≤64):gK P .shr t x y (.int .i64 (s:Int)) (.int yk j) (.int .i64 ((s/2^i:Nat):Int)):=fun w=>by
 subst hj
 have B: ¬ ((i:Int)<0):=by omega
 have C:min i 64=i:=by omega
 have e:Int.fdiv (s:Int) (2^i)=((s/2^i:Nat):Int):=by
  rw [Int.fdiv_eq_ediv_of_nonneg _ (Int.pow_nonneg I)]
  rw [Int.natCast_ediv]; simp
 have A:Op.shift .shr .i64 (s:Int) yk (i:Int)=(pure (.int .i64 ((s/2^i:Nat):Int)):Sem Value):=by
  unfold Op.shift
  rw [if_neg B]
  show (pure (.int .i64 (Int.fdiv (s:Int) (2^(min (i:Int).toNat 64)))):Sem Value)=_
  rw [Int.toNat_natCast,C,e]
 simp only [eqGuard_shr,binOp_shr,A]
 rfl
theorem PH {i:Nat} {j:Int} {yk:IntKind} (hj:j=(i:Int)) (hi:i≤62):gK P .shl t x y (.int .i64 1) (.int yk j) (.int .i64 ((2^i:Nat):Int)):=fun w=>by
 subst hj
 have B: ¬ ((i:Int)<0):=by omega
 have C:min i 64=i:=by omega
 have hp:(2^i:Nat)≤4611686018427387904:=Nat.pow_le_pow_right (n:=2) I hi
 have hw:IntKind.i64.wrap ((2:Int)^i)=((2^i:Nat):Int):=by
  have:((2^i:Nat):Int)=(2:Int)^i:=by simp
  rw [← this]
  generalize (2^i:Nat)=q at hp
  exact lY ⟨I,I⟩
 have A:Op.shift .shl .i64 1 yk (i:Int)=(pure (.int .i64 ((2^i:Nat):Int)):Sem Value):=by
  unfold Op.shift
  rw [if_neg B]
  show (pure (.int .i64 (IntKind.i64.wrap (1*2^(min (i:Int).toNat 64)))):Sem Value)=_
  rw [Int.toNat_natCast,C,Int.one_mul,hw]
 simp only [eqGuard_shl,binOp_shl,A]
 rfl
theorem N7 {m:Nat} (hm:m<2^63):((BitVec.ofInt 64 (m:Int)) &&& (BitVec.ofInt 64 1)).toNat=m % 2:=by
 have A:BitVec.ofInt 64 (m:Int)=BitVec.ofNat 64 m:=by simp
 have B:BitVec.ofInt 64 1=BitVec.ofNat 64 1:=by rfl
 rw [A,B,BitVec.toNat_and,BitVec.toNat_ofNat,BitVec.toNat_ofNat,Nat.mod_eq_of_lt I,show 1 % 2^64=1 by rfl,Nat.and_one_is_mod]
theorem IP {m:Nat} {a:Int} (ha:a=(m:Int)) (hm:m<2^63):gK P .and t x y (.int .i64 a) (.int .i64 1) (.int .i64 ((m % 2:Nat):Int)):=fun w=>by
 subst ha
 have h:=N7 hm
 have hw:IntKind.i64.wrap (((m % 2:Nat)):Int)=((m % 2:Nat):Int):=lY ⟨I,I⟩
 have e:Op.intBits .and .i64 (m:Int) 1=(pure (.int .i64 ((m % 2:Nat):Int)):Sem Value):=by
  show (pure (.int .i64 (IntKind.i64.wrap (((BitVec.ofInt 64 (m:Int)) &&& (BitVec.ofInt 64 1)).toNat:Int))):Sem Value)=_
  rw [h,hw]
 simp [eqGuard_and,binOp_and,e]
theorem qn {e:TypeId} {a:OA} {n c:Nat} (ht:P.underlying t=some (.slice e)):gK P .eql t x y (.slice a n c) (.slice none 0 0) (.bool (decide (a=none))):=fun w=>by
 have A:(Op.equal t (.slice a n c) (.slice none 0 0)).run P w= .ok (decide (a=none)) w:=by
  unfold Op.equal
  show (Op.equalIn (9999+1) t (.slice a n c) (.slice none 0 0)).run P w=_
  unfold Op.equalIn
  cases a<;>simp [run_underlying ht]
 have B:eqGuard .eql t x y (.slice a n c) (.slice none 0 0)=pure ():=rfl
 rw [B]
 show (Sem.run P (do let b ← Op.equal t (.slice a n c) (.slice none 0 0); pure (vB b)) w)=_
 simp [A]
end
section
variable {E:eY} {ops:Array Oper} {Q:cU} {rest:List Oper} {D:List Deferred} {L:List (Nat×Value)} {C:List aq}
variable {dst:Option Tmp} {d:Nat} {ty:TypeId} {ps:String} {af:Array Edge} {g:Option (Nat×Bool)}
/-- a row that lies nowhere is empty -/
theorem mm {a:OA} {n sz:Nat} {es:List (List Value)} (hR:il C (rd a n sz es).holds) (ha:a=none) (hz:0<sz) (k:es=[]→RJ E ops Q rest D L C):RJ E ops Q rest D L C:=fun act w hf hs=>by
 refine k ?_ act w hf hs
 obtain ⟨F,G,B⟩:=hs.has hR
 rcases Nat.eq_zero_or_pos (n*sz) with h|h
 ·have:n=0:=by
   rcases Nat.mul_eq_zero.1 h with h|h
   ·exact h
   ·omega
  exact jy I
 ·obtain ⟨ad,A,_⟩:=B h
  rw [ha] at A; cases A
theorem IE {a:OA} {c e sz:Nat} {es:List (List Value)} (i:Nat) (hC:C[i]? =some (own a c e sz es)) (k:es.length≤c→RJ E ops Q rest D L C):RJ E ops Q rest D L C:=fun act w hf hs=>
 k (F2 (hs.holds _ (aR hC))) act w hf hs
theorem j_ {A:aq} (i:Nat) (h:C[i]? =some A.ro):il C A.holds:=fun w hw=>by
 have B:=hw A.ro (aR h)
 exact B
/-- the end of a row is set to zero: it is no more of it -/
theorem NH {x:Operand} {t e sz by_ k n c c':Nat} {z:Value} {a:OA} {es:List (List Value)} (i:Nat) (hg:ju ops L g=true) (hx:ev L x=some (.slice (Ar a c k sz) (n-k) c')) (ht:tA E.P t=some (e,sz,by_,z)) (hz1: ∀ v∈z.cells.toList,v.oneCell'=true)
 (hC:C[i]? =some (own a c e sz es)) (hn:n=es.length) (hk:k≤n) (K:RJ E ops Q rest D L (C.set i (own a c e sz (es.take k)))):
 RJ E ops Q (⟨none,.call {callee:= .builtin .clear,args:= #[x],argTypes:= #[t]},ty,ps,af,g⟩::rest) D L C:=by
 intro act w A F
 obtain ⟨inf,hu,hi,f,h3,h4,s⟩:=Dz ht
 unfold rD
 rw [if_pos (dK A hg)]
 subst hn
 obtain ⟨W,N⟩:(own a c e sz es).holds w:=F.holds _ (aR hC)
 have B: ∀ y∈es.take k,y.length=sz:=fun y hy=>W y (List.mem_of_mem_take hy)
 have V:(es.take k).flatten=es.flatten.take (k*sz):=by
  have h:=List.take_append_drop k es
  have l:es.flatten=(es.take k).flatten++(es.drop k).flatten:=by rw [← List.flatten_append,h]
  have m:(es.take k).flatten.length=k*sz:=by rw [iz B,List.length_take]; congr 1; omega
  rw [l,← m,List.take_left]
 by_cases r:es.length-k=0
 ·have AA:es.take k=es:=List.take_of_length_le I
  refine gN sm (w':=w) (v:= .tuple #[]) ?_ ?_
  ·rw [r] at hx
   cases hs:Ar a c k sz with
   |none=>rw [hs] at hx; simp [execOp,resolve,invoke,builtin,Builtin.clear_,A.ev hx,run_underlying hu]
   |some q=>rw [hs] at hx; simp [execOp,resolve,invoke,builtin,Builtin.clear_,A.ev hx,run_underlying hu]
  ·rw [AA] at K
   exact K _ _ A (by
    have:C.set i (own a c e sz es)=C:=by
     apply List.ext_getElem?
     intro q
     rw [List.getElem?_set]
     by_cases j:i=q
     ·subst j; rw [if_pos rfl,if_pos (List.getElem?_eq_some_iff.1 hC).1,hC]
     ·rw [if_neg j]
    rw [this]; exact F)
 ·rcases N.2 with ⟨l,m⟩|⟨gg,cap,cur,hv,AC,M,Y,T,J,G⟩
  ·omega
  ·injection hv with Z AK d
   subst Z d
   have R:Ar (some (⟨gg,0,none⟩:Addr)) c k sz=some ⟨gg,k*sz,none⟩:=by
    unfold Ar; rw [if_neg I]; simp [Addr.add_lit]
   rw [R] at hx
   have H:(Builtin.zeroCells z.cells (es.length-k)).toList.length=(es.length-k)*sz:=by
    rw [Array.length_toList,size_zeroCells,s]
   have p:k*sz+(es.length-k)*sz=es.length*sz:=by rw [← Nat.add_mul]; congr 1; omega
   have o:es.length*sz≤cur.size:=by rw [J]; exact Nat.mul_le_mul_right _ Y
   have h1': ∀ v∈(Builtin.zeroCells z.cells (es.length-k)).toList,v.oneCell'=true:=fun v hv=>by
    refine hz1 v ?_
    simp [Builtin.zeroCells] at hv
    obtain ⟨q,hq,hv⟩:=hv
    have O:0<z.cells.size:=by
     rcases Nat.eq_zero_or_pos z.cells.size with AB|AB
     ·rw [AB] at hq; simp at hq
     ·exact AB
    have X:q % z.cells.size<z.cells.size:=Nat.mod_lt _ O
    rw [getElem!_pos z.cells _ X] at hv
    rw [← hv]; simp
   have hst':=run_storeCells_at E.P gg (k*sz) e (Builtin.zeroCells z.cells (es.length-k)).toList 0 cur w M (by rw [H]; omega) h1'
   simp only [Nat.add_zero] at hst'
   obtain ⟨q,hq⟩: ∃ q,es.length-k=q+1:=⟨es.length-k-1,I⟩
   refine gN sm (w':=w.setRow gg (cur.toList.take (k*sz)++(Builtin.zeroCells z.cells (es.length-k)).toList++cur.toList.drop (k*sz+(Builtin.zeroCells z.cells (es.length-k)).toList.length)).toArray) (v:= .tuple #[]) ?_ ?_
   ·rw [hq] at hx hst' ⊢
    simp [execOp,resolve,invoke,builtin,Builtin.clear_,A.ev hx,run_underlying hu,zeroValue,typeInfo,hi,f,hst']
   ·refine K _ _ A ?_
    refine F.move i hC (row:=some gg) (fun b hb=>by cases hb; exact ⟨_,rfl,rfl⟩) rfl ⟨rfl,rfl,rfl,sm,fun k' _ hk'=>setRow_other w gg k' _ (fun e=>hk' (by simp [e]))⟩ (fun y hy=>by
     obtain ⟨ad,AB,rfl⟩:=hy
     cases AB; exact .inl rfl) ?_
    refine ⟨B,?_,.inr ⟨gg,c,_,U,Nat.zero_le _,setRow_heap w gg cur _ e _ M,?_,T,?_,?_⟩⟩
    ·exact iz B
    ·rw [List.length_take]; omega
    ·simp only [List.size_toArray,List.length_append,List.length_take,List.length_drop,Array.length_toList,H]
     have:=J
     simp only [Array.length_toList] at H
     omega
    ·have u:(es.take k).length*sz=k*sz:=by rw [List.length_take]; congr 1; omega
     have S:(cur.toList.take (k*sz)).length=k*sz:=by rw [List.length_take,Array.length_toList]; omega
     rw [u,V,← G,List.take_take,Nat.min_eq_left I]
     show List.take (k*sz) (_++_++_)=_
     rw [List.append_assoc,List.take_left' S]
end
end
section
open Go.RowKit
theorem oO (n lo hi:Int):
 dT Tryz.prog 151 [(vI n),(vI lo),(vI hi)] [] (vB (decide (lo≤n∧n≤hi))):=by
 refine bx kr Tryz.func151 U U fun D Q hQ hN=>?_
 try dsimp only
 refine WS fun _ B=>bf 1 U<|RK B<|WS fun _ A=>rP 4 [] mn ?_
 refine cQ (t:=10) U (aM fun C=>?_) (aL fun C=>?_)
 ·refine rP 5 [] mn ?_
  refine RK A<|an<|Q1 hQ U U U ?_
  exact cB (decide_eq_decide.2 I)
 refine rP 5 [] mn ?_
 refine RK A<|an<|Q1 hQ U U U ?_
 exact cB (cf I).symm
theorem pK (s:aa) (lo hi:Int):
 dT Tryz.prog 152 [(vA (aa.cells s)),(vI lo),(vI hi)] [] (vB (decide (s.Lo≤s.Hi∧lo≤s.Lo∧s.Hi≤hi))):=by
 refine bx kr Tryz.func152 U U fun E Q hQ hN=>?_
 try dsimp only
 refine WS fun _ B=>fK U fun D=>bf 1 U<|RK B<|WS fun _ A=>fw 5 [] (mc 0 U mn) U<|rS (CL (oO s.Lo lo s.Hi) (aI) U)<|rP 1 [] mn ?_
 refine bZ (t:=13) U (aL fun C=>?_) (aM fun C=>?_)
 ·refine rP 6 [] mn ?_
  refine RK A<|an<|Q1 hQ U U U ?_
  exact cB (cf I).symm
 refine rP 6 [] (mc 0 U mn) ?_
 refine RK A<|an<|Q1 hQ U U U ?_
 exact cB (decide_eq_decide.2 I)
theorem OC (t:List al) (tA:OA) (tC:Nat):
 dT Tryz.prog 110 [(vA (bE.cells (bE.mk (br.mk tA t.length tC))))] [(rd tA t.length 9 (t.map al.cells))] (vB (decide (20<(t.length:Int)))):=by
 refine bx kr Tryz.func110 U U fun D Q hQ hN=>?_
 try dsimp only
 refine WS fun _ A=>fK U fun C=>bf 1 U<|RK A<|WS fun _ B=>rP 5 [] (mc 0 U mn) ?_
 refine RK B<|an ?_
 exact Q1 hQ U U U U
theorem Oh (l:List Int) (lA:OA) (lC:Nat) (f:Value) (p:Int→Bool) (X:aq) (hf: ∀ x0,x0∈l→Em Tryz.prog f [.int .i64 x0] [X] (.bool (p x0))) (hlen:l.length≤1000000):
 dT Tryz.prog 86 [(vS lA l.length lC),f] [(rd lA l.length 1 (l.map iC)),X] (vI (tL p l)):=by
 refine bx kr Tryz.func86 U U fun R Q hQ hN=>?_
 try dsimp only
 refine WS fun _ G=>bf 1 U<|RK G<|ah fun _ H=>WS fun _ AA=>rP 3 [] mn ?_
 refine RK AA<|av ?_
 have B:(0≤l.length)∧((l.take 0).any p=false):=by simp
 refine bH (ι:={z:Nat // (z≤l.length)∧((l.take z).any p=false)}) [0,1,7] [0,1] U U (fun z=>[(8,(vI (z.1:Int)))]) (fun z=>[]) (fun _=>rfl) (fun _=>rfl) (fun z=>l.length-z.1) ⟨0,B⟩ (aT U) (aH [0,1]) ?_
 clear B
 rintro ⟨i,⟨N,A⟩⟩ J4 F
 try dsimp only
 refine WS fun _ J=>rP 1 [] mn ?_
 refine RK J<|ah fun _ K=>bL U (aL fun P=>?_) (aM fun P=>?_)
 ·refine bu<|ab<|ab<|au<|KK H<|WS fun _ E=>rP 1 [] mn ?_
  refine RK E<|an<|Q1 hQ U U U ?_
  exact cI (sj I A).symm
 refine WK K<|ah fun _ L=>av<|WS fun _ M=>bf 2 U<|RK M<|WS fun _ C=>rP 3 [] mn ?_
 obtain ⟨x,hx⟩:=aJ l i I
 have O:=bG iC hx
 refine rS (IA i U (aD 0 U) cp dc I I)<|rS (fV i 0 (vI x) U bX (aD 0 U) O U dc U)<|rS (SX (sk U U U (hf x (aR hx)) (bj [1])) U U)<|RK C<|cy U (fun hp=>?_) (fun hp=>?_)
 ·refine WS fun _ D=>rP 2 [] mn ?_
  refine RK D<|an<|Q1 hQ U U U ?_
  exact cI (xM hx hp A).symm
 refine b_<|aG<|KK L<|aj<|rP 2 [] mn ?_
 refine aC ?_
 refine aS (F ⟨(i+1),⟨I,wH hx A hp⟩⟩ _ _ _ U os (aT U) (aH [0,1]))
theorem si (l:List Int) (lA:OA) (lC:Nat) (f:Value) (p:Int→Bool) (X:aq) (hf: ∀ x0,x0∈l→Em Tryz.prog f [.int .i64 x0] [X] (.bool (p x0))) (hlen:l.length≤1000000):
 dT Tryz.prog 63 [(vS lA l.length lC),f] [(rd lA l.length 1 (l.map iC)),X] (vB (l.any p)):=by
 refine bx kr Tryz.func63 U U fun C Q hQ hN=>?_
 try dsimp only
 refine WS fun _ A=>bf 1 U<|RK A<|WS fun _ B=>bf 2 U<|rS (CL (Oh l lA lC f p X (by exact hf) hlen) (bj [0,1]) U)<|rP 2 [] mn ?_
 refine RK B<|an<|Q1 hQ U U U ?_
 exact cB ue
theorem G6 (n lo hi:Int) (g1 g2:Nat):
 dT Tryz.prog 139 [(vI n),(vP g1),(vP g2)] [(bV g1 3 [(vI lo)]),(bV g2 3 [(vI hi)])] (vB (decide (n<lo∨hi<n))):=by
 refine bx kr Tryz.func139 U U fun D Q hQ hN=>?_
 try dsimp only
 refine WS fun _ B=>bf 1 U<|RK B<|WS fun _ A=>rP 4 [] (mr 0 U mn) ?_
 refine cQ (t:=8) U (aM fun C=>?_) (aL fun C=>?_)
 ·refine rP 5 [] mn ?_
  refine RK A<|an<|Q1 hQ U U U ?_
  exact cB (fH I).symm
 refine rP 5 [] (mr 1 U mn) ?_
 refine RK A<|an<|Q1 hQ U U U ?_
 exact cB (decide_eq_decide.2 I)
theorem o1 (lo hi:Int) (l:List Int) (lA:OA) (lC:Nat) (hlen:l.length≤1000000):
 dT Tryz.prog 113 [(vI lo),(vI hi),(vS lA l.length lC)] [(rd lA l.length 1 (l.map iC))] (vB (pO lo hi l)):=by
 refine bx kr Tryz.func113 U U fun F Q hQ hN=>?_
 try dsimp only
 refine WS fun _ D=>um U U fun A=>um U U fun B=>bf 1 U<|RK D<|WS fun _ E=>rP 1 [] mn ?_
 refine rS (FU U) ?_
 refine rS (CL (si l lA lC (Value.func (.func 139) [].toArray [(vP A),(vP B)].toArray) (fun C=>(decide (C<lo∨hi<C))) (eW [(bV A 3 [(vI lo)]),(bV B 3 [(vI hi)])]) (by intro C _; exact nj (fi:=[]) (ca:=[(vP A),(vP B)]) (l3 (G6 C lo hi A B) (bj [0,1]))) hlen) (fD 2 U U<|aw (l6 (bj [1,0]))<|aI) U) ?_
 refine rP 2 [] mn ?_
 refine RK E<|an ?_
 exact Q1 hQ U U U U
theorem v9 (s:aa) (lo hi:Int):
 dT Tryz.prog 114 [(vA (aa.cells s)),(vI lo),(vI hi)] [] (vB (decide (s.Lo≤s.Hi∧lo≤s.Lo∧s.Hi≤hi))):=by
 refine bx kr Tryz.func114 U U fun F Q hQ hN=>?_
 try dsimp only
 refine WS fun _ B=>fK U fun E=>bf 1 U<|RK B<|WS fun _ A=>rP 6 [] (mc 0 U mn) ?_
 refine cY (xs:=[.tmp 10,.tmp 12]) (cs:=[(vI s.Lo),(vI s.Hi)]) U cp ja U U U U (by simp [Value.cells]) U U fun C=>?_
 refine rS (CL (dT.eq (o1 lo hi ([s.Lo,s.Hi]) (some ⟨C,0,none⟩) 2 (by (simp; done))) qP) (aw (aZ 0 U U (by simp [bB]) U)<|aI) U) ?_
 refine rP 1 [] mn ?_
 refine bZ (t:=15) U (aL fun D=>?_) (aM fun D=>?_)
 ·refine rP 7 [] mn ?_
  refine RK A<|an<|Q1 hQ U U U ?_
  exact cB (cf I).symm
 refine rP 7 [] (mc 1 U mn) ?_
 refine RK A<|an<|Q1 hQ U U U ?_
 exact cB (decide_eq_decide.2 I)
theorem we (ts:List al) (tsA:OA) (tsC:Nat) (hlen:ts.length≤1000000):
 dT Tryz.prog 135 [(vA (bE.cells (bE.mk (br.mk tsA ts.length tsC))))] [(rd tsA ts.length 9 (ts.map al.cells))] (vB (cT ts)):=by
 refine bx kr Tryz.func135 U U fun w0 Q hQ hN=>?_
 try dsimp only
 refine WS fun _ C2=>fK U fun b2=>bf 1 U<|RK C2<|ah fun _ C3=>WS fun _ Di=>fw 3 [] (mc 0 U mn) U<|rS (CL (oO (ts.length:Int) 1 12) (aI) U)<|rP 1 [] mn ?_
 refine RK Di<|cy U (bp fun h5=>?_) (bq fun h5=>?_)
 ·refine WS fun _ Do=>rP 1 [] mn ?_
  refine RK Do<|an<|Q1 hQ U U U ?_
  exact cB (n9 I).symm
 refine WK C3<|ah fun _ Dr=>WS fun _ EQ=>rP 1 [] mn ?_
 refine RK EQ<|av ?_
 have E:(0≤ts.length)∧(eJ (-1) ts=eJ (fW ts 0) (ts.drop 0))∧(-1≤fW ts 0):=by (refine ⟨I,rfl,by simp [fW]⟩)
 refine bH (ι:={z:Nat // (z≤ts.length)∧(eJ (-1) ts=eJ (fW ts z) (ts.drop z))∧(-1≤fW ts z)}) [1] [0,1] U U (fun z=>[(3,(vI (z.1:Int)))]) (fun z=>[]) (fun _=>rfl) (fun _=>rfl) (fun z=>ts.length-z.1) ⟨0,E⟩ (aT U) (aH [0,1]) ?_
 clear E
 rintro ⟨i,⟨Eq,A,FS⟩⟩ J9 D
 try dsimp only
 have hz:i=0→fW ts i= -1:=Bv
 refine ah fun _ K=>WS fun _ L=>rP 5 [] (mc 0 U mn) ?_
 refine RK L<|bL U (aL fun v=>?_) (aM fun v=>?_)
 ·refine bu<|ab<|ab<|au<|KK Dr<|WS fun _ u=>rP 1 [] mn ?_
  refine RK u<|an<|Q1 hQ U U U ?_
  exact cB (vp A I I).symm
 refine WK K<|ah fun _ C=>av<|WS fun _ M=>rP 3 [] (mc 0 U mn) ?_
 obtain ⟨x,hx⟩:=aJ ts i I
 have Fd:=bG al.cells hx
 refine rS (IA i U (aD 1 U) yr dc I I)<|rS (oI i 0 (al.cells x) U bX (aD 1 U) Fd U dc U U)<|AL U Gi fun F0=>fP U Il U<|RK M<|ah fun _ F=>ah fun _ B=>dB cu 38 kr<|mL 2 [] (mc 0 U mn) U<|dS (CL (oO x.Id 0 9999) (aI) U)<|dP 2 [] mn ?_
 refine iZ (t:=26) U (bp fun w=>?_) (bq fun w=>?_)
 ·refine lz 11 U<|lz 22 U<|cM<|RK B<|aO U<|WS fun _ N=>rP 1 [] mn ?_
  refine RK N<|an<|Q1 hQ U U U ?_
  exact cB (dF A hx (by simp only [bJ,dI]; omega)).symm
 refine dP 3 [] mn ?_
 refine jo (t:=29) U (aL fun AC=>?_) (aM fun AC=>?_)
 ·refine lz 8 U<|lz 6 U<|dS (LP (aa.cells x.ku) 0 U bX U U U)<|dS (CL (pK x.ku 1 30000) (aI) U)<|dP 3 [] mn ?_
  refine iZ (t:=48) U (bp fun A9=>?_) (bq fun A9=>?_)
  ·refine lz 11 U<|cM<|RK B<|aO U<|WS fun _ e=>rP 1 [] mn ?_
   refine RK e<|an<|Q1 hQ U U U ?_
   exact cB (dF A hx (by simp only [bJ,dI]; omega)).symm
  refine lz 1 U<|dS (LP (aa.cells x.lP) 0 U bX U U U)<|dS (CL (pK x.lP 0 5000) (aI) U)<|dP 3 [] mn ?_
  refine iZ (t:=54) U (bp fun BX=>?_) (bq fun BX=>?_)
  ·refine lz 5 U<|cM<|RK B<|aO U<|WS fun _ f=>rP 1 [] mn ?_
   refine RK f<|an<|Q1 hQ U U U ?_
   exact cB (dF A hx (by simp only [bJ,dI]; omega)).symm
  refine mL 2 [] (mc 0 U mn) U<|dS (CL (oO x.Ay 0 5000) (aI) U)<|dP 2 [] mn ?_
  refine cM<|RK B<|cy U (bp fun B3=>?_) (bq fun B3=>?_)
  ·refine WS fun _ g=>rP 1 [] mn ?_
   refine RK g<|an<|Q1 hQ U U U ?_
   exact cB (dF A hx (by simp only [bJ,dI]; omega)).symm
  refine WK F<|WS fun _ h=>fw 2 [] (mc 0 U mn) U<|RK h<|av<|WS fun _ j=>rS (BI U lu)<|rP 1 [] mn ?_
  refine RK j<|cy U (aM fun B7=>?_) (aL fun B7=>?_)
  ·refine WS fun _ AB=>rP 5 [] (mc 0 U mn) ?_
   refine cQ (t:=68) U (bp fun B9=>?_) (bq fun B9=>?_)
   ·refine bf 5 U<|RK AB<|aO U<|WS fun _ k=>rP 1 [] mn ?_
    refine RK k<|an<|Q1 hQ U U U ?_
    exact cB (dF A hx (by simp only [bJ,dI]; omega)).symm
   refine rP 5 [] (mc 0 U mn) ?_
   refine RK AB<|bL U (bq fun Ci=>?_) (bp fun Ci=>?_)
   ·refine b_<|aG<|aG<|KK C<|aj<|rP 3 [] mn ?_
    refine aC ?_
    refine aS (D ⟨(i+1),⟨I,gM A hx (by simp only [bJ,dI]; omega),by rw [fR hx]; omega⟩⟩ _ _ _ U os (aT U) (aH [1,2]))
   refine WS fun _ l=>rP 1 [] mn ?_
   refine RK l<|an<|Q1 hQ U U U ?_
   exact cB (dF A hx (by simp only [bJ,dI]; omega)).symm
  refine ah fun _ J=>WS fun _ m=>rS (BI U lu)<|rP 1 [] mn ?_
  refine RK m<|cy U (aM fun Ck=>?_) (aL fun Ck=>?_)
  ·refine WK J<|bL U (aL fun Cp=>?_) (aM fun Cp=>?_)
   ·refine WS fun _ p=>rP 1 [] mn ?_
    refine RK p<|an<|Q1 hQ U U U ?_
    exact cB (n9 I).symm
   refine WS fun _ n=>bf 1 U<|rS (LP (aa.cells x.eD) 0 U bX U U U)<|rS (CL (pK x.eD 500 20000) (aI) U)<|rP 1 [] mn ?_
   refine RK n<|bL U (bq fun Cx=>?_) (bp fun Cx=>?_)
   ·refine b_<|aG<|aG<|KK C<|aj<|rP 3 [] mn ?_
    refine aC ?_
    refine aS (D ⟨(i+1),⟨I,gM A hx (by simp only [bJ,dI]; omega),by rw [fR hx]; omega⟩⟩ _ _ _ U os (aT U) (aH [1,2]))
   refine WS fun _ o=>rP 1 [] mn ?_
   refine RK o<|an<|Q1 hQ U U U ?_
   exact cB (dF A hx (by simp only [bJ,dI]; omega)).symm
  refine aj<|rS (BI U lu)<|rP 1 [] mn ?_
  refine RK J<|bL U (aL fun C0=>?_) (aM fun C0=>?_)
  ·refine WS fun _ s=>rP 1 [] mn ?_
   refine RK s<|an<|Q1 hQ U U U ?_
   exact cB (dF A hx (by simp only [bJ,dI]; omega)).symm
  refine WS fun _ q=>bf 1 U<|rS (LP (aa.cells x.eD) 0 U bX U U U)<|rS (CL (pK x.eD 500 20000) (aI) U)<|rP 1 [] mn ?_
  refine RK q<|bL U (bq fun C1=>?_) (bp fun C1=>?_)
  ·refine b_<|aG<|aG<|KK C<|aj<|rP 3 [] mn ?_
   refine aC ?_
   refine aS (D ⟨(i+1),⟨I,gM A hx (by simp only [bJ,dI]; omega),by rw [fR hx]; omega⟩⟩ _ _ _ U os (aT U) (aH [1,2]))
  refine WS fun _ r=>rP 1 [] mn ?_
  refine RK r<|an<|Q1 hQ U U U ?_
  exact cB (dF A hx (by simp only [bJ,dI]; omega)).symm
 refine dP 6 [0,1] (mc 0 U (mc 1 U mn)) ?_
 obtain ⟨y,hy⟩:=aJ ts (i-1) I
 have Fn:=bG al.cells hy
 refine dS (IA (i-1) U (aD 2 U) yr dc I I)<|dS (nS ((i-1)*9) U (aD 2 U) (Nat.mul_pos I dc) fu U) ?_
 have GE:=Ee I hy
 refine dS (fV (i-1) 0 (vI y.Id) U bX (aD 2 U) Fn U dc U)<|dP 4 [] mn ?_
 refine iZ (t:=42) U (aM fun AK=>?_) (aL fun AK=>?_)
 ·refine lz 17 U<|cM<|RK B<|aO U<|WS fun _ O=>rP 1 [] mn ?_
  refine RK O<|an<|Q1 hQ U U U ?_
  exact cB (dF A hx (by simp only [bJ,dI]; omega)).symm
 refine lz 1 U<|dS (LP (aa.cells x.ku) 0 U bX U U U)<|dS (CL (pK x.ku 1 30000) (aI) U)<|dP 3 [] mn ?_
 refine iZ (t:=48) U (bp fun AO=>?_) (bq fun AO=>?_)
 ·refine lz 11 U<|cM<|RK B<|aO U<|WS fun _ P=>rP 1 [] mn ?_
  refine RK P<|an<|Q1 hQ U U U ?_
  exact cB (dF A hx (by simp only [bJ,dI]; omega)).symm
 refine lz 1 U<|dS (LP (aa.cells x.lP) 0 U bX U U U)<|dS (CL (pK x.lP 0 5000) (aI) U)<|dP 3 [] mn ?_
 refine iZ (t:=54) U (bp fun An=>?_) (bq fun An=>?_)
 ·refine lz 5 U<|cM<|RK B<|aO U<|WS fun _ R=>rP 1 [] mn ?_
  refine RK R<|an<|Q1 hQ U U U ?_
  exact cB (dF A hx (by simp only [bJ,dI]; omega)).symm
 refine mL 2 [] (mc 0 U mn) U<|dS (CL (oO x.Ay 0 5000) (aI) U)<|dP 2 [] mn ?_
 refine cM<|RK B<|cy U (bp fun A0=>?_) (bq fun A0=>?_)
 ·refine WS fun _ S=>rP 1 [] mn ?_
  refine RK S<|an<|Q1 hQ U U U ?_
  exact cB (dF A hx (by simp only [bJ,dI]; omega)).symm
 refine WK F<|WS fun _ T=>fw 2 [] (mc 0 U mn) U<|RK T<|av<|WS fun _ AA=>rS (BI U lu)<|rP 1 [] mn ?_
 refine RK AA<|cy U (aM fun A1=>?_) (aL fun A1=>?_)
 ·refine WS fun _ G=>rP 5 [] (mc 0 U mn) ?_
  refine cQ (t:=68) U (bp fun A2=>?_) (bq fun A2=>?_)
  ·refine bf 5 U<|RK G<|aO U<|WS fun _ V=>rP 1 [] mn ?_
   refine RK V<|an<|Q1 hQ U U U ?_
   exact cB (dF A hx (by simp only [bJ,dI]; omega)).symm
  refine rP 5 [] (mc 0 U mn) ?_
  refine RK G<|bL U (bq fun A3=>?_) (bp fun A3=>?_)
  ·refine b_<|aG<|aG<|KK C<|aj<|rP 3 [] mn ?_
   refine aC ?_
   refine aS (D ⟨(i+1),⟨I,gM A hx (by simp only [bJ,dI]; omega),by rw [fR hx]; omega⟩⟩ _ _ _ U os (aT U) (aH [1,2]))
  refine WS fun _ W=>rP 1 [] mn ?_
  refine RK W<|an<|Q1 hQ U U U ?_
  exact cB (dF A hx (by simp only [bJ,dI]; omega)).symm
 refine ah fun _ H=>WS fun _ X=>rS (BI U lu)<|rP 1 [] mn ?_
 refine RK X<|cy U (aM fun A4=>?_) (aL fun A4=>?_)
 ·refine WK H<|bL U (aL fun A5=>?_) (aM fun A5=>?_)
  ·refine WS fun _ a=>rP 1 [] mn ?_
   refine RK a<|an<|Q1 hQ U U U ?_
   exact cB (n9 I).symm
  refine WS fun _ Y=>bf 1 U<|rS (LP (aa.cells x.eD) 0 U bX U U U)<|rS (CL (pK x.eD 500 20000) (aI) U)<|rP 1 [] mn ?_
  refine RK Y<|bL U (bq fun A6=>?_) (bp fun A6=>?_)
  ·refine b_<|aG<|aG<|KK C<|aj<|rP 3 [] mn ?_
   refine aC ?_
   refine aS (D ⟨(i+1),⟨I,gM A hx (by simp only [bJ,dI]; omega),by rw [fR hx]; omega⟩⟩ _ _ _ U os (aT U) (aH [1,2]))
  refine WS fun _ Z=>rP 1 [] mn ?_
  refine RK Z<|an<|Q1 hQ U U U ?_
  exact cB (dF A hx (by simp only [bJ,dI]; omega)).symm
 refine aj<|rS (BI U lu)<|rP 1 [] mn ?_
 refine RK H<|bL U (aL fun A7=>?_) (aM fun A7=>?_)
 ·refine WS fun _ d=>rP 1 [] mn ?_
  refine RK d<|an<|Q1 hQ U U U ?_
  exact cB (dF A hx (by simp only [bJ,dI]; omega)).symm
 refine WS fun _ b=>bf 1 U<|rS (LP (aa.cells x.eD) 0 U bX U U U)<|rS (CL (pK x.eD 500 20000) (aI) U)<|rP 1 [] mn ?_
 refine RK b<|bL U (bq fun A8=>?_) (bp fun A8=>?_)
 ·refine b_<|aG<|aG<|KK C<|aj<|rP 3 [] mn ?_
  refine aC ?_
  refine aS (D ⟨(i+1),⟨I,gM A hx (by simp only [bJ,dI]; omega),by rw [fR hx]; omega⟩⟩ _ _ _ U os (aT U) (aH [1,2]))
 refine WS fun _ c=>rP 1 [] mn ?_
 refine RK c<|an<|Q1 hQ U U U ?_
 exact cB (dF A hx (by simp only [bJ,dI]; omega)).symm
theorem Bk (ts:List al) (tsA:OA) (tsC:Nat) (hlen:ts.length≤1000000) (hside: ∀ x∈ts,0≤x.iY∧x.iY≤255):
 dT Tryz.prog 82 [(vA (bE.cells (bE.mk (br.mk tsA ts.length tsC))))] [(rd tsA ts.length 9 (ts.map al.cells))] (vI (if cT ts=true then 0 else 10)):=by
 refine bx kr Tryz.func82 U U fun w0 Q hQ hN=>?_
 try dsimp only
 refine WS fun _ v=>fK U fun b2=>bf 1 U<|RK v<|Ac U<|ah fun _ w=>WS fun _ y=>rP 3 [] (mc 0 U mn) ?_
 refine cY (xs:=[.tmp 11]) (cs:=[(vI (ts.length:Int))]) U cp ja U U U U (by simp [Value.cells]) U U fun b5=>?_
 refine rS (CL (dT.eq (o1 1 12 ([(ts.length:Int)]) (some ⟨b5,0,none⟩) 1 (by (simp; done))) cS) (aw (aZ 0 U U (by simp [bB]) U)<|aI) U) ?_
 refine rP 1 [] mn ?_
 refine RK y<|cy U (bp fun h6=>?_) (bq fun h6=>?_)
 ·refine WS fun _ AC=>rP 1 [] mn ?_
  refine RK AC<|an<|Q1 hQ U U U ?_
  exact cI (if_neg (by rw [n9 I]; decide)).symm
 refine WK w<|WS fun _ AK=>bf 1 U<|RK AK<|WS fun _ AO=>bf 1 U<|RK AO<|ah fun _ J=>zV<|KK J<|ah fun _ B=>WS fun _ K=>rP 4 [] (mc 1 U mn) ?_
 refine RK K<|av ?_
 have D:(0≤ts.length)∧(eJ (-1) ts=eJ (fW ts 0) (ts.drop 0))∧(-1≤fW ts 0)∧(fW ts 0≤9999):=by (refine ⟨I,rfl,by simp [fW],by simp [fW]⟩)
 refine bH (ι:={z:Nat // (z≤ts.length)∧(eJ (-1) ts=eJ (fW ts z) (ts.drop z))∧(-1≤fW ts z)∧(fW ts z≤9999)}) [1,4,16,17] [1,2] U U (fun z=>[(3,(vI (fW ts z.1))),(18,(vI (z.1:Int)))]) (fun z=>[]) (fun _=>rfl) (fun _=>rfl) (fun z=>ts.length-z.1) ⟨0,D⟩ (aT U) (aH [1,2]) ?_
 clear D
 rintro ⟨i,⟨An,A,A0,A1⟩⟩ J13 E
 try dsimp only
 refine WS fun _ L=>rP 1 [] mn ?_
 refine RK L<|ah fun _ M=>bL U (aL fun k=>?_) (aM fun k=>?_)
 ·refine bu<|ab<|ab<|au<|KK B<|WS fun _ O=>rP 2 [] mn ?_
  refine RK O<|an<|Q1 hQ U U U ?_
  exact cI (if_pos (vp A I I)).symm
 refine WK M<|ah fun _ F=>av<|WS fun _ N=>?_
 obtain ⟨x,hx⟩:=aJ ts i I
 have A2:=bG al.cells hx
 refine rS (IA i U (aD 1 U) yr dc I I) ?_
 have A6:=hside x (aR hx)
 refine rS (oI i 0 (al.cells x) U bX (aD 1 U) A2 U dc U U)<|AL U Gi fun A3=>fP U Il U<|RK N ?_
 refine oi (ι:=Unit) [1,3,4,6,16,17,18] [0,1,2] U U (fun z=>[(7,(vB (decide (x.iY=0∧x.eD.Lo=0∧x.eD.Hi=0))))]) (fun z=>[]) (fun _=>rfl) (fun _=>rfl) ?_ fun K20 G=>?_
 ·intro _
  try dsimp only
  refine oi (ι:=Unit) [1,3,4,6,7,16,17,18] [0,1,2] U U (fun z=>[(8,(vB (decide ((1≤x.iY∧x.iY≤2)∧x.eD.Lo≤x.eD.Hi∧500≤x.eD.Lo∧x.eD.Hi≤20000))))]) (fun z=>[]) (fun _=>rfl) (fun _=>rfl) ?_ fun K21 H=>?_
  ·intro _
   try dsimp only
   refine ah fun _ AB=>WS fun _ C=>rP 4 [] (mc 0 U mn) ?_
   refine cY (xs:=[.tmp 44]) (cs:=[(vI x.Id)]) U cp ja U U U U (by simp [Value.cells]) U U fun h=>?_
   refine rS (CL (dT.eq (o1 ((fW ts i)+1) 9999 ([x.Id]) (some ⟨h,0,none⟩) 1 (by (simp; done))) cS) (aw (aZ 0 U U (by simp [bB]) U)<|aI) U) ?_
   refine rP 2 [] mn ?_
   refine cQ (t:=48) U (bp fun o=>?_) (bq fun o=>?_)
   ·refine bf 26 U<|RK C<|aO U<|WS fun _ P=>bf 1 U<|RK P<|bu<|ab<|iw U<|ab<|ab<|au<|KK B<|WS fun _ R=>rP 2 [] mn ?_
    refine RK R<|an<|Q1 hQ U U U ?_
    exact cI (if_neg (by rw [dF A hx (by simp only [bJ,dI]; omega)]; decide)).symm
   refine bf 1 U<|rS (LP (aa.cells x.ku) 1 U bX U U U)<|rS (CL (v9 x.ku 1 30000) (aI) U)<|rP 3 [] mn ?_
   refine cQ (t:=54) U (bp fun p=>?_) (bq fun p=>?_)
   ·refine bf 20 U<|RK C<|aO U<|WS fun _ S=>bf 1 U<|RK S<|bu<|ab<|iw U<|ab<|ab<|au<|KK B<|WS fun _ T=>rP 2 [] mn ?_
    refine RK T<|an<|Q1 hQ U U U ?_
    exact cI (if_neg (by rw [dF A hx (by simp only [bJ,dI]; omega)]; decide)).symm
   refine bf 1 U<|rS (LP (aa.cells x.lP) 1 U bX U U U)<|rS (CL (v9 x.lP 0 5000) (aI) U)<|rP 3 [] mn ?_
   refine cQ (t:=60) U (bp fun q=>?_) (bq fun q=>?_)
   ·refine bf 14 U<|RK C<|aO U<|WS fun _ AA=>bf 1 U<|RK AA<|bu<|ab<|iw U<|ab<|ab<|au<|KK B<|WS fun _ V=>rP 2 [] mn ?_
    refine RK V<|an<|Q1 hQ U U U ?_
    exact cI (if_neg (by rw [dF A hx (by simp only [bJ,dI]; omega)]; decide)).symm
   refine rP 2 [] (mc 1 U mn) ?_
   refine cY (xs:=[.tmp 62]) (cs:=[(vI x.Ay)]) U cp ja U U U U (by simp [Value.cells]) U U fun j=>?_
   refine rS (CL (dT.eq (o1 0 5000 ([x.Ay]) (some ⟨j,0,none⟩) 1 (by (simp; done))) cS) (aw (aZ 0 U U (by simp [bB]) U)<|aI) U) ?_
   refine rP 3 [] mn ?_
   refine cQ (t:=67) U (bp fun r=>?_) (bq fun r=>?_)
   ·refine bf 7 U<|RK C<|aO U<|WS fun _ W=>bf 1 U<|RK W<|bu<|ab<|iw U<|ab<|ab<|au<|KK B<|WS fun _ X=>rP 2 [] mn ?_
    refine RK X<|an<|Q1 hQ U U U ?_
    exact cI (if_neg (by rw [dF A hx (by simp only [bJ,dI]; omega)]; decide)).symm
   refine rP 3 [] mn ?_
   refine bZ (t:=70) U (bq fun s=>?_) (bp fun s=>?_)
   ·refine bf 4 U<|RK C<|aW U<|WK AB<|aj<|fw 3 [] (mc 2 U mn) U<|aC<|aG<|KK F<|aj<|rP 2 [] mn ?_
    refine aC ?_
    have f:(vI (fW ts (i+1)))=(vI x.Id):=by rw [fR hx]
    refine aS (E ⟨(i+1),⟨I,gM A hx (by simp only [bJ,dI]; omega),by rw [fR hx]; omega,by rw [fR hx]; omega⟩⟩ _ _ _ U os (ct 4<|aX U f<|aT U) (aH [3,4]))
   refine rP 4 [] mn ?_
   refine RK C<|bL U (bq fun u=>?_) (bp fun u=>?_)
   ·refine WK AB<|aj<|fw 3 [] (mc 2 U mn) U<|aC<|aG<|KK F<|aj<|rP 2 [] mn ?_
    refine aC ?_
    have e:(vI (fW ts (i+1)))=(vI x.Id):=by rw [fR hx]
    refine aS (E ⟨(i+1),⟨I,gM A hx (by simp only [bJ,dI]; omega),by rw [fR hx]; omega,by rw [fR hx]; omega⟩⟩ _ _ _ U os (ct 4<|aX U e<|aT U) (aH [3,4]))
   refine WS fun _ Y=>bf 1 U<|RK Y<|bu<|ab<|iw U<|ab<|ab<|au<|KK B<|WS fun _ Z=>rP 2 [] mn ?_
   refine RK Z<|an<|Q1 hQ U U U ?_
   exact cI (if_neg (by rw [dF A hx (by simp only [bJ,dI]; omega)]; decide)).symm
  refine aj<|rP 2 [] (mc 0 U mn) ?_
  refine rS (SX (vZ (m:=x.iY) U U TU oJ (vq (by first|assumption|omega))) U U)<|cY (xs:=[.tmp 33]) (cs:=[(vI x.iY)]) U cp ja U U U U (by simp [Value.cells]) U U fun g=>?_
  refine rS (CL (dT.eq (o1 1 2 ([x.iY]) (some ⟨g,0,none⟩) 1 (by (simp; done))) cS) (aw (aZ 0 U U (by simp [bB]) U)<|aI) U) ?_
  refine rP 1 [] mn ?_
  refine bZ (t:=36) U (aL fun n=>?_) (aM fun n=>?_)
  ·refine rP 5 [] mn ?_
   refine aC ?_
   have d:(decide ((1≤x.iY∧x.iY≤2)∧x.eD.Lo≤x.eD.Hi∧500≤x.eD.Lo∧x.eD.Hi≤20000))=false:=cf I
   refine aS (jC (ct 8<|ng U d<|dh.nil _) (aH [1,2,3]) (H ()))
  refine bf 1 U<|rS (LP (aa.cells x.eD) 1 U bX U U U)<|rS (CL (v9 x.eD 500 20000) (aI) U)<|rP 2 [] mn ?_
  refine aC ?_
  have c:(decide ((1≤x.iY∧x.iY≤2)∧x.eD.Lo≤x.eD.Hi∧500≤x.eD.Lo∧x.eD.Hi≤20000))=(decide (x.eD.Lo≤x.eD.Hi∧500≤x.eD.Lo∧x.eD.Hi≤20000)):=decide_eq_decide.2 I
  refine aS (jC (ct 8<|ng U c<|dh.nil _) (aH [1,2,3]) (H ()))
 refine aj<|fw 2 [] (mc 0 U mn) U<|rS (BI U lu)<|rP 1 [] mn ?_
 refine bZ (t:=25) U (aL fun l=>?_) (aM fun l=>?_)
 ·refine rP 6 [] mn ?_
  refine aC ?_
  have b:(decide (x.iY=0∧x.eD.Lo=0∧x.eD.Hi=0))=false:=cf I
  refine aS (jC (ct 7<|ng U b<|dh.nil _) (aH [0,1,2]) (G ()))
 refine bf 1 U<|rS (LP (aa.cells x.eD) 0 U bX U U U)<|rS (SX (bh (xs:=[]) (cs:=(aa.cells (aa.mk 0 0))) U U (bg gp U)) U U)<|rS (BI U (s8 _ _ x.eD (aa.mk 0 0)))<|rP 2 [] mn ?_
 refine aC ?_
 have a:(decide (x.iY=0∧x.eD.Lo=0∧x.eD.Hi=0))=(decide (x.eD=(aa.mk 0 0))):=decide_eq_decide.2 (by (simp only [aa.ext_iff] at *; omega))
 refine aS (jC (ct 7<|ng U a<|dh.nil _) (aH [0,1,2]) (G ()))
end
section
open Go.RowKit
theorem KI (n lo hi:Int) (g1 g2:Nat):
 dT Tryz.prog 64 [(vI n),(vP g1),(vP g2)] [(bV g1 3 [(vI lo)]),(bV g2 3 [(vI hi)])] (vB (decide (n<lo∨hi<n))):=by
 refine bx kr Tryz.func64 U U fun D Q hQ hN=>?_
 try dsimp only
 refine WS fun _ B=>bf 1 U<|RK B<|WS fun _ A=>rP 4 [] (mr 0 U mn) ?_
 refine cQ (t:=8) U (aM fun C=>?_) (aL fun C=>?_)
 ·refine rP 5 [] mn ?_
  refine RK A<|an<|Q1 hQ U U U ?_
  exact cB (fH I).symm
 refine rP 5 [] (mr 1 U mn) ?_
 refine RK A<|an<|Q1 hQ U U U ?_
 exact cB (decide_eq_decide.2 I)
theorem j4 (lo hi:Int) (l:List Int) (lA:OA) (lC:Nat) (hlen:l.length≤1000000):
 dT Tryz.prog 37 [(vI lo),(vI hi),(vS lA l.length lC)] [(rd lA l.length 1 (l.map iC))] (vB (pO lo hi l)):=by
 refine bx kr Tryz.func37 U U fun F Q hQ hN=>?_
 try dsimp only
 refine WS fun _ D=>um U U fun A=>um U U fun B=>bf 1 U<|RK D<|WS fun _ E=>rP 1 [] mn ?_
 refine rS (FU U) ?_
 refine rS (CL (si l lA lC (Value.func (.func 64) [].toArray [(vP A),(vP B)].toArray) (fun C=>(decide (C<lo∨hi<C))) (eW [(bV A 3 [(vI lo)]),(bV B 3 [(vI hi)])]) (by intro C _; exact nj (fi:=[]) (ca:=[(vP A),(vP B)]) (l3 (KI C lo hi A B) (bj [0,1]))) hlen) (fD 2 U U<|aw (l6 (bj [1,0]))<|aI) U) ?_
 refine rP 2 [] mn ?_
 refine RK E<|an ?_
 exact Q1 hQ U U U U
theorem Fk (s:aa):
 dT Tryz.prog 65 [(vA (aa.cells s))] [] (vB (decide (iJ s))):=by
 refine bx kr Tryz.func65 U U fun F Q hQ hN=>?_
 try dsimp only
 refine WS fun _ B=>fK U fun E=>bf 1 U<|RK B<|WS fun _ A=>rP 4 [] (mc 0 U mn) ?_
 refine cY (xs:=[.tmp 4,.tmp 6]) (cs:=[(vI s.Lo),(vI s.Hi)]) U cp ja U U U U (by simp [Value.cells]) U U fun C=>?_
 refine rS (CL (dT.eq (j4 1 600000 ([s.Lo,s.Hi]) (some ⟨C,0,none⟩) 2 (by (simp; done))) qP) (aw (aZ 0 U U (by simp [bB]) U)<|aI) U) ?_
 refine rP 1 [] mn ?_
 refine bZ (t:=9) U (aL fun D=>?_) (aM fun D=>?_)
 ·refine rP 7 [] mn ?_
  refine RK A<|an<|Q1 hQ U U U ?_
  simp only [iJ]
  exact cB (cf I).symm
 refine rP 7 [] (mc 1 U mn) ?_
 refine RK A<|an<|Q1 hQ U U U ?_
 simp only [iJ]
 exact cB (decide_eq_decide.2 I)
theorem KC (d:ax) (sgA:OA) (sgC:Nat):
 dT Tryz.prog 198 [(vA (bk.cells (bk.mk d.Out d.eH d.Time (mG d.cr sgA sgC))))] [(rd sgA d.cr.ag.length 2 (d.cr.ag.map aK.cells))] (vB (decide (l8 d.cr))):=by
 refine bx kr Tryz.func198 U U fun F Q hQ hN=>?_
 try dsimp only
 refine WS fun _ B=>fK U fun E=>bf 1 U<|RK B<|WS fun _ A=>rP 5 [] (mc 0 U mn) ?_
 refine bZ (t:=7) U (aL fun C=>?_) (aM fun C=>?_)
 ·refine rP 13 [] mn ?_
  refine RK A<|an<|Q1 hQ U U U ?_
  simp only [l8]
  exact cB (cf I).symm
 refine rP 6 [] (mc 0 U mn) ?_
 refine bZ (t:=13) U (aL fun D=>?_) (aM fun D=>?_)
 ·refine rP 7 [] mn ?_
  refine RK A<|an<|Q1 hQ U U U ?_
  simp only [l8]
  exact cB (cf I).symm
 refine rP 7 [] (mc 0 U mn) ?_
 refine RK A<|an<|Q1 hQ U U U ?_
 simp only [l8]
 exact cB (decide_eq_decide.2 I)
theorem R_ (d:ax) (sgA:OA) (sgC:Nat):
 dT Tryz.prog 196 [(vA (bk.cells (bk.mk d.Out d.eH d.Time (mG d.cr sgA sgC))))] [(rd sgA d.cr.ag.length 2 (d.cr.ag.map aK.cells))] (vB d.Out):=by
 refine bx kr Tryz.func196 U U fun D Q hQ hN=>?_
 try dsimp only
 refine WS fun _ A=>fK U fun C=>bf 1 U<|RK A<|WS fun _ B=>rP 3 [] (mc 0 U mn) ?_
 refine RK B<|an<|Q1 hQ U U U ?_
 rfl
theorem SU (d:ax) (sgA:OA) (sgC:Nat):
 dT Tryz.prog 199 [(vA (bk.cells (bk.mk d.Out d.eH d.Time (mG d.cr sgA sgC))))] [(rd sgA d.cr.ag.length 2 (d.cr.ag.map aK.cells))] (vB d.eH):=by
 refine bx kr Tryz.func199 U U fun D Q hQ hN=>?_
 try dsimp only
 refine WS fun _ A=>fK U fun C=>bf 1 U<|RK A<|WS fun _ B=>rP 3 [] (mc 0 U mn) ?_
 refine RK B<|an<|Q1 hQ U U U ?_
 rfl
theorem S0 (d:ax) (sgA:OA) (sgC:Nat):
 dT Tryz.prog 201 [(vA (bk.cells (bk.mk d.Out d.eH d.Time (mG d.cr sgA sgC))))] [(rd sgA d.cr.ag.length 2 (d.cr.ag.map aK.cells))] (vB true):=by
 refine bx kr Tryz.func201 U U fun D Q hQ hN=>?_
 try dsimp only
 refine WS fun _ A=>fK U fun C=>bf 1 U<|RK A<|WS fun _ B=>rP 1 [] mn ?_
 refine RK B<|an<|Q1 hQ U U U ?_
 rfl
end
section
open Go.RowKit
theorem Au (r:bT) (kA:OA) (kC:Nat) (az:List RA) (cA:OA) (cC:Nat) (bA:OA) (bC:Nat) (slA:OA) (slC:Nat) (drA:OA) (drC:Nat) (ha:List cO) (heA:OA) (heC:Nat) (tz:List RA) (tA:OA) (tC:Nat) (ms:Value) (gw:Nat) (l:List Int) (lA:OA) (lC:Nat) (hin:e9 r az ha) (hlen:l.length≤1000000):
 dT Tryz.prog 38 [(vP gw),(vS lA l.length lC)] [(rd kA r.ao.aP.length 9 (r.ao.aP.map al.cells)),(rd cA r.ao.ak.length 2 (List.zipWith ar.cells r.ao.ak az)),(eW (aV ar.g0 r.ao.ak az)),(rd bA r.ao.ae.length 4 (r.ao.ae.map bD.cells)),(rd slA r.aQ.length 1 (r.aQ.map iC)),(rd drA r.bQ.length 1 (r.bQ.map iC)),(rd heA r.ay.length 1 (List.zipWith cP r.ay ha)),(eW (aV iu r.ay ha)),(rd tA ((cN r).length) 1 (List.zipWith DC (cN r) tz)),(eW (aV MA (cN r) tz)),(bV gw 91 (fI.cells (fI.mk (oH r kA kC cA cC bA bC slA slC drA drC heA heC) (br.mk tA ((cN r).length) tC) ms))),(rd lA l.length 1 (l.map iC))] (vB (pO 0 ((r.aQ.length:Int)-1) l)):=by
 have C:=hin.line
 have G:=hin.iO
 have H:=hin.has
 have E:=hin.iN
 have D:=hin.draw
 have F:=dA (r:=r)
 refine bx kr Tryz.func38 U U fun AA Q hQ hN=>?_
 try dsimp only
 refine WS fun _ A=>bf 1 U<|RK A<|WS fun _ B=>bf 1 U<|rS (SX (bI U U) U U)<|fw 6 [] (mr 10 U mn) U<|rS (CL (j4 0 ((r.aQ.length:Int)-1) l lA lC hlen) (bj [11]) U)<|rP 1 [] mn ?_
 refine RK B<|an ?_
 exact Q1 hQ U U U U
theorem xA (a b:Bool):
 dT Tryz.prog 39 [(vB a),(vB b)] [] (Value.int .u8 (if a=true then 2 else if b=true then 1 else 0)):=by
 refine bx kr Tryz.func39 U U fun J Q hQ hN=>?_
 try dsimp only
 refine WS fun _ C=>bf 1 U<|RK C<|ah fun _ D=>av<|WS fun _ E=>rP 2 [] mn ?_
 refine RK E<|cy U (fun A=>?_) (fun A=>?_)
 ·refine WS fun _ F=>rP 1 [] mn ?_
  refine RK F<|an<|Q1 hQ U U U ?_
  rw [if_pos A]
 refine WS fun _ G=>rP 2 [] mn ?_
 refine RK G<|cy U (fun B=>?_) (fun B=>?_)
 ·refine WS fun _ H=>rP 1 [] mn ?_
  refine RK H<|an<|Q1 hQ U U U ?_
  (rw [if_neg (by rw [A]; decide),if_pos B])
 refine b_<|aG<|KK D<|WS fun _ AA=>rP 1 [] mn ?_
 refine RK AA<|an<|Q1 hQ U U U ?_
 (rw [if_neg (by rw [A]; decide),if_neg (by rw [B]; decide)])
end
section
open Go.RowKit
theorem P2 {P:Program} {t:TypeId} {x y:Operand} {k e:TypeId} {p:Option Nat} (h:P.underlying t=some (.map k e)):gK P .eql t x y (.map p) (.map none) (.bool p.isNone):=fun w=>by
 have A:(Op.equal t (.map p) (.map none)).run P w= .ok p.isNone w:=by
  unfold Op.equal
  show (Op.equalIn (9999+1) t (.map p) (.map none)).run P w=_
  unfold Op.equalIn
  cases p<;>simp [run_underlying h]
 have B:eqGuard .eql t x y (.map p) (.map none)=pure ():=rfl
 rw [B]
 show (Sem.run P (do let b ← Op.equal t (.map p) (.map none); pure (vB b)) w)=_
 simp [A]
theorem Fb {P:Program} {r:Nat} {es:Array MapEntry} {clock:Nat} {w:World} (t:TypeId) (hb:w.heap[r]? =some (.map es clock)):
 (Extern.MapsClone.clone #[.iface t (.map (some r))]).run P w= .ok (.iface t (.map (some w.heap.size))) (w.alloc (.map es clock)):=by
 have e:Extern.MapsClone.clone #[.iface t (.map (some r))]=(getObj r >>= fun o=>match o with
  | .map entries clock=>(newObj (.map entries clock) >>= fun n=>pure (.iface t (.map (some n))))
  |_=>stuck "maps.clone: a map expected"):=rfl
 rw [e]
 simp [MapKept.run_getObj_map hb,Result.andThen,go_sem]
theorem Be {P:Program} {xt t k e:TypeId} {v:Value} {w:World} (h:P.underlying t=some (.map k e)):(Instr.typeAssert (.iface t v) xt t false).run P w= .ok v w:=by
 simp [Instr.typeAssert,run_underlying h,go_sem,Result.andThen]
theorem oh {C:List aq} {g t:Nat} {cs:List Value} {n sz:Nat} {es:List (List Value)} (i:Nat) (hC:C[i]? =some (bV g t cs).ro) (h1:es.length=n) (h2: ∀ e∈es,e.length=sz) (h3:es.flatten=cs):il C (rd (some ⟨g,0,none⟩) n sz es).holds:=fun w hw=>
 uY (show (bV g t cs).holds w from hw (bV g t cs).ro (aR hC)) h1 h2 ⟨[],by simp [h3]⟩
section
variable {E:eY} {ops:Array Oper} {Q:cU} {rest:List Oper} {D:List Deferred} {L:List (Nat×Value)} {C:List aq}
variable {dst:Option Nat} {d:Nat} {ty:TypeId} {ps:String} {af:Array Edge} {g:Option (Nat×Bool)}
theorem Lj {P:Program} {t k e:TypeId} {v:Value} {w:World} (h:P.underlying t=some (.map k e)):(Instr.makeInterface t v).run P w= .ok (.iface t v) w:=by
 simp [Instr.makeInterface,run_underlying h,Result.andThen]
theorem Nb {t k e:TypeId} {x:Operand} {v:Value} (hg:ju ops L g=true) (hx:ev L x=some v) (ht:E.P.underlying t=some (.map k e)):SD E ops ⟨dst,.makeInterface t x,ty,ps,af,g⟩ D L C (.iface t v):=
 dE hg sm fun a w hf _=>by
  have e:=hf.ev hx
  simp only [execOp,e]
  rw [Sem.run_bind,Lj ht]
  simp
theorem SN {xt t kt et:TypeId} {x:Operand} {v:Value} (hg:ju ops L g=true) (hx:ev L x=some (.iface t v)) (ht:E.P.underlying t=some (.map kt et)):SD E ops ⟨dst,.typeAssert x xt t false,ty,ps,af,g⟩ D L C v:=
 dE hg sm fun a w hf _=>by
  have e:=hf.ev hx
  simp only [execOp,e]
  rw [Sem.run_bind,Be ht]
  simp
theorem Jv {K:Type} [DecidableEq K] {kV:K→Value} {x:Operand} {ts:Array TypeId} {f:FuncId} {fn:Func} {t b:Nat} {m:List (K×Value)} (hg:ju ops L g=true) (hx:ev L x=some (.iface t (.map (some b)))) (hf:E.P.funcs[f]? =some fn) (hname:(fn.name=="runtime.NumGoroutine")=false)
 (hb:fn.body.isNone=true) (hn:Extern.findNext fn=none) (he:Extern.find fn=some Extern.MapsClone.clone) (hC:il C (gW kV b m).holds) (hd:Nat.blt d E.n=true) (k: ∀ b',RJ E ops Q rest D ((d,.iface t (.map (some b')))::L) (gW kV b' m::C)):
 RJ E ops Q (⟨some d,.call {callee:= .value (.func f),args:= #[x],argTypes:=ts},ty,ps,af,g⟩::rest) D L C:=by
 intro a w B hs
 have hd':d<E.n:=by rw [← Nat.blt_eq]; exact hd
 obtain ⟨es,c,F,hi⟩:=hC w hs.holds
 unfold rD
 rw [if_pos (dK B hg)]
 refine gN (v:= .iface t (.map (some w.heap.size))) (w':=w.alloc (.map es c)) sm ?_ ?_
 ·have e:=B.ev hx
  have G:a.eval (.func f)= .func (.func f) #[] #[]:=rfl
  simp [execOp,resolve,e,G,Deferred.ofValue,invoke,run_callFunc_extern hf hname hb hn he,Fb t F]
 ·refine k _ _ _ (B.put hd' _) (hs.grow (dJ.alloc no w _) (N:=[gW kV w.heap.size m]) ⟨fun A hA=>?_,fun A hA b hb=>?_,List.pairwise_singleton _ _⟩)
  ·simp at hA; subst hA; exact ⟨es,c,heap_alloc_new w _,hi⟩
  ·simp at hA; subst hA; exact Nat.le_of_eq (Eq.symm hb)
end
end
section
open Go.RowKit
theorem wM (lA:OA) (lN lC:Nat):
 ly Tryz.prog 60 [(vS lA lN lC)] [] (fun (x:Nat)=>(Value.func (.func 81) [].toArray [(vP x)].toArray)) (fun (x:Nat)=>True) (fun (x:Nat)=>[(bV x 32 [(vS lA lN lC)])]):=by
 refine dj kr Tryz.func60 U U fun D Q hQ hN=>?_
 try dsimp only
 refine WS fun _ A=>um U U fun C=>bf 1 U<|RK A<|WS fun _ B=>rS (FU U)<|rP 1 [] mn ?_
 refine RK B<|an<|LX hQ C [0] [] mn U U U U ?_
 trivial
theorem KN (nl:List Int) (nlA:OA) (nlC g1:Nat) (hlen:nl.length≤12):
 NJ Tryz.prog 81 [] [(vP g1)] [(rd nlA nl.length 1 (nl.map iC)),(bV g1 32 [(vS nlA nl.length nlC)])] (qH nl):=by
 refine FW kr Tryz.func81 U U fun l J Z A0 T Q hY K AB hQ hN=>?_
 try dsimp only
 refine WS fun _ M=>rP 3 [] (mr 2 U mn) ?_
 refine RK M<|av ?_
 have F:(0≤nl.length)∧(J 0 A0)∧(Fo A0 T A0):=by exact ⟨Nat.zero_le _,K,AB⟩
 refine bH (ι:={z:Nat×aq // (z.1≤nl.length)∧(J z.1 z.2)∧(Fo A0 T z.2)}) [0,1,5,6] [1] U U (fun z=>[(7,(vI (z.1.1:Int)))]) (fun z=>[z.1.2]) (fun _=>rfl) (fun _=>rfl) (fun z=>nl.length-z.1.1) ⟨(0,A0),F⟩ (aT U) (aH [1,0]) ?_
 clear F
 rintro ⟨⟨i,A⟩,⟨G,B,C⟩⟩ J2 L
 try dsimp only at G B C
 try dsimp only
 refine WS fun _ N=>rP 1 [] mn ?_
 refine RK N<|ah fun _ O=>bL U (aL fun AA=>?_) (aM fun AA=>?_)
 ·refine bu<|ab<|ab<|au ?_
  refine hN _ _ _ (gZ (vs:=[]) trivial fun w hs=>Tp 1 U (by rw [te]; have e:nl.length=i:=I; rw [e]; exact B) C hs)
 refine WK O<|ah fun _ P=>av<|WS fun _ R=>?_
 obtain ⟨x,hx⟩:=aJ nl i I
 have S:=bG iC hx
 refine rS (IA i U (aD 0 U) cp dc I I)<|rS (fV i 0 (vI x) U bX (aD 0 U) S U dc U)<|bf 1 U<|RK R<|WS fun _ H=>rP 2 [] mn ?_
 refine Fp 1 hY B C U U U (Ic hx) U U (fun B9 E D=>?_) (fun B9 E D=>?_)
 rotate_left 1
 ·refine rP 1 [] mn ?_
  refine RK H<|aO U<|an ?_
  refine hQ _ _ _ (gZ (vs:=[]) trivial fun w hs=>Pv 1 U E D hs)
 refine bf 1 U<|RK H<|aW U<|b_<|aG<|KK P<|aj<|rP 2 [] mn ?_
 refine aC ?_
 refine aS (L ⟨((i+1),B9),⟨I,E,D⟩⟩ _ _ _ U os (aT U) (aH [0,1]))
end
section
open Go.RowKit
theorem NP (x:Int):
 dT Tryz.prog 134 [(vI x)] [] (vB false):=by
 refine bx kr Tryz.func134 U U fun C Q hQ hN=>?_
 try dsimp only
 refine WS fun _ A=>bf 1 U<|RK A<|WS fun _ B=>rP 4 [] mn ?_
 refine RK B<|an<|Q1 hQ U U U ?_
 simp
theorem Nc (x y:Int):
 dT Tryz.prog 105 [(vI x),(vI y)] [] (vB (decide (x<y))):=by
 refine bx kr Tryz.func105 U U fun C Q hQ hN=>?_
 try dsimp only
 refine WS fun _ A=>bf 1 U<|RK A<|WS fun _ B=>bf 1 U<|rS (CL (NP x) (aI) U)<|rP 11 [] mn ?_
 refine RK B<|an<|Q1 hQ U U U ?_
 exact cB (decide_eq_decide.2 I)
theorem Hk (l:List Int) (lA:OA) (lC:Nat) (hlen:l.length≤1000000):
 Dt Tryz.prog 99 [(vS lA l.length lC),(vI 0),(vI (l.length:Int))] [] (own lA lC 3 1 (l.map iC)) (fun (x:(List Int))=>(vT [])) (fun (x:(List Int))=>x.Perm l∧x.Pairwise (· ≤ ·)) (fun (x:(List Int))=>(own lA lC 3 1 (x.map iC))):=by
 refine mJ kr Tryz.func99 U U fun g Q hQ hN=>?_
 try dsimp only
 refine WS fun _ X=>bf 1 U<|rS (SX (bU (r:= .int .i64 1) U U U (ic ⟨dc,dc⟩)) U U)<|rP 1 [] mn ?_
 refine RK X<|av ?_
 have A:(1≤1∧(1≤l.length∨1=1))∧(l.length=l.length)∧(l.Perm l)∧(Qa l 1):=by exact ⟨I,rfl,List.Perm.refl _,OJ⟩
 refine bH (ι:={z:Nat×(List Int) // (1≤z.1∧(z.1≤l.length∨z.1=1))∧(z.2.length=l.length)∧(z.2.Perm l)∧(Qa z.2 z.1)}) [0,1,2] [] U U (fun z=>[(6,(vI (z.1.1:Int)))]) (fun z=>[(own lA lC 3 1 (z.1.2.map iC))]) (fun _=>rfl) (fun _=>rfl) (fun z=>l.length-z.1.1) ⟨(1,l),A⟩ (aT U) (aH [0]) ?_
 clear A
 rintro ⟨⟨i,m⟩,⟨K,AB,E,F⟩⟩ J2 M
 try dsimp only at K AB E F
 try dsimp only
 refine ah fun _ Y=>WS fun _ Z=>rP 3 [] mn ?_
 refine RK Z<|bL U (aL fun e=>?_) (aM fun e=>?_)
 ·refine bu<|ab<|ab<|au<|LM hN m 0 [] mn U U U U ?_
  exact ⟨E,MY F I⟩
 refine WK Y<|ah fun _ O=>av<|WS fun _ b=>rP 2 [] mn ?_
 refine RK b<|av ?_
 have A:(i≤i)∧(m.length=l.length)∧(m.Perm l)∧(QG m i i):=by exact ⟨Nat.le_refl _,AB,E,Hl F I⟩
 refine bH (ι:={z:Nat×(List Int) // (z.1≤i)∧(z.2.length=l.length)∧(z.2.Perm l)∧(QG z.2 i z.1)}) [0,1,2,6] [] U U (fun z=>[(7,(vI (z.1.1:Int)))]) (fun z=>[(own lA lC 3 1 (z.1.2.map iC))]) (fun _=>rfl) (fun _=>rfl) (fun z=>z.1.1) ⟨(i,m),A⟩ (aT U) (aH [0]) ?_
 clear A
 rintro ⟨⟨j,q⟩,⟨G,B,C,D⟩⟩ J8 W
 try dsimp only at G B C D
 try dsimp only
 refine ah fun _ c=>ah fun _ J=>dB cu 15 kr<|dP 4 [] mn ?_
 refine jo (t:=19) U (aL fun hj=>?_) (aM fun hj=>?_)
 ·refine lz 11 U<|cM<|RK J<|aW U<|bu<|ab<|ab<|au<|aG<|KK O<|aj<|rP 3 [] mn ?_
  refine aC ?_
  refine aS (M ⟨((i+1),q),⟨I,B,C,by exact JB I D⟩⟩ _ _ _ U (by simp only []; omega) (aT U) (aH [0]))
 refine dP 2 [] mn ?_
 obtain ⟨x,hx⟩:=aJ q j I
 have L:=bG iC hx
 refine dS (IA j U (ai (n:=l.length) 0 U sq) cp dc I I) ?_
 refine dS (fV j 0 (vI x) U bX (ai (n:=q.length) 0 U sm) L U dc U)<|dP 3 [] mn ?_
 obtain ⟨y,hy⟩:=aJ q (j-1) I
 have V:=bG iC hy
 refine dS (IA (j-1) U (ai (n:=l.length) 0 U sq) cp dc I I) ?_
 refine dS (fV (j-1) 0 (vI y) U bX (ai (n:=q.length) 0 U sm) V U dc U)<|dS (CL (Nc x y) (aI) U)<|dP 1 [] mn ?_
 refine cM<|RK J<|bL U (aL fun H=>?_) (aM fun H=>?_)
 ·refine bu<|ab<|ab<|au<|aG<|KK O<|aj<|rP 3 [] mn ?_
  refine aC ?_
  refine aS (M ⟨((i+1),q),⟨I,B,C,by exact Lr hx hy I G H D⟩⟩ _ _ _ U (by simp only []; omega) (aT U) (aH [0]))
 refine WK c<|ah fun _ N=>av<|dG cu [15,16,17] [8,9,12,13,14] [] [] [0] U U U U U<|eS U (MV U)<|eS U (MV U)<|eS U (MV U)<|eS U (MV U)<|eS U (BI U (rO ⟨I,I⟩))<|eS U (MV U)<|eS U (MV U)<|eS U (BI U (rO ⟨I,I⟩)) ?_
 refine fS U (IA (j-1) U (ai (n:=l.length) 0 U sq) cp dc I I) ?_
 refine fS U (fV (j-1) 0 (vI y) U bX (ai (n:=q.length) 0 U sm) V U dc U)<|eS U (MV U)<|eS U (MV U) ?_
 refine fS U (IA j U (ai (n:=l.length) 0 U sq) cp dc I I) ?_
 refine fS U (fV j 0 (vI x) U bX (ai (n:=q.length) 0 U sm) L U dc U) ?_
 refine fS U (IA j U (ai (n:=l.length) 0 U sq) cp dc I I) ?_
 refine eV U<|bY U fun T12 P=>ew (k:=j) (o:=0) (vs:=[(vI y)]) (es':=(List.map iC (q.set j y))) (C':=[(own lA lC 3 1 (List.map iC (q.set j y)))]) 0 U U U Bz U U U U L U dc (by exact (List.map_set (f:=iC) (l:=q) (i:=j) (a:=y)).symm) U<|aC (P _ _ (aH []) ?_)
 refine bY U fun T13 R=>?_
 obtain ⟨d,AA⟩:=aJ (q.set j y) (j-1) os
 have hx15m:(List.map iC (q.set j y))[(j-1)]? =some (iC d):=by rw [fq,AA]; rfl
 refine rS (IA (j-1) U (ai (n:=l.length) 0 U sq) cp dc I I) ?_
 refine aC (R _ _ (aH []) ?_)
 refine bY U fun T16 S=>ew (k:=(j-1)) (o:=0) (vs:=[(vI x)]) (es':=(List.map iC ((q.set j y).set (j-1) x))) (C':=[(own lA lC 3 1 (List.map iC ((q.set j y).set (j-1) x)))]) 0 U U U Bz U U U U hx15m U dc (by exact (List.map_set (f:=iC) (l:=(q.set j y)) (i:=(j-1)) (a:=x)).symm) U<|aC (S _ _ (aH []) ?_)
 refine fF U<|aG<|KK N<|aj<|rP 3 [] mn ?_
 refine aC ?_
 have T:(vI (((j-1):Nat):Int))=(vI ((j:Int)-1)):=by exact cI I
 refine aS (W ⟨((j-1),((q.set j y).set (j-1) x)),⟨I,by simp; exact B,(Ig hx hy).trans C,IM hx hy I G H D⟩⟩ _ _ _ U (by simp only []; omega) (ct 4<|aX U T<|dh.nil _) (aH [0]))
theorem NA (x:Int) (hx:0≤x∧x≤100):
 ly Tryz.prog 109 [(Value.int .u64 x)] [] (fun (x:Int)=>(vI x)) (fun (x:Int)=>True) (fun (x:Int)=>[]):=by
 refine dj kr Tryz.func109 U U fun N Q hQ hN=>?_
 try dsimp only
 refine WS fun _ D=>bf 1 U<|RK D<|ah fun _ E=>WS fun _ F=>rP 1 [] mn ?_
 refine rS (BI U Gt)<|RK F<|cy U (aM fun L=>?_) (aL fun L=>?_)
 ·exfalso; omega
 refine WK E<|ah fun _ G=>WS fun _ H=>rP 1 [] mn ?_
 refine rS (BI U Gt)<|RK H<|cy U (aM fun M=>?_) (aL fun M=>?_)
 ·exfalso; omega
 refine WK G<|ah fun _ AA=>WS fun _ J=>rP 1 [] mn ?_
 refine rS (BI U Gt)<|RK J<|cy U (aM fun C=>?_) (aL fun C=>?_)
 ·exfalso; omega
 refine WK AA<|WS fun _ B=>bf 2 U<|rS (SX (vZ (m:=x) U U SW TU (C9 (by first|assumption|omega))) U U)<|Qj (k:=(x).toNat) U U U VP I (Nat.lt_of_lt_of_le (m:=200) I (of_decide_eq_true kr)) U fun A K=>rS (SX (vZ (m:=A) U U TU oJ (vq (by first|assumption|omega))) U U)<|rP 2 [] mn ?_
 refine RK B<|an<|LX hQ (0+A) [] [] mn U U U U ?_
 trivial
theorem Qx (x:Int) (hx:0≤x∧x≤100):
 ly Tryz.prog 75 [(Value.int .u64 x)] [] (fun (x:Int)=>(vI x)) (fun (x:Int)=>True) (fun (x:Int)=>[]):=by
 refine dj kr Tryz.func75 U U fun F Q hQ hN=>?_
 try dsimp only
 refine WS fun _ A=>bf 1 U<|RK A<|ah fun _ B=>aW U<|WK B<|WS fun _ C=>rP 1 [] mn ?_
 refine cX (NA x hx) (aI) U fun E D=>?_
 try dsimp only
 refine rP 1 [] mn ?_
 refine RK C<|an<|LX hQ E [] [] mn U U U U ?_
 trivial
theorem SS (l:List Int) (lA:OA) (lC:Nat) (u:Int) (hlen:l.length≤12):
 Dt Tryz.prog 74 [(vS lA l.length lC),(vI 0),(vI (l.length:Int)),(vI u)] [] (own lA lC 3 1 (l.map iC)) (fun (x:(List Int))=>(vT [])) (fun (x:(List Int))=>x.Perm l∧x.Pairwise (· ≤ ·)) (fun (x:(List Int))=>(own lA lC 3 1 (x.map iC))):=by
 refine mJ kr Tryz.func74 U U fun K Q hQ hN=>?_
 try dsimp only
 refine WS fun _ A=>bf 1 U<|RK A<|WS fun _ B=>bf 1 U<|RK B<|av<|jX 1<|d_ fun R3 AA=>av<|WS fun _ C=>bf 4 U<|RK C<|ah fun _ H=>WS fun _ D=>rP 2 [] mn ?_
 refine RK D<|bL U (aL fun G=>?_) (aM fun G=>?_)
 ·exfalso; omega
 refine WS fun _ E=>rP 3 [] mn ?_
 refine iP 0 U U U U (Hk l lA lC I) U kd U (fun J F=>?_)
 try dsimp only
 refine RK E<|an<|LM hQ J 0 [] mn U U U U ?_
 assumption
theorem AW (l:List Int) (lA:OA) (lC:Nat) (hlen:l.length≤12):
 Dt Tryz.prog 51 [(vS lA l.length lC)] [] (own lA lC 3 1 (l.map iC)) (fun (x:(List Int))=>(vT [])) (fun (x:(List Int))=>x.Perm l∧x.Pairwise (· ≤ ·)) (fun (x:(List Int))=>(own lA lC 3 1 (x.map iC))):=by
 refine mJ kr Tryz.func51 U U fun F Q hQ hN=>?_
 try dsimp only
 refine WS fun _ A=>bf 3 U<|RK A<|aj<|rP 3 [] mn ?_
 refine rS (SX (vZ (m:=(l.length:Int)) U U oJ Sr (zU (by first|assumption|omega))) U U)<|cX (Qx (l.length:Int) I) (aI) U fun E B=>?_
 try dsimp only
 refine iP 0 U U U U (SS l lA lC E hlen) U kd U (fun D C=>?_)
 try dsimp only
 refine aC<|LM hN D 0 [] mn U U U U ?_
 assumption
end
section
open Go.RowKit
theorem Io (nl:List Int) (nlA:OA) (nlC g1:Nat) (hlen:nl.length≤12):
 ly Tryz.prog 94 [(vS none 0 0),(Value.func (.func 81) [].toArray [(vP g1)].toArray)] [(rd nlA nl.length 1 (nl.map iC)),(bV g1 32 [(vS nlA nl.length nlC)])] (fun (x:(OA)×Nat)=>(vS x.1 nl.length x.2)) (fun (x:(OA)×Nat)=>True) (fun (x:(OA)×Nat)=>[(own x.1 x.2 3 1 (nl.map iC))]):=by
 refine dj kr Tryz.func94 U U fun R Q hQ hN=>?_
 try dsimp only
 refine WS fun _ D=>um U U fun J=>bf 1 U<|RK D<|ah fun _ E=>WS fun _ G=>rP 1 [] mn ?_
 refine RK G<|av<|kl 1 U (by exact fun _ h=>h)<|kl 3 U (by exact fun _ h=>h)<|fQ 3 1 ?_
 refine Gb (L0:=[(2,(vP J))]) (F:=[(rd nlA nl.length 1 (nl.map iC)).ro,(bV g1 32 [(vS nlA nl.length nlC)]).ro]) (xs:=(qH nl)) (fun k (y:(OA)×Nat)=>True) (fun k y=>[(own y.1 y.2 3 1 ((nl.take k).map iC)),(bV J 32 [(vS y.1 ((nl.take k).length) y.2)]),(rd nlA nl.length 1 (nl.map iC)).ro]) (fun _ (_:Unit)=>False) (fun _ _=>[]) [0,3,4] [2,1] (none,0) U U (KN nl nlA nlC g1 (by first|assumption|omega|(simp; done))) U U U (by trivial) (by simp only [List.forall_mem_cons,List.not_mem_nil,false_imp_iff,implies_true,and_true]; exact ⟨⟨_,sm,(dD (bP _))⟩,⟨_,sm,(dD (bP _))⟩⟩) (by exact Es) U (aT U) ?_ ?_ (fun _ _ _ h=>h.elim) (fun _ _ h=>h.elim)
 rotate_left 1
 ·rintro O ⟨a,c⟩ AA
  try dsimp only
  rw [ym]
  refine aG<|KK E<|WS fun _ A=>rP 2 [] (mc 4 U mn) ?_
  refine RK A<|an<|hQ _ _ _ (ou 0 U U<|gZ (vs:=[(vS a nl.length c)]) ⟨U,trivial⟩ fun w hs=>IT (a,c) [3] ?_ ?_ U U U hs)
  ·rfl
  ·trivial
 rintro k x ⟨a,c⟩ l ra rb S T K5 Qr6 hx K H B L M
 obtain ⟨y,hy,rfl⟩:=Ib hx
 try dsimp only
 refine aj<|rP 1 [] mn ?_
 refine aC<|aS (H _ _ ?_)
 refine av<|aj<|rP 2 [] (mc 2 U mn) ?_
 refine cY (xs:=[.tmp 9]) (cs:=[(vI y)]) U cp ja U U U U (by simp [Value.cells]) U U fun P=>?_
 refine db (es2:=(List.map iC (nl.take (k+1)))) (m':=(nl.take (k+1)).length) 2 U U U p7 U U sm (aZ (es:=List.map iC [y]) 0 U U (by simp [bB]) U) (kf _) (by simp; omega) (by simp [maxLen]; omega) (by rw [jU hy]; simp) sm U fun N C=>?_
 try dsimp only
 refine Vg U AM U U<|aC<|aG ?_
 exact B (N,C) _ _ (by trivial) (aH [1,2,3,4])
theorem GW (nl:List Int) (nlA:OA) (nlC g1:Nat) (hlen:nl.length≤12):
 ly Tryz.prog 67 [(Value.func (.func 81) [].toArray [(vP g1)].toArray)] [(rd nlA nl.length 1 (nl.map iC)),(bV g1 32 [(vS nlA nl.length nlC)])] (fun (x:(OA)×Nat)=>(vS x.1 nl.length x.2)) (fun (x:(OA)×Nat)=>True) (fun (x:(OA)×Nat)=>[(own x.1 x.2 3 1 (nl.map iC))]):=by
 refine dj kr Tryz.func67 U U fun G Q hQ hN=>?_
 try dsimp only
 refine WS fun _ A=>bf 1 U<|RK A<|WS fun _ B=>rP 1 [] mn ?_
 refine cX (Io nl nlA nlC g1 hlen) (bj [0,1]) U fun F E=>?_
 obtain ⟨C,D⟩:=F
 try dsimp only
 refine rP 1 [] mn ?_
 refine RK B<|an<|LX hQ (C,D) [0] [] mn U U U U ?_
 trivial
theorem x4 (nl:List Int) (nlA:OA) (nlC g1:Nat) (hlen:nl.length≤12):
 ly Tryz.prog 41 [(Value.func (.func 81) [].toArray [(vP g1)].toArray)] [(rd nlA nl.length 1 (nl.map iC)),(bV g1 32 [(vS nlA nl.length nlC)])] (fun (x:(OA)×Nat)=>(vS x.1 nl.length x.2)) (fun (x:(OA)×Nat)=>True) (fun (x:(OA)×Nat)=>[(own x.1 x.2 3 1 ((df nl).map iC))]):=by
 refine dj kr Tryz.func41 U U fun J Q hQ hN=>?_
 try dsimp only
 refine WS fun _ B=>bf 1 U<|RK B<|WS fun _ C=>rP 1 [] mn ?_
 refine cX (GW nl nlA nlC g1 hlen) (bj [0,1]) U fun AA H=>?_
 obtain ⟨F,G⟩:=AA
 try dsimp only
 refine bf 1 U<|RK C<|WS fun _ D=>rP 1 [] mn ?_
 refine iP 0 U U U U (AW nl F G hlen) U kd U (fun m A=>?_)
 try dsimp only
 refine RK D<|WS fun _ E=>?_
 obtain rfl:=qB A.1 A.2
 skip
 refine rP 2 [] mn ?_
 refine RK E<|an<|LX hQ (F,G) [0] [] mn U U U U ?_
 trivial
end
section
open Go.RowKit
section
variable {K:Type} [DecidableEq K] {kV:K→Value}
variable {E:eY} {ops:Array Oper} {Q:cU} {rest:List Oper} {D:List Deferred} {L:List (Nat×Value)} {C:List aq}
variable {ty:TypeId} {ps:String} {af:Array Edge} {g:Option (Nat×Bool)}
theorem pd {t kt et:TypeId} {xm xk:Operand} {ts:Array TypeId} {b:Nat} {x:K} {m m':List (K×Value)} {C':List aq} (i:Nat) (hg:ju ops L g=true) (hm:ev L xm=some (.map (some b))) (hk:ev L xk=some (kV x)) (hts:ts[0]? =some t)
 (ht:E.P.underlying t=some (.map kt et)) (hkt:uJ E.P kt kV) (hC:C[i]? =some (gW kV b m)) (hm':cq m x=m') (hC':C.set i (gW kV b m')=C') (k:RJ E ops Q rest D L C'):
 RJ E ops Q (⟨none,.call {callee:= .builtin .delete,args:= #[xm,xk],argTypes:=ts},ty,ps,af,g⟩::rest) D L C:=by
 subst hm' hC'
 intro a w A hs
 unfold rD
 rw [if_pos (dK A hg)]
 obtain ⟨es,c,he,hi⟩:=hs.holds _ (aR hC)
 have B:(getObj b).run E.P w= .ok (.map es c) w:=MapKept.run_getObj_map he
 rcases oL (P:=E.P) (w:=w) (x:=x) hkt hi with ⟨F,G⟩|⟨j,AA,F,G,H⟩
 ·refine gN (v:= .tuple #[]) (w':={w with heap:=w.heap.setIfInBounds b (.map es c)}) sm ?_ ?_
  ·simp [execOp,resolve,invoke,builtin,A.ev hm,A.ev hk,Builtin.delete_,hts,run_underlying ht,B,iL hkt,F,MapKept.run_setObj_map _ he]
  ·refine k _ _ ⟨A.defers,A.size,A.at_⟩ (hs.Dr (b:=b) i hC U U (nc _) (fun _ h=>h) ⟨_,_,o_ he,?_⟩)
   rw [DU G]; exact hi
 ·refine gN (v:= .tuple #[]) (w':={w with heap:=w.heap.setIfInBounds b (.map (es.eraseIdxIfInBounds j) c)}) sm ?_ ?_
  ·simp [execOp,resolve,invoke,builtin,A.ev hm,A.ev hk,Builtin.delete_,hts,run_underlying ht,B,iL hkt,F,MapKept.run_setObj_map _ he]
  ·exact k _ _ ⟨A.defers,A.size,A.at_⟩ (hs.Dr (b:=b) i hC U U (nc _) (fun _ h=>h) ⟨_,_,o_ he,hi.del G⟩)
end
end
section
open Go.RowKit
theorem K2 (n lo hi:Int) (g1 g2:Nat):
 dT Tryz.prog 140 [(vI n),(vP g1),(vP g2)] [(bV g1 3 [(vI lo)]),(bV g2 3 [(vI hi)])] (vB (decide (n<lo∨hi<n))):=by
 refine bx kr Tryz.func140 U U fun D Q hQ hN=>?_
 try dsimp only
 refine WS fun _ B=>bf 1 U<|RK B<|WS fun _ A=>rP 4 [] (mr 0 U mn) ?_
 refine cQ (t:=8) U (aM fun C=>?_) (aL fun C=>?_)
 ·refine rP 5 [] mn ?_
  refine RK A<|an<|Q1 hQ U U U ?_
  exact cB (fH I).symm
 refine rP 5 [] (mr 1 U mn) ?_
 refine RK A<|an<|Q1 hQ U U U ?_
 exact cB (decide_eq_decide.2 I)
theorem iQ (lo hi:Int) (l:List Int) (lA:OA) (lC:Nat) (hlen:l.length≤1000000):
 dT Tryz.prog 116 [(vI lo),(vI hi),(vS lA l.length lC)] [(rd lA l.length 1 (l.map iC))] (vB (pO lo hi l)):=by
 refine bx kr Tryz.func116 U U fun F Q hQ hN=>?_
 try dsimp only
 refine WS fun _ D=>um U U fun A=>um U U fun B=>bf 1 U<|RK D<|WS fun _ E=>rP 1 [] mn ?_
 refine rS (FU U) ?_
 refine rS (CL (si l lA lC (Value.func (.func 140) [].toArray [(vP A),(vP B)].toArray) (fun C=>(decide (C<lo∨hi<C))) (eW [(bV A 3 [(vI lo)]),(bV B 3 [(vI hi)])]) (by intro C _; exact nj (fi:=[]) (ca:=[(vP A),(vP B)]) (l3 (K2 C lo hi A B) (bj [0,1]))) hlen) (fD 2 U U<|aw (l6 (bj [1,0]))<|aI) U) ?_
 refine rP 2 [] mn ?_
 refine RK E<|an ?_
 exact Q1 hQ U U U U
theorem UG (n d:Int) (hd:2≤d):
 dT Tryz.prog 142 [(vI n),(vI d)] [] (vI (Sc n d)):=by
 refine bx kr Tryz.func142 U U fun C Q hQ hN=>?_
 try dsimp only
 refine WS fun _ A=>bf 1 U<|RK A<|WS fun _ B=>bf 2 U<|rS (BI U P7)<|rS (BI U Lh)<|bf 1 U<|rS (BI U (Qe I (QX (Tx _) hd)))<|rP 1 [] mn ?_
 refine RK B<|an ?_
 exact Q1 hQ U U U U
theorem Pb (n d:Int) (hd:1≤d∧d≤1000000) (hn:0≤n∧n≤1000000000000000):
 dT Tryz.prog 142 [(vI n),(vI d)] [] (vI (pa n d)):=by
 refine bx kr Tryz.func142 U U fun C Q hQ hN=>?_
 try dsimp only
 refine WS fun _ A=>bf 1 U<|RK A<|WS fun _ B=>bf 5 U<|rS (BI U (tx I I I))<|rP 1 [] mn ?_
 refine RK B<|an ?_
 exact Q1 hQ U U U U
theorem FL (c:ar) (sA:OA) (sC:Nat) (at_:Int) (hc:eQ c) (ha:0≤at_∧at_≤90000000):
 dT Tryz.prog 218 [(vA (dp.cells (dp.mk c.dg (br.mk sA c.bo.length sC)))),(vI at_)] [(rd sA c.bo.length 3 (c.bo.map cx.cells))] (vA (aa.cells (hZ c at_))):=by
 have X:=hc.len
 have J:=hc.rK
 refine bx kr Tryz.func218 U U fun e Q hQ hN=>?_
 try dsimp only
 refine WS fun _ M=>fK U fun b=>AL U de fun d=>RK M<|WS fun _ N=>rS (SX (bh (xs:=[(0,.const (vI (-1099511627776))),(1,.const (vI 1099511627776))]) (cs:=(aa.cells (aa.mk (-1099511627776) 1099511627776))) U U (bg gp U)) U U)<|AL U de fun W=>fP U cm U<|RK N<|ah fun _ O=>ah fun _ P=>?_
 have R:(aa.cells (aa.mk (-1099511627776) 1099511627776))=(aa.cells (gl c at_ 0)):=by rfl
 rw [R]
 refine aj<|rP 4 [] (mc 2 U mn) ?_
 refine RK P<|av ?_
 have A:(0≤c.bo.length):=by exact Nat.zero_le _
 refine bH (ι:={z:Nat // (z≤c.bo.length)}) [1,2,4,5,11,12] [1,2,3] U U (fun z=>[(13,(vI (z.1:Int)))]) (fun z=>[(bV W 40 (aa.cells (gl c at_ z.1)))]) (fun _=>rfl) (fun _=>rfl) (fun z=>c.bo.length-z.1) ⟨0,A⟩ (aT U) (aH [1,2,3,0]) ?_
 clear A
 rintro ⟨i,S⟩ J9 L
 try dsimp only
 refine WS fun _ B=>rP 1 [] mn ?_
 refine RK B<|ah fun _ C=>bL U (aL fun K=>?_) (aM fun K=>?_)
 ·refine bu<|ab<|ab<|au<|KK O<|WS fun _ G=>rP 1 [] (mc 3 U mn) ?_
  refine fP U cm U<|RK G<|an<|Ik hQ [0] (mc 0 U mn) U ?_
  rw [nK (show c.bo.length≤i by omega)]
 refine WK C<|ah fun _ D=>av<|WS fun _ E=>?_
 obtain ⟨x,hx⟩:=aJ c.bo i I
 have AA:=bG cx.cells hx
 refine rS (IA i U (aD 2 U) qh dc I I)<|rS (oI i 0 (cx.cells x) U bX (aD 2 U) AA U dc U U)<|AL U rM fun V=>fP U tQ U<|RK E<|WS fun _ F=>rP 5 [0,1] (mc 2 U (mc 0 U mn)) ?_
 have T:=hc.uQ hx
 have Z:=Bj hc ha i
 have Y:=Gq J ha (show 0≤x.At∧x.At≤90000000 by omega)
 refine fw 5 [] (mc 0 U mn) U<|rS (MX U)<|rS (BI U (Fe ⟨I,I⟩))<|rS (CL (Pb (c.dg*(max (at_-x.At) (x.At-at_))) 1000000 I I) (aI) U)<|bf 1 U<|RK F<|aj<|rP 6 [0,1] (mc 4 U (mc 0 U mn)) ?_
 have a:0≤pa (c.dg*max (at_-x.At) (x.At-at_)) 1000000∧pa (c.dg*max (at_-x.At) (x.At-at_)) 1000000≤90001:=uE J ha T.1
 refine bf 1 U<|rS (MX U)<|rP 7 [0,1] (mc 4 U (mc 0 U mn)) ?_
 refine rS (MN U)<|rS (SX (bh (xs:=[(0,.tmp 37),(1,.tmp 45)]) (cs:=(aa.cells (aa.mk (max ((gl c at_ i).Lo) (x.ek.Lo-(pa (c.dg*(max (at_-x.At) (x.At-at_))) 1000000))) (min ((gl c at_ i).Hi) (x.ek.Hi+(pa (c.dg*(max (at_-x.At) (x.At-at_))) 1000000)))))) U U (bg gp U)) U U)<|Ps U cm U<|aC<|aG<|KK D ?_
 have H:(aa.cells (aa.mk (max ((gl c at_ i).Lo) (x.ek.Lo-(pa (c.dg*(max (at_-x.At) (x.At-at_))) 1000000))) (min ((gl c at_ i).Hi) (x.ek.Hi+(pa (c.dg*(max (at_-x.At) (x.At-at_))) 1000000)))))=(aa.cells (gl c at_ (i+1))):=by rw [jM hx]; rfl
 rw [H]
 refine aj<|rP 2 [] mn ?_
 refine aC ?_
 have AB:(vI (((i+1):Nat):Int))=(vI ((i:Int)+1)):=by exact cI I
 refine aS (L ⟨(i+1),(by first|omega|(simp only []; omega))⟩ _ _ _ U os (ct 6<|aX U AB<|dh.nil _) (aH [1,2,3,4]))
theorem PI (c:ar) (sA:OA) (sC:Nat) (hlen:c.bo.length≤1000000) (hcap:c.bo.length≤sC):
 dT Tryz.prog 120 [(vA (dp.cells (dp.mk c.dg (br.mk sA c.bo.length sC))))] [(rd sA c.bo.length 3 (c.bo.map cx.cells))] (vB (decide (eQ c))):=by
 refine bx kr Tryz.func120 U U fun w0 Q hQ hN=>?_
 try dsimp only
 refine WS fun _ A8=>fK U fun b2=>bf 1 U<|RK A8<|Ac U<|ah fun _ A9=>WS fun _ q=>rP 2 [] (mc 0 U mn) ?_
 refine cY (xs:=[.tmp 11]) (cs:=[(vI c.dg)]) U cp ja U U U U (by simp [Value.cells]) U U fun b5=>?_
 refine rS (CL (dT.eq (iQ 0 1000 ([c.dg]) (some ⟨b5,0,none⟩) 1 (by (simp; done))) cS) (aw (aZ 0 U U (by simp [bB]) U)<|aI) U) ?_
 refine rP 2 [] mn ?_
 refine cQ (t:=15) U (bp fun AB=>?_) (bq fun AB=>?_)
 ·refine bf 7 U<|RK q<|aO U<|WS fun _ BX=>rP 1 [] mn ?_
  refine RK BX<|an<|Q1 hQ U U U ?_
  exact cB (cf fun h=>AB h.rK).symm
 refine rP 3 [] (mc 1 U mn) ?_
 refine cY (xs:=[.tmp 18]) (cs:=[(vI (c.bo.length:Int))]) U cp ja U U U U (by simp [Value.cells]) U U fun b7=>?_
 refine rS (CL (dT.eq (iQ 1 5 ([(c.bo.length:Int)]) (some ⟨b7,0,none⟩) 1 (by (simp; done))) cS) (aw (aZ 0 U U (by simp [bB]) U)<|aI) U) ?_
 refine rP 2 [] mn ?_
 refine RK q<|cy U (bp fun O=>?_) (bq fun O=>?_)
 ·refine WS fun _ B3=>rP 1 [] mn ?_
  refine RK B3<|an<|Q1 hQ U U U ?_
  exact cB (cf fun h=>O (by have:=h.len; omega)).symm
 refine WK A9<|WS fun _ B7=>bf 1 U<|RK B7<|WS fun _ R=>bf 1 U<|RK R<|ah fun _ S=>zV<|KK S<|ah fun _ K=>WS fun _ T=>rP 4 [] (mc 2 U mn) ?_
 refine RK T<|av ?_
 have B:(0≤c.bo.length)∧(sB c 0):=by exact ⟨Nat.zero_le _,Hc⟩
 have r:(vI (ke c 0))=(vI (-1)):=by rw [gr rfl]
 refine bH (ι:={z:Nat // (z≤c.bo.length)∧(sB c z)}) [1,2,4,24,25] [2,3] U U (fun z=>[(3,(vI (ke c z.1))),(26,(vI (z.1:Int)))]) (fun z=>[]) (fun _=>rfl) (fun _=>rfl) (fun z=>c.bo.length-z.1) ⟨0,B⟩ (aX U r<|aT U) (aH [2,3]) ?_
 clear B
 rintro ⟨i,⟨L,C⟩⟩ J15 P
 try dsimp only
 have C2: -1≤ke c i∧ke c i≤86400000:=PQ L C
 refine WS fun _ AA=>rP 1 [] mn ?_
 refine RK AA<|ah fun _ V=>bL U (aL fun A3=>?_) (aM fun A3=>?_)
 ·refine bu<|ab<|ab<|au<|KK K<|WS fun _ f=>rP 2 [] mn ?_
  refine RK f<|an<|Q1 hQ U U U ?_
  exact cB (fH (Hq AB I (by have e:i=c.bo.length:=I; rw [← e]; exact C))).symm
 refine WK V<|ah fun _ W=>av<|WS fun _ X=>rP 1 [] mn ?_
 obtain ⟨x,hx⟩:=aJ c.bo i I
 have Ck:=bG cx.cells hx
 refine rS (IA i U (aD 1 U) qh dc I I)<|rS (oI i 0 (cx.cells x) U bX (aD 1 U) Ck U dc U U)<|AL U rM fun Cp=>rP 1 [] mn ?_
 refine fP U tQ U<|RK X ?_
 refine oi (ι:=Unit) [1,2,3,5,6,24,25,26] [0,1,2] U U (fun z=>[(4,(vB (decide (fj c i x))))]) (fun z=>[]) (fun _=>rfl) (fun _=>rfl) ?_ fun K22 G=>?_
 ·intro _
  try dsimp only
  refine ah fun _ Y=>WS fun _ Z=>fw 3 [] (mc 1 U mn) U<|rS (UT i U qh I I)<|rP 2 [] mn ?_
  refine RK Z<|av ?_
  have B:(0≤i)∧((decide (fj c i x))=(decide (l4 c i x 0))):=by exact ⟨Nat.zero_le _,decide_eq_decide.2 EE.symm⟩
  refine bH (ι:={z:Nat×Bool // (z.1≤i)∧(z.2=(decide (l4 c i x z.1)))}) [1,2,3,5,6,24,25,26,59,60] [0,1,2] U U (fun z=>[(4,(vB z.1.2)),(61,(vI (z.1.1:Int)))]) (fun z=>[]) (fun _=>rfl) (fun _=>rfl) (fun z=>i-z.1.1) ⟨(0,(decide (fj c i x))),B⟩ (aT U) (aH [0,1,2]) ?_
  clear B
  rintro ⟨⟨k,b⟩,⟨M,A⟩⟩ J25 F
  try dsimp only at M A
  try dsimp only
  refine WS fun _ a=>rP 1 [] mn ?_
  refine RK a<|ah fun _ d=>bL U (aL fun A5=>?_) (aM fun A5=>?_)
  ·refine bu<|ab<|ab<|au<|KK Y<|ah fun _ m=>WS fun _ n=>rP 2 [] mn ?_
   refine RK n<|cy U (fun D=>?_) (fun D=>?_)
   ·rw [Bool.not_eq_true'] at D
    refine bu<|ab<|iw U<|ab<|ab<|au<|KK K<|WS fun _ p=>rP 2 [] mn ?_
    refine RK p<|an<|Q1 hQ U U U ?_
    exact cB (by have e:k=i:=I; rw [e] at A; rw [D] at A ⊢; exact (cf (Jp hx (of_decide_eq_false A.symm))).symm)
   rw [Bool.not_eq_false'] at D
   refine WK m<|aj<|fw 3 [] (mc 0 U mn) U<|aC<|aG<|KK W<|aj<|rP 2 [] mn ?_
   refine aC ?_
   have AO:(vB true)=(vB b):=by exact cB D.symm
   have An:(vI (ke c (i+1)))=(vI x.At):=by rw [oo hx]
   have Ay:(vI (((i+1):Nat):Int))=(vI ((i:Int)+1)):=by exact cI I
   refine aS (P ⟨(i+1),⟨I,HC C hx (by have e:k=i:=I; rw [e] at A; exact of_decide_eq_true (A.symm.trans D))⟩⟩ _ _ _ U os (dh.cons U<|dh.cons U<|aX U AO<|dh.cons U<|dh.cons U<|aX U An<|aX U Ay<|dh.nil _) (aH [1,2]))
  refine WK d<|ah fun _ H=>av<|WS fun _ g=>?_
  obtain ⟨o,ho⟩:=aJ c.bo k I
  have B9:=bG cx.cells ho
  refine rS (Tq k U (aD 2 U) qh dc I I I)<|rS (oI k 0 (cx.cells o) U bX (aD 2 U) B9 U dc U U)<|AL U rM fun Cx=>fP U tQ U<|RK g<|WS fun _ l=>fw 6 [0,1,2] (mc 2 U (mc 1 U (mc 0 U mn))) U<|rS (BI U Lh)<|rS (BI U QL)<|rS (CL (UG (AZ (c.dg*(AZ (x.At-o.At)))) 1000000 I) (aI) U)<|bf 1 U<|RK l<|aj<|rP 2 [] mn ?_
  refine bZ (t:=75) U (fun J=>?_) (fun J=>?_)
  ·refine bf 6 U<|bf 16 U<|aC<|aG<|KK H<|aj<|rP 2 [] mn ?_
   refine aC ?_
   have AK:(vI (((k+1):Nat):Int))=(vI ((k:Int)+1)):=by exact cI I
   refine aS (F ⟨((k+1),false),⟨I,by exact (cf fun h=>by have h2:=((rV ho).1 h).1; rw [A] at J; exact absurd (fH h2) (by rw [J]; decide)).symm⟩⟩ _ _ _ U os (ct 11<|aX U AK<|dh.nil _) (aH [1,2,3]))
  refine rP 6 [0,1] (mc 1 U (mc 0 U mn)) ?_
  have A0:l4 c i x k:=of_decide_eq_true (A.symm.trans J)
  obtain ⟨Ci,C3,Di⟩:=uu (fun j y hj hy=>(C j y hj hy).1) hx A0.1 I ho
  have N:=NC AB Ci
  refine rP 5 [] mn ?_
  refine bZ (t:=86) U (aL fun E=>?_) (aM fun E=>?_)
  ·refine bf 11 U<|aC<|aG<|KK H<|aj<|rP 2 [] mn ?_
   refine aC ?_
   have AC:(vI (((k+1):Nat):Int))=(vI ((k:Int)+1)):=by exact cI I
   refine aS (F ⟨((k+1),false),⟨I,by exact (cf fun h=>by have h2:=((rV ho).1 h).2; rw [N] at E; exact E h2.1).symm⟩⟩ _ _ _ U os (ct 11<|aX U AC<|dh.nil _) (aH [1,2,3]))
  refine fw 11 [0,1] (mc 0 U (mc 1 U mn)) U<|aC<|aG<|KK H<|aj<|rP 2 [] mn ?_
  refine aC ?_
  have w:(vI (((k+1):Nat):Int))=(vI ((k:Int)+1)):=by exact cI I
  refine aS (F ⟨((k+1),(decide ((o.ek.Lo-x.ek.Hi)≤(Sc (AZ (c.dg*(AZ (x.At-o.At)))) 1000000)))),⟨I,by exact decide_eq_decide.2 (by rw [rV ho,N]; rw [N] at E; exact ⟨fun h=>⟨A0,E,h⟩,fun h=>h.2.2⟩)⟩⟩ _ _ _ U os (ct 11<|aX U w<|dh.nil _) (aH [1,2,3]))
 refine aj<|rP 4 [] (mc 0 U mn) ?_
 refine cY (xs:=[.tmp 34]) (cs:=[(vI x.At)]) U cp ja U U U U (by simp [Value.cells]) U U fun A1=>?_
 refine rS (CL (dT.eq (iQ ((ke c i)+1) 86400000 ([x.At]) (some ⟨A1,0,none⟩) 1 (by (simp; done))) cS) (aw (aZ 0 U U (by simp [bB]) U)<|aI) U) ?_
 refine rP 1 [] mn ?_
 refine bZ (t:=37) U (aL fun A6=>?_) (aM fun A6=>?_)
 ·refine rP 19 [] mn ?_
  refine aC ?_
  have v:(decide (fj c i x))=false:=cf (by unfold fj; omega)
  refine aS (jC (ct 8<|ng U v<|dh.nil _) (aH [1,2,3]) (G ()))
 refine rP 6 [] (mc 1 U mn) ?_
 refine cY (xs:=[.tmp 40,.tmp 43]) (cs:=[(vI x.ek.Lo),(vI x.ek.Hi)]) U cp ja U U U U (by simp [Value.cells]) U U fun A2=>?_
 refine rS (CL (dT.eq (iQ (-10000) 10000 ([x.ek.Lo,x.ek.Hi]) (some ⟨A2,0,none⟩) 2 (by (simp; done))) qP) (aw (aZ 0 U U (by simp [bB]) U)<|aI) U) ?_
 refine rP 2 [] mn ?_
 refine bZ (t:=47) U (aL fun A7=>?_) (aM fun A7=>?_)
 ·refine rP 9 [] mn ?_
  refine aC ?_
  have u:(decide (fj c i x))=false:=cf (by unfold fj; omega)
  refine aS (jC (ct 8<|ng U u<|dh.nil _) (aH [2,3,4]) (G ()))
 refine rP 9 [] (mc 2 U mn) ?_
 refine aC ?_
 have s:(decide (fj c i x))=(decide (x.ek.Lo≤x.ek.Hi)):=decide_eq_decide.2 (by unfold fj; omega)
 refine aS (jC (ct 8<|ng U s<|dh.nil _) (aH [2,3,4]) (G ()))
theorem Rx (ms:List ar) (az:List RA) (k:Nat) (m:ar) (a:RA) (hm:ms[k]? =some m) (ha:az[k]? =some a) (hc:m.bo.length≤a.2∧m.bo.length≤1000000):
 dT Tryz.prog 119 [(vA (dp.cells (dp.mk m.dg (br.mk a.1 m.bo.length a.2))))] [(eW (aV ar.g0 ms az))] (vB (!(decide (eQ m)))):=by
 obtain ⟨C,D⟩:=hc
 refine bx kr Tryz.func119 U U fun F Q hQ hN=>?_
 try dsimp only
 refine WS fun _ A=>fK U fun E=>bf 1 U<|RK A<|WS fun _ B=>fw 1 [] (mc 0 U mn) U<|rS (CL (PI m a.1 a.2 asm asm) (aw (show il _ (rd a.1 m.bo.length 3 (m.bo.map cx.cells)).holds from (du 1 U (bM hm ha (by simp [ar.g0]))))<|aI) U)<|rP 2 [] mn ?_
 refine RK B<|an ?_
 exact Q1 hQ U U U U
theorem GX (l:List ar) (az:List RA) (lA:OA) (lC:Nat) (f:Value) (p:ar→Bool) (X:aq) (hf: ∀ (k:Nat) m a,l[k]? =some m→az[k]? =some a→Em Tryz.prog f [.agg (ar.cells m a).toArray] [X] (.bool (p m))) (hlen:l.length≤1000000) (has:az.length=l.length):
 dT Tryz.prog 141 [(vS lA l.length lC),f] [(rd lA l.length 2 (List.zipWith ar.cells l az)),(eW (aV ar.g0 l az)),X] (vI (tL p l)):=by
 refine bx kr Tryz.func141 U U fun T Q hQ hN=>?_
 try dsimp only
 refine WS fun _ AA=>bf 1 U<|RK AA<|ah fun _ J=>WS fun _ K=>rP 3 [] mn ?_
 refine RK K<|av ?_
 have B:(0≤l.length)∧((l.take 0).any p=false):=by simp
 refine bH (ι:={z:Nat // (z≤l.length)∧((l.take z).any p=false)}) [0,1,7] [0,1,2] U U (fun z=>[(8,(vI (z.1:Int)))]) (fun z=>[]) (fun _=>rfl) (fun _=>rfl) (fun z=>l.length-z.1) ⟨0,B⟩ (aT U) (aH [0,1,2]) ?_
 clear B
 rintro ⟨i,⟨P,A⟩⟩ J4 H
 try dsimp only
 refine WS fun _ L=>rP 1 [] mn ?_
 refine RK L<|ah fun _ M=>bL U (aL fun S=>?_) (aM fun S=>?_)
 ·refine bu<|ab<|ab<|au<|KK J<|WS fun _ E=>rP 1 [] mn ?_
  refine RK E<|an<|Q1 hQ U U U ?_
  exact cI (sj I A).symm
 refine WK M<|ah fun _ N=>av<|WS fun _ O=>bf 2 U<|RK O<|WS fun _ C=>rP 3 [] mn ?_
 obtain ⟨x,hx⟩:=aJ l i I
 obtain ⟨xa,G⟩:=aJ az i I
 have R:(List.zipWith ar.cells l az)[i]? =some (ar.cells x xa):=dy hx G
 refine rS (IA i U (aD 0 U) AB dc I I)<|rS (oI i 0 (dp.cells (dp.mk x.dg (br.mk xa.1 x.bo.length xa.2))) U bX (aD 0 U) R U dc U U)<|rS (SX (sk U U U (hf i x xa hx G) (bj [2])) U U)<|RK C<|cy U (fun hp=>?_) (fun hp=>?_)
 ·refine WS fun _ D=>rP 2 [] mn ?_
  refine RK D<|an<|Q1 hQ U U U ?_
  exact cI (xM hx hp A).symm
 refine b_<|aG<|KK N<|aj<|rP 2 [] mn ?_
 refine aC ?_
 have F:(vI (((i+1):Nat):Int))=(vI ((i:Int)+1)):=by exact cI I
 refine aS (H ⟨(i+1),⟨I,wH hx A hp⟩⟩ _ _ _ U os (ct 3<|aX U F<|dh.nil _) (aH [0,1,2]))
theorem Ad (l:List ar) (az:List RA) (lA:OA) (lC:Nat) (f:Value) (p:ar→Bool) (X:aq) (hf: ∀ (k:Nat) m a,l[k]? =some m→az[k]? =some a→Em Tryz.prog f [.agg (ar.cells m a).toArray] [X] (.bool (p m))) (hlen:l.length≤1000000) (has:az.length=l.length):
 dT Tryz.prog 118 [(vS lA l.length lC),f] [(rd lA l.length 2 (List.zipWith ar.cells l az)),(eW (aV ar.g0 l az)),X] (vB (l.any p)):=by
 refine bx kr Tryz.func118 U U fun C Q hQ hN=>?_
 try dsimp only
 refine WS fun _ A=>bf 1 U<|RK A<|WS fun _ B=>bf 2 U<|rS (CL (GX l az lA lC f p X (by exact hf) hlen has) (OL 0 1 2 U U U U U U) U)<|rP 2 [] mn ?_
 refine RK B<|an<|Q1 hQ U U U ?_
 exact cB ue
theorem H_ (l:List bD) (lA:OA) (lC:Nat) (f:Value) (p:bD→Bool) (X:aq) (hf: ∀ x0,x0∈l→Em Tryz.prog f [.agg (bD.cells x0).toArray] [X] (.bool (p x0))) (hlen:l.length≤1000000):
 dT Tryz.prog 143 [(vS lA l.length lC),f] [(rd lA l.length 4 (l.map bD.cells)),X] (vI (tL p l)):=by
 refine bx kr Tryz.func143 U U fun S Q hQ hN=>?_
 try dsimp only
 refine WS fun _ H=>bf 1 U<|RK H<|ah fun _ AA=>WS fun _ J=>rP 3 [] mn ?_
 refine RK J<|av ?_
 have B:(0≤l.length)∧((l.take 0).any p=false):=by simp
 refine bH (ι:={z:Nat // (z≤l.length)∧((l.take z).any p=false)}) [0,1,7] [0,1] U U (fun z=>[(8,(vI (z.1:Int)))]) (fun z=>[]) (fun _=>rfl) (fun _=>rfl) (fun z=>l.length-z.1) ⟨0,B⟩ (aT U) (aH [0,1]) ?_
 clear B
 rintro ⟨i,⟨O,A⟩⟩ J4 G
 try dsimp only
 refine WS fun _ K=>rP 1 [] mn ?_
 refine RK K<|ah fun _ L=>bL U (aL fun R=>?_) (aM fun R=>?_)
 ·refine bu<|ab<|ab<|au<|KK AA<|WS fun _ E=>rP 1 [] mn ?_
  refine RK E<|an<|Q1 hQ U U U ?_
  exact cI (sj I A).symm
 refine WK L<|ah fun _ M=>av<|WS fun _ N=>bf 2 U<|RK N<|WS fun _ C=>rP 3 [] mn ?_
 obtain ⟨x,hx⟩:=aJ l i I
 have P:=bG bD.cells hx
 refine rS (IA i U (aD 0 U) vx dc I I)<|rS (oI i 0 (bD.cells x) U bX (aD 0 U) P U dc U U)<|rS (SX (sk U U U (hf x (aR hx)) (bj [1])) U U)<|RK C<|cy U (fun hp=>?_) (fun hp=>?_)
 ·refine WS fun _ D=>rP 2 [] mn ?_
  refine RK D<|an<|Q1 hQ U U U ?_
  exact cI (xM hx hp A).symm
 refine b_<|aG<|KK M<|aj<|rP 2 [] mn ?_
 refine aC ?_
 have F:(vI (((i+1):Nat):Int))=(vI ((i:Int)+1)):=by exact cI I
 refine aS (G ⟨(i+1),⟨I,wH hx A hp⟩⟩ _ _ _ U os (ct 3<|aX U F<|dh.nil _) (aH [0,1]))
theorem Ap (l:List bD) (lA:OA) (lC:Nat) (f:Value) (p:bD→Bool) (X:aq) (hf: ∀ x0,x0∈l→Em Tryz.prog f [.agg (bD.cells x0).toArray] [X] (.bool (p x0))) (hlen:l.length≤1000000):
 dT Tryz.prog 122 [(vS lA l.length lC),f] [(rd lA l.length 4 (l.map bD.cells)),X] (vB (l.any p)):=by
 refine bx kr Tryz.func122 U U fun C Q hQ hN=>?_
 try dsimp only
 refine WS fun _ A=>bf 1 U<|RK A<|WS fun _ B=>bf 2 U<|rS (CL (H_ l lA lC f p X (by exact hf) hlen) (bj [0,1]) U)<|rP 2 [] mn ?_
 refine RK B<|an<|Q1 hQ U U U ?_
 exact cB ue
end
section
open Go.RowKit
theorem pc (a:aa) (l:List aa) (lA:OA) (lC:Nat) (ha:lp a) (hl: ∀ z∈l,lp z) (hlen:l.length≤4):
 dT Tryz.prog 147 [(vA (aa.cells a)),(vS lA l.length lC)] [(rd lA l.length 2 (l.map aa.cells))] (vA (aa.cells (ko a l))):=by
 refine bx kr Tryz.func147 U U fun AA Q hQ hN=>?_
 try dsimp only
 refine WS fun _ AB=>fK U fun R=>AL U de fun T=>RK AB<|ah fun _ J=>WS fun _ K=>rP 3 [] mn ?_
 refine RK K<|av ?_
 have A:(0≤l.length):=by exact Nat.zero_le _
 refine bH (ι:={z:Nat // (z≤l.length)}) [2,4,7,8] [0,2] U U (fun z=>[(9,(vI (z.1:Int)))]) (fun z=>[(bV R 40 (aa.cells (ko a (l.take z.1))))]) (fun _=>rfl) (fun _=>rfl) (fun z=>l.length-z.1) ⟨0,A⟩ (aT U) (aH [0,2,1]) ?_
 clear A
 rintro ⟨i,N⟩ J6 H
 try dsimp only
 refine WS fun _ L=>rP 1 [] mn ?_
 refine RK L<|ah fun _ M=>bL U (aL fun S=>?_) (aM fun S=>?_)
 ·refine bu<|ab<|ab<|au<|KK J<|ah fun _ D=>?_
  have G:(aa.cells (ko a (l.take i)))=(aa.cells (ko a l)):=by rw [J1 I]
  rw [G]
  refine aj<|rP 1 [] (mc 2 U mn) ?_
  refine fP U cm U<|RK D<|an ?_
  exact Ik hQ [0] (mc 0 U mn) U U
 refine WK M<|ah fun _ B=>av<|WS fun _ C=>?_
 obtain ⟨x,hx⟩:=aJ l i I
 have O:=bG aa.cells hx
 refine rS (IA i U (aD 1 U) jJ dc I I)<|rS (oI i 0 (aa.cells x) U bX (aD 1 U) O U dc U U)<|AL U de fun P=>fP U cm U<|RK C<|aj ?_
 have hb:=Qg ha hl i
 have hz:=hl x (aR hx)
 unfold lp at hz
 refine rP 10 [0,1,0,1] (mc 3 U (mc 0 U mn)) ?_
 refine rS (SX (bh (xs:=[(0,.tmp 17),(1,.tmp 22)]) (cs:=(aa.cells (aa.mk (((ko a (l.take i)).Lo)+x.Lo) (((ko a (l.take i)).Hi)+x.Hi)))) U U (bg gp U)) U U)<|TS U cm U<|aC<|aG<|KK B ?_
 have E:(aa.cells (aa.mk (((ko a (l.take i)).Lo)+x.Lo) (((ko a (l.take i)).Hi)+x.Hi)))=(aa.cells (ko a (l.take (i+1)))):=by rw [yG hx]; rfl
 rw [E]
 refine aj<|rP 2 [] mn ?_
 refine aC ?_
 have F:(vI ((i+1):Int))=(vI ((i:Int)+1)):=by exact cI I
 refine aS (H ⟨(i+1),(by first|omega|(simp only []; omega))⟩ _ _ _ U os (ct 4<|aX U F<|dh.nil _) (aH [1,2,3]))
theorem Gm (ts:List al) (tsA:OA) (tsC:Nat) (hlen:ts.length≤1000000) (hside: ∀ x∈ts,0≤x.iY∧x.iY≤255):
 dT Tryz.prog 144 [(vA (bE.cells (bE.mk (br.mk tsA ts.length tsC))))] [(rd tsA ts.length 9 (ts.map al.cells))] (vT [(vA (ei.cells (ei.mk (bE.mk (br.mk tsA ts.length tsC))))),(vI (if cT ts=true then 0 else 10))]):=by
 refine bx kr Tryz.func144 U U fun E Q hQ hN=>?_
 try dsimp only
 refine WS fun _ A=>fK U fun C=>AL U KP fun D=>bf 1 U<|RK A<|ah fun _ B=>dB cu 4 kr<|mL 1 [] (mc 1 U mn) U<|dS (SX (bh (xs:=[(0,.tmp 4)]) (cs:=(ei.cells (ei.mk (bE.mk (br.mk tsA ts.length tsC))))) U U (bg Sn U)) U U)<|mL 1 [] (mc 1 U mn) U<|dS (CL (Bk ts tsA tsC hlen hside) (bj [2]) U)<|cM<|fP U JE U<|rP 1 [] mn ?_
 refine RK B<|an ?_
 exact lj hQ [0] (mc 0 U mn) U U
theorem Nm (f:Int) (tsA:OA) (tsN tsC:Nat):
 ly Tryz.prog 161 [(vA (ei.cells (ei.mk (bE.mk (br.mk tsA tsN tsC))))),(vI f)] [] (fun (x:Nat×Nat)=>(Value.func (.func 169) [].toArray [(Value.pointer (some ⟨x.1,0,none⟩)),(Value.pointer (some ⟨x.2,0,none⟩))].toArray)) (fun (x:Nat×Nat)=>True) (fun (x:Nat×Nat)=>[(bV x.1 3 [(vI f)]),(bV x.2 203 (ei.cells (ei.mk (bE.mk (br.mk tsA tsN tsC)))))]):=by
 refine dj kr Tryz.func161 U U fun E Q hQ hN=>?_
 try dsimp only
 refine WS fun _ A=>fK U fun C=>um U U fun D=>bf 1 U<|RK A<|WS fun _ B=>rS (FU U)<|rP 1 [] mn ?_
 refine RK B<|an<|LX hQ (D,C) [0,1] [] mn U U U U ?_
 trivial
theorem HK (ts:List al) (tsA:OA) (tsC:Nat) (f:Int) (g1 g2:Nat) (hst: ∀ x∈ts,bJ x) (hlen:ts.length≤12) (hf:0≤f∧f≤ts.length):
 NJ Tryz.prog 169 [] [(vP g1),(vP g2)] [(rd tsA ts.length 9 (ts.map al.cells)),(bV g1 3 [(vI f)]),(bV g2 203 (ei.cells (ei.mk (bE.mk (br.mk tsA ts.length tsC)))))] (tY ts f.toNat):=by
 refine FW kr Tryz.func169 U U fun l J Z A0 p Q hY g d hQ hN=>?_
 try dsimp only
 refine WS fun _ h=>AL U de fun n=>AL U de fun o=>RK h<|WS fun _ i=>rP 2 [] (mr 4 U mn) ?_
 refine RK i<|av ?_
 have P:(0≤ts.length-f.toNat)∧(J 0 A0)∧(Fo A0 p A0):=by exact ⟨Nat.zero_le _,g,d⟩
 have m:(vI (f+(0:Int)))=(vI f):=by exact cI I
 refine bH (ι:={z:Nat×aq // (z.1≤ts.length-f.toNat)∧(J z.1 z.2)∧(Fo A0 p z.2)}) [0,1,2,4,5] [3,4,5] U U (fun z=>[(6,(vI (f+(z.1.1:Int))))]) (fun z=>[(bV o 40 (aa.cells (f_ ts f.toNat z.1.1))),(bV n 40 (aa.cells (eA ts f.toNat z.1.1))),z.1.2]) (fun _=>rfl) (fun _=>rfl) (fun z=>ts.length-f.toNat-z.1.1) ⟨(0,A0),P⟩ (aX U m<|dh.nil _) (aH [3,4,5,0,1,2]) ?_
 clear P
 rintro ⟨⟨k,A⟩,⟨W,R,S⟩⟩ J6 V
 try dsimp only at W R S
 try dsimp only
 refine ah fun _ j=>WS fun _ X=>rP 3 [0,1] (mc 4 U (mc 3 U mn)) ?_
 refine Fp 5 hY R S U U U (yL I) U U (fun B9 C B=>?_) (fun B9 C B=>?_)
 rotate_left 1
 ·refine rP 8 [] mn ?_
  refine RK X<|aW U<|bu<|ab<|ab<|au ?_
  refine hN _ _ _ (gZ (vs:=[]) trivial fun w hs=>Pv 5 U C B hs)
 refine rP 8 [] (mr 2 U mn) ?_
 refine RK X<|bL U (aL fun c=>?_) (aM fun c=>?_)
 ·refine bu<|ab<|ab<|au ?_
  refine hN _ _ _ (gZ (vs:=[]) trivial fun w hs=>Tp 5 U (by rw [s7]; have e:ts.length-f.toNat+1=k+1:=I; rw [e]; exact C) B hs)
 refine WK j<|ah fun _ M=>av<|pG cu [0,1,2,3,4,5,6,7,10,11,12,13,14,15,16,17] [8,9,18,19,20,21] [true,false,false,false,false,false,false,false,true,false,false,false,false,false,false,false] [8,9,18] [(rd tsA ts.length 9 (ts.map al.cells)).ro,(bV g1 3 [(vI f)]).ro,(bV g2 203 (ei.cells (ei.mk (bE.mk (br.mk tsA ts.length tsC))))).ro,B9] [(rd tsA ts.length 9 (ts.map al.cells)).ro,(bV g1 3 [(vI f)]).ro,(bV g2 203 (ei.cells (ei.mk (bE.mk (br.mk tsA ts.length tsC))))).ro,(bV o 40 (aa.cells (f_ ts f.toNat k))),(bV n 40 (aa.cells (eA ts f.toNat k))),B9] kr (aH [0,1,2,5]) (aH [0,1,2,3,4,5])<|fS U (LW 4 U bX U U)<|eS U (FA 0 U fu U)<|eS U (FA 0 U fu U)<|eS U (Ii (vS tsA ts.length tsC) 2 U bX U U)<|eS U (MV U) ?_
 obtain ⟨x,hx⟩:=aJ ts (f.toNat+k) I
 have a:=bG al.cells hx
 refine eS U (IA (f.toNat+k) U (aD 0 U) yr dc I I) ?_
 have L:=hst x (aR hx)
 refine eS U (nS (((f.toNat+k)*9)+1) U (aD 0 U) (Nat.mul_pos I dc) fu U)<|eS U (oI (f.toNat+k) 1 (aa.cells x.ku) U bX (aD 0 U) a U dc U U)<|fS U (LW 3 U bX U U)<|eS U (FA 0 U fu U)<|eS U (FA 0 U fu U)<|eS U (Ii (vS tsA ts.length tsC) 2 U bX U U)<|eS U (MV U)<|eS U (IA (f.toNat+k) U (aD 0 U) yr dc I I)<|eS U (nS (((f.toNat+k)*9)+3) U (aD 0 U) (Nat.mul_pos I dc) fu U)<|eS U (oI (f.toNat+k) 3 (aa.cells x.lP) U bX (aD 0 U) a U dc U U)<|eV U<|iH [8,18] kr (eE ?_<|eE ?_<|km)
 rotate_left 1
 ·refine vd (rem':=[8,9,19,20,21]) U kr fun T14 N=>cY (xs:=[.tmp 39]) (cs:=(aa.cells x.lP)) U jJ de U U U U (by simp [Value.cells,aa.aU]) U U fun T=>aC (N _ _ (aH [1,2,3,6]) (aH [1,2,3,4,5,6]) ?_)
  refine N1 8<|vd (rem':=[9,19,20,21]) U kr fun T16 D=>cY (xs:=[.tmp 29]) (cs:=(aa.cells x.ku)) U jJ de U U U U (by simp [Value.cells,aa.aU]) U U fun AA=>aC (D _ _ (aH [2,3,4,7]) (aH [2,3,4,5,6,7]) ?_)
  refine N1 9<|vd (rem':=[19,20,21]) U kr fun T18 O=>?_
  refine rS (CL (dT.eq (pc (eA ts f.toNat k) ([x.ku]) (some ⟨AA,0,none⟩) 1 (by exact qj hst I) (by intro z hz; simp only [bS] at hz; subst hz; exact uq L) sm) nk) (aw (aZ 0 rfl rfl (by simp [aa.aU]) rfl)<|aI) rfl) ?_
  refine aC (O _ _ (aH [2,3,4,7]) (aH [2,3,4,5,6,7]) ?_)
  refine N1 19<|NO U U [20,21] fun T19 E=>?_
  refine rS (CL (dT.eq (pc (f_ ts f.toNat k) ([x.lP]) (some ⟨T,0,none⟩) 1 (by exact xw hst I) (by intro z hz; simp only [bS] at hz; subst hz; exact ud L) sm) nk) (aw (aZ 1 rfl rfl (by simp [aa.aU]) rfl)<|aI) rfl) ?_
  refine aC (E _ _ (aH [2,3,4,7]) ?_)
  refine N1 20<|NO U U [21] fun T20 F=>O_ U cm U<|aC (F _ _ (aH [2,3,4,7]) ?_)
  refine N1 21<|NO U U [] fun T21 G=>Ih U cm U<|aC (G _ _ (aH [2,3,4,7]) ?_)
  refine pX<|aG<|KK M ?_
  have H:(aa.cells (mu (eA ts f.toNat k) x.ku))=(aa.cells (eA ts f.toNat (k+1))):=by rw [pM hx]
  rw [H]
  have AB:(aa.cells (mu (f_ ts f.toNat k) x.lP))=(aa.cells (f_ ts f.toNat (k+1))):=by rw [pq hx]
  rw [AB]
  refine aj<|rP 3 [] mn ?_
  refine aC ?_
  have K:(vI (f+(((k+1):Nat):Int)))=(vI ((f+(k:Int))+1)):=by exact cI I
  refine aS (V ⟨((k+1),B9),⟨I,C,B⟩⟩ _ _ _ U os (ct 5<|aX U K<|dh.nil _) (aH [2,3,4,5,6,7]))
 refine vd (rem':=[9,18,19,20,21]) U kr fun T14 N=>cY (xs:=[.tmp 29]) (cs:=(aa.cells x.ku)) U jJ de U U U U (by simp [Value.cells,aa.aU]) U U fun T=>aC (N _ _ (aH [1,2,3,6]) (aH [1,2,3,4,5,6]) ?_)
 refine iH [9,18] kr (eE ?_<|eE ?_<|km)
 rotate_left 1
 ·refine vd (rem':=[9,19,20,21]) U kr fun T16 D=>cY (xs:=[.tmp 39]) (cs:=(aa.cells x.lP)) U jJ de U U U U (by simp [Value.cells,aa.aU]) U U fun AA=>aC (D _ _ (aH [2,3,4,7]) (aH [2,3,4,5,6,7]) ?_)
  refine N1 9<|vd (rem':=[19,20,21]) U kr fun T18 O=>?_
  refine rS (CL (dT.eq (pc (eA ts f.toNat k) ([x.ku]) (some ⟨T,0,none⟩) 1 (by exact qj hst I) (by intro z hz; simp only [bS] at hz; subst hz; exact uq L) sm) nk) (aw (aZ 1 rfl rfl (by simp [aa.aU]) rfl)<|aI) rfl) ?_
  refine aC (O _ _ (aH [2,3,4,7]) (aH [2,3,4,5,6,7]) ?_)
  refine N1 19<|NO U U [20,21] fun T19 E=>?_
  refine rS (CL (dT.eq (pc (f_ ts f.toNat k) ([x.lP]) (some ⟨AA,0,none⟩) 1 (by exact xw hst I) (by intro z hz; simp only [bS] at hz; subst hz; exact ud L) sm) nk) (aw (aZ 0 rfl rfl (by simp [aa.aU]) rfl)<|aI) rfl) ?_
  refine aC (E _ _ (aH [2,3,4,7]) ?_)
  refine N1 20<|NO U U [21] fun T20 F=>O_ U cm U<|aC (F _ _ (aH [2,3,4,7]) ?_)
  refine N1 21<|NO U U [] fun T21 G=>Ih U cm U<|aC (G _ _ (aH [2,3,4,7]) ?_)
  refine pX<|aG<|KK M ?_
  have H:(aa.cells (mu (eA ts f.toNat k) x.ku))=(aa.cells (eA ts f.toNat (k+1))):=by rw [pM hx]
  rw [H]
  have AB:(aa.cells (mu (f_ ts f.toNat k) x.lP))=(aa.cells (f_ ts f.toNat (k+1))):=by rw [pq hx]
  rw [AB]
  refine aj<|rP 3 [] mn ?_
  refine aC ?_
  have K:(vI (f+(((k+1):Nat):Int)))=(vI ((f+(k:Int))+1)):=by exact cI I
  refine aS (V ⟨((k+1),B9),⟨I,C,B⟩⟩ _ _ _ U os (ct 5<|aX U K<|dh.nil _) (aH [2,3,4,5,6,7]))
 refine vd (rem':=[18,19,20,21]) U kr fun T16 D=>?_
 refine rS (CL (dT.eq (pc (eA ts f.toNat k) ([x.ku]) (some ⟨T,0,none⟩) 1 (by exact qj hst I) (by intro z hz; simp only [bS] at hz; subst hz; exact uq L) sm) nk) (aw (aZ 0 rfl rfl (by simp [aa.aU]) rfl)<|aI) rfl) ?_
 refine aC (D _ _ (aH [1,2,3,6]) (aH [1,2,3,4,5,6]) ?_)
 refine N1 18<|vd (rem':=[19,20,21]) U kr fun T17 Y=>cY (xs:=[.tmp 39]) (cs:=(aa.cells x.lP)) U jJ de U U U U (by simp [Value.cells,aa.aU]) U U fun b=>aC (Y _ _ (aH [2,3,4,7]) (aH [2,3,4,5,6,7]) ?_)
 refine N1 19<|NO U U [20,21] fun T19 E=>?_
 refine rS (CL (dT.eq (pc (f_ ts f.toNat k) ([x.lP]) (some ⟨b,0,none⟩) 1 (by exact xw hst I) (by intro z hz; simp only [bS] at hz; subst hz; exact ud L) sm) nk) (aw (aZ 0 rfl rfl (by simp [aa.aU]) rfl)<|aI) rfl) ?_
 refine aC (E _ _ (aH [2,3,4,7]) ?_)
 refine N1 20<|NO U U [21] fun T20 F=>O_ U cm U<|aC (F _ _ (aH [2,3,4,7]) ?_)
 refine N1 21<|NO U U [] fun T21 G=>Ih U cm U<|aC (G _ _ (aH [2,3,4,7]) ?_)
 refine pX<|aG<|KK M ?_
 have H:(aa.cells (mu (eA ts f.toNat k) x.ku))=(aa.cells (eA ts f.toNat (k+1))):=by rw [pM hx]
 rw [H]
 have AB:(aa.cells (mu (f_ ts f.toNat k) x.lP))=(aa.cells (f_ ts f.toNat (k+1))):=by rw [pq hx]
 rw [AB]
 refine aj<|rP 3 [] mn ?_
 refine aC ?_
 have K:(vI (f+(((k+1):Nat):Int)))=(vI ((f+(k:Int))+1)):=by exact cI I
 refine aS (V ⟨((k+1),B9),⟨I,C,B⟩⟩ _ _ _ U os (ct 5<|aX U K<|dh.nil _) (aH [2,3,4,5,6,7]))
theorem L6 (ts:List al) (tsA:OA) (tsC:Nat) (f t:Int) (hst: ∀ x∈ts,bJ x) (hlen:ts.length≤12) (hf:0≤f∧f≤t∧t≤ts.length):
 dT Tryz.prog 146 [(vA (ei.cells (ei.mk (bE.mk (br.mk tsA ts.length tsC))))),(vI f),(vI t)] [(rd tsA ts.length 9 (ts.map al.cells))] (vT [(vA (aa.cells (eA ts f.toNat (t-f).toNat))),(vA (aa.cells (f_ ts f.toNat (t-f).toNat)))]):=by
 refine bx kr Tryz.func146 U U fun w0 Q hQ hN=>?_
 try dsimp only
 refine WS fun _ M=>fK U fun a=>um U U fun b=>um U U fun d=>AL U de fun e=>AL U de fun g=>RK M<|ah fun _ AA=>WS fun _ V=>rP 2 [0,1] (mc 4 U (mc 3 U mn)) ?_
 refine cX (Nm f tsA ts.length tsC) (aI) U fun u n=>?_
 obtain ⟨B,C⟩:=u
 try dsimp only
 refine RK V<|av<|kl 7 U (by exact fun _ h=>h) ?_
 refine Gb (L0:=[(3,(vP a)),(4,(vP b)),(5,(vP d)),(6,(vP e)),(7,(vP g))]) (F:=[(rd tsA ts.length 9 (ts.map al.cells)).ro,(bV B 3 [(vI f)]),(bV C 203 (ei.cells (ei.mk (bE.mk (br.mk tsA ts.length tsC)))))]) (xs:=(tY ts f.toNat)) (fun k (y:aa×aa×Int)=>(k≤(t-f).toNat)∧(y.2.2=f+(k:Int))) (fun k y=>[(bV g 40 (aa.cells y.2.1)),(bV e 40 (aa.cells y.1)),(bV d 3 [(vI t)]),(bV b 3 [(vI y.2.2)]),(bV a 203 (ei.cells (ei.mk (bE.mk (br.mk tsA ts.length tsC))))),(rd tsA ts.length 9 (ts.map al.cells)).ro]) (fun c (z:Unit)=>(c= .exit 0)) (fun _ z=>[(bV g 40 (aa.cells (f_ ts f.toNat (t-f).toNat))),(bV e 40 (aa.cells (eA ts f.toNat (t-f).toNat))),(bV d 3 [(vI t)]),(bV b 3 [(vI t)]),(bV a 203 (ei.cells (ei.mk (bE.mk (br.mk tsA ts.length tsC))))),(rd tsA ts.length 9 (ts.map al.cells)).ro]) [3,4,5,6,7,8] [0,1,2] (dv,dv,f) U U (HK ts tsA tsC f B C (by first|assumption|omega|(simp; done)) (by first|assumption|omega|(simp; done)) I) U U U (by exact ⟨Nat.zero_le _,sm⟩) (by simp only [List.forall_mem_cons,List.not_mem_nil,false_imp_iff,implies_true,and_true]; exact ⟨⟨_,sm,(dD (bP _))⟩,⟨_,sm,(bP _)⟩,⟨_,sm,(bP _)⟩⟩) (by exact EU) U (aT U) ?_ ?_ ?_ ?_
 rotate_left 1
 ·rintro q ⟨v,z2,m⟩ J
  obtain ⟨A,K⟩:=J
  try dsimp only at A K
  try dsimp only
  exfalso; rw [s7] at A; omega
 ·rintro r id _ Y
  have hc:=Y
  cases hc
  try dsimp only
  refine au<|KK AA<|ah fun _ D=>dG cu [2,3] [] [] [0,1,2,3,4,5,6,7,8,9] [] U U U U U<|eS U (LW 5 U bX U U)<|eS U (LW 4 U bX U U)<|eV U<|bY U fun T30 E=>Ih U cm U<|aC (E _ _ (aH [0,1,2,3,4,5,6,7,8,9]) ?_)
  refine bY U fun T31 G=>Ps U cm U<|aC (G _ _ (aH [0,1,2,3,4,5,6,7,8,9]) ?_)
  refine fF U<|KK D<|an<|hQ _ _ _ (ou 0 U U<|gZ (vs:=[(vA (aa.cells (eA ts f.toNat (t-f).toNat))),(vA (aa.cells (f_ ts f.toNat (t-f).toNat)))]) ⟨⟨_,U,.inl ⟨_,_,bX,pz (vs:=(aa.cells (eA ts f.toNat (t-f).toNat))) 5 U U,U,U⟩⟩,⟨_,U,.inl ⟨_,_,bX,pz (vs:=(aa.cells (f_ ts f.toNat (t-f).toNat))) 4 U U,U,U⟩⟩,trivial⟩ fun w hs=>Ej ?_ hs)
  show (vT [(vA (aa.cells (eA ts f.toNat (t-f).toNat))),(vA (aa.cells (f_ ts f.toNat (t-f).toNat)))])=(vT [(vA (aa.cells (eA ts f.toNat (t-f).toNat))),(vA (aa.cells (f_ ts f.toNat (t-f).toNat)))])
  clear hs w hQ hN G T31 E T30 D V AA M
  rfl
 ·rintro s _ Z
  cases Z
 rintro k x ⟨v,z2,m⟩ l ra rb S w1 K13 Qr14 hx AB N H L j
 obtain ⟨hk,rfl⟩:=GJ hx
 obtain ⟨A,K⟩:=AB
 try dsimp only at A K
 try dsimp only
 refine WS fun _ O=>AL U de fun o=>fP U cm U<|RK O<|aj<|AL U de fun p=>fP U cm U<|aC<|jC (fun _ _ h=>h) (aH [2,0,1,3,4,5,6,7,8])<|aS (N _ _ ?_)
 refine av<|ah fun _ P=>ah fun _ R=>dG cu [2,3] [] [] [0,1,2,5,6,7,8] [] U U U U U<|eS U (LW 2 U bX U U)<|eS U (LW 1 U bX U U)<|eV U<|bY U fun T21 W=>Ps U cm U<|aC (W _ _ (aH [0,1,2,5,6,7,8]) ?_)
 refine bY U fun T22 X=>TS U cm U<|aC (X _ _ (aH [0,1,2,5,6,7,8]) ?_)
 refine fF U<|KK R<|WS fun _ T=>rP 3 [0,1] (mc 6 U (mc 5 U mn)) ?_
 refine RK T<|cy U (aM fun i=>?_) (aL fun i=>?_)
 ·refine bu<|ab<|iw U ?_
  rw [show m=t from by omega]
  obtain rfl:k=(t-f).toNat:=by omega
  exact L _ () _ _ (by exact U) (aH [0,3,4,5,6,7,8])
 refine WK P<|aj<|rP 2 [] (mc 6 U mn) ?_
 refine VL U Bz U U<|aC<|aG ?_
 exact H ((eA ts f.toNat k),(f_ ts f.toNat k),(m+1)) _ _ (by refine ⟨I,?_⟩; dsimp only; omega) (aH [0,3,4,5,6,7,8])
end
section
open Go.RowKit
theorem Gy (i:Int) (s:cz) (ts:List al) (tsA:OA) (tsC g1:Nat) (hst: ∀ x∈ts,bJ x) (hlen:ts.length≤12):
 dT Tryz.prog 160 [(vI i),(vA (cz.cells s)),(vP g1)] [(rd tsA ts.length 9 (ts.map al.cells)),(bV g1 203 (ei.cells (ei.mk (bE.mk (br.mk tsA ts.length tsC)))))] (vB (!(decide (fh ts s)))):=by
 refine bx kr Tryz.func160 U U fun AA Q hQ hN=>?_
 try dsimp only
 refine WS fun _ C=>fK U fun G=>rP 1 [] mn ?_
 refine RK C<|ah fun _ A=>pG cu [0,1,2,3,4,5,6] [7,8,9,10,11,12,13,14,15,16,17,18,19,20,21,22,23,24,25,26] [false,false,false,false,false,false,false] [] [(bV G 111 (cz.cells s)),(rd tsA ts.length 9 (ts.map al.cells)).ro,(bV g1 203 (ei.cells (ei.mk (bE.mk (br.mk tsA ts.length tsC))))).ro] [] kr (aH [0,1,2]) (aH [])<|eS U (FA 0 U fu U)<|eS U (FA 0 U fu U)<|eS U (Ii (vS tsA ts.length tsC) 2 U bX U U)<|eS U (LN U PE)<|eS U (BI U (rO ⟨I,I⟩))<|eS U (FA 0 U fu U)<|eS U (L1 (vI s.aY) 0 U bX U U)<|eV U<|N1 7<|NO U U [8,9,10,11,12,13,14,15,16,17,18,19,20,21,22,23,24,25,26] fun T4 D=>cY (xs:=[.tmp 12]) (cs:=[(vI s.aY)]) U cp ja U U U U (by simp [Value.cells]) U U fun H=>RD D 1 U<|Ju [14,15,16,17,18,19,20,21,22,23,24,25,26,27,28,29,30,31,5] kr kr U _ U U (aH [1,2,3]) ?_
 refine dS (CL (dT.eq (o1 0 ((ts.length:Int)-1) ([s.aY]) (some ⟨H,0,none⟩) 1 (by (simp; done))) cS) (aw (aZ 0 U U (by simp [bB]) U)<|aI) U) ?_
 refine dP 2 [] mn ?_
 refine iZ (t:=16) U (bp fun B=>?_) (bq fun B=>?_)
 ·refine lz 9 U<|dP 7 [] mn ?_
  refine cM<|RK A<|an<|Q1 hQ U U U ?_
  (refine cB ?_; rw [cf (CT I)]; rfl)
 refine lz 1 U<|dS (LP (aa.cells s.mF) 1 U bX U U U)<|dP 5 [0,1] (mr 3 U (mc 1 U mn)) ?_
 obtain ⟨x,hx⟩:=aJ ts ((s.aY).toNat) I
 have E:=bG al.cells hx
 refine dS (IA ((s.aY).toNat) U (aD 2 U) yr dc I I)<|dS (nS ((((s.aY).toNat)*9)+1) U (aD 2 U) (Nat.mul_pos I dc) fu U) ?_
 have F:=(hst x (aR hx)).2.1
 simp only [dI] at F
 refine dS (nS ((((s.aY).toNat)*9)+1) U (aD 2 U) (Nat.mul_pos I dc) fu U)<|dS (fV ((s.aY).toNat) 1 (vI x.ku.Lo) U bX (aD 2 U) E U dc U)<|lz 1 U<|dS (CL (v9 s.mF 0 (x.ku.Lo-1)) (aI) U)<|dP 3 [] mn ?_
 refine cM<|RK A<|an<|Q1 hQ U U U ?_
 exact congrArg (fun b=>vB (!b)) (decide_eq_decide.2 (Ch I hx).symm)
theorem E9 (l:List cz) (lA:OA) (lC:Nat) (f:Value) (p:Int→cz→Bool) (X:aq) (hf: ∀ x0 x1,(∃ k:Nat,x0=(k:Int)∧l[k]? =some x1)→Em Tryz.prog f [.int .i64 x0,.agg (cz.cells x1).toArray] [X] (.bool (p x0 x1))) (hlen:l.length≤1000000):
 ly Tryz.prog 159 [(vS lA l.length lC),f] [(rd lA l.length 3 (l.map cz.cells)),X] (fun (x:(OA)×Nat)=>(vS x.1 ((JO (fun jj yy=>p (jj:Int) yy) l).length) x.2)) (fun (x:(OA)×Nat)=>True) (fun (x:(OA)×Nat)=>[(own x.1 x.2 3 1 ((JO (fun jj yy=>p (jj:Int) yy) l).map iC))]):=by
 refine dj kr Tryz.func159 U U fun W Q hQ hN=>?_
 try dsimp only
 refine WS fun _ L=>bf 1 U<|RK L<|WS fun _ M=>bf 1 U<|RK M<|ah fun _ N=>WS fun _ O=>rP 3 [] mn ?_
 refine RK O<|av<|fQ 3 1 ?_
 have A:(0≤l.length):=by exact Nat.zero_le _
 refine bH (ι:={z:Nat×(OA)×Nat // (z.1≤l.length)}) [0,1,8,9] [1,2] U U (fun z=>[(5,(vS z.1.2.1 ((rT (fun jj yy=>p (jj:Int) yy) l z.1.1).length) z.1.2.2)),(10,(vI (z.1.1:Int)))]) (fun z=>[(own z.1.2.1 z.1.2.2 3 1 ((rT (fun jj yy=>p (jj:Int) yy) l z.1.1).map iC))]) (fun _=>rfl) (fun _=>rfl) (fun z=>l.length-z.1.1) ⟨(0,none,0),A⟩ (aT U) (aH [1,2,0]) ?_
 clear A
 rintro ⟨⟨i,a,c⟩,B⟩ J5 C
 try dsimp only at B
 try dsimp only
 refine WS fun _ P=>rP 1 [] mn ?_
 refine RK P<|ah fun _ R=>bL U (aL fun V=>?_) (aM fun V=>?_)
 ·refine bu<|ab<|ab<|au<|KK N<|WS fun _ F=>?_
  rw [Od (p:=fun (i:Nat) x=>p (i:Int) x) (show i=l.length by omega)]
  refine rP 2 [] mn ?_
  refine RK F<|an<|LX hQ (a,c) [2] [] mn U U U U ?_
  trivial
 refine WK R<|ah fun _ G=>av<|WS fun _ D=>rP 1 [] mn ?_
 obtain ⟨x,hx⟩:=aJ l i I
 have S:=bG cz.cells hx
 refine rS (IA i U (aD 0 U) Km dc I I)<|rS (oI i 0 (cz.cells x) U bX (aD 0 U) S U dc U U)<|AL U Bu fun T=>bf 1 U<|fP U Kl U<|RK D<|WS fun _ E=>rP 3 [] (mc 0 U mn) ?_
 refine rS (SX (sk U U U (hf (i:Int) x ⟨i,U,hx⟩) (bj [2])) U U)<|RK E<|bL U (fun hp=>?_) (fun hp=>?_)
 ·refine b_<|aG<|KK G<|aj ?_
  rw [← NV (p:=fun (i:Nat) x=>p (i:Int) x) hx hp]
  refine rP 2 [] mn ?_
  refine aC ?_
  have AB:(vI (((i+1):Nat):Int))=(vI ((i:Int)+1)):=by exact cI I
  refine aS (C ⟨((i+1),a,c),(by first|omega|(simp only []; omega))⟩ _ _ _ U os (ct 5<|aX U AB<|dh.nil _) (aH [1,2,3]))
 refine aj<|rP 2 [] mn ?_
 refine cY (xs:=[.tmp 20]) (cs:=[(vI (i:Int))]) U cp ja U U U U (by simp [Value.cells]) U U fun AA=>?_
 refine db (es2:=(List.map iC (rT (fun jj yy=>p (jj:Int) yy) l (i+1)))) (m':=(rT (fun jj yy=>p (jj:Int) yy) l (i+1)).length) 4 U U U p7 U U sm (aZ (es:=List.map iC [(i:Int)]) 0 U U (by simp [bB]) U) (kf _) (by have:=B6 (p:=fun (i:Nat) x=>p (i:Int) x) (l:=l) (n:=i); simp; omega) (by have:=B6 (p:=fun (i:Nat) x=>p (i:Int) x) (l:=l) (n:=i); simp only [maxLen]; omega) (by rw [J_ hx hp]; simp) sm U fun J K=>?_
 try dsimp only
 refine bf 1 U<|aC<|aG<|KK G<|aj<|rP 2 [] mn ?_
 refine aC ?_
 have H:(vI (((i+1):Nat):Int))=(vI ((i:Int)+1)):=by exact cI I
 refine aS (C ⟨((i+1),J,K),(by first|omega|(simp only []; omega))⟩ _ _ _ U os (ct 5<|aX U H<|dh.nil _) (aH [2,3,4]))
theorem BP (ts:List al) (tsA:OA) (tsC:Nat) (l:List cz) (lA:OA) (lC:Nat) (hst: ∀ x∈ts,bJ x) (hlen:ts.length≤12) (hl:l.length≤4):
 dT Tryz.prog 145 [(vA (ei.cells (ei.mk (bE.mk (br.mk tsA ts.length tsC))))),(vS lA l.length lC)] [(rd tsA ts.length 9 (ts.map al.cells)),(rd lA l.length 3 (l.map cz.cells))] (vB (decide (∀ s∈l,fh ts s))):=by
 refine bx kr Tryz.func145 U U fun J Q hQ hN=>?_
 try dsimp only
 refine WS fun _ B=>fK U fun A=>bf 1 U<|RK B<|WS fun _ C=>rP 1 [] mn ?_
 refine rS (FU U) ?_
 refine cX (E9 l lA lC (Value.func (.func 160) [].toArray [(vP A)].toArray) (fun E D=>(!(decide (fh ts D)))) (eW [(rd tsA ts.length 9 (ts.map al.cells)),(bV A 203 (ei.cells (ei.mk (bE.mk (br.mk tsA ts.length tsC)))))]) (by intro E D _; exact nj (fi:=[]) (ca:=[(vP A)]) (l3 (Gy E D ts tsA tsC A (by first|assumption|omega) (by first|assumption|omega)) (bj [0,1]))) I) (fD 2 U U<|aw (l6 (bj [1,0]))<|aI) U fun G F=>?_
 obtain ⟨H,AA⟩:=G
 try dsimp only
 refine rP 3 [] mn ?_
 refine RK C<|an<|Q1 hQ U U U ?_
 exact congrArg Value.bool (decide_eq_decide.2 (by rw [show ∀ n:Nat,((n:Int)=0)↔n=0 from fun n=>by omega,GK]; simp only [Bool.not_eq_false',decide_eq_true_eq]; exact ⟨fun h s hs=>by obtain ⟨k,hk⟩:=List.getElem?_of_mem hs; exact h k s hk,fun h k s hk=>h s (List.mem_of_getElem? hk)⟩))
theorem DV (z:aa) (hz:lp z):
 dT Tryz.prog 162 [(vA (aa.cells z))] [] (vA (aa.cells (nX z))):=by
 unfold lp at hz
 refine bx kr Tryz.func162 U U fun E Q hQ hN=>?_
 try dsimp only
 refine WS fun _ A=>fK U fun C=>AL U de fun D=>RK A<|WS fun _ B=>fw 2 [] (mc 1 U mn) U<|rS (NG U ⟨I,I⟩)<|rP 2 [] (mc 1 U mn) ?_
 refine rS (NG U ⟨I,I⟩)<|rS (SX (bh (xs:=[(0,.tmp 5),(1,.tmp 8)]) (cs:=(aa.cells (aa.mk (-z.Hi) (-z.Lo)))) U U (bg gp U)) U U)<|fP U cm U<|RK B<|an ?_
 exact Ik hQ [0] (mc 0 U mn) U U
theorem Sf (ts:List al) (tsA:OA) (tsC:Nat) (s:cz) (hlen:ts.length≤1000000) (hside: ∀ x∈ts,0≤x.iY∧x.iY≤255):
 dT Tryz.prog 124 [(vA (bE.cells (bE.mk (br.mk tsA ts.length tsC)))),(vA (cz.cells s))] [(rd tsA ts.length 9 (ts.map al.cells))] (vT [(vA (aa.cells (Q5 ts s))),(vI (Gv ts s))]):=by
 refine bx kr Tryz.func124 U U fun Z Q hQ hN=>?_
 try dsimp only
 refine WS fun _ K=>fK U fun V=>fK U fun W=>AL U de fun X=>bf 1 U<|RK K<|WS fun _ L=>fw 1 [] (mc 2 U mn) U<|rS (CL (Gm ts tsA tsC hlen hside) (bj [3]) U)<|bf 3 U<|AL U KP fun Y=>fP U JE U<|bf 1 U<|RK L<|ah fun _ M=>WS fun _ N=>rP 2 [] mn ?_
 refine RK N<|cy U (bp fun he=>?_) (bq fun he=>?_)
 ·refine WS fun _ O=>rS (SX (bh (xs:=[]) (cs:=(aa.cells (aa.mk 0 0))) U U (bg gp U)) U U)<|bf 1 U<|ub U cm U<|rP 1 [] mn ?_
  refine RK O<|an<|lj hQ [0] (mc 1 U mn) U ?_
  (have e:=LU (s:=s) (zB he).1; rw [e.1,e.2,(zB he).2]<;>rfl)
 refine WK M<|ah fun _ C=>WS fun _ D=>?_
 have B:=Ez he
 have H:=jI B
 have R:=kN B
 refine rP 2 [0,1] (mc 0 U (mc 2 U mn)) ?_
 refine cY (xs:=[.tmp 20]) (cs:=(cz.cells s)) U Km Bu U U U U (by simp [Value.cells,cz.aU]) U U fun AB=>?_
 refine rS (CL (dT.eq (BP ts tsA tsC ([s]) (some ⟨AB,0,none⟩) 1 asm asm (by (simp; done))) E2) (fD 5 U U<|aw (aZ 0 U U (by simp [cz.aU]) U)<|aI) U) ?_
 refine rP 1 [] mn ?_
 refine RK D<|cy U (bp fun A=>?_) (bq fun A=>?_)
 ·refine WS fun _ E=>rS (SX (bh (xs:=[]) (cs:=(aa.cells (aa.mk 0 0))) U U (bg gp U)) U U)<|GB U cm U<|rP 1 [] mn ?_
  refine RK E<|an<|lj hQ [0] (mc 2 U mn) U ?_
  (have e:=Kh B A; rw [e.1,e.2]<;>rfl)
 refine WK C<|WS fun _ F=>?_
 have AA:=A.1
 have P:=qw H A
 refine fw 3 [0,1] (mc 1 U (mc 3 U mn)) U<|rS (CL (L6 ts tsA tsC 0 s.aY asm asm I) (bj [5]) U)<|bf 3 U<|AL U de fun S=>AL U de fun T=>ub U cm U<|fP U cm U<|RK F<|WS fun _ G=>rP 2 [] (mc 1 U mn) ?_
 refine rS (LP (aa.cells s.mF) 5 U bX U U U)<|cY (xs:=[.tmp 34]) (cs:=(aa.cells s.mF)) U jJ de U U U U (by simp [Value.cells,aa.aU]) U U fun J=>?_
 refine rS (CL (dT.eq (pc (eA ts (0:Int).toNat (s.aY-0).toNat) ([s.mF]) (some ⟨J,0,none⟩) 1 (by exact qj H I) (by intro z hz; simp only [bS] at hz; subst hz; exact P) sm) nk) (aw (aZ 0 rfl rfl (by simp [aa.aU]) rfl)<|aI) rfl) ?_
 refine Ih U cm U<|rP 1 [] mn ?_
 refine RK G<|an<|lj hQ [0] (mc 5 U mn) U ?_
 (have e:=xO B A; rw [e.1,e.2]; unfold My; rw [show (s.aY-0).toNat=s.aY.toNat by rw [Int.sub_zero]]<;>rfl)
theorem OM (ts:List al) (tsA:OA) (tsC:Nat) (p:cz) (q:cz) (hlen:ts.length≤1000000) (hside: ∀ x∈ts,0≤x.iY∧x.iY≤255):
 dT Tryz.prog 148 [(vA (bE.cells (bE.mk (br.mk tsA ts.length tsC)))),(vA (cz.cells p)),(vA (cz.cells q))] [(rd tsA ts.length 9 (ts.map al.cells))] (vT [(vA (aa.cells (kM ts p q))),(vI (lI ts p q))]):=by
 refine bx kr Tryz.func148 U U fun w Q hQ hN=>?_
 try dsimp only
 refine WS fun _ c=>fK U fun r=>fK U fun s=>fK U fun t=>AL U de fun u=>bf 1 U<|RK c<|WS fun _ d=>fw 1 [] (mc 3 U mn) U<|rS (CL (Gm ts tsA tsC hlen hside) (bj [4]) U)<|bf 3 U<|AL U KP fun v=>fP U JE U<|bf 1 U<|RK d<|ah fun _ g=>WS fun _ h=>rP 2 [] mn ?_
 refine RK h<|cy U (bp fun he=>?_) (bq fun he=>?_)
 ·refine WS fun _ G=>rS (SX (bh (xs:=[]) (cs:=(aa.cells (aa.mk 0 0))) U U (bg gp U)) U U)<|bf 1 U<|ub U cm U<|rP 1 [] mn ?_
  refine RK G<|an<|lj hQ [0] (mc 1 U mn) U ?_
  (have e:=ug (a:=p) (b:=q) (zB he).1; rw [e.1,e.2,(zB he).2]<;>rfl)
 refine WK g<|ah fun _ H=>WS fun _ AB=>?_
 have A:=Ez he
 have F:=jI A
 have j:=kN A
 refine rP 3 [0,1,2] (mc 0 U (mc 3 U (mc 2 U mn))) ?_
 refine cY (xs:=[.tmp 22,.tmp 23]) (cs:=((cz.cells p)++(cz.cells q))) U Km Bu U U U U (by simp [Value.cells,cz.aU]) U U fun X=>?_
 refine rS (CL (dT.eq (BP ts tsA tsC ([p,q]) (some ⟨X,0,none⟩) 2 asm asm (by (simp; done))) Ew) (fD 6 U U<|aw (aZ 0 U U (by simp [cz.aU]) U)<|aI) U) ?_
 refine rP 1 [] mn ?_
 refine RK AB<|cy U (bp fun D=>?_) (bq fun D=>?_)
 ·refine WS fun _ J=>rS (SX (bh (xs:=[]) (cs:=(aa.cells (aa.mk 0 0))) U U (bg gp U)) U U)<|GB U cm U<|rP 1 [] mn ?_
  refine RK J<|an<|lj hQ [0] (mc 2 U mn) U ?_
  (have e:=oQ A D; rw [e.1,e.2]<;>rfl)
 refine WK H<|WS fun _ K=>?_
 obtain ⟨hp,hq⟩:=D
 have n:=hp.1
 have o:=hq.1
 have i:=qw F hp
 have W:=qw F hq
 have V:=z3 i
 have B:=qj F (f:=(min p.aY q.aY).toNat) (k:=(max p.aY q.aY-min p.aY q.aY).toNat) I
 refine fw 5 [0,1,2] (mc 1 U (mc 4 U (mc 3 U mn))) U<|rS (MN U)<|fw 4 [0,1] (mc 4 U (mc 3 U mn)) U<|rS (MX U)<|rS (CL (L6 ts tsA tsC (min p.aY q.aY) (max p.aY q.aY) asm asm I) (bj [6]) U)<|bf 3 U<|AL U de fun l=>AL U de fun m=>ub U cm U<|fP U cm U<|RK K<|ah fun _ C=>WS fun _ L=>rP 5 [0,1] (mc 5 U (mc 6 U mn)) ?_
 refine RK L<|bL U (aL fun E=>?_) (aM fun E=>?_)
 ·refine WK C<|ah fun _ N=>dG cu [6,7,8] [] [] [0,1,2,3,5,6,7,8] [] U U U U U<|eS U (LW 1 U bX U U)<|eS U (FA 1 U fu U)<|eS U (LP (aa.cells q.mF) 4 U bX U U U)<|eS U (FA 1 U fu U)<|eS U (LP (aa.cells p.mF) 5 U bX U U U)<|eS U (CL (DV p.mF asm) (aI) U)<|eS U (AG U)<|eV U<|bY U fun T26 S=>cY (xs:=[.tmp 52,.tmp 55]) (cs:=((aa.cells q.mF)++(aa.cells (nX p.mF)))) U jJ de U U U U (by simp [Value.cells,aa.aU]) U U fun Z=>aC (S _ _ (aH [1,2,3,4,6,7,8,9]) ?_)
  refine bY U fun T28 T=>?_
  refine rS (CL (dT.eq (pc (eA ts (min p.aY q.aY).toNat ((max p.aY q.aY)-(min p.aY q.aY)).toNat) ([q.mF,(nX p.mF)]) (some ⟨Z,0,none⟩) 2 (by first|exact B|exact z3 B) (by intro z hz; simp only [ed,List.not_mem_nil,or_false] at hz; rcases hz with rfl|rfl; exact W; exact V) sm) CW) (aw (aZ 0 rfl rfl (by simp [aa.aU]) rfl)<|aI) rfl) ?_
  refine aC (T _ _ (aH [1,2,3,4,6,7,8,9]) ?_)
  refine bY U fun T29 AA=>Ih U cm U<|aC (AA _ _ (aH [1,2,3,4,6,7,8,9]) ?_)
  refine fF U<|KK N<|an<|lj hQ [0] (mc 5 U mn) U ?_
  (have e:=lf A ⟨hp,hq⟩; rw [e.1,e.2]; unfold jL x7; rw [if_neg E]<;>rfl)
 refine aj<|rP 1 [] (mc 1 U mn) ?_
 refine rS (CL (DV (eA ts (min p.aY q.aY).toNat ((max p.aY q.aY)-(min p.aY q.aY)).toNat) asm) (aI) U)<|ub U cm U<|RK C<|ah fun _ M=>dG cu [6,7,8] [] [] [0,1,2,3,5,6,7,8] [] U U U U U<|eS U (LW 1 U bX U U)<|eS U (FA 1 U fu U)<|eS U (LP (aa.cells q.mF) 4 U bX U U U)<|eS U (FA 1 U fu U)<|eS U (LP (aa.cells p.mF) 5 U bX U U U)<|eS U (CL (DV p.mF asm) (aI) U)<|eS U (AG U)<|eV U<|bY U fun T21 O=>cY (xs:=[.tmp 52,.tmp 55]) (cs:=((aa.cells q.mF)++(aa.cells (nX p.mF)))) U jJ de U U U U (by simp [Value.cells,aa.aU]) U U fun Y=>aC (O _ _ (aH [1,2,3,4,6,7,8,9]) ?_)
 refine bY U fun T23 P=>?_
 refine rS (CL (dT.eq (pc (nX (eA ts (min p.aY q.aY).toNat ((max p.aY q.aY)-(min p.aY q.aY)).toNat)) ([q.mF,(nX p.mF)]) (some ⟨Y,0,none⟩) 2 (by first|exact B|exact z3 B) (by intro z hz; simp only [ed,List.not_mem_nil,or_false] at hz; rcases hz with rfl|rfl; exact W; exact V) sm) CW) (aw (aZ 0 rfl rfl (by simp [aa.aU]) rfl)<|aI) rfl) ?_
 refine aC (P _ _ (aH [1,2,3,4,6,7,8,9]) ?_)
 refine bY U fun T24 R=>Ih U cm U<|aC (R _ _ (aH [1,2,3,4,6,7,8,9]) ?_)
 refine fF U<|KK M<|an<|lj hQ [0] (mc 5 U mn) U ?_
 (have e:=lf A ⟨hp,hq⟩; rw [e.1,e.2]; unfold jL x7; rw [if_pos E]<;>rfl)
theorem q_ (ts:List al) (tsA:OA) (tsC:Nat) (s:cz) (hst: ∀ x∈ts,bJ x) (hlen:ts.length≤12):
 dT Tryz.prog 155 [(vA (bE.cells (bE.mk (br.mk tsA ts.length tsC)))),(vA (cz.cells s))] [(rd tsA ts.length 9 (ts.map al.cells))] (vB (decide (fh ts s))):=by
 refine bx kr Tryz.func155 U U fun H Q hQ hN=>?_
 try dsimp only
 refine WS fun _ C=>fK U fun F=>fK U fun G=>bf 1 U<|RK C<|ah fun _ A=>dB cu 22 kr<|mL 6 [0,1] (mc 0 U (mc 1 U mn)) U<|dS (CL (oO s.aY 0 ((ts.length:Int)-1)) (aI) U)<|dP 1 [] mn ?_
 refine jo (t:=12) U (aL fun B=>?_) (aM fun B=>?_)
 ·refine lz 8 U<|dP 6 [] mn ?_
  refine cM<|RK A<|an<|Q1 hQ U U U ?_
  (refine cB ?_; rw [cf (CT I)])
 refine lz 1 U<|dS (LP (aa.cells s.mF) 0 U bX U U U)<|dP 4 [0,1] (mc 1 U (mc 0 U mn)) ?_
 obtain ⟨x,hx⟩:=aJ ts ((s.aY).toNat) I
 have D:=bG al.cells hx
 refine dS (IA ((s.aY).toNat) U (aD 2 U) yr dc I I)<|dS (nS ((((s.aY).toNat)*9)+1) U (aD 2 U) (Nat.mul_pos I dc) fu U) ?_
 have E:=(hst x (aR hx)).2.1
 simp only [dI] at E
 refine dS (nS ((((s.aY).toNat)*9)+1) U (aD 2 U) (Nat.mul_pos I dc) fu U)<|dS (fV ((s.aY).toNat) 1 (vI x.ku.Lo) U bX (aD 2 U) D U dc U)<|lz 1 U<|dS (CL (pK s.mF 0 (x.ku.Lo-1)) (aI) U)<|dP 2 [] mn ?_
 refine cM<|RK A<|an<|Q1 hQ U U U ?_
 exact cB (decide_eq_decide.2 (Ch I hx).symm)
theorem Ak (ts:List al) (tsA:OA) (tsC:Nat) (f t:Int) (hst: ∀ x∈ts,bJ x) (hlen:ts.length≤12) (hf:0≤f∧f≤t∧t≤ts.length):
 dT Tryz.prog 171 [(vA (bE.cells (bE.mk (br.mk tsA ts.length tsC)))),(vI f),(vI t)] [(rd tsA ts.length 9 (ts.map al.cells))] (vT [(vA (aa.cells (eA ts f.toNat (t-f).toNat))),(vA (aa.cells (f_ ts f.toNat (t-f).toNat)))]):=by
 refine bx kr Tryz.func171 U U fun i Q hQ hN=>?_
 try dsimp only
 refine WS fun _ R=>fK U fun e=>AL U de fun g=>AL U de fun h=>RK R<|WS fun _ S=>AL U de fun a=>AL U de fun b=>RK S<|ah fun _ T=>WS fun _ AA=>rP 2 [] mn ?_
 refine RK AA<|av ?_
 have A:(0≤(t-f).toNat):=by exact Nat.zero_le _
 have K:(vI (f+(0:Int)))=(vI f):=by exact cI I
 refine bH (ι:={z:Nat // (z≤(t-f).toNat)}) [1,2,3,6,7,8,9] [2,3,4,5] U U (fun z=>[(10,(vI (f+(z.1:Int))))]) (fun z=>[(bV b 40 (aa.cells (f_ ts f.toNat z.1))),(bV a 40 (aa.cells (eA ts f.toNat z.1)))]) (fun _=>rfl) (fun _=>rfl) (fun z=>(t-f).toNat-z.1) ⟨0,A⟩ (aX U K<|dh.nil _) (aH [2,3,4,5,0,1]) ?_
 clear A
 rintro ⟨k,V⟩ J11 B
 try dsimp only
 refine ah fun _ C=>WS fun _ D=>rP 3 [] mn ?_
 refine RK D<|bL U (aL fun P=>?_) (aM fun P=>?_)
 ·refine bu<|ab<|ab<|au<|KK T<|ah fun _ H=>dG cu [2,3] [] [] [2,3,4,5] [] U U U U U<|eS U (LW 3 U bX U U)<|eS U (LW 2 U bX U U)<|eV U<|bY U fun T23 AB=>ub U cm U<|aC (AB _ _ (aH [2,3,4,5]) ?_)
  refine bY U fun T24 J=>fP U cm U<|aC (J _ _ (aH [2,3,4,5]) ?_)
  refine fF U<|KK H<|an<|lj hQ [0,1] (mc 1 U (mc 0 U mn)) U ?_
  obtain rfl:k=(t-f).toNat:=I; rfl
 refine WK C<|ah fun _ E=>av<|WS fun _ F=>rP 3 [] (mc 2 U mn) ?_
 obtain ⟨x,hx⟩:=aJ ts (f.toNat+k) I
 have Y:=bG al.cells hx
 refine rS (IA (f.toNat+k) U (aD 3 U) yr dc I I)<|rS (oI (f.toNat+k) 0 (al.cells x) U bX (aD 3 U) Y U dc U U)<|AL U Gi fun Z=>fP U Il U<|RK F<|WS fun _ G=>?_
 have O:=hst x (aR hx)
 have d:=l5 hst f.toNat k
 have c:=FR hst f.toNat k
 have W:=O.2.1
 have X:=O.2.2.1
 simp only [dI] at W X
 refine fw 12 [0,1,0,1] (mc 6 U (mc 0 U mn)) U<|rS (SX (bh (xs:=[(0,.tmp 28),(1,.tmp 34)]) (cs:=(aa.cells (aa.mk (((eA ts f.toNat k).Lo)+x.ku.Lo) (((eA ts f.toNat k).Hi)+x.ku.Hi)))) U U (bg gp U)) U U)<|O_ U cm U<|RK G<|aj<|rP 12 [0,1,0,1] (mc 5 U (mc 0 U mn)) ?_
 refine rS (SX (bh (xs:=[(0,.tmp 41),(1,.tmp 47)]) (cs:=(aa.cells (aa.mk (((f_ ts f.toNat k).Lo)+x.lP.Lo) (((f_ ts f.toNat k).Hi)+x.lP.Hi)))) U U (bg gp U)) U U)<|Ih U cm U<|aC<|aG<|KK E ?_
 have L:(aa.cells (aa.mk (((eA ts f.toNat k).Lo)+x.ku.Lo) (((eA ts f.toNat k).Hi)+x.ku.Hi)))=(aa.cells (eA ts f.toNat (k+1))):=by rw [pM hx]; rfl
 rw [L]
 have M:(aa.cells (aa.mk (((f_ ts f.toNat k).Lo)+x.lP.Lo) (((f_ ts f.toNat k).Hi)+x.lP.Hi)))=(aa.cells (f_ ts f.toNat (k+1))):=by rw [pq hx]; rfl
 rw [M]
 refine aj<|rP 3 [] mn ?_
 refine aC ?_
 have N:(vI (f+(((k+1):Nat):Int)))=(vI ((f+(k:Int))+1)):=by exact cI I
 refine aS (B ⟨(k+1),(by first|omega|(simp only []; omega))⟩ _ _ _ U os (ct 7<|aX U N<|dh.nil _) (aH [1,2,3,4,5,6]))
end
section
open Go.RowKit
theorem P8 (l:a_) (kA:OA) (kC:Nat) (az:List RA) (cA:OA) (cC:Nat) (bA:OA) (bC:Nat) (hin:er l az):
 dT Tryz.prog 115 [(vA (ck.cells (lk l kA kC cA cC bA bC)))] [(rd kA l.aP.length 9 (l.aP.map al.cells)),(rd cA l.ak.length 2 (List.zipWith ar.cells l.ak az)),(eW (aV ar.g0 l.ak az)),(rd bA l.ae.length 4 (l.ae.map bD.cells))] (vB (decide (gn l))):=by
 have R:=hin.sH
 have P:=hin.sI
 have N:=hin.oF
 have O:=hin.sG
 refine bx kr Tryz.func115 U U fun T Q hQ hN=>?_
 try dsimp only
 refine WS fun _ G=>fK U fun S=>bf 1 U<|RK G<|WS fun _ A=>rP 2 [] (mc 0 U mn) ?_
 refine cY (xs:=[.tmp 4]) (cs:=[(vI l.hE)]) U cp ja U U U U (by simp [Value.cells]) U U fun H=>?_
 refine rS (CL (dT.eq (iQ 1 5000 ([l.hE]) (some ⟨H,0,none⟩) 1 (by (simp; done))) cS) (aw (aZ 0 U U (by simp [bB]) U)<|aI) U) ?_
 refine rP 1 [] mn ?_
 refine bZ (t:=7) U (aL fun K=>?_) (aM fun K=>?_)
 ·refine rP 36 [] mn ?_
  refine RK A<|an<|Q1 hQ U U U ?_
  exact cB (cf (by unfold gn; omega)).symm
 refine rP 3 [] (mc 1 U mn) ?_
 refine cY (xs:=[.tmp 10]) (cs:=[(vI (l.ak.length:Int))]) U cp ja U U U U (by simp [Value.cells]) U U fun AA=>?_
 refine rS (CL (dT.eq (iQ 1 4 ([(l.ak.length:Int)]) (some ⟨AA,0,none⟩) 1 (by (simp; done))) cS) (aw (aZ 0 U U (by simp [bB]) U)<|aI) U) ?_
 refine rP 2 [] mn ?_
 refine bZ (t:=14) U (aL fun L=>?_) (aM fun L=>?_)
 ·refine rP 29 [] mn ?_
  refine RK A<|an<|Q1 hQ U U U ?_
  exact cB (cf (by unfold gn; omega)).symm
 refine rP 3 [] (mc 2 U mn) ?_
 refine cY (xs:=[.tmp 17]) (cs:=[(vI (l.ae.length:Int))]) U cp ja U U U U (by simp [Value.cells]) U U fun J=>?_
 refine rS (CL (dT.eq (iQ 1 6 ([(l.ae.length:Int)]) (some ⟨J,0,none⟩) 1 (by (simp; done))) cS) (aw (aZ 0 U U (by simp [bB]) U)<|aI) U) ?_
 refine rP 2 [] mn ?_
 refine bZ (t:=21) U (aL fun M=>?_) (aM fun M=>?_)
 ·refine rP 22 [] mn ?_
  refine RK A<|an<|Q1 hQ U U U ?_
  exact cB (cf (by unfold gn; omega)).symm
 refine rP 6 [] (mc 3 U mn) ?_
 refine cY (xs:=[.tmp 27]) (cs:=[(vI l.cJ)]) U cp ja U U U U (by simp [Value.cells]) U U fun B=>?_
 refine rS (CL (dT.eq (iQ 0 ((l.ae.length:Int)-1) ([l.cJ]) (some ⟨B,0,none⟩) 1 (by (simp; done))) cS) (aw (aZ 0 U U (by simp [bB]) U)<|aI) U) ?_
 refine rP 2 [] mn ?_
 refine bZ (t:=31) U (aL fun E=>?_) (aM fun E=>?_)
 ·refine rP 12 [] mn ?_
  refine RK A<|an<|Q1 hQ U U U ?_
  exact cB (cf (by unfold gn; omega)).symm
 refine rP 2 [] (mc 4 U mn) ?_
 refine cY (xs:=[.tmp 33]) (cs:=[(vI l.eU)]) U cp ja U U U U (by simp [Value.cells]) U U fun C=>?_
 refine rS (CL (dT.eq (iQ 0 3 ([l.eU]) (some ⟨C,0,none⟩) 1 (by (simp; done))) cS) (aw (aZ 0 U U (by simp [bB]) U)<|aI) U) ?_
 refine rP 2 [] mn ?_
 refine bZ (t:=37) U (aL fun F=>?_) (aM fun F=>?_)
 ·refine rP 6 [] mn ?_
  refine RK A<|an<|Q1 hQ U U U ?_
  exact cB (cf (by unfold gn; omega)).symm
 refine rP 2 [] (mc 5 U mn) ?_
 refine cY (xs:=[.tmp 39]) (cs:=[(vI l.cW)]) U cp ja U U U U (by simp [Value.cells]) U U fun D=>?_
 refine rS (CL (dT.eq (iQ 0 3 ([l.cW]) (some ⟨D,0,none⟩) 1 (by (simp; done))) cS) (aw (aZ 0 U U (by simp [bB]) U)<|aI) U) ?_
 refine rP 2 [] mn ?_
 refine RK A<|an<|Q1 hQ U U U ?_
 exact cB (decide_eq_decide.2 (by unfold gn; omega))
theorem Q4 (l:a_) (kA:OA) (kC:Nat) (az:List RA) (cA:OA) (cC:Nat) (bA:OA) (bC:Nat) (hin:er l az):
 dT Tryz.prog 117 [(vA (ck.cells (lk l kA kC cA cC bA bC)))] [(rd kA l.aP.length 9 (l.aP.map al.cells)),(rd cA l.ak.length 2 (List.zipWith ar.cells l.ak az)),(eW (aV ar.g0 l.ak az)),(rd bA l.ae.length 4 (l.ae.map bD.cells))] (vB (decide (∀ c∈l.ak,eQ c))):=by
 have H:=hin.sH
 have G:=hin.sI
 have E:=hin.oF
 have F:=hin.sG
 refine bx kr Tryz.func117 U U fun K Q hQ hN=>?_
 try dsimp only
 refine WS fun _ C=>fK U fun J=>bf 1 U<|RK C<|WS fun _ D=>rP 2 [] (mc 0 U mn) ?_
 refine rS (CL (Ad l.ak az cA cC (Value.func (.func 119) [].toArray [].toArray) (fun m=>(!(decide (eQ m)))) (eW (aV ar.g0 l.ak az)) (by intro AA m a B A; exact nj (fi:=[]) (ca:=[]) (Rx l.ak az AA m a (by exact B) (by exact A) (by exact hin.Q9 _ _ _ B A))) asm asm) (OL 2 3 3 U U U U U U) U) ?_
 refine rP 2 [] mn ?_
 refine RK D<|an<|Q1 hQ U U U ?_
 exact cB (by rw [Bool.eq_iff_iff,decide_eq_true_eq]; exact DX)
theorem PA (b:bD) (l:a_) (kA:OA) (kC:Nat) (az:List RA) (cA:OA) (cC:Nat) (bA:OA) (bC g1:Nat) (hin:er l az) (htr:cT l.aP=true):
 dT Tryz.prog 123 [(vA (bD.cells b)),(vP g1)] [(rd kA l.aP.length 9 (l.aP.map al.cells)),(rd cA l.ak.length 2 (List.zipWith ar.cells l.ak az)),(eW (aV ar.g0 l.ak az)),(rd bA l.ae.length 4 (l.ae.map bD.cells)),(bV g1 31 (ck.cells (lk l kA kC cA cC bA bC)))] (vB (!(decide (jT l b)))):=by
 have J:=hin.sH
 have H:=hin.sI
 have F:=hin.oF
 have G:=hin.sG
 have AA:=hin.side
 refine bx kr Tryz.func123 U U fun M Q hQ hN=>?_
 try dsimp only
 refine WS fun _ C=>fK U fun K=>bf 1 U<|RK C<|WS fun _ D=>bf 1 U<|rS (VC (bE.cells (bE.mk (br.mk kA l.aP.length kC))) 5 U bX U U U)<|bf 1 U<|rS (LP (cz.cells b.mK) 0 U bX U U U)<|rS (CL (Sf l.aP kA kC b.mK asm asm) (bj [1]) U)<|bf 3 U<|AL U de fun L=>fP U cm U<|bf 1 U<|RK D<|WS fun _ B=>rP 3 [] mn ?_
 refine cQ (t:=16) U (bp fun A=>?_) (bq fun A=>?_)
 ·refine rP 11 [] mn ?_
  refine RK B<|an<|Q1 hQ U U U ?_
  (refine cB ?_; rw [cf (fun h:jT l b=>A ((Gl htr).2 h.1))]; rfl)
 refine rP 6 [0,1] (mr 6 U (mc 1 U mn)) ?_
 refine cY (xs:=[.tmp 22]) (cs:=[(vI b.jR)]) U cp ja U U U U (by simp [Value.cells]) U U fun E=>?_
 refine rS (CL (dT.eq (iQ 0 ((l.ak.length:Int)-1) ([b.jR]) (some ⟨E,0,none⟩) 1 (by (simp; done))) cS) (aw (aZ 0 U U (by simp [bB]) U)<|aI) U) ?_
 refine rP 3 [] mn ?_
 refine RK B<|an<|Q1 hQ U U U ?_
 (refine cB ?_; refine congrArg Bool.not (decide_eq_decide.2 ⟨fun h=>⟨(Gl htr).1 A,I,I⟩,fun h=>by have:=h.2; omega⟩))
theorem Qf (l:a_) (kA:OA) (kC:Nat) (az:List RA) (cA:OA) (cC:Nat) (bA:OA) (bC:Nat) (hin:er l az) (htr:cT l.aP=true):
 dT Tryz.prog 121 [(vA (ck.cells (lk l kA kC cA cC bA bC)))] [(rd kA l.aP.length 9 (l.aP.map al.cells)),(rd cA l.ak.length 2 (List.zipWith ar.cells l.ak az)),(eW (aV ar.g0 l.ak az)),(rd bA l.ae.length 4 (l.ae.map bD.cells))] (vB (decide (∀ b∈l.ae,jT l b))):=by
 have H:=hin.sH
 have G:=hin.sI
 have E:=hin.oF
 have F:=hin.sG
 refine bx kr Tryz.func121 U U fun AA Q hQ hN=>?_
 try dsimp only
 refine WS fun _ B=>fK U fun A=>bf 1 U<|RK B<|WS fun _ C=>rP 2 [] (mc 0 U mn) ?_
 refine rS (FU U) ?_
 refine rS (CL (Ap l.ae bA bC (Value.func (.func 123) [].toArray [(vP A)].toArray) (fun D=>(!(decide (jT l D)))) (eW [(rd kA l.aP.length 9 (l.aP.map al.cells)),(rd cA l.ak.length 2 (List.zipWith ar.cells l.ak az)),(eW (aV ar.g0 l.ak az)),(rd bA l.ae.length 4 (l.ae.map bD.cells)),(bV A 31 (ck.cells (lk l kA kC cA cC bA bC)))]) (by intro D _; exact nj (fi:=[]) (ca:=[(vP A)]) (l3 (PA D l kA kC az cA cC bA bC A (by first|assumption|omega) (by first|assumption|omega)) (bj [0,1,2,3,4]))) asm) (fD 4 U U<|aw (l6 (bj [1,2,3,4,0]))<|aI) U) ?_
 refine rP 2 [] mn ?_
 refine RK C<|an<|Q1 hQ U U U ?_
 exact cB (by rw [Bool.eq_iff_iff,decide_eq_true_eq]; exact G8)
theorem Pt (l:a_) (kA:OA) (kC:Nat) (az:List RA) (cA:OA) (cC:Nat) (bA:OA) (bC:Nat) (n:Int) (hin:er l az) (htr:cT l.aP=true) (hbk: ∀ b∈l.ae,jT l b) (hn:0≤n∧n<(l.ae.length:Int)):
 dT Tryz.prog 126 [(vA (ck.cells (lk l kA kC cA cC bA bC))),(vI n)] [(rd kA l.aP.length 9 (l.aP.map al.cells)),(rd cA l.ak.length 2 (List.zipWith ar.cells l.ak az)),(eW (aV ar.g0 l.ak az)),(rd bA l.ae.length 4 (l.ae.map bD.cells))] (vI (lW l n.toNat)):=by
 have P:=hin.sH
 have N:=hin.sI
 have L:=hin.oF
 have M:=hin.sG
 have O:=hin.side
 refine bx kr Tryz.func126 U U fun AA Q hQ hN=>?_
 try dsimp only
 refine WS fun _ E=>fK U fun R=>bf 1 U<|RK E<|WS fun _ F=>rP 3 [] (mc 0 U mn) ?_
 obtain ⟨x,hx⟩:=aJ l.ae ((n).toNat) I
 have J:=bG bD.cells hx
 refine rS (IA ((n).toNat) U (aD 4 U) vx dc I I)<|rS (nS (((n).toNat)*4) U (aD 4 U) (Nat.mul_pos I dc) fu U)<|rS (oI ((n).toNat) 0 (cz.cells x.mK) U bX (aD 4 U) J U dc U U)<|AL U Bu fun S=>fP U Kl U<|RK F<|WS fun _ G=>bf 1 U<|rS (LP (bE.cells (bE.mk (br.mk kA l.aP.length kC))) 1 U bX U U U)<|fw 1 [] (mc 0 U mn) U<|rS (CL (Sf l.aP kA kC x.mK asm asm) (bj [2]) U)<|bf 3 U<|AL U de fun T=>fP U cm U<|bf 1 U<|RK G<|ah fun _ C=>WS fun _ H=>rP 2 [] mn ?_
 refine RK H<|bL U (aL fun D=>?_) (aM fun D=>?_)
 ·refine WK C<|WS fun _ B=>rP 3 [] (mc 0 U mn) ?_
  refine RK B<|an<|Q1 hQ U U U ?_
  (refine congrArg (Value.int .i64) ?_; rw [show n.toNat=0 by omega] at hx ⊢; rw [zC hx,(xO htr (hbk _ (List.mem_of_getElem? hx)).1).2])
 refine dG cu [14] [] [] [1,2,3,4,5,6] [] U U U U U<|eS U (FA 0 U fu U)<|eS U (LP (bE.cells (bE.mk (br.mk kA l.aP.length kC))) 1 U bX U U U)<|eS U (FA 3 U fu U)<|eS U (L1 (vS bA l.ae.length bC) 1 U bX U U)<|eS U (MV U)<|eS U (BI U (rO ⟨I,I⟩)) ?_
 obtain ⟨y,hy⟩:=aJ l.ae (((n-1)).toNat) I
 have K:=bG bD.cells hy
 refine eS U (IA (((n-1)).toNat) U (aD 5 U) vx dc I I)<|eS U (nS ((((n-1)).toNat)*4) U (aD 5 U) (Nat.mul_pos I dc) fu U)<|eS U (oI (((n-1)).toNat) 0 (cz.cells y.mK) U bX (aD 5 U) K U dc U U)<|eS U (LW 0 U bX U U)<|eS U (CL (OM l.aP kA kC y.mK x.mK asm asm) (bj [2]) U)<|eS U (MV U)<|eS U (EX U)<|eS U (EX U)<|eV U<|bY U fun T9 AB=>fP U cm U<|aC (AB _ _ (aH [1,2,3,4,5,6]) ?_)
 refine fF U<|KK C<|WS fun _ A=>rP 3 [] (mc 0 U mn) ?_
 refine RK A<|an<|Q1 hQ U U U ?_
 (refine congrArg (Value.int .i64) ?_; rw [B5 I hx (by rw [show n.toNat-1=(n-1).toNat by omega]; exact hy),(lf htr ⟨(hbk _ (List.mem_of_getElem? hy)).1,(hbk _ (List.mem_of_getElem? hx)).1⟩).2])
theorem PS (l:a_) (kA:OA) (kC:Nat) (az:List RA) (cA:OA) (cC:Nat) (bA:OA) (bC:Nat) (hin:er l az) (htr:cT l.aP=true) (hbk: ∀ b∈l.ae,jT l b):
 dT Tryz.prog 125 [(vA (ck.cells (lk l kA kC cA cC bA bC)))] [(rd kA l.aP.length 9 (l.aP.map al.cells)),(rd cA l.ak.length 2 (List.zipWith ar.cells l.ak az)),(eW (aV ar.g0 l.ak az)),(rd bA l.ae.length 4 (l.ae.map bD.cells))] (vB (decide (∀ i,i<l.ae.length→1≤lW l i))):=by
 have V:=hin.sH
 have AA:=hin.sI
 have S:=hin.oF
 have T:=hin.sG
 refine bx kr Tryz.func125 U U fun X Q hQ hN=>?_
 try dsimp only
 refine WS fun _ J=>fK U fun W=>bf 1 U<|RK J<|ah fun _ K=>WS fun _ L=>rP 4 [] (mc 0 U mn) ?_
 refine RK L<|av ?_
 have A:(0≤l.ae.length)∧(∀ j,j<0→1≤lW l j):=by exact ⟨Nat.zero_le _,fun j hj=>absurd hj (Nat.not_lt_zero _)⟩
 refine bH (ι:={z:Nat // (z≤l.ae.length)∧(∀ j,j<z→1≤lW l j)}) [1,6] [0,1,2,3,4] U U (fun z=>[(7,(vI (z.1:Int)))]) (fun z=>[]) (fun _=>rfl) (fun _=>rfl) (fun z=>l.ae.length-z.1) ⟨0,A⟩ (aT U) (aH [0,1,2,3,4]) ?_
 clear A
 rintro ⟨i,⟨P,B⟩⟩ J5 AB
 try dsimp only
 refine WS fun _ M=>rP 1 [] mn ?_
 refine RK M<|ah fun _ N=>bL U (aL fun R=>?_) (aM fun R=>?_)
 ·refine bu<|ab<|ab<|au<|KK K<|WS fun _ G=>rP 1 [] mn ?_
  refine RK G<|an<|Q1 hQ U U U ?_
  exact cB (fH (fun j hj=>B j I)).symm
 refine WK N<|ah fun _ O=>av<|WS fun _ D=>bf 2 U<|RK D<|WS fun _ E=>fw 2 [] (mc 0 U mn) U<|rS (CL (Pt l kA kC az cA cC bA bC (i:Int) hin htr hbk I) (bj [1,2,3,4]) U)<|rP 1 [] mn ?_
 refine RK E<|cy U (aM fun C=>?_) (aL fun C=>?_)
 ·refine WS fun _ F=>rP 1 [] mn ?_
  refine RK F<|an<|Q1 hQ U U U ?_
  exact cB (cf (fun h=>by have:=h i I; simp only [Int.toNat_natCast] at C; omega)).symm
 refine b_<|aG<|KK O<|aj<|rP 2 [] mn ?_
 refine aC ?_
 have H:(vI (((i+1):Nat):Int))=(vI ((i:Int)+1)):=by exact cI I
 refine aS (AB ⟨(i+1),⟨I,fun j hj=>by rcases Nat.lt_or_ge j i with q|q; exact B j q; (obtain rfl:j=i:=by omega); simp only [Int.toNat_natCast] at C; omega⟩⟩ _ _ _ rfl os (dh.cons rfl<|dh.cons rfl<|aX rfl H<|dh.nil _) (aH [0,1,2,3,4]))
end
section
open Go.RowKit
theorem PT:
 dT Tryz.prog 83 [] [] (vA ((gH.cells (gH.mk (Value.func (.func 115) [].toArray [].toArray)))++(gH.cells (gH.mk (Value.func (.func 117) [].toArray [].toArray)))++(gH.cells (gH.mk (Value.func (.func 121) [].toArray [].toArray)))++(gH.cells (gH.mk (Value.func (.func 125) [].toArray [].toArray))))):=by
 refine bx kr Tryz.func83 U U fun D Q hQ hN=>?_
 try dsimp only
 refine WS fun _ A=>AL U RH fun C=>RK A<|WS fun _ B=>rS (SX (bh (xs:=[(0,.func 115)]) (cs:=(gH.cells (gH.mk (Value.func (.func 115) [].toArray [].toArray)))) U U (bg Fs U)) U U)<|rS (SX (bh (xs:=[(0,.func 117)]) (cs:=(gH.cells (gH.mk (Value.func (.func 117) [].toArray [].toArray)))) U U (bg Fs U)) U U)<|rS (SX (bh (xs:=[(0,.func 121)]) (cs:=(gH.cells (gH.mk (Value.func (.func 121) [].toArray [].toArray)))) U U (bg Fs U)) U U)<|rS (SX (bh (xs:=[(0,.func 125)]) (cs:=(gH.cells (gH.mk (Value.func (.func 125) [].toArray [].toArray)))) U U (bg Fs U)) U U)<|rS (SX (bh (xs:=[(0,.tmp 1),(1,.tmp 2),(2,.tmp 3),(3,.tmp 4)]) (cs:=((gH.cells (gH.mk (Value.func (.func 115) [].toArray [].toArray)))++(gH.cells (gH.mk (Value.func (.func 117) [].toArray [].toArray)))++(gH.cells (gH.mk (Value.func (.func 121) [].toArray [].toArray)))++(gH.cells (gH.mk (Value.func (.func 125) [].toArray [].toArray))))) U U (bg SK U)) U U)<|fP U Rm U<|RK B<|an ?_
 exact Ik hQ [0] (mc 0 U mn) U U
theorem Bw (l:a_) (kA:OA) (kC:Nat) (az:List RA) (cA:OA) (cC:Nat) (bA:OA) (bC:Nat) (hin:er l az):
 dT Tryz.prog 61 [(vA (ck.cells (lk l kA kC cA cC bA bC)))] [(rd kA l.aP.length 9 (l.aP.map al.cells)),(rd cA l.ak.length 2 (List.zipWith ar.cells l.ak az)),(eW (aV ar.g0 l.ak az)),(rd bA l.ae.length 4 (l.ae.map bD.cells))] (vI (dq l)):=by
 have A0:=hin.sH
 have An:=hin.sI
 have AK:=hin.oF
 have AO:=hin.sG
 have Ay:=hin.side
 refine bx kr Tryz.func61 U U fun w0 Q hQ hN=>?_
 try dsimp only
 refine WS fun _ m=>fK U fun b2=>bf 1 U<|RK m<|ah fun _ n=>WS fun _ o=>bf 1 U<|rS (LP (bE.cells (bE.mk (br.mk kA l.aP.length kC))) 0 U bX U U U)<|rS (CL (Bk l.aP kA kC asm asm) (bj [1]) U)<|bf 1 U<|RK o<|WS fun _ p=>rP 2 [] mn ?_
 refine RK p<|cy U (bp fun B=>?_) (bq fun B=>?_)
 ·refine WS fun _ q=>rP 2 [] mn ?_
  refine RK q<|an<|Q1 hQ U U U ?_
  (refine cI ?_; rw [(zB B).2,zb (zB B).1])
 refine WK n<|ah fun _ s=>WS fun _ t=>?_
 have A:=Ez B
 refine rS (CL PT (aI) U)<|bf 1 U<|RK t<|av<|jX 5<|d_ fun R9 u=>WS fun _ C=>rS (SX (bU (r:= .bool true) U U U gQ) U U)<|RK C<|ah fun _ D=>aO U<|WK D<|ah fun _ E=>av<|WS fun _ F=>rS (SX (tg (vs:=(gH.cells (gH.mk (Value.func (.func 115) [].toArray [].toArray)))) 0 U U U Gg bX U dc U) U U)<|AL U Gu fun x=>fP U F1 U<|RK F<|WS fun _ G=>fw 3 [0,1] (mc 0 U (mc 1 U mn)) U<|rS (CL (P8 l kA kC az cA cC bA bC hin) (bj [2,3,4,5]) U)<|rP 1 [] mn ?_
 refine RK G<|cy U (bp fun g=>?_) (bq fun g=>?_)
 ·refine WS fun _ H=>rP 1 [] mn ?_
  refine RK H<|an<|Q1 hQ U U U ?_
  exact cI (qo A fun h=>absurd h.head asm).symm
 refine b_<|aG<|KK E<|aj<|rS (SX (bU (r:= .int .i64 1) U U U (ic ⟨dc,dc⟩)) U U)<|bf 1 U<|RK u<|d_ fun R18 d=>WS fun _ AB=>rS (SX (bU (r:= .bool true) U U U gQ) U U)<|RK AB<|ah fun _ J=>aO U<|WK J<|ah fun _ K=>av<|WS fun _ L=>rS (SX (tg (vs:=(gH.cells (gH.mk (Value.func (.func 117) [].toArray [].toArray)))) 1 U U U Gg bX U dc U) U U)<|AL U Gu fun y=>fP U F1 U<|RK L<|WS fun _ M=>fw 3 [0,1] (mc 0 U (mc 2 U mn)) U<|rS (CL (Q4 l kA kC az cA cC bA bC hin) (bj [3,4,5,6]) U)<|rP 1 [] mn ?_
 refine RK M<|cy U (bp fun i=>?_) (bq fun i=>?_)
 ·refine WS fun _ N=>rP 1 [] mn ?_
  refine RK N<|an<|Q1 hQ U U U ?_
  exact cI (qo A fun h=>absurd h.clock asm).symm
 refine b_<|aG<|KK K<|aj<|rS (SX (bU (r:= .int .i64 2) U U U (ic ⟨dc,dc⟩)) U U)<|bf 1 U<|RK d<|d_ fun R27 e=>WS fun _ O=>rS (SX (bU (r:= .bool true) U U U gQ) U U)<|RK O<|ah fun _ P=>aO U<|WK P<|ah fun _ R=>av<|WS fun _ S=>rS (SX (tg (vs:=(gH.cells (gH.mk (Value.func (.func 121) [].toArray [].toArray)))) 2 U U U Gg bX U dc U) U U)<|AL U Gu fun z=>fP U F1 U<|RK S<|WS fun _ T=>fw 3 [0,1] (mc 0 U (mc 3 U mn)) U<|rS (CL (Qf l kA kC az cA cC bA bC hin asm) (bj [4,5,6,7]) U)<|rP 1 [] mn ?_
 refine RK T<|cy U (bp fun j=>?_) (bq fun j=>?_)
 ·refine WS fun _ AA=>rP 1 [] mn ?_
  refine RK AA<|an<|Q1 hQ U U U ?_
  exact cI (qo A fun h=>absurd h.vM asm).symm
 refine b_<|aG<|KK R<|aj<|rS (SX (bU (r:= .int .i64 3) U U U (ic ⟨dc,dc⟩)) U U)<|bf 1 U<|RK e<|d_ fun R36 f=>WS fun _ V=>rS (SX (bU (r:= .bool true) U U U gQ) U U)<|RK V<|ah fun _ W=>aO U<|WK W<|ah fun _ X=>av<|WS fun _ Y=>rS (SX (tg (vs:=(gH.cells (gH.mk (Value.func (.func 125) [].toArray [].toArray)))) 3 U U U Gg bX U dc U) U U)<|AL U Gu fun AC=>fP U F1 U<|RK Y<|WS fun _ Z=>fw 3 [0,1] (mc 0 U (mc 4 U mn)) U<|rS (CL (PS l kA kC az cA cC bA bC hin asm asm) (bj [5,6,7,8]) U)<|rP 1 [] mn ?_
 refine RK Z<|cy U (bp fun k=>?_) (bq fun k=>?_)
 ·refine WS fun _ a=>rP 1 [] mn ?_
  refine RK a<|an<|Q1 hQ U U U ?_
  exact cI (qo A fun h=>absurd h.Rb asm).symm
 refine b_<|aG<|KK X<|aj<|rS (SX (bU (r:= .int .i64 4) U U U (ic ⟨dc,dc⟩)) U U)<|bf 1 U<|RK f<|d_ fun R45 w=>WS fun _ b=>rS (SX (bU (r:= .bool false) U U U gQ) U U)<|RK b<|ah fun _ v=>aW U<|bu<|ab<|ab<|au<|KK s<|WS fun _ c=>rP 1 [] mn ?_
 refine RK c<|an<|Q1 hQ U U U ?_
 exact cI (xH A (zy asm asm asm asm)).symm
theorem BU (lo hi:Int) (f:Value) (p:Int→Bool) (X:aq) (r:Int) (hf: ∀ x0,0≤x0∧x0<hi→Em Tryz.prog f [.int .i64 x0] [X] (.bool (p x0))) (hb:0≤lo∧lo≤r∧r≤hi∧hi≤100000000) (hno: ∀ x,lo≤x→x<r→p x=false) (hyes: ∀ x,r≤x→x<hi→p x=true):
 dT Tryz.prog 216 [(vI lo),(vI hi),f] [X] (vI r):=by
 refine bx kr Tryz.func216 U U fun N Q hQ hN=>?_
 try dsimp only
 refine WS fun _ F=>rP 1 [] mn ?_
 refine RK F<|ah fun _ G=>av ?_
 have A:(lo≤lo∧lo≤r)∧(r≤hi∧hi≤hi):=by omega
 refine bH (ι:={z:Int×Int // (lo≤z.1∧z.1≤r)∧(r≤z.2∧z.2≤hi)}) [2] [0] U U (fun z=>[(0,(vI z.1.1)),(1,(vI z.1.2))]) (fun z=>[]) (fun _=>rfl) (fun _=>rfl) (fun z=>(z.1.2-z.1.1).toNat) ⟨(lo,hi),A⟩ (aT U) (aH [0]) ?_
 clear A
 rintro ⟨⟨a,b⟩,⟨B,C⟩⟩ J3 D
 try dsimp only at B C
 try dsimp only
 refine ah fun _ H=>WS fun _ AA=>rP 3 [] mn ?_
 refine RK AA<|bL U (aL fun M=>?_) (aM fun M=>?_)
 ·refine bu<|ab<|ab<|au<|KK G<|WS fun _ L=>rP 2 [] mn ?_
  refine RK L<|an<|Q1 hQ U U U ?_
  exact cI I
 refine WK H<|av<|WS fun _ J=>bf 4 U<|rS (BI U (tx I I I))<|bf 2 U<|RK J<|WS fun _ K=>rP 2 [] mn ?_
 refine rS (SX (sk U U U (hf (a+((b-a)/2)) I) (bj [0])) U U)<|RK K<|cy U (fun hp=>?_) (fun hp=>?_)
 ·refine aj<|rP 2 [] mn ?_
  refine aC<|aG ?_
  refine aS (D ⟨(a,(a+((b-a)/2))),(by dsimp only; rcases Int.lt_or_le (a+(b-a)/2) r with q|q; (have E:=hno _ I q; (rw [E] at hp; cases hp)); (have E:=hyes _ q I; (refine ⟨⟨I,I⟩,I,I⟩)))⟩ _ _ _ rfl (by simp only []; omega) (aT rfl) (aH [0]))
 refine aj<|rP 3 [] mn ?_
 refine aC<|aG ?_
 refine aS (D ⟨(((a+((b-a)/2))+1),b),(by dsimp only; rcases Int.lt_or_le (a+(b-a)/2) r with q|q; (have E:=hno _ I q; (refine ⟨⟨I,I⟩,I,I⟩)); (have E:=hyes _ q I; (rw [E] at hp; cases hp)))⟩ _ _ _ rfl (by simp only []; omega) (aT rfl) (aH [0]))
theorem LQ (u:Int) (c:ar) (sA:OA) (sC g1:Nat) (s:aK) (g2:Nat) (hc:eQ c) (hu:0≤u∧u≤90000000):
 dT Tryz.prog 217 [(vI u),(vP g1),(vP g2)] [(rd sA c.bo.length 3 (c.bo.map cx.cells)),(bV g1 119 (dp.cells (dp.mk c.dg (br.mk sA c.bo.length sC)))),(bV g2 123 (aK.cells s))] (vB (decide (s.Read≤u+(hZ c u).Hi))):=by
 have C:=qg hc hu
 refine bx kr Tryz.func217 U U fun D Q hQ hN=>?_
 try dsimp only
 refine WS fun _ A=>bf 1 U<|RK A<|ah fun _ B=>dB cu 10 kr<|mL 3 [] (mr 1 U mn) U<|dS (CL (FL c sA sC u hc hu) (bj [0]) U)<|dS (SX (kP (v:=(vI ((hZ c u).Hi))) U U fu Ae U) U U)<|dP 5 [] (mr 2 U mn) ?_
 refine cM<|RK B<|an ?_
 exact Q1 hQ U U U U
theorem Kx (u:Int) (c:ar) (sA:OA) (sC g1:Nat) (s:aK) (g2:Nat) (hc:eQ c) (hu:0≤u∧u≤90000000):
 dT Tryz.prog 219 [(vI u),(vP g1),(vP g2)] [(rd sA c.bo.length 3 (c.bo.map cx.cells)),(bV g1 119 (dp.cells (dp.mk c.dg (br.mk sA c.bo.length sC)))),(bV g2 123 (aK.cells s))] (vB (decide (s.Read<u+(hZ c u).Lo))):=by
 have C:=qg hc hu
 refine bx kr Tryz.func219 U U fun D Q hQ hN=>?_
 try dsimp only
 refine WS fun _ A=>bf 1 U<|RK A<|ah fun _ B=>dB cu 10 kr<|mL 3 [] (mr 1 U mn) U<|dS (CL (FL c sA sC u hc hu) (bj [0]) U)<|dS (SX (kP (v:=(vI ((hZ c u).Lo))) U U fu z8 U) U U)<|dP 5 [] (mr 2 U mn) ?_
 refine cM<|RK B<|an ?_
 exact Q1 hQ U U U U
theorem Kn (l:a_) (kA:OA) (kC:Nat) (az:List RA) (cA:OA) (cC:Nat) (bA:OA) (bC:Nat) (s:aK) (hin:er l az) (hok:kU l) (hs:(0≤s.gd∧s.gd≤(l.ae.length:Int)-1)∧0≤s.Read∧s.Read≤86400000):
 dT Tryz.prog 208 [(vA (ck.cells (lk l kA kC cA cC bA bC))),(vA (aK.cells s))] [(rd kA l.aP.length 9 (l.aP.map al.cells)),(rd cA l.ak.length 2 (List.zipWith ar.cells l.ak az)),(eW (aV ar.g0 l.ak az)),(rd bA l.ae.length 4 (l.ae.map bD.cells))] (vA (aa.cells (cD l s))):=by
 have V:=hin.sH
 have S:=hin.sI
 have P:=hin.oF
 have R:=hin.sG
 refine bx kr Tryz.func208 U U fun Z Q hQ hN=>?_
 try dsimp only
 refine WS fun _ AC=>fK U fun X=>fK U fun D=>AL U de fun Y=>RK AC<|ah fun _ J=>dG cu [11,12] [] [] [0,1,2,3,4,5,6] [] U U U U U<|eS U (FA 2 U fu U)<|eS U (L1 (vS cA l.ak.length cC) 2 U bX U U)<|eS U (FA 3 U fu U)<|eS U (L1 (vS bA l.ae.length bC) 2 U bX U U)<|eS U (FA 0 U fu U)<|eS U (L1 (vI s.gd) 1 U bX U U) ?_
 obtain ⟨y,hy⟩:=aJ l.ae ((s.gd).toNat) I
 have O:=bG bD.cells hy
 refine eS U (IA ((s.gd).toNat) U (aD 6 U) vx dc I I)<|eS U (nS ((((s.gd).toNat)*4)+3) U (aD 6 U) (Nat.mul_pos I dc) fu U)<|eS U (fV ((s.gd).toNat) 3 (vI y.jR) U bX (aD 6 U) O U dc U) ?_
 have W:=(hok.vM _ (aR hy)).2
 obtain ⟨x,hx⟩:=aJ l.ak ((y.jR).toNat) I
 obtain ⟨xa,F⟩:=aJ az ((y.jR).toNat) I
 have N:(List.zipWith ar.cells l.ak az)[(y.jR).toNat]? =some (ar.cells x xa):=dy hx F
 refine eS U (IA ((y.jR).toNat) U (aD 4 U) AB dc I I)<|eS U (oI ((y.jR).toNat) 0 (dp.cells (dp.mk x.dg (br.mk xa.1 x.bo.length xa.2))) U bX (aD 4 U) N U dc U U)<|eV U<|bY U fun T6 L=>AL U LI fun E=>aC (L _ _ (aH [1,2,3,4,5,6,7]) ?_)
 refine bY U fun T8 M=>fP U O1 U<|aC (M _ _ (aH [1,2,3,4,5,6,7]) ?_)
 refine fF U<|KK J<|WS fun _ K=>?_
 have A:=hok.clock _ (aR hx)
 have AA:=ij (p:=fX x s.Read) (n:=86400001)
 have T:=ij (p:=fY x s.Read) (n:=86400001)
 refine rS (FU U) ?_
 refine rS (CL (BU 0 86400001 (Value.func (.func 217) [].toArray [(vP E),(vP D)].toArray) (fun B=>(decide (s.Read≤B+(hZ x B).Hi))) (eW [(rd xa.1 x.bo.length 3 (x.bo.map cx.cells)),(bV E 119 (dp.cells (dp.mk x.dg (br.mk xa.1 x.bo.length xa.2)))),(bV D 123 (aK.cells s))]) (ff (fX x s.Read) 86400001) (by intro B _; exact nj (fi:=[]) (ca:=[(vP E),(vP D)]) (l3 (LQ B x xa.1 xa.2 E s D (by first|assumption|omega) (by first|assumption|omega)) (OL 0 1 2 U U U U U U))) I (by intro z G hz; exact (kQ A G I).1 hz) (by intro z hz H; exact (kQ A I H).2.1 hz)) (aw (l6 (aw (show il _ (rd xa.1 x.bo.length 3 (x.bo.map cx.cells)).holds from (du 6 U (bM hx F (by simp [ar.g0]))))<|fD 0 U U<|fD 2 U U<|aI))<|aI) U) ?_
 refine rS (FU U) ?_
 refine rS (CL (BU 0 86400001 (Value.func (.func 219) [].toArray [(vP E),(vP D)].toArray) (fun C=>(decide (s.Read<C+(hZ x C).Lo))) (eW [(rd xa.1 x.bo.length 3 (x.bo.map cx.cells)),(bV E 119 (dp.cells (dp.mk x.dg (br.mk xa.1 x.bo.length xa.2)))),(bV D 123 (aK.cells s))]) (ff (fY x s.Read) 86400001) (by intro C _; exact nj (fi:=[]) (ca:=[(vP E),(vP D)]) (l3 (Kx C x xa.1 xa.2 E s D (by first|assumption|omega) (by first|assumption|omega)) (OL 0 1 2 U U U U U U))) I (by intro z G hz; exact (kQ A G I).2.2.1 hz) (by intro z hz H; exact (kQ A I H).2.2.2 hz)) (aw (l6 (aw (show il _ (rd xa.1 x.bo.length 3 (x.bo.map cx.cells)).holds from (du 6 U (bM hx F (by simp [ar.g0]))))<|fD 0 U U<|fD 2 U U<|aI))<|aI) U) ?_
 refine rP 1 [] mn ?_
 refine rS (SX (bh (xs:=[(0,.tmp 18),(1,.tmp 21)]) (cs:=(aa.cells (aa.mk (ff (fX x s.Read) 86400001) ((ff (fY x s.Read) 86400001)-1)))) U U (bg gp U)) U U)<|ub U cm U<|RK K<|an<|Ik hQ [0] (mc 1 U mn) U ?_
 unfold cD p9; rw [ye hy hx]
end
section
open Go.RowKit
structure JK (S:BS) (w0:World) (X:aq) (C0:List aq) (w:World) (S':BS):Prop where
 st:St S w0 (X::C0) w
 w_: ∀ b,S'.w b↔ ∃ A∈C0,A.wf b
theorem Eo {A B:aq} (h:Dw A B):Dw A.ro B:=fun b C D=>⟨fun h=>h,(h b C D).2⟩
theorem CK {E:eY} {c:Code} {Q:cU} {D:List Deferred} {L:List (Nat×Value)} {C C0:List aq} {X:aq} (i:Nat) (hn:decide (i::(List.range C.length).filter fun k=>k != i).Nodup=true) (hC:kj C (i::(List.range C.length).filter fun k=>k != i)=X::C0)
 (h: ∀ w S',JK E.S E.w0 X C0 w S'→WJ ⟨E.P,E.r,E.n,S',w⟩ c Q D L (X.ro::C0)):WJ E c Q D L C:=fun a w hf hs=>by
 have F:=St.kj _ hn hC hs
 obtain ⟨G,H⟩:=List.pairwise_cons.1 F.sep
 refine h w ⟨fun b=> ∃ A∈C0,A.wf b,fun _=>True⟩ ⟨F,fun b=>Iff.rfl⟩ a w hf ⟨dJ.refl _ _,fun A hA=>?_,List.Pairwise.cons (fun B hB=>Eo (G B hB)) H,fun A hA b hb=>?_,fun A hA b hb=> .inr trivial⟩
 ·rcases List.mem_cons.1 hA with rfl|hA
  ·exact F.holds X (cb ..)
  ·exact F.holds A (cR _ hA)
 ·rcases List.mem_cons.1 hA with rfl|hA
  ·exact hb.elim
  ·exact .inr ⟨A,hA,hb⟩
theorem zW {E:eY} {S':BS} {w:World} {K:Act→World→Prop} {D:List Deferred} {L:List (Nat×Value)} {C0 C1 C2:List aq} {X:aq} (hz:JK E.S E.w0 X C0 w S') (is:List Nat) (hn:decide is.Nodup=true) (hC:kj C2 is=C1) (hwr:C1.all (·.wr)=true)
 (h:KJ E K D L (X::C1)):KJ ⟨E.P,E.r,E.n,S',w⟩ K D L C2:=fun a w' hf hs=>by
 have F:=St.kj is hn hC hs
 have C:=hz.st
 obtain ⟨J,M⟩:=List.pairwise_cons.1 C.sep
 have AA: ∀ b,X.e_ b→ ¬ S'.w b:=fun b hb hw=>by
  obtain ⟨A,hA,hw⟩:=(hz.w_ b).1 hw
  exact (J A hA b hb (A.kD b hw)).2 hw
 have G: ∀ b,S'.w b→E.w0.heap.size≤b∨E.S.w b:=fun b hb=>by
  obtain ⟨A,hA,hw⟩:=(hz.w_ b).1 hb
  exact C.own A (cR _ hA) b hw
 have H: ∀ A∈C1,∀ b,A.e_ b→w.heap.size≤b∨S'.w b:=fun A hA b hb=>F.own A hA b (A.whole (List.all_eq_true.1 hwr A hA) b hb)
 refine h a w' hf ⟨?_,fun A hA=>?_,List.Pairwise.cons (fun B hB b hb hb'=>?_) F.sep,fun A hA b hb=>?_,fun A hA b hb=>?_⟩
 ·refine ⟨F.keeps.os.trans C.keeps.os,F.keeps.tape.trans C.keeps.tape,F.keeps.output.trans C.keeps.output,Nat.le_trans C.keeps.size F.keeps.size,fun k hk hn'=>?_⟩
  refine (F.keeps.block k (Nat.lt_of_lt_of_le hk C.keeps.size) fun hw=>?_).trans (C.keeps.block k hk hn')
  rcases G k hw with q|q
  ·omega
  ·exact hn' q
 ·rcases List.mem_cons.1 hA with rfl|hA
  ·have hh:=C.holds A (cb ..)
   exact A.ow w w' (fun b hb=>F.keeps.block b (A.lt w hh b hb) (AA b hb)) hh
  ·exact F.holds A hA
 ·exfalso
  have hl:=X.lt w (C.holds X (cb ..)) b hb
  rcases H B hB b hb' with q|q
  ·omega
  ·exact AA b hb q
 ·rcases List.mem_cons.1 hA with rfl|hA
  ·exact C.own A (cb ..) b hb
  ·rcases F.own A hA b hb with q|q
   ·exact .inl (Nat.le_trans C.keeps.size q)
   ·exact G b q
 ·rcases List.mem_cons.1 hA with rfl|hA
  ·exact C.seen A (cb ..) b hb
  ·rcases H A hA b hb with q|q
   ·exact .inl (Nat.le_trans C.keeps.size q)
   ·obtain ⟨B,hB,hw⟩:=(hz.w_ b).1 q
    exact C.seen B (cR _ hB) b (B.kD b hw)
/-- put back, as it was -/
theorem H5 {M A:Type} {f:M→A→List aq} {S:BS} {w0 w:World} {C:List aq} {ms:List M} {asl:List A} {k:Nat} {m:M} {a:A} {X:aq} (hm:ms[k]? =some m) (ha:asl[k]? =some a) (hf:f m a=[X]) (h:St S w0 (X::bw (fp f ms asl k)::C) w):St S w0 (bw (aV f ms asl)::C) w:=by
 have B:St S w0 (bw (fp f ms asl k)::X::C) w:=h.perm (List.Perm.swap _ _ _)
 have D:St S w0 ((f m a++fp f ms asl k)++C) w:=by
  rw [hf]
  exact B.ig.perm (List.perm_middle (a:=X) (l₁:=fp f ms asl k) (l₂:=C))
 exact kT (kS hm ha).symm D.tied
theorem IJ {E:eY} {K:Act→World→Prop} {D:List Deferred} {L:List (Nat×Value)} {C C1:List aq} {M A:Type} {f:M→A→List aq} {ms:List M} {asl:List A} {k:Nat} {m:M} {a:A} {X:aq} (i j:Nat) (hm:ms[k]? =some m) (ha:asl[k]? =some a) (hf:f m a=[X])
 (hn:decide (j::i::(List.range C.length).filter fun k=>k != i&&k != j).Nodup=true) (hC:kj C (j::i::(List.range C.length).filter fun k=>k != i&&k != j)=X::bw (fp f ms asl k)::C1)
 (h:KJ E K D L (bw (aV f ms asl)::C1)):KJ E K D L C:=fun a w hf' hs=>h a w hf' (H5 hm ha hf (St.kj _ hn hC hs))
theorem zc {M A:Type} {f:M→A→List aq} {ms:List M} {asl:List A} {m:M} {a:A} {X:aq} (hl:ms.length=asl.length) (hf:f m a=[X]):aV f ms asl++[X]=aV f (ms++[m]) (asl++[a]):=by
 rw [jG hl,← hf]; simp [aV]
theorem zl {E:eY} {K:Act→World→Prop} {D:List Deferred} {L:List (Nat×Value)} {C C1:List aq} {M A:Type} {f:M→A→List aq} {ms:List M} {asl:List A} {m:M} {a:A} {X:aq} (i j:Nat) (hf:f m a=[X])
 (hn:decide (j::i::(List.range C.length).filter fun k=>k != i&&k != j).Nodup=true) (hC:kj C (j::i::(List.range C.length).filter fun k=>k != i&&k != j)=X::bw (aV f ms asl)::C1)
 (h:KJ E K D L (bw (aV f (m::ms) (a::asl))::C1)):KJ E K D L C:=fun b w hf' hs=>by
 have B:=St.kj _ hn hC hs
 have F:St E.S E.w0 (bw (aV f ms asl)::X::C1) w:=B.perm (List.Perm.swap _ _ _)
 have G:St E.S E.w0 (aV f (m::ms) (a::asl)++C1) w:=by
  show St E.S E.w0 ((f m a++aV f ms asl)++C1) w
  rw [hf]
  exact F.ig.perm (List.perm_middle (a:=X) (l₁:=aV f ms asl) (l₂:=C1))
 exact h b w hf' G.tied
end
section
open Go.RowKit
abbrev lF (r:Nat):aq:=lh r (.deferred (some []))
theorem MF (rs:List Nat):(bw (rs.map lF)).wr=true:=by
 show (rs.map lF).all (·.wr)=true
 rw [eZ]
 intro X hX
 obtain ⟨r,_,rfl⟩:=List.mem_map.1 hX
 rfl
theorem vY {E:eY} {c:Code} {Q:cU} {D:List Deferred} {L:List (Nat×Value)} {C:List aq} {ι:Type} (Di:ι→List Deferred) (Li:ι→List (Nat×Value)) (Ci:ι→List aq) (μ:ι→Nat) (x0:ι)
 (hD:D=Di x0) (h0:dh L (Li x0)) (hC: ∀ w,St E.S E.w0 C w→St E.S E.w0 (Ci x0) w)
 (round: ∀ x (J:Act→World→Prop),(∀ y D' L' C',D'=Di y→μ y<μ x→dh L' (Li y)→(∀ w,St E.S E.w0 C' w→St E.S E.w0 (Ci y) w)→KJ E J D' L' C')→WJ E c (Exit.then J Q) (Di x) (Li x) (Ci x)):WJ E (.loop c) Q D L C:=by
 intro a w hf hs
 subst hD
 have H: ∃ x,Fr E.n (Di x) (Li x) a∧St E.S E.w0 (Ci x) w:=⟨x0,hf.sub h0,hC w hs⟩
 clear hf hs
 have key: ∀ (m:Nat) (a:Act) (w:World),(∃ x,μ x=m∧Fr E.n (Di x) (Li x) a∧St E.S E.w0 (Ci x) w)→(Code.loop c).wpIn (Fw E.r) 0 E.P Q a w:=by
  intro m a w hx
  refine wpIn_loop (fun a w=> ∃ x,Fr E.n (Di x) (Li x) a∧St E.S E.w0 (Ci x) w) (fun a w=>leastOf fun k=> ∃ x,μ x=k∧Fr E.n (Di x) (Li x) a∧St E.S E.w0 (Ci x) w) (by obtain ⟨x,_,h⟩:=hx; exact ⟨x,h⟩) ?_
  intro a w hx
  have F: ∃ k,∃ x,μ x=k∧Fr E.n (Di x) (Li x) a∧St E.S E.w0 (Ci x) w:=by obtain ⟨x,h⟩:=hx; exact ⟨_,x,rfl,h⟩
  obtain ⟨x,K,AA,M⟩:=(leastOf_spec F).1
  refine round x _ ?_ a w AA M
  intro y D' L' C' hD G A B a' w' hf' hs'
  subst hD
  refine ⟨⟨y,hf'.sub A,B _ hs'⟩,?_⟩
  rw [← K]
  exact Nat.lt_of_le_of_lt ((leastOf_spec ⟨_,y,U,hf'.sub A,B _ hs'⟩).2 _ ⟨y,U,hf'.sub A,B _ hs'⟩) G
 obtain ⟨x,h⟩:=H
 exact key _ a w ⟨x,U,h⟩
theorem St.UR {S:BS} {w0 w:World} {C X:List aq} {A:aq} (h:St S w0 (A::bw X::C) w):St S w0 (bw (A::X)::C) w:=by
 have B:St S w0 (bw X::A::C) w:=h.perm (List.Perm.swap _ _ _)
 have D:St S w0 ((A::X)++C) w:=B.ig.perm (List.perm_middle (a:=A) (l₁:=X) (l₂:=C))
 exact D.tied
theorem KT {E:eY} {K:Act→World→Prop} {D:List Deferred} {L:List (Nat×Value)} {C C1 X:List aq} {A:aq} (i j:Nat) (hn:decide (j::i::(List.range C.length).filter fun k=>k != i&&k != j).Nodup=true) (hC:kj C (j::i::(List.range C.length).filter fun k=>k != i&&k != j)=A::bw X::C1)
 (h:KJ E K D L (bw (A::X)::C1)):KJ E K D L C:=fun a w hf hs=>h a w hf ((St.kj _ hn hC hs).UR)
theorem Ec {E:eY} {K:Act→World→Prop} {D:List Deferred} {L:List (Nat×Value)} {C:List aq} (h:KJ E K D L (bw []::C)):KJ E K D L C:=fun a w hf hs=>h a w hf hs.QA
theorem Qs {E:eY} {K:Act→World→Prop} {D:List Deferred} {L:List (Nat×Value)} (C1 C2:List aq) (h:KJ E K D L (bw C1::C2)):KJ E K D L (C1++C2):=fun a w hf hs=>h a w hf (St.tied hs)
theorem Oi {E:eY} {fn:Func} {R:Ending→World→Prop} {D:List Deferred} {L:List (Nat×Value)} {C C1:List aq} {rs:List Nat} (i:Nat) (hn:decide (i::(List.range C.length).filter fun k=>k != i).Nodup=true) (hC:kj C (i::(List.range C.length).filter fun k=>k != i)=bw (rs.map lF)::C1)
 (h:LJ E fn R D L C1):LJ E fn R (rs.map lq++D) L C:=by
 have key: ∀ rs:List Nat,LJ E fn R (rs.map lq++D) L (bw (rs.map lF)::C1):=by
  intro rs
  induction rs with
  |nil=>exact fun a w hf hs=>h a w hf (hs.take (List.sublist_cons_self _ _))
  |cons r rs ih=>
   have A:LJ E fn R (lq r::(rs.map lq++D)) L (lF r::bw (rs.map lF)::C1):=ou 0 rfl rfl (fun a w hf hs=>ih a w hf (hs.take (List.sublist_cons_self _ _)))
   intro a w hf hs
   refine A a w hf ?_
   have B:St E.S E.w0 ((lF r::rs.map lF)++C1) w:=St.ig (C1:=lF r::rs.map lF) hs
   have F:St E.S E.w0 (rs.map lF++(lF r::C1)) w:=B.perm (List.perm_middle (a:=lF r) (l₁:=rs.map lF) (l₂:=C1)).symm
   exact F.tied.perm (List.Perm.swap _ _ _)
 exact fun a w hf hs=>key rs a w hf (St.kj _ hn hC hs)
theorem Jw {E:eY} {fn:Func} {R:Ending→World→Prop} {L:List (Nat×Value)} {C C1:List aq} {rs:List Nat} (i:Nat) (hn:decide (i::(List.range C.length).filter fun k=>k != i).Nodup=true) (hC:kj C (i::(List.range C.length).filter fun k=>k != i)=bw (rs.map lF)::C1)
 (h:LJ E fn R [] L C1):LJ E fn R (rs.map lq) L C:=by
 have:=Oi (D:=[]) i hn hC h
 rwa [List.append_nil] at this
end
section
open Go.RowKit
theorem Jg (fs:List FM) (fb:List Nat):(bw (aV nT fs fb)).wr=true:=by
 show (aV nT fs fb).all (·.wr)=true
 rw [eZ]
 intro X hX
 obtain ⟨k,m,a,_,_,h⟩:=jK hX
 simp only [nT,bS] at h
 subst h; rfl
theorem SO (fs:List TM) (fb:List Nat):(bw (aV ru fs fb)).wr=true:=by
 show (aV ru fs fb).all (·.wr)=true
 rw [eZ]
 intro X hX
 obtain ⟨k,m,a,_,_,h⟩:=jK hX
 simp only [ru,bS] at h
 subst h; rfl
end
end Go.Proofs.YtadjgjnicdcjbaaGreatDoor
