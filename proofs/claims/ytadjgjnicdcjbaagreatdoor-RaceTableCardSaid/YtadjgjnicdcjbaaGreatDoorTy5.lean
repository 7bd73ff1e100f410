/-
 The statement raceTable_said, part 5 of 8: RaceV, RankP, OrdX, TabP, NestS, Grp, Twin, Fresh, Rep, Ex6, Win6, BoolC, RaceR, Tied6, Sel6, Rep6, Tab7, Bits, B1, Rc1, Rs5, CloneM, Rs1, S2, Rs2, MapD, B4, B2, B3, B5, B6, Frozen, MarkD, Marks.
 Conditions: none.
-/
import Derived.Test.YtadjgjnicdcjbaaGreatDoorTy1
import Derived.Test.YtadjgjnicdcjbaaGreatDoorTy2
import Derived.Test.YtadjgjnicdcjbaaGreatDoorTy3
import Derived.Test.YtadjgjnicdcjbaaGreatDoorTy4
import Derived.KernelRfl
import Derived.MapKept
import Derived.Laws.Externs
namespace Go.Proofs.YtadjgjnicdcjbaaGreatDoor
set_option maxRecDepth 100000
set_option maxHeartbeats 4000000
set_option linter.unusedVariables false
section
def aA (m:gY) (i:Int):aa:=(m.lookup i).getD dx
def rz (r:bT) (i:Int):Prop:=0≤i∧i≤(r.aQ.length:Int)-1
instance (r:bT) (i:Int):Decidable (rz r i):=by unfold rz; infer_instance
noncomputable def jG (r:bT) (i:Int):Int:=if cK r=0 then (if rz r i then (if (aF r).lookup i=none then 6 else 0) else 2) else cK r
noncomputable def px (r:bT) (i:Int):aa:=if jG r i=0 then aA (aF r) i else dx
noncomputable def l7 (r:bT) (a b:Int):Int:=if cK r=0 then (if rz r a∧rz r b∧a≠b then (if (aF r).lookup a=none∨(aF r).lookup b=none then 6 else 0) else 2) else cK r
def vK (s t:aa):Int:=if s.Hi<t.Lo then 2 else if s.Lo<t.Hi then 1 else 0
def ql (s t:aa):Int:=if s=t∧s.Lo=s.Hi then 2 else if s.Lo≤t.Hi∧t.Lo≤s.Hi then 1 else 0
noncomputable def ov (r:bT) (a b:Int):Int:=if l7 r a b=0 then vK (aA (aF r) a) (aA (aF r) b) else 0
noncomputable def pP (r:bT) (a b:Int):Int:=if l7 r a b=0 then ql (aA (aF r) a) (aA (aF r) b) else 0
noncomputable def gK (r:bT) (i:Int):List Int:=if jG r i=0 then c_ (aF r) i (aA (aF r) i) else []
noncomputable def mO (r:bT) (h i:Int):Int:=if cK r=0 then (if (0≤h∧h≤(r.ay.length:Int)-1)∧rz r i then (if ((r.ay[h.toNat]?).bind (·[i.toNat]?)).any (·.Out)=true then 6 else 0) else 2) else cK r
noncomputable def ig (r:bT) (h i:Int):aa:=if mO r h i=0 then ((((r.ay[h.toNat]?).bind (·[i.toNat]?)).map (dv r.ao)).getD dx) else dx
noncomputable def ur (r:bT) (h:Nat):List Int:=let l:=er (fun i=>(aA (eD r h) i).Hi) (r.bQ.filter fun i=>((eD r h).lookup i).isSome); rJ (min r.iK.toNat l.length) l
noncomputable def iG (r:bT) (h:Int):Int:=if cK r=0 then (if 0≤h∧h≤(r.ay.length:Int) then 0 else 2) else cK r
noncomputable def g3 (r:bT) (h:Int):List Int:=if iG r h=0 then (if h=0 then r.bQ else ur r h.toNat) else []
section
variable {r:bT} {i a b:Int}
theorem ux {m:gY} {i:Int} (h:(m.lookup i).isSome=true): ¬ m.lookup i=none:=fun e=>by rw [e] at h; cases h
theorem uq {m:gY} {i:Int} (h:(m.lookup i).isSome=false):m.lookup i=none:=by cases e:m.lookup i with |none=>rfl|some v=>rw [e] at h; cases h
theorem uO (h:jG r i=0):cK r=0∧rz r i∧(aF r).lookup i≠none:=by
 unfold jG at h
 split at h
 ·split at h
  ·split at h
   ·cases h
   ·exact ⟨asm,asm,asm⟩
  ·cases h
 ·exact absurd h asm
theorem zz (h:l7 r a b=0):cK r=0∧(rz r a∧rz r b∧a≠b)∧(aF r).lookup a≠none∧(aF r).lookup b≠none:=by
 unfold l7 at h
 split at h
 ·split at h
  ·split at h
   ·cases h
   ·rename_i _ _ q
    exact ⟨asm,asm,fun e=>q (.inl e),fun e=>q (.inr e)⟩
  ·cases h
 ·exact absurd h asm
theorem uP {k:Nat} {p:Int×aa} (h:p∈eD r k): ∃ q:Nat,q<r.aQ.length∧p.1=(q:Int)∧fJ r.ao r.ay q k=some p.2:=by
 unfold eD at h
 obtain ⟨q,hq,e⟩:=List.mem_filterMap.1 h
 obtain ⟨s,hs,rfl⟩:=Option.map_eq_some_iff.1 e
 exact ⟨q,List.mem_range.1 hq,U,hs⟩
theorem Gb {k:Nat} (h:cK r=0) (hk:k≤r.ay.length): ∀ p∈eD r k,0≤p.2.Lo∧p.2.Lo≤p.2.Hi∧p.2.Hi≤30000000:=fun p hp=>by
 obtain ⟨q,_,_,hs⟩:=uP hp
 have A:=z7 (iI h).2.Ah hk hs
 have B:=(iI h).2.nh
 omega
theorem nt (h:cK r=0): ∀ p∈aF r,0≤p.2.Lo∧p.2.Lo≤p.2.Hi∧p.2.Hi≤30000000:=Gb h (Nat.le_refl _)
theorem uw {k:Nat}:(eD r k).length≤r.aQ.length:=by
 unfold eD
 refine Nat.le_trans (List.length_filterMap_le _ _) ?_
 rw [List.length_range]; exact Nat.le_refl _
theorem mo (h:cK r=0):(aF r).length≤5:=by
 have A:=uw (r:=r) (k:=r.ay.length)
 have B:=(iI h).2.num
 unfold aF; omega
theorem NA {s t:aa}:(if decide (s.Hi<t.Lo)=true then (2:Int) else if decide (s.Lo<t.Hi)=true then 1 else 0)=vK s t:=by simp only [decide_eq_true_eq]; rfl
theorem Jv {s t:aa} (h:s=t):(if decide (max s.Lo t.Lo=min s.Hi t.Hi)=true then (2:Int) else if decide (max s.Lo t.Lo≤min s.Hi t.Hi)=true then 1 else 0)=ql s t:=by
 subst h
 simp only [decide_eq_true_eq,ql,Int.max_self,Int.min_self,true_and,and_self]
theorem MH {s t:aa} (hs:s.Lo≤s.Hi) (ht:t.Lo≤t.Hi) (h: ¬ s=t):(if false=true then (2:Int) else if decide (max s.Lo t.Lo≤min s.Hi t.Hi)=true then 1 else 0)=ql s t:=by
 unfold ql
 rw [if_neg dc,if_neg (fun q:s=t∧s.Lo=s.Hi=>h q.1)]
 by_cases c:s.Lo≤t.Hi∧t.Lo≤s.Hi
 ·rw [if_pos c,if_pos (fI I)]
 ·rw [if_neg c,if_neg (by rw [decide_eq_true_eq]; omega)]
theorem Ke (h: ¬ cK r=0):jG r i=cK r:=if_neg h
theorem KS (h:cK r=0) (hi: ¬ (0≤i∧i≤(r.aQ.length:Int)-1)):jG r i=2:=by unfold jG; rw [if_pos h,if_neg (show ¬ rz r i from hi)]
theorem yx (h:cK r=0) (hi:0≤i∧i≤(r.aQ.length:Int)-1) (hl:((aF r).lookup i).isSome=false):jG r i=6:=by unfold jG; rw [if_pos h,if_pos (show rz r i from hi),if_pos (uq hl)]
theorem Gi (h:cK r=0) (hi:0≤i∧i≤(r.aQ.length:Int)-1) (hl:((aF r).lookup i).isSome=true):jG r i=0:=by unfold jG; rw [if_pos h,if_pos (show rz r i from hi),if_neg (ux hl)]
theorem Lr (h: ¬ cK r=0):l7 r a b=cK r:=if_neg h
theorem Bf (h:cK r=0) (hi: ¬ ((0≤a∧a≤(r.aQ.length:Int)-1)∧(0≤b∧b≤(r.aQ.length:Int)-1)∧a≠b)):l7 r a b=2:=by unfold l7; rw [if_pos h,if_neg (show ¬ (rz r a∧rz r b∧a≠b) from hi)]
theorem zM (h:cK r=0) (hi:(0≤a∧a≤(r.aQ.length:Int)-1)∧(0≤b∧b≤(r.aQ.length:Int)-1)∧a≠b) (hl:((aF r).lookup a).isSome=false∨((aF r).lookup b).isSome=false):l7 r a b=6:=by
 unfold l7; rw [if_pos h,if_pos (show rz r a∧rz r b∧a≠b from hi),if_pos (hl.imp uq uq)]
theorem Ox (h:cK r=0) (hi:(0≤a∧a≤(r.aQ.length:Int)-1)∧(0≤b∧b≤(r.aQ.length:Int)-1)∧a≠b) (h1:((aF r).lookup a).isSome=true) (h2:((aF r).lookup b).isSome=true):l7 r a b=0:=by
 unfold l7; rw [if_pos h,if_pos (show rz r a∧rz r b∧a≠b from hi),if_neg (fun q=>q.elim (ux h1) (ux h2))]
end
end
section
abbrev qu:=List (Int×Bool)
def iS (m:qu) (P:Int→Prop):Prop:=(m.map (·.1)).Nodup∧ ∀ k,k∈m.map (·.1)↔P k
section
variable {m:qu} {P Q:Int→Prop} {k:Int}
theorem iS.yl (h:iS m P) (e: ∀ k,P k↔Q k):iS m Q:=⟨h.1,fun k=>(h.2 k).trans (e k)⟩
theorem Mq (h: ∀ k,¬ P k):iS [] P:=⟨List.Pairwise.nil,fun k=>⟨fun q=>by simp at q,fun q=>absurd q (h k)⟩⟩
theorem Hz:k∈m.map (·.1)↔(m.lookup k).isSome=true:=by
 induction m with
 |nil=>simp
 |cons p m ih=>
  obtain ⟨a,b⟩:=p
  by_cases e:k=a
  ·subst e; simp [List.lookup]
  ·have:(k==a)=false:=by simpa using e
   simp only [List.map_cons,d_,e,false_or,List.lookup,this]
   exact ih
theorem Kk {b:Bool} (h:iS m P) (hk: ¬ P k):iS (dL m k b) fun q=>P q∨q=k:=by
 have hn:(m.lookup k).isSome=false:=by
  rw [Bool.eq_false_iff]
  exact fun q=>hk ((h.2 k).1 (Hz.2 q))
 unfold dL
 rw [hn]
 simp only [Bool.false_eq_true,if_false]
 refine ⟨?_,fun q=>?_⟩
 ·rw [List.map_append]
  refine List.nodup_append.2 ⟨h.1,sm,fun a ha b hb e=>?_⟩
  simp at hb
  subst hb; subst e
  exact hk ((h.2 _).1 ha)
 ·rw [List.map_append,kF,h.2 q]
  simp
theorem Bw (h:iS m P):iS (cq m k) fun q=>P q∧q≠k:=by
 have hs:((cq m k).map (·.1)).Sublist (m.map (·.1)):=List.Sublist.map _ List.filter_sublist
 refine ⟨h.1.sublist hs,fun q=>?_⟩
 constructor
 ·intro hq
  obtain ⟨p,hp,rfl⟩:=List.mem_map.1 hq
  obtain ⟨A,B⟩:=j7.1 hp
  exact ⟨(h.2 _).1 (List.mem_map_of_mem A),B⟩
 ·rintro ⟨A,B⟩
  obtain ⟨p,hp,rfl⟩:=List.mem_map.1 ((h.2 q).2 A)
  exact List.mem_map_of_mem (j7.2 ⟨hp,B⟩)
end
/-- two rows that go up and have the same numbers, each once -/
theorem qZ {a b:List Int} (ha:a.Pairwise (· ≤ ·)) (hb:b.Pairwise (· ≤ ·)) (na:a.Nodup) (nb:b.Nodup) (h: ∀ x,x∈a↔x∈b):a=b:=
 rO ((List.perm_ext_iff_of_nodup na nb).2 h) ha hb
def LQ (l:List Int):Nat:=if l.length=2∧l[1]? =l[0]? then 1 else l.length
theorem zf {l:List Int} {x y:Int} (h:l.length=2) (h0:l[0]? =some y) (h1:l[1]? =some x) (e:x=y):LQ l=1:=if_pos ⟨h,by rw [h0,h1,e]⟩
theorem Cm {l:List Int} {x y:Int} (h:l.length=2) (h0:l[0]? =some y) (h1:l[1]? =some x) (e: ¬ x=y):LQ l=l.length:=if_neg fun q=>e (by have:=q.2; rw [h0,h1] at this; exact Option.some.inj this)
theorem J1 (a b:Int):(a=b∧LQ (df [a,b])=1)∨(¬ a=b∧LQ (df [a,b])=2):=by
 have hl:(df [a,b]).length=2:=by simp
 have hp:(df [a,b]).Perm [a,b]:=fx
 match hs:df [a,b],hl with
 |[x,y],_=>
  rw [hs] at hp
  by_cases e:a=b
  ·subst e
   left
   refine ⟨U,zf U U U ?_⟩
   have A:x∈[a,a]:=hp.mem_iff.1 sm
   have B:y∈[a,a]:=hp.mem_iff.1 sm
   simp at A B; omega
  ·right
   refine ⟨e,(Cm (x:=y) (y:=x) U U U fun q=>?_).trans U⟩
   subst q
   have A:=hp.nodup_iff.2 (show [a,b].Nodup by simp [e])
   simp at A
section
variable {m left:gY} {i n x:Int} {y:aa}
theorem lM {p:Int×aa→Bool} (hn:(left.map (·.1)).Nodup) (hm:(x,y)∈left):left.countP p=(cq left x).countP p+(if p (x,y)=true then 1 else 0):=by
 induction left with
 |nil=>cases hm
 |cons q left ih=>
  obtain ⟨a,b⟩:=q
  simp only [List.map_cons,List.nodup_cons] at hn
  rcases List.mem_cons.1 hm with e|hm
  ·cases e
   have A:cq ((x,y)::left) x=left:=by
    unfold cq
    rw [List.filter_cons_of_neg sm]
    exact List.filter_eq_self.2 fun q hq=>by
     have:q.1≠x:=fun e=>hn.1 (e▸List.mem_map_of_mem hq)
     simpa using this
   rw [A,List.countP_cons]
  ·have B:a≠x:=fun e=>hn.1 (e▸List.mem_map_of_mem (f:=fun z:Int×aa=>z.1) hm)
   have A:cq ((a,b)::left) x=(a,b)::cq left x:=by
    unfold cq
    rw [List.filter_cons_of_pos (by simpa using B)]
   rw [A,List.countP_cons,List.countP_cons,ih hn.2 hm]
   omega
theorem kY:gG left i n=left.countP fun p=>decide (p.2.Hi<n)&& !decide (p.1=i):=by unfold gG mQ; rw [List.countP_filter]
theorem nm:jt left i n=left.countP fun p=>decide (p.2.Lo<n)&& !decide (p.1=i):=by unfold jt mQ; rw [List.countP_filter]
theorem Ib (hn:(left.map (·.1)).Nodup) (hm:(x,y)∈left) (h:x=i):gG left i n=gG (cq left x) i n:=by
 rw [kY,kY,lM hn hm]; simp [h]
theorem LF (hn:(left.map (·.1)).Nodup) (hm:(x,y)∈left) (h:x=i):jt left i n=jt (cq left x) i n:=by
 rw [nm,nm,lM hn hm]; simp [h]
theorem yC (hn:(left.map (·.1)).Nodup) (hm:(x,y)∈left) (h: ¬ x=i) (hy:y.Hi<n):gG left i n=gG (cq left x) i n+1:=by
 rw [kY,kY,lM hn hm]; simp [h,hy]
theorem CX (hn:(left.map (·.1)).Nodup) (hm:(x,y)∈left) (h: ¬ x=i) (hy: ¬ y.Hi<n):gG left i n=gG (cq left x) i n:=by
 rw [kY,kY,lM hn hm]; simp [h,hy]
theorem CF (hn:(left.map (·.1)).Nodup) (hm:(x,y)∈left) (h: ¬ x=i) (hy:y.Lo<n):jt left i n=jt (cq left x) i n+1:=by
 rw [nm,nm,lM hn hm]; simp [h,hy]
theorem Gg (hn:(left.map (·.1)).Nodup) (hm:(x,y)∈left) (h: ¬ x=i) (hy: ¬ y.Lo<n):jt left i n=jt (cq left x) i n:=by
 rw [nm,nm,lM hn hm]; simp [h,hy]
theorem yZ:gG [] i n=0:=rfl
theorem Bq:jt [] i n=0:=rfl
theorem Ge:gG m i n≤m.length:=by unfold gG mQ; exact Nat.le_trans List.countP_le_length (List.length_filter_le _ _)
theorem Jk:jt m i n≤m.length:=by unfold jt mQ; exact Nat.le_trans List.countP_le_length (List.length_filter_le _ _)
end
def oB {β:Type} (m left:List (Int×β)) (ys:List Int):Prop:=(ys++left.map (·.1)).Perm (m.map (·.1))
theorem u3 {β:Type} {m:List (Int×β)}:oB m m []:=List.Perm.refl _
theorem wO {β:Type} {m:List (Int×β)} {ys:List Int} (h:oB m [] ys):ys.Perm (m.map (·.1)):=by simpa [oB] using h
theorem I2 {β:Type} {left:List (Int×β)} {x:Int} {y:β} (hn:(left.map (·.1)).Nodup) (hm:(x,y)∈left):(left.map (·.1)).Perm (x::(cq left x).map (·.1)):=by
 induction left with
 |nil=>cases hm
 |cons q left ih=>
  obtain ⟨a,b⟩:=q
  simp only [List.map_cons,List.nodup_cons] at hn
  rcases List.mem_cons.1 hm with e|hm
  ·cases e
   have A:cq ((x,y)::left) x=left:=by
    unfold cq
    rw [List.filter_cons_of_neg sm]
    exact List.filter_eq_self.2 fun q hq=>by
     have:q.1≠x:=fun e=>hn.1 (e▸List.mem_map_of_mem hq)
     simpa using this
   rw [A]; exact List.Perm.refl _
  ·have B:a≠x:=fun e=>hn.1 (e▸List.mem_map_of_mem (f:=fun z:Int×β=>z.1) hm)
   have A:cq ((a,b)::left) x=(a,b)::cq left x:=by
    unfold cq
    rw [List.filter_cons_of_pos (by simpa using B)]
   rw [A,List.map_cons,List.map_cons]
   exact ((ih hn.2 hm).cons a).trans (List.Perm.swap _ _ _)
theorem oa {β:Type} {m left:List (Int×β)} {ys:List Int} {x:Int} {y:β} (hn:(left.map (·.1)).Nodup) (hm:(x,y)∈left) (h:oB m left ys):oB m (cq left x) (ys++[x]):=by
 unfold oB at h ⊢
 refine List.Perm.trans ?_ h
 rw [List.append_assoc]
 exact (I2 hn hm).symm.append_left ys
theorem fR {β:Type} {m left:List (Int×β)} {x:Int} (h: ∀ p∈left,p∈m): ∀ p∈cq left x,p∈m:=fun p hp=>h p (j7.1 hp).1
theorem gM {m:gY} {i:Int} (h: ∀ p∈m,0≤p.2.Lo∧p.2.Lo≤p.2.Hi∧p.2.Hi≤30000000):0≤(aA m i).Lo∧(aA m i).Lo≤(aA m i).Hi∧(aA m i).Hi≤30000000:=by
 unfold aA
 cases e:m.lookup i with
 |none=>simp [dx]
 |some v=>
  have hm:(i,v)∈m:=by
   clear h
   induction m with
   |nil=>cases e
   |cons p m ih=>
    obtain ⟨a,b⟩:=p
    by_cases c:i=a
    ·subst c; simp [List.lookup] at e; subst e; exact cb
    ·have:(i==a)=false:=by simpa using c
     simp only [List.lookup,this] at e
     exact cR _ (ih e)
  simpa using h _ hm
/-- not reached by the numbers so far -/
def uk (m:gY) (i:Int) (ys:List Int) (k:Int):Prop:=(1≤k∧k≤(m.length:Int))∧ ∀ n∈ys,¬ ((gG m i n:Int)+1≤k∧k≤(jt m i n:Int)+1)
section
variable {m:gY} {i:Int} {own:aa} {ys:List Int} {nev ranks:qu} {n a b:Int}
theorem JP (h:iS nev fun k=>1≤k∧k≤(m.length:Int)):iS nev (uk m i []):=h.yl fun k=>⟨fun h=>⟨h,fun n hn=>by cases hn⟩,fun h=>h.1⟩
theorem Io (ha:a=(gG m i n:Int)+1) (hb:b=(jt m i n:Int)+1) (h:iS nev fun q=>uk m i ys q∧ ¬ (a≤q∧q≤b)):iS nev (uk m i (ys++[n])):=by
 subst ha hb
 refine h.yl fun k=>?_
 unfold uk
 constructor
 ·rintro ⟨⟨B,A⟩,C⟩
  refine ⟨B,fun x hx=>?_⟩
  rcases List.mem_append.1 hx with hx|hx
  ·exact A x hx
  ·rw [bS] at hx; subst hx; exact C
 ·rintro ⟨B,A⟩
  exact ⟨⟨B,fun x hx=>A x (List.mem_append_left _ hx)⟩,A n sm⟩
theorem E2 {P:Int→Prop} {k:Int} (hk:a≤k) (h:iS nev fun q=>P q∧ ¬ (a≤q∧q<k)):iS (cq nev k) fun q=>P q∧ ¬ (a≤q∧q<k+1):=
 (Bw (k:=k) h).yl fun q=>by
  constructor
  ·rintro ⟨⟨B,A⟩,E⟩; exact ⟨B,fun ⟨C,D⟩=>A ⟨C,I⟩⟩
  ·rintro ⟨B,A⟩; exact ⟨⟨B,fun ⟨C,D⟩=>A ⟨C,I⟩⟩,fun e=>A ⟨I,I⟩⟩
theorem F9 (hall: ∀ n,n∈ys↔n∈jF m i own) {k:Int} (hk:1≤k∧k≤(m.length:Int)): ¬ uk m i ys k↔sk m i own k:=by
 unfold uk sk
 constructor
 ·intro h
  refine Classical.byContradiction fun q=>h ⟨hk,fun n hn hc=>q ⟨n,(hall n).1 hn,hc.1,hc.2⟩⟩
 ·rintro ⟨n,hn,A,B⟩ h
  exact h.2 n ((hall n).2 hn) ⟨A,B⟩
/-- the ranks, from what is left of the map -/
theorem Ei (hi:m.lookup i≠none) (hall: ∀ n,n∈ys↔n∈jF m i own) (h:iS ranks fun k=>(1≤k∧k≤(m.length:Int))∧ ¬ uk m i ys k):df (ranks.map (·.1))=c_ m i own:=by
 refine qZ kW ?_ ((fx (l:=ranks.map (·.1))).nodup_iff.2 h.1) ?_ fun k=>?_
 ·unfold c_
  refine List.Pairwise.filter _ ?_
  rw [List.pairwise_map]
  exact List.pairwise_lt_range.imp fun h=>by omega
 ·unfold c_
  refine List.Pairwise.filter _ ?_
  rw [List.pairwise_map]
  exact List.pairwise_lt_range.imp fun h=>by omega
 ·rw [(fx (l:=ranks.map (·.1))).mem_iff,h.2 k,qR hi]
  constructor
  ·rintro ⟨A,B⟩; exact (F9 hall A).1 B
  ·intro A
   have hk:1≤k∧k≤(m.length:Int):=by
    obtain ⟨n,_,B,C⟩:=A
    have:=Kd hi (x:=n)
    omega
   exact ⟨hk,(F9 hall hk).2 A⟩
end
section
variable {nw left rk:qu} {N R:Int→Prop} {u:Int} {v:Bool}
theorem OL (hl: ∀ p∈left,p∈nw) (hk:iS nw N) (hm:(u,v)∈left) (h:iS rk fun w=>R w∧ ¬ (N w∧w ∉ left.map (·.1))):iS (cq rk u) fun w=>R w∧ ¬ (N w∧w ∉ (cq left u).map (·.1)):=
 (Bw (k:=u) h).yl fun w=>by
  have hd:w∈(cq left u).map (·.1)↔w∈left.map (·.1)∧w≠u:=by
   constructor
   ·intro q
    obtain ⟨p,hp,rfl⟩:=List.mem_map.1 q
    exact ⟨List.mem_map_of_mem (j7.1 hp).1,(j7.1 hp).2⟩
   ·rintro ⟨D,E⟩
    obtain ⟨p,hp,rfl⟩:=List.mem_map.1 D
    exact List.mem_map_of_mem (j7.2 ⟨hp,E⟩)
  constructor
  ·rintro ⟨⟨B,A⟩,C⟩
   exact ⟨B,fun q=>A ⟨q.1,fun z=>q.2 (hd.2 ⟨z,C⟩)⟩⟩
  ·rintro ⟨B,A⟩
   refine ⟨⟨B,fun q=>A ⟨q.1,fun z=>q.2 (hd.1 z).1⟩⟩,fun e=>A ⟨?_,fun z=>(hd.1 z).2 e⟩⟩
   subst e
   exact (hk.2 _).1 (List.mem_map_of_mem (f:=fun z:Int×Bool=>z.1) (hl _ hm))
theorem KM {n:Nat} (h:iS rk R) (hR: ∀ k,R k→1≤k∧k≤(n:Int)):rk.length≤n:=by
 have hp:((List.range n).map fun (k:Nat)=>(k:Int)+1).Pairwise (· < ·):=by
  rw [List.pairwise_map]
  exact List.pairwise_lt_range.imp fun h=>by omega
 have e:df (rk.map (·.1))=((List.range n).map fun (k:Nat)=>(k:Int)+1).filter fun k=>decide (k∈rk.map (·.1)):=by
  refine qZ kW ((hp.filter _).imp fun h=>by omega) ((fx (l:=rk.map (·.1))).nodup_iff.2 h.1) ((hp.filter _).imp fun h=>by omega) fun k=>?_
  rw [(fx (l:=rk.map (·.1))).mem_iff,List.mem_filter,decide_eq_true_eq]
  refine ⟨fun q=>⟨?_,q⟩,fun q=>q.2⟩
  have:=hR k ((h.2 k).1 q)
  exact List.mem_map.2 ⟨(k-1).toNat,List.mem_range.2 I,I⟩
 have A:=congrArg List.length e
 have B:=List.length_filter_le (fun k=>decide (k∈rk.map (·.1))) ((List.range n).map fun (k:Nat)=>(k:Int)+1)
 rw [gl,List.length_map] at A
 rw [List.length_map,List.length_range] at B
 omega
end
section
variable {m left:gY} {i x n:Int} {own y:aa} {ys:List Int}
/-- what was told so far: all of those who are not left -/
def zy (m:gY) (i:Int) (own:aa) (left:gY) (ys:List Int):Prop:=(∀ n∈ys,n∈jF m i own)∧own.Lo∈ys∧ ∀ p∈m,p.1≠i→p ∉ left→ ∀ n∈[p.2.Lo+1,p.2.Hi+1],own.Lo≤n∧n≤own.Hi→n∈ys
theorem mT {p:Int×aa} (hp:p∈m) (hi:p.1≠i) (hn:n=p.2.Lo+1∨n=p.2.Hi+1) (hb:own.Lo≤n∧n≤own.Hi):n∈jF m i own:=
 cR _ (List.mem_filter.2 ⟨List.mem_flatMap.2 ⟨p,List.mem_filter.2 ⟨hp,by simpa using hi⟩,by simpa using hn⟩,fI hb⟩)
theorem JE:zy m i own m [own.Lo]:=⟨fun n hn=>by rw [bS] at hn; subst hn; exact cb,sm,fun p hp _ hl=>absurd hp hl⟩
theorem N7 (h:zy m i own [] ys) (n:Int):n∈ys↔n∈jF m i own:=by
 refine ⟨h.1 n,fun hn=>?_⟩
 rcases List.mem_cons.1 hn with rfl|hn
 ·exact h.2.1
 ·obtain ⟨C,D⟩:=List.mem_filter.1 hn
  obtain ⟨p,hp,hx⟩:=List.mem_flatMap.1 C
  obtain ⟨A,B⟩:=List.mem_filter.1 hp
  exact h.2.2 p A (by simpa using B) sm n hx (of_decide_eq_true D)
theorem kX {ys':List Int} (hm:(left.map (·.1)).Nodup) (hx:(x,y)∈left) (hl: ∀ p∈left,p∈m) (h:zy m i own left ys) (hs: ∀ n∈ys,n∈ys') (hn: ∀ n∈ys',n∈ys∨n∈jF m i own)
 (hy:x≠i→ ∀ n∈[y.Lo+1,y.Hi+1],own.Lo≤n∧n≤own.Hi→n∈ys'):zy m i own (cq left x) ys':=by
 refine ⟨fun n A=>?_,hs _ h.2.1,fun p hp hi B n A hb=>?_⟩
 ·rcases hn n A with q|q
  ·exact h.1 n q
  ·exact q
 ·by_cases e:p∈left
  ·have C:p.1=x:=by
    refine Classical.byContradiction fun q=>B (j7.2 ⟨e,q⟩)
   have E:p=(x,y):=by
    obtain ⟨G,H⟩:=p
    simp only at C; subst C
    have F:=(jX hm).1 e
    have D:=(jX hm).1 hx
    rw [F] at D; cases D; rfl
   subst E
   exact hy hi n A hb
  ·exact hs n (h.2.2 p hp hi e n A hb)
end
section
variable {r:bT} {h i:Int} {ht:List ax} {d:ax}
theorem o1 (he: ¬ cK r=0):mO r h i=cK r:=if_neg he
theorem o6 (he:cK r=0) (hi: ¬ ((0≤h∧h≤(r.ay.length:Int)-1)∧0≤i∧i≤(r.aQ.length:Int)-1)):mO r h i=2:=by
 unfold mO; rw [if_pos he,if_neg (show ¬ ((0≤h∧h≤(r.ay.length:Int)-1)∧rz r i) from hi)]
theorem Cc (he:cK r=0) (hi:(0≤h∧h≤(r.ay.length:Int)-1)∧0≤i∧i≤(r.aQ.length:Int)-1) (h1:r.ay[h.toNat]? =some ht) (h2:ht[i.toNat]? =some d):mO r h i=if d.Out=true then 6 else 0:=by
 unfold mO; rw [if_pos he,if_pos (show (0≤h∧h≤(r.ay.length:Int)-1)∧rz r i from hi),h1]
 simp [h2]
theorem nI (he:cK r=0) (hi:(0≤h∧h≤(r.ay.length:Int)-1)∧0≤i∧i≤(r.aQ.length:Int)-1) (h1:r.ay[h.toNat]? =some ht) (h2:ht[i.toNat]? =some d) (ho:d.Out=true):mO r h i=6:=by rw [Cc he hi h1 h2,if_pos ho]
theorem qe (he:cK r=0) (hi:(0≤h∧h≤(r.ay.length:Int)-1)∧0≤i∧i≤(r.aQ.length:Int)-1) (h1:r.ay[h.toNat]? =some ht) (h2:ht[i.toNat]? =some d) (ho:d.Out=false):mO r h i=0∧ig r h i=dv r.ao d:=by
 have e:mO r h i=0:=by rw [Cc he hi h1 h2,if_neg (by rw [ho]; decide)]
 refine ⟨e,?_⟩
 unfold ig
 rw [if_pos e,h1]
 simp [h2]
end
theorem yV {r:bT} {i:Int} (h: ¬ jG r i=0):gK r i=[]:=if_neg h
theorem yF {r:bT} {i:Int} (h:jG r i=0):gK r i=c_ (aF r) i (aA (aF r) i):=if_pos h
end
section
open Go.RowKit
section
variable {key:Int→Int} {l q m:List Int} {i j:Nat} {x y:Int}
theorem Gx:1=1∧l=[]∨tp key l 1 l:=by
 cases l with
 |nil=>exact .inl ⟨rfl,rfl⟩
 |cons a l=>exact .inr (IJ sm)
theorem Oa (h:i<l.length) (hd:i=1∧l=[]∨tp key l i m):tp key l i m:=by
 rcases hd with ⟨_,rfl⟩|hd
 ·simp at h
 ·exact hd
theorem Ip (hi: ¬ i<l.length) (hl:m.length=l.length) (hd:i=1∧l=[]∨tp key l i m):m=er key l:=by
 rcases hd with ⟨_,rfl⟩|hd
 ·exact jD hl
 ·exact Ix I hd
theorem KR (hx:q[j]? =some x) (hy:q[j-1]? =some y) (h: ∀ z∈q,z∈l): ∀ z∈(q.set j y).set (j-1) x,z∈l:=fun z hz=>by
 rcases List.mem_or_eq_of_mem_set hz with hz|rfl
 ·rcases List.mem_or_eq_of_mem_set hz with hz|rfl
  ·exact h z hz
  ·exact h _ (aR hy)
 ·exact h _ (aR hx)
theorem wk {p:Int→Bool} (hx:l[i]? =some x) (h:p x=true):(l.take (i+1)).filter p=(l.take i).filter p++[x]:=by
 rw [j0 hx,List.filter_append]; simp [h]
theorem Fc {p:Int→Bool} (hx:l[i]? =some x) (h:p x=false):(l.take (i+1)).filter p=(l.take i).filter p:=by
 rw [j0 hx,List.filter_append]; simp [h]
end
section
variable {r:bT} {h:Int} {n:Nat}
theorem DO (e: ¬ cK r=0):iG r h=cK r:=if_neg e
theorem Ec (e:cK r=0) (q: ¬ (0≤h∧h≤(r.ay.length:Int))):iG r h=2:=by unfold iG; rw [if_pos e,if_neg q]
theorem zK (e:cK r=0) (q:0≤h∧h≤(r.ay.length:Int)):iG r h=0:=by unfold iG; rw [if_pos e,if_pos q]
theorem E_ (hd:r.bQ.length≤12):(g3 r h).length≤12:=by
 unfold g3
 split
 ·split
  ·exact hd
  ·unfold ur
   simp only [j6,kz]
   exact Nat.le_trans (List.length_filter_le _ _) hd
 ·simp
theorem zJ (e: ¬ iG r h=0):g3 r h=[]:=if_neg e
theorem vu (e:iG r h=0) (q:h=0):g3 r h=r.bQ:=by unfold g3; rw [if_pos e,if_pos q]
theorem u9 (e:iG r (n:Int)=0) (q: ¬ (n:Int)=0):g3 r (n:Int)=ur r n:=by unfold g3; rw [if_pos e,if_neg q,Int.toNat_natCast]
theorem zr {k:Nat} {l:List Int} (hl:l=er (fun i=>(aA (eD r n) i).Hi) (r.bQ.filter fun i=>((eD r n).lookup i).isSome)) (hk:k=min r.iK.toNat l.length):rJ k l=ur r n:=by subst hl; subst hk; rfl
theorem Tu {m:gY} {l:List Int} (hb: ∀ p∈m,0≤p.2.Lo∧p.2.Lo≤p.2.Hi∧p.2.Hi≤30000000): ∀ x∈l,0≤(aA m x).Hi∧(aA m x).Hi≤30000000:=fun x _=>by have:=gM (i:=x) hb; omega
theorem Ti {m:gY} {l:List Int} (hb: ∀ p∈m,0≤p.2.Lo∧p.2.Lo≤p.2.Hi∧p.2.Hi≤30000000): ∀ x∈l,0≤(aA m x).Lo∧(aA m x).Lo≤30000000:=fun x _=>by have:=gM (i:=x) hb; omega
end
end
section
def DW (f:Int→aa) (g:List Int):Prop:= ∀ t,(∃ a∈g,(f a).Lo<t)→(∃ b∈g,t≤(f b).Lo)→ ∃ c∈g,(f c).Lo<t∧t≤(f c).Hi
def LR (f:Int→aa) (g h:List Int):Prop:= ∀ a∈g,∀ b∈h,(f a).Hi<(f b).Lo
structure gU (f:Int→aa) (keys:List Int) (G:List (List Int)):Prop where
 perm:G.flatten.Perm keys
 some_: ∀ g∈G,g≠[]
 apart:G.Pairwise (LR f)
 tight: ∀ g∈G,DW f g
def Ax (G:List (List Int)):Prop:= ∀ g∈G,g.Pairwise (· ≤ ·)
section
variable {f:Int→aa} {keys:List Int} {G G':List (List Int)} {g h:List Int} {x:Int}
theorem s7: ∀ {g:List Int},g≠[]→ ∃ a∈g,∀ b∈g,(f a).Lo≤(f b).Lo
 |[],h=>absurd rfl h
 |[a],_=>⟨a,sm,fun b hb=>by simp at hb; subst hb; omega⟩
 |a::b::g,_=>by
  obtain ⟨c,hc,hm⟩:=s7 (g:=b::g) sm
  rcases Int.le_total (f a).Lo (f c).Lo with q|q
  ·refine ⟨a,sm,fun d hd=>?_⟩
   rcases List.mem_cons.1 hd with rfl|hd
   ·omega
   ·have:=hm d hd; omega
  ·refine ⟨c,cR _ hc,fun d hd=>?_⟩
   rcases List.mem_cons.1 hd with rfl|hd
   ·exact q
   ·exact hm d hd
/-- the first group is what no cut parts from the least -/
theorem rh (hf: ∀ i∈keys,(f i).Lo≤(f i).Hi) (h:gU f keys (g::G)) {a:Int} (ha:a∈keys) (hm: ∀ b∈keys,(f a).Lo≤(f b).Lo) {b:Int} (hb:b∈keys):b∈g↔ ∀ t,(f a).Lo<t→t≤(f b).Lo→ ∃ c∈keys,(f c).Lo<t∧t≤(f c).Hi:=by
 have hk: ∀ x,x∈keys↔x∈g∨x∈G.flatten:=fun x=>by rw [← h.perm.mem_iff,List.flatten_cons,kF]
 have A:=List.pairwise_cons.1 h.apart
 have B:a∈g:=by
  rcases (hk a).1 ha with q|q
  ·exact q
  ·obtain ⟨y,hy⟩:=List.exists_mem_of_ne_nil _ (h.some_ g cb)
   obtain ⟨g',hg',hag'⟩:=List.mem_flatten.1 q
   have F:=A.1 g' hg' y hy a hag'
   have H:=hm y ((hk y).2 (.inl hy))
   have E:=hf y ((hk y).2 (.inl hy))
   omega
 constructor
 ·intro AA t F H
  obtain ⟨c,hc,E⟩:=h.tight g cb t ⟨a,B,F⟩ ⟨b,AA,H⟩
  exact ⟨c,(hk c).2 (.inl hc),E⟩
 ·intro C
  rcases (hk b).1 hb with q|q
  ·exact q
  ·exfalso
   obtain ⟨d,hd,D⟩:=s7 (f:=f) (g:=G.flatten) (fun e=>by rw [e] at q; cases q)
   obtain ⟨g',hg',hdg'⟩:=List.mem_flatten.1 hd
   have F:=A.1 g' hg' a B d hdg'
   have H:=hf a ha
   have E:=D b q
   obtain ⟨c,hc,K,L⟩:=C (f d).Lo I E
   rcases (hk c).1 hc with J|J
   ·have:=A.1 g' hg' c J d hdg'; omega
   ·have:=D c J; omega
theorem u_ (h:gU f keys (g::G)):gU f G.flatten G:=
 ⟨List.Perm.refl _,fun x hx=>h.some_ x (cR _ hx),(List.pairwise_cons.1 h.apart).2,fun x hx=>h.tight x (cR _ hx)⟩
theorem qF {k2:List Int} (h:gU f keys G) (p:keys.Perm k2):gU f k2 G:=⟨h.perm.trans p,h.some_,h.apart,h.tight⟩
theorem rN: ∀ {G G':List (List Int)} {keys:List Int},keys.Nodup→(∀ i∈keys,(f i).Lo≤(f i).Hi)→gU f keys G→gU f keys G'→Ax G→Ax G'→G=G'
 |[],[],keys,_,_,_,_,_,_=>rfl
 |[],g'::G',keys,_,_,h,h',_,_=>by
  exfalso
  have F:keys=[]:=List.Perm.eq_nil (by simpa using h.perm.symm)
  subst F
  have:=h'.perm.eq_nil
  simp at this
  exact h'.some_ g' cb this.1
 |g::G,[],keys,_,_,h,h',_,_=>by
  exfalso
  have F:keys=[]:=List.Perm.eq_nil (by simpa using h'.perm.symm)
  subst F
  have:=h.perm.eq_nil
  simp at this
  exact h.some_ g cb this.1
 |g::G,g'::G',keys,hn,hf,h,h',ha,ha'=>by
  have H:keys≠[]:=fun e=>by
   subst e
   have:=h.perm.eq_nil
   simp at this
   exact h.some_ g cb this.1
  obtain ⟨a,A,B⟩:=s7 (f:=f) H
  have D:=h.perm.nodup_iff.2 hn
  have E:=h'.perm.nodup_iff.2 hn
  rw [List.flatten_cons,List.nodup_append] at D E
  have zX: ∀ b∈g,b∈keys:=fun b hb=>h.perm.mem_iff.1 (by rw [List.flatten_cons]; exact List.mem_append_left _ hb)
  have C: ∀ b∈g',b∈keys:=fun b hb=>h'.perm.mem_iff.1 (by rw [List.flatten_cons]; exact List.mem_append_left _ hb)
  have e:g=g':=by
   refine qZ (ha g cb) (ha' g' cb) D.1 E.1 fun b=>?_
   constructor
   ·intro hb
    exact (rh hf h' A B (zX b hb)).2 ((rh hf h A B (zX b hb)).1 hb)
   ·intro hb
    exact (rh hf h A B (C b hb)).2 ((rh hf h' A B (C b hb)).1 hb)
  subst e
  have p:G.flatten.Perm G'.flatten:=by
   have:=h.perm.trans h'.perm.symm
   rw [List.flatten_cons,List.flatten_cons] at this
   exact (List.perm_append_left_iff g).1 this
  rw [rN (G:=G) (G':=G') D.2.1 (fun i hi=>hf i (h.perm.mem_iff.1 (by rw [List.flatten_cons]; exact List.mem_append_right _ hi))) (u_ h) (qF (u_ h') p.symm) (fun x hx=>ha x (cR _ hx)) (fun x hx=>ha' x (cR _ hx))]
/-- groups, each one put in order -/
theorem vl (h:gU f keys G):gU f keys (G.map df)∧Ax (G.map df):=by
 have hp: ∀ G:List (List Int),(G.map df).flatten.Perm G.flatten:=fun G=>by
  induction G with
  |nil=>simp
  |cons g G ih=>simp only [List.map_cons,List.flatten_cons]; exact fx.append ih
 have hm: ∀ {g:List Int} {x:Int},x∈df g↔x∈g:=fx.mem_iff
 refine ⟨⟨(hp G).trans h.perm,fun g hg=>?_,?_,fun g hg=>?_⟩,fun g hg=>?_⟩
 ·obtain ⟨y,hy,rfl⟩:=List.mem_map.1 hg
  intro e
  have:=(fx (l:=y)).symm
  rw [e] at this
  exact h.some_ y hy this.eq_nil
 ·rw [List.pairwise_map]
  exact h.apart.imp fun q a ha b hb=>q a (hm.1 ha) b (hm.1 hb)
 ·obtain ⟨y,hy,rfl⟩:=List.mem_map.1 hg
  rintro t ⟨a,ha,A⟩ ⟨b,hb,B⟩
  obtain ⟨c,hc,C⟩:=h.tight y hy t ⟨a,hm.1 ha,A⟩ ⟨b,hm.1 hb,B⟩
  exact ⟨c,hm.2 hc,C⟩
 ·obtain ⟨y,hy,rfl⟩:=List.mem_map.1 hg
  exact kW
end
/-- so far: groups, and the greatest of all -/
structure l9 (f:Int→aa) (p:List Int) (G:List (List Int)) (last:Int):Prop where
 ok:gU f p G
 P5: ∀ a∈p,(f a).Hi≤last
 at_:p=[]∧last= -1∨ ∃ a∈p,(f a).Hi=last
section
variable {f:Int→aa} {p:List Int} {G:List (List Int)} {g:List Int} {x last:Int}
theorem Fg:l9 f [] [] (-1):=⟨⟨sm,fun g hg=>(by cases hg),List.Pairwise.nil,fun g hg=>by cases hg⟩,fun a ha=>(by cases ha),.inl ⟨rfl,rfl⟩⟩
theorem HE:DW f [x]:=by
 rintro t ⟨a,ha,A⟩ ⟨b,hb,B⟩
 simp at ha hb; subst ha hb; omega
theorem rm (h0: -1≤(f x).Hi) (h:l9 f p G last):(∀ a∈p++[x],(f a).Hi≤max last (f x).Hi)∧((p++[x])=[]∧max last (f x).Hi= -1∨ ∃ a∈p++[x],(f a).Hi=max last (f x).Hi):=by
 refine ⟨fun a ha=>?_,.inr ?_⟩
 ·rcases List.mem_append.1 ha with ha|ha
  ·have:=h.P5 a ha; omega
  ·rw [bS] at ha; subst ha; omega
 ·rcases Int.le_total last (f x).Hi with q|q
  ·exact ⟨x,sm,I⟩
  ·rcases h.at_ with ⟨rfl,e⟩|⟨a,ha,e⟩
   ·exact ⟨x,sm,I⟩
   ·exact ⟨a,List.mem_append_left _ ha,I⟩
theorem On (h0: -1≤(f x).Hi) (h:l9 f p G last) (hl:last<(f x).Lo):l9 f (p++[x]) (G++[[x]]) (max last (f x).Hi):=by
 have A: ∀ y∈G,∀ a∈y,a∈p:=fun y hy a ha=>h.ok.perm.mem_iff.1 (List.mem_flatten.2 ⟨y,hy,ha⟩)
 refine ⟨⟨?_,fun y hy=>?_,?_,fun y hy=>?_⟩,(rm h0 h).1,(rm h0 h).2⟩
 ·rw [List.flatten_append]
  exact h.ok.perm.append sm
 ·rcases List.mem_append.1 hy with hy|hy
  ·exact h.ok.some_ y hy
  ·rw [bS] at hy; subst hy; simp
 ·rw [List.pairwise_append]
  refine ⟨h.ok.apart,List.pairwise_singleton _ _,fun y hy z hz a ha b hb=>?_⟩
  rw [bS] at hz; subst hz
  rw [bS] at hb; subst hb
  have:=h.P5 a (A y hy a ha); omega
 ·rcases List.mem_append.1 hy with hy|hy
  ·exact h.ok.tight y hy
  ·rw [bS] at hy; subst hy; exact HE
theorem Lf (h0: -1≤(f x).Hi) (hf: ∀ i∈p,(f i).Lo≤(f i).Hi) (hx: ∀ a∈p,(f a).Lo≤(f x).Lo) (h:l9 f p (G++[g]) last) (hl: ¬ last<(f x).Lo):l9 f (p++[x]) (G++[g++[x]]) (max last (f x).Hi):=by
 have A: ∀ y∈G++[g],∀ a∈y,a∈p:=fun y hy a ha=>h.ok.perm.mem_iff.1 (List.mem_flatten.2 ⟨y,hy,ha⟩)
 have C:=List.pairwise_append.1 h.ok.apart
 have B:=h.ok.some_ g sm
 refine ⟨⟨?_,fun y hy=>?_,?_,fun y hy=>?_⟩,(rm h0 h).1,(rm h0 h).2⟩
 ·have:=h.ok.perm
  rw [List.flatten_append] at this ⊢
  simp only [List.flatten_cons,List.flatten_nil,List.append_nil] at this ⊢
  rw [← List.append_assoc]
  exact this.append_right _
 ·rcases List.mem_append.1 hy with hy|hy
  ·exact h.ok.some_ y (List.mem_append_left _ hy)
  ·rw [bS] at hy; subst hy; simp
 ·rw [List.pairwise_append]
  refine ⟨C.1,List.pairwise_singleton _ _,fun y hy z hz a ha b hb=>?_⟩
  rw [bS] at hz; subst hz
  rcases List.mem_append.1 hb with hb|hb
  ·exact C.2.2 y hy g sm a ha b hb
  ·rw [bS] at hb; subst hb
   obtain ⟨c,hc⟩:=List.exists_mem_of_ne_nil _ B
   have K:=C.2.2 y hy g sm a ha c hc
   have H:=hx c (A g sm c hc)
   omega
 ·rcases List.mem_append.1 hy with hy|hy
  ·exact h.ok.tight y (List.mem_append_left _ hy)
  ·rw [bS] at hy; subst hy
   rintro t ⟨a,ha,K⟩ ⟨b,hb,H⟩
   by_cases D: ∃ b∈g,t≤(f b).Lo
   ·obtain ⟨b',hb',L⟩:=D
    have AA:a∈g:=by
     rcases List.mem_append.1 ha with q|q
     ·exact q
     ·rw [bS] at q; subst q
      have:=hx b' (A g sm b' hb'); omega
    obtain ⟨c,hc,M⟩:=h.ok.tight g sm t ⟨a,AA,K⟩ ⟨b',hb',L⟩
    exact ⟨c,List.mem_append_left _ hc,M⟩
   ·have J: ∀ c∈g,(f c).Lo<t:=fun c hc=>by
     refine Classical.byContradiction fun q=>D ⟨c,hc,I⟩
    have N:t≤(f x).Lo:=by
     rcases List.mem_append.1 hb with q|q
     ·exact absurd ⟨b,q,H⟩ D
     ·rw [bS] at q; subst q; exact H
    rcases h.at_ with ⟨e,_⟩|⟨c,hc,e⟩
    ·exfalso
     obtain ⟨c,hc⟩:=List.exists_mem_of_ne_nil _ B
     have:=A g sm c hc
     rw [e] at this; cases this
    ·have E:c∈g:=by
      obtain ⟨y,hy,F⟩:=List.mem_flatten.1 (h.ok.perm.mem_iff.2 hc)
      rcases List.mem_append.1 hy with hy|hy
      ·exfalso
       obtain ⟨d,hd⟩:=List.exists_mem_of_ne_nil _ B
       have L:=C.2.2 y hy g sm c F d hd
       have M:=hf d (A g sm d hd)
       have O:=h.P5 d (A g sm d hd)
       omega
      ·rw [bS] at hy; subst hy; exact F
     exact ⟨c,List.mem_append_left _ E,J c E,I⟩
theorem K1 (h:l9 f p G last) (hp:p≠[]):G≠[]:=fun e=>by
 subst e
 exact hp (by simpa using h.ok.perm.symm.eq_nil)
end
end
section
open Go.RowKit
/-- a map, or nil -/
def oC (o:Option Nat):List Value:=[Value.map o]
theorem Ay {α:Type}: ∀ {ms:List α} {asl:List Nat},ms.length=asl.length→List.zipWith gD ms asl=(asl.map some).map oC
 |[],[],_=>rfl
 |[],_::_,h=>by simp at h
 |_::_,[],h=>by simp at h
 |x::ms,y::asl,h=>by simp only [List.zipWith_cons_cons,List.map_cons,Ay (ms:=ms) (asl:=asl) (by simpa using h)]; rfl
/-- what stands for all but one -/
def fp {M A:Type} (f:M→A→List aq) (ms:List M) (asl:List A) (k:Nat):List aq:=aV f (ms.take k) (asl.take k)++aV f (ms.drop (k+1)) (asl.drop (k+1))
theorem kT {M A:Type} {f:M→A→List aq}: ∀ {ms:List M} {asl:List A} {k:Nat} {m:M} {a:A},ms[k]? =some m→asl[k]? =some a→(aV f ms asl).Perm (f m a++fp f ms asl k)
 |[],_,k,m,a,h,_=>by simp at h
 |_::_,[],k,m,a,_,h=>by simp at h
 |x::ms,y::asl,0,m,a,h,h2=>by
  simp at h h2; subst h h2
  simp [fp,aV]
 |x::ms,y::asl,k+1,m,a,h,h2=>by
  have ih:=kT (f:=f) (ms:=ms) (asl:=asl) (k:=k) (by simpa using h) (by simpa using h2)
  show (f x y++aV f ms asl).Perm (f m a++fp f (x::ms) (y::asl) (k+1))
  have e:fp f (x::ms) (y::asl) (k+1)=f x y++fp f ms asl k:=by simp [fp,aV,List.append_assoc]
  rw [e]
  refine (ih.append_left (f x y)).trans ?_
  rw [← List.append_assoc,← List.append_assoc]
  exact List.perm_append_comm.append_right _
theorem G0 {M A:Type} {f:M→A→List aq} {ms:List M} {asl:List A} {k:Nat} {m':M}:fp f (ms.set k m') asl k=fp f ms asl k:=by
 unfold fp
 rw [List.take_set_of_le (Nat.le_refl k),List.drop_set_of_lt (Nat.lt_succ_self k)]
theorem kQ {S:BS} {w0 w:World} {C X Y:List aq} (hp:X.Perm Y) (h:St S w0 (bw X::C) w):St S w0 (bw Y::C) w:=by
 have A:St S w0 (X++C) w:=h.ib
 exact (A.perm (hp.append_right C)).tied
theorem St.out {M A:Type} {f:M→A→List aq} {S:BS} {w0 w:World} {C:List aq} {ms:List M} {asl:List A} {k:Nat} {m:M} {a:A} {X:aq} (hm:ms[k]? =some m) (ha:asl[k]? =some a) (hf:f m a=[X]) (h:St S w0 (bw (aV f ms asl)::C) w):St S w0 (X::bw (fp f ms asl k)::C) w:=by
 have B:=(kQ (kT hm ha) h).ib
 rw [hf] at B
 have D:St S w0 (fp f ms asl k++(X::C)) w:=B.perm (List.perm_middle (a:=X) (l₁:=fp f ms asl k) (l₂:=C)).symm
 exact D.tied.perm (List.Perm.swap _ _ _)
theorem St.back {M A:Type} {f:M→A→List aq} {S:BS} {w0 w:World} {C:List aq} {ms:List M} {asl:List A} {k:Nat} {m':M} {a:A} {X:aq} (hk:k<ms.length) (ha:asl[k]? =some a) (hf:f m' a=[X]) (h:St S w0 (X::bw (fp f ms asl k)::C) w):St S w0 (bw (aV f (ms.set k m') asl)::C) w:=by
 have B:St S w0 (bw (fp f ms asl k)::X::C) w:=h.perm (List.Perm.swap _ _ _)
 have D:=B.ib
 have E:St S w0 ((f m' a++fp f (ms.set k m') asl k)++C) w:=by
  rw [hf,G0]
  exact D.perm (List.perm_middle (a:=X) (l₁:=fp f ms asl k) (l₂:=C))
 exact kQ (kT (List.getElem?_set_self hk) ha).symm E.tied
section
variable {E:eY} {ops:Array Oper} {Q:cU} {rest:List Oper} {D:List Deferred} {L:List (Nat×Value)} {C C1:List aq}
variable {M A:Type} {f:M→A→List aq} {ms:List M} {asl:List A} {k:Nat} {m:M} {a:A} {X:aq}
theorem Gs {c:Code} (i:Nat) (hm:ms[k]? =some m) (ha:asl[k]? =some a) (hf:f m a=[X]) (hn:decide (i::(List.range C.length).filter fun k=>k != i).Nodup=true) (hC:kj C (i::(List.range C.length).filter fun k=>k != i)=bw (aV f ms asl)::C1)
 (h:WJ E c Q D L (X::bw (fp f ms asl k)::C1)):WJ E c Q D L C:=fun a w hf' hs=>h a w hf' (St.out hm ha hf (St.kj _ hn hC hs))
theorem Kt {K:Act→World→Prop} (i j:Nat) (hk:k<ms.length) (ha:asl[k]? =some a) (hf:f m a=[X]) (hn:decide (j::i::(List.range C.length).filter fun k=>k != i&&k != j).Nodup=true) (hC:kj C (j::i::(List.range C.length).filter fun k=>k != i&&k != j)=X::bw (fp f ms asl k)::C1)
 (h:KJ E K D L (bw (aV f (ms.set k m) asl)::C1)):KJ E K D L C:=fun a w hf' hs=>h a w hf' (St.back hk ha hf (St.kj _ hn hC hs))
end
end
section
open Go.RowKit
def l3 (l:List Int) (a:RA):List Value:=[vS a.1 l.length a.2]
def A_ (l:List Int) (a:RA):List aq:=[rd a.1 l.length 1 (l.map iC)]
def sG (l:List Int) (a:RA):List aq:=[own a.1 a.2 SO 1 (l.map iC)]
theorem mM: ∀ (m:List Int) (a:RA) (w:World),(∀ X∈sG m a,X.holds w)→ ∀ X∈A_ m a,X.holds w:=fun m a w h X hX=>by
 simp only [A_,bS] at hX
 subst hX
 have:=nN (h _ (List.mem_singleton.2 rfl))
 simpa using this
theorem Ls {l:List (List Int)} {bz:List RA}:(bw (aV sG l bz)).wr=true:=by
 show (aV sG l bz).all (·.wr)=true
 rw [eZ]
 intro X hX
 obtain ⟨k,m,a,_,_,h⟩:=jH hX
 simp only [sG,bS] at h
 subst h; rfl
theorem iy {ls:List (List Int)} {az:List RA} (h:az.length=ls.length):(List.zipWith l3 ls az).length=ls.length:=by simp [h]
theorem Nf (l:List (List Int)) (az:List RA): ∀ v∈(List.zipWith l3 l az).flatten,v.oneCell'=true:=by
 induction l generalizing az with
 |nil=>intro v hv; simp at hv
 |cons x l ih=>
  cases az with
  |nil=>intro v hv; simp at hv
  |cons a az=>
   intro v hv
   rw [List.zipWith_cons_cons,List.flatten_cons,kF] at hv
   rcases hv with hv|hv
   ·simp [l3] at hv; subst hv; rfl
   ·exact ih az v hv
section
variable {M A:Type} {f:M→A→List aq} {ms:List M} {asl:List A} {k:Nat} {m:M} {a:A} {X:aq}
theorem rT:fp f (ms.set k m) (asl.set k a) k=fp f ms asl k:=by
 unfold fp
 rw [List.take_set_of_le (Nat.le_refl k),List.drop_set_of_lt (Nat.lt_succ_self k),List.take_set_of_le (Nat.le_refl k),List.drop_set_of_lt (Nat.lt_succ_self k)]
theorem St.Ru {S:BS} {w0 w:World} {C:List aq} (hk:k<ms.length) (hk2:k<asl.length) (hf:f m a=[X]) (h:St S w0 (X::bw (fp f ms asl k)::C) w):St S w0 (bw (aV f (ms.set k m) (asl.set k a))::C) w:=by
 have A:St S w0 (bw (fp f ms asl k)::X::C) w:=h.perm (List.Perm.swap _ _ _)
 have B:=A.ib
 have D:St S w0 ((f m a++fp f (ms.set k m) (asl.set k a) k)++C) w:=by
  rw [hf,rT]
  exact B.perm (List.perm_middle (a:=X) (l₁:=fp f ms asl k) (l₂:=C))
 exact kQ (kT (List.getElem?_set_self hk) (List.getElem?_set_self hk2)).symm D.tied
theorem qG {β:Type} {c:M→A→β}:(List.zipWith c ms asl).set k (c m a)=List.zipWith c (ms.set k m) (asl.set k a):=by
 apply List.ext_getElem?
 intro j
 rw [List.getElem?_set]
 by_cases e:k=j
 ·subst e
  rw [if_pos rfl,List.length_zipWith,List.getElem?_zipWith,List.getElem?_set,List.getElem?_set,if_pos rfl,if_pos rfl]
  by_cases B:k<ms.length
  ·by_cases C:k<asl.length
   ·rw [if_pos I,if_pos B,if_pos C]
   ·rw [if_neg I,if_pos B,if_neg C]
  ·rw [if_neg I,if_neg B]
 ·rw [if_neg e,List.getElem?_zipWith,List.getElem?_zipWith,List.getElem?_set_ne e,List.getElem?_set_ne e]
variable {E:eY} {ops:Array Oper} {Q:cU} {rest:List Oper} {D:List Deferred} {L:List (Nat×Value)} {C C1:List aq}
abbrev Br (C:List aq) (i j:Nat):List Nat:=j::i::(List.range C.length).filter fun k=>k != i&&k != j
abbrev HG (C:List aq) (i:Nat):List Nat:=i::(List.range C.length).filter fun k=>k != i
theorem FQ (i j:Nat) (hk:k<ms.length) (hk2:k<asl.length) (hf:f m a=[X]) (hn:decide (Br C i j).Nodup=true) (hC:lV C (Br C i j)=some (X::bw (fp f ms asl k)::C1))
 (h:RJ E ops Q rest D L (bw (aV f (ms.set k m) (asl.set k a))::C1)):RJ E ops Q rest D L C:=fun a w hf' hs=>h a w hf' (St.Ru hk hk2 hf (St.kj _ hn (jB hC) hs))
theorem ES {c:Code} (i:Nat) (hm:ms[k]? =some m) (ha:asl[k]? =some a) (hf:f m a=[X]) (hn:decide (HG C i).Nodup=true) (hC:lV C (HG C i)=some (bw (aV f ms asl)::C1))
 (h:WJ E c Q D L (X::bw (fp f ms asl k)::C1)):WJ E c Q D L C:=fun a w hf' hs=>h a w hf' (St.out hm ha hf (St.kj _ hn (jB hC) hs))
theorem OK {K:Act→World→Prop} (i j:Nat) (hk:k<ms.length) (ha:asl[k]? =some a) (hf:f m a=[X]) (hn:decide (Br C i j).Nodup=true) (hC:lV C (Br C i j)=some (X::bw (fp f ms asl k)::C1))
 (h:KJ E K D L (bw (aV f (ms.set k m) asl)::C1)):KJ E K D L C:=fun a w hf' hs=>h a w hf' (St.back hk ha hf (St.kj _ hn (jB hC) hs))
theorem P3 {Y Y':List aq} (i j:Nat) (hn:decide (Br C i j).Nodup=true) (hC:lV C (Br C i j)=some (X::bw Y::C1)) (e:Y++[X]=Y') (h:RJ E ops Q rest D L (bw Y'::C1)):RJ E ops Q rest D L C:=fun a w hf hs=>h a w hf ((St.kj _ hn (jB hC) hs).tie e)
theorem IM {K:Act→World→Prop} {Y Y':List aq} (i j:Nat) (hn:decide (Br C i j).Nodup=true) (hC:lV C (Br C i j)=some (X::bw Y::C1)) (e:Y++[X]=Y') (h:KJ E K D L (bw Y'::C1)):KJ E K D L C:=fun a w hf hs=>h a w hf ((St.kj _ hn (jB hC) hs).tie e)
end
theorem E7 {M A:Type} {f:M→A→List aq} {ms:List M} {asl:List A} {m:M} {a:A} {X:aq} (h:ms.length=asl.length) (hf:f m a=[X]):aV f ms asl++[X]=aV f (ms++[m]) (asl++[a]):=by
 rw [jN h]; simp [aV,hf]
theorem HF {M A β:Type} {f:M→A→β} {ms:List M} {asl:List A} {m:M} {a:A} (h:ms.length=asl.length):List.zipWith f ms asl++List.zipWith f [m] [a]=List.zipWith f (ms++[m]) (asl++[a]):=(List.zipWith_append h).symm
theorem nz {r:bT} {k:Nat}:((eD r k).map (·.1)).Nodup:=by
 unfold eD
 rw [List.map_filterMap]
 refine List.Pairwise.filterMap _ ?_ (List.nodup_range (n:=r.aQ.length))
 intro a b A x hx y hy e
 subst e
 simp only [Option.map_map,Option.map_eq_some_iff,Function.comp] at hx hy
 obtain ⟨_,_,rfl⟩:=hx
 obtain ⟨_,_,h⟩:=hy
 exact A I
noncomputable def cd (r:bT):List (List Int):=if cK r=0 then Classical.epsilon (fun G=>gU (aA (aF r)) ((aF r).map (·.1)) G∧Ax G) else []
theorem Dh {r:bT} (h: ¬ cK r=0):cd r=[]:=if_neg h
theorem qt {r:bT} {G:List (List Int)} (he:cK r=0) (h1:gU (aA (aF r)) ((aF r).map (·.1)) G) (h2:Ax G):G=cd r:=by
 unfold cd
 rw [if_pos he]
 have A:=Classical.epsilon_spec (p:=fun G=>gU (aA (aF r)) ((aF r).map (·.1)) G∧Ax G) ⟨G,h1,h2⟩
 exact rN nz (fun i hi=>(gM (nt he)).2.1) h1 A.1 h2 A.2
section
variable {f:Int→aa} {L:List Int} {G:List (List Int)} {g:List Int} {x last:Int} {i j:Nat}
theorem zV (h:l9 f (L.take i) G last) (hg:g∈G):g.length≤L.length:=by
 have A:=h.ok.perm.length_eq
 have B:g.length≤G.flatten.length:=(List.sublist_flatten_of_mem hg).length_le
 rw [List.length_take] at A; omega
theorem F8 (h:l9 f (L.take i) G last):G.length≤L.length:=by
 have A:=h.ok.perm.length_eq
 have B: ∀ G:List (List Int),(∀ g∈G,g≠[])→G.length≤G.flatten.length:=fun G=>by
  induction G with
  |nil=>intro _; simp
  |cons g G ih=>
   intro hG
   have C:=ih fun y hy=>hG y (cR _ hy)
   have D:=List.length_pos_iff.2 (hG g cb)
   simp only [List.flatten_cons,List.length_cons,List.length_append]; omega
 have C:=B G h.ok.some_
 rw [List.length_take] at A; omega
theorem pI (h0: -1≤(f x).Hi) (hx:L[i]? =some x) (hg:(G++[[]])[(G++[([]:List Int)]).length-1]? =some g) (h:l9 f (L.take i) G last) (hl:last<(f x).Lo):l9 f (L.take (i+1)) ((G++[[]]).set ((G++[([]:List Int)]).length-1) (g++[x])) (max last (f x).Hi):=by
 have A:(G++[([]:List Int)]).length-1=G.length:=by simp
 rw [A] at hg ⊢
 simp at hg
 subst hg
 rw [j0 hx]
 have B:(G++[([]:List Int)]).set G.length ([]++[x])=G++[[x]]:=by simp
 rw [B]
 exact On h0 h hl
theorem oD (h0: -1≤(f x).Hi) (hf: ∀ i∈L,(f i).Lo≤(f i).Hi) (hup:Et (fun u=>(f u).Lo) L) (hx:L[i]? =some x) (hg:G[G.length-1]? =some g) (h:l9 f (L.take i) G last) (hl: ¬ last<(f x).Lo):l9 f (L.take (i+1)) (G.set (G.length-1) (g++[x])) (max last (f x).Hi):=by
 obtain ⟨A,F⟩:=List.getElem?_eq_some_iff.1 hg
 obtain ⟨G',y,rfl⟩: ∃ G' y,G=G'++[y]:=⟨G.dropLast,G.getLast (by intro e; subst e; simp at A),(List.dropLast_concat_getLast _).symm⟩
 have D:(G'++[y]).length-1=G'.length:=by simp
 simp only [D] at hg ⊢
 simp at hg
 subst hg
 have E:(G'++[y]).set G'.length (y++[x])=G'++[y++[x]]:=by simp
 rw [j0 hx,E]
 refine Lf h0 (fun i hi=>hf i (List.mem_of_mem_take hi)) (fun a ha=>?_) h hl
 obtain ⟨C,B⟩:=List.getElem?_eq_some_iff.1 hx
 obtain ⟨q,hq,rfl⟩:=List.mem_iff_getElem.1 ha
 rw [List.length_take] at hq
 rw [List.getElem_take]
 have:=List.pairwise_iff_getElem.1 hup q i I C I
 rw [B] at this
 exact this
theorem Fe (hlo:0≤(f x).Lo) (h:l9 f (L.take i) G last) (hl: ¬ last<(f x).Lo):1≤G.length:=by
 rcases h.at_ with ⟨_,e⟩|⟨a,ha,_⟩
 ·omega
 ·exact List.length_pos_iff.2 (K1 h (fun e=>by rw [e] at ha; cases ha))
/-- the first groups are in order -/
def nj (G:List (List Int)) (j:Nat):List (List Int):=(G.take j).map df++G.drop j
theorem DA (h:G.length≤j):nj G j=G.map df:=by unfold nj; rw [List.take_of_length_le h,List.drop_eq_nil_of_le h,List.append_nil]
theorem Ed:(nj G j).length=G.length:=by unfold nj; rw [List.length_append,List.length_map,List.length_take,List.length_drop]; omega
theorem HU (h:G[j]? =some g):(nj G j)[j]? =some g:=by
 have hj:=(List.getElem?_eq_some_iff.1 h).1
 unfold nj
 rw [List.getElem?_append_right (by rw [List.length_map,List.length_take]; omega),List.length_map,List.length_take,Nat.min_eq_left I,Nat.sub_self,List.getElem?_drop]
 simpa using h
theorem DI (h:G[j]? =some g):(nj G j).set j (df g)=nj G (j+1):=by
 have hj:=(List.getElem?_eq_some_iff.1 h).1
 unfold nj
 rw [List.set_append_right _ _ (by rw [List.length_map,List.length_take]; omega),List.length_map,List.length_take,Nat.min_eq_left I,Nat.sub_self,List.drop_eq_getElem_cons hj,List.set_cons_zero,List.take_add_one,h]
 simp
theorem Jz {gz:List RA}:List.zipWith l3 (G.map df) gz=List.zipWith l3 G gz:=by
 induction G generalizing gz with
 |nil=>rfl
 |cons g G ih=>
  cases gz with
  |nil=>rfl
  |cons a gz=>simp only [List.map_cons,List.zipWith_cons_cons,ih]; simp [l3]
end
end
section
open Go.RowKit
theorem Dx (l:List ar) (az:List RA): ∀ v∈(List.zipWith ar.cells l az).flatten,v.oneCell'=true:=by
 induction l generalizing az with
 |nil=>intro v hv; simp at hv
 |cons x l ih=>
  cases az with
  |nil=>intro v hv; simp at hv
  |cons a az=>
   intro v hv
   rw [List.zipWith_cons_cons,List.flatten_cons,kF] at hv
   rcases hv with hv|hv
   ·simp [ar.cells,dp.cells] at hv
    rcases hv with rfl|rfl<;>rfl
   ·exact ih az v hv
theorem g7 {l:List ar} {az:List RA} (h:az.length=l.length):(List.zipWith ar.cells l az).length=l.length:=by simp [h]
theorem gn {l:List ar} {bz:List RA}:(bw (aV ar.owns l bz)).wr=true:=by
 show (aV ar.owns l bz).all (·.wr)=true
 rw [eZ]
 intro X hX
 obtain ⟨k,m,a,_,_,h⟩:=jH hX
 simp only [ar.owns,bS] at h
 subst h; rfl
/-- what is known of new rows -/
def rM (l:List ar) (bz:List RA):Prop:= ∀ (k:Nat) m (a:RA),l[k]? =some m→bz[k]? =some a→m.bo.length≤a.2
theorem Mg {l:List ar} {bz:List RA} {i:Nat} {x:ar} {nw:RA} (h:rM l bz) (hb:bz.length=i) (hx:l[i]? =some x) (hc:x.bo.length≤nw.2):rM l (bz++[nw]):=fun k m a hm ha=>by
 by_cases e:k<bz.length
 ·rw [List.getElem?_append_left e] at ha
  exact h k m a hm ha
 ·rw [List.getElem?_append_right I] at ha
  have hk:k-bz.length=0:=by
   rcases Nat.eq_zero_or_pos (k-bz.length) with A|A
   ·exact A
   ·rw [List.getElem?_eq_none (by simp; omega)] at ha; cases ha
  rw [hk] at ha
  simp at ha
  have:k=i:=by omega
  subst this
  rw [hx] at hm; cases hm
  subst ha; exact hc
theorem iT: ∀ (m:ar) (a:RA) (w:World),(∀ X∈ar.owns m a,X.holds w)→ ∀ X∈ar.g0 m a,X.holds w:=fun m a w h X hX=>by
 simp only [ar.g0,bS] at hX
 subst hX
 have:=nN (h _ (List.mem_singleton.2 rfl))
 simpa using this
theorem ep.Qp {l:a_} {az bz:List RA} (h:ep l az) (hb:bz.length=l.ak.length) (hc:rM l.ak bz):ep l bz:=⟨h.sJ,h.side,h.sI,hb,h.sE,fun k m a hm ha=>⟨hc k m a hm ha,by
 obtain ⟨A,B⟩: ∃ A,az[k]? =some A:=⟨az[k]'(by rw [h.oF]; exact (List.getElem?_eq_some_iff.1 hm).1),eC _⟩
 exact (h.Rb k m A hm B).2⟩⟩
section
variable {E:eY} {ops:Array Oper} {Q:cU} {rest:List Oper} {D:List Deferred} {L:List (Nat×Value)} {C:List aq}
end
end
section
open Go.RowKit
def oz (m:ax) (a:RA):List aq:=[own a.1 a.2 Pr 2 (m.cr.ag.map aK.cells)]
def je (m:List ax) (a:cO):List aq:=own a.1.1 a.1.2 CA 7 (List.zipWith ax.cells m a.2)::aV oz m a.2
theorem PS: ∀ (m:ax) (a:RA) (w:World),(∀ X∈oz m a,X.holds w)→ ∀ X∈ax.g0 m a,X.holds w:=fun m a w h X hX=>by
 simp only [ax.g0,bS] at hX
 subst hX
 have:=nN (h _ (List.mem_singleton.2 rfl))
 simpa using this
theorem qC {m:List ax} {asl:List RA} (h:asl.length=m.length):(List.zipWith ax.cells m asl).length=m.length:=by simp [h]
theorem fh {m:List (List ax)} {asl:List cO} (h:asl.length=m.length):(List.zipWith cP m asl).length=m.length:=by simp [h]
theorem Ny {m:List ax} {asl:List RA}:(aV oz m asl).all (·.wr)=true:=by
 rw [eZ]
 intro X hX
 obtain ⟨k,d,a,_,_,h⟩:=jH hX
 simp only [oz,bS] at h
 subst h; rfl
theorem kp {m:List (List ax)} {asl:List cO}:(bw (aV je m asl)).wr=true:=by
 show (aV je m asl).all (·.wr)=true
 rw [eZ]
 intro X hX
 obtain ⟨k,d,a,_,_,h⟩:=jH hX
 rcases List.mem_cons.1 h with rfl|h
 ·rfl
 ·exact List.all_eq_true.1 Ny X h
theorem NV (l:List ax) (az:List RA): ∀ v∈(List.zipWith ax.cells l az).flatten,v.oneCell'=true:=by
 induction l generalizing az with
 |nil=>intro v hv; simp at hv
 |cons x l ih=>
  cases az with
  |nil=>intro v hv; simp at hv
  |cons a az=>
   intro v hv
   rw [List.zipWith_cons_cons,List.flatten_cons,kF] at hv
   rcases hv with hv|hv
   ·simp [ax.cells,bk.cells,eB.cells,aa.cells] at hv
    rcases hv with rfl|rfl|rfl|rfl|rfl|rfl|rfl<;>rfl
   ·exact ih az v hv
theorem GW (l:List (List ax)) (az:List cO): ∀ v∈(List.zipWith cP l az).flatten,v.oneCell'=true:=by
 induction l generalizing az with
 |nil=>intro v hv; simp at hv
 |cons x l ih=>
  cases az with
  |nil=>intro v hv; simp at hv
  |cons a az=>
   intro v hv
   rw [List.zipWith_cons_cons,List.flatten_cons,kF] at hv
   rcases hv with hv|hv
   ·simp [cP] at hv; subst hv; rfl
   ·exact ih az v hv
/-- every heat has as many places as descents -/
def sP (H:List (List ax)) (hz:List cO):Prop:=hz.length=H.length∧ ∀ (k:Nat) h (a:cO),H[k]? =some h→hz[k]? =some a→a.2.length=h.length
theorem M_ {a:OA} {c e sz n:Nat} {es:List (List Value)} {w:World} (h:(own a c e sz es).holds w) (hn:es.length=n):(rd a n sz es).holds w:=by subst hn; exact nN h
theorem hE {C:List aq} {H:List (List ax)} {hz:List cO} (i:Nat) (hC:C[i]? =some (bw (aV je H hz))) (hh:sP H hz):il C (eX (aV ir H hz)).holds:=fun w hw X hX=>by
 have hb:=hw _ (aR hC)
 obtain ⟨k,m,a,A,B,D⟩:=jH hX
 rcases List.mem_cons.1 D with rfl|D
 ·exact M_ (hb.1 _ (bM A B cb)) (qC (hh.2 k m a A B))
 ·obtain ⟨q,d,b,E,F,G⟩:=jH D
  exact PS d b w (fun Y hY=>hb.1 Y (bM A B (cR _ (bM E F hY)))) X G
section
variable {α:Type}
def kv (bz az:List α) (i:Nat):List α:=bz++az.drop i
variable {bz az:List α} {i:Nat} {a b:α}
theorem iw (hb:bz.length=i) (hi:i≤az.length):(kv bz az i).length=az.length:=by simp [kv,hb]; omega
theorem xH (h:az.length≤i):kv bz az i=bz:=by unfold kv; rw [List.drop_eq_nil_of_le h,List.append_nil]
theorem z9 (hb:bz.length=i) (h:az[i]? =some a):(kv bz az i)[i]? =some a:=by
 unfold kv
 rw [List.getElem?_append_right I,hb,Nat.sub_self,List.getElem?_drop]
 simpa using h
theorem Jr (hb:bz.length=i):(kv (bz++[b]) az (i+1))[i]? =some b:=by
 unfold kv
 rw [List.getElem?_append_left (by simp; omega),List.getElem?_append_right I,hb,Nat.sub_self]; rfl
theorem Ja (hb:bz.length=i) (h:az[i]? =some a):(kv bz az i).set i b=kv (bz++[b]) az (i+1):=by
 unfold kv
 have hi:=(List.getElem?_eq_some_iff.1 h).1
 rw [List.set_append_right _ _ I,hb,Nat.sub_self,List.drop_eq_getElem_cons hi,List.set_cons_zero]
 simp
theorem x_ {M β:Type} {c:M→α→β} {l:List M} {x:M} (hx:l[i]? =some x) (hb:bz.length=i) (h:az[i]? =some a):(List.zipWith c l (kv bz az i)).set i (c x b)=List.zipWith c l (kv (bz++[b]) az (i+1)):=by
 rw [qG,Ja hb h]
 congr 1
 obtain ⟨hi,rfl⟩:=List.getElem?_eq_some_iff.1 hx
 exact List.set_getElem_self hi
theorem rX {M:Type} {f:M→α→List aq} {l:List M} {x:M} (hx:l[i]? =some x) (hb:bz.length=i):aV f (l.take i) bz++f x b=aV f (l.take (i+1)) (bz++[b]):=by
 have hi:=(List.getElem?_eq_some_iff.1 hx).1
 rw [List.take_add_one,hx,Option.toList_some,jN (by rw [List.length_take,hb]; omega)]
 simp [aV]
end
theorem Dc: ∀ {l:List (List ax)} {u v:List cO},u.map (·.1)=v.map (·.1)→List.zipWith cP l u=List.zipWith cP l v
 |[],u,v,_=>by simp
 |x::l,[],[],_=>rfl
 |x::l,[],b::v,h=>by simp at h
 |x::l,a::u,[],h=>by simp at h
 |x::l,a::u,b::v,h=>by
  simp only [List.map_cons,List.cons.injEq] at h
  rw [List.zipWith_cons_cons,List.zipWith_cons_cons,Dc h.2]
  have e:cP x a=cP x b:=by simp only [cP,h.1]
  rw [e]
theorem Ks {l:List (List ax)} {hz ha:List cO} {p:RA} {x y:List RA} {i:Nat}:List.zipWith cP l (kv (hz++[(p,x)]) ha i)=List.zipWith cP l (kv (hz++[(p,y)]) ha i):=Dc (by simp [kv])
theorem N6 {H:List (List ax)} {hz:List cO} {i:Nat} {x:List ax} {b:cO} (hx:H[i]? =some x) (h: ∀ (k:Nat) y (a:cO),H[k]? =some y→hz[k]? =some a→a.2.length=y.length) (hb:hz.length=i) (hl:b.2.length=x.length): ∀ (k:Nat) y (a:cO),H[k]? =some y→(hz++[b])[k]? =some a→a.2.length=y.length:=fun k y a hy ha=>by
 by_cases e:k<hz.length
 ·rw [List.getElem?_append_left e] at ha
  exact h k y a hy ha
 ·rw [List.getElem?_append_right I] at ha
  have hk:k-hz.length=0:=by
   rcases Nat.eq_zero_or_pos (k-hz.length) with A|A
   ·exact A
   ·rw [List.getElem?_eq_none (by simp; omega)] at ha; cases ha
  rw [hk] at ha
  simp at ha
  have:k=i:=by omega
  subst this
  rw [hx] at hy; cases hy
  subst ha; exact hl
theorem F0 {S:BS} {w0 w:World} {C:List aq} {A:aq} {Y Z:List aq} (h:St S w0 (A::bw Y::bw Z::C) w):St S w0 (bw (Z++A::Y)::C) w:=by
 have D:St S w0 (bw Y::A::bw Z::C) w:=h.perm (List.Perm.swap _ _ _)
 have E:St S w0 (Y++(A::bw Z::C)) w:=D.ib
 have F:St S w0 (bw Z::(A::Y)++C) w:=E.perm (by
  have B:(Y++(A::bw Z::C)).Perm ((A::bw Z::C)++Y):=List.perm_append_comm
  refine B.trans ?_
  show (A::bw Z::(C++Y)).Perm (bw Z::A::(Y++C))
  exact (List.Perm.swap _ _ _).trans (((List.perm_append_comm (l₁:=C) (l₂:=Y)).cons A).cons _))
 have G:St S w0 (Z++((A::Y)++C)) w:=F.ib
 have H:St S w0 ((Z++A::Y)++C) w:=by simpa using G
 exact H.tied
theorem Hd {S:BS} {w0 w:World} {C:List aq} {A:aq} {Y Z:List aq} (h:St S w0 (bw (A::Y++Z)::C) w):St S w0 (A::bw Y::bw Z::C) w:=by
 have D:St S w0 ((A::Y++Z)++C) w:=h.ib
 have E:St S w0 (Z++(A::(Y++C))) w:=D.perm (by
  show (A::(Y++Z)++C).Perm (Z++(A::(Y++C)))
  have B:(A::(Y++Z)++C).Perm (A::(Z++(Y++C))):=by
   show (A::((Y++Z)++C)).Perm _
   refine List.Perm.cons A ?_
   rw [← List.append_assoc]
   exact List.perm_append_comm.append_right C
  exact B.trans (List.perm_middle (a:=A) (l₁:=Z) (l₂:=Y++C)).symm)
 have F:=E.tied
 have G:St S w0 (Y++(A::bw Z::C)) w:=F.perm (by
  show (bw Z::A::(Y++C)).Perm (Y++(A::bw Z::C))
  have B:(Y++(A::bw Z::C)).Perm (A::bw Z::(Y++C)):=by
   have:=List.perm_append_comm (l₁:=Y) (l₂:=A::bw Z::C)
   refine this.trans ?_
   show (A::bw Z::(C++Y)).Perm _
   exact (List.perm_append_comm.cons _).cons _
  exact (B.trans (List.Perm.swap _ _ _)).symm)
 have H:=G.tied
 exact H.perm (List.Perm.swap _ _ _)
theorem wL {H:List (List ax)} {hz:List cO} {k:Nat} {h:List ax} {a:cO} (hh:H[k]? =some h) (ha:hz[k]? =some a):(aV je H hz).Perm (own a.1.1 a.1.2 CA 7 (List.zipWith ax.cells h a.2)::aV oz h a.2++fp je H hz k):=kT hh ha
theorem QM {E:eY} {K:Act→World→Prop} {D:List Deferred} {L:List (Nat×Value)} {C:List aq} {a:OA} {c e sz:Nat} {es:List (List Value)} (i:Nat) (hC:C[i]? =some (own a c e sz es)) (k:es.length≤c→KJ E K D L C):KJ E K D L C:=fun act w hf hs=>k (F_ (hs.holds _ (aR hC))) act w hf hs
abbrev M8 (C:List aq) (i j k:Nat):List Nat:=k::j::i::(List.range C.length).filter fun q=>q != i&&q != j&&q != k
section
variable {E:eY} {ops:Array Oper} {Q:cU} {rest:List Oper} {D:List Deferred} {L:List (Nat×Value)} {C C1:List aq} {K:Act→World→Prop}
variable {H:List (List ax)} {hz:List cO} {h h':List ax} {a a':cO} {k:Nat} {X:aq} {Y Z Z':List aq}
/-- i: the others, j: what hangs on the row, q: the row -/
theorem Qo (i j q:Nat) (hn:decide (M8 C i j q).Nodup=true) (hC:lV C (M8 C i j q)=some (X::bw Y::bw Z::C1)) (e:Z++X::Y=Z') (hk:KJ E K D L (bw Z'::C1)):KJ E K D L C:=fun a w hf hs=>by
 subst e; exact hk a w hf (F0 (St.kj _ hn (jB hC) hs))
theorem Qn {c:Code} (i:Nat) (hh:H[k]? =some h) (ha:hz[k]? =some a) (hn:decide (HG C i).Nodup=true) (hC:lV C (HG C i)=some (bw (aV je H hz)::C1))
 (hk:WJ E c Q D L (own a.1.1 a.1.2 CA 7 (List.zipWith ax.cells h a.2)::bw (aV oz h a.2)::bw (fp je H hz k)::C1)):WJ E c Q D L C:=fun act w hf hs=>
 hk act w hf (Hd (kQ (wL hh ha) (St.kj _ hn (jB hC) hs)))
theorem Jj {S:BS} {w0 w:World} (hk:k<H.length) (hk2:k<hz.length) (hs:St S w0 (own a'.1.1 a'.1.2 CA 7 (List.zipWith ax.cells h' a'.2)::bw (aV oz h' a'.2)::bw (fp je H hz k)::C) w):St S w0 (bw (aV je (H.set k h') (hz.set k a'))::C) w:=by
 have B:=F0 hs
 refine kQ ?_ B
 have A:=wL (H:=H.set k h') (hz:=hz.set k a') (List.getElem?_set_self hk) (List.getElem?_set_self hk2)
 rw [rT] at A
 exact (List.perm_append_comm).trans A.symm
end
theorem G1 {H:List (List ax)} {hz:List cO} {k:Nat} {h h':List ax} {a:cO} {bs:List RA} (hh:H[k]? =some h) (ha:hz[k]? =some a) (hl:h'.length=h.length):List.zipWith cP (H.set k h') (hz.set k (a.1,bs))=List.zipWith cP H hz:=by
 rw [← qG]
 have e:cP h' (a.1,bs)=cP h a:=by simp only [cP,hl]
 rw [e]
 have hz':=dA (f:=cP) hh ha
 obtain ⟨hi,A⟩:=List.getElem?_eq_some_iff.1 hz'
 rw [← A]
 exact List.set_getElem_self hi
theorem Nr {S:BS} {w0 w:World} {C:List aq} {h:List ax} {bs:List RA} {i:Nat} {d:ax} {b:RA} {d':ax} (hd:h[i]? =some d) (hb:bs[i]? =some b) (hs':d'.cr.ag=[]) (hs:St S w0 (bw (aV oz h bs)::C) w):St S w0 (bw (aV oz (h.set i d') (bs.set i (none,0)))::C) w:=by
 have A:=(kQ (kT hd hb) hs).ib
 have B:St S w0 (fp oz h bs i++C) w:=St.take (by simpa using A) (List.sublist_append_right (oz d b) (fp oz h bs i++C))
 have D:=B.qU Pr 2
 have E:St S w0 ((oz d' (none,0)++fp oz (h.set i d') (bs.set i (none,0)) i)++C) w:=by
  rw [rT]
  simpa [oz,hs'] using D
 exact kQ (kT (List.getElem?_set_self (List.getElem?_eq_some_iff.1 hd).1) (List.getElem?_set_self (List.getElem?_eq_some_iff.1 hb).1)).symm E.tied
theorem e7.Qp {r:bT} {az bz:List RA} {ha hz:List cO} (h:e7 r az ha) (hb:bz.length=r.ao.ak.length) (hc:rM r.ao.ak bz) (hh:sP r.ay hz):e7 r bz hz:=⟨h.line.Qp hb hc,h.iN,h.draw,h.iO,hh.1,fun k x a hx ha'=>by
 obtain ⟨A,C⟩: ∃ A,ha[k]? =some A:=⟨ha[k]'(by rw [h.has]; exact (List.getElem?_eq_some_iff.1 hx).1),eC _⟩
 have B:=h.oM k x A hx C
 exact ⟨B.len,hh.2 k x a hx ha',B.sig⟩⟩
end
section
open Go.RowKit
def kJ (t:aa):ax:=⟨false,true,t,⟨0,0,[]⟩⟩
def gO (H:List (List ax)) (h i:Int) (t:aa):List (List ax):=H.set h.toNat ((H[h.toNat]?.getD []).set i.toNat (kJ t))
def jx (r:bT) (h i:Int) (t:aa):bT:=⟨r.ao,r.aQ,r.bQ,r.iK,gO r.ay h i t⟩
@[simp] theorem Q_ {r:bT} {h i:Int} {t:aa}:(jx r h i t).ao=r.ao:=rfl
@[simp] theorem QG {r:bT} {h i:Int} {t:aa}:(jx r h i t).aQ=r.aQ:=rfl
@[simp] theorem Q9 {r:bT} {h i:Int} {t:aa}:(jx r h i t).bQ=r.bQ:=rfl
theorem x4 {m:gY} {i:Int} {s:aa}:(c_ m i s).length≤m.length:=by
 unfold c_
 refine Nat.le_trans (List.length_filter_le _ _) ?_
 rw [List.length_map,List.length_range]; exact Nat.le_refl _
noncomputable def qf (r:bT) (h i:Int) (t:aa):Int:=if ((0≤h∧h≤(r.ay.length:Int)-1)∧rz r i)∧iL t then (if ((r.ay[h.toNat]?).bind (·[i.toNat]?)).any (·.Out)=true then 8 else 0) else 2
noncomputable def gI (r:bT) (h i:Int) (t:aa):Int:=if cK r=0 then qf r h i t else cK r
noncomputable def eO (r:bT) (h i:Int) (t:aa):List Int:=if gI r h i t=0 then (df ((aF r).map (·.1))).filter (fun k=> !decide (c_ (aF r) k (aA (aF r) k)=c_ (aF (jx r h i t)) k (aA (aF (jx r h i t)) k))) else []
section
variable {r:bT} {h i:Int} {t:aa} {ht:List ax} {d:ax}
theorem vY {H:List (List ax)} (hh:H[h.toNat]? =some ht):gO H h i t=H.set h.toNat (ht.set i.toNat (kJ t)):=by unfold gO; rw [hh]; rfl
theorem iU {H:List (List ax)}:(gO H h i t).length=H.length:=by unfold gO; rw [List.length_set]
theorem mD (q: ¬ (((0≤h∧h≤(r.ay.length:Int)-1)∧0≤i∧i≤(r.aQ.length:Int)-1)∧iL t)):qf r h i t=2:=if_neg q
theorem Fi (q:((0≤h∧h≤(r.ay.length:Int)-1)∧0≤i∧i≤(r.aQ.length:Int)-1)∧iL t) (h1:r.ay[h.toNat]? =some ht) (h2:ht[i.toNat]? =some d):qf r h i t=if d.Out=true then 8 else 0:=by
 unfold qf
 rw [if_pos (show ((0≤h∧h≤(r.ay.length:Int)-1)∧rz r i)∧iL t from q),h1,Option.bind_some,h2,Option.any_some]
theorem sU (q:((0≤h∧h≤(r.ay.length:Int)-1)∧0≤i∧i≤(r.aQ.length:Int)-1)∧iL t) (h1:r.ay[h.toNat]? =some ht) (h2:ht[i.toNat]? =some d) (ho:d.Out=true):qf r h i t=8:=by rw [Fi q h1 h2,if_pos ho]
theorem Nx (q:((0≤h∧h≤(r.ay.length:Int)-1)∧0≤i∧i≤(r.aQ.length:Int)-1)∧iL t) (h1:r.ay[h.toNat]? =some ht) (h2:ht[i.toNat]? =some d) (ho:d.Out=false):qf r h i t=0:=by rw [Fi q h1 h2,if_neg (by rw [ho]; decide)]
/-- what it means that there is no error -/
theorem zp (e:qf r h i t=0):((0≤h∧h≤(r.ay.length:Int)-1)∧rz r i)∧iL t∧((r.ay[h.toNat]?).bind (·[i.toNat]?)).any (·.Out)=false:=by
 unfold qf at e
 split at e
 ·rename_i q
  split at e
  ·cases e
  ·rename_i A; exact ⟨q.1,q.2,by simpa using A⟩
 ·cases e
theorem Df (e:gI r h i t=0):cK r=0∧qf r h i t=0:=by
 unfold gI at e
 split at e
 ·exact ⟨asm,e⟩
 ·exact absurd e asm
theorem rW (e: ¬ cK r=0):gI r h i t=cK r:=if_neg e
theorem oQ (e:cK r=0):gI r h i t=qf r h i t:=if_pos e
theorem CV {H:List (List ax)} {k:Nat} {y:List ax} (hy:(gO H h i t)[k]? =some y): ∃ x,H[k]? =some x∧y.length=x.length∧ ∀ d∈y,d∈x∨d=kJ t:=by
 unfold gO at hy
 rw [List.getElem?_set] at hy
 split at hy
 ·rename_i e
  split at hy
  ·rename_i hl
   have A:H[h.toNat]? =some H[h.toNat]:=eC hl
   rw [A] at hy
   simp only [Option.getD_some,Option.some.injEq] at hy
   subst hy
   refine ⟨H[h.toNat],by rw [← e]; exact A,by rw [List.length_set],fun d hd=>?_⟩
   exact List.mem_or_eq_of_mem_set hd
  ·cases hy
 ·exact ⟨y,hy,U,fun d hd=> .inl hd⟩
theorem DQ (hr:eP r) (ht:iL t):eP (jx r h i t):=⟨hr.num,hr.x7,by
 have:=hr.nh
 show 1≤((gO r.ay h i t).length:Int)∧((gO r.ay h i t).length:Int)≤3
 rw [iU]; exact this,hr.ids,hr.draw,fun y hy=>by
 obtain ⟨k,hk⟩:=List.mem_iff_getElem?.1 hy
 obtain ⟨x,hx,hl,hm⟩:=CV hk
 have A:=hr.oM x (aR hx)
 refine ⟨hl.trans A.1,fun d hd=>?_⟩
 rcases hm d hd with q|rfl
 ·exact A.2 d q
 ·unfold hU
  rw [if_neg (by simp [kJ]),if_pos (by rfl)]
  exact ⟨ht,by simp [my,kJ]⟩⟩
theorem yI (e:gI r h i t=0):cK (jx r h i t)=0:=by
 obtain ⟨A,B⟩:=Df e
 obtain ⟨C,D⟩:=iI A
 unfold cK
 rw [if_pos (show dq (jx r h i t).ao=0 from C),if_pos (DQ D (zp B).2.1)]
theorem e7.rep {az bz:List RA} {ha hz:List cO} (hin:e7 r az ha) (hb:bz.length=r.ao.ak.length) (hc:rM r.ao.ak bz) (hh:sP (gO r.ay h i t) hz):e7 (jx r h i t) bz hz:=⟨hin.line.Qp hb hc,hin.iN,hin.draw,by
 show (gO r.ay h i t).length≤1000000
 rw [iU]; exact hin.iO,hh.1,fun k y a hy ha'=>by
 obtain ⟨x,hx,hl,hm⟩:=CV hy
 obtain ⟨b,hb⟩: ∃ b,ha[k]? =some b:=⟨ha[k]'(by rw [hin.has]; exact (List.getElem?_eq_some_iff.1 hx).1),eC _⟩
 have A:=hin.oM k x b hx hb
 refine ⟨by rw [hl]; exact A.len,hh.2 k y a hy ha',fun d hd=>?_⟩
 rcases hm d hd with q|rfl
 ·exact A.sig d q
 ·simp [kJ]⟩
theorem I6 {H:List (List ax)} {k q:Nat}:((gO H h i t)[k]?).bind (·[q]?)=(H[k]?).bind (·[q]?)∨(k=h.toNat∧q=i.toNat∧(∃ d,(H[k]?).bind (·[q]?)=some d)∧((gO H h i t)[k]?).bind (·[q]?)=some (kJ t)):=by
 by_cases e:h.toNat=k
 ·cases hk:H[k]? with
  |none=>
   left
   have:(gO H h i t)[k]? =none:=by rw [List.getElem?_eq_none_iff,iU]; exact List.getElem?_eq_none_iff.1 hk
   rw [this]
  |some x=>
   have B:(gO H h i t)[k]? =some (x.set i.toNat (kJ t)):=by
    subst e
    rw [vY hk]
    exact List.getElem?_set_self (List.getElem?_eq_some_iff.1 hk).1
   rw [B,Option.bind_some,Option.bind_some]
   by_cases A:i.toNat=q
   ·cases hq:x[q]? with
    |none=>
     left
     rw [List.getElem?_eq_none_iff,List.length_set]; exact List.getElem?_eq_none_iff.1 hq
    |some d=>
     right
     subst A
     exact ⟨e.symm,U,⟨d,U⟩,List.getElem?_set_self (List.getElem?_eq_some_iff.1 hq).1⟩
   ·left; rw [List.getElem?_set_ne A]
 ·left
  unfold gO
  rw [List.getElem?_set_ne e]
theorem zO {l:a_} {H:List (List ax)} {q:Nat} (ho:((H[h.toNat]?).bind (·[i.toNat]?)).any (·.Out)=false): ∀ n,(fJ l (gO H h i t) q n).isSome=(fJ l H q n).isSome
 |0=>rfl
 |n+1=>by
  have ih:=zO (l:=l) (q:=q) ho n
  unfold fJ
  rcases I6 (H:=H) (h:=h) (i:=i) (t:=t) (k:=n) (q:=q) with e|⟨rfl,rfl,⟨d,hd⟩,e⟩
  ·rw [e]
   cases e1:fJ l (gO H h i t) q n<;>cases e2:fJ l H q n<;>simp_all
   cases (H[n]?).bind (·[q]?) with
   |none=>rfl
   |some d=>by_cases c:d.Out=true<;>simp [c]
  ·rw [e,hd]
   have A:d.Out=false:=by rw [hd] at ho; simpa using ho
   cases e1:fJ l (gO H h i t) i.toNat h.toNat<;>cases e2:fJ l H i.toNat h.toNat<;>simp_all [kJ]
theorem OW {r:bT} {k:Nat} {x:Int}:(eD r k).lookup x=if 0≤x∧x<(r.aQ.length:Int) then fJ r.ao r.ay x.toNat k else none:=by
 by_cases c:0≤x∧x<(r.aQ.length:Int)
 ·rw [if_pos c]
  have:=o7 (f:=fun q=>fJ r.ao r.ay q k) r.aQ.length x.toNat
  rw [if_pos I,show (x.toNat:Int)=x by omega] at this
  exact this
 ·rw [if_neg c]
  cases e:(eD r k).lookup x with
  |none=>rfl
  |some v=>
   exfalso
   obtain ⟨q,hq,A,_⟩:=uP ((x5 nz).2 e)
   simp only at A
   omega
theorem KU (e:qf r h i t=0) (k:Int):((aF (jx r h i t)).lookup k).isSome=((aF r).lookup k).isSome:=by
 obtain ⟨_,_,ho⟩:=zp e
 unfold aF
 rw [OW,OW]
 show (if 0≤k∧k<(r.aQ.length:Int) then fJ r.ao (gO r.ay h i t) k.toNat (gO r.ay h i t).length else none).isSome=_
 rw [iU]
 split
 ·exact zO ho _
 ·rfl
theorem C4 {m:gY} {k:Int} (h:k∈df (m.map (·.1))):m.lookup k≠none:=by
 obtain ⟨p,hp,rfl⟩:=List.mem_map.1 (fx.mem_iff.1 h)
 intro e
 exact absurd (List.lookup_eq_none_iff.1 e p hp) sm
theorem Qi {hz:List cO} {hza:cO} (hh:sP r.ay hz) (h1:r.ay[h.toNat]? =some ht) (h2:hz[h.toNat]? =some hza):sP (gO r.ay h i t) (hz.set h.toNat (hza.1,hza.2.set i.toNat (none,0))):=by
 refine ⟨by rw [List.length_set,iU]; exact hh.1,fun k y a hy ha=>?_⟩
 rw [vY h1] at hy
 rw [List.getElem?_set] at hy ha
 by_cases e:h.toNat=k
 ·rw [if_pos e,if_pos (List.getElem?_eq_some_iff.1 h1).1] at hy
  rw [if_pos e,if_pos (List.getElem?_eq_some_iff.1 h2).1] at ha
  cases hy; cases ha
  simp only [List.length_set]
  exact hh.2 _ _ _ h1 h2
 ·rw [if_neg e] at hy ha
  exact hh.2 k y a hy ha
theorem wN (e: ¬ gI r h i t=0):eO r h i t=[]:=if_neg e
theorem Er (e:gI r h i t=0):eO r h i t=(df ((aF r).map (·.1))).filter (fun k=> !decide (c_ (aF r) k (aA (aF r) k)=c_ (aF (jx r h i t)) k (aA (aF (jx r h i t)) k))):=if_pos e
end
section
variable {E:eY} {Q:cU} {D:List Deferred} {L:List (Nat×Value)} {C C1:List aq} {c:Code}
variable {H:List (List ax)} {hz:List cO} {h h':List ax} {a a':cO} {k:Nat} {bs:List RA} {i:Nat} {d d':ax} {b:RA}
theorem PL (j:Nat) (hd:h[i]? =some d) (hb:bs[i]? =some b) (hs':d'.cr.ag=[]) (hn:decide (HG C j).Nodup=true) (hC:lV C (HG C j)=some (bw (aV oz h bs)::C1))
 (hk:WJ E c Q D L (bw (aV oz (h.set i d') (bs.set i (none,0)))::C1)):WJ E c Q D L C:=fun act w hf hs=>hk act w hf (Nr hd hb hs' (St.kj _ hn (jB hC) hs))
theorem M0 (i j q:Nat) (hk:k<H.length) (hk2:k<hz.length) (hn:decide (M8 C i j q).Nodup=true) (hC:lV C (M8 C i j q)=some (own a'.1.1 a'.1.2 CA 7 (List.zipWith ax.cells h' a'.2)::bw (aV oz h' a'.2)::bw (fp je H hz k)::C1))
 (hr:WJ E c Q D L (bw (aV je (H.set k h') (hz.set k a'))::C1)):WJ E c Q D L C:=fun act w hf hs=>hr act w hf (Jj hk hk2 (St.kj _ hn (jB hC) hs))
end
end
section
set_option maxRecDepth 20000
def Cz (x y:Int):ax:=kJ ⟨x,y⟩
def aN:bT:=⟨mV,[4,7,9],[2,0,1],2,[[⟨false,false,dx,mJ⟩,Cz 2600 2600,Cz 2580 2609],[Cz 2555 2559,Cz 2540 2549,Cz 2570 2575]]⟩
theorem Aw {l:a_} {x y:Int} (h:iL ⟨x,y⟩):hU l (Cz x y):=by rw [tf ⟨rfl,rfl⟩]; exact ⟨h,rfl,rfl,rfl⟩
theorem Q4:eP aN:=by
 refine ⟨dc,dc,dc,fun i x hx=>?_,dc,fun h hh=>?_⟩
 ·match i with
  |0=>simp [aN] at hx; subst hx; exact ⟨dc,fun y h=>absurd h dc⟩
  |1=>simp [aN] at hx; subst hx; exact ⟨dc,fun y _ h=>by simp [aN] at h; omega⟩
  |2=>simp [aN] at hx; subst hx; exact ⟨dc,fun y _ h=>by simp [aN] at h; omega⟩
  |n+3=>simp [aN] at hx
 ·simp only [aN,d_,List.not_mem_nil,or_false] at hh
  rcases hh with rfl|rfl
  ·refine ⟨U,fun d hd=>?_⟩
   simp only [d_,List.not_mem_nil,or_false] at hd
   rcases hd with rfl|rfl|rfl
   ·rw [sM ⟨rfl,rfl⟩]; exact ⟨EI.1,rfl⟩
   ·exact Aw dc
   ·exact Aw dc
  ·refine ⟨U,fun d hd=>?_⟩
   simp only [d_,List.not_mem_nil,or_false] at hd
   rcases hd with rfl|rfl|rfl<;>exact Aw dc
theorem p8:cK aN=0:=by unfold cK; rw [if_pos (show dq aN.ao=0 from Pv),if_pos Q4]
theorem Pj:mO aN 0 0=0∧ig aN 0 0=⟨2596,2602⟩:=by
 have h:mO aN 0 0=0:=by unfold mO; rw [if_pos p8]; decide
 refine ⟨h,?_⟩
 unfold ig
 rw [if_pos h]
 show dv mV ⟨false,false,dx,mJ⟩=_
 rw [wb ⟨rfl,rfl⟩]; exact EI.2
/-- the sums of a race of three sleds and two heats, all of which run -/
theorem KV {l:a_} {ids dr:List Int} {t:Int} {H:List (List ax)} {a b c d e f:ax} (hH:H=[[a,b,c],[d,e,f]]) (hi:ids.length=3) (hoa: ∀ x∈[a,b,c,d,e,f],x.Out=false):
 aF ⟨l,ids,dr,t,H⟩=[(0,⟨(dv l a).Lo/10+(dv l d).Lo/10,(dv l a).Hi/10+(dv l d).Hi/10⟩),(1,⟨(dv l b).Lo/10+(dv l e).Lo/10,(dv l b).Hi/10+(dv l e).Hi/10⟩),(2,⟨(dv l c).Lo/10+(dv l f).Lo/10,(dv l c).Hi/10+(dv l f).Hi/10⟩)]∧
 eD ⟨l,ids,dr,t,H⟩ 1=[(0,⟨(dv l a).Lo/10,(dv l a).Hi/10⟩),(1,⟨(dv l b).Lo/10,(dv l b).Hi/10⟩),(2,⟨(dv l c).Lo/10,(dv l c).Hi/10⟩)]:=by
 subst hH
 simp only [d_,List.not_mem_nil,or_false,forall_eq_or_imp,forall_eq] at hoa
 obtain ⟨A,B,C,D,E,F⟩:=hoa
 simp [aF,eD,hi,List.range_succ,fJ,A,B,C,D,E,F]
def Nn:gY:=[(0,⟨514,515⟩),(1,⟨514,514⟩),(2,⟨515,517⟩)]
def Nl:gY:=[(0,⟨514,515⟩),(1,⟨514,514⟩),(2,⟨516,516⟩)]
def S_:gY:=[(0,⟨259,260⟩),(1,⟨260,260⟩),(2,⟨258,260⟩)]
theorem Aj:dv mV ⟨false,false,dx,mJ⟩=⟨2596,2602⟩:=by rw [wb ⟨rfl,rfl⟩]; exact EI.2
theorem pX {l:a_} {x y:Int}:dv l (Cz x y)=⟨x,y⟩:=AR ⟨rfl,rfl⟩
theorem vo:aF aN=Nn∧eD aN 1=S_:=by
 obtain ⟨A,B⟩:=KV (l:=mV) (ids:=[4,7,9]) (dr:=[2,0,1]) (t:=2) (H:=aN.ay) rfl rfl dc
 refine ⟨A.trans ?_,B.trans ?_⟩
 ·rw [Aj,pX,pX,pX,pX,pX]; rfl
 ·rw [Aj,pX,pX]; rfl
def ld:bT:=jx aN 0 2 ⟨2590,2599⟩
theorem Cu:gI aN 0 2 ⟨2590,2599⟩=0:=by unfold gI; rw [if_pos p8]; unfold qf; decide
theorem xq:cK ld=0:=yI Cu
theorem I9:aF ld=Nl:=by
 obtain ⟨A,B⟩:=KV (l:=mV) (ids:=[4,7,9]) (dr:=[2,0,1]) (t:=2) (H:=ld.ay) (a:=⟨false,false,dx,mJ⟩) (b:=Cz 2600 2600) (c:=Cz 2590 2599) (d:=Cz 2555 2559) (e:=Cz 2540 2549) (f:=Cz 2570 2575) rfl rfl dc
 refine A.trans ?_
 rw [Aj,pX,pX,pX,pX,pX]; rfl
/-- ranks, as they can be reckoned -/
def Ez (m:gY) (i:Int) (own:aa):List Int:=((List.range m.length).map fun (k:Nat)=>(k:Int)+1).filter fun k=>(jF m i own).any fun n=>decide ((gG m i n:Int)+1≤k∧k≤(jt m i n:Int)+1)
theorem Fh {m:gY} {i:Int} {own:aa}:c_ m i own=Ez m i own:=by
 unfold c_ Ez
 congr 1
 funext k
 rw [Bool.eq_iff_iff,decide_eq_true_eq,List.any_eq_true]
 simp only [decide_eq_true_eq,sk]
theorem z_ {r:bT} {m:gY} {i:Int} {s:aa} (he:cK r=0) (hm:aF r=m) (hi:rz r i) (hl:m.lookup i=some s):jG r i=0∧px r i=s∧gK r i=Ez m i s:=by
 have h:jG r i=0:=by unfold jG; rw [if_pos he,if_pos hi,hm,hl]; rfl
 refine ⟨h,?_,?_⟩
 ·unfold px aA; rw [if_pos h,hm,hl]; rfl
 ·unfold gK aA; rw [if_pos h,hm,hl,Fh]; rfl
theorem FJ {r:bT} {m:gY} {a b:Int} {s t:aa} (he:cK r=0) (hm:aF r=m) (hi:rz r a∧rz r b∧a≠b) (hs:m.lookup a=some s) (ht:m.lookup b=some t):l7 r a b=0∧ov r a b=vK s t∧pP r a b=ql s t:=by
 have h:l7 r a b=0:=by unfold l7; rw [if_pos he,if_pos hi,hm,hs,ht]; simp
 refine ⟨h,?_,?_⟩
 ·unfold ov aA; rw [if_pos h,hm,hs,ht]; rfl
 ·unfold pP aA; rw [if_pos h,hm,hs,ht]; rfl
theorem mx:jG aN 0=0∧px aN 0=⟨514,515⟩∧gK aN 0=[1,2]:=by have h:=z_ (i:=0) (s:=⟨514,515⟩) p8 vo.1 dc rfl; exact ⟨h.1,h.2.1,h.2.2.trans dc⟩
theorem Ct:jG aN 2=0∧px aN 2=⟨515,517⟩∧gK aN 2=[2,3]:=by have h:=z_ (i:=2) (s:=⟨515,517⟩) p8 vo.1 dc rfl; exact ⟨h.1,h.2.1,h.2.2.trans dc⟩
theorem Lm:jG ld 2=0∧px ld 2=⟨516,516⟩:=by have h:=z_ (i:=2) (s:=⟨516,516⟩) xq I9 dc rfl; exact ⟨h.1,h.2.1⟩
theorem zP:l7 aN 1 2=0∧ov aN 1 2=2∧pP aN 1 2=0:=by have h:=FJ (a:=1) (b:=2) (s:=⟨514,514⟩) (t:=⟨515,517⟩) p8 vo.1 dc rfl rfl; exact ⟨h.1,h.2.1.trans dc,h.2.2.trans dc⟩
theorem As:l7 aN 0 1=0∧ov aN 0 1=0∧pP aN 0 1=1:=by have h:=FJ (a:=0) (b:=1) (s:=⟨514,515⟩) (t:=⟨514,514⟩) p8 vo.1 dc rfl rfl; exact ⟨h.1,h.2.1.trans dc,h.2.2.trans dc⟩
theorem JQ:iG aN 1=0∧g3 aN 1=[0,2,1]:=by
 have h:iG aN 1=0:=by unfold iG; rw [if_pos p8]; decide
 refine ⟨h,?_⟩
 unfold g3
 rw [if_pos h,if_neg dc]
 unfold ur
 rw [show eD aN (1:Int).toNat=S_ from vo.2]
 decide
theorem JA:iG aN 2=0∧g3 aN 2=[0,1,2]:=by
 have h:iG aN 2=0:=by unfold iG; rw [if_pos p8]; decide
 refine ⟨h,?_⟩
 unfold g3
 rw [if_pos h,if_neg dc]
 unfold ur
 rw [show eD aN (2:Int).toNat=Nn from vo.1]
 decide
theorem MO:cd aN=[[0,1,2]]:=by
 refine (qt p8 ?_ ?_).symm
 ·rw [vo.1]
  refine ⟨dc,dc,sm,fun g hg t A B=>?_⟩
  rw [List.mem_singleton.1 hg] at A B ⊢
  simp [Nn,aA,List.lookup] at A B ⊢
  omega
 ·intro g hg; rw [List.mem_singleton.1 hg]; decide
theorem LI:cd ld=[[0,1],[2]]:=by
 refine (qt xq ?_ ?_).symm
 ·rw [I9]
  refine ⟨dc,dc,?_,fun g hg t A B=>?_⟩
  ·simp [LR,Nl,aA,List.lookup]
  ·simp only [d_,List.not_mem_nil,or_false] at hg
   rcases hg with rfl|rfl<;>(simp [Nl,aA,List.lookup] at A B ⊢; omega)
 ·intro g hg; simp only [d_,List.not_mem_nil,or_false] at hg; rcases hg with rfl|rfl<;>decide
theorem MW:eO aN 0 2 ⟨2590,2599⟩=[2]:=by
 unfold eO
 rw [if_pos Cu,vo.1,show aF (jx aN 0 2 ⟨2590,2599⟩)=Nl from I9]
 simp only [Fh]
 rw [show df (Nn.map (·.1))=[0,1,2] from vg (n:=3) dc]
 decide
end
section
open Go.RowKit
section
variable {E:eY} {ops:Array Oper} {Q:cU} {rest:List Oper} {D:List Deferred} {L:List (Nat×Value)} {C C1:List aq}
end
theorem Cj {C:List aq}: ∀ {a b:List Nat} {X Y:List aq},lV C a=some X→lV C b=some Y→lV C (a++b)=some (X++Y)
 |[],b,X,Y,h,h2=>by cases h; exact h2
 |i::a,b,X,Y,h,h2=>by
  unfold lV at h
  split at h
  ·rename_i A hA
   split at h
   ·rename_i l hl
    cases h
    have ih:=Cj hl h2
    show (match C[i]? with
     |some A=>match lV C (a++b) with
      |some l=>some (A::l)
      |none=>none
     |none=>none)=_
    rw [hA,ih]; rfl
   ·cases h
  ·cases h
theorem uj {E:eY} {ops:Array Oper} {Q:cU} {rest:List Oper} {D:List Deferred} {L:List (Nat×Value)} {C C1:List aq} (X:List aq) (i1 i2:List Nat) (h1:lV C i1=some X) (h2:lV C i2=some C1) (h:RJ E ops Q rest D L (bw X::C1)) (hn:decide (i1++i2).Nodup=true:=by rfl):RJ E ops Q rest D L C:=fun a w hf hs=>h a w hf (St.tied (St.kj _ hn (jB (Cj h1 h2)) hs))
theorem qK {E:eY} {ops:Array Oper} {Q:cU} {rest:List Oper} {D:List Deferred} {L:List (Nat×Value)} {C C1:List aq} (ix:List Nat) (hn:decide ix.Nodup=true) (hC:lV C ix=some C1) (h:RJ E ops Q rest D L C1):RJ E ops Q rest D L C:=fun a w hf hs=>h a w hf (St.kj _ hn (jB hC) hs)
theorem oN {M A B:Type} {f:M→A→List B} {n:Nat} (h: ∀ m a,(f m a).length=n): ∀ {ms:List M} {asl:List A},∀ x∈List.zipWith f ms asl,x.length=n
 |[],asl,x,hx=>by simp at hx
 |m::ms,[],x,hx=>by simp at hx
 |m::ms,a::asl,x,hx=>by
  rw [List.zipWith_cons_cons] at hx
  rcases List.mem_cons.1 hx with rfl|hx
  ·exact h m a
  ·exact oN h x hx
theorem Fz (m:ax) (a:RA):(ax.cells m a).length=7:=rfl
theorem JT (m:List ax) (a:cO):(cP m a).length=1:=rfl
theorem Jt (m:List Int) (a:RA):(l3 m a).length=1:=rfl
def SI:List ax:=[⟨false,false,dx,mJ⟩,Cz 2600 2600,Cz 2580 2609]
def Sw:List ax:=[Cz 2555 2559,Cz 2540 2549,Cz 2570 2575]
theorem L_ {p q s t u v x y:RA}:sP aN.ay [(p,[s,t,u]),(q,[v,x,y])]:=⟨rfl,fun k h a hk ha=>by
 match k with
 |0=>simp [aN] at hk ha; subst hk; subst ha; rfl
 |1=>simp [aN] at hk ha; subst hk; subst ha; rfl
 |n+2=>simp at ha⟩
theorem Qb {bz:List RA} {hz:List cO} (h:ep mV bz) (hh:sP aN.ay hz):e7 aN bz hz:=⟨h,dc,dc,dc,hh.1,fun k x a hx ha=>by
 have hm:=aR hx
 have hs:=hh.2 k x a hx ha
 simp only [aN,d_,List.not_mem_nil,or_false] at hm
 rcases hm with rfl|rfl
 ·exact ⟨dc,hs,dc⟩
 ·exact ⟨dc,hs,dc⟩⟩
end
section
open Go.RowKit
def pY (b:Bool):List Value:=[.bool b]
@[simp] theorem Az (b:Bool):(pY b).length=1:=rfl
theorem H5 (l:List Bool): ∀ v∈(l.map pY).flatten,v.oneCell'=true:=mq (fun s=>rfl) l
end
section
def lO (r:bT) (i:Nat):Prop:= ∀ (j:Nat) x,j<i→r.ay[j]? =some x→ ¬ oZ x
def m0 (x:List ax) (i:Nat):Prop:= ∀ (j:Nat) d,j<i→x[j]? =some d→ ¬ 15<(d.cr.ag.length:Int)
section
variable {r:bT} {i:Nat} {x:List ax} {d:ax}
theorem BG:lO r 0:=fun j x hj=>absurd hj (Nat.not_lt_zero _)
theorem Cg (h:lO r i) (hx:r.ay[i]? =some x) (ho: ¬ oZ x):lO r (i+1):=fun j y hj hy=>by
 rcases Nat.lt_or_ge j i with q|q
 ·exact h j y q hy
 ·obtain rfl:j=i:=by omega
  rw [hx] at hy; cases hy; exact ho
theorem CE:m0 x 0:=fun j x hj=>absurd hj (Nat.not_lt_zero _)
theorem BO (h:m0 x i) (hx:x[i]? =some d) (ho: ¬ 15<(d.cr.ag.length:Int)):m0 x (i+1):=fun j y hj hy=>by
 rcases Nat.lt_or_ge j i with q|q
 ·exact h j y q hy
 ·obtain rfl:j=i:=by omega
  rw [hx] at hy; cases hy; exact ho
theorem DP (hl: ¬ 8<(x.length:Int)) (h:m0 x i) (hi:x.length≤i): ¬ oZ x:=by
 rintro (q|⟨d,hd,q⟩)
 ·exact hl q
 ·obtain ⟨j,hj⟩:=List.getElem?_of_mem hd
  exact h j d (by have:=(List.getElem?_eq_some_iff.1 hj).1; omega) hj q
theorem Hg (h1: ¬ mK r.ao) (h2: ¬ 8<(r.aQ.length:Int)∧ ¬ 8<(r.bQ.length:Int)∧ ¬ 5<(r.ay.length:Int)) (h:lO r i) (hi:r.ay.length≤i): ¬ oE r:=by
 rintro ((q|q)|⟨x,hx,q⟩)
 ·exact h1 q
 ·omega
 ·obtain ⟨j,hj⟩:=List.getElem?_of_mem hx
  exact h j x (by have:=(List.getElem?_eq_some_iff.1 hj).1; omega) hj q
theorem pj (h:mK r.ao∨8<(r.aQ.length:Int)∨8<(r.bQ.length:Int)∨5<(r.ay.length:Int)):oE r:= .inl h
theorem Cd (hx:r.ay[i]? =some x) (h:8<(x.length:Int)):oE r:= .inr ⟨x,aR hx,.inl h⟩
theorem D4 {j:Nat} (hx:r.ay[i]? =some x) (hd:x[j]? =some d) (h:15<(d.cr.ag.length:Int)):oE r:= .inr ⟨x,aR hx,.inr ⟨d,aR hd,h⟩⟩
end
noncomputable def oK (l:a_) (d:ax):aa:=if d.Out=true then dx else dv l d
theorem JO {l:a_} {d:ax} (h:hU l d):oK l d=dv l d:=by
 unfold oK
 split
 ·rename_i q
  rw [Gt q]
  rw [qs q] at h
  exact h.2.1.symm
 ·rfl
theorem Ae {l:a_} {d:ax} (h:d.Out=true):oK l d=dx:=if_pos h
theorem FL {l:a_} {d:ax} (h:d.Out=false∧d.eI=true):oK l d=d.Time:=by unfold oK; rw [if_neg (by rw [h.1]; decide),AR h]
theorem Gd {l:a_} {d:ax} (h:d.Out=false∧d.eI=false):oK l d=Ao l d.cr:=by unfold oK; rw [if_neg (by rw [h.1]; decide),wb h]
def TA (r:bT) (j:Nat):Prop:= ∀ x,r.aQ[j]? =some x→(0≤x∧x≤9999)∧ ∀ y,0<j→r.aQ[j-1]? =some y→y<x
def Jo (r:bT) (j:Nat):Prop:= ∀ x,r.bQ[j]? =some x→(0≤x∧x≤(r.aQ.length:Int)-1)∧ ∀ (k:Nat) y,k<j→r.bQ[k]? =some y→y≠x
def xU (r:bT) (i:Nat):Prop:= ∀ j,j<i→TA r j∧Jo r j
section
variable {r:bT} {i k:Nat} {x:Int}
theorem KN:xU r 0:=fun j hj=>absurd hj (Nat.not_lt_zero _)
theorem Bg (h:xU r i) (h1:TA r i) (h2:Jo r i):xU r (i+1):=fun j hj=>by
 rcases Nat.lt_or_ge j i with q|q
 ·exact h j q
 ·obtain rfl:j=i:=by omega
  exact ⟨h1,h2⟩
theorem xC {l:List Int} {u v:Int} (h: ∀ (q:Nat) y,q<k→l[q]? =some y→y≠v) (hx:l[k]? =some u) (hne: ¬ u=v): ∀ (q:Nat) y,q<k+1→l[q]? =some y→y≠v:=fun q y hq hy=>by
 rcases Nat.lt_or_ge q k with c|c
 ·exact h q y c hy
 ·obtain rfl:q=k:=by omega
  rw [hx] at hy; cases hy; exact hne
theorem I1 (hl:r.bQ.length=r.aQ.length) (h:xU r r.aQ.length):r.bQ.Perm (G6 r.aQ.length):=by
 have nd:r.bQ.Nodup:=by
  rw [List.nodup_iff_pairwise_ne,n_]
  intro a b ha hb A
  exact ((h b I).2 _ (eC hb)).2 a _ A (eC ha)
 have hm: ∀ x∈r.bQ,x∈G6 r.aQ.length:=fun x hx=>by
  obtain ⟨j,hj⟩:=List.getElem?_of_mem hx
  have:=((h j (by have:=(List.getElem?_eq_some_iff.1 hj).1; omega)).2 x hj).1
  exact List.mem_map.2 ⟨x.toNat,List.mem_range.2 I,I⟩
 have ndu:(G6 r.aQ.length).Nodup:=by
  unfold G6
  rw [List.nodup_iff_pairwise_ne,List.pairwise_map]
  exact List.pairwise_lt_range.imp fun h=>by omega
 have e:df r.bQ=(G6 r.aQ.length).filter fun x=>decide (x∈r.bQ):=by
  refine qZ kW ((wP _).filter _) (fx.nodup_iff.2 nd) (ndu.filter _) fun x=>?_
  rw [fx.mem_iff,List.mem_filter,decide_eq_true_eq]
  exact ⟨fun q=>⟨hm x q,q⟩,fun q=>q.2⟩
 have B:=congrArg List.length e
 rw [gl,hl] at B
 have C:(G6 r.aQ.length).filter (fun x=>decide (x∈r.bQ))=G6 r.aQ.length:=List.filter_sublist.eq_of_length (by rw [← B]; simp)
 rw [C] at e
 rw [← e]; exact fx.symm
theorem Hc {n:Nat} (h1:1≤(r.aQ.length:Int)∧(r.aQ.length:Int)≤5) (h2:r.bQ.length=r.aQ.length) (h3:0≤r.iK∧r.iK≤5) (h4:1≤(r.ay.length:Int)∧(r.ay.length:Int)≤3)
 (hn:n=r.aQ.length) (h6:xU r n) (h7:j_ r i) (hi:r.ay.length≤i):eP r:=by
 subst hn
 refine ⟨h1,h3,h4,fun k x hx=>(h6 k (List.getElem?_eq_some_iff.1 hx).1).1 x hx,I1 h2 h6,fun h hh=>?_⟩
 obtain ⟨j,hj⟩:=List.getElem?_of_mem hh
 exact h7 j h (by have:=(List.getElem?_eq_some_iff.1 hj).1; omega) hj
theorem eP.Kg (h:eP r) (hx:r.bQ[i]? =some x):0≤x∧x≤(r.aQ.length:Int)-1:=by
 obtain ⟨k,hk,rfl⟩:=List.mem_map.1 (h.draw.mem_iff.1 (aR hx))
 have:=List.mem_range.1 hk
 omega
theorem eP.Qs (h:eP r):r.bQ.Nodup:=by
 refine h.draw.nodup_iff.2 ?_
 rw [List.nodup_iff_pairwise_ne,List.pairwise_map]
 exact List.pairwise_lt_range.imp fun h=>by omega
theorem eP.QB (h:eP r) {u v:Int} (hki:k<i) (hu:r.bQ[k]? =some u) (hv:r.bQ[i]? =some v): ¬ u=v:=by
 have A:=h.Qs
 rw [List.nodup_iff_pairwise_ne,n_] at A
 obtain ⟨a,ea⟩:=List.getElem?_eq_some_iff.1 hu
 obtain ⟨b,eb⟩:=List.getElem?_eq_some_iff.1 hv
 subst ea eb
 exact A k i a b hki
end
section
variable {r:bT} {i k n:Nat} {s:aa} {l:a_} {hs:List (List ax)}
end
section
variable {r:bT} {i x:Int} {own s:aa} {k:Nat} {ys zs:List Int}
end
section
variable {B:List Bool} {P Q:Int→Prop} {k x:Nat} {m:gY} {i y a b:Int} {ys:List Int}
end
theorem D_ {r:bT} {i:Int}:(gK r i).length≤r.aQ.length:=by
 unfold gK
 split
 ·unfold c_
  refine Nat.le_trans (List.length_filter_le _ _) ?_
  rw [List.length_map,List.length_range]
  exact uw
 ·simp
end
section
theorem DY {α:Type} {P Q:α→Bool}: ∀ {m:List α} {x:α},(∀ p∈m,P p=true→Q p=true)→x∈m→Q x=true→P x=false→m.countP P+1≤m.countP Q
 |[],x,h,hx,_,_=>by cases hx
 |y::m,x,h,hx,hq,hp=>by
  have hy:=h y cb
  have hm:=fun p q=>h p (cR _ q)
  rw [List.countP_cons,List.countP_cons]
  rcases List.mem_cons.1 hx with rfl|hx
  ·rw [if_pos hq,if_neg (by rw [hp]; decide)]
   have:=List.countP_mono_left (l:=m) (p:=P) (q:=Q) hm
   omega
  ·have:=DY hm hx hq hp
   split
   ·rw [if_pos (hy asm)]; omega
   ·split<;>omega
theorem sK: ∀ {m:gY} {a:Int} {s:aa},m.lookup a=some s→(a,s)∈m
 |[],a,s,h=>by cases h
 |(b,u)::m,a,s,h=>by
  by_cases e:a=b
  ·subst e
   simp [List.lookup] at h; subst h; exact cb
  ·have:(a==b)=false:=by simpa using e
   simp only [List.lookup,this] at h
   exact cR _ (sK h)
theorem Ar: ∀ {m:gY} {a:Int} {s:aa},(m.map (·.1)).Nodup→(a,s)∈m→m.lookup a=some s
 |[],a,s,_,h=>by cases h
 |(b,u)::m,a,s,hn,h=>by
  rw [List.map_cons,List.nodup_cons] at hn
  rcases List.mem_cons.1 h with e|h
  ·cases e; simp [List.lookup]
  ·have e:a≠b:=fun e=>hn.1 (by rw [← e]; exact List.mem_map_of_mem (f:=(·.1)) h)
   have:(a==b)=false:=by simpa using e
   simp only [List.lookup,this]
   exact Ar hn.2 h
/-- sums, each of another sled -/
structure kE (m:gY):Prop where
 nd:(m.map (·.1)).Nodup
 le: ∀ p∈m,p.2.Lo≤p.2.Hi
theorem FB {r:bT} (h:cK r=0):kE (aF r):=⟨nz,fun p hp=>(nt h p hp).2.1⟩
section
variable {m:gY} {a b i n:Int} {s t own:aa}
theorem kE.at (h:kE m) (hs:m.lookup a=some s):s.Lo≤s.Hi:=h.le _ (sK hs)
theorem kE.one (h:kE m) (hs:m.lookup a=some s) {p:Int×aa} (hp:p∈m) (e:p.1=a):p.2=s:=by
 obtain ⟨x,y⟩:=p
 cases e
 have:=Ar h.nd hp
 rw [hs] at this; cases this; rfl
theorem kE.sm (h:kE m):gG m i n≤jt m i n:=by
 rw [kY,nm]
 refine List.countP_mono_left fun p hp q=>?_
 have:=h.le p hp
 simp only [cG,decide_eq_true_eq] at q ⊢
 exact ⟨I,q.2⟩
theorem Bt:(c_ m i own).Pairwise (· < ·):=by
 unfold c_
 refine List.Pairwise.filter _ ?_
 rw [List.pairwise_map]
 exact List.pairwise_lt_range.imp fun h=>by omega
theorem BB (h:kE m) (hs:m.lookup i=some s):(gG m i s.Lo:Int)+1∈c_ m i s:=by
 have A:=h.at hs
 have B:=h.sm (i:=i) (n:=s.Lo)
 exact (qR (by rw [hs]; simp)).2 ((qq A).2 ⟨s.Lo,Int.le_refl _,A,Int.le_refl _,I⟩)
theorem EM (h:kE m) (hs:m.lookup i=some s):(jt m i s.Hi:Int)+1∈c_ m i s:=by
 have A:=h.at hs
 have B:=h.sm (i:=i) (n:=s.Hi)
 exact (qR (by rw [hs]; simp)).2 ((qq A).2 ⟨s.Hi,A,Int.le_refl _,I,Int.le_refl _⟩)
theorem Cv (h:kE m) (hs:m.lookup i=some s) {x:Int} (hx:x∈c_ m i s):(gG m i s.Lo:Int)+1≤x∧x≤(jt m i s.Hi:Int)+1:=by
 obtain ⟨y,A,B,C,D⟩:=(qq (h.at hs)).1 ((qR (by rw [hs]; simp)).1 hx)
 have:=HV (m:=m) (i:=i) A
 have:=LZ (m:=m) (i:=i) B
 omega
theorem KO {l:List Int} {x y:Int} (h:l.Pairwise (· < ·)) (hx:l[0]? =some x) (hy:y∈l):x≤y:=by
 cases l with
 |nil=>cases hy
 |cons z l=>
  simp at hx; subst hx
  rcases List.mem_cons.1 hy with rfl|hy
  ·exact Int.le_refl _
  ·exact Int.le_of_lt ((List.pairwise_cons.1 h).1 y hy)
theorem Nu {l:List Int} {x y:Int} (h:l.Pairwise (· < ·)) (hx:l[l.length-1]? =some x) (hy:y∈l):y≤x:=by
 obtain ⟨k,hk,rfl⟩:=List.mem_iff_getElem.1 hy
 obtain ⟨hl,rfl⟩:=List.getElem?_eq_some_iff.1 hx
 rcases Nat.lt_or_ge k (l.length-1) with c|c
 ·exact Int.le_of_lt (List.pairwise_iff_getElem.1 h k (l.length-1) hk hl c)
 ·have:k=l.length-1:=by omega
  subst this; exact Int.le_refl _
theorem xu (h:kE m) (hs:m.lookup i=some s) {x:Int} (hx:(c_ m i s)[0]? =some x):x=(gG m i s.Lo:Int)+1:=by
 have A:=KO Bt hx (BB h hs)
 have B:=(Cv h hs (aR hx)).1
 omega
theorem zH (h:kE m) (hs:m.lookup i=some s) {x:Int} (hx:(c_ m i s)[(c_ m i s).length-1]? =some x):x=(jt m i s.Hi:Int)+1:=by
 have A:=Nu Bt hx (EM h hs)
 have B:=(Cv h hs (aR hx)).2
 omega
/-- who is surely before has a lesser rank, at the least and at the most -/
theorem CI (h:kE m) (hs:m.lookup a=some s) (ht:m.lookup b=some t) (hab:a≠b) (hl:s.Hi<t.Lo):gG m a s.Lo+1≤gG m b t.Lo∧jt m a s.Hi+1≤jt m b t.Hi:=by
 have A:=h.at hs
 have B:=h.at ht
 constructor
 ·rw [kY,kY]
  refine DY (x:=(a,s)) (fun p hp q=>?_) (sK hs) ?_ ?_
  ·simp only [cG,decide_eq_true_eq,Bool.not_eq_true',decide_eq_false_iff_not] at q ⊢
   exact ⟨I,fun e=>by have:=h.one ht hp e; rw [this] at q; omega⟩
  ·simp only [cG,decide_eq_true_eq,Bool.not_eq_true',decide_eq_false_iff_not]; exact ⟨hl,hab⟩
  ·simp
 ·rw [nm,nm]
  refine DY (x:=(a,s)) (fun p hp q=>?_) (sK hs) ?_ ?_
  ·simp only [cG,decide_eq_true_eq,Bool.not_eq_true',decide_eq_false_iff_not] at q ⊢
   exact ⟨I,fun e=>by have:=h.one ht hp e; rw [this] at q; omega⟩
  ·simp only [cG,decide_eq_true_eq,Bool.not_eq_true',decide_eq_false_iff_not]; exact ⟨I,hab⟩
  ·simp
/-- who is surely tied has the same ranks -/
theorem Hh (h:kE m) (hs:m.lookup a=some s) (ht:m.lookup b=some s) (he:s.Lo=s.Hi):c_ m a s=c_ m b s:=by
 have C:gG m a s.Lo=gG m b s.Lo:=by
  rw [kY,kY]
  apply List.countP_congr
  intro p hp
  simp only [cG,decide_eq_true_eq,Bool.not_eq_true',decide_eq_false_iff_not]
  exact ⟨fun q=>⟨q.1,fun e=>by have:=h.one ht hp e; rw [this] at q; omega⟩,fun q=>⟨q.1,fun e=>by have:=h.one hs hp e; rw [this] at q; omega⟩⟩
 have D:jt m a s.Lo=jt m b s.Lo:=by
  rw [nm,nm]
  apply List.countP_congr
  intro p hp
  simp only [cG,decide_eq_true_eq,Bool.not_eq_true',decide_eq_false_iff_not]
  exact ⟨fun q=>⟨q.1,fun e=>by have:=h.one ht hp e; rw [this] at q; omega⟩,fun q=>⟨q.1,fun e=>by have:=h.one hs hp e; rw [this] at q; omega⟩⟩
 unfold c_
 congr 1
 funext k
 rw [S7,qq (h.at hs),qq (h.at hs)]
 constructor<;>rintro ⟨x,A,B,E,F⟩<;>(have:x=s.Lo:=by omega)<;>subst this<;>exact ⟨s.Lo,A,B,I,I⟩
end
section
variable {r:bT} {a b i:Int} {s t:aa}
/-- what is known of two sleds that have sums -/
structure F1 (r:bT) (a b:Int) (s t:aa):Prop where
 ne:a≠b
 yo:kE (aF r)
 sa:(aF r).lookup a=some s
 sb:(aF r).lookup b=some t
 ea:jG r a=0
 eb:jG r b=0
 va:px r a=s
 vb:px r b=t
 ra:gK r a=c_ (aF r) a s
 rb:gK r b=c_ (aF r) b t
 Vz:ov r a b=vK s t
 Ik:ov r b a=vK t s
 tied:pP r a b=ql s t
theorem N3 (he:cK r=0) (hi:rz r i) (hl:(aF r).lookup i=some s):jG r i=0∧px r i=s∧gK r i=c_ (aF r) i s:=by
 have h:jG r i=0:=by unfold jG; rw [if_pos he,if_pos hi,hl]; rfl
 have A:aA (aF r) i=s:=by unfold aA; rw [hl]; rfl
 exact ⟨h,by unfold px; rw [if_pos h,A],by rw [yF h,A]⟩
theorem F1.tie (h:F1 r a b s t) (e:pP r a b=2):s=t∧s.Lo=s.Hi∧gK r a=gK r b∧ov r a b=0∧ov r b a=0:=by
 rw [h.tied] at e
 unfold ql at e
 split at e
 ·rename_i q
  obtain ⟨rfl,q⟩:=q
  have hb:vK s s=0:=by unfold vK; rw [if_neg I,if_neg I]
  exact ⟨U,q,by rw [h.ra,h.rb,Hh h.yo h.sa h.sb q],h.Vz.trans hb,h.Ik.trans hb⟩
 ·split at e<;>cases e
theorem F1.before (h:F1 r a b s t) (e:ov r a b=2):ov r b a=0∧pP r a b=0∧(∀ x y,(gK r a)[0]? =some x→(gK r b)[0]? =some y→x<y)∧ ∀ x y,(gK r a)[(gK r a).length-1]? =some x→(gK r b)[(gK r b).length-1]? =some y→x<y:=by
 have A:=h.yo.at h.sa
 have B:=h.yo.at h.sb
 rw [h.Vz] at e
 have hl:s.Hi<t.Lo:=by
  unfold vK at e
  split at e
  ·assumption
  ·split at e<;>cases e
 have hc:=CI h.yo h.sa h.sb h.ne hl
 refine ⟨h.Ik.trans (by unfold vK; rw [if_neg I,if_neg I]),h.tied.trans (by unfold ql; rw [if_neg fun q=>by have:=q.1; subst this; omega,if_neg I]),fun x y hx hy=>?_,fun x y hx hy=>?_⟩
 ·rw [h.ra] at hx; rw [h.rb] at hy
  have:=xu h.yo h.sa hx
  have:=xu h.yo h.sb hy
  omega
 ·rw [h.ra] at hx; rw [h.rb] at hy
  have:=zH h.yo h.sa hx
  have:=zH h.yo h.sb hy
  omega
end
end
section
section
variable {r:bT} {h i:Nat} {ht:List ax} {d:ax} {bl:List Int} {n:Int} {out:Bool}
structure LO (r:bT) (h i:Nat) (d:ax):Prop where
 off:d.Out=true→mO r ↑h ↑i=6
 on:d.Out=false→mO r ↑h ↑i=0∧ig r ↑h ↑i=dv r.ao d
 b:0≤(ig r ↑h ↑i).Lo∧(ig r ↑h ↑i).Lo≤(ig r ↑h ↑i).Hi∧(ig r ↑h ↑i).Hi≤86400000
 at_:(r.ay[h]?).bind (·[i]?)=some d
theorem LO.same (q:LO r h i d):d.Out=decide (mO r ↑h ↑i=6):=by
 cases ho:d.Out with
 |true=>rw [q.off ho]; rfl
 |false=>rw [(q.on ho).1]; rfl
end
/-- the sums of the first sleds -/
noncomputable def jJ (r:bT) (i:Nat):gY:=(List.range i).filterMap fun q=>(fJ r.ao r.ay q r.ay.length).map fun s=>((q:Int),s)
section
variable {r:bT} {i:Nat} {k:Int}
theorem u6:jJ r (i+1)=jJ r i++((fJ r.ao r.ay i r.ay.length).map fun s=>((i:Int),s)).toList:=by
 unfold jJ
 rw [List.range_succ,List.filterMap_append]
 cases h:fJ r.ao r.ay i r.ay.length<;>simp [h]
theorem D9:(jJ r i).lookup (i:Int)=none:=by
 rw [g4]
 intro p hp e
 unfold jJ at hp
 obtain ⟨q,hq,A⟩:=List.mem_filterMap.1 hp
 obtain ⟨s,_,rfl⟩:=Option.map_eq_some_iff.1 A
 have:=List.mem_range.1 hq
 simp only at e; omega
theorem BQ (hi:i<r.aQ.length):(aF r).lookup (i:Int)=fJ r.ao r.ay i r.ay.length:=by unfold aF; rw [CP,if_pos hi]
theorem Bk (he:cK r=0) (hi:rz r k):(jG r k=0∧((aF r).lookup k).isSome=true)∨(jG r k=6∧((aF r).lookup k).isSome=false):=by
 cases h:((aF r).lookup k).isSome with
 |true=>exact .inl ⟨Gi he hi h,rfl⟩
 |false=>exact .inr ⟨yx he hi h,rfl⟩
theorem CU (he:cK r=0) (hi:i<r.aQ.length) (h:jG r (i:Int)=0):dL (jJ r i) (i:Int) (px r (i:Int))=jJ r (i+1):=by
 obtain ⟨_,A,hl⟩:=uO h
 obtain ⟨s,hs⟩:=Option.ne_none_iff_exists'.1 hl
 have e:fJ r.ao r.ay i r.ay.length=some s:=(BQ hi).symm.trans hs
 have hv:=(N3 he A hs).2.1
 rw [u6,e,hv]
 unfold dL; rw [D9]; rfl
theorem zG (he:cK r=0) (hi:i<r.aQ.length) (h: ¬ jG r (i:Int)=0):jJ r i=jJ r (i+1):=by
 have A:rz r (i:Int):=by unfold rz; omega
 rcases Bk he A with ⟨C,_⟩|⟨_,B⟩
 ·exact absurd C h
 ·rw [BQ hi] at B
  rw [u6,Option.isSome_eq_false_iff.1 B |> Option.isNone_iff_eq_none.1]
  simp
end
end
section
open Go.RowKit
section
variable {r:bT} {h i:Int} {t:aa} {k:Nat}
end
/-- there is a table -/
theorem s8 {r:bT} (he:cK r=0): ∃ G,gU (aA (aF r)) ((aF r).map (·.1)) G∧Ax G:=by
 have key: ∀ (L:List Int),Et (fun u=>(aA (aF r) u).Lo) L→ ∀ i,i≤L.length→ ∃ G last,l9 (aA (aF r)) (L.take i) G last:=fun L B i=>by
  induction i with
  |zero=>intro _; exact ⟨[],-1,Fg⟩
  |succ i ih=>
   intro hi
   obtain ⟨G,last,hG⟩:=ih I
   have hx:L[i]? =some (L[i]'I):=eC _
   have C:=gM (i:=L[i]'I) (nt he)
   by_cases hl:last<(aA (aF r) (L[i]'I)).Lo
   ·obtain ⟨g,hg⟩: ∃ g,(G++[[]])[(G++[([]:List Int)]).length-1]? =some g:=⟨_,eC sm⟩
    exact ⟨_,_,pI I hx hg hG hl⟩
   ·have hp:=Fe C.1 hG hl
    obtain ⟨g,hg⟩: ∃ g,G[G.length-1]? =some g:=⟨_,eC I⟩
    exact ⟨_,_,oD I (fun u _=>(gM (i:=u) (nt he)).2.1) B hx hg hG hl⟩
 obtain ⟨G,last,hG⟩:=key (er (fun u=>(aA (aF r) u).Lo) ((aF r).map (·.1))) uY _ (Nat.le_refl _)
 have A:=vl hG.ok
 rw [List.take_length] at A
 exact ⟨_,qF A.1 qj,A.2⟩
theorem qA {r:bT}:(cd r).length≤1000000∧ ∀ l∈cd r,l.length≤1000000:=by
 by_cases he:cK r=0
 ·have E:(aF r).length≤5:=mo he
  have A: ∃ G,gU (aA (aF r)) ((aF r).map (·.1)) G∧Ax G:=by
   refine Classical.byContradiction fun hn=>?_
   exact hn (s8 he)
  obtain ⟨G,hG,hA⟩:=A
  rw [← qt he hG hA]
  have C:=hG.perm.length_eq
  rw [List.length_map] at C
  have B: ∀ G:List (List Int),(∀ g∈G,g≠[])→G.length≤G.flatten.length:=fun G=>by
   induction G with
   |nil=>intro _; simp
   |cons g G ih=>
    intro hG
    have B:=ih fun y hy=>hG y (cR _ hy)
    have D:=List.length_pos_iff.2 (hG g cb)
    simp only [List.flatten_cons,List.length_cons,List.length_append]; omega
  refine ⟨by have:=B G hG.some_; omega,fun l hl=>?_⟩
  have D:l.length≤G.flatten.length:=(List.sublist_flatten_of_mem hl).length_le
  omega
 ·rw [Dh he]; simp
theorem B5 {r:bT} {h i:Int} {t:aa}:(eO r h i t).length≤r.aQ.length:=by
 unfold eO
 split
 ·refine Nat.le_trans (List.length_filter_le _ _) ?_
  rw [gl,List.length_map]
  exact uw
 ·simp
end
section
theorem yA {s:Nat}: ∀ {n:Nat},(∀ x,x<n→s/2^x % 2=0)→s % 2^n=0
 |0,_=>by simp [Nat.mod_one]
 |n+1,h=>by rw [Nat.mod_pow_succ,yA (n:=n) fun x hx=>h x I,h n I]; rfl
theorem zk {s:Nat}: ∀ {n:Nat},(∀ x,x<n→s/2^x % 2=1)→s % 2^n+1=2^n
 |0,_=>by simp [Nat.mod_one]
 |n+1,h=>by
  have A:=zk (s:=s) (n:=n) fun x hx=>h x I
  rw [Nat.mod_pow_succ,h n I,Nat.pow_succ]; omega
theorem Nz {s n:Nat} (h0:1≤s) (h:s<2^n): ∃ x,x<n∧s/2^x % 2=1:=by
 refine Classical.byContradiction fun q=>?_
 have:=yA (s:=s) (n:=n) fun x hx=>by
  rcases Nat.mod_two_eq_zero_or_one (s/2^x) with c|c
  ·exact c
  ·exact absurd ⟨x,hx,c⟩ q
 rw [Nat.mod_eq_of_lt h] at this; omega
theorem IW {s n:Nat} (h:s+1<2^n): ∃ x,x<n∧s/2^x % 2=0:=by
 refine Classical.byContradiction fun q=>?_
 have:=zk (s:=s) (n:=n) fun x hx=>by
  rcases Nat.mod_two_eq_zero_or_one (s/2^x) with c|c
  ·exact absurd ⟨x,hx,c⟩ q
  ·exact c
 rw [Nat.mod_eq_of_lt I] at this; omega
section
variable {f:Int→aa} {g:List Int}
/-- whatever some of a group are, they are not all surely before all others of it -/
theorem DU (ht:DW f g) (hle: ∀ i∈g,(f i).Lo≤(f i).Hi) {s:Nat} (h0:1≤s) (h1:s+1<2^g.length)
 (h: ∀ (x y:Nat) i k,g[x]? =some i→g[y]? =some k→s/2^x % 2=1→s/2^y % 2=0→(f i).Hi<(f k).Lo):False:=by
 obtain ⟨x,hx,A⟩:=Nz h0 (show s<2^g.length by omega)
 obtain ⟨y,hy,B⟩:=IW h1
 have hB: ∀ k,k∈((List.range g.length).filter fun y=>decide (s/2^y % 2=0)).filterMap (fun y=>g[y]?)↔ ∃ y,g[y]? =some k∧s/2^y % 2=0:=fun k=>by
  rw [List.mem_filterMap]
  constructor
  ·rintro ⟨y,hy,e⟩; exact ⟨y,e,of_decide_eq_true (List.mem_filter.1 hy).2⟩
  ·rintro ⟨y,e,q⟩; exact ⟨y,List.mem_filter.2 ⟨List.mem_range.2 (List.getElem?_eq_some_iff.1 e).1,fI q⟩,e⟩
 obtain ⟨b,hb,hm⟩:=s7 (f:=f) (g:=((List.range g.length).filter fun y=>decide (s/2^y % 2=0)).filterMap (fun y=>g[y]?)) fun e=>by
  have:=(hB g[y]).2 ⟨y,eC hy,B⟩
  rw [e] at this; cases this
 obtain ⟨yb,eb,qb⟩:=(hB b).1 hb
 have hA: ∀ (z:Nat) i,g[z]? =some i→s/2^z % 2=1→(f i).Hi<(f b).Lo:=fun z i ez qz=>h z yb i b ez eb qz qb
 have ha:=hA x g[x] (eC hx) A
 have C:=hle g[x] (List.getElem_mem hx)
 obtain ⟨c,hc,D,E⟩:=ht (f b).Lo ⟨g[x],List.getElem_mem hx,I⟩ ⟨b,aR eb,Int.le_refl _⟩
 obtain ⟨z,hz,rfl⟩:=List.mem_iff_getElem.1 hc
 rcases Nat.mod_two_eq_zero_or_one (s/2^z) with q|q
 ·have:=hm _ ((hB g[z]).2 ⟨z,eC hz,q⟩); omega
 ·have:=hA z g[z] (eC hz) q; omega
end
def mw (pre:List Int):List (Int×Bool):=pre.map fun k=>(k,true)
section
variable {pre:List Int} {k:Int}
theorem Fu (h:k ∉ pre):(mw pre).lookup k=none:=g4.2 fun p hp e=>by
 obtain ⟨x,hx,rfl⟩:=List.mem_map.1 hp
 exact h (by rw [← e]; exact hx)
theorem BX (h:k ∉ pre):dL (mw pre) k true=mw (pre++[k]):=by
 unfold dL
 rw [Fu h]
 simp [mw]
end
structure ly (r:bT) (G:List (List Int)):Prop where
 ok:gU (aA (aF r)) ((aF r).map (·.1)) G
 VP:Ax G
 nd:G.flatten.Nodup
section
variable {r:bT} {G:List (List Int)} {g h:List Int} {a b x:Nat} {i k:Int}
theorem ly.nodup (ht:ly r G) (hg:G[a]? =some g):g.Nodup:=by
 have A:=ht.nd
 unfold List.Nodup at A
 rw [List.pairwise_flatten] at A
 exact A.1 g (aR hg)
theorem ly.runs (ht:ly r G) (hg:G[a]? =some g) (hi:g[x]? =some i): ∃ s,(aF r).lookup i=some s:=by
 have A:i∈G.flatten:=List.mem_flatten.2 ⟨g,aR hg,aR hi⟩
 obtain ⟨p,hp,rfl⟩:=List.mem_map.1 (ht.ok.perm.mem_iff.1 A)
 exact ⟨p.2,Ar nz hp⟩
/-- each is greater than the one ahead of it in its group -/
theorem ly.up (ht:ly r G) (hg:G[a]? =some g) (hi:g[x]? =some i) (hx:0<x) (hk:g[x-1]? =some k):k<i:=by
 have C:=ht.VP g (aR hg)
 have B:=ht.nodup hg
 obtain ⟨hl,rfl⟩:=List.getElem?_eq_some_iff.1 hi
 obtain ⟨A,rfl⟩:=List.getElem?_eq_some_iff.1 hk
 have D:=List.pairwise_iff_getElem.1 C (x-1) x A hl I
 unfold List.Nodup at B
 have E:=List.pairwise_iff_getElem.1 B (x-1) x A hl I
 omega
/-- who is looked at was not seen -/
theorem ly.new (ht:ly r G) (hg:G[a]? =some g) (hi:g[x]? =some i):i ∉ (G.take a).flatten++g.take x:=by
 intro hm
 obtain ⟨hl,rfl⟩:=List.getElem?_eq_some_iff.1 hi
 obtain ⟨ha,e⟩:=List.getElem?_eq_some_iff.1 hg
 have A:=ht.nd
 have C:=ht.nodup hg
 unfold List.Nodup at A C
 rw [List.pairwise_flatten] at A
 rcases List.mem_append.1 hm with q|q
 ·obtain ⟨y,hy,B⟩:=List.mem_flatten.1 q
  obtain ⟨j,hj,ej⟩:=List.mem_iff_getElem.1 hy
  rw [List.length_take] at hj
  rw [List.getElem_take] at ej
  have D:=List.pairwise_iff_getElem.1 A.2 j a I ha I
  rw [ej,e] at D
  exact D _ B _ (List.getElem_mem hl) U
 ·obtain ⟨j,hj,ej⟩:=List.mem_iff_getElem.1 q
  rw [List.length_take] at hj
  rw [List.getElem_take] at ej
  exact List.pairwise_iff_getElem.1 C j x I hl I ej
theorem ly.before (ht:ly r G) (he:cK r=0) (hg:G[a]? =some g) (hh:G[a+1]? =some h) (hi:i∈g) (hk:k∈h):l7 r i k=0∧ov r i k=2:=by
 obtain ⟨x,hx⟩:=List.getElem?_of_mem hi
 obtain ⟨y,hy⟩:=List.getElem?_of_mem hk
 obtain ⟨s,hs⟩:=ht.runs hg hx
 obtain ⟨t,A⟩:=ht.runs hh hy
 obtain ⟨ha,eg⟩:=List.getElem?_eq_some_iff.1 hg
 obtain ⟨hb,eh⟩:=List.getElem?_eq_some_iff.1 hh
 have D:=List.pairwise_iff_getElem.1 ht.ok.apart a (a+1) ha hb I
 rw [eg,eh] at D
 have C:=D i hi k hk
 have F:aA (aF r) i=s:=by unfold aA; rw [hs]; rfl
 have AA:aA (aF r) k=t:=by unfold aA; rw [A]; rfl
 have E:i≠k:=fun e=>by
  subst e
  have:=(FB he).at hs
  rw [hs] at A; cases A
  rw [F] at C; omega
 have B: ∀ {i:Int} {s:aa},(aF r).lookup i=some s→rz r i:=fun {i s} e=>by
  obtain ⟨q,D,C,H⟩:=uP (sK e)
  unfold rz; simp only at C; omega
 have e:l7 r i k=0:=by unfold l7; rw [if_pos he,if_pos ⟨B hs,B A,E⟩,hs,A]; simp
 exact ⟨e,by unfold ov; rw [if_pos e]; unfold vK; rw [if_pos C]⟩
/-- some of a group are not all before all others -/
theorem ly.part (ht:ly r G) (he:cK r=0) (hg:G[a]? =some g) {s:Nat} (h0:1≤s) (h1:s+1<2^g.length)
 (h: ∀ (x y:Nat) i k,g[x]? =some i→g[y]? =some k→s/2^x % 2=1→s/2^y % 2=0→ov r i k=2):False:=by
 refine DU (ht.ok.tight g (aR hg)) (fun i hi=>?_) h0 h1 fun x y i k hx hy B C=>?_
 ·obtain ⟨x,hx⟩:=List.getElem?_of_mem hi
  obtain ⟨s,hs⟩:=ht.runs hg hx
  have A:aA (aF r) i=s:=by unfold aA; rw [hs]; rfl
  rw [A]; exact (FB he).at hs
 ·have e:=h x y i k hx hy B C
  unfold ov at e
  split at e
  ·unfold vK at e
   split at e
   ·assumption
   ·split at e<;>cases e
  ·cases e
theorem Qt (he:cK r=0):ly r (cd r):=by
 obtain ⟨G,A,B⟩:=s8 he
 have e:=qt he A B
 rw [← e]
 exact ⟨A,B,A.perm.nodup_iff.2 nz⟩
theorem ly.count (ht:ly r G):G.flatten.length=(aF r).length:=by
 have:=ht.ok.perm.length_eq
 rw [List.length_map] at this; exact this
end
def lG (r:bT) (g:List Int) (s x y:Nat) (p:Bool):Prop:=p=true→ ∀ (u v:Nat) (i k:Int),(u<x∨(u=x∧v<y))→g[u]? =some i→g[v]? =some k→s/2^u % 2=1→s/2^v % 2=0→ov r i k=2
section
variable {r:bT} {g:List Int} {s x y:Nat} {p:Bool} {i k:Int}
theorem HH:lG r g s 0 0 true:=fun _ u v i k h=>by omega
theorem I0 (h:lG r g s x y p) (hy:g.length≤y):lG r g s (x+1) 0 p:=fun hp u v i k hu gi gk=>by
 have hv:=(List.getElem?_eq_some_iff.1 gk).1
 exact h hp u v i k I gi gk
theorem oP (h:lG r g s x y p) (hb:s/2^x % 2=0∨s/2^y % 2=1):lG r g s x (y+1) p:=fun hp u v i k hu gi gk A B=>by
 by_cases c:u=x∧v=y
 ·obtain ⟨rfl,rfl⟩:=c; omega
 ·exact h hp u v i k I gi gk A B
theorem sV:lG r g s x y false:=fun h=>by cases h
theorem qo (h:lG r g s x y p) (hp:p=true) (hx:g[x]? =some i) (hy:g[y]? =some k):lG r g s x (y+1) (decide (ov r i k=2)):=fun hb u v i' k' hu gi gk A B=>by
 by_cases c:u=x∧v=y
 ·obtain ⟨rfl,rfl⟩:=c
  rw [hx] at gi; rw [hy] at gk
  cases gi; cases gk
  exact of_decide_eq_true hb
 ·exact h hp u v i' k' I gi gk A B
theorem JI {G:List (List Int)} {a:Nat} (ht:ly r G) (he:cK r=0) (hg:G[a]? =some g) (h0:1≤s) (h1:s+1<2^g.length) (h:lG r g s x y p) (hx:g.length≤x):p=false:=by
 cases p with
 |false=>rfl
 |true=>exact (ht.part he hg h0 h1 fun u v i k gi gk A B=>h rfl u v i k (by have:=(List.getElem?_eq_some_iff.1 gi).1; omega) gi gk A B).elim
end
theorem ly.small {r:bT} {G:List (List Int)} {g:List Int} {a:Nat} (ht:ly r G) (he:cK r=0) (hg:G[a]? =some g):g.length≤5:=by
 have A:=(List.sublist_flatten_of_mem (aR hg)).length_le
 have B:=ht.count
 have C:=mo he
 omega
theorem Kb {G:List (List Int)} {g:List Int} {a:Nat} (hg:G[a]? =some g):(G.take a).flatten++g=(G.take (a+1)).flatten:=by
 rw [List.take_add_one,hg,List.flatten_append]; simp
end
section
open Go.RowKit
section
variable {P:Program} {t:TypeId} {x y:Operand}
theorem KI {s i:Nat} {j:Int} {yk:IntKind} (hj:j=(i:Int)) (hi:i≤64):gP P .shr t x y (.int .i64 (s:Int)) (.int yk j) (.int .i64 ((s/2^i:Nat):Int)):=fun w=>by
 subst hj
 have B: ¬ ((i:Int)<0):=by omega
 have C:min i 64=i:=by omega
 have e:Int.fdiv (s:Int) (2^i)=((s/2^i:Nat):Int):=by
  rw [Int.fdiv_eq_ediv_of_nonneg _ (Int.pow_nonneg I)]
  rw [Int.natCast_ediv]; simp
 have A:Op.shift .shr .i64 (s:Int) yk (i:Int)=(pure (.int .i64 ((s/2^i:Nat):Int)):Sem Value):=by
  unfold Op.shift
  rw [if_neg B]
  show (pure (.int .i64 (Int.fdiv (s:Int) (2^(min (i:Int).toNat 64)))):Sem Value)=_
  rw [Int.toNat_natCast,C,e]
 simp only [eqGuard_shr,binOp_shr,A]
 rfl
theorem PW {i:Nat} {j:Int} {yk:IntKind} (hj:j=(i:Int)) (hi:i≤62):gP P .shl t x y (.int .i64 1) (.int yk j) (.int .i64 ((2^i:Nat):Int)):=fun w=>by
 subst hj
 have B: ¬ ((i:Int)<0):=by omega
 have C:min i 64=i:=by omega
 have hp:(2^i:Nat)≤4611686018427387904:=Nat.pow_le_pow_right (n:=2) I hi
 have hw:IntKind.i64.wrap ((2:Int)^i)=((2^i:Nat):Int):=by
  have:((2^i:Nat):Int)=(2:Int)^i:=by simp
  rw [← this]
  generalize (2^i:Nat)=q at hp
  exact lY ⟨I,I⟩
 have A:Op.shift .shl .i64 1 yk (i:Int)=(pure (.int .i64 ((2^i:Nat):Int)):Sem Value):=by
  unfold Op.shift
  rw [if_neg B]
  show (pure (.int .i64 (IntKind.i64.wrap (1*2^(min (i:Int).toNat 64)))):Sem Value)=_
  rw [Int.toNat_natCast,C,Int.one_mul,hw]
 simp only [eqGuard_shl,binOp_shl,A]
 rfl
theorem Oc {m:Nat} (hm:m<2^63):((BitVec.ofInt 64 (m:Int)) &&& (BitVec.ofInt 64 1)).toNat=m % 2:=by
 have A:BitVec.ofInt 64 (m:Int)=BitVec.ofNat 64 m:=by simp
 have B:BitVec.ofInt 64 1=BitVec.ofNat 64 1:=by rfl
 rw [A,B,BitVec.toNat_and,BitVec.toNat_ofNat,BitVec.toNat_ofNat,Nat.mod_eq_of_lt I,show 1 % 2^64=1 by rfl,Nat.and_one_is_mod]
theorem Mb {m:Nat} {a:Int} (ha:a=(m:Int)) (hm:m<2^63):gP P .and t x y (.int .i64 a) (.int .i64 1) (.int .i64 ((m % 2:Nat):Int)):=fun w=>by
 subst ha
 have h:=Oc hm
 have hw:IntKind.i64.wrap (((m % 2:Nat)):Int)=((m % 2:Nat):Int):=lY ⟨I,I⟩
 have e:Op.intBits .and .i64 (m:Int) 1=(pure (.int .i64 ((m % 2:Nat):Int)):Sem Value):=by
  show (pure (.int .i64 (IntKind.i64.wrap (((BitVec.ofInt 64 (m:Int)) &&& (BitVec.ofInt 64 1)).toNat:Int))):Sem Value)=_
  rw [h,hw]
 simp [eqGuard_and,binOp_and,e]
theorem qD {e:TypeId} {a:OA} {n c:Nat} (ht:P.underlying t=some (.slice e)):gP P .eql t x y (.slice a n c) (.slice none 0 0) (.bool (decide (a=none))):=fun w=>by
 have A:(Op.equal t (.slice a n c) (.slice none 0 0)).run P w= .ok (decide (a=none)) w:=by
  unfold Op.equal
  show (Op.equalIn (9999+1) t (.slice a n c) (.slice none 0 0)).run P w=_
  unfold Op.equalIn
  cases a<;>simp [run_underlying ht]
 have B:eqGuard .eql t x y (.slice a n c) (.slice none 0 0)=pure ():=rfl
 rw [B]
 show (Sem.run P (do let b ← Op.equal t (.slice a n c) (.slice none 0 0); pure (vB b)) w)=_
 simp [A]
end
section
variable {E:eY} {ops:Array Oper} {Q:cU} {rest:List Oper} {D:List Deferred} {L:List (Nat×Value)} {C:List aq}
variable {dst:Option Tmp} {d:Nat} {ty:TypeId} {ps:String} {af:Array Edge} {g:Option (Nat×Bool)}
/-- a row that lies nowhere is empty -/
theorem ml {a:OA} {n sz:Nat} {es:List (List Value)} (hR:il C (rd a n sz es).holds) (ha:a=none) (hz:0<sz) (k:es=[]→RJ E ops Q rest D L C):RJ E ops Q rest D L C:=fun act w hf hs=>by
 refine k ?_ act w hf hs
 obtain ⟨F,G,B⟩:=hs.has hR
 rcases Nat.eq_zero_or_pos (n*sz) with h|h
 ·have:n=0:=by
   rcases Nat.mul_eq_zero.1 h with h|h
   ·exact h
   ·omega
  exact jD I
 ·obtain ⟨ad,A,_⟩:=B h
  rw [ha] at A; cases A
theorem LG {a:OA} {c e sz:Nat} {es:List (List Value)} (i:Nat) (hC:C[i]? =some (own a c e sz es)) (k:es.length≤c→RJ E ops Q rest D L C):RJ E ops Q rest D L C:=fun act w hf hs=>
 k (F_ (hs.holds _ (aR hC))) act w hf hs
theorem j8 {A:aq} (i:Nat) (h:C[i]? =some A.ro):il C A.holds:=fun w hw=>by
 have B:=hw A.ro (aR h)
 exact B
/-- the end of a row is set to zero: it is no more of it -/
theorem M3 {x:Operand} {t e sz by_ k n c c':Nat} {z:Value} {a:OA} {es:List (List Value)} (i:Nat) (hg:ju ops L g=true) (hx:ev L x=some (.slice (zX a c k sz) (n-k) c')) (ht:tA E.P t=some (e,sz,by_,z)) (hz1: ∀ v∈z.cells.toList,v.oneCell'=true)
 (hC:C[i]? =some (own a c e sz es)) (hn:n=es.length) (hk:k≤n) (K:RJ E ops Q rest D L (C.set i (own a c e sz (es.take k)))):
 RJ E ops Q (⟨none,.call {callee:= .builtin .clear,args:= #[x],argTypes:= #[t]},ty,ps,af,g⟩::rest) D L C:=by
 intro act w A F
 obtain ⟨inf,hu,hi,f,h3,h4,s⟩:=Ey ht
 unfold rD
 rw [if_pos (dK A hg)]
 subst hn
 obtain ⟨W,N⟩:(own a c e sz es).holds w:=F.holds _ (aR hC)
 have B: ∀ y∈es.take k,y.length=sz:=fun y hy=>W y (List.mem_of_mem_take hy)
 have V:(es.take k).flatten=es.flatten.take (k*sz):=by
  have h:=List.take_append_drop k es
  have l:es.flatten=(es.take k).flatten++(es.drop k).flatten:=by rw [← List.flatten_append,h]
  have m:(es.take k).flatten.length=k*sz:=by rw [iz B,List.length_take]; congr 1; omega
  rw [l,← m,List.take_left]
 by_cases r:es.length-k=0
 ·have AA:es.take k=es:=List.take_of_length_le I
  refine gJ sm (w':=w) (v:= .tuple #[]) ?_ ?_
  ·rw [r] at hx
   cases hs:zX a c k sz with
   |none=>rw [hs] at hx; simp [execOp,resolve,invoke,builtin,Builtin.clear_,A.ev hx,run_underlying hu]
   |some q=>rw [hs] at hx; simp [execOp,resolve,invoke,builtin,Builtin.clear_,A.ev hx,run_underlying hu]
  ·rw [AA] at K
   exact K _ _ A (by
    have:C.set i (own a c e sz es)=C:=by
     apply List.ext_getElem?
     intro q
     rw [List.getElem?_set]
     by_cases j:i=q
     ·subst j; rw [if_pos rfl,if_pos (List.getElem?_eq_some_iff.1 hC).1,hC]
     ·rw [if_neg j]
    rw [this]; exact F)
 ·rcases N.2 with ⟨l,m⟩|⟨gg,cap,cur,hv,AC,M,Y,T,J,G⟩
  ·omega
  ·injection hv with Z AO d
   subst Z d
   have R:zX (some (⟨gg,0,none⟩:Addr)) c k sz=some ⟨gg,k*sz,none⟩:=by
    unfold zX; rw [if_neg I]; simp [Addr.add_lit]
   rw [R] at hx
   have H:(Builtin.zeroCells z.cells (es.length-k)).toList.length=(es.length-k)*sz:=by
    rw [Array.length_toList,size_zeroCells,s]
   have p:k*sz+(es.length-k)*sz=es.length*sz:=by rw [← Nat.add_mul]; congr 1; omega
   have o:es.length*sz≤cur.size:=by rw [J]; exact Nat.mul_le_mul_right _ Y
   have h1': ∀ v∈(Builtin.zeroCells z.cells (es.length-k)).toList,v.oneCell'=true:=fun v hv=>by
    refine hz1 v ?_
    simp [Builtin.zeroCells] at hv
    obtain ⟨q,hq,hv⟩:=hv
    have O:0<z.cells.size:=by
     rcases Nat.eq_zero_or_pos z.cells.size with AB|AB
     ·rw [AB] at hq; simp at hq
     ·exact AB
    have X:q % z.cells.size<z.cells.size:=Nat.mod_lt _ O
    rw [getElem!_pos z.cells _ X] at hv
    rw [← hv]; simp
   have hst':=run_storeCells_at E.P gg (k*sz) e (Builtin.zeroCells z.cells (es.length-k)).toList 0 cur w M (by rw [H]; omega) h1'
   simp only [Nat.add_zero] at hst'
   obtain ⟨q,hq⟩: ∃ q,es.length-k=q+1:=⟨es.length-k-1,I⟩
   refine gJ sm (w':=w.setRow gg (cur.toList.take (k*sz)++(Builtin.zeroCells z.cells (es.length-k)).toList++cur.toList.drop (k*sz+(Builtin.zeroCells z.cells (es.length-k)).toList.length)).toArray) (v:= .tuple #[]) ?_ ?_
   ·rw [hq] at hx hst' ⊢
    simp [execOp,resolve,invoke,builtin,Builtin.clear_,A.ev hx,run_underlying hu,zeroValue,typeInfo,hi,f,hst']
   ·refine K _ _ A ?_
    refine F.move i hC (row:=some gg) (fun b hb=>by cases hb; exact ⟨_,rfl,rfl⟩) rfl ⟨rfl,rfl,rfl,sm,fun k' _ hk'=>setRow_other w gg k' _ (fun e=>hk' (by simp [e]))⟩ (fun y hy=>by
     obtain ⟨ad,AB,rfl⟩:=hy
     cases AB; exact .inl rfl) ?_
    refine ⟨B,?_,.inr ⟨gg,c,_,U,Nat.zero_le _,setRow_heap w gg cur _ e _ M,?_,T,?_,?_⟩⟩
    ·exact iz B
    ·rw [List.length_take]; omega
    ·simp only [List.size_toArray,List.length_append,List.length_take,List.length_drop,Array.length_toList,H]
     have:=J
     simp only [Array.length_toList] at H
     omega
    ·have u:(es.take k).length*sz=k*sz:=by rw [List.length_take]; congr 1; omega
     have S:(cur.toList.take (k*sz)).length=k*sz:=by rw [List.length_take,Array.length_toList]; omega
     rw [u,V,← G,List.take_take,Nat.min_eq_left I]
     show List.take (k*sz) (_++_++_)=_
     rw [List.append_assoc,List.take_left' S]
end
end
section
open Go.RowKit
theorem oR (n lo hi:Int):
 dT Tryz.prog 151 [(vI n),(vI lo),(vI hi)] [] (vB (decide (lo≤n∧n≤hi))):=by
 refine bx kr Tryz.func151 U U fun D Q hQ hN=>?_
 try dsimp only
 refine WS fun _ B=>bf 1 U<|RK B<|WS fun _ A=>rP 4 [] mn ?_
 refine cQ (t:=10) U (aL fun C=>?_) (aM fun C=>?_)
 ·refine rP 5 [] mn ?_
  refine RK A<|an<|Q1 hQ U U U ?_
  exact cB (decide_eq_decide.2 I)
 refine rP 5 [] mn ?_
 refine RK A<|an<|Q1 hQ U U U ?_
 exact cB (cf I).symm
theorem pz (s:aa) (lo hi:Int):
 dT Tryz.prog 152 [(vA (aa.cells s)),(vI lo),(vI hi)] [] (vB (decide (s.Lo≤s.Hi∧lo≤s.Lo∧s.Hi≤hi))):=by
 refine bx kr Tryz.func152 U U fun E Q hQ hN=>?_
 try dsimp only
 refine WS fun _ B=>fM U fun D=>bf 1 U<|RK B<|WS fun _ A=>fw 5 [] (mc 0 U mn) U<|rS (CL (oR s.Lo lo s.Hi) (aI) U)<|rP 1 [] mn ?_
 refine b_ (t:=13) U (aM fun C=>?_) (aL fun C=>?_)
 ·refine rP 6 [] mn ?_
  refine RK A<|an<|Q1 hQ U U U ?_
  exact cB (cf I).symm
 refine rP 6 [] (mc 0 U mn) ?_
 refine RK A<|an<|Q1 hQ U U U ?_
 exact cB (decide_eq_decide.2 I)
theorem M6 (t:List al) (tA:OA) (tC:Nat):
 dT Tryz.prog 110 [(vA (bE.cells (bE.mk (br.mk tA t.length tC))))] [(rd tA t.length 9 (t.map al.cells))] (vB (decide (20<(t.length:Int)))):=by
 refine bx kr Tryz.func110 U U fun D Q hQ hN=>?_
 try dsimp only
 refine WS fun _ A=>fM U fun C=>bf 1 U<|RK A<|WS fun _ B=>rP 5 [] (mc 0 U mn) ?_
 refine RK B<|an ?_
 exact Q1 hQ U U U U
theorem Oe (l:List Int) (lA:OA) (lC:Nat) (f:Value) (p:Int→Bool) (X:aq) (hf: ∀ x0,x0∈l→EB Tryz.prog f [.int .i64 x0] [X] (.bool (p x0))) (hlen:l.length≤1000000):
 dT Tryz.prog 86 [(vS lA l.length lC),f] [(rd lA l.length 1 (l.map iC)),X] (vI (sQ p l)):=by
 refine bx kr Tryz.func86 U U fun R Q hQ hN=>?_
 try dsimp only
 refine WS fun _ G=>bf 1 U<|RK G<|ah fun _ H=>WS fun _ AA=>rP 3 [] mn ?_
 refine RK AA<|av ?_
 have B:(0≤l.length)∧((l.take 0).any p=false):=by simp
 refine bH (ι:={z:Nat // (z≤l.length)∧((l.take z).any p=false)}) [0,1,7] [0,1] U U (fun z=>[(8,(vI (z.1:Int)))]) (fun z=>[]) (fun _=>rfl) (fun _=>rfl) (fun z=>l.length-z.1) ⟨0,B⟩ (aT U) (aH [0,1]) ?_
 clear B
 rintro ⟨i,⟨N,A⟩⟩ J4 F
 try dsimp only
 refine WS fun _ J=>rP 1 [] mn ?_
 refine RK J<|ah fun _ K=>bK U (aM fun P=>?_) (aL fun P=>?_)
 ·refine bu<|ab<|ab<|au<|KK H<|WS fun _ E=>rP 1 [] mn ?_
  refine RK E<|an<|Q1 hQ U U U ?_
  exact cI (sB I A).symm
 refine WK K<|ah fun _ L=>av<|WS fun _ M=>bf 2 U<|RK M<|WS fun _ C=>rP 3 [] mn ?_
 obtain ⟨x,hx⟩:=aJ l i I
 have O:=bG iC hx
 refine rS (IA i U (aD 0 U) cp dc I I)<|rS (fV i 0 (vI x) U bX (aD 0 U) O U dc U)<|rS (SX (sx U U U (hf x (aR hx)) (bj [1])) U U)<|RK C<|cy U (fun hp=>?_) (fun hp=>?_)
 ·refine WS fun _ D=>rP 2 [] mn ?_
  refine RK D<|an<|Q1 hQ U U U ?_
  exact cI (wq hx hp A).symm
 refine bZ<|aG<|KK L<|aj<|rP 2 [] mn ?_
 refine aC ?_
 refine aS (F ⟨(i+1),⟨I,wT hx A hp⟩⟩ _ _ _ U os (aT U) (aH [0,1]))
theorem rY (l:List Int) (lA:OA) (lC:Nat) (f:Value) (p:Int→Bool) (X:aq) (hf: ∀ x0,x0∈l→EB Tryz.prog f [.int .i64 x0] [X] (.bool (p x0))) (hlen:l.length≤1000000):
 dT Tryz.prog 63 [(vS lA l.length lC),f] [(rd lA l.length 1 (l.map iC)),X] (vB (l.any p)):=by
 refine bx kr Tryz.func63 U U fun C Q hQ hN=>?_
 try dsimp only
 refine WS fun _ A=>bf 1 U<|RK A<|WS fun _ B=>bf 2 U<|rS (CL (Oe l lA lC f p X (by exact hf) hlen) (bj [0,1]) U)<|rP 2 [] mn ?_
 refine RK B<|an<|Q1 hQ U U U ?_
 exact cB uo
theorem G5 (n lo hi:Int) (g1 g2:Nat):
 dT Tryz.prog 139 [(vI n),(vP g1),(vP g2)] [(bV g1 3 [(vI lo)]),(bV g2 3 [(vI hi)])] (vB (decide (n<lo∨hi<n))):=by
 refine bx kr Tryz.func139 U U fun D Q hQ hN=>?_
 try dsimp only
 refine WS fun _ B=>bf 1 U<|RK B<|WS fun _ A=>rP 4 [] (mr 0 U mn) ?_
 refine cQ (t:=8) U (aL fun C=>?_) (aM fun C=>?_)
 ·refine rP 5 [] mn ?_
  refine RK A<|an<|Q1 hQ U U U ?_
  exact cB (fI I).symm
 refine rP 5 [] (mr 1 U mn) ?_
 refine RK A<|an<|Q1 hQ U U U ?_
 exact cB (decide_eq_decide.2 I)
theorem o3 (lo hi:Int) (l:List Int) (lA:OA) (lC:Nat) (hlen:l.length≤1000000):
 dT Tryz.prog 113 [(vI lo),(vI hi),(vS lA l.length lC)] [(rd lA l.length 1 (l.map iC))] (vB (pW lo hi l)):=by
 refine bx kr Tryz.func113 U U fun F Q hQ hN=>?_
 try dsimp only
 refine WS fun _ D=>uc U U fun A=>uc U U fun B=>bf 1 U<|RK D<|WS fun _ E=>rP 1 [] mn ?_
 refine rS (FU U) ?_
 refine rS (CL (rY l lA lC (Value.func (.func 139) [].toArray [(vP A),(vP B)].toArray) (fun C=>(decide (C<lo∨hi<C))) (eX [(bV A 3 [(vI lo)]),(bV B 3 [(vI hi)])]) (by intro C _; exact nE (fi:=[]) (ca:=[(vP A),(vP B)]) (l0 (G5 C lo hi A B) (bj [0,1]))) hlen) (fD 2 U U<|aw (l5 (bj [1,0]))<|aI) U) ?_
 refine rP 2 [] mn ?_
 refine RK E<|an ?_
 exact Q1 hQ U U U U
theorem vU (s:aa) (lo hi:Int):
 dT Tryz.prog 114 [(vA (aa.cells s)),(vI lo),(vI hi)] [] (vB (decide (s.Lo≤s.Hi∧lo≤s.Lo∧s.Hi≤hi))):=by
 refine bx kr Tryz.func114 U U fun F Q hQ hN=>?_
 try dsimp only
 refine WS fun _ B=>fM U fun E=>bf 1 U<|RK B<|WS fun _ A=>rP 6 [] (mc 0 U mn) ?_
 refine cY (xs:=[.tmp 10,.tmp 12]) (cs:=[(vI s.Lo),(vI s.Hi)]) U cp jf U U U U (by simp [Value.cells]) U U fun C=>?_
 refine rS (CL (dT.eq (o3 lo hi ([s.Lo,s.Hi]) (some ⟨C,0,none⟩) 2 (by (simp; done))) rf) (aw (aZ 0 U U (by simp [bB]) U)<|aI) U) ?_
 refine rP 1 [] mn ?_
 refine b_ (t:=15) U (aM fun D=>?_) (aL fun D=>?_)
 ·refine rP 7 [] mn ?_
  refine RK A<|an<|Q1 hQ U U U ?_
  exact cB (cf I).symm
 refine rP 7 [] (mc 1 U mn) ?_
 refine RK A<|an<|Q1 hQ U U U ?_
 exact cB (decide_eq_decide.2 I)
theorem vZ (ts:List al) (tsA:OA) (tsC:Nat) (hlen:ts.length≤1000000):
 dT Tryz.prog 135 [(vA (bE.cells (bE.mk (br.mk tsA ts.length tsC))))] [(rd tsA ts.length 9 (ts.map al.cells))] (vB (cT ts)):=by
 refine bx kr Tryz.func135 U U fun w0 Q hQ hN=>?_
 try dsimp only
 refine WS fun _ C3=>fM U fun b2=>bf 1 U<|RK C3<|ah fun _ Di=>WS fun _ Do=>fw 3 [] (mc 0 U mn) U<|rS (CL (oR (ts.length:Int) 1 12) (aI) U)<|rP 1 [] mn ?_
 refine RK Do<|cy U (bp fun h5=>?_) (bq fun h5=>?_)
 ·refine WS fun _ Dt=>rP 1 [] mn ?_
  refine RK Dt<|an<|Q1 hQ U U U ?_
  exact cB (nX I).symm
 refine WK Di<|ah fun _ EQ=>WS fun _ Eq=>rP 1 [] mn ?_
 refine RK Eq<|av ?_
 have E:(0≤ts.length)∧(eJ (-1) ts=eJ (fX ts 0) (ts.drop 0))∧(-1≤fX ts 0):=by (refine ⟨I,rfl,by simp [fX]⟩)
 refine bH (ι:={z:Nat // (z≤ts.length)∧(eJ (-1) ts=eJ (fX ts z) (ts.drop z))∧(-1≤fX ts z)}) [1] [0,1] U U (fun z=>[(3,(vI (z.1:Int)))]) (fun z=>[]) (fun _=>rfl) (fun _=>rfl) (fun z=>ts.length-z.1) ⟨0,E⟩ (aT U) (aH [0,1]) ?_
 clear E
 rintro ⟨i,⟨FS,A,Fd⟩⟩ J9 D
 try dsimp only
 have hz:i=0→fX ts i= -1:=Bd
 refine ah fun _ K=>WS fun _ L=>rP 5 [] (mc 0 U mn) ?_
 refine RK L<|bK U (aM fun v=>?_) (aL fun v=>?_)
 ·refine bu<|ab<|ab<|au<|KK EQ<|WS fun _ u=>rP 1 [] mn ?_
  refine RK u<|an<|Q1 hQ U U U ?_
  exact cB (vi A I I).symm
 refine WK K<|ah fun _ C=>av<|WS fun _ M=>rP 3 [] (mc 0 U mn) ?_
 obtain ⟨x,hx⟩:=aJ ts i I
 have Fn:=bG al.cells hx
 refine rS (IA i U (aD 1 U) yj dc I I)<|rS (oH i 0 (al.cells x) U bX (aD 1 U) Fn U dc U U)<|AL U FF fun GT=>fP U IC U<|RK M<|ah fun _ F=>ah fun _ B=>dB cu 38 kr<|mP 2 [] (mc 0 U mn) U<|dS (CL (oR x.Id 0 9999) (aI) U)<|dP 2 [] mn ?_
 refine iX (t:=26) U (bp fun w=>?_) (bq fun w=>?_)
 ·refine lH 11 U<|lH 22 U<|cM<|RK B<|aO U<|WS fun _ N=>rP 1 [] mn ?_
  refine RK N<|an<|Q1 hQ U U U ?_
  exact cB (dF A hx (by simp only [bJ,dI]; omega)).symm
 refine dP 3 [] mn ?_
 refine jk (t:=29) U (aM fun AC=>?_) (aL fun AC=>?_)
 ·refine lH 8 U<|lH 6 U<|dS (LP (aa.cells x.kD) 0 U bX U U U)<|dS (CL (pz x.kD 1 30000) (aI) U)<|dP 3 [] mn ?_
  refine iX (t:=48) U (bp fun Bi=>?_) (bq fun Bi=>?_)
  ·refine lH 11 U<|cM<|RK B<|aO U<|WS fun _ e=>rP 1 [] mn ?_
   refine RK e<|an<|Q1 hQ U U U ?_
   exact cB (dF A hx (by simp only [bJ,dI]; omega)).symm
  refine lH 1 U<|dS (LP (aa.cells x.lP) 0 U bX U U U)<|dS (CL (pz x.lP 0 5000) (aI) U)<|dP 3 [] mn ?_
  refine iX (t:=54) U (bp fun B3=>?_) (bq fun B3=>?_)
  ·refine lH 5 U<|cM<|RK B<|aO U<|WS fun _ f=>rP 1 [] mn ?_
   refine RK f<|an<|Q1 hQ U U U ?_
   exact cB (dF A hx (by simp only [bJ,dI]; omega)).symm
  refine mP 2 [] (mc 0 U mn) U<|dS (CL (oR x.Al 0 5000) (aI) U)<|dP 2 [] mn ?_
  refine cM<|RK B<|cy U (bp fun B7=>?_) (bq fun B7=>?_)
  ·refine WS fun _ g=>rP 1 [] mn ?_
   refine RK g<|an<|Q1 hQ U U U ?_
   exact cB (dF A hx (by simp only [bJ,dI]; omega)).symm
  refine WK F<|WS fun _ h=>fw 2 [] (mc 0 U mn) U<|RK h<|av<|WS fun _ j=>rS (BI U lx)<|rP 1 [] mn ?_
  refine RK j<|cy U (aL fun B9=>?_) (aM fun B9=>?_)
  ·refine WS fun _ AB=>rP 5 [] (mc 0 U mn) ?_
   refine cQ (t:=68) U (bp fun Ci=>?_) (bq fun Ci=>?_)
   ·refine bf 5 U<|RK AB<|aO U<|WS fun _ k=>rP 1 [] mn ?_
    refine RK k<|an<|Q1 hQ U U U ?_
    exact cB (dF A hx (by simp only [bJ,dI]; omega)).symm
   refine rP 5 [] (mc 0 U mn) ?_
   refine RK AB<|bK U (bq fun Ck=>?_) (bp fun Ck=>?_)
   ·refine bZ<|aG<|aG<|KK C<|aj<|rP 3 [] mn ?_
    refine aC ?_
    refine aS (D ⟨(i+1),⟨I,gN A hx (by simp only [bJ,dI]; omega),by rw [fT hx]; omega⟩⟩ _ _ _ U os (aT U) (aH [1,2]))
   refine WS fun _ l=>rP 1 [] mn ?_
   refine RK l<|an<|Q1 hQ U U U ?_
   exact cB (dF A hx (by simp only [bJ,dI]; omega)).symm
  refine ah fun _ J=>WS fun _ m=>rS (BI U lx)<|rP 1 [] mn ?_
  refine RK m<|cy U (aL fun Cp=>?_) (aM fun Cp=>?_)
  ·refine WK J<|bK U (aM fun Cx=>?_) (aL fun Cx=>?_)
   ·refine WS fun _ p=>rP 1 [] mn ?_
    refine RK p<|an<|Q1 hQ U U U ?_
    exact cB (nX I).symm
   refine WS fun _ n=>bf 1 U<|rS (LP (aa.cells x.eG) 0 U bX U U U)<|rS (CL (pz x.eG 500 20000) (aI) U)<|rP 1 [] mn ?_
   refine RK n<|bK U (bq fun C0=>?_) (bp fun C0=>?_)
   ·refine bZ<|aG<|aG<|KK C<|aj<|rP 3 [] mn ?_
    refine aC ?_
    refine aS (D ⟨(i+1),⟨I,gN A hx (by simp only [bJ,dI]; omega),by rw [fT hx]; omega⟩⟩ _ _ _ U os (aT U) (aH [1,2]))
   refine WS fun _ o=>rP 1 [] mn ?_
   refine RK o<|an<|Q1 hQ U U U ?_
   exact cB (dF A hx (by simp only [bJ,dI]; omega)).symm
  refine aj<|rS (BI U lx)<|rP 1 [] mn ?_
  refine RK J<|bK U (aM fun C1=>?_) (aL fun C1=>?_)
  ·refine WS fun _ s=>rP 1 [] mn ?_
   refine RK s<|an<|Q1 hQ U U U ?_
   exact cB (dF A hx (by simp only [bJ,dI]; omega)).symm
  refine WS fun _ q=>bf 1 U<|rS (LP (aa.cells x.eG) 0 U bX U U U)<|rS (CL (pz x.eG 500 20000) (aI) U)<|rP 1 [] mn ?_
  refine RK q<|bK U (bq fun C2=>?_) (bp fun C2=>?_)
  ·refine bZ<|aG<|aG<|KK C<|aj<|rP 3 [] mn ?_
   refine aC ?_
   refine aS (D ⟨(i+1),⟨I,gN A hx (by simp only [bJ,dI]; omega),by rw [fT hx]; omega⟩⟩ _ _ _ U os (aT U) (aH [1,2]))
  refine WS fun _ r=>rP 1 [] mn ?_
  refine RK r<|an<|Q1 hQ U U U ?_
  exact cB (dF A hx (by simp only [bJ,dI]; omega)).symm
 refine dP 6 [0,1] (mc 0 U (mc 1 U mn)) ?_
 obtain ⟨y,hy⟩:=aJ ts (i-1) I
 have GE:=bG al.cells hy
 refine dS (IA (i-1) U (aD 2 U) yj dc I I)<|dS (nS ((i-1)*9) U (aD 2 U) (Nat.mul_pos I dc) fu U) ?_
 have Go:=Eu I hy
 refine dS (fV (i-1) 0 (vI y.Id) U bX (aD 2 U) GE U dc U)<|dP 4 [] mn ?_
 refine iX (t:=42) U (aL fun AO=>?_) (aM fun AO=>?_)
 ·refine lH 17 U<|cM<|RK B<|aO U<|WS fun _ O=>rP 1 [] mn ?_
  refine RK O<|an<|Q1 hQ U U U ?_
  exact cB (dF A hx (by simp only [bJ,dI]; omega)).symm
 refine lH 1 U<|dS (LP (aa.cells x.kD) 0 U bX U U U)<|dS (CL (pz x.kD 1 30000) (aI) U)<|dP 3 [] mn ?_
 refine iX (t:=48) U (bp fun Ah=>?_) (bq fun Ah=>?_)
 ·refine lH 11 U<|cM<|RK B<|aO U<|WS fun _ P=>rP 1 [] mn ?_
  refine RK P<|an<|Q1 hQ U U U ?_
  exact cB (dF A hx (by simp only [bJ,dI]; omega)).symm
 refine lH 1 U<|dS (LP (aa.cells x.lP) 0 U bX U U U)<|dS (CL (pz x.lP 0 5000) (aI) U)<|dP 3 [] mn ?_
 refine iX (t:=54) U (bp fun A0=>?_) (bq fun A0=>?_)
 ·refine lH 5 U<|cM<|RK B<|aO U<|WS fun _ R=>rP 1 [] mn ?_
  refine RK R<|an<|Q1 hQ U U U ?_
  exact cB (dF A hx (by simp only [bJ,dI]; omega)).symm
 refine mP 2 [] (mc 0 U mn) U<|dS (CL (oR x.Al 0 5000) (aI) U)<|dP 2 [] mn ?_
 refine cM<|RK B<|cy U (bp fun A1=>?_) (bq fun A1=>?_)
 ·refine WS fun _ S=>rP 1 [] mn ?_
  refine RK S<|an<|Q1 hQ U U U ?_
  exact cB (dF A hx (by simp only [bJ,dI]; omega)).symm
 refine WK F<|WS fun _ T=>fw 2 [] (mc 0 U mn) U<|RK T<|av<|WS fun _ AA=>rS (BI U lx)<|rP 1 [] mn ?_
 refine RK AA<|cy U (aL fun A2=>?_) (aM fun A2=>?_)
 ·refine WS fun _ G=>rP 5 [] (mc 0 U mn) ?_
  refine cQ (t:=68) U (bp fun A3=>?_) (bq fun A3=>?_)
  ·refine bf 5 U<|RK G<|aO U<|WS fun _ V=>rP 1 [] mn ?_
   refine RK V<|an<|Q1 hQ U U U ?_
   exact cB (dF A hx (by simp only [bJ,dI]; omega)).symm
  refine rP 5 [] (mc 0 U mn) ?_
  refine RK G<|bK U (bq fun A4=>?_) (bp fun A4=>?_)
  ·refine bZ<|aG<|aG<|KK C<|aj<|rP 3 [] mn ?_
   refine aC ?_
   refine aS (D ⟨(i+1),⟨I,gN A hx (by simp only [bJ,dI]; omega),by rw [fT hx]; omega⟩⟩ _ _ _ U os (aT U) (aH [1,2]))
  refine WS fun _ W=>rP 1 [] mn ?_
  refine RK W<|an<|Q1 hQ U U U ?_
  exact cB (dF A hx (by simp only [bJ,dI]; omega)).symm
 refine ah fun _ H=>WS fun _ X=>rS (BI U lx)<|rP 1 [] mn ?_
 refine RK X<|cy U (aL fun A5=>?_) (aM fun A5=>?_)
 ·refine WK H<|bK U (aM fun A6=>?_) (aL fun A6=>?_)
  ·refine WS fun _ a=>rP 1 [] mn ?_
   refine RK a<|an<|Q1 hQ U U U ?_
   exact cB (nX I).symm
  refine WS fun _ Y=>bf 1 U<|rS (LP (aa.cells x.eG) 0 U bX U U U)<|rS (CL (pz x.eG 500 20000) (aI) U)<|rP 1 [] mn ?_
  refine RK Y<|bK U (bq fun A7=>?_) (bp fun A7=>?_)
  ·refine bZ<|aG<|aG<|KK C<|aj<|rP 3 [] mn ?_
   refine aC ?_
   refine aS (D ⟨(i+1),⟨I,gN A hx (by simp only [bJ,dI]; omega),by rw [fT hx]; omega⟩⟩ _ _ _ U os (aT U) (aH [1,2]))
  refine WS fun _ Z=>rP 1 [] mn ?_
  refine RK Z<|an<|Q1 hQ U U U ?_
  exact cB (dF A hx (by simp only [bJ,dI]; omega)).symm
 refine aj<|rS (BI U lx)<|rP 1 [] mn ?_
 refine RK H<|bK U (aM fun A8=>?_) (aL fun A8=>?_)
 ·refine WS fun _ d=>rP 1 [] mn ?_
  refine RK d<|an<|Q1 hQ U U U ?_
  exact cB (dF A hx (by simp only [bJ,dI]; omega)).symm
 refine WS fun _ b=>bf 1 U<|rS (LP (aa.cells x.eG) 0 U bX U U U)<|rS (CL (pz x.eG 500 20000) (aI) U)<|rP 1 [] mn ?_
 refine RK b<|bK U (bq fun A9=>?_) (bp fun A9=>?_)
 ·refine bZ<|aG<|aG<|KK C<|aj<|rP 3 [] mn ?_
  refine aC ?_
  refine aS (D ⟨(i+1),⟨I,gN A hx (by simp only [bJ,dI]; omega),by rw [fT hx]; omega⟩⟩ _ _ _ U os (aT U) (aH [1,2]))
 refine WS fun _ c=>rP 1 [] mn ?_
 refine RK c<|an<|Q1 hQ U U U ?_
 exact cB (dF A hx (by simp only [bJ,dI]; omega)).symm
theorem Bu (ts:List al) (tsA:OA) (tsC:Nat) (hlen:ts.length≤1000000) (hside: ∀ x∈ts,0≤x.i_∧x.i_≤255):
 dT Tryz.prog 82 [(vA (bE.cells (bE.mk (br.mk tsA ts.length tsC))))] [(rd tsA ts.length 9 (ts.map al.cells))] (vI (if cT ts=true then 0 else 10)):=by
 refine bx kr Tryz.func82 U U fun w0 Q hQ hN=>?_
 try dsimp only
 refine WS fun _ v=>fM U fun b2=>bf 1 U<|RK v<|AK U<|ah fun _ w=>WS fun _ y=>rP 3 [] (mc 0 U mn) ?_
 refine cY (xs:=[.tmp 11]) (cs:=[(vI (ts.length:Int))]) U cp jf U U U U (by simp [Value.cells]) U U fun b5=>?_
 refine rS (CL (dT.eq (o3 1 12 ([(ts.length:Int)]) (some ⟨b5,0,none⟩) 1 (by (simp; done))) cS) (aw (aZ 0 U U (by simp [bB]) U)<|aI) U) ?_
 refine rP 1 [] mn ?_
 refine RK y<|cy U (bp fun h6=>?_) (bq fun h6=>?_)
 ·refine WS fun _ AC=>rP 1 [] mn ?_
  refine RK AC<|an<|Q1 hQ U U U ?_
  exact cI (if_neg (by rw [nX I]; decide)).symm
 refine WK w<|WS fun _ AO=>bf 1 U<|RK AO<|WS fun _ Ah=>bf 1 U<|RK Ah<|ah fun _ J=>z8<|KK J<|ah fun _ B=>WS fun _ K=>rP 4 [] (mc 1 U mn) ?_
 refine RK K<|av ?_
 have D:(0≤ts.length)∧(eJ (-1) ts=eJ (fX ts 0) (ts.drop 0))∧(-1≤fX ts 0)∧(fX ts 0≤9999):=by (refine ⟨I,rfl,by simp [fX],by simp [fX]⟩)
 refine bH (ι:={z:Nat // (z≤ts.length)∧(eJ (-1) ts=eJ (fX ts z) (ts.drop z))∧(-1≤fX ts z)∧(fX ts z≤9999)}) [1,4,16,17] [1,2] U U (fun z=>[(3,(vI (fX ts z.1))),(18,(vI (z.1:Int)))]) (fun z=>[]) (fun _=>rfl) (fun _=>rfl) (fun z=>ts.length-z.1) ⟨0,D⟩ (aT U) (aH [1,2]) ?_
 clear D
 rintro ⟨i,⟨A0,A,A1,A2⟩⟩ J13 E
 try dsimp only
 refine WS fun _ L=>rP 1 [] mn ?_
 refine RK L<|ah fun _ M=>bK U (aM fun k=>?_) (aL fun k=>?_)
 ·refine bu<|ab<|ab<|au<|KK B<|WS fun _ O=>rP 2 [] mn ?_
  refine RK O<|an<|Q1 hQ U U U ?_
  exact cI (if_pos (vi A I I)).symm
 refine WK M<|ah fun _ F=>av<|WS fun _ N=>?_
 obtain ⟨x,hx⟩:=aJ ts i I
 have A3:=bG al.cells hx
 refine rS (IA i U (aD 1 U) yj dc I I) ?_
 have A7:=hside x (aR hx)
 refine rS (oH i 0 (al.cells x) U bX (aD 1 U) A3 U dc U U)<|AL U FF fun A4=>fP U IC U<|RK N ?_
 refine ob (ι:=Unit) [1,3,4,6,16,17,18] [0,1,2] U U (fun z=>[(7,(vB (decide (x.i_=0∧x.eG.Lo=0∧x.eG.Hi=0))))]) (fun z=>[]) (fun _=>rfl) (fun _=>rfl) ?_ fun K20 G=>?_
 ·intro _
  try dsimp only
  refine ob (ι:=Unit) [1,3,4,6,7,16,17,18] [0,1,2] U U (fun z=>[(8,(vB (decide ((1≤x.i_∧x.i_≤2)∧x.eG.Lo≤x.eG.Hi∧500≤x.eG.Lo∧x.eG.Hi≤20000))))]) (fun z=>[]) (fun _=>rfl) (fun _=>rfl) ?_ fun K21 H=>?_
  ·intro _
   try dsimp only
   refine ah fun _ AB=>WS fun _ C=>rP 4 [] (mc 0 U mn) ?_
   refine cY (xs:=[.tmp 44]) (cs:=[(vI x.Id)]) U cp jf U U U U (by simp [Value.cells]) U U fun h=>?_
   refine rS (CL (dT.eq (o3 ((fX ts i)+1) 9999 ([x.Id]) (some ⟨h,0,none⟩) 1 (by (simp; done))) cS) (aw (aZ 0 U U (by simp [bB]) U)<|aI) U) ?_
   refine rP 2 [] mn ?_
   refine cQ (t:=48) U (bp fun o=>?_) (bq fun o=>?_)
   ·refine bf 26 U<|RK C<|aO U<|WS fun _ P=>bf 1 U<|RK P<|bu<|ab<|iB U<|ab<|ab<|au<|KK B<|WS fun _ R=>rP 2 [] mn ?_
    refine RK R<|an<|Q1 hQ U U U ?_
    exact cI (if_neg (by rw [dF A hx (by simp only [bJ,dI]; omega)]; decide)).symm
   refine bf 1 U<|rS (LP (aa.cells x.kD) 1 U bX U U U)<|rS (CL (vU x.kD 1 30000) (aI) U)<|rP 3 [] mn ?_
   refine cQ (t:=54) U (bp fun p=>?_) (bq fun p=>?_)
   ·refine bf 20 U<|RK C<|aO U<|WS fun _ S=>bf 1 U<|RK S<|bu<|ab<|iB U<|ab<|ab<|au<|KK B<|WS fun _ T=>rP 2 [] mn ?_
    refine RK T<|an<|Q1 hQ U U U ?_
    exact cI (if_neg (by rw [dF A hx (by simp only [bJ,dI]; omega)]; decide)).symm
   refine bf 1 U<|rS (LP (aa.cells x.lP) 1 U bX U U U)<|rS (CL (vU x.lP 0 5000) (aI) U)<|rP 3 [] mn ?_
   refine cQ (t:=60) U (bp fun q=>?_) (bq fun q=>?_)
   ·refine bf 14 U<|RK C<|aO U<|WS fun _ AA=>bf 1 U<|RK AA<|bu<|ab<|iB U<|ab<|ab<|au<|KK B<|WS fun _ V=>rP 2 [] mn ?_
    refine RK V<|an<|Q1 hQ U U U ?_
    exact cI (if_neg (by rw [dF A hx (by simp only [bJ,dI]; omega)]; decide)).symm
   refine rP 2 [] (mc 1 U mn) ?_
   refine cY (xs:=[.tmp 62]) (cs:=[(vI x.Al)]) U cp jf U U U U (by simp [Value.cells]) U U fun j=>?_
   refine rS (CL (dT.eq (o3 0 5000 ([x.Al]) (some ⟨j,0,none⟩) 1 (by (simp; done))) cS) (aw (aZ 0 U U (by simp [bB]) U)<|aI) U) ?_
   refine rP 3 [] mn ?_
   refine cQ (t:=67) U (bp fun r=>?_) (bq fun r=>?_)
   ·refine bf 7 U<|RK C<|aO U<|WS fun _ W=>bf 1 U<|RK W<|bu<|ab<|iB U<|ab<|ab<|au<|KK B<|WS fun _ X=>rP 2 [] mn ?_
    refine RK X<|an<|Q1 hQ U U U ?_
    exact cI (if_neg (by rw [dF A hx (by simp only [bJ,dI]; omega)]; decide)).symm
   refine rP 3 [] mn ?_
   refine b_ (t:=70) U (bq fun s=>?_) (bp fun s=>?_)
   ·refine bf 4 U<|RK C<|aW U<|WK AB<|aj<|fw 3 [] (mc 2 U mn) U<|aC<|aG<|KK F<|aj<|rP 2 [] mn ?_
    refine aC ?_
    have f:(vI (fX ts (i+1)))=(vI x.Id):=by rw [fT hx]
    refine aS (E ⟨(i+1),⟨I,gN A hx (by simp only [bJ,dI]; omega),by rw [fT hx]; omega,by rw [fT hx]; omega⟩⟩ _ _ _ U os (ct 4<|aX U f<|aT U) (aH [3,4]))
   refine rP 4 [] mn ?_
   refine RK C<|bK U (bq fun u=>?_) (bp fun u=>?_)
   ·refine WK AB<|aj<|fw 3 [] (mc 2 U mn) U<|aC<|aG<|KK F<|aj<|rP 2 [] mn ?_
    refine aC ?_
    have e:(vI (fX ts (i+1)))=(vI x.Id):=by rw [fT hx]
    refine aS (E ⟨(i+1),⟨I,gN A hx (by simp only [bJ,dI]; omega),by rw [fT hx]; omega,by rw [fT hx]; omega⟩⟩ _ _ _ U os (ct 4<|aX U e<|aT U) (aH [3,4]))
   refine WS fun _ Y=>bf 1 U<|RK Y<|bu<|ab<|iB U<|ab<|ab<|au<|KK B<|WS fun _ Z=>rP 2 [] mn ?_
   refine RK Z<|an<|Q1 hQ U U U ?_
   exact cI (if_neg (by rw [dF A hx (by simp only [bJ,dI]; omega)]; decide)).symm
  refine aj<|rP 2 [] (mc 0 U mn) ?_
  refine rS (SX (wa (m:=x.i_) U U TV oJ (vq (by first|assumption|omega))) U U)<|cY (xs:=[.tmp 33]) (cs:=[(vI x.i_)]) U cp jf U U U U (by simp [Value.cells]) U U fun g=>?_
  refine rS (CL (dT.eq (o3 1 2 ([x.i_]) (some ⟨g,0,none⟩) 1 (by (simp; done))) cS) (aw (aZ 0 U U (by simp [bB]) U)<|aI) U) ?_
  refine rP 1 [] mn ?_
  refine b_ (t:=36) U (aM fun n=>?_) (aL fun n=>?_)
  ·refine rP 5 [] mn ?_
   refine aC ?_
   have d:(decide ((1≤x.i_∧x.i_≤2)∧x.eG.Lo≤x.eG.Hi∧500≤x.eG.Lo∧x.eG.Hi≤20000))=false:=cf I
   refine aS (jE (ct 8<|np U d<|dh.nil _) (aH [1,2,3]) (H ()))
  refine bf 1 U<|rS (LP (aa.cells x.eG) 1 U bX U U U)<|rS (CL (vU x.eG 500 20000) (aI) U)<|rP 2 [] mn ?_
  refine aC ?_
  have c:(decide ((1≤x.i_∧x.i_≤2)∧x.eG.Lo≤x.eG.Hi∧500≤x.eG.Lo∧x.eG.Hi≤20000))=(decide (x.eG.Lo≤x.eG.Hi∧500≤x.eG.Lo∧x.eG.Hi≤20000)):=decide_eq_decide.2 I
  refine aS (jE (ct 8<|np U c<|dh.nil _) (aH [1,2,3]) (H ()))
 refine aj<|fw 2 [] (mc 0 U mn) U<|rS (BI U lx)<|rP 1 [] mn ?_
 refine b_ (t:=25) U (aM fun l=>?_) (aL fun l=>?_)
 ·refine rP 6 [] mn ?_
  refine aC ?_
  have b:(decide (x.i_=0∧x.eG.Lo=0∧x.eG.Hi=0))=false:=cf I
  refine aS (jE (ct 7<|np U b<|dh.nil _) (aH [0,1,2]) (G ()))
 refine bf 1 U<|rS (LP (aa.cells x.eG) 0 U bX U U U)<|rS (SX (bh (xs:=[]) (cs:=(aa.cells (aa.mk 0 0))) U U (bg gf U)) U U)<|rS (BI U (tI _ _ x.eG (aa.mk 0 0)))<|rP 2 [] mn ?_
 refine aC ?_
 have a:(decide (x.i_=0∧x.eG.Lo=0∧x.eG.Hi=0))=(decide (x.eG=(aa.mk 0 0))):=decide_eq_decide.2 (by (simp only [aa.ext_iff] at *; omega))
 refine aS (jE (ct 7<|np U a<|dh.nil _) (aH [0,1,2]) (G ()))
end
section
open Go.RowKit
theorem Is (n lo hi:Int) (g1 g2:Nat):
 dT Tryz.prog 64 [(vI n),(vP g1),(vP g2)] [(bV g1 3 [(vI lo)]),(bV g2 3 [(vI hi)])] (vB (decide (n<lo∨hi<n))):=by
 refine bx kr Tryz.func64 U U fun D Q hQ hN=>?_
 try dsimp only
 refine WS fun _ B=>bf 1 U<|RK B<|WS fun _ A=>rP 4 [] (mr 0 U mn) ?_
 refine cQ (t:=8) U (aL fun C=>?_) (aM fun C=>?_)
 ·refine rP 5 [] mn ?_
  refine RK A<|an<|Q1 hQ U U U ?_
  exact cB (fI I).symm
 refine rP 5 [] (mr 1 U mn) ?_
 refine RK A<|an<|Q1 hQ U U U ?_
 exact cB (decide_eq_decide.2 I)
theorem j9 (lo hi:Int) (l:List Int) (lA:OA) (lC:Nat) (hlen:l.length≤1000000):
 dT Tryz.prog 37 [(vI lo),(vI hi),(vS lA l.length lC)] [(rd lA l.length 1 (l.map iC))] (vB (pW lo hi l)):=by
 refine bx kr Tryz.func37 U U fun F Q hQ hN=>?_
 try dsimp only
 refine WS fun _ D=>uc U U fun A=>uc U U fun B=>bf 1 U<|RK D<|WS fun _ E=>rP 1 [] mn ?_
 refine rS (FU U) ?_
 refine rS (CL (rY l lA lC (Value.func (.func 64) [].toArray [(vP A),(vP B)].toArray) (fun C=>(decide (C<lo∨hi<C))) (eX [(bV A 3 [(vI lo)]),(bV B 3 [(vI hi)])]) (by intro C _; exact nE (fi:=[]) (ca:=[(vP A),(vP B)]) (l0 (Is C lo hi A B) (bj [0,1]))) hlen) (fD 2 U U<|aw (l5 (bj [1,0]))<|aI) U) ?_
 refine rP 2 [] mn ?_
 refine RK E<|an ?_
 exact Q1 hQ U U U U
theorem FX (s:aa):
 dT Tryz.prog 65 [(vA (aa.cells s))] [] (vB (decide (iL s))):=by
 refine bx kr Tryz.func65 U U fun F Q hQ hN=>?_
 try dsimp only
 refine WS fun _ B=>fM U fun E=>bf 1 U<|RK B<|WS fun _ A=>rP 4 [] (mc 0 U mn) ?_
 refine cY (xs:=[.tmp 4,.tmp 6]) (cs:=[(vI s.Lo),(vI s.Hi)]) U cp jf U U U U (by simp [Value.cells]) U U fun C=>?_
 refine rS (CL (dT.eq (j9 1 600000 ([s.Lo,s.Hi]) (some ⟨C,0,none⟩) 2 (by (simp; done))) rf) (aw (aZ 0 U U (by simp [bB]) U)<|aI) U) ?_
 refine rP 1 [] mn ?_
 refine b_ (t:=9) U (aM fun D=>?_) (aL fun D=>?_)
 ·refine rP 7 [] mn ?_
  refine RK A<|an<|Q1 hQ U U U ?_
  simp only [iL]
  exact cB (cf I).symm
 refine rP 7 [] (mc 1 U mn) ?_
 refine RK A<|an<|Q1 hQ U U U ?_
 simp only [iL]
 exact cB (decide_eq_decide.2 I)
theorem JL (d:ax) (sgA:OA) (sgC:Nat):
 dT Tryz.prog 198 [(vA (bk.cells (bk.mk d.Out d.eI d.Time (mF d.cr sgA sgC))))] [(rd sgA d.cr.ag.length 2 (d.cr.ag.map aK.cells))] (vB (decide (my d.cr))):=by
 refine bx kr Tryz.func198 U U fun F Q hQ hN=>?_
 try dsimp only
 refine WS fun _ B=>fM U fun E=>bf 1 U<|RK B<|WS fun _ A=>rP 5 [] (mc 0 U mn) ?_
 refine b_ (t:=7) U (aM fun C=>?_) (aL fun C=>?_)
 ·refine rP 13 [] mn ?_
  refine RK A<|an<|Q1 hQ U U U ?_
  simp only [my]
  exact cB (cf I).symm
 refine rP 6 [] (mc 0 U mn) ?_
 refine b_ (t:=13) U (aM fun D=>?_) (aL fun D=>?_)
 ·refine rP 7 [] mn ?_
  refine RK A<|an<|Q1 hQ U U U ?_
  simp only [my]
  exact cB (cf I).symm
 refine rP 7 [] (mc 0 U mn) ?_
 refine RK A<|an<|Q1 hQ U U U ?_
 simp only [my]
 exact cB (decide_eq_decide.2 I)
theorem RC (d:ax) (sgA:OA) (sgC:Nat):
 dT Tryz.prog 196 [(vA (bk.cells (bk.mk d.Out d.eI d.Time (mF d.cr sgA sgC))))] [(rd sgA d.cr.ag.length 2 (d.cr.ag.map aK.cells))] (vB d.Out):=by
 refine bx kr Tryz.func196 U U fun D Q hQ hN=>?_
 try dsimp only
 refine WS fun _ A=>fM U fun C=>bf 1 U<|RK A<|WS fun _ B=>rP 3 [] (mc 0 U mn) ?_
 refine RK B<|an<|Q1 hQ U U U ?_
 rfl
theorem S9 (d:ax) (sgA:OA) (sgC:Nat):
 dT Tryz.prog 199 [(vA (bk.cells (bk.mk d.Out d.eI d.Time (mF d.cr sgA sgC))))] [(rd sgA d.cr.ag.length 2 (d.cr.ag.map aK.cells))] (vB d.eI):=by
 refine bx kr Tryz.func199 U U fun D Q hQ hN=>?_
 try dsimp only
 refine WS fun _ A=>fM U fun C=>bf 1 U<|RK A<|WS fun _ B=>rP 3 [] (mc 0 U mn) ?_
 refine RK B<|an<|Q1 hQ U U U ?_
 rfl
theorem RB (d:ax) (sgA:OA) (sgC:Nat):
 dT Tryz.prog 201 [(vA (bk.cells (bk.mk d.Out d.eI d.Time (mF d.cr sgA sgC))))] [(rd sgA d.cr.ag.length 2 (d.cr.ag.map aK.cells))] (vB true):=by
 refine bx kr Tryz.func201 U U fun D Q hQ hN=>?_
 try dsimp only
 refine WS fun _ A=>fM U fun C=>bf 1 U<|RK A<|WS fun _ B=>rP 1 [] mn ?_
 refine RK B<|an<|Q1 hQ U U U ?_
 rfl
end
section
open Go.RowKit
theorem z6 (r:bT) (kA:OA) (kC:Nat) (az:List RA) (cA:OA) (cC:Nat) (bA:OA) (bC:Nat) (slA:OA) (slC:Nat) (drA:OA) (drC:Nat) (ha:List cO) (heA:OA) (heC:Nat) (tz:List RA) (tA:OA) (tC:Nat) (ms:Value) (gw:Nat) (l:List Int) (lA:OA) (lC:Nat) (hin:e7 r az ha) (hlen:l.length≤1000000):
 dT Tryz.prog 38 [(vP gw),(vS lA l.length lC)] [(rd kA r.ao.aP.length 9 (r.ao.aP.map al.cells)),(rd cA r.ao.ak.length 2 (List.zipWith ar.cells r.ao.ak az)),(eX (aV ar.g0 r.ao.ak az)),(rd bA r.ao.ae.length 4 (r.ao.ae.map bD.cells)),(rd slA r.aQ.length 1 (r.aQ.map iC)),(rd drA r.bQ.length 1 (r.bQ.map iC)),(rd heA r.ay.length 1 (List.zipWith cP r.ay ha)),(eX (aV ir r.ay ha)),(rd tA ((cN r).length) 1 (List.zipWith El (cN r) tz)),(eX (aV MA (cN r) tz)),(bV gw 91 (fH.cells (fH.mk (oI r kA kC cA cC bA bC slA slC drA drC heA heC) (br.mk tA ((cN r).length) tC) ms))),(rd lA l.length 1 (l.map iC))] (vB (pW 0 ((r.aQ.length:Int)-1) l)):=by
 have C:=hin.line
 have G:=hin.iO
 have H:=hin.has
 have E:=hin.iN
 have D:=hin.draw
 have F:=dy (r:=r)
 refine bx kr Tryz.func38 U U fun AA Q hQ hN=>?_
 try dsimp only
 refine WS fun _ A=>bf 1 U<|RK A<|WS fun _ B=>bf 1 U<|rS (SX (bI U U) U U)<|fw 6 [] (mr 10 U mn) U<|rS (CL (j9 0 ((r.aQ.length:Int)-1) l lA lC hlen) (bj [11]) U)<|rP 1 [] mn ?_
 refine RK B<|an ?_
 exact Q1 hQ U U U U
theorem xb (a b:Bool):
 dT Tryz.prog 39 [(vB a),(vB b)] [] (Value.int .u8 (if a=true then 2 else if b=true then 1 else 0)):=by
 refine bx kr Tryz.func39 U U fun J Q hQ hN=>?_
 try dsimp only
 refine WS fun _ C=>bf 1 U<|RK C<|ah fun _ D=>av<|WS fun _ E=>rP 2 [] mn ?_
 refine RK E<|cy U (fun A=>?_) (fun A=>?_)
 ·refine WS fun _ F=>rP 1 [] mn ?_
  refine RK F<|an<|Q1 hQ U U U ?_
  rw [if_pos A]
 refine WS fun _ G=>rP 2 [] mn ?_
 refine RK G<|cy U (fun B=>?_) (fun B=>?_)
 ·refine WS fun _ H=>rP 1 [] mn ?_
  refine RK H<|an<|Q1 hQ U U U ?_
  (rw [if_neg (by rw [A]; decide),if_pos B])
 refine bZ<|aG<|KK D<|WS fun _ AA=>rP 1 [] mn ?_
 refine RK AA<|an<|Q1 hQ U U U ?_
 (rw [if_neg (by rw [A]; decide),if_neg (by rw [B]; decide)])
end
section
open Go.RowKit
theorem QK {P:Program} {t:TypeId} {x y:Operand} {k e:TypeId} {p:Option Nat} (h:P.underlying t=some (.map k e)):gP P .eql t x y (.map p) (.map none) (.bool p.isNone):=fun w=>by
 have A:(Op.equal t (.map p) (.map none)).run P w= .ok p.isNone w:=by
  unfold Op.equal
  show (Op.equalIn (9999+1) t (.map p) (.map none)).run P w=_
  unfold Op.equalIn
  cases p<;>simp [run_underlying h]
 have B:eqGuard .eql t x y (.map p) (.map none)=pure ():=rfl
 rw [B]
 show (Sem.run P (do let b ← Op.equal t (.map p) (.map none); pure (vB b)) w)=_
 simp [A]
theorem Fb {P:Program} {r:Nat} {es:Array MapEntry} {clock:Nat} {w:World} (t:TypeId) (hb:w.heap[r]? =some (.map es clock)):
 (Extern.MapsClone.clone #[.iface t (.map (some r))]).run P w= .ok (.iface t (.map (some w.heap.size))) (w.alloc (.map es clock)):=by
 have e:Extern.MapsClone.clone #[.iface t (.map (some r))]=(getObj r >>= fun o=>match o with
  | .map entries clock=>(newObj (.map entries clock) >>= fun n=>pure (.iface t (.map (some n))))
  |_=>stuck "maps.clone: a map expected"):=rfl
 rw [e]
 simp [MapKept.run_getObj_map hb,Result.andThen,go_sem]
theorem B6 {P:Program} {xt t k e:TypeId} {v:Value} {w:World} (h:P.underlying t=some (.map k e)):(Instr.typeAssert (.iface t v) xt t false).run P w= .ok v w:=by
 simp [Instr.typeAssert,run_underlying h,go_sem,Result.andThen]
theorem og {C:List aq} {g t:Nat} {cs:List Value} {n sz:Nat} {es:List (List Value)} (i:Nat) (hC:C[i]? =some (bV g t cs).ro) (h1:es.length=n) (h2: ∀ e∈es,e.length=sz) (h3:es.flatten=cs):il C (rd (some ⟨g,0,none⟩) n sz es).holds:=fun w hw=>
 uR (show (bV g t cs).holds w from hw (bV g t cs).ro (aR hC)) h1 h2 ⟨[],by simp [h3]⟩
section
variable {E:eY} {ops:Array Oper} {Q:cU} {rest:List Oper} {D:List Deferred} {L:List (Nat×Value)} {C:List aq}
variable {dst:Option Nat} {d:Nat} {ty:TypeId} {ps:String} {af:Array Edge} {g:Option (Nat×Bool)}
theorem Md {P:Program} {t k e:TypeId} {v:Value} {w:World} (h:P.underlying t=some (.map k e)):(Instr.makeInterface t v).run P w= .ok (.iface t v) w:=by
 simp [Instr.makeInterface,run_underlying h,Result.andThen]
theorem N4 {t k e:TypeId} {x:Operand} {v:Value} (hg:ju ops L g=true) (hx:ev L x=some v) (ht:E.P.underlying t=some (.map k e)):SD E ops ⟨dst,.makeInterface t x,ty,ps,af,g⟩ D L C (.iface t v):=
 dE hg sm fun a w hf _=>by
  have e:=hf.ev hx
  simp only [execOp,e]
  rw [Sem.run_bind,Md ht]
  simp
theorem RG {xt t kt et:TypeId} {x:Operand} {v:Value} (hg:ju ops L g=true) (hx:ev L x=some (.iface t v)) (ht:E.P.underlying t=some (.map kt et)):SD E ops ⟨dst,.typeAssert x xt t false,ty,ps,af,g⟩ D L C v:=
 dE hg sm fun a w hf _=>by
  have e:=hf.ev hx
  simp only [execOp,e]
  rw [Sem.run_bind,B6 ht]
  simp
theorem Lq {K:Type} [DecidableEq K] {kV:K→Value} {x:Operand} {ts:Array TypeId} {f:FuncId} {fn:Func} {t b:Nat} {m:List (K×Value)} (hg:ju ops L g=true) (hx:ev L x=some (.iface t (.map (some b)))) (hf:E.P.funcs[f]? =some fn) (hname:(fn.name=="runtime.NumGoroutine")=false)
 (hb:fn.body.isNone=true) (hn:Extern.findNext fn=none) (he:Extern.find fn=some Extern.MapsClone.clone) (hC:il C (gZ kV b m).holds) (hd:Nat.blt d E.n=true) (k: ∀ b',RJ E ops Q rest D ((d,.iface t (.map (some b')))::L) (gZ kV b' m::C)):
 RJ E ops Q (⟨some d,.call {callee:= .value (.func f),args:= #[x],argTypes:=ts},ty,ps,af,g⟩::rest) D L C:=by
 intro a w B hs
 have hd':d<E.n:=by rw [← Nat.blt_eq]; exact hd
 obtain ⟨es,c,F,hi⟩:=hC w hs.holds
 unfold rD
 rw [if_pos (dK B hg)]
 refine gJ (v:= .iface t (.map (some w.heap.size))) (w':=w.alloc (.map es c)) sm ?_ ?_
 ·have e:=B.ev hx
  have G:a.eval (.func f)= .func (.func f) #[] #[]:=rfl
  simp [execOp,resolve,e,G,Deferred.ofValue,invoke,run_callFunc_extern hf hname hb hn he,Fb t F]
 ·refine k _ _ _ (B.put hd' _) (hs.grow (dJ.alloc no w _) (N:=[gZ kV w.heap.size m]) ⟨fun A hA=>?_,fun A hA b hb=>?_,List.pairwise_singleton _ _⟩)
  ·simp at hA; subst hA; exact ⟨es,c,heap_alloc_new w _,hi⟩
  ·simp at hA; subst hA; exact Nat.le_of_eq (Eq.symm hb)
end
end
section
open Go.RowKit
theorem xX (lA:OA) (lN lC:Nat):
 lv Tryz.prog 60 [(vS lA lN lC)] [] (fun (x:Nat)=>(Value.func (.func 81) [].toArray [(vP x)].toArray)) (fun (x:Nat)=>True) (fun (x:Nat)=>[(bV x 32 [(vS lA lN lC)])]):=by
 refine dj kr Tryz.func60 U U fun D Q hQ hN=>?_
 try dsimp only
 refine WS fun _ A=>uc U U fun C=>bf 1 U<|RK A<|WS fun _ B=>rS (FU U)<|rP 1 [] mn ?_
 refine RK B<|an<|LX hQ C [0] [] mn U U U U ?_
 trivial
theorem Lv (nl:List Int) (nlA:OA) (nlC g1:Nat) (hlen:nl.length≤12):
 Ok Tryz.prog 81 [] [(vP g1)] [(rd nlA nl.length 1 (nl.map iC)),(bV g1 32 [(vS nlA nl.length nlC)])] (qc nl):=by
 refine FC kr Tryz.func81 U U fun l J Z A0 T Q hY K AB hQ hN=>?_
 try dsimp only
 refine WS fun _ M=>rP 3 [] (mr 2 U mn) ?_
 refine RK M<|av ?_
 have F:(0≤nl.length)∧(J 0 A0)∧(Fo A0 T A0):=by exact ⟨Nat.zero_le _,K,AB⟩
 refine bH (ι:={z:Nat×aq // (z.1≤nl.length)∧(J z.1 z.2)∧(Fo A0 T z.2)}) [0,1,5,6] [1] U U (fun z=>[(7,(vI (z.1.1:Int)))]) (fun z=>[z.1.2]) (fun _=>rfl) (fun _=>rfl) (fun z=>nl.length-z.1.1) ⟨(0,A0),F⟩ (aT U) (aH [1,0]) ?_
 clear F
 rintro ⟨⟨i,A⟩,⟨G,B,C⟩⟩ J2 L
 try dsimp only at G B C
 try dsimp only
 refine WS fun _ N=>rP 1 [] mn ?_
 refine RK N<|ah fun _ O=>bK U (aM fun AA=>?_) (aL fun AA=>?_)
 ·refine bu<|ab<|ab<|au ?_
  refine hN _ _ _ (gX (vs:=[]) trivial fun w hs=>S6 1 U (by rw [tU]; have e:nl.length=i:=I; rw [e]; exact B) C hs)
 refine WK O<|ah fun _ P=>av<|WS fun _ R=>?_
 obtain ⟨x,hx⟩:=aJ nl i I
 have S:=bG iC hx
 refine rS (IA i U (aD 0 U) cp dc I I)<|rS (fV i 0 (vI x) U bX (aD 0 U) S U dc U)<|bf 1 U<|RK R<|WS fun _ H=>rP 2 [] mn ?_
 refine Gh 1 hY B C U U U (Hv hx) U U (fun B9 E D=>?_) (fun B9 E D=>?_)
 rotate_left 1
 ·refine rP 1 [] mn ?_
  refine RK H<|aO U<|an ?_
  refine hQ _ _ _ (gX (vs:=[]) trivial fun w hs=>OS 1 U E D hs)
 refine bf 1 U<|RK H<|aW U<|bZ<|aG<|KK P<|aj<|rP 2 [] mn ?_
 refine aC ?_
 refine aS (L ⟨((i+1),B9),⟨I,E,D⟩⟩ _ _ _ U os (aT U) (aH [0,1]))
end
section
open Go.RowKit
theorem ND (x:Int):
 dT Tryz.prog 134 [(vI x)] [] (vB false):=by
 refine bx kr Tryz.func134 U U fun C Q hQ hN=>?_
 try dsimp only
 refine WS fun _ A=>bf 1 U<|RK A<|WS fun _ B=>rP 4 [] mn ?_
 refine RK B<|an<|Q1 hQ U U U ?_
 simp
theorem OD (x y:Int):
 dT Tryz.prog 105 [(vI x),(vI y)] [] (vB (decide (x<y))):=by
 refine bx kr Tryz.func105 U U fun C Q hQ hN=>?_
 try dsimp only
 refine WS fun _ A=>bf 1 U<|RK A<|WS fun _ B=>bf 1 U<|rS (CL (ND x) (aI) U)<|rP 11 [] mn ?_
 refine RK B<|an<|Q1 hQ U U U ?_
 exact cB (decide_eq_decide.2 I)
theorem GP (l:List Int) (lA:OA) (lC:Nat) (hlen:l.length≤1000000):
 Dr Tryz.prog 99 [(vS lA l.length lC),(vI 0),(vI (l.length:Int))] [] (own lA lC 3 1 (l.map iC)) (fun (x:(List Int))=>(vT [])) (fun (x:(List Int))=>x.Perm l∧x.Pairwise (· ≤ ·)) (fun (x:(List Int))=>(own lA lC 3 1 (x.map iC))):=by
 refine mI kr Tryz.func99 U U fun g Q hQ hN=>?_
 try dsimp only
 refine WS fun _ X=>bf 1 U<|rS (SX (bU (r:= .int .i64 1) U U U (ic ⟨dc,dc⟩)) U U)<|rP 1 [] mn ?_
 refine RK X<|av ?_
 have A:(1≤1∧(1≤l.length∨1=1))∧(l.length=l.length)∧(l.Perm l)∧(Q0 l 1):=by exact ⟨I,rfl,List.Perm.refl _,OE⟩
 refine bH (ι:={z:Nat×(List Int) // (1≤z.1∧(z.1≤l.length∨z.1=1))∧(z.2.length=l.length)∧(z.2.Perm l)∧(Q0 z.2 z.1)}) [0,1,2] [] U U (fun z=>[(6,(vI (z.1.1:Int)))]) (fun z=>[(own lA lC 3 1 (z.1.2.map iC))]) (fun _=>rfl) (fun _=>rfl) (fun z=>l.length-z.1.1) ⟨(1,l),A⟩ (aT U) (aH [0]) ?_
 clear A
 rintro ⟨⟨i,m⟩,⟨K,AB,E,F⟩⟩ J2 M
 try dsimp only at K AB E F
 try dsimp only
 refine ah fun _ Y=>WS fun _ Z=>rP 3 [] mn ?_
 refine RK Z<|bK U (aM fun e=>?_) (aL fun e=>?_)
 ·refine bu<|ab<|ab<|au<|LM hN m 0 [] mn U U U U ?_
  exact ⟨E,NK F I⟩
 refine WK Y<|ah fun _ O=>av<|WS fun _ b=>rP 2 [] mn ?_
 refine RK b<|av ?_
 have A:(i≤i)∧(m.length=l.length)∧(m.Perm l)∧(PT m i i):=by exact ⟨Nat.le_refl _,AB,E,H2 F I⟩
 refine bH (ι:={z:Nat×(List Int) // (z.1≤i)∧(z.2.length=l.length)∧(z.2.Perm l)∧(PT z.2 i z.1)}) [0,1,2,6] [] U U (fun z=>[(7,(vI (z.1.1:Int)))]) (fun z=>[(own lA lC 3 1 (z.1.2.map iC))]) (fun _=>rfl) (fun _=>rfl) (fun z=>z.1.1) ⟨(i,m),A⟩ (aT U) (aH [0]) ?_
 clear A
 rintro ⟨⟨j,q⟩,⟨G,B,C,D⟩⟩ J8 W
 try dsimp only at G B C D
 try dsimp only
 refine ah fun _ c=>ah fun _ J=>dB cu 15 kr<|dP 4 [] mn ?_
 refine jk (t:=19) U (aM fun hj=>?_) (aL fun hj=>?_)
 ·refine lH 11 U<|cM<|RK J<|aW U<|bu<|ab<|ab<|au<|aG<|KK O<|aj<|rP 3 [] mn ?_
  refine aC ?_
  refine aS (M ⟨((i+1),q),⟨I,B,C,by exact Ln I D⟩⟩ _ _ _ U (by simp only []; omega) (aT U) (aH [0]))
 refine dP 2 [] mn ?_
 obtain ⟨x,hx⟩:=aJ q j I
 have L:=bG iC hx
 refine dS (IA j U (ai (n:=l.length) 0 U sq) cp dc I I) ?_
 refine dS (fV j 0 (vI x) U bX (ai (n:=q.length) 0 U sm) L U dc U)<|dP 3 [] mn ?_
 obtain ⟨y,hy⟩:=aJ q (j-1) I
 have V:=bG iC hy
 refine dS (IA (j-1) U (ai (n:=l.length) 0 U sq) cp dc I I) ?_
 refine dS (fV (j-1) 0 (vI y) U bX (ai (n:=q.length) 0 U sm) V U dc U)<|dS (CL (OD x y) (aI) U)<|dP 1 [] mn ?_
 refine cM<|RK J<|bK U (aM fun H=>?_) (aL fun H=>?_)
 ·refine bu<|ab<|ab<|au<|aG<|KK O<|aj<|rP 3 [] mn ?_
  refine aC ?_
  refine aS (M ⟨((i+1),q),⟨I,B,C,by exact IT hx hy I G H D⟩⟩ _ _ _ U (by simp only []; omega) (aT U) (aH [0]))
 refine WK c<|ah fun _ N=>av<|dG cu [15,16,17] [8,9,12,13,14] [] [] [0] U U U U U<|eS U (MV U)<|eS U (MV U)<|eS U (MV U)<|eS U (MV U)<|eS U (BI U (rI ⟨I,I⟩))<|eS U (MV U)<|eS U (MV U)<|eS U (BI U (rI ⟨I,I⟩)) ?_
 refine fS U (IA (j-1) U (ai (n:=l.length) 0 U sq) cp dc I I) ?_
 refine fS U (fV (j-1) 0 (vI y) U bX (ai (n:=q.length) 0 U sm) V U dc U)<|eS U (MV U)<|eS U (MV U) ?_
 refine fS U (IA j U (ai (n:=l.length) 0 U sq) cp dc I I) ?_
 refine fS U (fV j 0 (vI x) U bX (ai (n:=q.length) 0 U sm) L U dc U) ?_
 refine fS U (IA j U (ai (n:=l.length) 0 U sq) cp dc I I) ?_
 refine eU U<|bY U fun T12 P=>ew (k:=j) (o:=0) (vs:=[(vI y)]) (es':=(List.map iC (q.set j y))) (C':=[(own lA lC 3 1 (List.map iC (q.set j y)))]) 0 U U U BW U U U U L U dc (by exact (List.map_set (f:=iC) (l:=q) (i:=j) (a:=y)).symm) U<|aC (P _ _ (aH []) ?_)
 refine bY U fun T13 R=>?_
 obtain ⟨d,AA⟩:=aJ (q.set j y) (j-1) os
 have hx15m:(List.map iC (q.set j y))[(j-1)]? =some (iC d):=by rw [fq,AA]; rfl
 refine rS (IA (j-1) U (ai (n:=l.length) 0 U sq) cp dc I I) ?_
 refine aC (R _ _ (aH []) ?_)
 refine bY U fun T16 S=>ew (k:=(j-1)) (o:=0) (vs:=[(vI x)]) (es':=(List.map iC ((q.set j y).set (j-1) x))) (C':=[(own lA lC 3 1 (List.map iC ((q.set j y).set (j-1) x)))]) 0 U U U BW U U U U hx15m U dc (by exact (List.map_set (f:=iC) (l:=(q.set j y)) (i:=(j-1)) (a:=x)).symm) U<|aC (S _ _ (aH []) ?_)
 refine fF U<|aG<|KK N<|aj<|rP 3 [] mn ?_
 refine aC ?_
 have T:(vI (((j-1):Nat):Int))=(vI ((j:Int)-1)):=by exact cI I
 refine aS (W ⟨((j-1),((q.set j y).set (j-1) x)),⟨I,by simp; exact B,(Ig hx hy).trans C,IQ hx hy I G H D⟩⟩ _ _ _ U (by simp only []; omega) (ct 4<|aX U T<|dh.nil _) (aH [0]))
theorem MQ (x:Int) (hx:0≤x∧x≤100):
 lv Tryz.prog 109 [(Value.int .u64 x)] [] (fun (x:Int)=>(vI x)) (fun (x:Int)=>True) (fun (x:Int)=>[]):=by
 refine dj kr Tryz.func109 U U fun N Q hQ hN=>?_
 try dsimp only
 refine WS fun _ D=>bf 1 U<|RK D<|ah fun _ E=>WS fun _ F=>rP 1 [] mn ?_
 refine rS (BI U Fs)<|RK F<|cy U (aL fun L=>?_) (aM fun L=>?_)
 ·exfalso; omega
 refine WK E<|ah fun _ G=>WS fun _ H=>rP 1 [] mn ?_
 refine rS (BI U Fs)<|RK H<|cy U (aL fun M=>?_) (aM fun M=>?_)
 ·exfalso; omega
 refine WK G<|ah fun _ AA=>WS fun _ J=>rP 1 [] mn ?_
 refine rS (BI U Fs)<|RK J<|cy U (aL fun C=>?_) (aM fun C=>?_)
 ·exfalso; omega
 refine WK AA<|WS fun _ B=>bf 2 U<|rS (SX (wa (m:=x) U U SJ TV (CR (by first|assumption|omega))) U U)<|PQ (k:=(x).toNat) U U U VJ I (Nat.lt_of_lt_of_le (m:=200) I (of_decide_eq_true kr)) U fun A K=>rS (SX (wa (m:=A) U U TV oJ (vq (by first|assumption|omega))) U U)<|rP 2 [] mn ?_
 refine RK B<|an<|LX hQ (0+A) [] [] mn U U U U ?_
 trivial
theorem P9 (x:Int) (hx:0≤x∧x≤100):
 lv Tryz.prog 75 [(Value.int .u64 x)] [] (fun (x:Int)=>(vI x)) (fun (x:Int)=>True) (fun (x:Int)=>[]):=by
 refine dj kr Tryz.func75 U U fun F Q hQ hN=>?_
 try dsimp only
 refine WS fun _ A=>bf 1 U<|RK A<|ah fun _ B=>aW U<|WK B<|WS fun _ C=>rP 1 [] mn ?_
 refine cX (MQ x hx) (aI) U fun E D=>?_
 try dsimp only
 refine rP 1 [] mn ?_
 refine RK C<|an<|LX hQ E [] [] mn U U U U ?_
 trivial
theorem Tq (l:List Int) (lA:OA) (lC:Nat) (u:Int) (hlen:l.length≤12):
 Dr Tryz.prog 74 [(vS lA l.length lC),(vI 0),(vI (l.length:Int)),(vI u)] [] (own lA lC 3 1 (l.map iC)) (fun (x:(List Int))=>(vT [])) (fun (x:(List Int))=>x.Perm l∧x.Pairwise (· ≤ ·)) (fun (x:(List Int))=>(own lA lC 3 1 (x.map iC))):=by
 refine mI kr Tryz.func74 U U fun K Q hQ hN=>?_
 try dsimp only
 refine WS fun _ A=>bf 1 U<|RK A<|WS fun _ B=>bf 1 U<|RK B<|av<|jL 1<|ed fun R3 AA=>av<|WS fun _ C=>bf 4 U<|RK C<|ah fun _ H=>WS fun _ D=>rP 2 [] mn ?_
 refine RK D<|bK U (aM fun G=>?_) (aL fun G=>?_)
 ·exfalso; omega
 refine WS fun _ E=>rP 3 [] mn ?_
 refine iQ 0 U U U U (GP l lA lC I) U kh U (fun J F=>?_)
 try dsimp only
 refine RK E<|an<|LM hQ J 0 [] mn U U U U ?_
 assumption
theorem Af (l:List Int) (lA:OA) (lC:Nat) (hlen:l.length≤12):
 Dr Tryz.prog 51 [(vS lA l.length lC)] [] (own lA lC 3 1 (l.map iC)) (fun (x:(List Int))=>(vT [])) (fun (x:(List Int))=>x.Perm l∧x.Pairwise (· ≤ ·)) (fun (x:(List Int))=>(own lA lC 3 1 (x.map iC))):=by
 refine mI kr Tryz.func51 U U fun F Q hQ hN=>?_
 try dsimp only
 refine WS fun _ A=>bf 3 U<|RK A<|aj<|rP 3 [] mn ?_
 refine rS (SX (wa (m:=(l.length:Int)) U U oJ Rj (Ai (by first|assumption|omega))) U U)<|cX (P9 (l.length:Int) I) (aI) U fun E B=>?_
 try dsimp only
 refine iQ 0 U U U U (Tq l lA lC E hlen) U kh U (fun D C=>?_)
 try dsimp only
 refine aC<|LM hN D 0 [] mn U U U U ?_
 assumption
end
section
open Go.RowKit
theorem JZ (nl:List Int) (nlA:OA) (nlC g1:Nat) (hlen:nl.length≤12):
 lv Tryz.prog 94 [(vS none 0 0),(Value.func (.func 81) [].toArray [(vP g1)].toArray)] [(rd nlA nl.length 1 (nl.map iC)),(bV g1 32 [(vS nlA nl.length nlC)])] (fun (x:(OA)×Nat)=>(vS x.1 nl.length x.2)) (fun (x:(OA)×Nat)=>True) (fun (x:(OA)×Nat)=>[(own x.1 x.2 3 1 (nl.map iC))]):=by
 refine dj kr Tryz.func94 U U fun R Q hQ hN=>?_
 try dsimp only
 refine WS fun _ D=>uc U U fun J=>bf 1 U<|RK D<|ah fun _ E=>WS fun _ G=>rP 1 [] mn ?_
 refine RK G<|av<|ky 1 U (by exact fun _ h=>h)<|ky 3 U (by exact fun _ h=>h)<|fQ 3 1 ?_
 refine Ga (L0:=[(2,(vP J))]) (F:=[(rd nlA nl.length 1 (nl.map iC)).ro,(bV g1 32 [(vS nlA nl.length nlC)]).ro]) (xs:=(qc nl)) (fun k (y:(OA)×Nat)=>True) (fun k y=>[(own y.1 y.2 3 1 ((nl.take k).map iC)),(bV J 32 [(vS y.1 ((nl.take k).length) y.2)]),(rd nlA nl.length 1 (nl.map iC)).ro]) (fun _ (_:Unit)=>False) (fun _ _=>[]) [0,3,4] [2,1] (none,0) U U (Lv nl nlA nlC g1 (by first|assumption|omega|(simp; done))) U U U (by trivial) (by simp only [List.forall_mem_cons,List.not_mem_nil,false_imp_iff,implies_true,and_true]; exact ⟨⟨_,sm,(dD (bP _))⟩,⟨_,sm,(dD (bP _))⟩⟩) (by exact D8) U (aT U) ?_ ?_ (fun _ _ _ h=>h.elim) (fun _ _ h=>h.elim)
 rotate_left 1
 ·rintro O ⟨a,c⟩ AA
  try dsimp only
  rw [yq]
  refine aG<|KK E<|WS fun _ A=>rP 2 [] (mc 4 U mn) ?_
  refine RK A<|an<|hQ _ _ _ (ou 0 U U<|gX (vs:=[(vS a nl.length c)]) ⟨U,trivial⟩ fun w hs=>It (a,c) [3] ?_ ?_ U U U hs)
  ·rfl
  ·trivial
 rintro k x ⟨a,c⟩ l ra rb S T K5 Qr6 hx K H B L M
 obtain ⟨y,hy,rfl⟩:=H7 hx
 try dsimp only
 refine aj<|rP 1 [] mn ?_
 refine aC<|aS (H _ _ ?_)
 refine av<|aj<|rP 2 [] (mc 2 U mn) ?_
 refine cY (xs:=[.tmp 9]) (cs:=[(vI y)]) U cp jf U U U U (by simp [Value.cells]) U U fun P=>?_
 refine db (es2:=(List.map iC (nl.take (k+1)))) (m':=(nl.take (k+1)).length) 2 U U U p5 U U sm (aZ (es:=List.map iC [y]) 0 U U (by simp [bB]) U) (kd _) (by simp; omega) (by simp [maxLen]; omega) (by rw [j0 hy]; simp) sm U fun N C=>?_
 try dsimp only
 refine Vl U zS U U<|aC<|aG ?_
 exact B (N,C) _ _ (by trivial) (aH [1,2,3,4])
theorem HM (nl:List Int) (nlA:OA) (nlC g1:Nat) (hlen:nl.length≤12):
 lv Tryz.prog 67 [(Value.func (.func 81) [].toArray [(vP g1)].toArray)] [(rd nlA nl.length 1 (nl.map iC)),(bV g1 32 [(vS nlA nl.length nlC)])] (fun (x:(OA)×Nat)=>(vS x.1 nl.length x.2)) (fun (x:(OA)×Nat)=>True) (fun (x:(OA)×Nat)=>[(own x.1 x.2 3 1 (nl.map iC))]):=by
 refine dj kr Tryz.func67 U U fun G Q hQ hN=>?_
 try dsimp only
 refine WS fun _ A=>bf 1 U<|RK A<|WS fun _ B=>rP 1 [] mn ?_
 refine cX (JZ nl nlA nlC g1 hlen) (bj [0,1]) U fun F E=>?_
 obtain ⟨C,D⟩:=F
 try dsimp only
 refine rP 1 [] mn ?_
 refine RK B<|an<|LX hQ (C,D) [0] [] mn U U U U ?_
 trivial
theorem ye (nl:List Int) (nlA:OA) (nlC g1:Nat) (hlen:nl.length≤12):
 lv Tryz.prog 41 [(Value.func (.func 81) [].toArray [(vP g1)].toArray)] [(rd nlA nl.length 1 (nl.map iC)),(bV g1 32 [(vS nlA nl.length nlC)])] (fun (x:(OA)×Nat)=>(vS x.1 nl.length x.2)) (fun (x:(OA)×Nat)=>True) (fun (x:(OA)×Nat)=>[(own x.1 x.2 3 1 ((df nl).map iC))]):=by
 refine dj kr Tryz.func41 U U fun J Q hQ hN=>?_
 try dsimp only
 refine WS fun _ B=>bf 1 U<|RK B<|WS fun _ C=>rP 1 [] mn ?_
 refine cX (HM nl nlA nlC g1 hlen) (bj [0,1]) U fun AA H=>?_
 obtain ⟨F,G⟩:=AA
 try dsimp only
 refine bf 1 U<|RK C<|WS fun _ D=>rP 1 [] mn ?_
 refine iQ 0 U U U U (Af nl F G hlen) U kh U (fun m A=>?_)
 try dsimp only
 refine RK D<|WS fun _ E=>?_
 obtain rfl:=qM A.1 A.2
 skip
 refine rP 2 [] mn ?_
 refine RK E<|an<|LX hQ (F,G) [0] [] mn U U U U ?_
 trivial
end
section
open Go.RowKit
section
variable {K:Type} [DecidableEq K] {kV:K→Value}
variable {E:eY} {ops:Array Oper} {Q:cU} {rest:List Oper} {D:List Deferred} {L:List (Nat×Value)} {C:List aq}
variable {ty:TypeId} {ps:String} {af:Array Edge} {g:Option (Nat×Bool)}
theorem pb {t kt et:TypeId} {xm xk:Operand} {ts:Array TypeId} {b:Nat} {x:K} {m m':List (K×Value)} {C':List aq} (i:Nat) (hg:ju ops L g=true) (hm:ev L xm=some (.map (some b))) (hk:ev L xk=some (kV x)) (hts:ts[0]? =some t)
 (ht:E.P.underlying t=some (.map kt et)) (hkt:uD E.P kt kV) (hC:C[i]? =some (gZ kV b m)) (hm':cq m x=m') (hC':C.set i (gZ kV b m')=C') (k:RJ E ops Q rest D L C'):
 RJ E ops Q (⟨none,.call {callee:= .builtin .delete,args:= #[xm,xk],argTypes:=ts},ty,ps,af,g⟩::rest) D L C:=by
 subst hm' hC'
 intro a w A hs
 unfold rD
 rw [if_pos (dK A hg)]
 obtain ⟨es,c,he,hi⟩:=hs.holds _ (aR hC)
 have B:(getObj b).run E.P w= .ok (.map es c) w:=MapKept.run_getObj_map he
 rcases oV (P:=E.P) (w:=w) (x:=x) hkt hi with ⟨F,G⟩|⟨j,AA,F,G,H⟩
 ·refine gJ (v:= .tuple #[]) (w':={w with heap:=w.heap.setIfInBounds b (.map es c)}) sm ?_ ?_
  ·simp [execOp,resolve,invoke,builtin,A.ev hm,A.ev hk,Builtin.delete_,hts,run_underlying ht,B,iH hkt,F,MapKept.run_setObj_map _ he]
  ·refine k _ _ ⟨A.defers,A.size,A.at_⟩ (hs.Dt (b:=b) i hC U U (nc _) (fun _ h=>h) ⟨_,_,o_ he,?_⟩)
   rw [EJ G]; exact hi
 ·refine gJ (v:= .tuple #[]) (w':={w with heap:=w.heap.setIfInBounds b (.map (es.eraseIdxIfInBounds j) c)}) sm ?_ ?_
  ·simp [execOp,resolve,invoke,builtin,A.ev hm,A.ev hk,Builtin.delete_,hts,run_underlying ht,B,iH hkt,F,MapKept.run_setObj_map _ he]
  ·exact k _ _ ⟨A.defers,A.size,A.at_⟩ (hs.Dt (b:=b) i hC U U (nc _) (fun _ h=>h) ⟨_,_,o_ he,hi.del G⟩)
end
end
section
open Go.RowKit
theorem Jn (n lo hi:Int) (g1 g2:Nat):
 dT Tryz.prog 140 [(vI n),(vP g1),(vP g2)] [(bV g1 3 [(vI lo)]),(bV g2 3 [(vI hi)])] (vB (decide (n<lo∨hi<n))):=by
 refine bx kr Tryz.func140 U U fun D Q hQ hN=>?_
 try dsimp only
 refine WS fun _ B=>bf 1 U<|RK B<|WS fun _ A=>rP 4 [] (mr 0 U mn) ?_
 refine cQ (t:=8) U (aL fun C=>?_) (aM fun C=>?_)
 ·refine rP 5 [] mn ?_
  refine RK A<|an<|Q1 hQ U U U ?_
  exact cB (fI I).symm
 refine rP 5 [] (mr 1 U mn) ?_
 refine RK A<|an<|Q1 hQ U U U ?_
 exact cB (decide_eq_decide.2 I)
theorem iP (lo hi:Int) (l:List Int) (lA:OA) (lC:Nat) (hlen:l.length≤1000000):
 dT Tryz.prog 116 [(vI lo),(vI hi),(vS lA l.length lC)] [(rd lA l.length 1 (l.map iC))] (vB (pW lo hi l)):=by
 refine bx kr Tryz.func116 U U fun F Q hQ hN=>?_
 try dsimp only
 refine WS fun _ D=>uc U U fun A=>uc U U fun B=>bf 1 U<|RK D<|WS fun _ E=>rP 1 [] mn ?_
 refine rS (FU U) ?_
 refine rS (CL (rY l lA lC (Value.func (.func 140) [].toArray [(vP A),(vP B)].toArray) (fun C=>(decide (C<lo∨hi<C))) (eX [(bV A 3 [(vI lo)]),(bV B 3 [(vI hi)])]) (by intro C _; exact nE (fi:=[]) (ca:=[(vP A),(vP B)]) (l0 (Jn C lo hi A B) (bj [0,1]))) hlen) (fD 2 U U<|aw (l5 (bj [1,0]))<|aI) U) ?_
 refine rP 2 [] mn ?_
 refine RK E<|an ?_
 exact Q1 hQ U U U U
theorem Un (n d:Int) (hd:2≤d):
 dT Tryz.prog 142 [(vI n),(vI d)] [] (vI (Sp n d)):=by
 refine bx kr Tryz.func142 U U fun C Q hQ hN=>?_
 try dsimp only
 refine WS fun _ A=>bf 1 U<|RK A<|WS fun _ B=>bf 2 U<|rS (BI U P8)<|rS (BI U Lu)<|bf 1 U<|rS (BI U (Qz I (Qd (Sb _) hd)))<|rP 1 [] mn ?_
 refine RK B<|an ?_
 exact Q1 hQ U U U U
theorem O7 (n d:Int) (hd:1≤d∧d≤1000000) (hn:0≤n∧n≤1000000000000000):
 dT Tryz.prog 142 [(vI n),(vI d)] [] (vI (pa n d)):=by
 refine bx kr Tryz.func142 U U fun C Q hQ hN=>?_
 try dsimp only
 refine WS fun _ A=>bf 1 U<|RK A<|WS fun _ B=>bf 5 U<|rS (BI U (tn I I I))<|rP 1 [] mn ?_
 refine RK B<|an ?_
 exact Q1 hQ U U U U
theorem FP (c:ar) (sA:OA) (sC:Nat) (at_:Int) (hc:eT c) (ha:0≤at_∧at_≤90000000):
 dT Tryz.prog 218 [(vA (dp.cells (dp.mk c.dg (br.mk sA c.bo.length sC)))),(vI at_)] [(rd sA c.bo.length 3 (c.bo.map cw.cells))] (vA (aa.cells (ik c at_))):=by
 have X:=hc.len
 have J:=hc.rH
 refine bx kr Tryz.func218 U U fun e Q hQ hN=>?_
 try dsimp only
 refine WS fun _ M=>fM U fun b=>AL U de fun d=>RK M<|WS fun _ N=>rS (SX (bh (xs:=[(0,.const (vI (-1099511627776))),(1,.const (vI 1099511627776))]) (cs:=(aa.cells (aa.mk (-1099511627776) 1099511627776))) U U (bg gf U)) U U)<|AL U de fun W=>fP U cm U<|RK N<|ah fun _ O=>ah fun _ P=>?_
 have R:(aa.cells (aa.mk (-1099511627776) 1099511627776))=(aa.cells (gh c at_ 0)):=by rfl
 rw [R]
 refine aj<|rP 4 [] (mc 2 U mn) ?_
 refine RK P<|av ?_
 have A:(0≤c.bo.length):=by exact Nat.zero_le _
 refine bH (ι:={z:Nat // (z≤c.bo.length)}) [1,2,4,5,11,12] [1,2,3] U U (fun z=>[(13,(vI (z.1:Int)))]) (fun z=>[(bV W 40 (aa.cells (gh c at_ z.1)))]) (fun _=>rfl) (fun _=>rfl) (fun z=>c.bo.length-z.1) ⟨0,A⟩ (aT U) (aH [1,2,3,0]) ?_
 clear A
 rintro ⟨i,S⟩ J9 L
 try dsimp only
 refine WS fun _ B=>rP 1 [] mn ?_
 refine RK B<|ah fun _ C=>bK U (aM fun K=>?_) (aL fun K=>?_)
 ·refine bu<|ab<|ab<|au<|KK O<|WS fun _ G=>rP 1 [] (mc 3 U mn) ?_
  refine fP U cm U<|RK G<|an<|Ij hQ [0] (mc 0 U mn) U ?_
  rw [nK (show c.bo.length≤i by omega)]
 refine WK C<|ah fun _ D=>av<|WS fun _ E=>?_
 obtain ⟨x,hx⟩:=aJ c.bo i I
 have AA:=bG cw.cells hx
 refine rS (IA i U (aD 2 U) qi dc I I)<|rS (oH i 0 (cw.cells x) U bX (aD 2 U) AA U dc U U)<|AL U rG fun V=>fP U tY U<|RK E<|WS fun _ F=>rP 5 [0,1] (mc 2 U (mc 0 U mn)) ?_
 have T:=hc.uH hx
 have Z:=Bh hc ha i
 have Y:=Fv J ha (show 0≤x.At∧x.At≤90000000 by omega)
 refine fw 5 [] (mc 0 U mn) U<|rS (MX U)<|rS (BI U (Ff ⟨I,I⟩))<|rS (CL (O7 (c.dg*(max (at_-x.At) (x.At-at_))) 1000000 I I) (aI) U)<|bf 1 U<|RK F<|aj<|rP 6 [0,1] (mc 4 U (mc 0 U mn)) ?_
 have a:0≤pa (c.dg*max (at_-x.At) (x.At-at_)) 1000000∧pa (c.dg*max (at_-x.At) (x.At-at_)) 1000000≤90001:=uU J ha T.1
 refine bf 1 U<|rS (MX U)<|rP 7 [0,1] (mc 4 U (mc 0 U mn)) ?_
 refine rS (MN U)<|rS (SX (bh (xs:=[(0,.tmp 37),(1,.tmp 45)]) (cs:=(aa.cells (aa.mk (max ((gh c at_ i).Lo) (x.eo.Lo-(pa (c.dg*(max (at_-x.At) (x.At-at_))) 1000000))) (min ((gh c at_ i).Hi) (x.eo.Hi+(pa (c.dg*(max (at_-x.At) (x.At-at_))) 1000000)))))) U U (bg gf U)) U U)<|Pc U cm U<|aC<|aG<|KK D ?_
 have H:(aa.cells (aa.mk (max ((gh c at_ i).Lo) (x.eo.Lo-(pa (c.dg*(max (at_-x.At) (x.At-at_))) 1000000))) (min ((gh c at_ i).Hi) (x.eo.Hi+(pa (c.dg*(max (at_-x.At) (x.At-at_))) 1000000)))))=(aa.cells (gh c at_ (i+1))):=by rw [jS hx]; rfl
 rw [H]
 refine aj<|rP 2 [] mn ?_
 refine aC ?_
 have AB:(vI (((i+1):Nat):Int))=(vI ((i:Int)+1)):=by exact cI I
 refine aS (L ⟨(i+1),(by first|omega|(simp only []; omega))⟩ _ _ _ U os (ct 6<|aX U AB<|dh.nil _) (aH [1,2,3,4]))
theorem QE (c:ar) (sA:OA) (sC:Nat) (hlen:c.bo.length≤1000000) (hcap:c.bo.length≤sC):
 dT Tryz.prog 120 [(vA (dp.cells (dp.mk c.dg (br.mk sA c.bo.length sC))))] [(rd sA c.bo.length 3 (c.bo.map cw.cells))] (vB (decide (eT c))):=by
 refine bx kr Tryz.func120 U U fun w0 Q hQ hN=>?_
 try dsimp only
 refine WS fun _ A9=>fM U fun b2=>bf 1 U<|RK A9<|AK U<|ah fun _ Bi=>WS fun _ q=>rP 2 [] (mc 0 U mn) ?_
 refine cY (xs:=[.tmp 11]) (cs:=[(vI c.dg)]) U cp jf U U U U (by simp [Value.cells]) U U fun b5=>?_
 refine rS (CL (dT.eq (iP 0 1000 ([c.dg]) (some ⟨b5,0,none⟩) 1 (by (simp; done))) cS) (aw (aZ 0 U U (by simp [bB]) U)<|aI) U) ?_
 refine rP 2 [] mn ?_
 refine cQ (t:=15) U (bp fun AB=>?_) (bq fun AB=>?_)
 ·refine bf 7 U<|RK q<|aO U<|WS fun _ B3=>rP 1 [] mn ?_
  refine RK B3<|an<|Q1 hQ U U U ?_
  exact cB (cf fun h=>AB h.rH).symm
 refine rP 3 [] (mc 1 U mn) ?_
 refine cY (xs:=[.tmp 18]) (cs:=[(vI (c.bo.length:Int))]) U cp jf U U U U (by simp [Value.cells]) U U fun b7=>?_
 refine rS (CL (dT.eq (iP 1 5 ([(c.bo.length:Int)]) (some ⟨b7,0,none⟩) 1 (by (simp; done))) cS) (aw (aZ 0 U U (by simp [bB]) U)<|aI) U) ?_
 refine rP 2 [] mn ?_
 refine RK q<|cy U (bp fun O=>?_) (bq fun O=>?_)
 ·refine WS fun _ B7=>rP 1 [] mn ?_
  refine RK B7<|an<|Q1 hQ U U U ?_
  exact cB (cf fun h=>O (by have:=h.len; omega)).symm
 refine WK Bi<|WS fun _ B9=>bf 1 U<|RK B9<|WS fun _ R=>bf 1 U<|RK R<|ah fun _ S=>z8<|KK S<|ah fun _ K=>WS fun _ T=>rP 4 [] (mc 2 U mn) ?_
 refine RK T<|av ?_
 have B:(0≤c.bo.length)∧(sv c 0):=by exact ⟨Nat.zero_le _,HQ⟩
 have r:(vI (ke c 0))=(vI (-1)):=by rw [gr rfl]
 refine bH (ι:={z:Nat // (z≤c.bo.length)∧(sv c z)}) [1,2,4,24,25] [2,3] U U (fun z=>[(3,(vI (ke c z.1))),(26,(vI (z.1:Int)))]) (fun z=>[]) (fun _=>rfl) (fun _=>rfl) (fun z=>c.bo.length-z.1) ⟨0,B⟩ (aX U r<|aT U) (aH [2,3]) ?_
 clear B
 rintro ⟨i,⟨L,C⟩⟩ J15 P
 try dsimp only
 have C3: -1≤ke c i∧ke c i≤86400000:=PB L C
 refine WS fun _ AA=>rP 1 [] mn ?_
 refine RK AA<|ah fun _ V=>bK U (aM fun A4=>?_) (aL fun A4=>?_)
 ·refine bu<|ab<|ab<|au<|KK K<|WS fun _ f=>rP 2 [] mn ?_
  refine RK f<|an<|Q1 hQ U U U ?_
  exact cB (fI (HD AB I (by have e:i=c.bo.length:=I; rw [← e]; exact C))).symm
 refine WK V<|ah fun _ W=>av<|WS fun _ X=>rP 1 [] mn ?_
 obtain ⟨x,hx⟩:=aJ c.bo i I
 have Cp:=bG cw.cells hx
 refine rS (IA i U (aD 1 U) qi dc I I)<|rS (oH i 0 (cw.cells x) U bX (aD 1 U) Cp U dc U U)<|AL U rG fun Cx=>rP 1 [] mn ?_
 refine fP U tY U<|RK X ?_
 refine ob (ι:=Unit) [1,2,3,5,6,24,25,26] [0,1,2] U U (fun z=>[(4,(vB (decide (ff c i x))))]) (fun z=>[]) (fun _=>rfl) (fun _=>rfl) ?_ fun K22 G=>?_
 ·intro _
  try dsimp only
  refine ah fun _ Y=>WS fun _ Z=>fw 3 [] (mc 1 U mn) U<|rS (Uu i U qi I I)<|rP 2 [] mn ?_
  refine RK Z<|av ?_
  have B:(0≤i)∧((decide (ff c i x))=(decide (lZ c i x 0))):=by exact ⟨Nat.zero_le _,decide_eq_decide.2 DG.symm⟩
  refine bH (ι:={z:Nat×Bool // (z.1≤i)∧(z.2=(decide (lZ c i x z.1)))}) [1,2,3,5,6,24,25,26,59,60] [0,1,2] U U (fun z=>[(4,(vB z.1.2)),(61,(vI (z.1.1:Int)))]) (fun z=>[]) (fun _=>rfl) (fun _=>rfl) (fun z=>i-z.1.1) ⟨(0,(decide (ff c i x))),B⟩ (aT U) (aH [0,1,2]) ?_
  clear B
  rintro ⟨⟨k,b⟩,⟨M,A⟩⟩ J25 F
  try dsimp only at M A
  try dsimp only
  refine WS fun _ a=>rP 1 [] mn ?_
  refine RK a<|ah fun _ d=>bK U (aM fun A6=>?_) (aL fun A6=>?_)
  ·refine bu<|ab<|ab<|au<|KK Y<|ah fun _ m=>WS fun _ n=>rP 2 [] mn ?_
   refine RK n<|cy U (fun D=>?_) (fun D=>?_)
   ·rw [Bool.not_eq_true'] at D
    refine bu<|ab<|iB U<|ab<|ab<|au<|KK K<|WS fun _ p=>rP 2 [] mn ?_
    refine RK p<|an<|Q1 hQ U U U ?_
    exact cB (by have e:k=i:=I; rw [e] at A; rw [D] at A ⊢; exact (cf (LU hx (of_decide_eq_false A.symm))).symm)
   rw [Bool.not_eq_false'] at D
   refine WK m<|aj<|fw 3 [] (mc 0 U mn) U<|aC<|aG<|KK W<|aj<|rP 2 [] mn ?_
   refine aC ?_
   have Ah:(vB true)=(vB b):=by exact cB D.symm
   have Al:(vI (ke c (i+1)))=(vI x.At):=by rw [n9 hx]
   have A0:(vI (((i+1):Nat):Int))=(vI ((i:Int)+1)):=by exact cI I
   refine aS (P ⟨(i+1),⟨I,He C hx (by have e:k=i:=I; rw [e] at A; exact of_decide_eq_true (A.symm.trans D))⟩⟩ _ _ _ U os (dh.cons U<|dh.cons U<|aX U Ah<|dh.cons U<|dh.cons U<|aX U Al<|aX U A0<|dh.nil _) (aH [1,2]))
  refine WK d<|ah fun _ H=>av<|WS fun _ g=>?_
  obtain ⟨o,ho⟩:=aJ c.bo k I
  have Ci:=bG cw.cells ho
  refine rS (Tn k U (aD 2 U) qi dc I I I)<|rS (oH k 0 (cw.cells o) U bX (aD 2 U) Ci U dc U U)<|AL U rG fun C0=>fP U tY U<|RK g<|WS fun _ l=>fw 6 [0,1,2] (mc 2 U (mc 1 U (mc 0 U mn))) U<|rS (BI U Lu)<|rS (BI U PH)<|rS (CL (Un (Bb (c.dg*(Bb (x.At-o.At)))) 1000000 I) (aI) U)<|bf 1 U<|RK l<|aj<|rP 2 [] mn ?_
  refine b_ (t:=75) U (fun J=>?_) (fun J=>?_)
  ·refine bf 6 U<|bf 16 U<|aC<|aG<|KK H<|aj<|rP 2 [] mn ?_
   refine aC ?_
   have AO:(vI (((k+1):Nat):Int))=(vI ((k:Int)+1)):=by exact cI I
   refine aS (F ⟨((k+1),false),⟨I,by exact (cf fun h=>by have h2:=((su ho).1 h).1; rw [A] at J; exact absurd (fI h2) (by rw [J]; decide)).symm⟩⟩ _ _ _ U os (ct 11<|aX U AO<|dh.nil _) (aH [1,2,3]))
  refine rP 6 [0,1] (mc 1 U (mc 0 U mn)) ?_
  have A1:lZ c i x k:=of_decide_eq_true (A.symm.trans J)
  obtain ⟨Ck,Di,Do⟩:=uL (fun j y hj hy=>(C j y hj hy).1) hx A1.1 I ho
  have N:=NU AB Ck
  refine rP 5 [] mn ?_
  refine b_ (t:=86) U (aM fun E=>?_) (aL fun E=>?_)
  ·refine bf 11 U<|aC<|aG<|KK H<|aj<|rP 2 [] mn ?_
   refine aC ?_
   have AC:(vI (((k+1):Nat):Int))=(vI ((k:Int)+1)):=by exact cI I
   refine aS (F ⟨((k+1),false),⟨I,by exact (cf fun h=>by have h2:=((su ho).1 h).2; rw [N] at E; exact E h2.1).symm⟩⟩ _ _ _ U os (ct 11<|aX U AC<|dh.nil _) (aH [1,2,3]))
  refine fw 11 [0,1] (mc 0 U (mc 1 U mn)) U<|aC<|aG<|KK H<|aj<|rP 2 [] mn ?_
  refine aC ?_
  have w:(vI (((k+1):Nat):Int))=(vI ((k:Int)+1)):=by exact cI I
  refine aS (F ⟨((k+1),(decide ((o.eo.Lo-x.eo.Hi)≤(Sp (Bb (c.dg*(Bb (x.At-o.At)))) 1000000)))),⟨I,by exact decide_eq_decide.2 (by rw [su ho,N]; rw [N] at E; exact ⟨fun h=>⟨A1,E,h⟩,fun h=>h.2.2⟩)⟩⟩ _ _ _ U os (ct 11<|aX U w<|dh.nil _) (aH [1,2,3]))
 refine aj<|rP 4 [] (mc 0 U mn) ?_
 refine cY (xs:=[.tmp 34]) (cs:=[(vI x.At)]) U cp jf U U U U (by simp [Value.cells]) U U fun A2=>?_
 refine rS (CL (dT.eq (iP ((ke c i)+1) 86400000 ([x.At]) (some ⟨A2,0,none⟩) 1 (by (simp; done))) cS) (aw (aZ 0 U U (by simp [bB]) U)<|aI) U) ?_
 refine rP 1 [] mn ?_
 refine b_ (t:=37) U (aM fun A7=>?_) (aL fun A7=>?_)
 ·refine rP 19 [] mn ?_
  refine aC ?_
  have v:(decide (ff c i x))=false:=cf (by unfold ff; omega)
  refine aS (jE (ct 8<|np U v<|dh.nil _) (aH [1,2,3]) (G ()))
 refine rP 6 [] (mc 1 U mn) ?_
 refine cY (xs:=[.tmp 40,.tmp 43]) (cs:=[(vI x.eo.Lo),(vI x.eo.Hi)]) U cp jf U U U U (by simp [Value.cells]) U U fun A3=>?_
 refine rS (CL (dT.eq (iP (-10000) 10000 ([x.eo.Lo,x.eo.Hi]) (some ⟨A3,0,none⟩) 2 (by (simp; done))) rf) (aw (aZ 0 U U (by simp [bB]) U)<|aI) U) ?_
 refine rP 2 [] mn ?_
 refine b_ (t:=47) U (aM fun A8=>?_) (aL fun A8=>?_)
 ·refine rP 9 [] mn ?_
  refine aC ?_
  have u:(decide (ff c i x))=false:=cf (by unfold ff; omega)
  refine aS (jE (ct 8<|np U u<|dh.nil _) (aH [2,3,4]) (G ()))
 refine rP 9 [] (mc 2 U mn) ?_
 refine aC ?_
 have s:(decide (ff c i x))=(decide (x.eo.Lo≤x.eo.Hi)):=decide_eq_decide.2 (by unfold ff; omega)
 refine aS (jE (ct 8<|np U s<|dh.nil _) (aH [2,3,4]) (G ()))
theorem Rg (ms:List ar) (az:List RA) (k:Nat) (m:ar) (a:RA) (hm:ms[k]? =some m) (ha:az[k]? =some a) (hc:m.bo.length≤a.2∧m.bo.length≤1000000):
 dT Tryz.prog 119 [(vA (dp.cells (dp.mk m.dg (br.mk a.1 m.bo.length a.2))))] [(eX (aV ar.g0 ms az))] (vB (!(decide (eT m)))):=by
 obtain ⟨C,D⟩:=hc
 refine bx kr Tryz.func119 U U fun F Q hQ hN=>?_
 try dsimp only
 refine WS fun _ A=>fM U fun E=>bf 1 U<|RK A<|WS fun _ B=>fw 1 [] (mc 0 U mn) U<|rS (CL (QE m a.1 a.2 asm asm) (aw (show il _ (rd a.1 m.bo.length 3 (m.bo.map cw.cells)).holds from (du 1 U (bM hm ha (by simp [ar.g0]))))<|aI) U)<|rP 2 [] mn ?_
 refine RK B<|an ?_
 exact Q1 hQ U U U U
theorem H8 (l:List ar) (az:List RA) (lA:OA) (lC:Nat) (f:Value) (p:ar→Bool) (X:aq) (hf: ∀ (k:Nat) m a,l[k]? =some m→az[k]? =some a→EB Tryz.prog f [.agg (ar.cells m a).toArray] [X] (.bool (p m))) (hlen:l.length≤1000000) (has:az.length=l.length):
 dT Tryz.prog 141 [(vS lA l.length lC),f] [(rd lA l.length 2 (List.zipWith ar.cells l az)),(eX (aV ar.g0 l az)),X] (vI (sQ p l)):=by
 refine bx kr Tryz.func141 U U fun T Q hQ hN=>?_
 try dsimp only
 refine WS fun _ AB=>bf 1 U<|RK AB<|ah fun _ J=>WS fun _ K=>rP 3 [] mn ?_
 refine RK K<|av ?_
 have B:(0≤l.length)∧((l.take 0).any p=false):=by simp
 refine bH (ι:={z:Nat // (z≤l.length)∧((l.take z).any p=false)}) [0,1,7] [0,1,2] U U (fun z=>[(8,(vI (z.1:Int)))]) (fun z=>[]) (fun _=>rfl) (fun _=>rfl) (fun z=>l.length-z.1) ⟨0,B⟩ (aT U) (aH [0,1,2]) ?_
 clear B
 rintro ⟨i,⟨P,A⟩⟩ J4 H
 try dsimp only
 refine WS fun _ L=>rP 1 [] mn ?_
 refine RK L<|ah fun _ M=>bK U (aM fun S=>?_) (aL fun S=>?_)
 ·refine bu<|ab<|ab<|au<|KK J<|WS fun _ E=>rP 1 [] mn ?_
  refine RK E<|an<|Q1 hQ U U U ?_
  exact cI (sB I A).symm
 refine WK M<|ah fun _ N=>av<|WS fun _ O=>bf 2 U<|RK O<|WS fun _ C=>rP 3 [] mn ?_
 obtain ⟨x,hx⟩:=aJ l i I
 obtain ⟨xa,G⟩:=aJ az i I
 have R:(List.zipWith ar.cells l az)[i]? =some (ar.cells x xa):=dA hx G
 refine rS (IA i U (aD 0 U) AA dc I I)<|rS (oH i 0 (dp.cells (dp.mk x.dg (br.mk xa.1 x.bo.length xa.2))) U bX (aD 0 U) R U dc U U)<|rS (SX (sx U U U (hf i x xa hx G) (bj [2])) U U)<|RK C<|cy U (fun hp=>?_) (fun hp=>?_)
 ·refine WS fun _ D=>rP 2 [] mn ?_
  refine RK D<|an<|Q1 hQ U U U ?_
  exact cI (wq hx hp A).symm
 refine bZ<|aG<|KK N<|aj<|rP 2 [] mn ?_
 refine aC ?_
 have F:(vI (((i+1):Nat):Int))=(vI ((i:Int)+1)):=by exact cI I
 refine aS (H ⟨(i+1),⟨I,wT hx A hp⟩⟩ _ _ _ U os (ct 3<|aX U F<|dh.nil _) (aH [0,1,2]))
theorem Ac (l:List ar) (az:List RA) (lA:OA) (lC:Nat) (f:Value) (p:ar→Bool) (X:aq) (hf: ∀ (k:Nat) m a,l[k]? =some m→az[k]? =some a→EB Tryz.prog f [.agg (ar.cells m a).toArray] [X] (.bool (p m))) (hlen:l.length≤1000000) (has:az.length=l.length):
 dT Tryz.prog 118 [(vS lA l.length lC),f] [(rd lA l.length 2 (List.zipWith ar.cells l az)),(eX (aV ar.g0 l az)),X] (vB (l.any p)):=by
 refine bx kr Tryz.func118 U U fun C Q hQ hN=>?_
 try dsimp only
 refine WS fun _ A=>bf 1 U<|RK A<|WS fun _ B=>bf 2 U<|rS (CL (H8 l az lA lC f p X (by exact hf) hlen has) (No 0 1 2 U U U U U U) U)<|rP 2 [] mn ?_
 refine RK B<|an<|Q1 hQ U U U ?_
 exact cB uo
theorem HN (l:List bD) (lA:OA) (lC:Nat) (f:Value) (p:bD→Bool) (X:aq) (hf: ∀ x0,x0∈l→EB Tryz.prog f [.agg (bD.cells x0).toArray] [X] (.bool (p x0))) (hlen:l.length≤1000000):
 dT Tryz.prog 143 [(vS lA l.length lC),f] [(rd lA l.length 4 (l.map bD.cells)),X] (vI (sQ p l)):=by
 refine bx kr Tryz.func143 U U fun S Q hQ hN=>?_
 try dsimp only
 refine WS fun _ H=>bf 1 U<|RK H<|ah fun _ AA=>WS fun _ J=>rP 3 [] mn ?_
 refine RK J<|av ?_
 have B:(0≤l.length)∧((l.take 0).any p=false):=by simp
 refine bH (ι:={z:Nat // (z≤l.length)∧((l.take z).any p=false)}) [0,1,7] [0,1] U U (fun z=>[(8,(vI (z.1:Int)))]) (fun z=>[]) (fun _=>rfl) (fun _=>rfl) (fun z=>l.length-z.1) ⟨0,B⟩ (aT U) (aH [0,1]) ?_
 clear B
 rintro ⟨i,⟨O,A⟩⟩ J4 G
 try dsimp only
 refine WS fun _ K=>rP 1 [] mn ?_
 refine RK K<|ah fun _ L=>bK U (aM fun R=>?_) (aL fun R=>?_)
 ·refine bu<|ab<|ab<|au<|KK AA<|WS fun _ E=>rP 1 [] mn ?_
  refine RK E<|an<|Q1 hQ U U U ?_
  exact cI (sB I A).symm
 refine WK L<|ah fun _ M=>av<|WS fun _ N=>bf 2 U<|RK N<|WS fun _ C=>rP 3 [] mn ?_
 obtain ⟨x,hx⟩:=aJ l i I
 have P:=bG bD.cells hx
 refine rS (IA i U (aD 0 U) vJ dc I I)<|rS (oH i 0 (bD.cells x) U bX (aD 0 U) P U dc U U)<|rS (SX (sx U U U (hf x (aR hx)) (bj [1])) U U)<|RK C<|cy U (fun hp=>?_) (fun hp=>?_)
 ·refine WS fun _ D=>rP 2 [] mn ?_
  refine RK D<|an<|Q1 hQ U U U ?_
  exact cI (wq hx hp A).symm
 refine bZ<|aG<|KK M<|aj<|rP 2 [] mn ?_
 refine aC ?_
 have F:(vI (((i+1):Nat):Int))=(vI ((i:Int)+1)):=by exact cI I
 refine aS (G ⟨(i+1),⟨I,wT hx A hp⟩⟩ _ _ _ U os (ct 3<|aX U F<|dh.nil _) (aH [0,1]))
theorem AF (l:List bD) (lA:OA) (lC:Nat) (f:Value) (p:bD→Bool) (X:aq) (hf: ∀ x0,x0∈l→EB Tryz.prog f [.agg (bD.cells x0).toArray] [X] (.bool (p x0))) (hlen:l.length≤1000000):
 dT Tryz.prog 122 [(vS lA l.length lC),f] [(rd lA l.length 4 (l.map bD.cells)),X] (vB (l.any p)):=by
 refine bx kr Tryz.func122 U U fun C Q hQ hN=>?_
 try dsimp only
 refine WS fun _ A=>bf 1 U<|RK A<|WS fun _ B=>bf 2 U<|rS (CL (HN l lA lC f p X (by exact hf) hlen) (bj [0,1]) U)<|rP 2 [] mn ?_
 refine RK B<|an<|Q1 hQ U U U ?_
 exact cB uo
end
section
open Go.RowKit
theorem pt (a:aa) (l:List aa) (lA:OA) (lC:Nat) (ha:lj a) (hl: ∀ z∈l,lj z) (hlen:l.length≤4):
 dT Tryz.prog 147 [(vA (aa.cells a)),(vS lA l.length lC)] [(rd lA l.length 2 (l.map aa.cells))] (vA (aa.cells (ko a l))):=by
 refine bx kr Tryz.func147 U U fun AA Q hQ hN=>?_
 try dsimp only
 refine WS fun _ AB=>fM U fun R=>AL U de fun T=>RK AB<|ah fun _ J=>WS fun _ K=>rP 3 [] mn ?_
 refine RK K<|av ?_
 have A:(0≤l.length):=by exact Nat.zero_le _
 refine bH (ι:={z:Nat // (z≤l.length)}) [2,4,7,8] [0,2] U U (fun z=>[(9,(vI (z.1:Int)))]) (fun z=>[(bV R 40 (aa.cells (ko a (l.take z.1))))]) (fun _=>rfl) (fun _=>rfl) (fun z=>l.length-z.1) ⟨0,A⟩ (aT U) (aH [0,2,1]) ?_
 clear A
 rintro ⟨i,N⟩ J6 H
 try dsimp only
 refine WS fun _ L=>rP 1 [] mn ?_
 refine RK L<|ah fun _ M=>bK U (aM fun S=>?_) (aL fun S=>?_)
 ·refine bu<|ab<|ab<|au<|KK J<|ah fun _ D=>?_
  have G:(aa.cells (ko a (l.take i)))=(aa.cells (ko a l)):=by rw [JB I]
  rw [G]
  refine aj<|rP 1 [] (mc 2 U mn) ?_
  refine fP U cm U<|RK D<|an ?_
  exact Ij hQ [0] (mc 0 U mn) U U
 refine WK M<|ah fun _ B=>av<|WS fun _ C=>?_
 obtain ⟨x,hx⟩:=aJ l i I
 have O:=bG aa.cells hx
 refine rS (IA i U (aD 1 U) jQ dc I I)<|rS (oH i 0 (aa.cells x) U bX (aD 1 U) O U dc U U)<|AL U de fun P=>fP U cm U<|RK C<|aj ?_
 have hb:=QN ha hl i
 have hz:=hl x (aR hx)
 unfold lj at hz
 refine rP 10 [0,1,0,1] (mc 3 U (mc 0 U mn)) ?_
 refine rS (SX (bh (xs:=[(0,.tmp 17),(1,.tmp 22)]) (cs:=(aa.cells (aa.mk (((ko a (l.take i)).Lo)+x.Lo) (((ko a (l.take i)).Hi)+x.Hi)))) U U (bg gf U)) U U)<|TX U cm U<|aC<|aG<|KK B ?_
 have E:(aa.cells (aa.mk (((ko a (l.take i)).Lo)+x.Lo) (((ko a (l.take i)).Hi)+x.Hi)))=(aa.cells (ko a (l.take (i+1)))):=by rw [yE hx]; rfl
 rw [E]
 refine aj<|rP 2 [] mn ?_
 refine aC ?_
 have F:(vI ((i+1):Int))=(vI ((i:Int)+1)):=by exact cI I
 refine aS (H ⟨(i+1),(by first|omega|(simp only []; omega))⟩ _ _ _ U os (ct 4<|aX U F<|dh.nil _) (aH [1,2,3]))
theorem Gc (ts:List al) (tsA:OA) (tsC:Nat) (hlen:ts.length≤1000000) (hside: ∀ x∈ts,0≤x.i_∧x.i_≤255):
 dT Tryz.prog 144 [(vA (bE.cells (bE.mk (br.mk tsA ts.length tsC))))] [(rd tsA ts.length 9 (ts.map al.cells))] (vT [(vA (ei.cells (ei.mk (bE.mk (br.mk tsA ts.length tsC))))),(vI (if cT ts=true then 0 else 10))]):=by
 refine bx kr Tryz.func144 U U fun E Q hQ hN=>?_
 try dsimp only
 refine WS fun _ A=>fM U fun C=>AL U L9 fun D=>bf 1 U<|RK A<|ah fun _ B=>dB cu 4 kr<|mP 1 [] (mc 1 U mn) U<|dS (SX (bh (xs:=[(0,.tmp 4)]) (cs:=(ei.cells (ei.mk (bE.mk (br.mk tsA ts.length tsC))))) U U (bg SH U)) U U)<|mP 1 [] (mc 1 U mn) U<|dS (CL (Bu ts tsA tsC hlen hside) (bj [2]) U)<|cM<|fP U Mn U<|rP 1 [] mn ?_
 refine RK B<|an ?_
 exact lp hQ [0] (mc 0 U mn) U U
theorem MJ (f:Int) (tsA:OA) (tsN tsC:Nat):
 lv Tryz.prog 161 [(vA (ei.cells (ei.mk (bE.mk (br.mk tsA tsN tsC))))),(vI f)] [] (fun (x:Nat×Nat)=>(Value.func (.func 169) [].toArray [(Value.pointer (some ⟨x.1,0,none⟩)),(Value.pointer (some ⟨x.2,0,none⟩))].toArray)) (fun (x:Nat×Nat)=>True) (fun (x:Nat×Nat)=>[(bV x.1 3 [(vI f)]),(bV x.2 203 (ei.cells (ei.mk (bE.mk (br.mk tsA tsN tsC)))))]):=by
 refine dj kr Tryz.func161 U U fun E Q hQ hN=>?_
 try dsimp only
 refine WS fun _ A=>fM U fun C=>uc U U fun D=>bf 1 U<|RK A<|WS fun _ B=>rS (FU U)<|rP 1 [] mn ?_
 refine RK B<|an<|LX hQ (D,C) [0,1] [] mn U U U U ?_
 trivial
theorem HA (ts:List al) (tsA:OA) (tsC:Nat) (f:Int) (g1 g2:Nat) (hst: ∀ x∈ts,bJ x) (hlen:ts.length≤12) (hf:0≤f∧f≤ts.length):
 Ok Tryz.prog 169 [] [(vP g1),(vP g2)] [(rd tsA ts.length 9 (ts.map al.cells)),(bV g1 3 [(vI f)]),(bV g2 203 (ei.cells (ei.mk (bE.mk (br.mk tsA ts.length tsC)))))] (sT ts f.toNat):=by
 refine FC kr Tryz.func169 U U fun l J Z A0 p Q hY g d hQ hN=>?_
 try dsimp only
 refine WS fun _ h=>AL U de fun n=>AL U de fun o=>RK h<|WS fun _ i=>rP 2 [] (mr 4 U mn) ?_
 refine RK i<|av ?_
 have P:(0≤ts.length-f.toNat)∧(J 0 A0)∧(Fo A0 p A0):=by exact ⟨Nat.zero_le _,g,d⟩
 have m:(vI (f+(0:Int)))=(vI f):=by exact cI I
 refine bH (ι:={z:Nat×aq // (z.1≤ts.length-f.toNat)∧(J z.1 z.2)∧(Fo A0 p z.2)}) [0,1,2,4,5] [3,4,5] U U (fun z=>[(6,(vI (f+(z.1.1:Int))))]) (fun z=>[(bV o 40 (aa.cells (f_ ts f.toNat z.1.1))),(bV n 40 (aa.cells (eA ts f.toNat z.1.1))),z.1.2]) (fun _=>rfl) (fun _=>rfl) (fun z=>ts.length-f.toNat-z.1.1) ⟨(0,A0),P⟩ (aX U m<|dh.nil _) (aH [3,4,5,0,1,2]) ?_
 clear P
 rintro ⟨⟨k,A⟩,⟨W,R,S⟩⟩ J6 V
 try dsimp only at W R S
 try dsimp only
 refine ah fun _ j=>WS fun _ X=>rP 3 [0,1] (mc 4 U (mc 3 U mn)) ?_
 refine Gh 5 hY R S U U U (yG I) U U (fun B9 C B=>?_) (fun B9 C B=>?_)
 rotate_left 1
 ·refine rP 8 [] mn ?_
  refine RK X<|aW U<|bu<|ab<|ab<|au ?_
  refine hN _ _ _ (gX (vs:=[]) trivial fun w hs=>OS 5 U C B hs)
 refine rP 8 [] (mr 2 U mn) ?_
 refine RK X<|bK U (aM fun c=>?_) (aL fun c=>?_)
 ·refine bu<|ab<|ab<|au ?_
  refine hN _ _ _ (gX (vs:=[]) trivial fun w hs=>S6 5 U (by rw [t_]; have e:ts.length-f.toNat+1=k+1:=I; rw [e]; exact C) B hs)
 refine WK j<|ah fun _ M=>av<|pn cu [0,1,2,3,4,5,6,7,10,11,12,13,14,15,16,17] [8,9,18,19,20,21] [true,false,false,false,false,false,false,false,true,false,false,false,false,false,false,false] [8,9,18] [(rd tsA ts.length 9 (ts.map al.cells)).ro,(bV g1 3 [(vI f)]).ro,(bV g2 203 (ei.cells (ei.mk (bE.mk (br.mk tsA ts.length tsC))))).ro,B9] [(rd tsA ts.length 9 (ts.map al.cells)).ro,(bV g1 3 [(vI f)]).ro,(bV g2 203 (ei.cells (ei.mk (bE.mk (br.mk tsA ts.length tsC))))).ro,(bV o 40 (aa.cells (f_ ts f.toNat k))),(bV n 40 (aa.cells (eA ts f.toNat k))),B9] kr (aH [0,1,2,5]) (aH [0,1,2,3,4,5])<|fS U (LW 4 U bX U U)<|eS U (FA 0 U fu U)<|eS U (FA 0 U fu U)<|eS U (Ih (vS tsA ts.length tsC) 2 U bX U U)<|eS U (MV U) ?_
 obtain ⟨x,hx⟩:=aJ ts (f.toNat+k) I
 have a:=bG al.cells hx
 refine eS U (IA (f.toNat+k) U (aD 0 U) yj dc I I) ?_
 have L:=hst x (aR hx)
 refine eS U (nS (((f.toNat+k)*9)+1) U (aD 0 U) (Nat.mul_pos I dc) fu U)<|eS U (oH (f.toNat+k) 1 (aa.cells x.kD) U bX (aD 0 U) a U dc U U)<|fS U (LW 3 U bX U U)<|eS U (FA 0 U fu U)<|eS U (FA 0 U fu U)<|eS U (Ih (vS tsA ts.length tsC) 2 U bX U U)<|eS U (MV U)<|eS U (IA (f.toNat+k) U (aD 0 U) yj dc I I)<|eS U (nS (((f.toNat+k)*9)+3) U (aD 0 U) (Nat.mul_pos I dc) fu U)<|eS U (oH (f.toNat+k) 3 (aa.cells x.lP) U bX (aD 0 U) a U dc U U)<|eU U<|iJ [8,18] kr (eE ?_<|eE ?_<|kl)
 rotate_left 1
 ·refine vf (rem':=[8,9,19,20,21]) U kr fun T14 N=>cY (xs:=[.tmp 39]) (cs:=(aa.cells x.lP)) U jQ de U U U U (by simp [Value.cells,aa.aU]) U U fun T=>aC (N _ _ (aH [1,2,3,6]) (aH [1,2,3,4,5,6]) ?_)
  refine N1 8<|vf (rem':=[9,19,20,21]) U kr fun T16 D=>cY (xs:=[.tmp 29]) (cs:=(aa.cells x.kD)) U jQ de U U U U (by simp [Value.cells,aa.aU]) U U fun AA=>aC (D _ _ (aH [2,3,4,7]) (aH [2,3,4,5,6,7]) ?_)
  refine N1 9<|vf (rem':=[19,20,21]) U kr fun T18 O=>?_
  refine rS (CL (dT.eq (pt (eA ts f.toNat k) ([x.kD]) (some ⟨AA,0,none⟩) 1 (by exact qI hst I) (by intro z hz; simp only [bS] at hz; subst hz; exact uT L) sm) nH) (aw (aZ 0 rfl rfl (by simp [aa.aU]) rfl)<|aI) rfl) ?_
  refine aC (O _ _ (aH [2,3,4,7]) (aH [2,3,4,5,6,7]) ?_)
  refine N1 19<|NO U U [20,21] fun T19 E=>?_
  refine rS (CL (dT.eq (pt (f_ ts f.toNat k) ([x.lP]) (some ⟨T,0,none⟩) 1 (by exact wH hst I) (by intro z hz; simp only [bS] at hz; subst hz; exact ud L) sm) nH) (aw (aZ 1 rfl rfl (by simp [aa.aU]) rfl)<|aI) rfl) ?_
  refine aC (E _ _ (aH [2,3,4,7]) ?_)
  refine N1 20<|NO U U [21] fun T20 F=>O6 U cm U<|aC (F _ _ (aH [2,3,4,7]) ?_)
  refine N1 21<|NO U U [] fun T21 G=>Ii U cm U<|aC (G _ _ (aH [2,3,4,7]) ?_)
  refine pR<|aG<|KK M ?_
  have H:(aa.cells (mh (eA ts f.toNat k) x.kD))=(aa.cells (eA ts f.toNat (k+1))):=by rw [pg hx]
  rw [H]
  have AB:(aa.cells (mh (f_ ts f.toNat k) x.lP))=(aa.cells (f_ ts f.toNat (k+1))):=by rw [pq hx]
  rw [AB]
  refine aj<|rP 3 [] mn ?_
  refine aC ?_
  have K:(vI (f+(((k+1):Nat):Int)))=(vI ((f+(k:Int))+1)):=by exact cI I
  refine aS (V ⟨((k+1),B9),⟨I,C,B⟩⟩ _ _ _ U os (ct 5<|aX U K<|dh.nil _) (aH [2,3,4,5,6,7]))
 refine vf (rem':=[9,18,19,20,21]) U kr fun T14 N=>cY (xs:=[.tmp 29]) (cs:=(aa.cells x.kD)) U jQ de U U U U (by simp [Value.cells,aa.aU]) U U fun T=>aC (N _ _ (aH [1,2,3,6]) (aH [1,2,3,4,5,6]) ?_)
 refine iJ [9,18] kr (eE ?_<|eE ?_<|kl)
 rotate_left 1
 ·refine vf (rem':=[9,19,20,21]) U kr fun T16 D=>cY (xs:=[.tmp 39]) (cs:=(aa.cells x.lP)) U jQ de U U U U (by simp [Value.cells,aa.aU]) U U fun AA=>aC (D _ _ (aH [2,3,4,7]) (aH [2,3,4,5,6,7]) ?_)
  refine N1 9<|vf (rem':=[19,20,21]) U kr fun T18 O=>?_
  refine rS (CL (dT.eq (pt (eA ts f.toNat k) ([x.kD]) (some ⟨T,0,none⟩) 1 (by exact qI hst I) (by intro z hz; simp only [bS] at hz; subst hz; exact uT L) sm) nH) (aw (aZ 1 rfl rfl (by simp [aa.aU]) rfl)<|aI) rfl) ?_
  refine aC (O _ _ (aH [2,3,4,7]) (aH [2,3,4,5,6,7]) ?_)
  refine N1 19<|NO U U [20,21] fun T19 E=>?_
  refine rS (CL (dT.eq (pt (f_ ts f.toNat k) ([x.lP]) (some ⟨AA,0,none⟩) 1 (by exact wH hst I) (by intro z hz; simp only [bS] at hz; subst hz; exact ud L) sm) nH) (aw (aZ 0 rfl rfl (by simp [aa.aU]) rfl)<|aI) rfl) ?_
  refine aC (E _ _ (aH [2,3,4,7]) ?_)
  refine N1 20<|NO U U [21] fun T20 F=>O6 U cm U<|aC (F _ _ (aH [2,3,4,7]) ?_)
  refine N1 21<|NO U U [] fun T21 G=>Ii U cm U<|aC (G _ _ (aH [2,3,4,7]) ?_)
  refine pR<|aG<|KK M ?_
  have H:(aa.cells (mh (eA ts f.toNat k) x.kD))=(aa.cells (eA ts f.toNat (k+1))):=by rw [pg hx]
  rw [H]
  have AB:(aa.cells (mh (f_ ts f.toNat k) x.lP))=(aa.cells (f_ ts f.toNat (k+1))):=by rw [pq hx]
  rw [AB]
  refine aj<|rP 3 [] mn ?_
  refine aC ?_
  have K:(vI (f+(((k+1):Nat):Int)))=(vI ((f+(k:Int))+1)):=by exact cI I
  refine aS (V ⟨((k+1),B9),⟨I,C,B⟩⟩ _ _ _ U os (ct 5<|aX U K<|dh.nil _) (aH [2,3,4,5,6,7]))
 refine vf (rem':=[18,19,20,21]) U kr fun T16 D=>?_
 refine rS (CL (dT.eq (pt (eA ts f.toNat k) ([x.kD]) (some ⟨T,0,none⟩) 1 (by exact qI hst I) (by intro z hz; simp only [bS] at hz; subst hz; exact uT L) sm) nH) (aw (aZ 0 rfl rfl (by simp [aa.aU]) rfl)<|aI) rfl) ?_
 refine aC (D _ _ (aH [1,2,3,6]) (aH [1,2,3,4,5,6]) ?_)
 refine N1 18<|vf (rem':=[19,20,21]) U kr fun T17 Y=>cY (xs:=[.tmp 39]) (cs:=(aa.cells x.lP)) U jQ de U U U U (by simp [Value.cells,aa.aU]) U U fun b=>aC (Y _ _ (aH [2,3,4,7]) (aH [2,3,4,5,6,7]) ?_)
 refine N1 19<|NO U U [20,21] fun T19 E=>?_
 refine rS (CL (dT.eq (pt (f_ ts f.toNat k) ([x.lP]) (some ⟨b,0,none⟩) 1 (by exact wH hst I) (by intro z hz; simp only [bS] at hz; subst hz; exact ud L) sm) nH) (aw (aZ 0 rfl rfl (by simp [aa.aU]) rfl)<|aI) rfl) ?_
 refine aC (E _ _ (aH [2,3,4,7]) ?_)
 refine N1 20<|NO U U [21] fun T20 F=>O6 U cm U<|aC (F _ _ (aH [2,3,4,7]) ?_)
 refine N1 21<|NO U U [] fun T21 G=>Ii U cm U<|aC (G _ _ (aH [2,3,4,7]) ?_)
 refine pR<|aG<|KK M ?_
 have H:(aa.cells (mh (eA ts f.toNat k) x.kD))=(aa.cells (eA ts f.toNat (k+1))):=by rw [pg hx]
 rw [H]
 have AB:(aa.cells (mh (f_ ts f.toNat k) x.lP))=(aa.cells (f_ ts f.toNat (k+1))):=by rw [pq hx]
 rw [AB]
 refine aj<|rP 3 [] mn ?_
 refine aC ?_
 have K:(vI (f+(((k+1):Nat):Int)))=(vI ((f+(k:Int))+1)):=by exact cI I
 refine aS (V ⟨((k+1),B9),⟨I,C,B⟩⟩ _ _ _ U os (ct 5<|aX U K<|dh.nil _) (aH [2,3,4,5,6,7]))
theorem KW (ts:List al) (tsA:OA) (tsC:Nat) (f t:Int) (hst: ∀ x∈ts,bJ x) (hlen:ts.length≤12) (hf:0≤f∧f≤t∧t≤ts.length):
 dT Tryz.prog 146 [(vA (ei.cells (ei.mk (bE.mk (br.mk tsA ts.length tsC))))),(vI f),(vI t)] [(rd tsA ts.length 9 (ts.map al.cells))] (vT [(vA (aa.cells (eA ts f.toNat (t-f).toNat))),(vA (aa.cells (f_ ts f.toNat (t-f).toNat)))]):=by
 refine bx kr Tryz.func146 U U fun w0 Q hQ hN=>?_
 try dsimp only
 refine WS fun _ M=>fM U fun a=>uc U U fun b=>uc U U fun d=>AL U de fun e=>AL U de fun g=>RK M<|ah fun _ AA=>WS fun _ V=>rP 2 [0,1] (mc 4 U (mc 3 U mn)) ?_
 refine cX (MJ f tsA ts.length tsC) (aI) U fun u n=>?_
 obtain ⟨B,C⟩:=u
 try dsimp only
 refine RK V<|av<|ky 7 U (by exact fun _ h=>h) ?_
 refine Ga (L0:=[(3,(vP a)),(4,(vP b)),(5,(vP d)),(6,(vP e)),(7,(vP g))]) (F:=[(rd tsA ts.length 9 (ts.map al.cells)).ro,(bV B 3 [(vI f)]),(bV C 203 (ei.cells (ei.mk (bE.mk (br.mk tsA ts.length tsC)))))]) (xs:=(sT ts f.toNat)) (fun k (y:aa×aa×Int)=>(k≤(t-f).toNat)∧(y.2.2=f+(k:Int))) (fun k y=>[(bV g 40 (aa.cells y.2.1)),(bV e 40 (aa.cells y.1)),(bV d 3 [(vI t)]),(bV b 3 [(vI y.2.2)]),(bV a 203 (ei.cells (ei.mk (bE.mk (br.mk tsA ts.length tsC))))),(rd tsA ts.length 9 (ts.map al.cells)).ro]) (fun c (z:Unit)=>(c= .exit 0)) (fun _ z=>[(bV g 40 (aa.cells (f_ ts f.toNat (t-f).toNat))),(bV e 40 (aa.cells (eA ts f.toNat (t-f).toNat))),(bV d 3 [(vI t)]),(bV b 3 [(vI t)]),(bV a 203 (ei.cells (ei.mk (bE.mk (br.mk tsA ts.length tsC))))),(rd tsA ts.length 9 (ts.map al.cells)).ro]) [3,4,5,6,7,8] [0,1,2] (dx,dx,f) U U (HA ts tsA tsC f B C (by first|assumption|omega|(simp; done)) (by first|assumption|omega|(simp; done)) I) U U U (by exact ⟨Nat.zero_le _,sm⟩) (by simp only [List.forall_mem_cons,List.not_mem_nil,false_imp_iff,implies_true,and_true]; exact ⟨⟨_,sm,(dD (bP _))⟩,⟨_,sm,(bP _)⟩,⟨_,sm,(bP _)⟩⟩) (by exact D3) U (aT U) ?_ ?_ ?_ ?_
 rotate_left 1
 ·rintro q ⟨v,z2,m⟩ J
  obtain ⟨A,K⟩:=J
  try dsimp only at A K
  try dsimp only
  exfalso; rw [t_] at A; omega
 ·rintro r id _ Y
  have hc:=Y
  cases hc
  try dsimp only
  refine au<|KK AA<|ah fun _ D=>dG cu [2,3] [] [] [0,1,2,3,4,5,6,7,8,9] [] U U U U U<|eS U (LW 5 U bX U U)<|eS U (LW 4 U bX U U)<|eU U<|bY U fun T30 E=>Ii U cm U<|aC (E _ _ (aH [0,1,2,3,4,5,6,7,8,9]) ?_)
  refine bY U fun T31 G=>Pc U cm U<|aC (G _ _ (aH [0,1,2,3,4,5,6,7,8,9]) ?_)
  refine fF U<|KK D<|an<|hQ _ _ _ (ou 0 U U<|gX (vs:=[(vA (aa.cells (eA ts f.toNat (t-f).toNat))),(vA (aa.cells (f_ ts f.toNat (t-f).toNat)))]) ⟨⟨_,U,.inl ⟨_,_,bX,pd (vs:=(aa.cells (eA ts f.toNat (t-f).toNat))) 5 U U,U,U⟩⟩,⟨_,U,.inl ⟨_,_,bX,pd (vs:=(aa.cells (f_ ts f.toNat (t-f).toNat))) 4 U U,U,U⟩⟩,trivial⟩ fun w hs=>D7 ?_ hs)
  show (vT [(vA (aa.cells (eA ts f.toNat (t-f).toNat))),(vA (aa.cells (f_ ts f.toNat (t-f).toNat)))])=(vT [(vA (aa.cells (eA ts f.toNat (t-f).toNat))),(vA (aa.cells (f_ ts f.toNat (t-f).toNat)))])
  clear hs w hQ hN G T31 E T30 D V AA M
  rfl
 ·rintro s _ Z
  cases Z
 rintro k x ⟨v,z2,m⟩ l ra rb S w1 K13 Qr14 hx AB N H L j
 obtain ⟨hk,rfl⟩:=GG hx
 obtain ⟨A,K⟩:=AB
 try dsimp only at A K
 try dsimp only
 refine WS fun _ O=>AL U de fun o=>fP U cm U<|RK O<|aj<|AL U de fun p=>fP U cm U<|aC<|jE (fun _ _ h=>h) (aH [2,0,1,3,4,5,6,7,8])<|aS (N _ _ ?_)
 refine av<|ah fun _ P=>ah fun _ R=>dG cu [2,3] [] [] [0,1,2,5,6,7,8] [] U U U U U<|eS U (LW 2 U bX U U)<|eS U (LW 1 U bX U U)<|eU U<|bY U fun T21 W=>Pc U cm U<|aC (W _ _ (aH [0,1,2,5,6,7,8]) ?_)
 refine bY U fun T22 X=>TX U cm U<|aC (X _ _ (aH [0,1,2,5,6,7,8]) ?_)
 refine fF U<|KK R<|WS fun _ T=>rP 3 [0,1] (mc 6 U (mc 5 U mn)) ?_
 refine RK T<|cy U (aL fun i=>?_) (aM fun i=>?_)
 ·refine bu<|ab<|iB U ?_
  rw [show m=t from by omega]
  obtain rfl:k=(t-f).toNat:=by omega
  exact L _ () _ _ (by exact U) (aH [0,3,4,5,6,7,8])
 refine WK P<|aj<|rP 2 [] (mc 6 U mn) ?_
 refine VG U BW U U<|aC<|aG ?_
 exact H ((eA ts f.toNat k),(f_ ts f.toNat k),(m+1)) _ _ (by refine ⟨I,?_⟩; dsimp only; omega) (aH [0,3,4,5,6,7,8])
end
section
open Go.RowKit
theorem GX (i:Int) (s:cD) (ts:List al) (tsA:OA) (tsC g1:Nat) (hst: ∀ x∈ts,bJ x) (hlen:ts.length≤12):
 dT Tryz.prog 160 [(vI i),(vA (cD.cells s)),(vP g1)] [(rd tsA ts.length 9 (ts.map al.cells)),(bV g1 203 (ei.cells (ei.mk (bE.mk (br.mk tsA ts.length tsC)))))] (vB (!(decide (fj ts s)))):=by
 refine bx kr Tryz.func160 U U fun AA Q hQ hN=>?_
 try dsimp only
 refine WS fun _ C=>fM U fun G=>rP 1 [] mn ?_
 refine RK C<|ah fun _ A=>pn cu [0,1,2,3,4,5,6] [7,8,9,10,11,12,13,14,15,16,17,18,19,20,21,22,23,24,25,26] [false,false,false,false,false,false,false] [] [(bV G 111 (cD.cells s)),(rd tsA ts.length 9 (ts.map al.cells)).ro,(bV g1 203 (ei.cells (ei.mk (bE.mk (br.mk tsA ts.length tsC))))).ro] [] kr (aH [0,1,2]) (aH [])<|eS U (FA 0 U fu U)<|eS U (FA 0 U fu U)<|eS U (Ih (vS tsA ts.length tsC) 2 U bX U U)<|eS U (LN U QW)<|eS U (BI U (rI ⟨I,I⟩))<|eS U (FA 0 U fu U)<|eS U (L1 (vI s.aY) 0 U bX U U)<|eU U<|N1 7<|NO U U [8,9,10,11,12,13,14,15,16,17,18,19,20,21,22,23,24,25,26] fun T4 D=>cY (xs:=[.tmp 12]) (cs:=[(vI s.aY)]) U cp jf U U U U (by simp [Value.cells]) U U fun H=>RD D 1 U<|Je [14,15,16,17,18,19,20,21,22,23,24,25,26,27,28,29,30,31,5] kr kr U _ U U (aH [1,2,3]) ?_
 refine dS (CL (dT.eq (o3 0 ((ts.length:Int)-1) ([s.aY]) (some ⟨H,0,none⟩) 1 (by (simp; done))) cS) (aw (aZ 0 U U (by simp [bB]) U)<|aI) U) ?_
 refine dP 2 [] mn ?_
 refine iX (t:=16) U (bp fun B=>?_) (bq fun B=>?_)
 ·refine lH 9 U<|dP 7 [] mn ?_
  refine cM<|RK A<|an<|Q1 hQ U U U ?_
  (refine cB ?_; rw [cf (Cs I)]; rfl)
 refine lH 1 U<|dS (LP (aa.cells s.mG) 1 U bX U U U)<|dP 5 [0,1] (mr 3 U (mc 1 U mn)) ?_
 obtain ⟨x,hx⟩:=aJ ts ((s.aY).toNat) I
 have E:=bG al.cells hx
 refine dS (IA ((s.aY).toNat) U (aD 2 U) yj dc I I)<|dS (nS ((((s.aY).toNat)*9)+1) U (aD 2 U) (Nat.mul_pos I dc) fu U) ?_
 have F:=(hst x (aR hx)).2.1
 simp only [dI] at F
 refine dS (nS ((((s.aY).toNat)*9)+1) U (aD 2 U) (Nat.mul_pos I dc) fu U)<|dS (fV ((s.aY).toNat) 1 (vI x.kD.Lo) U bX (aD 2 U) E U dc U)<|lH 1 U<|dS (CL (vU s.mG 0 (x.kD.Lo-1)) (aI) U)<|dP 3 [] mn ?_
 refine cM<|RK A<|an<|Q1 hQ U U U ?_
 exact congrArg (fun b=>vB (!b)) (decide_eq_decide.2 (Dg I hx).symm)
theorem Em (l:List cD) (lA:OA) (lC:Nat) (f:Value) (p:Int→cD→Bool) (X:aq) (hf: ∀ x0 x1,(∃ k:Nat,x0=(k:Int)∧l[k]? =some x1)→EB Tryz.prog f [.int .i64 x0,.agg (cD.cells x1).toArray] [X] (.bool (p x0 x1))) (hlen:l.length≤1000000):
 lv Tryz.prog 159 [(vS lA l.length lC),f] [(rd lA l.length 3 (l.map cD.cells)),X] (fun (x:(OA)×Nat)=>(vS x.1 ((II (fun jj yy=>p (jj:Int) yy) l).length) x.2)) (fun (x:(OA)×Nat)=>True) (fun (x:(OA)×Nat)=>[(own x.1 x.2 3 1 ((II (fun jj yy=>p (jj:Int) yy) l).map iC))]):=by
 refine dj kr Tryz.func159 U U fun W Q hQ hN=>?_
 try dsimp only
 refine WS fun _ L=>bf 1 U<|RK L<|WS fun _ M=>bf 1 U<|RK M<|ah fun _ N=>WS fun _ O=>rP 3 [] mn ?_
 refine RK O<|av<|fQ 3 1 ?_
 have A:(0≤l.length):=by exact Nat.zero_le _
 refine bH (ι:={z:Nat×(OA)×Nat // (z.1≤l.length)}) [0,1,8,9] [1,2] U U (fun z=>[(5,(vS z.1.2.1 ((r8 (fun jj yy=>p (jj:Int) yy) l z.1.1).length) z.1.2.2)),(10,(vI (z.1.1:Int)))]) (fun z=>[(own z.1.2.1 z.1.2.2 3 1 ((r8 (fun jj yy=>p (jj:Int) yy) l z.1.1).map iC))]) (fun _=>rfl) (fun _=>rfl) (fun z=>l.length-z.1.1) ⟨(0,none,0),A⟩ (aT U) (aH [1,2,0]) ?_
 clear A
 rintro ⟨⟨i,a,c⟩,B⟩ J5 C
 try dsimp only at B
 try dsimp only
 refine WS fun _ P=>rP 1 [] mn ?_
 refine RK P<|ah fun _ R=>bK U (aM fun V=>?_) (aL fun V=>?_)
 ·refine bu<|ab<|ab<|au<|KK N<|WS fun _ F=>?_
  rw [NH (p:=fun (i:Nat) x=>p (i:Int) x) (show i=l.length by omega)]
  refine rP 2 [] mn ?_
  refine RK F<|an<|LX hQ (a,c) [2] [] mn U U U U ?_
  trivial
 refine WK R<|ah fun _ G=>av<|WS fun _ D=>rP 1 [] mn ?_
 obtain ⟨x,hx⟩:=aJ l i I
 have S:=bG cD.cells hx
 refine rS (IA i U (aD 0 U) IL dc I I)<|rS (oH i 0 (cD.cells x) U bX (aD 0 U) S U dc U U)<|AL U Cf fun T=>bf 1 U<|fP U IU U<|RK D<|WS fun _ E=>rP 3 [] (mc 0 U mn) ?_
 refine rS (SX (sx U U U (hf (i:Int) x ⟨i,U,hx⟩) (bj [2])) U U)<|RK E<|bK U (fun hp=>?_) (fun hp=>?_)
 ·refine bZ<|aG<|KK G<|aj ?_
  rw [← NB (p:=fun (i:Nat) x=>p (i:Int) x) hx hp]
  refine rP 2 [] mn ?_
  refine aC ?_
  have AB:(vI (((i+1):Nat):Int))=(vI ((i:Int)+1)):=by exact cI I
  refine aS (C ⟨((i+1),a,c),(by first|omega|(simp only []; omega))⟩ _ _ _ U os (ct 5<|aX U AB<|dh.nil _) (aH [1,2,3]))
 refine aj<|rP 2 [] mn ?_
 refine cY (xs:=[.tmp 20]) (cs:=[(vI (i:Int))]) U cp jf U U U U (by simp [Value.cells]) U U fun AA=>?_
 refine db (es2:=(List.map iC (r8 (fun jj yy=>p (jj:Int) yy) l (i+1)))) (m':=(r8 (fun jj yy=>p (jj:Int) yy) l (i+1)).length) 4 U U U p5 U U sm (aZ (es:=List.map iC [(i:Int)]) 0 U U (by simp [bB]) U) (kd _) (by have:=BR (p:=fun (i:Nat) x=>p (i:Int) x) (l:=l) (n:=i); simp; omega) (by have:=BR (p:=fun (i:Nat) x=>p (i:Int) x) (l:=l) (n:=i); simp only [maxLen]; omega) (by rw [Iy hx hp]; simp) sm U fun J K=>?_
 try dsimp only
 refine bf 1 U<|aC<|aG<|KK G<|aj<|rP 2 [] mn ?_
 refine aC ?_
 have H:(vI (((i+1):Nat):Int))=(vI ((i:Int)+1)):=by exact cI I
 refine aS (C ⟨((i+1),J,K),(by first|omega|(simp only []; omega))⟩ _ _ _ U os (ct 5<|aX U H<|dh.nil _) (aH [2,3,4]))
theorem CS (ts:List al) (tsA:OA) (tsC:Nat) (l:List cD) (lA:OA) (lC:Nat) (hst: ∀ x∈ts,bJ x) (hlen:ts.length≤12) (hl:l.length≤4):
 dT Tryz.prog 145 [(vA (ei.cells (ei.mk (bE.mk (br.mk tsA ts.length tsC))))),(vS lA l.length lC)] [(rd tsA ts.length 9 (ts.map al.cells)),(rd lA l.length 3 (l.map cD.cells))] (vB (decide (∀ s∈l,fj ts s))):=by
 refine bx kr Tryz.func145 U U fun J Q hQ hN=>?_
 try dsimp only
 refine WS fun _ B=>fM U fun A=>bf 1 U<|RK B<|WS fun _ C=>rP 1 [] mn ?_
 refine rS (FU U) ?_
 refine cX (Em l lA lC (Value.func (.func 160) [].toArray [(vP A)].toArray) (fun E D=>(!(decide (fj ts D)))) (eX [(rd tsA ts.length 9 (ts.map al.cells)),(bV A 203 (ei.cells (ei.mk (bE.mk (br.mk tsA ts.length tsC)))))]) (by intro E D _; exact nE (fi:=[]) (ca:=[(vP A)]) (l0 (GX E D ts tsA tsC A (by first|assumption|omega) (by first|assumption|omega)) (bj [0,1]))) I) (fD 2 U U<|aw (l5 (bj [1,0]))<|aI) U fun G F=>?_
 obtain ⟨H,AA⟩:=G
 try dsimp only
 refine rP 3 [] mn ?_
 refine RK C<|an<|Q1 hQ U U U ?_
 exact congrArg Value.bool (decide_eq_decide.2 (by rw [show ∀ n:Nat,((n:Int)=0)↔n=0 from fun n=>by omega,Ht]; simp only [Bool.not_eq_false',decide_eq_true_eq]; exact ⟨fun h s hs=>by obtain ⟨k,hk⟩:=List.getElem?_of_mem hs; exact h k s hk,fun h k s hk=>h s (List.mem_of_getElem? hk)⟩))
theorem Eg (z:aa) (hz:lj z):
 dT Tryz.prog 162 [(vA (aa.cells z))] [] (vA (aa.cells (oe z))):=by
 unfold lj at hz
 refine bx kr Tryz.func162 U U fun E Q hQ hN=>?_
 try dsimp only
 refine WS fun _ A=>fM U fun C=>AL U de fun D=>RK A<|WS fun _ B=>fw 2 [] (mc 1 U mn) U<|rS (NG U ⟨I,I⟩)<|rP 2 [] (mc 1 U mn) ?_
 refine rS (NG U ⟨I,I⟩)<|rS (SX (bh (xs:=[(0,.tmp 5),(1,.tmp 8)]) (cs:=(aa.cells (aa.mk (-z.Hi) (-z.Lo)))) U U (bg gf U)) U U)<|fP U cm U<|RK B<|an ?_
 exact Ij hQ [0] (mc 0 U mn) U U
theorem Sx (ts:List al) (tsA:OA) (tsC:Nat) (s:cD) (hlen:ts.length≤1000000) (hside: ∀ x∈ts,0≤x.i_∧x.i_≤255):
 dT Tryz.prog 124 [(vA (bE.cells (bE.mk (br.mk tsA ts.length tsC)))),(vA (cD.cells s))] [(rd tsA ts.length 9 (ts.map al.cells))] (vT [(vA (aa.cells (QV ts s))),(vI (Gq ts s))]):=by
 refine bx kr Tryz.func124 U U fun Z Q hQ hN=>?_
 try dsimp only
 refine WS fun _ K=>fM U fun V=>fM U fun W=>AL U de fun X=>bf 1 U<|RK K<|WS fun _ L=>fw 1 [] (mc 2 U mn) U<|rS (CL (Gc ts tsA tsC hlen hside) (bj [3]) U)<|bf 3 U<|AL U L9 fun Y=>fP U Mn U<|bf 1 U<|RK L<|ah fun _ M=>WS fun _ N=>rP 2 [] mn ?_
 refine RK N<|cy U (bp fun he=>?_) (bq fun he=>?_)
 ·refine WS fun _ O=>rS (SX (bh (xs:=[]) (cs:=(aa.cells (aa.mk 0 0))) U U (bg gf U)) U U)<|bf 1 U<|ub U cm U<|rP 1 [] mn ?_
  refine RK O<|an<|lp hQ [0] (mc 1 U mn) U ?_
  (have e:=KE (s:=s) (zq he).1; rw [e.1,e.2,(zq he).2]<;>rfl)
 refine WK M<|ah fun _ C=>WS fun _ D=>?_
 have B:=EZ he
 have H:=jU B
 have R:=kM B
 refine rP 2 [0,1] (mc 0 U (mc 2 U mn)) ?_
 refine cY (xs:=[.tmp 20]) (cs:=(cD.cells s)) U IL Cf U U U U (by simp [Value.cells,cD.aU]) U U fun AB=>?_
 refine rS (CL (dT.eq (CS ts tsA tsC ([s]) (some ⟨AB,0,none⟩) 1 asm asm (by (simp; done))) Ej) (fD 5 U U<|aw (aZ 0 U U (by simp [cD.aU]) U)<|aI) U) ?_
 refine rP 1 [] mn ?_
 refine RK D<|cy U (bp fun A=>?_) (bq fun A=>?_)
 ·refine WS fun _ E=>rS (SX (bh (xs:=[]) (cs:=(aa.cells (aa.mk 0 0))) U U (bg gf U)) U U)<|HT U cm U<|rP 1 [] mn ?_
  refine RK E<|an<|lp hQ [0] (mc 2 U mn) U ?_
  (have e:=Mh B A; rw [e.1,e.2]<;>rfl)
 refine WK C<|WS fun _ F=>?_
 have AA:=A.1
 have P:=qd H A
 refine fw 3 [0,1] (mc 1 U (mc 3 U mn)) U<|rS (CL (KW ts tsA tsC 0 s.aY asm asm I) (bj [5]) U)<|bf 3 U<|AL U de fun S=>AL U de fun T=>ub U cm U<|fP U cm U<|RK F<|WS fun _ G=>rP 2 [] (mc 1 U mn) ?_
 refine rS (LP (aa.cells s.mG) 5 U bX U U U)<|cY (xs:=[.tmp 34]) (cs:=(aa.cells s.mG)) U jQ de U U U U (by simp [Value.cells,aa.aU]) U U fun J=>?_
 refine rS (CL (dT.eq (pt (eA ts (0:Int).toNat (s.aY-0).toNat) ([s.mG]) (some ⟨J,0,none⟩) 1 (by exact qI H I) (by intro z hz; simp only [bS] at hz; subst hz; exact P) sm) nH) (aw (aZ 0 rfl rfl (by simp [aa.aU]) rfl)<|aI) rfl) ?_
 refine Ii U cm U<|rP 1 [] mn ?_
 refine RK G<|an<|lp hQ [0] (mc 5 U mn) U ?_
 (have e:=xe B A; rw [e.1,e.2]; unfold My; rw [show (s.aY-0).toNat=s.aY.toNat by rw [Int.sub_zero]]<;>rfl)
theorem Nb (ts:List al) (tsA:OA) (tsC:Nat) (p:cD) (q:cD) (hlen:ts.length≤1000000) (hside: ∀ x∈ts,0≤x.i_∧x.i_≤255):
 dT Tryz.prog 148 [(vA (bE.cells (bE.mk (br.mk tsA ts.length tsC)))),(vA (cD.cells p)),(vA (cD.cells q))] [(rd tsA ts.length 9 (ts.map al.cells))] (vT [(vA (aa.cells (kK ts p q))),(vI (lJ ts p q))]):=by
 refine bx kr Tryz.func148 U U fun w Q hQ hN=>?_
 try dsimp only
 refine WS fun _ c=>fM U fun r=>fM U fun s=>fM U fun t=>AL U de fun u=>bf 1 U<|RK c<|WS fun _ d=>fw 1 [] (mc 3 U mn) U<|rS (CL (Gc ts tsA tsC hlen hside) (bj [4]) U)<|bf 3 U<|AL U L9 fun v=>fP U Mn U<|bf 1 U<|RK d<|ah fun _ g=>WS fun _ h=>rP 2 [] mn ?_
 refine RK h<|cy U (bp fun he=>?_) (bq fun he=>?_)
 ·refine WS fun _ G=>rS (SX (bh (xs:=[]) (cs:=(aa.cells (aa.mk 0 0))) U U (bg gf U)) U U)<|bf 1 U<|ub U cm U<|rP 1 [] mn ?_
  refine RK G<|an<|lp hQ [0] (mc 1 U mn) U ?_
  (have e:=uC (a:=p) (b:=q) (zq he).1; rw [e.1,e.2,(zq he).2]<;>rfl)
 refine WK g<|ah fun _ H=>WS fun _ AB=>?_
 have A:=EZ he
 have F:=jU A
 have j:=kM A
 refine rP 3 [0,1,2] (mc 0 U (mc 3 U (mc 2 U mn))) ?_
 refine cY (xs:=[.tmp 22,.tmp 23]) (cs:=((cD.cells p)++(cD.cells q))) U IL Cf U U U U (by simp [Value.cells,cD.aU]) U U fun X=>?_
 refine rS (CL (dT.eq (CS ts tsA tsC ([p,q]) (some ⟨X,0,none⟩) 2 asm asm (by (simp; done))) Ev) (fD 6 U U<|aw (aZ 0 U U (by simp [cD.aU]) U)<|aI) U) ?_
 refine rP 1 [] mn ?_
 refine RK AB<|cy U (bp fun D=>?_) (bq fun D=>?_)
 ·refine WS fun _ J=>rS (SX (bh (xs:=[]) (cs:=(aa.cells (aa.mk 0 0))) U U (bg gf U)) U U)<|HT U cm U<|rP 1 [] mn ?_
  refine RK J<|an<|lp hQ [0] (mc 2 U mn) U ?_
  (have e:=oW A D; rw [e.1,e.2]<;>rfl)
 refine WK H<|WS fun _ K=>?_
 obtain ⟨hp,hq⟩:=D
 have n:=hp.1
 have o:=hq.1
 have i:=qd F hp
 have W:=qd F hq
 have V:=zY i
 have B:=qI F (f:=(min p.aY q.aY).toNat) (k:=(max p.aY q.aY-min p.aY q.aY).toNat) I
 refine fw 5 [0,1,2] (mc 1 U (mc 4 U (mc 3 U mn))) U<|rS (MN U)<|fw 4 [0,1] (mc 4 U (mc 3 U mn)) U<|rS (MX U)<|rS (CL (KW ts tsA tsC (min p.aY q.aY) (max p.aY q.aY) asm asm I) (bj [6]) U)<|bf 3 U<|AL U de fun l=>AL U de fun m=>ub U cm U<|fP U cm U<|RK K<|ah fun _ C=>WS fun _ L=>rP 5 [0,1] (mc 5 U (mc 6 U mn)) ?_
 refine RK L<|bK U (aM fun E=>?_) (aL fun E=>?_)
 ·refine WK C<|ah fun _ N=>dG cu [6,7,8] [] [] [0,1,2,3,5,6,7,8] [] U U U U U<|eS U (LW 1 U bX U U)<|eS U (FA 1 U fu U)<|eS U (LP (aa.cells q.mG) 4 U bX U U U)<|eS U (FA 1 U fu U)<|eS U (LP (aa.cells p.mG) 5 U bX U U U)<|eS U (CL (Eg p.mG asm) (aI) U)<|eS U (AG U)<|eU U<|bY U fun T26 S=>cY (xs:=[.tmp 52,.tmp 55]) (cs:=((aa.cells q.mG)++(aa.cells (oe p.mG)))) U jQ de U U U U (by simp [Value.cells,aa.aU]) U U fun Z=>aC (S _ _ (aH [1,2,3,4,6,7,8,9]) ?_)
  refine bY U fun T28 T=>?_
  refine rS (CL (dT.eq (pt (eA ts (min p.aY q.aY).toNat ((max p.aY q.aY)-(min p.aY q.aY)).toNat) ([q.mG,(oe p.mG)]) (some ⟨Z,0,none⟩) 2 (by first|exact B|exact zY B) (by intro z hz; simp only [d_,List.not_mem_nil,or_false] at hz; rcases hz with rfl|rfl; exact W; exact V) sm) C5) (aw (aZ 0 rfl rfl (by simp [aa.aU]) rfl)<|aI) rfl) ?_
  refine aC (T _ _ (aH [1,2,3,4,6,7,8,9]) ?_)
  refine bY U fun T29 AA=>Ii U cm U<|aC (AA _ _ (aH [1,2,3,4,6,7,8,9]) ?_)
  refine fF U<|KK N<|an<|lp hQ [0] (mc 5 U mn) U ?_
  (have e:=k7 A ⟨hp,hq⟩; rw [e.1,e.2]; unfold jP wV; rw [if_neg E]<;>rfl)
 refine aj<|rP 1 [] (mc 1 U mn) ?_
 refine rS (CL (Eg (eA ts (min p.aY q.aY).toNat ((max p.aY q.aY)-(min p.aY q.aY)).toNat) asm) (aI) U)<|ub U cm U<|RK C<|ah fun _ M=>dG cu [6,7,8] [] [] [0,1,2,3,5,6,7,8] [] U U U U U<|eS U (LW 1 U bX U U)<|eS U (FA 1 U fu U)<|eS U (LP (aa.cells q.mG) 4 U bX U U U)<|eS U (FA 1 U fu U)<|eS U (LP (aa.cells p.mG) 5 U bX U U U)<|eS U (CL (Eg p.mG asm) (aI) U)<|eS U (AG U)<|eU U<|bY U fun T21 O=>cY (xs:=[.tmp 52,.tmp 55]) (cs:=((aa.cells q.mG)++(aa.cells (oe p.mG)))) U jQ de U U U U (by simp [Value.cells,aa.aU]) U U fun Y=>aC (O _ _ (aH [1,2,3,4,6,7,8,9]) ?_)
 refine bY U fun T23 P=>?_
 refine rS (CL (dT.eq (pt (oe (eA ts (min p.aY q.aY).toNat ((max p.aY q.aY)-(min p.aY q.aY)).toNat)) ([q.mG,(oe p.mG)]) (some ⟨Y,0,none⟩) 2 (by first|exact B|exact zY B) (by intro z hz; simp only [d_,List.not_mem_nil,or_false] at hz; rcases hz with rfl|rfl; exact W; exact V) sm) C5) (aw (aZ 0 rfl rfl (by simp [aa.aU]) rfl)<|aI) rfl) ?_
 refine aC (P _ _ (aH [1,2,3,4,6,7,8,9]) ?_)
 refine bY U fun T24 R=>Ii U cm U<|aC (R _ _ (aH [1,2,3,4,6,7,8,9]) ?_)
 refine fF U<|KK M<|an<|lp hQ [0] (mc 5 U mn) U ?_
 (have e:=k7 A ⟨hp,hq⟩; rw [e.1,e.2]; unfold jP wV; rw [if_pos E]<;>rfl)
theorem qY (ts:List al) (tsA:OA) (tsC:Nat) (s:cD) (hst: ∀ x∈ts,bJ x) (hlen:ts.length≤12):
 dT Tryz.prog 155 [(vA (bE.cells (bE.mk (br.mk tsA ts.length tsC)))),(vA (cD.cells s))] [(rd tsA ts.length 9 (ts.map al.cells))] (vB (decide (fj ts s))):=by
 refine bx kr Tryz.func155 U U fun H Q hQ hN=>?_
 try dsimp only
 refine WS fun _ C=>fM U fun F=>fM U fun G=>bf 1 U<|RK C<|ah fun _ A=>dB cu 22 kr<|mP 6 [0,1] (mc 0 U (mc 1 U mn)) U<|dS (CL (oR s.aY 0 ((ts.length:Int)-1)) (aI) U)<|dP 1 [] mn ?_
 refine jk (t:=12) U (aM fun B=>?_) (aL fun B=>?_)
 ·refine lH 8 U<|dP 6 [] mn ?_
  refine cM<|RK A<|an<|Q1 hQ U U U ?_
  (refine cB ?_; rw [cf (Cs I)])
 refine lH 1 U<|dS (LP (aa.cells s.mG) 0 U bX U U U)<|dP 4 [0,1] (mc 1 U (mc 0 U mn)) ?_
 obtain ⟨x,hx⟩:=aJ ts ((s.aY).toNat) I
 have D:=bG al.cells hx
 refine dS (IA ((s.aY).toNat) U (aD 2 U) yj dc I I)<|dS (nS ((((s.aY).toNat)*9)+1) U (aD 2 U) (Nat.mul_pos I dc) fu U) ?_
 have E:=(hst x (aR hx)).2.1
 simp only [dI] at E
 refine dS (nS ((((s.aY).toNat)*9)+1) U (aD 2 U) (Nat.mul_pos I dc) fu U)<|dS (fV ((s.aY).toNat) 1 (vI x.kD.Lo) U bX (aD 2 U) D U dc U)<|lH 1 U<|dS (CL (pz s.mG 0 (x.kD.Lo-1)) (aI) U)<|dP 2 [] mn ?_
 refine cM<|RK A<|an<|Q1 hQ U U U ?_
 exact cB (decide_eq_decide.2 (Dg I hx).symm)
theorem Au (ts:List al) (tsA:OA) (tsC:Nat) (f t:Int) (hst: ∀ x∈ts,bJ x) (hlen:ts.length≤12) (hf:0≤f∧f≤t∧t≤ts.length):
 dT Tryz.prog 171 [(vA (bE.cells (bE.mk (br.mk tsA ts.length tsC)))),(vI f),(vI t)] [(rd tsA ts.length 9 (ts.map al.cells))] (vT [(vA (aa.cells (eA ts f.toNat (t-f).toNat))),(vA (aa.cells (f_ ts f.toNat (t-f).toNat)))]):=by
 refine bx kr Tryz.func171 U U fun i Q hQ hN=>?_
 try dsimp only
 refine WS fun _ R=>fM U fun e=>AL U de fun g=>AL U de fun h=>RK R<|WS fun _ S=>AL U de fun a=>AL U de fun b=>RK S<|ah fun _ T=>WS fun _ AA=>rP 2 [] mn ?_
 refine RK AA<|av ?_
 have A:(0≤(t-f).toNat):=by exact Nat.zero_le _
 have K:(vI (f+(0:Int)))=(vI f):=by exact cI I
 refine bH (ι:={z:Nat // (z≤(t-f).toNat)}) [1,2,3,6,7,8,9] [2,3,4,5] U U (fun z=>[(10,(vI (f+(z.1:Int))))]) (fun z=>[(bV b 40 (aa.cells (f_ ts f.toNat z.1))),(bV a 40 (aa.cells (eA ts f.toNat z.1)))]) (fun _=>rfl) (fun _=>rfl) (fun z=>(t-f).toNat-z.1) ⟨0,A⟩ (aX U K<|dh.nil _) (aH [2,3,4,5,0,1]) ?_
 clear A
 rintro ⟨k,V⟩ J11 B
 try dsimp only
 refine ah fun _ C=>WS fun _ D=>rP 3 [] mn ?_
 refine RK D<|bK U (aM fun P=>?_) (aL fun P=>?_)
 ·refine bu<|ab<|ab<|au<|KK T<|ah fun _ H=>dG cu [2,3] [] [] [2,3,4,5] [] U U U U U<|eS U (LW 3 U bX U U)<|eS U (LW 2 U bX U U)<|eU U<|bY U fun T23 AB=>ub U cm U<|aC (AB _ _ (aH [2,3,4,5]) ?_)
  refine bY U fun T24 J=>fP U cm U<|aC (J _ _ (aH [2,3,4,5]) ?_)
  refine fF U<|KK H<|an<|lp hQ [0,1] (mc 1 U (mc 0 U mn)) U ?_
  obtain rfl:k=(t-f).toNat:=I; rfl
 refine WK C<|ah fun _ E=>av<|WS fun _ F=>rP 3 [] (mc 2 U mn) ?_
 obtain ⟨x,hx⟩:=aJ ts (f.toNat+k) I
 have Y:=bG al.cells hx
 refine rS (IA (f.toNat+k) U (aD 3 U) yj dc I I)<|rS (oH (f.toNat+k) 0 (al.cells x) U bX (aD 3 U) Y U dc U U)<|AL U FF fun Z=>fP U IC U<|RK F<|WS fun _ G=>?_
 have O:=hst x (aR hx)
 have d:=l6 hst f.toNat k
 have c:=FT hst f.toNat k
 have W:=O.2.1
 have X:=O.2.2.1
 simp only [dI] at W X
 refine fw 12 [0,1,0,1] (mc 6 U (mc 0 U mn)) U<|rS (SX (bh (xs:=[(0,.tmp 28),(1,.tmp 34)]) (cs:=(aa.cells (aa.mk (((eA ts f.toNat k).Lo)+x.kD.Lo) (((eA ts f.toNat k).Hi)+x.kD.Hi)))) U U (bg gf U)) U U)<|O6 U cm U<|RK G<|aj<|rP 12 [0,1,0,1] (mc 5 U (mc 0 U mn)) ?_
 refine rS (SX (bh (xs:=[(0,.tmp 41),(1,.tmp 47)]) (cs:=(aa.cells (aa.mk (((f_ ts f.toNat k).Lo)+x.lP.Lo) (((f_ ts f.toNat k).Hi)+x.lP.Hi)))) U U (bg gf U)) U U)<|Ii U cm U<|aC<|aG<|KK E ?_
 have L:(aa.cells (aa.mk (((eA ts f.toNat k).Lo)+x.kD.Lo) (((eA ts f.toNat k).Hi)+x.kD.Hi)))=(aa.cells (eA ts f.toNat (k+1))):=by rw [pg hx]; rfl
 rw [L]
 have M:(aa.cells (aa.mk (((f_ ts f.toNat k).Lo)+x.lP.Lo) (((f_ ts f.toNat k).Hi)+x.lP.Hi)))=(aa.cells (f_ ts f.toNat (k+1))):=by rw [pq hx]; rfl
 rw [M]
 refine aj<|rP 3 [] mn ?_
 refine aC ?_
 have N:(vI (f+(((k+1):Nat):Int)))=(vI ((f+(k:Int))+1)):=by exact cI I
 refine aS (B ⟨(k+1),(by first|omega|(simp only []; omega))⟩ _ _ _ U os (ct 7<|aX U N<|dh.nil _) (aH [1,2,3,4,5,6]))
end
section
open Go.RowKit
theorem Qy (l:a_) (kA:OA) (kC:Nat) (az:List RA) (cA:OA) (cC:Nat) (bA:OA) (bC:Nat) (hin:ep l az):
 dT Tryz.prog 115 [(vA (ck.cells (lk l kA kC cA cC bA bC)))] [(rd kA l.aP.length 9 (l.aP.map al.cells)),(rd cA l.ak.length 2 (List.zipWith ar.cells l.ak az)),(eX (aV ar.g0 l.ak az)),(rd bA l.ae.length 4 (l.ae.map bD.cells))] (vB (decide (gj l))):=by
 have R:=hin.sJ
 have P:=hin.sI
 have N:=hin.oF
 have O:=hin.sE
 refine bx kr Tryz.func115 U U fun T Q hQ hN=>?_
 try dsimp only
 refine WS fun _ G=>fM U fun S=>bf 1 U<|RK G<|WS fun _ A=>rP 2 [] (mc 0 U mn) ?_
 refine cY (xs:=[.tmp 4]) (cs:=[(vI l.g9)]) U cp jf U U U U (by simp [Value.cells]) U U fun H=>?_
 refine rS (CL (dT.eq (iP 1 5000 ([l.g9]) (some ⟨H,0,none⟩) 1 (by (simp; done))) cS) (aw (aZ 0 U U (by simp [bB]) U)<|aI) U) ?_
 refine rP 1 [] mn ?_
 refine b_ (t:=7) U (aM fun K=>?_) (aL fun K=>?_)
 ·refine rP 36 [] mn ?_
  refine RK A<|an<|Q1 hQ U U U ?_
  exact cB (cf (by unfold gj; omega)).symm
 refine rP 3 [] (mc 1 U mn) ?_
 refine cY (xs:=[.tmp 10]) (cs:=[(vI (l.ak.length:Int))]) U cp jf U U U U (by simp [Value.cells]) U U fun AA=>?_
 refine rS (CL (dT.eq (iP 1 4 ([(l.ak.length:Int)]) (some ⟨AA,0,none⟩) 1 (by (simp; done))) cS) (aw (aZ 0 U U (by simp [bB]) U)<|aI) U) ?_
 refine rP 2 [] mn ?_
 refine b_ (t:=14) U (aM fun L=>?_) (aL fun L=>?_)
 ·refine rP 29 [] mn ?_
  refine RK A<|an<|Q1 hQ U U U ?_
  exact cB (cf (by unfold gj; omega)).symm
 refine rP 3 [] (mc 2 U mn) ?_
 refine cY (xs:=[.tmp 17]) (cs:=[(vI (l.ae.length:Int))]) U cp jf U U U U (by simp [Value.cells]) U U fun J=>?_
 refine rS (CL (dT.eq (iP 1 6 ([(l.ae.length:Int)]) (some ⟨J,0,none⟩) 1 (by (simp; done))) cS) (aw (aZ 0 U U (by simp [bB]) U)<|aI) U) ?_
 refine rP 2 [] mn ?_
 refine b_ (t:=21) U (aM fun M=>?_) (aL fun M=>?_)
 ·refine rP 22 [] mn ?_
  refine RK A<|an<|Q1 hQ U U U ?_
  exact cB (cf (by unfold gj; omega)).symm
 refine rP 6 [] (mc 3 U mn) ?_
 refine cY (xs:=[.tmp 27]) (cs:=[(vI l.cH)]) U cp jf U U U U (by simp [Value.cells]) U U fun B=>?_
 refine rS (CL (dT.eq (iP 0 ((l.ae.length:Int)-1) ([l.cH]) (some ⟨B,0,none⟩) 1 (by (simp; done))) cS) (aw (aZ 0 U U (by simp [bB]) U)<|aI) U) ?_
 refine rP 2 [] mn ?_
 refine b_ (t:=31) U (aM fun E=>?_) (aL fun E=>?_)
 ·refine rP 12 [] mn ?_
  refine RK A<|an<|Q1 hQ U U U ?_
  exact cB (cf (by unfold gj; omega)).symm
 refine rP 2 [] (mc 4 U mn) ?_
 refine cY (xs:=[.tmp 33]) (cs:=[(vI l.eV)]) U cp jf U U U U (by simp [Value.cells]) U U fun C=>?_
 refine rS (CL (dT.eq (iP 0 3 ([l.eV]) (some ⟨C,0,none⟩) 1 (by (simp; done))) cS) (aw (aZ 0 U U (by simp [bB]) U)<|aI) U) ?_
 refine rP 2 [] mn ?_
 refine b_ (t:=37) U (aM fun F=>?_) (aL fun F=>?_)
 ·refine rP 6 [] mn ?_
  refine RK A<|an<|Q1 hQ U U U ?_
  exact cB (cf (by unfold gj; omega)).symm
 refine rP 2 [] (mc 5 U mn) ?_
 refine cY (xs:=[.tmp 39]) (cs:=[(vI l.cW)]) U cp jf U U U U (by simp [Value.cells]) U U fun D=>?_
 refine rS (CL (dT.eq (iP 0 3 ([l.cW]) (some ⟨D,0,none⟩) 1 (by (simp; done))) cS) (aw (aZ 0 U U (by simp [bB]) U)<|aI) U) ?_
 refine rP 2 [] mn ?_
 refine RK A<|an<|Q1 hQ U U U ?_
 exact cB (decide_eq_decide.2 (by unfold gj; omega))
theorem P2 (l:a_) (kA:OA) (kC:Nat) (az:List RA) (cA:OA) (cC:Nat) (bA:OA) (bC:Nat) (hin:ep l az):
 dT Tryz.prog 117 [(vA (ck.cells (lk l kA kC cA cC bA bC)))] [(rd kA l.aP.length 9 (l.aP.map al.cells)),(rd cA l.ak.length 2 (List.zipWith ar.cells l.ak az)),(eX (aV ar.g0 l.ak az)),(rd bA l.ae.length 4 (l.ae.map bD.cells))] (vB (decide (∀ c∈l.ak,eT c))):=by
 have H:=hin.sJ
 have G:=hin.sI
 have E:=hin.oF
 have F:=hin.sE
 refine bx kr Tryz.func117 U U fun K Q hQ hN=>?_
 try dsimp only
 refine WS fun _ C=>fM U fun J=>bf 1 U<|RK C<|WS fun _ D=>rP 2 [] (mc 0 U mn) ?_
 refine rS (CL (Ac l.ak az cA cC (Value.func (.func 119) [].toArray [].toArray) (fun m=>(!(decide (eT m)))) (eX (aV ar.g0 l.ak az)) (by intro AA m a B A; exact nE (fi:=[]) (ca:=[]) (Rg l.ak az AA m a (by exact B) (by exact A) (by exact hin.Rb _ _ _ B A))) asm asm) (No 2 3 3 U U U U U U) U) ?_
 refine rP 2 [] mn ?_
 refine RK D<|an<|Q1 hQ U U U ?_
 exact cB (by rw [Bool.eq_iff_iff,decide_eq_true_eq]; exact EW)
theorem Ql (b:bD) (l:a_) (kA:OA) (kC:Nat) (az:List RA) (cA:OA) (cC:Nat) (bA:OA) (bC g1:Nat) (hin:ep l az) (htr:cT l.aP=true):
 dT Tryz.prog 123 [(vA (bD.cells b)),(vP g1)] [(rd kA l.aP.length 9 (l.aP.map al.cells)),(rd cA l.ak.length 2 (List.zipWith ar.cells l.ak az)),(eX (aV ar.g0 l.ak az)),(rd bA l.ae.length 4 (l.ae.map bD.cells)),(bV g1 31 (ck.cells (lk l kA kC cA cC bA bC)))] (vB (!(decide (jZ l b)))):=by
 have J:=hin.sJ
 have H:=hin.sI
 have F:=hin.oF
 have G:=hin.sE
 have AA:=hin.side
 refine bx kr Tryz.func123 U U fun M Q hQ hN=>?_
 try dsimp only
 refine WS fun _ C=>fM U fun K=>bf 1 U<|RK C<|WS fun _ D=>bf 1 U<|rS (Vy (bE.cells (bE.mk (br.mk kA l.aP.length kC))) 5 U bX U U U)<|bf 1 U<|rS (LP (cD.cells b.mH) 0 U bX U U U)<|rS (CL (Sx l.aP kA kC b.mH asm asm) (bj [1]) U)<|bf 3 U<|AL U de fun L=>fP U cm U<|bf 1 U<|RK D<|WS fun _ B=>rP 3 [] mn ?_
 refine cQ (t:=16) U (bp fun A=>?_) (bq fun A=>?_)
 ·refine rP 11 [] mn ?_
  refine RK B<|an<|Q1 hQ U U U ?_
  (refine cB ?_; rw [cf (fun h:jZ l b=>A ((FW htr).2 h.1))]; rfl)
 refine rP 6 [0,1] (mr 6 U (mc 1 U mn)) ?_
 refine cY (xs:=[.tmp 22]) (cs:=[(vI b.jK)]) U cp jf U U U U (by simp [Value.cells]) U U fun E=>?_
 refine rS (CL (dT.eq (iP 0 ((l.ak.length:Int)-1) ([b.jK]) (some ⟨E,0,none⟩) 1 (by (simp; done))) cS) (aw (aZ 0 U U (by simp [bB]) U)<|aI) U) ?_
 refine rP 3 [] mn ?_
 refine RK B<|an<|Q1 hQ U U U ?_
 (refine cB ?_; refine congrArg Bool.not (decide_eq_decide.2 ⟨fun h=>⟨(FW htr).1 A,I,I⟩,fun h=>by have:=h.2; omega⟩))
theorem P7 (l:a_) (kA:OA) (kC:Nat) (az:List RA) (cA:OA) (cC:Nat) (bA:OA) (bC:Nat) (hin:ep l az) (htr:cT l.aP=true):
 dT Tryz.prog 121 [(vA (ck.cells (lk l kA kC cA cC bA bC)))] [(rd kA l.aP.length 9 (l.aP.map al.cells)),(rd cA l.ak.length 2 (List.zipWith ar.cells l.ak az)),(eX (aV ar.g0 l.ak az)),(rd bA l.ae.length 4 (l.ae.map bD.cells))] (vB (decide (∀ b∈l.ae,jZ l b))):=by
 have H:=hin.sJ
 have G:=hin.sI
 have E:=hin.oF
 have F:=hin.sE
 refine bx kr Tryz.func121 U U fun AA Q hQ hN=>?_
 try dsimp only
 refine WS fun _ B=>fM U fun A=>bf 1 U<|RK B<|WS fun _ C=>rP 2 [] (mc 0 U mn) ?_
 refine rS (FU U) ?_
 refine rS (CL (AF l.ae bA bC (Value.func (.func 123) [].toArray [(vP A)].toArray) (fun D=>(!(decide (jZ l D)))) (eX [(rd kA l.aP.length 9 (l.aP.map al.cells)),(rd cA l.ak.length 2 (List.zipWith ar.cells l.ak az)),(eX (aV ar.g0 l.ak az)),(rd bA l.ae.length 4 (l.ae.map bD.cells)),(bV A 31 (ck.cells (lk l kA kC cA cC bA bC)))]) (by intro D _; exact nE (fi:=[]) (ca:=[(vP A)]) (l0 (Ql D l kA kC az cA cC bA bC A (by first|assumption|omega) (by first|assumption|omega)) (bj [0,1,2,3,4]))) asm) (fD 4 U U<|aw (l5 (bj [1,2,3,4,0]))<|aI) U) ?_
 refine rP 2 [] mn ?_
 refine RK C<|an<|Q1 hQ U U U ?_
 exact cB (by rw [Bool.eq_iff_iff,decide_eq_true_eq]; exact Ha)
theorem Ph (l:a_) (kA:OA) (kC:Nat) (az:List RA) (cA:OA) (cC:Nat) (bA:OA) (bC:Nat) (n:Int) (hin:ep l az) (htr:cT l.aP=true) (hbk: ∀ b∈l.ae,jZ l b) (hn:0≤n∧n<(l.ae.length:Int)):
 dT Tryz.prog 126 [(vA (ck.cells (lk l kA kC cA cC bA bC))),(vI n)] [(rd kA l.aP.length 9 (l.aP.map al.cells)),(rd cA l.ak.length 2 (List.zipWith ar.cells l.ak az)),(eX (aV ar.g0 l.ak az)),(rd bA l.ae.length 4 (l.ae.map bD.cells))] (vI (lW l n.toNat)):=by
 have P:=hin.sJ
 have N:=hin.sI
 have L:=hin.oF
 have M:=hin.sE
 have O:=hin.side
 refine bx kr Tryz.func126 U U fun AA Q hQ hN=>?_
 try dsimp only
 refine WS fun _ E=>fM U fun R=>bf 1 U<|RK E<|WS fun _ F=>rP 3 [] (mc 0 U mn) ?_
 obtain ⟨x,hx⟩:=aJ l.ae ((n).toNat) I
 have J:=bG bD.cells hx
 refine rS (IA ((n).toNat) U (aD 4 U) vJ dc I I)<|rS (nS (((n).toNat)*4) U (aD 4 U) (Nat.mul_pos I dc) fu U)<|rS (oH ((n).toNat) 0 (cD.cells x.mH) U bX (aD 4 U) J U dc U U)<|AL U Cf fun S=>fP U IU U<|RK F<|WS fun _ G=>bf 1 U<|rS (LP (bE.cells (bE.mk (br.mk kA l.aP.length kC))) 1 U bX U U U)<|fw 1 [] (mc 0 U mn) U<|rS (CL (Sx l.aP kA kC x.mH asm asm) (bj [2]) U)<|bf 3 U<|AL U de fun T=>fP U cm U<|bf 1 U<|RK G<|ah fun _ C=>WS fun _ H=>rP 2 [] mn ?_
 refine RK H<|bK U (aM fun D=>?_) (aL fun D=>?_)
 ·refine WK C<|WS fun _ B=>rP 3 [] (mc 0 U mn) ?_
  refine RK B<|an<|Q1 hQ U U U ?_
  (refine congrArg (Value.int .i64) ?_; rw [show n.toNat=0 by omega] at hx ⊢; rw [yO hx,(xe htr (hbk _ (List.mem_of_getElem? hx)).1).2])
 refine dG cu [14] [] [] [1,2,3,4,5,6] [] U U U U U<|eS U (FA 0 U fu U)<|eS U (LP (bE.cells (bE.mk (br.mk kA l.aP.length kC))) 1 U bX U U U)<|eS U (FA 3 U fu U)<|eS U (L1 (vS bA l.ae.length bC) 1 U bX U U)<|eS U (MV U)<|eS U (BI U (rI ⟨I,I⟩)) ?_
 obtain ⟨y,hy⟩:=aJ l.ae (((n-1)).toNat) I
 have K:=bG bD.cells hy
 refine eS U (IA (((n-1)).toNat) U (aD 5 U) vJ dc I I)<|eS U (nS ((((n-1)).toNat)*4) U (aD 5 U) (Nat.mul_pos I dc) fu U)<|eS U (oH (((n-1)).toNat) 0 (cD.cells y.mH) U bX (aD 5 U) K U dc U U)<|eS U (LW 0 U bX U U)<|eS U (CL (Nb l.aP kA kC y.mH x.mH asm asm) (bj [2]) U)<|eS U (MV U)<|eS U (EX U)<|eS U (EX U)<|eU U<|bY U fun T9 AB=>fP U cm U<|aC (AB _ _ (aH [1,2,3,4,5,6]) ?_)
 refine fF U<|KK C<|WS fun _ A=>rP 3 [] (mc 0 U mn) ?_
 refine RK A<|an<|Q1 hQ U U U ?_
 (refine congrArg (Value.int .i64) ?_; rw [C_ I hx (by rw [show n.toNat-1=(n-1).toNat by omega]; exact hy),(k7 htr ⟨(hbk _ (List.mem_of_getElem? hy)).1,(hbk _ (List.mem_of_getElem? hx)).1⟩).2])
theorem PF (l:a_) (kA:OA) (kC:Nat) (az:List RA) (cA:OA) (cC:Nat) (bA:OA) (bC:Nat) (hin:ep l az) (htr:cT l.aP=true) (hbk: ∀ b∈l.ae,jZ l b):
 dT Tryz.prog 125 [(vA (ck.cells (lk l kA kC cA cC bA bC)))] [(rd kA l.aP.length 9 (l.aP.map al.cells)),(rd cA l.ak.length 2 (List.zipWith ar.cells l.ak az)),(eX (aV ar.g0 l.ak az)),(rd bA l.ae.length 4 (l.ae.map bD.cells))] (vB (decide (∀ i,i<l.ae.length→1≤lW l i))):=by
 have V:=hin.sJ
 have AA:=hin.sI
 have S:=hin.oF
 have T:=hin.sE
 refine bx kr Tryz.func125 U U fun X Q hQ hN=>?_
 try dsimp only
 refine WS fun _ J=>fM U fun W=>bf 1 U<|RK J<|ah fun _ K=>WS fun _ L=>rP 4 [] (mc 0 U mn) ?_
 refine RK L<|av ?_
 have A:(0≤l.ae.length)∧(∀ j,j<0→1≤lW l j):=by exact ⟨Nat.zero_le _,fun j hj=>absurd hj (Nat.not_lt_zero _)⟩
 refine bH (ι:={z:Nat // (z≤l.ae.length)∧(∀ j,j<z→1≤lW l j)}) [1,6] [0,1,2,3,4] U U (fun z=>[(7,(vI (z.1:Int)))]) (fun z=>[]) (fun _=>rfl) (fun _=>rfl) (fun z=>l.ae.length-z.1) ⟨0,A⟩ (aT U) (aH [0,1,2,3,4]) ?_
 clear A
 rintro ⟨i,⟨P,B⟩⟩ J5 AB
 try dsimp only
 refine WS fun _ M=>rP 1 [] mn ?_
 refine RK M<|ah fun _ N=>bK U (aM fun R=>?_) (aL fun R=>?_)
 ·refine bu<|ab<|ab<|au<|KK K<|WS fun _ G=>rP 1 [] mn ?_
  refine RK G<|an<|Q1 hQ U U U ?_
  exact cB (fI (fun j hj=>B j I)).symm
 refine WK N<|ah fun _ O=>av<|WS fun _ D=>bf 2 U<|RK D<|WS fun _ E=>fw 2 [] (mc 0 U mn) U<|rS (CL (Ph l kA kC az cA cC bA bC (i:Int) hin htr hbk I) (bj [1,2,3,4]) U)<|rP 1 [] mn ?_
 refine RK E<|cy U (aL fun C=>?_) (aM fun C=>?_)
 ·refine WS fun _ F=>rP 1 [] mn ?_
  refine RK F<|an<|Q1 hQ U U U ?_
  exact cB (cf (fun h=>by have:=h i I; simp only [Int.toNat_natCast] at C; omega)).symm
 refine bZ<|aG<|KK O<|aj<|rP 2 [] mn ?_
 refine aC ?_
 have H:(vI (((i+1):Nat):Int))=(vI ((i:Int)+1)):=by exact cI I
 refine aS (AB ⟨(i+1),⟨I,fun j hj=>by rcases Nat.lt_or_ge j i with q|q; exact B j q; (obtain rfl:j=i:=by omega); simp only [Int.toNat_natCast] at C; omega⟩⟩ _ _ _ rfl os (dh.cons rfl<|dh.cons rfl<|aX rfl H<|dh.nil _) (aH [0,1,2,3,4]))
end
section
open Go.RowKit
theorem PJ:
 dT Tryz.prog 83 [] [] (vA ((gH.cells (gH.mk (Value.func (.func 115) [].toArray [].toArray)))++(gH.cells (gH.mk (Value.func (.func 117) [].toArray [].toArray)))++(gH.cells (gH.mk (Value.func (.func 121) [].toArray [].toArray)))++(gH.cells (gH.mk (Value.func (.func 125) [].toArray [].toArray))))):=by
 refine bx kr Tryz.func83 U U fun D Q hQ hN=>?_
 try dsimp only
 refine WS fun _ A=>AL U Rp fun C=>RK A<|WS fun _ B=>rS (SX (bh (xs:=[(0,.func 115)]) (cs:=(gH.cells (gH.mk (Value.func (.func 115) [].toArray [].toArray)))) U U (bg Fy U)) U U)<|rS (SX (bh (xs:=[(0,.func 117)]) (cs:=(gH.cells (gH.mk (Value.func (.func 117) [].toArray [].toArray)))) U U (bg Fy U)) U U)<|rS (SX (bh (xs:=[(0,.func 121)]) (cs:=(gH.cells (gH.mk (Value.func (.func 121) [].toArray [].toArray)))) U U (bg Fy U)) U U)<|rS (SX (bh (xs:=[(0,.func 125)]) (cs:=(gH.cells (gH.mk (Value.func (.func 125) [].toArray [].toArray)))) U U (bg Fy U)) U U)<|rS (SX (bh (xs:=[(0,.tmp 1),(1,.tmp 2),(2,.tmp 3),(3,.tmp 4)]) (cs:=((gH.cells (gH.mk (Value.func (.func 115) [].toArray [].toArray)))++(gH.cells (gH.mk (Value.func (.func 117) [].toArray [].toArray)))++(gH.cells (gH.mk (Value.func (.func 121) [].toArray [].toArray)))++(gH.cells (gH.mk (Value.func (.func 125) [].toArray [].toArray))))) U U (bg RN U)) U U)<|fP U Sl U<|RK B<|an ?_
 exact Ij hQ [0] (mc 0 U mn) U U
theorem CD (l:a_) (kA:OA) (kC:Nat) (az:List RA) (cA:OA) (cC:Nat) (bA:OA) (bC:Nat) (hin:ep l az):
 dT Tryz.prog 61 [(vA (ck.cells (lk l kA kC cA cC bA bC)))] [(rd kA l.aP.length 9 (l.aP.map al.cells)),(rd cA l.ak.length 2 (List.zipWith ar.cells l.ak az)),(eX (aV ar.g0 l.ak az)),(rd bA l.ae.length 4 (l.ae.map bD.cells))] (vI (dq l)):=by
 have A1:=hin.sJ
 have Al:=hin.sI
 have AO:=hin.oF
 have Ah:=hin.sE
 have A0:=hin.side
 refine bx kr Tryz.func61 U U fun w0 Q hQ hN=>?_
 try dsimp only
 refine WS fun _ m=>fM U fun b2=>bf 1 U<|RK m<|ah fun _ n=>WS fun _ o=>bf 1 U<|rS (LP (bE.cells (bE.mk (br.mk kA l.aP.length kC))) 0 U bX U U U)<|rS (CL (Bu l.aP kA kC asm asm) (bj [1]) U)<|bf 1 U<|RK o<|WS fun _ p=>rP 2 [] mn ?_
 refine RK p<|cy U (bp fun B=>?_) (bq fun B=>?_)
 ·refine WS fun _ q=>rP 2 [] mn ?_
  refine RK q<|an<|Q1 hQ U U U ?_
  (refine cI ?_; rw [(zq B).2,yS (zq B).1])
 refine WK n<|ah fun _ s=>WS fun _ t=>?_
 have A:=EZ B
 refine rS (CL PJ (aI) U)<|bf 1 U<|RK t<|av<|jL 5<|ed fun R9 u=>WS fun _ C=>rS (SX (bU (r:= .bool true) U U U gQ) U U)<|RK C<|ah fun _ D=>aO U<|WK D<|ah fun _ E=>av<|WS fun _ F=>rS (SX (tm (vs:=(gH.cells (gH.mk (Value.func (.func 115) [].toArray [].toArray)))) 0 U U U FN bX U dc U) U U)<|AL U Fj fun x=>fP U Fm U<|RK F<|WS fun _ G=>fw 3 [0,1] (mc 0 U (mc 1 U mn)) U<|rS (CL (Qy l kA kC az cA cC bA bC hin) (bj [2,3,4,5]) U)<|rP 1 [] mn ?_
 refine RK G<|cy U (bp fun g=>?_) (bq fun g=>?_)
 ·refine WS fun _ H=>rP 1 [] mn ?_
  refine RK H<|an<|Q1 hQ U U U ?_
  exact cI (qE A fun h=>absurd h.head asm).symm
 refine bZ<|aG<|KK E<|aj<|rS (SX (bU (r:= .int .i64 1) U U U (ic ⟨dc,dc⟩)) U U)<|bf 1 U<|RK u<|ed fun R18 d=>WS fun _ AB=>rS (SX (bU (r:= .bool true) U U U gQ) U U)<|RK AB<|ah fun _ J=>aO U<|WK J<|ah fun _ K=>av<|WS fun _ L=>rS (SX (tm (vs:=(gH.cells (gH.mk (Value.func (.func 117) [].toArray [].toArray)))) 1 U U U FN bX U dc U) U U)<|AL U Fj fun y=>fP U Fm U<|RK L<|WS fun _ M=>fw 3 [0,1] (mc 0 U (mc 2 U mn)) U<|rS (CL (P2 l kA kC az cA cC bA bC hin) (bj [3,4,5,6]) U)<|rP 1 [] mn ?_
 refine RK M<|cy U (bp fun i=>?_) (bq fun i=>?_)
 ·refine WS fun _ N=>rP 1 [] mn ?_
  refine RK N<|an<|Q1 hQ U U U ?_
  exact cI (qE A fun h=>absurd h.clock asm).symm
 refine bZ<|aG<|KK K<|aj<|rS (SX (bU (r:= .int .i64 2) U U U (ic ⟨dc,dc⟩)) U U)<|bf 1 U<|RK d<|ed fun R27 e=>WS fun _ O=>rS (SX (bU (r:= .bool true) U U U gQ) U U)<|RK O<|ah fun _ P=>aO U<|WK P<|ah fun _ R=>av<|WS fun _ S=>rS (SX (tm (vs:=(gH.cells (gH.mk (Value.func (.func 121) [].toArray [].toArray)))) 2 U U U FN bX U dc U) U U)<|AL U Fj fun z=>fP U Fm U<|RK S<|WS fun _ T=>fw 3 [0,1] (mc 0 U (mc 3 U mn)) U<|rS (CL (P7 l kA kC az cA cC bA bC hin asm) (bj [4,5,6,7]) U)<|rP 1 [] mn ?_
 refine RK T<|cy U (bp fun j=>?_) (bq fun j=>?_)
 ·refine WS fun _ AA=>rP 1 [] mn ?_
  refine RK AA<|an<|Q1 hQ U U U ?_
  exact cI (qE A fun h=>absurd h.vG asm).symm
 refine bZ<|aG<|KK R<|aj<|rS (SX (bU (r:= .int .i64 3) U U U (ic ⟨dc,dc⟩)) U U)<|bf 1 U<|RK e<|ed fun R36 f=>WS fun _ V=>rS (SX (bU (r:= .bool true) U U U gQ) U U)<|RK V<|ah fun _ W=>aO U<|WK W<|ah fun _ X=>av<|WS fun _ Y=>rS (SX (tm (vs:=(gH.cells (gH.mk (Value.func (.func 125) [].toArray [].toArray)))) 3 U U U FN bX U dc U) U U)<|AL U Fj fun AC=>fP U Fm U<|RK Y<|WS fun _ Z=>fw 3 [0,1] (mc 0 U (mc 4 U mn)) U<|rS (CL (PF l kA kC az cA cC bA bC hin asm asm) (bj [5,6,7,8]) U)<|rP 1 [] mn ?_
 refine RK Z<|cy U (bp fun k=>?_) (bq fun k=>?_)
 ·refine WS fun _ a=>rP 1 [] mn ?_
  refine RK a<|an<|Q1 hQ U U U ?_
  exact cI (qE A fun h=>absurd h.Rc asm).symm
 refine bZ<|aG<|KK X<|aj<|rS (SX (bU (r:= .int .i64 4) U U U (ic ⟨dc,dc⟩)) U U)<|bf 1 U<|RK f<|ed fun R45 w=>WS fun _ b=>rS (SX (bU (r:= .bool false) U U U gQ) U U)<|RK b<|ah fun _ v=>aW U<|bu<|ab<|ab<|au<|KK s<|WS fun _ c=>rP 1 [] mn ?_
 refine RK c<|an<|Q1 hQ U U U ?_
 exact cI (xW A (yM asm asm asm asm)).symm
theorem Ce (lo hi:Int) (f:Value) (p:Int→Bool) (X:aq) (r:Int) (hf: ∀ x0,0≤x0∧x0<hi→EB Tryz.prog f [.int .i64 x0] [X] (.bool (p x0))) (hb:0≤lo∧lo≤r∧r≤hi∧hi≤100000000) (hno: ∀ x,lo≤x→x<r→p x=false) (hyes: ∀ x,r≤x→x<hi→p x=true):
 dT Tryz.prog 216 [(vI lo),(vI hi),f] [X] (vI r):=by
 refine bx kr Tryz.func216 U U fun N Q hQ hN=>?_
 try dsimp only
 refine WS fun _ F=>rP 1 [] mn ?_
 refine RK F<|ah fun _ G=>av ?_
 have A:(lo≤lo∧lo≤r)∧(r≤hi∧hi≤hi):=by omega
 refine bH (ι:={z:Int×Int // (lo≤z.1∧z.1≤r)∧(r≤z.2∧z.2≤hi)}) [2] [0] U U (fun z=>[(0,(vI z.1.1)),(1,(vI z.1.2))]) (fun z=>[]) (fun _=>rfl) (fun _=>rfl) (fun z=>(z.1.2-z.1.1).toNat) ⟨(lo,hi),A⟩ (aT U) (aH [0]) ?_
 clear A
 rintro ⟨⟨a,b⟩,⟨B,C⟩⟩ J3 D
 try dsimp only at B C
 try dsimp only
 refine ah fun _ H=>WS fun _ AA=>rP 3 [] mn ?_
 refine RK AA<|bK U (aM fun M=>?_) (aL fun M=>?_)
 ·refine bu<|ab<|ab<|au<|KK G<|WS fun _ L=>rP 2 [] mn ?_
  refine RK L<|an<|Q1 hQ U U U ?_
  exact cI I
 refine WK H<|av<|WS fun _ J=>bf 4 U<|rS (BI U (tn I I I))<|bf 2 U<|RK J<|WS fun _ K=>rP 2 [] mn ?_
 refine rS (SX (sx U U U (hf (a+((b-a)/2)) I) (bj [0])) U U)<|RK K<|cy U (fun hp=>?_) (fun hp=>?_)
 ·refine aj<|rP 2 [] mn ?_
  refine aC<|aG ?_
  refine aS (D ⟨(a,(a+((b-a)/2))),(by dsimp only; rcases Int.lt_or_le (a+(b-a)/2) r with q|q; (have E:=hno _ I q; (rw [E] at hp; cases hp)); (have E:=hyes _ q I; (refine ⟨⟨I,I⟩,I,I⟩)))⟩ _ _ _ rfl (by simp only []; omega) (aT rfl) (aH [0]))
 refine aj<|rP 3 [] mn ?_
 refine aC<|aG ?_
 refine aS (D ⟨(((a+((b-a)/2))+1),b),(by dsimp only; rcases Int.lt_or_le (a+(b-a)/2) r with q|q; (have E:=hno _ I q; (refine ⟨⟨I,I⟩,I,I⟩)); (have E:=hyes _ q I; (rw [E] at hp; cases hp)))⟩ _ _ _ rfl (by simp only []; omega) (aT rfl) (aH [0]))
theorem L7 (u:Int) (c:ar) (sA:OA) (sC g1:Nat) (s:aK) (g2:Nat) (hc:eT c) (hu:0≤u∧u≤90000000):
 dT Tryz.prog 217 [(vI u),(vP g1),(vP g2)] [(rd sA c.bo.length 3 (c.bo.map cw.cells)),(bV g1 119 (dp.cells (dp.mk c.dg (br.mk sA c.bo.length sC)))),(bV g2 123 (aK.cells s))] (vB (decide (s.Read≤u+(ik c u).Hi))):=by
 have C:=qg hc hu
 refine bx kr Tryz.func217 U U fun D Q hQ hN=>?_
 try dsimp only
 refine WS fun _ A=>bf 1 U<|RK A<|ah fun _ B=>dB cu 10 kr<|mP 3 [] (mr 1 U mn) U<|dS (CL (FP c sA sC u hc hu) (bj [0]) U)<|dS (SX (kO (v:=(vI ((ik c u).Hi))) U U fu Aa U) U U)<|dP 5 [] (mr 2 U mn) ?_
 refine cM<|RK B<|an ?_
 exact Q1 hQ U U U U
theorem LC (u:Int) (c:ar) (sA:OA) (sC g1:Nat) (s:aK) (g2:Nat) (hc:eT c) (hu:0≤u∧u≤90000000):
 dT Tryz.prog 219 [(vI u),(vP g1),(vP g2)] [(rd sA c.bo.length 3 (c.bo.map cw.cells)),(bV g1 119 (dp.cells (dp.mk c.dg (br.mk sA c.bo.length sC)))),(bV g2 123 (aK.cells s))] (vB (decide (s.Read<u+(ik c u).Lo))):=by
 have C:=qg hc hu
 refine bx kr Tryz.func219 U U fun D Q hQ hN=>?_
 try dsimp only
 refine WS fun _ A=>bf 1 U<|RK A<|ah fun _ B=>dB cu 10 kr<|mP 3 [] (mr 1 U mn) U<|dS (CL (FP c sA sC u hc hu) (bj [0]) U)<|dS (SX (kO (v:=(vI ((ik c u).Lo))) U U fu AW U) U U)<|dP 5 [] (mr 2 U mn) ?_
 refine cM<|RK B<|an ?_
 exact Q1 hQ U U U U
theorem K3 (l:a_) (kA:OA) (kC:Nat) (az:List RA) (cA:OA) (cC:Nat) (bA:OA) (bC:Nat) (s:aK) (hin:ep l az) (hok:k9 l) (hs:(0≤s.gd∧s.gd≤(l.ae.length:Int)-1)∧0≤s.Read∧s.Read≤86400000):
 dT Tryz.prog 208 [(vA (ck.cells (lk l kA kC cA cC bA bC))),(vA (aK.cells s))] [(rd kA l.aP.length 9 (l.aP.map al.cells)),(rd cA l.ak.length 2 (List.zipWith ar.cells l.ak az)),(eX (aV ar.g0 l.ak az)),(rd bA l.ae.length 4 (l.ae.map bD.cells))] (vA (aa.cells (cz l s))):=by
 have V:=hin.sJ
 have S:=hin.sI
 have P:=hin.oF
 have R:=hin.sE
 refine bx kr Tryz.func208 U U fun Z Q hQ hN=>?_
 try dsimp only
 refine WS fun _ AC=>fM U fun X=>fM U fun D=>AL U de fun Y=>RK AC<|ah fun _ J=>dG cu [11,12] [] [] [0,1,2,3,4,5,6] [] U U U U U<|eS U (FA 2 U fu U)<|eS U (L1 (vS cA l.ak.length cC) 2 U bX U U)<|eS U (FA 3 U fu U)<|eS U (L1 (vS bA l.ae.length bC) 2 U bX U U)<|eS U (FA 0 U fu U)<|eS U (L1 (vI s.gd) 1 U bX U U) ?_
 obtain ⟨y,hy⟩:=aJ l.ae ((s.gd).toNat) I
 have O:=bG bD.cells hy
 refine eS U (IA ((s.gd).toNat) U (aD 6 U) vJ dc I I)<|eS U (nS ((((s.gd).toNat)*4)+3) U (aD 6 U) (Nat.mul_pos I dc) fu U)<|eS U (fV ((s.gd).toNat) 3 (vI y.jK) U bX (aD 6 U) O U dc U) ?_
 have W:=(hok.vG _ (aR hy)).2
 obtain ⟨x,hx⟩:=aJ l.ak ((y.jK).toNat) I
 obtain ⟨xa,F⟩:=aJ az ((y.jK).toNat) I
 have N:(List.zipWith ar.cells l.ak az)[(y.jK).toNat]? =some (ar.cells x xa):=dA hx F
 refine eS U (IA ((y.jK).toNat) U (aD 4 U) AA dc I I)<|eS U (oH ((y.jK).toNat) 0 (dp.cells (dp.mk x.dg (br.mk xa.1 x.bo.length xa.2))) U bX (aD 4 U) N U dc U U)<|eU U<|bY U fun T6 L=>AL U JY fun E=>aC (L _ _ (aH [1,2,3,4,5,6,7]) ?_)
 refine bY U fun T8 M=>fP U O0 U<|aC (M _ _ (aH [1,2,3,4,5,6,7]) ?_)
 refine fF U<|KK J<|WS fun _ K=>?_
 have A:=hok.clock _ (aR hx)
 have AB:=ij (p:=fY x s.Read) (n:=86400001)
 have T:=ij (p:=fW x s.Read) (n:=86400001)
 refine rS (FU U) ?_
 refine rS (CL (Ce 0 86400001 (Value.func (.func 217) [].toArray [(vP E),(vP D)].toArray) (fun B=>(decide (s.Read≤B+(ik x B).Hi))) (eX [(rd xa.1 x.bo.length 3 (x.bo.map cw.cells)),(bV E 119 (dp.cells (dp.mk x.dg (br.mk xa.1 x.bo.length xa.2)))),(bV D 123 (aK.cells s))]) (fg (fY x s.Read) 86400001) (by intro B _; exact nE (fi:=[]) (ca:=[(vP E),(vP D)]) (l0 (L7 B x xa.1 xa.2 E s D (by first|assumption|omega) (by first|assumption|omega)) (No 0 1 2 U U U U U U))) I (by intro z G hz; exact (kS A G I).1 hz) (by intro z hz H; exact (kS A I H).2.1 hz)) (aw (l5 (aw (show il _ (rd xa.1 x.bo.length 3 (x.bo.map cw.cells)).holds from (du 6 U (bM hx F (by simp [ar.g0]))))<|fD 0 U U<|fD 2 U U<|aI))<|aI) U) ?_
 refine rS (FU U) ?_
 refine rS (CL (Ce 0 86400001 (Value.func (.func 219) [].toArray [(vP E),(vP D)].toArray) (fun C=>(decide (s.Read<C+(ik x C).Lo))) (eX [(rd xa.1 x.bo.length 3 (x.bo.map cw.cells)),(bV E 119 (dp.cells (dp.mk x.dg (br.mk xa.1 x.bo.length xa.2)))),(bV D 123 (aK.cells s))]) (fg (fW x s.Read) 86400001) (by intro C _; exact nE (fi:=[]) (ca:=[(vP E),(vP D)]) (l0 (LC C x xa.1 xa.2 E s D (by first|assumption|omega) (by first|assumption|omega)) (No 0 1 2 U U U U U U))) I (by intro z G hz; exact (kS A G I).2.2.1 hz) (by intro z hz H; exact (kS A I H).2.2.2 hz)) (aw (l5 (aw (show il _ (rd xa.1 x.bo.length 3 (x.bo.map cw.cells)).holds from (du 6 U (bM hx F (by simp [ar.g0]))))<|fD 0 U U<|fD 2 U U<|aI))<|aI) U) ?_
 refine rP 1 [] mn ?_
 refine rS (SX (bh (xs:=[(0,.tmp 18),(1,.tmp 21)]) (cs:=(aa.cells (aa.mk (fg (fY x s.Read) 86400001) ((fg (fW x s.Read) 86400001)-1)))) U U (bg gf U)) U U)<|ub U cm U<|RK K<|an<|Ij hQ [0] (mc 1 U mn) U ?_
 unfold cz qh; rw [w6 hy hx]
end
section
open Go.RowKit
structure I3 (S:BS) (w0:World) (X:aq) (C0:List aq) (w:World) (S':BS):Prop where
 st:St S w0 (X::C0) w
 w_: ∀ b,S'.w b↔ ∃ A∈C0,A.wf b
theorem EA {A B:aq} (h:Dv A B):Dv A.ro B:=fun b C D=>⟨fun h=>h,(h b C D).2⟩
theorem CB {E:eY} {c:Code} {Q:cU} {D:List Deferred} {L:List (Nat×Value)} {C C0:List aq} {X:aq} (i:Nat) (hn:decide (i::(List.range C.length).filter fun k=>k != i).Nodup=true) (hC:kj C (i::(List.range C.length).filter fun k=>k != i)=X::C0)
 (h: ∀ w S',I3 E.S E.w0 X C0 w S'→WJ ⟨E.P,E.r,E.n,S',w⟩ c Q D L (X.ro::C0)):WJ E c Q D L C:=fun a w hf hs=>by
 have F:=St.kj _ hn hC hs
 obtain ⟨G,H⟩:=List.pairwise_cons.1 F.sep
 refine h w ⟨fun b=> ∃ A∈C0,A.wf b,fun _=>True⟩ ⟨F,fun b=>Iff.rfl⟩ a w hf ⟨dJ.refl _ _,fun A hA=>?_,List.Pairwise.cons (fun B hB=>EA (G B hB)) H,fun A hA b hb=>?_,fun A hA b hb=> .inr trivial⟩
 ·rcases List.mem_cons.1 hA with rfl|hA
  ·exact F.holds X (cb ..)
  ·exact F.holds A (cR _ hA)
 ·rcases List.mem_cons.1 hA with rfl|hA
  ·exact hb.elim
  ·exact .inr ⟨A,hA,hb⟩
theorem AI {E:eY} {S':BS} {w:World} {K:Act→World→Prop} {D:List Deferred} {L:List (Nat×Value)} {C0 C1 C2:List aq} {X:aq} (hz:I3 E.S E.w0 X C0 w S') (is:List Nat) (hn:decide is.Nodup=true) (hC:kj C2 is=C1) (hwr:C1.all (·.wr)=true)
 (h:KJ E K D L (X::C1)):KJ ⟨E.P,E.r,E.n,S',w⟩ K D L C2:=fun a w' hf hs=>by
 have F:=St.kj is hn hC hs
 have C:=hz.st
 obtain ⟨J,M⟩:=List.pairwise_cons.1 C.sep
 have AA: ∀ b,X.e_ b→ ¬ S'.w b:=fun b hb hw=>by
  obtain ⟨A,hA,hw⟩:=(hz.w_ b).1 hw
  exact (J A hA b hb (A.km b hw)).2 hw
 have G: ∀ b,S'.w b→E.w0.heap.size≤b∨E.S.w b:=fun b hb=>by
  obtain ⟨A,hA,hw⟩:=(hz.w_ b).1 hb
  exact C.own A (cR _ hA) b hw
 have H: ∀ A∈C1,∀ b,A.e_ b→w.heap.size≤b∨S'.w b:=fun A hA b hb=>F.own A hA b (A.whole (List.all_eq_true.1 hwr A hA) b hb)
 refine h a w' hf ⟨?_,fun A hA=>?_,List.Pairwise.cons (fun B hB b hb hb'=>?_) F.sep,fun A hA b hb=>?_,fun A hA b hb=>?_⟩
 ·refine ⟨F.keeps.os.trans C.keeps.os,F.keeps.tape.trans C.keeps.tape,F.keeps.output.trans C.keeps.output,Nat.le_trans C.keeps.size F.keeps.size,fun k hk hn'=>?_⟩
  refine (F.keeps.block k (Nat.lt_of_lt_of_le hk C.keeps.size) fun hw=>?_).trans (C.keeps.block k hk hn')
  rcases G k hw with q|q
  ·omega
  ·exact hn' q
 ·rcases List.mem_cons.1 hA with rfl|hA
  ·have hh:=C.holds A (cb ..)
   exact A.oG w w' (fun b hb=>F.keeps.block b (A.lt w hh b hb) (AA b hb)) hh
  ·exact F.holds A hA
 ·exfalso
  have hl:=X.lt w (C.holds X (cb ..)) b hb
  rcases H B hB b hb' with q|q
  ·omega
  ·exact AA b hb q
 ·rcases List.mem_cons.1 hA with rfl|hA
  ·exact C.own A (cb ..) b hb
  ·rcases F.own A hA b hb with q|q
   ·exact .inl (Nat.le_trans C.keeps.size q)
   ·exact G b q
 ·rcases List.mem_cons.1 hA with rfl|hA
  ·exact C.seen A (cb ..) b hb
  ·rcases H A hA b hb with q|q
   ·exact .inl (Nat.le_trans C.keeps.size q)
   ·obtain ⟨B,hB,hw⟩:=(hz.w_ b).1 q
    exact C.seen B (cR _ hB) b (B.km b hw)
/-- put back, as it was -/
theorem H0 {M A:Type} {f:M→A→List aq} {S:BS} {w0 w:World} {C:List aq} {ms:List M} {asl:List A} {k:Nat} {m:M} {a:A} {X:aq} (hm:ms[k]? =some m) (ha:asl[k]? =some a) (hf:f m a=[X]) (h:St S w0 (X::bw (fp f ms asl k)::C) w):St S w0 (bw (aV f ms asl)::C) w:=by
 have B:St S w0 (bw (fp f ms asl k)::X::C) w:=h.perm (List.Perm.swap _ _ _)
 have D:St S w0 ((f m a++fp f ms asl k)++C) w:=by
  rw [hf]
  exact B.ib.perm (List.perm_middle (a:=X) (l₁:=fp f ms asl k) (l₂:=C))
 exact kQ (kT hm ha).symm D.tied
theorem IG {E:eY} {K:Act→World→Prop} {D:List Deferred} {L:List (Nat×Value)} {C C1:List aq} {M A:Type} {f:M→A→List aq} {ms:List M} {asl:List A} {k:Nat} {m:M} {a:A} {X:aq} (i j:Nat) (hm:ms[k]? =some m) (ha:asl[k]? =some a) (hf:f m a=[X])
 (hn:decide (j::i::(List.range C.length).filter fun k=>k != i&&k != j).Nodup=true) (hC:kj C (j::i::(List.range C.length).filter fun k=>k != i&&k != j)=X::bw (fp f ms asl k)::C1)
 (h:KJ E K D L (bw (aV f ms asl)::C1)):KJ E K D L C:=fun a w hf' hs=>h a w hf' (H0 hm ha hf (St.kj _ hn hC hs))
theorem zi {M A:Type} {f:M→A→List aq} {ms:List M} {asl:List A} {m:M} {a:A} {X:aq} (hl:ms.length=asl.length) (hf:f m a=[X]):aV f ms asl++[X]=aV f (ms++[m]) (asl++[a]):=by
 rw [jN hl,← hf]; simp [aV]
theorem zt {E:eY} {K:Act→World→Prop} {D:List Deferred} {L:List (Nat×Value)} {C C1:List aq} {M A:Type} {f:M→A→List aq} {ms:List M} {asl:List A} {m:M} {a:A} {X:aq} (i j:Nat) (hf:f m a=[X])
 (hn:decide (j::i::(List.range C.length).filter fun k=>k != i&&k != j).Nodup=true) (hC:kj C (j::i::(List.range C.length).filter fun k=>k != i&&k != j)=X::bw (aV f ms asl)::C1)
 (h:KJ E K D L (bw (aV f (m::ms) (a::asl))::C1)):KJ E K D L C:=fun b w hf' hs=>by
 have B:=St.kj _ hn hC hs
 have F:St E.S E.w0 (bw (aV f ms asl)::X::C1) w:=B.perm (List.Perm.swap _ _ _)
 have G:St E.S E.w0 (aV f (m::ms) (a::asl)++C1) w:=by
  show St E.S E.w0 ((f m a++aV f ms asl)++C1) w
  rw [hf]
  exact F.ib.perm (List.perm_middle (a:=X) (l₁:=aV f ms asl) (l₂:=C1))
 exact h b w hf' G.tied
end
section
open Go.RowKit
abbrev lD (r:Nat):aq:=lg r (.deferred (some []))
theorem N9 (rs:List Nat):(bw (rs.map lD)).wr=true:=by
 show (rs.map lD).all (·.wr)=true
 rw [eZ]
 intro X hX
 obtain ⟨r,_,rfl⟩:=List.mem_map.1 hX
 rfl
theorem v7 {E:eY} {c:Code} {Q:cU} {D:List Deferred} {L:List (Nat×Value)} {C:List aq} {ι:Type} (Di:ι→List Deferred) (Li:ι→List (Nat×Value)) (Ci:ι→List aq) (μ:ι→Nat) (x0:ι)
 (hD:D=Di x0) (h0:dh L (Li x0)) (hC: ∀ w,St E.S E.w0 C w→St E.S E.w0 (Ci x0) w)
 (round: ∀ x (J:Act→World→Prop),(∀ y D' L' C',D'=Di y→μ y<μ x→dh L' (Li y)→(∀ w,St E.S E.w0 C' w→St E.S E.w0 (Ci y) w)→KJ E J D' L' C')→WJ E c (Exit.then J Q) (Di x) (Li x) (Ci x)):WJ E (.loop c) Q D L C:=by
 intro a w hf hs
 subst hD
 have H: ∃ x,Fr E.n (Di x) (Li x) a∧St E.S E.w0 (Ci x) w:=⟨x0,hf.sub h0,hC w hs⟩
 clear hf hs
 have key: ∀ (m:Nat) (a:Act) (w:World),(∃ x,μ x=m∧Fr E.n (Di x) (Li x) a∧St E.S E.w0 (Ci x) w)→(Code.loop c).wpIn (Fw E.r) 0 E.P Q a w:=by
  intro m a w hx
  refine wpIn_loop (fun a w=> ∃ x,Fr E.n (Di x) (Li x) a∧St E.S E.w0 (Ci x) w) (fun a w=>leastOf fun k=> ∃ x,μ x=k∧Fr E.n (Di x) (Li x) a∧St E.S E.w0 (Ci x) w) (by obtain ⟨x,_,h⟩:=hx; exact ⟨x,h⟩) ?_
  intro a w hx
  have F: ∃ k,∃ x,μ x=k∧Fr E.n (Di x) (Li x) a∧St E.S E.w0 (Ci x) w:=by obtain ⟨x,h⟩:=hx; exact ⟨_,x,rfl,h⟩
  obtain ⟨x,K,AA,M⟩:=(leastOf_spec F).1
  refine round x _ ?_ a w AA M
  intro y D' L' C' hD G A B a' w' hf' hs'
  subst hD
  refine ⟨⟨y,hf'.sub A,B _ hs'⟩,?_⟩
  rw [← K]
  exact Nat.lt_of_le_of_lt ((leastOf_spec ⟨_,y,U,hf'.sub A,B _ hs'⟩).2 _ ⟨y,U,hf'.sub A,B _ hs'⟩) G
 obtain ⟨x,h⟩:=H
 exact key _ a w ⟨x,U,h⟩
theorem St.Um {S:BS} {w0 w:World} {C X:List aq} {A:aq} (h:St S w0 (A::bw X::C) w):St S w0 (bw (A::X)::C) w:=by
 have B:St S w0 (bw X::A::C) w:=h.perm (List.Perm.swap _ _ _)
 have D:St S w0 ((A::X)++C) w:=B.ib.perm (List.perm_middle (a:=A) (l₁:=X) (l₂:=C))
 exact D.tied
theorem Mj {E:eY} {K:Act→World→Prop} {D:List Deferred} {L:List (Nat×Value)} {C C1 X:List aq} {A:aq} (i j:Nat) (hn:decide (j::i::(List.range C.length).filter fun k=>k != i&&k != j).Nodup=true) (hC:kj C (j::i::(List.range C.length).filter fun k=>k != i&&k != j)=A::bw X::C1)
 (h:KJ E K D L (bw (A::X)::C1)):KJ E K D L C:=fun a w hf hs=>h a w hf ((St.kj _ hn hC hs).Um)
theorem ED {E:eY} {K:Act→World→Prop} {D:List Deferred} {L:List (Nat×Value)} {C:List aq} (h:KJ E K D L (bw []::C)):KJ E K D L C:=fun a w hf hs=>h a w hf hs.Qa
theorem QC {E:eY} {K:Act→World→Prop} {D:List Deferred} {L:List (Nat×Value)} (C1 C2:List aq) (h:KJ E K D L (bw C1::C2)):KJ E K D L (C1++C2):=fun a w hf hs=>h a w hf (St.tied hs)
theorem N8 {E:eY} {fn:Func} {R:Ending→World→Prop} {D:List Deferred} {L:List (Nat×Value)} {C C1:List aq} {rs:List Nat} (i:Nat) (hn:decide (i::(List.range C.length).filter fun k=>k != i).Nodup=true) (hC:kj C (i::(List.range C.length).filter fun k=>k != i)=bw (rs.map lD)::C1)
 (h:LJ E fn R D L C1):LJ E fn R (rs.map lq++D) L C:=by
 have key: ∀ rs:List Nat,LJ E fn R (rs.map lq++D) L (bw (rs.map lD)::C1):=by
  intro rs
  induction rs with
  |nil=>exact fun a w hf hs=>h a w hf (hs.take (List.sublist_cons_self _ _))
  |cons r rs ih=>
   have A:LJ E fn R (lq r::(rs.map lq++D)) L (lD r::bw (rs.map lD)::C1):=ou 0 rfl rfl (fun a w hf hs=>ih a w hf (hs.take (List.sublist_cons_self _ _)))
   intro a w hf hs
   refine A a w hf ?_
   have B:St E.S E.w0 ((lD r::rs.map lD)++C1) w:=St.ib (C1:=lD r::rs.map lD) hs
   have F:St E.S E.w0 (rs.map lD++(lD r::C1)) w:=B.perm (List.perm_middle (a:=lD r) (l₁:=rs.map lD) (l₂:=C1)).symm
   exact F.tied.perm (List.Perm.swap _ _ _)
 exact fun a w hf hs=>key rs a w hf (St.kj _ hn hC hs)
theorem KT {E:eY} {fn:Func} {R:Ending→World→Prop} {L:List (Nat×Value)} {C C1:List aq} {rs:List Nat} (i:Nat) (hn:decide (i::(List.range C.length).filter fun k=>k != i).Nodup=true) (hC:kj C (i::(List.range C.length).filter fun k=>k != i)=bw (rs.map lD)::C1)
 (h:LJ E fn R [] L C1):LJ E fn R (rs.map lq) L C:=by
 have:=N8 (D:=[]) i hn hC h
 rwa [List.append_nil] at this
end
section
open Go.RowKit
theorem Im (fs:List FM) (fb:List Nat):(bw (aV nT fs fb)).wr=true:=by
 show (aV nT fs fb).all (·.wr)=true
 rw [eZ]
 intro X hX
 obtain ⟨k,m,a,_,_,h⟩:=jH hX
 simp only [nT,bS] at h
 subst h; rfl
theorem Sy (fs:List TM) (fb:List Nat):(bw (aV ru fs fb)).wr=true:=by
 show (aV ru fs fb).all (·.wr)=true
 rw [eZ]
 intro X hX
 obtain ⟨k,m,a,_,_,h⟩:=jH hX
 simp only [ru,bS] at h
 subst h; rfl
end
end Go.Proofs.YtadjgjnicdcjbaaGreatDoor
