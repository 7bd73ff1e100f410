/-
 The statement raceSync_said, part 5 of 8: RaceV, RankP, OrdX, TabP, NestS, Grp, Twin, Fresh, Rep, Ex6, Win6, BoolC, RaceR, Tied6, Sel6, Nar6, WLe, Told, Ahead5, Sync7, Nar8, Ends5, Can, False, Sim, Later, Later7, Lat7, Syn8, Bits, B1, Rc1, Rs5, CloneM, Rs1, S2, Rs2, MapD, B4, B2, B3.
 Conditions: none.
-/
import Derived.Test.YtlajhejcfcoddaaGreatDoorTx1
import Derived.Test.YtlajhejcfcoddaaGreatDoorTx2
import Derived.Test.YtlajhejcfcoddaaGreatDoorTx3
import Derived.Test.YtlajhejcfcoddaaGreatDoorTx4
import Derived.KernelRfl
import Derived.MapKept
import Derived.Laws.Externs
namespace Go.Proofs.YtlajhejcfcoddaaGreatDoor
set_option maxRecDepth 100000
set_option maxHeartbeats 4000000
set_option linter.unusedVariables false
section
def aD (m:g_) (i:Int):aa:=(m.lookup i).getD dJ
def q9 (r:bY) (i:Int):Prop:=0≤i∧i≤(r.aM.length:Int)-1
instance (r:bY) (i:Int):Decidable (q9 r i):=by unfold q9; infer_instance
noncomputable def jR (r:bY) (i:Int):Int:=if cM r=0 then (if q9 r i then (if (aF r).lookup i=none then 6 else 0) else 2) else cM r
noncomputable def r8 (r:bY) (i:Int):aa:=if jR r i=0 then aD (aF r) i else dJ
noncomputable def n7 (r:bY) (a b:Int):Int:=if cM r=0 then (if q9 r a∧q9 r b∧a≠b then (if (aF r).lookup a=none∨(aF r).lookup b=none then 6 else 0) else 2) else cM r
def CS (s t:aa):Int:=if s.Hi<t.Lo then 2 else if s.Lo<t.Hi then 1 else 0
def sE (s t:aa):Int:=if s=t∧s.Lo=s.Hi then 2 else if s.Lo≤t.Hi∧t.Lo≤s.Hi then 1 else 0
noncomputable def v7 (r:bY) (a b:Int):Int:=if n7 r a b=0 then CS (aD (aF r) a) (aD (aF r) b) else 0
noncomputable def qC (r:bY) (a b:Int):Int:=if n7 r a b=0 then sE (aD (aF r) a) (aD (aF r) b) else 0
noncomputable def fV (r:bY) (i:Int):List Int:=if jR r i=0 then dI (aF r) i (aD (aF r) i) else []
noncomputable def ke (r:bY) (h i:Int):Int:=if cM r=0 then (if (0≤h∧h≤(r.aq.length:Int)-1)∧q9 r i then (if ((r.aq[h.toNat]?).bind (·[i.toNat]?)).any (·.Out)=true then 6 else 0) else 2) else cM r
noncomputable def hZ (r:bY) (h i:Int):aa:=if ke r h i=0 then ((((r.aq[h.toNat]?).bind (·[i.toNat]?)).map (dE r.an)).getD dJ) else dJ
noncomputable def uB (r:bY) (h:Nat):List Int:=let l:=eK (fun i=>(aD (eP r h) i).Hi) (r.bK.filter fun i=>((eP r h).lookup i).isSome); sv (min r.gX.toNat l.length) l
noncomputable def ji (r:bY) (h:Int):Int:=if cM r=0 then (if 0≤h∧h≤(r.aq.length:Int) then 0 else 2) else cM r
noncomputable def iq (r:bY) (h:Int):List Int:=if ji r h=0 then (if h=0 then r.bK else uB r h.toNat) else []
section
variable {r:bY} {i a b:Int}
theorem vm {m:g_} {i:Int} (h:(m.lookup i).isSome=true): ¬ m.lookup i=none:=fun e=>by rw [e] at h; cases h
theorem vj {m:g_} {i:Int} (h:(m.lookup i).isSome=false):m.lookup i=none:=by cases e:m.lookup i with |none=>rfl|some v=>rw [e] at h; cases h
theorem yP (h:jR r i=0):cM r=0∧q9 r i∧(aF r).lookup i≠none:=by
 unfold jR at h
 split at h
 ·split at h
  ·split at h
   ·cases h
   ·exact ⟨asm,asm,asm⟩
  ·cases h
 ·exact absurd h asm
theorem zm (h:n7 r a b=0):cM r=0∧(q9 r a∧q9 r b∧a≠b)∧(aF r).lookup a≠none∧(aF r).lookup b≠none:=by
 unfold n7 at h
 split at h
 ·split at h
  ·split at h
   ·cases h
   ·rename_i _ _ q
    exact ⟨asm,asm,fun e=>q (.inl e),fun e=>q (.inr e)⟩
  ·cases h
 ·exact absurd h asm
theorem uS {k:Nat} {p:Int×aa} (h:p∈eP r k): ∃ q:Nat,q<r.aM.length∧p.1=(q:Int)∧fI r.an r.aq q k=some p.2:=by
 unfold eP at h
 obtain ⟨q,hq,e⟩:=List.mem_filterMap.1 h
 obtain ⟨s,hs,rfl⟩:=Option.map_eq_some_iff.1 e
 exact ⟨q,List.mem_range.1 hq,U,hs⟩
theorem FH {k:Nat} (h:cM r=0) (hk:k≤r.aq.length): ∀ p∈eP r k,0≤p.2.Lo∧p.2.Lo≤p.2.Hi∧p.2.Hi≤30000000:=fun p hp=>by
 obtain ⟨q,_,_,hs⟩:=uS hp
 have A:=Ag (ig h).2.Ap hk hs
 have B:=(ig h).2.nh
 omega
theorem oh (h:cM r=0): ∀ p∈aF r,0≤p.2.Lo∧p.2.Lo≤p.2.Hi∧p.2.Hi≤30000000:=FH h (Nat.le_refl _)
theorem uW {k:Nat}:(eP r k).length≤r.aM.length:=by
 unfold eP
 refine Nat.le_trans (List.length_filterMap_le _ _) ?_
 rw [List.length_range]; exact Nat.le_refl _
theorem pk (h:cM r=0):(aF r).length≤5:=by
 have A:=uW (r:=r) (k:=r.aq.length)
 have B:=(ig h).2.num
 unfold aF; omega
theorem Ng {s t:aa}:(if decide (s.Hi<t.Lo)=true then (2:Int) else if decide (s.Lo<t.Hi)=true then 1 else 0)=CS s t:=by simp only [decide_eq_true_eq]; rfl
theorem J1 {s t:aa} (h:s=t):(if decide (max s.Lo t.Lo=min s.Hi t.Hi)=true then (2:Int) else if decide (max s.Lo t.Lo≤min s.Hi t.Hi)=true then 1 else 0)=sE s t:=by
 subst h
 simp only [decide_eq_true_eq,sE,Int.max_self,Int.min_self,true_and,and_self]
theorem ND {s t:aa} (hs:s.Lo≤s.Hi) (ht:t.Lo≤t.Hi) (h: ¬ s=t):(if false=true then (2:Int) else if decide (max s.Lo t.Lo≤min s.Hi t.Hi)=true then 1 else 0)=sE s t:=by
 unfold sE
 rw [if_neg dc,if_neg (fun q:s=t∧s.Lo=s.Hi=>h q.1)]
 by_cases c:s.Lo≤t.Hi∧t.Lo≤s.Hi
 ·rw [if_pos c,if_pos (gf I)]
 ·rw [if_neg c,if_neg (by rw [decide_eq_true_eq]; omega)]
theorem Kz (h: ¬ cM r=0):jR r i=cM r:=if_neg h
theorem Jb (h:cM r=0) (hi: ¬ (0≤i∧i≤(r.aM.length:Int)-1)):jR r i=2:=by unfold jR; rw [if_pos h,if_neg (show ¬ q9 r i from hi)]
theorem uY (h:cM r=0) (hi:0≤i∧i≤(r.aM.length:Int)-1) (hl:((aF r).lookup i).isSome=false):jR r i=6:=by unfold jR; rw [if_pos h,if_pos (show q9 r i from hi),if_pos (vj hl)]
theorem OP (h:cM r=0) (hi:0≤i∧i≤(r.aM.length:Int)-1) (hl:((aF r).lookup i).isSome=true):jR r i=0:=by unfold jR; rw [if_pos h,if_pos (show q9 r i from hi),if_neg (vm hl)]
theorem Jd (h: ¬ cM r=0):n7 r a b=cM r:=if_neg h
theorem CP (h:cM r=0) (hi: ¬ ((0≤a∧a≤(r.aM.length:Int)-1)∧(0≤b∧b≤(r.aM.length:Int)-1)∧a≠b)):n7 r a b=2:=by unfold n7; rw [if_pos h,if_neg (show ¬ (q9 r a∧q9 r b∧a≠b) from hi)]
theorem zO (h:cM r=0) (hi:(0≤a∧a≤(r.aM.length:Int)-1)∧(0≤b∧b≤(r.aM.length:Int)-1)∧a≠b) (hl:((aF r).lookup a).isSome=false∨((aF r).lookup b).isSome=false):n7 r a b=6:=by
 unfold n7; rw [if_pos h,if_pos (show q9 r a∧q9 r b∧a≠b from hi),if_pos (hl.imp vj vj)]
theorem NW (h:cM r=0) (hi:(0≤a∧a≤(r.aM.length:Int)-1)∧(0≤b∧b≤(r.aM.length:Int)-1)∧a≠b) (h1:((aF r).lookup a).isSome=true) (h2:((aF r).lookup b).isSome=true):n7 r a b=0:=by
 unfold n7; rw [if_pos h,if_pos (show q9 r a∧q9 r b∧a≠b from hi),if_neg (fun q=>q.elim (vm h1) (vm h2))]
end
end
section
abbrev q7:=List (Int×Bool)
def jt (m:q7) (P:Int→Prop):Prop:=(m.map (·.1)).Nodup∧ ∀ k,k∈m.map (·.1)↔P k
section
variable {m:q7} {P Q:Int→Prop} {k:Int}
theorem jt.yJ (h:jt m P) (e: ∀ k,P k↔Q k):jt m Q:=⟨h.1,fun k=>(h.2 k).trans (e k)⟩
theorem MR (h: ∀ k,¬ P k):jt [] P:=⟨List.Pairwise.nil,fun k=>⟨fun q=>by simp at q,fun q=>absurd q (h k)⟩⟩
theorem HH:k∈m.map (·.1)↔(m.lookup k).isSome=true:=by
 induction m with
 |nil=>simp
 |cons p m ih=>
  obtain ⟨a,b⟩:=p
  by_cases e:k=a
  ·subst e; simp [List.lookup]
  ·have:(k==a)=false:=by simpa using e
   simp only [List.map_cons,bu,e,false_or,List.lookup,this]
   exact ih
theorem Je {b:Bool} (h:jt m P) (hk: ¬ P k):jt (e8 m k b) fun q=>P q∨q=k:=by
 have hn:(m.lookup k).isSome=false:=by
  rw [Bool.eq_false_iff]
  exact fun q=>hk ((h.2 k).1 (HH.2 q))
 unfold e8
 rw [hn]
 simp only [Bool.false_eq_true,if_false]
 refine ⟨?_,fun q=>?_⟩
 ·rw [List.map_append]
  refine List.nodup_append.2 ⟨h.1,sm,fun a ha b hb e=>?_⟩
  simp at hb
  subst hb; subst e
  exact hk ((h.2 _).1 ha)
 ·rw [List.map_append,dM,h.2 q]
  simp
theorem Bv (h:jt m P):jt (cH m k) fun q=>P q∧q≠k:=by
 have hs:((cH m k).map (·.1)).Sublist (m.map (·.1)):=List.Sublist.map _ List.filter_sublist
 refine ⟨h.1.sublist hs,fun q=>?_⟩
 constructor
 ·intro hq
  obtain ⟨p,hp,rfl⟩:=bX.1 hq
  obtain ⟨A,B⟩:=kp.1 hp
  exact ⟨(h.2 _).1 (List.mem_map_of_mem A),B⟩
 ·rintro ⟨A,B⟩
  obtain ⟨p,hp,rfl⟩:=bX.1 ((h.2 q).2 A)
  exact List.mem_map_of_mem (kp.2 ⟨hp,B⟩)
end
/-- two rows that go up and have the same numbers, each once -/
theorem ru {a b:List Int} (ha:a.Pairwise (· ≤ ·)) (hb:b.Pairwise (· ≤ ·)) (na:a.Nodup) (nb:b.Nodup) (h: ∀ x,x∈a↔x∈b):a=b:=
 sJ ((List.perm_ext_iff_of_nodup na nb).2 h) ha hb
def JJ (l:List Int):Nat:=if l.length=2∧l[1]? =l[0]? then 1 else l.length
theorem yY {l:List Int} {x y:Int} (h:l.length=2) (h0:l[0]? =some y) (h1:l[1]? =some x) (e:x=y):JJ l=1:=if_pos ⟨h,by rw [h0,h1,e]⟩
theorem Cd {l:List Int} {x y:Int} (h:l.length=2) (h0:l[0]? =some y) (h1:l[1]? =some x) (e: ¬ x=y):JJ l=l.length:=if_neg fun q=>e (by have:=q.2; rw [h0,h1] at this; exact Option.some.inj this)
theorem Mx (a b:Int):(a=b∧JJ (dB [a,b])=1)∨(¬ a=b∧JJ (dB [a,b])=2):=by
 have hl:(dB [a,b]).length=2:=by simp
 have hp:(dB [a,b]).Perm [a,b]:=fT
 match hs:dB [a,b],hl with
 |[x,y],_=>
  rw [hs] at hp
  by_cases e:a=b
  ·subst e
   left
   refine ⟨U,yY U U U ?_⟩
   have A:x∈[a,a]:=hp.mem_iff.1 sm
   have B:y∈[a,a]:=hp.mem_iff.1 sm
   simp at A B; omega
  ·right
   refine ⟨e,(Cd (x:=y) (y:=x) U U U fun q=>?_).trans U⟩
   subst q
   have A:=hp.nodup_iff.2 (show [a,b].Nodup by simp [e])
   simp at A
section
variable {m left:g_} {i n x:Int} {y:aa}
theorem l_ {p:Int×aa→Bool} (hn:(left.map (·.1)).Nodup) (hm:(x,y)∈left):left.countP p=(cH left x).countP p+(if p (x,y)=true then 1 else 0):=by
 induction left with
 |nil=>cases hm
 |cons q left ih=>
  obtain ⟨a,b⟩:=q
  simp only [List.map_cons,List.nodup_cons] at hn
  rcases bu.1 hm with e|hm
  ·cases e
   have A:cH ((x,y)::left) x=left:=by
    unfold cH
    rw [List.filter_cons_of_neg sm]
    exact List.filter_eq_self.2 fun q hq=>by
     have:q.1≠x:=fun e=>hn.1 (e▸List.mem_map_of_mem hq)
     simpa using this
   rw [A,List.countP_cons]
  ·have B:a≠x:=fun e=>hn.1 (e▸List.mem_map_of_mem (f:=fun z:Int×aa=>z.1) hm)
   have A:cH ((a,b)::left) x=(a,b)::cH left x:=by
    unfold cH
    rw [List.filter_cons_of_pos (by simpa using B)]
   rw [A,List.countP_cons,List.countP_cons,ih hn.2 hm]
   omega
theorem mz:ij left i n=left.countP fun p=>decide (p.2.Hi<n)&& !decide (p.1=i):=by unfold ij nc; rw [List.countP_filter]
theorem oU:kv left i n=left.countP fun p=>decide (p.2.Lo<n)&& !decide (p.1=i):=by unfold kv nc; rw [List.countP_filter]
theorem Hw (hn:(left.map (·.1)).Nodup) (hm:(x,y)∈left) (h:x=i):ij left i n=ij (cH left x) i n:=by
 rw [mz,mz,l_ hn hm]; simp [h]
theorem KN (hn:(left.map (·.1)).Nodup) (hm:(x,y)∈left) (h:x=i):kv left i n=kv (cH left x) i n:=by
 rw [oU,oU,l_ hn hm]; simp [h]
theorem zX (hn:(left.map (·.1)).Nodup) (hm:(x,y)∈left) (h: ¬ x=i) (hy:y.Hi<n):ij left i n=ij (cH left x) i n+1:=by
 rw [mz,mz,l_ hn hm]; simp [h,hy]
theorem Da (hn:(left.map (·.1)).Nodup) (hm:(x,y)∈left) (h: ¬ x=i) (hy: ¬ y.Hi<n):ij left i n=ij (cH left x) i n:=by
 rw [mz,mz,l_ hn hm]; simp [h,hy]
theorem BC (hn:(left.map (·.1)).Nodup) (hm:(x,y)∈left) (h: ¬ x=i) (hy:y.Lo<n):kv left i n=kv (cH left x) i n+1:=by
 rw [oU,oU,l_ hn hm]; simp [h,hy]
theorem F_ (hn:(left.map (·.1)).Nodup) (hm:(x,y)∈left) (h: ¬ x=i) (hy: ¬ y.Lo<n):kv left i n=kv (cH left x) i n:=by
 rw [oU,oU,l_ hn hm]; simp [h,hy]
theorem zK:ij [] i n=0:=rfl
theorem BH:kv [] i n=0:=rfl
theorem Gr:ij m i n≤m.length:=by unfold ij nc; exact Nat.le_trans List.countP_le_length (List.length_filter_le _ _)
theorem Mu:kv m i n≤m.length:=by unfold kv nc; exact Nat.le_trans List.countP_le_length (List.length_filter_le _ _)
end
def oW {β:Type} (m left:List (Int×β)) (ys:List Int):Prop:=(ys++left.map (·.1)).Perm (m.map (·.1))
theorem vJ {β:Type} {m:List (Int×β)}:oW m m []:=List.Perm.refl _
theorem yf {β:Type} {m:List (Int×β)} {ys:List Int} (h:oW m [] ys):ys.Perm (m.map (·.1)):=by simpa [oW] using h
theorem Jz {β:Type} {left:List (Int×β)} {x:Int} {y:β} (hn:(left.map (·.1)).Nodup) (hm:(x,y)∈left):(left.map (·.1)).Perm (x::(cH left x).map (·.1)):=by
 induction left with
 |nil=>cases hm
 |cons q left ih=>
  obtain ⟨a,b⟩:=q
  simp only [List.map_cons,List.nodup_cons] at hn
  rcases bu.1 hm with e|hm
  ·cases e
   have A:cH ((x,y)::left) x=left:=by
    unfold cH
    rw [List.filter_cons_of_neg sm]
    exact List.filter_eq_self.2 fun q hq=>by
     have:q.1≠x:=fun e=>hn.1 (e▸List.mem_map_of_mem hq)
     simpa using this
   rw [A]; exact List.Perm.refl _
  ·have B:a≠x:=fun e=>hn.1 (e▸List.mem_map_of_mem (f:=fun z:Int×β=>z.1) hm)
   have A:cH ((a,b)::left) x=(a,b)::cH left x:=by
    unfold cH
    rw [List.filter_cons_of_pos (by simpa using B)]
   rw [A,List.map_cons,List.map_cons]
   exact ((ih hn.2 hm).cons a).trans (List.Perm.swap _ _ _)
theorem oT {β:Type} {m left:List (Int×β)} {ys:List Int} {x:Int} {y:β} (hn:(left.map (·.1)).Nodup) (hm:(x,y)∈left) (h:oW m left ys):oW m (cH left x) (ys++[x]):=by
 unfold oW at h ⊢
 refine List.Perm.trans ?_ h
 rw [List.append_assoc]
 exact (Jz hn hm).symm.append_left ys
theorem gu {β:Type} {m left:List (Int×β)} {x:Int} (h: ∀ p∈left,p∈m): ∀ p∈cH left x,p∈m:=fun p hp=>h p (kp.1 hp).1
theorem g8 {m:g_} {i:Int} (h: ∀ p∈m,0≤p.2.Lo∧p.2.Lo≤p.2.Hi∧p.2.Hi≤30000000):0≤(aD m i).Lo∧(aD m i).Lo≤(aD m i).Hi∧(aD m i).Hi≤30000000:=by
 unfold aD
 cases e:m.lookup i with
 |none=>simp [dJ]
 |some v=>
  have hm:(i,v)∈m:=by
   clear h
   induction m with
   |nil=>cases e
   |cons p m ih=>
    obtain ⟨a,b⟩:=p
    by_cases c:i=a
    ·subst c; simp [List.lookup] at e; subst e; exact cq
    ·have:(i==a)=false:=by simpa using c
     simp only [List.lookup,this] at e
     exact cV _ (ih e)
  simpa using h _ hm
/-- not reached by the numbers so far -/
def uZ (m:g_) (i:Int) (ys:List Int) (k:Int):Prop:=(1≤k∧k≤(m.length:Int))∧ ∀ n∈ys,¬ ((ij m i n:Int)+1≤k∧k≤(kv m i n:Int)+1)
section
variable {m:g_} {i:Int} {own:aa} {ys:List Int} {nev zw:q7} {n a b:Int}
theorem L5 (h:jt nev fun k=>1≤k∧k≤(m.length:Int)):jt nev (uZ m i []):=h.yJ fun k=>⟨fun h=>⟨h,fun n hn=>by cases hn⟩,fun h=>h.1⟩
theorem KS (ha:a=(ij m i n:Int)+1) (hb:b=(kv m i n:Int)+1) (h:jt nev fun q=>uZ m i ys q∧ ¬ (a≤q∧q≤b)):jt nev (uZ m i (ys++[n])):=by
 subst ha hb
 refine h.yJ fun k=>?_
 unfold uZ
 constructor
 ·rintro ⟨⟨B,A⟩,C⟩
  refine ⟨B,fun x hx=>?_⟩
  rcases dM.1 hx with hx|hx
  ·exact A x hx
  ·rw [bH] at hx; subst hx; exact C
 ·rintro ⟨B,A⟩
  exact ⟨⟨B,fun x hx=>A x (List.mem_append_left _ hx)⟩,A n sm⟩
theorem EL {P:Int→Prop} {k:Int} (hk:a≤k) (h:jt nev fun q=>P q∧ ¬ (a≤q∧q<k)):jt (cH nev k) fun q=>P q∧ ¬ (a≤q∧q<k+1):=
 (Bv (k:=k) h).yJ fun q=>by
  constructor
  ·rintro ⟨⟨B,A⟩,E⟩; exact ⟨B,fun ⟨C,D⟩=>A ⟨C,I⟩⟩
  ·rintro ⟨B,A⟩; exact ⟨⟨B,fun ⟨C,D⟩=>A ⟨C,I⟩⟩,fun e=>A ⟨I,I⟩⟩
theorem GQ (hall: ∀ n,n∈ys↔n∈jU m i own) {k:Int} (hk:1≤k∧k≤(m.length:Int)): ¬ uZ m i ys k↔sS m i own k:=by
 unfold uZ sS
 constructor
 ·intro h
  refine Classical.byContradiction fun q=>h ⟨hk,fun n hn hc=>q ⟨n,(hall n).1 hn,hc.1,hc.2⟩⟩
 ·rintro ⟨n,hn,A,B⟩ h
  exact h.2 n ((hall n).2 hn) ⟨A,B⟩
/-- the ranks, from what is left of the map -/
theorem D1 (hi:m.lookup i≠none) (hall: ∀ n,n∈ys↔n∈jU m i own) (h:jt zw fun k=>(1≤k∧k≤(m.length:Int))∧ ¬ uZ m i ys k):dB (zw.map (·.1))=dI m i own:=by
 refine ru lI ?_ ((fT (l:=zw.map (·.1))).nodup_iff.2 h.1) ?_ fun k=>?_
 ·unfold dI
  refine List.Pairwise.filter _ ?_
  rw [List.pairwise_map]
  exact List.pairwise_lt_range.imp fun h=>by omega
 ·unfold dI
  refine List.Pairwise.filter _ ?_
  rw [List.pairwise_map]
  exact List.pairwise_lt_range.imp fun h=>by omega
 ·rw [(fT (l:=zw.map (·.1))).mem_iff,h.2 k,rK hi]
  constructor
  ·rintro ⟨A,B⟩; exact (GQ hall A).1 B
  ·intro A
   have hk:1≤k∧k≤(m.length:Int):=by
    obtain ⟨n,_,B,C⟩:=A
    have:=Kq hi (x:=n)
    omega
   exact ⟨hk,(GQ hall hk).2 A⟩
end
section
variable {nw left rk:q7} {N R:Int→Prop} {u:Int} {v:Bool}
theorem OV (hl: ∀ p∈left,p∈nw) (hk:jt nw N) (hm:(u,v)∈left) (h:jt rk fun w=>R w∧ ¬ (N w∧w ∉ left.map (·.1))):jt (cH rk u) fun w=>R w∧ ¬ (N w∧w ∉ (cH left u).map (·.1)):=
 (Bv (k:=u) h).yJ fun w=>by
  have hd:w∈(cH left u).map (·.1)↔w∈left.map (·.1)∧w≠u:=by
   constructor
   ·intro q
    obtain ⟨p,hp,rfl⟩:=bX.1 q
    exact ⟨List.mem_map_of_mem (kp.1 hp).1,(kp.1 hp).2⟩
   ·rintro ⟨D,E⟩
    obtain ⟨p,hp,rfl⟩:=bX.1 D
    exact List.mem_map_of_mem (kp.2 ⟨hp,E⟩)
  constructor
  ·rintro ⟨⟨B,A⟩,C⟩
   exact ⟨B,fun q=>A ⟨q.1,fun z=>q.2 (hd.2 ⟨z,C⟩)⟩⟩
  ·rintro ⟨B,A⟩
   refine ⟨⟨B,fun q=>A ⟨q.1,fun z=>q.2 (hd.1 z).1⟩⟩,fun e=>A ⟨?_,fun z=>(hd.1 z).2 e⟩⟩
   subst e
   exact (hk.2 _).1 (List.mem_map_of_mem (f:=fun z:Int×Bool=>z.1) (hl _ hm))
theorem L9 {n:Nat} (h:jt rk R) (hR: ∀ k,R k→1≤k∧k≤(n:Int)):rk.length≤n:=by
 have hp:((List.range n).map fun (k:Nat)=>(k:Int)+1).Pairwise (· < ·):=by
  rw [List.pairwise_map]
  exact List.pairwise_lt_range.imp fun h=>by omega
 have e:dB (rk.map (·.1))=((List.range n).map fun (k:Nat)=>(k:Int)+1).filter fun k=>decide (k∈rk.map (·.1)):=by
  refine ru lI ((hp.filter _).imp fun h=>by omega) ((fT (l:=rk.map (·.1))).nodup_iff.2 h.1) ((hp.filter _).imp fun h=>by omega) fun k=>?_
  rw [(fT (l:=rk.map (·.1))).mem_iff,List.mem_filter,decide_eq_true_eq]
  refine ⟨fun q=>⟨?_,q⟩,fun q=>q.2⟩
  have:=hR k ((h.2 k).1 q)
  exact bX.2 ⟨(k-1).toNat,List.mem_range.2 I,I⟩
 have A:=congrArg List.length e
 have B:=List.length_filter_le (fun k=>decide (k∈rk.map (·.1))) ((List.range n).map fun (k:Nat)=>(k:Int)+1)
 rw [gI,List.length_map] at A
 rw [List.length_map,List.length_range] at B
 omega
end
section
variable {m left:g_} {i x n:Int} {own y:aa} {ys:List Int}
/-- what was told so far: all of those who are not left -/
def zG (m:g_) (i:Int) (own:aa) (left:g_) (ys:List Int):Prop:=(∀ n∈ys,n∈jU m i own)∧own.Lo∈ys∧ ∀ p∈m,p.1≠i→p ∉ left→ ∀ n∈[p.2.Lo+1,p.2.Hi+1],own.Lo≤n∧n≤own.Hi→n∈ys
theorem nj {p:Int×aa} (hp:p∈m) (hi:p.1≠i) (hn:n=p.2.Lo+1∨n=p.2.Hi+1) (hb:own.Lo≤n∧n≤own.Hi):n∈jU m i own:=
 cV _ (List.mem_filter.2 ⟨List.mem_flatMap.2 ⟨p,List.mem_filter.2 ⟨hp,by simpa using hi⟩,by simpa using hn⟩,gf hb⟩)
theorem Jc:zG m i own m [own.Lo]:=⟨fun n hn=>by rw [bH] at hn; subst hn; exact cq,sm,fun p hp _ hl=>absurd hp hl⟩
theorem OY (h:zG m i own [] ys) (n:Int):n∈ys↔n∈jU m i own:=by
 refine ⟨h.1 n,fun hn=>?_⟩
 rcases bu.1 hn with rfl|hn
 ·exact h.2.1
 ·obtain ⟨C,D⟩:=List.mem_filter.1 hn
  obtain ⟨p,hp,hx⟩:=List.mem_flatMap.1 C
  obtain ⟨A,B⟩:=List.mem_filter.1 hp
  exact h.2.2 p A (by simpa using B) sm n hx (of_decide_eq_true D)
theorem ly {ys':List Int} (hm:(left.map (·.1)).Nodup) (hx:(x,y)∈left) (hl: ∀ p∈left,p∈m) (h:zG m i own left ys) (hs: ∀ n∈ys,n∈ys') (hn: ∀ n∈ys',n∈ys∨n∈jU m i own)
 (hy:x≠i→ ∀ n∈[y.Lo+1,y.Hi+1],own.Lo≤n∧n≤own.Hi→n∈ys'):zG m i own (cH left x) ys':=by
 refine ⟨fun n A=>?_,hs _ h.2.1,fun p hp hi B n A hb=>?_⟩
 ·rcases hn n A with q|q
  ·exact h.1 n q
  ·exact q
 ·by_cases e:p∈left
  ·have C:p.1=x:=by
    refine Classical.byContradiction fun q=>B (kp.2 ⟨e,q⟩)
   have E:p=(x,y):=by
    obtain ⟨G,H⟩:=p
    simp only at C; subst C
    have F:=(kd hm).1 e
    have D:=(kd hm).1 hx
    rw [F] at D; cases D; rfl
   subst E
   exact hy hi n A hb
  ·exact hs n (h.2.2 p hp hi e n A hb)
end
section
variable {r:bY} {h i:Int} {ht:List aw} {d:aw}
theorem pc (he: ¬ cM r=0):ke r h i=cM r:=if_neg he
theorem pj (he:cM r=0) (hi: ¬ ((0≤h∧h≤(r.aq.length:Int)-1)∧0≤i∧i≤(r.aM.length:Int)-1)):ke r h i=2:=by
 unfold ke; rw [if_pos he,if_neg (show ¬ ((0≤h∧h≤(r.aq.length:Int)-1)∧q9 r i) from hi)]
theorem CN (he:cM r=0) (hi:(0≤h∧h≤(r.aq.length:Int)-1)∧0≤i∧i≤(r.aM.length:Int)-1) (h1:r.aq[h.toNat]? =some ht) (h2:ht[i.toNat]? =some d):ke r h i=if d.Out=true then 6 else 0:=by
 unfold ke; rw [if_pos he,if_pos (show (0≤h∧h≤(r.aq.length:Int)-1)∧q9 r i from hi),h1]
 simp [h2]
theorem nI (he:cM r=0) (hi:(0≤h∧h≤(r.aq.length:Int)-1)∧0≤i∧i≤(r.aM.length:Int)-1) (h1:r.aq[h.toNat]? =some ht) (h2:ht[i.toNat]? =some d) (ho:d.Out=true):ke r h i=6:=by rw [CN he hi h1 h2,if_pos ho]
theorem qN (he:cM r=0) (hi:(0≤h∧h≤(r.aq.length:Int)-1)∧0≤i∧i≤(r.aM.length:Int)-1) (h1:r.aq[h.toNat]? =some ht) (h2:ht[i.toNat]? =some d) (ho:d.Out=false):ke r h i=0∧hZ r h i=dE r.an d:=by
 have e:ke r h i=0:=by rw [CN he hi h1 h2,if_neg (by rw [ho]; decide)]
 refine ⟨e,?_⟩
 unfold hZ
 rw [if_pos e,h1]
 simp [h2]
end
theorem u6 {r:bY} {i:Int} (h: ¬ jR r i=0):fV r i=[]:=if_neg h
theorem yR {r:bY} {i:Int} (h:jR r i=0):fV r i=dI (aF r) i (aD (aF r) i):=if_pos h
end
section
open Go.RowKit
section
variable {key:Int→Int} {l q m:List Int} {i j:Nat} {x y:Int}
theorem G1:1=1∧l=[]∨ur key l 1 l:=by
 cases l with
 |nil=>exact .inl ⟨rfl,rfl⟩
 |cons a l=>exact .inr (IZ sm)
theorem On (h:i<l.length) (hd:i=1∧l=[]∨ur key l i m):ur key l i m:=by
 rcases hd with ⟨_,rfl⟩|hd
 ·simp at h
 ·exact hd
theorem IN (hi: ¬ i<l.length) (hl:m.length=l.length) (hd:i=1∧l=[]∨ur key l i m):m=eK key l:=by
 rcases hd with ⟨_,rfl⟩|hd
 ·exact jX hl
 ·exact Kn I hd
theorem Ll (hx:q[j]? =some x) (hy:q[j-1]? =some y) (h: ∀ z∈q,z∈l): ∀ z∈(q.set j y).set (j-1) x,z∈l:=fun z hz=>by
 rcases List.mem_or_eq_of_mem_set hz with hz|rfl
 ·rcases List.mem_or_eq_of_mem_set hz with hz|rfl
  ·exact h z hz
  ·exact h _ (aT hy)
 ·exact h _ (aT hx)
theorem xp {p:Int→Bool} (hx:l[i]? =some x) (h:p x=true):(l.take (i+1)).filter p=(l.take i).filter p++[x]:=by
 rw [l8 hx,List.filter_append]; simp [h]
theorem F1 {p:Int→Bool} (hx:l[i]? =some x) (h:p x=false):(l.take (i+1)).filter p=(l.take i).filter p:=by
 rw [l8 hx,List.filter_append]; simp [h]
end
section
variable {r:bY} {h:Int} {n:Nat}
theorem E0 (e: ¬ cM r=0):ji r h=cM r:=if_neg e
theorem EJ (e:cM r=0) (q: ¬ (0≤h∧h≤(r.aq.length:Int))):ji r h=2:=by unfold ji; rw [if_pos e,if_neg q]
theorem zg (e:cM r=0) (q:0≤h∧h≤(r.aq.length:Int)):ji r h=0:=by unfold ji; rw [if_pos e,if_pos q]
theorem Ef (hd:r.bK.length≤12):(iq r h).length≤12:=by
 unfold iq
 split
 ·split
  ·exact hd
  ·unfold uB
   simp only [kl,kM]
   exact Nat.le_trans (List.length_filter_le _ _) hd
 ·simp
theorem zT (e: ¬ ji r h=0):iq r h=[]:=if_neg e
theorem vw (e:ji r h=0) (q:h=0):iq r h=r.bK:=by unfold iq; rw [if_pos e,if_pos q]
theorem vV (e:ji r (n:Int)=0) (q: ¬ (n:Int)=0):iq r (n:Int)=uB r n:=by unfold iq; rw [if_pos e,if_neg q,Int.toNat_natCast]
theorem zS {k:Nat} {l:List Int} (hl:l=eK (fun i=>(aD (eP r n) i).Hi) (r.bK.filter fun i=>((eP r n).lookup i).isSome)) (hk:k=min r.gX.toNat l.length):sv k l=uB r n:=by subst hl; subst hk; rfl
theorem Ti {m:g_} {l:List Int} (hb: ∀ p∈m,0≤p.2.Lo∧p.2.Lo≤p.2.Hi∧p.2.Hi≤30000000): ∀ x∈l,0≤(aD m x).Hi∧(aD m x).Hi≤30000000:=fun x _=>by have:=g8 (i:=x) hb; omega
theorem TG {m:g_} {l:List Int} (hb: ∀ p∈m,0≤p.2.Lo∧p.2.Lo≤p.2.Hi∧p.2.Hi≤30000000): ∀ x∈l,0≤(aD m x).Lo∧(aD m x).Lo≤30000000:=fun x _=>by have:=g8 (i:=x) hb; omega
end
end
section
def Mw (f:Int→aa) (g:List Int):Prop:= ∀ t,(∃ a∈g,(f a).Lo<t)→(∃ b∈g,t≤(f b).Lo)→ ∃ c∈g,(f c).Lo<t∧t≤(f c).Hi
def LI (f:Int→aa) (g h:List Int):Prop:= ∀ a∈g,∀ b∈h,(f a).Hi<(f b).Lo
structure iH (f:Int→aa) (keys:List Int) (G:List (List Int)):Prop where
 perm:G.flatten.Perm keys
 some_: ∀ g∈G,g≠[]
 apart:G.Pairwise (LI f)
 tight: ∀ g∈G,Mw f g
def BX (G:List (List Int)):Prop:= ∀ g∈G,g.Pairwise (· ≤ ·)
section
variable {f:Int→aa} {keys:List Int} {G G':List (List Int)} {g h:List Int} {x:Int}
theorem xn: ∀ {g:List Int},g≠[]→ ∃ a∈g,∀ b∈g,(f a).Lo≤(f b).Lo
 |[],h=>absurd rfl h
 |[a],_=>⟨a,sm,fun b hb=>by simp at hb; subst hb; omega⟩
 |a::b::g,_=>by
  obtain ⟨c,hc,hm⟩:=xn (g:=b::g) sm
  rcases Int.le_total (f a).Lo (f c).Lo with q|q
  ·refine ⟨a,sm,fun d hd=>?_⟩
   rcases bu.1 hd with rfl|hd
   ·omega
   ·have:=hm d hd; omega
  ·refine ⟨c,cV _ hc,fun d hd=>?_⟩
   rcases bu.1 hd with rfl|hd
   ·exact q
   ·exact hm d hd
/-- the first group is what no cut parts from the least -/
theorem rQ (hf: ∀ i∈keys,(f i).Lo≤(f i).Hi) (h:iH f keys (g::G)) {a:Int} (ha:a∈keys) (hm: ∀ b∈keys,(f a).Lo≤(f b).Lo) {b:Int} (hb:b∈keys):b∈g↔ ∀ t,(f a).Lo<t→t≤(f b).Lo→ ∃ c∈keys,(f c).Lo<t∧t≤(f c).Hi:=by
 have hk: ∀ x,x∈keys↔x∈g∨x∈G.flatten:=fun x=>by rw [← h.perm.mem_iff,List.flatten_cons,dM]
 have A:=List.pairwise_cons.1 h.apart
 have B:a∈g:=by
  rcases (hk a).1 ha with q|q
  ·exact q
  ·obtain ⟨y,hy⟩:=List.exists_mem_of_ne_nil _ (h.some_ g cq)
   obtain ⟨g',hg',hag'⟩:=List.mem_flatten.1 q
   have F:=A.1 g' hg' y hy a hag'
   have H:=hm y ((hk y).2 (.inl hy))
   have E:=hf y ((hk y).2 (.inl hy))
   omega
 constructor
 ·intro AA t F H
  obtain ⟨c,hc,E⟩:=h.tight g cq t ⟨a,B,F⟩ ⟨b,AA,H⟩
  exact ⟨c,(hk c).2 (.inl hc),E⟩
 ·intro C
  rcases (hk b).1 hb with q|q
  ·exact q
  ·exfalso
   obtain ⟨d,hd,D⟩:=xn (f:=f) (g:=G.flatten) (fun e=>by rw [e] at q; cases q)
   obtain ⟨g',hg',hdg'⟩:=List.mem_flatten.1 hd
   have F:=A.1 g' hg' a B d hdg'
   have H:=hf a ha
   have E:=D b q
   obtain ⟨c,hc,K,L⟩:=C (f d).Lo I E
   rcases (hk c).1 hc with J|J
   ·have:=A.1 g' hg' c J d hdg'; omega
   ·have:=D c J; omega
theorem vX (h:iH f keys (g::G)):iH f G.flatten G:=
 ⟨List.Perm.refl _,fun x hx=>h.some_ x (cV _ hx),(List.pairwise_cons.1 h.apart).2,fun x hx=>h.tight x (cV _ hx)⟩
theorem qH {k2:List Int} (h:iH f keys G) (p:keys.Perm k2):iH f k2 G:=⟨h.perm.trans p,h.some_,h.apart,h.tight⟩
theorem sD: ∀ {G G':List (List Int)} {keys:List Int},keys.Nodup→(∀ i∈keys,(f i).Lo≤(f i).Hi)→iH f keys G→iH f keys G'→BX G→BX G'→G=G'
 |[],[],keys,_,_,_,_,_,_=>rfl
 |[],g'::G',keys,_,_,h,h',_,_=>by
  exfalso
  have F:keys=[]:=List.Perm.eq_nil (by simpa using h.perm.symm)
  subst F
  have:=h'.perm.eq_nil
  simp at this
  exact h'.some_ g' cq this.1
 |g::G,[],keys,_,_,h,h',_,_=>by
  exfalso
  have F:keys=[]:=List.Perm.eq_nil (by simpa using h'.perm.symm)
  subst F
  have:=h.perm.eq_nil
  simp at this
  exact h.some_ g cq this.1
 |g::G,g'::G',keys,hn,hf,h,h',ha,ha'=>by
  have H:keys≠[]:=fun e=>by
   subst e
   have:=h.perm.eq_nil
   simp at this
   exact h.some_ g cq this.1
  obtain ⟨a,A,B⟩:=xn (f:=f) H
  have D:=h.perm.nodup_iff.2 hn
  have E:=h'.perm.nodup_iff.2 hn
  rw [List.flatten_cons,List.nodup_append] at D E
  have wO: ∀ b∈g,b∈keys:=fun b hb=>h.perm.mem_iff.1 (by rw [List.flatten_cons]; exact List.mem_append_left _ hb)
  have C: ∀ b∈g',b∈keys:=fun b hb=>h'.perm.mem_iff.1 (by rw [List.flatten_cons]; exact List.mem_append_left _ hb)
  have e:g=g':=by
   refine ru (ha g cq) (ha' g' cq) D.1 E.1 fun b=>?_
   constructor
   ·intro hb
    exact (rQ hf h' A B (wO b hb)).2 ((rQ hf h A B (wO b hb)).1 hb)
   ·intro hb
    exact (rQ hf h A B (C b hb)).2 ((rQ hf h' A B (C b hb)).1 hb)
  subst e
  have p:G.flatten.Perm G'.flatten:=by
   have:=h.perm.trans h'.perm.symm
   rw [List.flatten_cons,List.flatten_cons] at this
   exact (List.perm_append_left_iff g).1 this
  rw [sD (G:=G) (G':=G') D.2.1 (fun i hi=>hf i (h.perm.mem_iff.1 (by rw [List.flatten_cons]; exact List.mem_append_right _ hi))) (vX h) (qH (vX h') p.symm) (fun x hx=>ha x (cV _ hx)) (fun x hx=>ha' x (cV _ hx))]
/-- groups, each one put in order -/
theorem vK (h:iH f keys G):iH f keys (G.map dB)∧BX (G.map dB):=by
 have hp: ∀ G:List (List Int),(G.map dB).flatten.Perm G.flatten:=fun G=>by
  induction G with
  |nil=>simp
  |cons g G ih=>simp only [List.map_cons,List.flatten_cons]; exact fT.append ih
 have hm: ∀ {g:List Int} {x:Int},x∈dB g↔x∈g:=fT.mem_iff
 refine ⟨⟨(hp G).trans h.perm,fun g hg=>?_,?_,fun g hg=>?_⟩,fun g hg=>?_⟩
 ·obtain ⟨y,hy,rfl⟩:=bX.1 hg
  intro e
  have:=(fT (l:=y)).symm
  rw [e] at this
  exact h.some_ y hy this.eq_nil
 ·rw [List.pairwise_map]
  exact h.apart.imp fun q a ha b hb=>q a (hm.1 ha) b (hm.1 hb)
 ·obtain ⟨y,hy,rfl⟩:=bX.1 hg
  rintro t ⟨a,ha,A⟩ ⟨b,hb,B⟩
  obtain ⟨c,hc,C⟩:=h.tight y hy t ⟨a,hm.1 ha,A⟩ ⟨b,hm.1 hb,B⟩
  exact ⟨c,hm.2 hc,C⟩
 ·obtain ⟨y,hy,rfl⟩:=bX.1 hg
  exact lI
end
/-- so far: groups, and the greatest of all -/
structure mD (f:Int→aa) (p:List Int) (G:List (List Int)) (last:Int):Prop where
 ok:iH f p G
 QG: ∀ a∈p,(f a).Hi≤last
 at_:p=[]∧last= -1∨ ∃ a∈p,(f a).Hi=last
section
variable {f:Int→aa} {p:List Int} {G:List (List Int)} {g:List Int} {x last:Int}
theorem F7:mD f [] [] (-1):=⟨⟨sm,fun g hg=>(by cases hg),List.Pairwise.nil,fun g hg=>by cases hg⟩,fun a ha=>(by cases ha),.inl ⟨rfl,rfl⟩⟩
theorem Iw:Mw f [x]:=by
 rintro t ⟨a,ha,A⟩ ⟨b,hb,B⟩
 simp at ha hb; subst ha hb; omega
theorem rp (h0: -1≤(f x).Hi) (h:mD f p G last):(∀ a∈p++[x],(f a).Hi≤max last (f x).Hi)∧((p++[x])=[]∧max last (f x).Hi= -1∨ ∃ a∈p++[x],(f a).Hi=max last (f x).Hi):=by
 refine ⟨fun a ha=>?_,.inr ?_⟩
 ·rcases dM.1 ha with ha|ha
  ·have:=h.QG a ha; omega
  ·rw [bH] at ha; subst ha; omega
 ·rcases Int.le_total last (f x).Hi with q|q
  ·exact ⟨x,sm,I⟩
  ·rcases h.at_ with ⟨rfl,e⟩|⟨a,ha,e⟩
   ·exact ⟨x,sm,I⟩
   ·exact ⟨a,List.mem_append_left _ ha,I⟩
theorem Nm (h0: -1≤(f x).Hi) (h:mD f p G last) (hl:last<(f x).Lo):mD f (p++[x]) (G++[[x]]) (max last (f x).Hi):=by
 have A: ∀ y∈G,∀ a∈y,a∈p:=fun y hy a ha=>h.ok.perm.mem_iff.1 (List.mem_flatten.2 ⟨y,hy,ha⟩)
 refine ⟨⟨?_,fun y hy=>?_,?_,fun y hy=>?_⟩,(rp h0 h).1,(rp h0 h).2⟩
 ·rw [List.flatten_append]
  exact h.ok.perm.append sm
 ·rcases dM.1 hy with hy|hy
  ·exact h.ok.some_ y hy
  ·rw [bH] at hy; subst hy; simp
 ·rw [List.pairwise_append]
  refine ⟨h.ok.apart,List.pairwise_singleton _ _,fun y hy z hz a ha b hb=>?_⟩
  rw [bH] at hz; subst hz
  rw [bH] at hb; subst hb
  have:=h.QG a (A y hy a ha); omega
 ·rcases dM.1 hy with hy|hy
  ·exact h.ok.tight y hy
  ·rw [bH] at hy; subst hy; exact Iw
theorem Lc (h0: -1≤(f x).Hi) (hf: ∀ i∈p,(f i).Lo≤(f i).Hi) (hx: ∀ a∈p,(f a).Lo≤(f x).Lo) (h:mD f p (G++[g]) last) (hl: ¬ last<(f x).Lo):mD f (p++[x]) (G++[g++[x]]) (max last (f x).Hi):=by
 have A: ∀ y∈G++[g],∀ a∈y,a∈p:=fun y hy a ha=>h.ok.perm.mem_iff.1 (List.mem_flatten.2 ⟨y,hy,ha⟩)
 have C:=List.pairwise_append.1 h.ok.apart
 have B:=h.ok.some_ g sm
 refine ⟨⟨?_,fun y hy=>?_,?_,fun y hy=>?_⟩,(rp h0 h).1,(rp h0 h).2⟩
 ·have:=h.ok.perm
  rw [List.flatten_append] at this ⊢
  simp only [List.flatten_cons,List.flatten_nil,List.append_nil] at this ⊢
  rw [← List.append_assoc]
  exact this.append_right _
 ·rcases dM.1 hy with hy|hy
  ·exact h.ok.some_ y (List.mem_append_left _ hy)
  ·rw [bH] at hy; subst hy; simp
 ·rw [List.pairwise_append]
  refine ⟨C.1,List.pairwise_singleton _ _,fun y hy z hz a ha b hb=>?_⟩
  rw [bH] at hz; subst hz
  rcases dM.1 hb with hb|hb
  ·exact C.2.2 y hy g sm a ha b hb
  ·rw [bH] at hb; subst hb
   obtain ⟨c,hc⟩:=List.exists_mem_of_ne_nil _ B
   have K:=C.2.2 y hy g sm a ha c hc
   have H:=hx c (A g sm c hc)
   omega
 ·rcases dM.1 hy with hy|hy
  ·exact h.ok.tight y (List.mem_append_left _ hy)
  ·rw [bH] at hy; subst hy
   rintro t ⟨a,ha,K⟩ ⟨b,hb,H⟩
   by_cases D: ∃ b∈g,t≤(f b).Lo
   ·obtain ⟨b',hb',L⟩:=D
    have AA:a∈g:=by
     rcases dM.1 ha with q|q
     ·exact q
     ·rw [bH] at q; subst q
      have:=hx b' (A g sm b' hb'); omega
    obtain ⟨c,hc,M⟩:=h.ok.tight g sm t ⟨a,AA,K⟩ ⟨b',hb',L⟩
    exact ⟨c,List.mem_append_left _ hc,M⟩
   ·have J: ∀ c∈g,(f c).Lo<t:=fun c hc=>by
     refine Classical.byContradiction fun q=>D ⟨c,hc,I⟩
    have N:t≤(f x).Lo:=by
     rcases dM.1 hb with q|q
     ·exact absurd ⟨b,q,H⟩ D
     ·rw [bH] at q; subst q; exact H
    rcases h.at_ with ⟨e,_⟩|⟨c,hc,e⟩
    ·exfalso
     obtain ⟨c,hc⟩:=List.exists_mem_of_ne_nil _ B
     have:=A g sm c hc
     rw [e] at this; cases this
    ·have E:c∈g:=by
      obtain ⟨y,hy,F⟩:=List.mem_flatten.1 (h.ok.perm.mem_iff.2 hc)
      rcases dM.1 hy with hy|hy
      ·exfalso
       obtain ⟨d,hd⟩:=List.exists_mem_of_ne_nil _ B
       have L:=C.2.2 y hy g sm c F d hd
       have M:=hf d (A g sm d hd)
       have O:=h.QG d (A g sm d hd)
       omega
      ·rw [bH] at hy; subst hy; exact F
     exact ⟨c,List.mem_append_left _ E,J c E,I⟩
theorem Mb (h:mD f p G last) (hp:p≠[]):G≠[]:=fun e=>by
 subst e
 exact hp (by simpa using h.ok.perm.symm.eq_nil)
end
end
section
open Go.RowKit
/-- a map, or nil -/
def oC (o:Option Nat):List Value:=[Value.map o]
theorem AB {α:Type}: ∀ {ms:List α} {asl:List Nat},ms.length=asl.length→List.zipWith gT ms asl=(asl.map some).map oC
 |[],[],_=>rfl
 |[],_::_,h=>by simp at h
 |_::_,[],h=>by simp at h
 |x::ms,y::asl,h=>by simp only [List.zipWith_cons_cons,List.map_cons,AB (ms:=ms) (asl:=asl) (by simpa using h)]; rfl
/-- what stands for all but one -/
def fM {M A:Type} (f:M→A→List av) (ms:List M) (asl:List A) (k:Nat):List av:=aW f (ms.take k) (asl.take k)++aW f (ms.drop (k+1)) (asl.drop (k+1))
theorem lp {M A:Type} {f:M→A→List av}: ∀ {ms:List M} {asl:List A} {k:Nat} {m:M} {a:A},ms[k]? =some m→asl[k]? =some a→(aW f ms asl).Perm (f m a++fM f ms asl k)
 |[],_,k,m,a,h,_=>by simp at h
 |_::_,[],k,m,a,_,h=>by simp at h
 |x::ms,y::asl,0,m,a,h,h2=>by
  simp at h h2; subst h h2
  simp [fM,aW]
 |x::ms,y::asl,k+1,m,a,h,h2=>by
  have ih:=lp (f:=f) (ms:=ms) (asl:=asl) (k:=k) (by simpa using h) (by simpa using h2)
  show (f x y++aW f ms asl).Perm (f m a++fM f (x::ms) (y::asl) (k+1))
  have e:fM f (x::ms) (y::asl) (k+1)=f x y++fM f ms asl k:=by simp [fM,aW,List.append_assoc]
  rw [e]
  refine (ih.append_left (f x y)).trans ?_
  rw [← List.append_assoc,← List.append_assoc]
  exact List.perm_append_comm.append_right _
theorem HM {M A:Type} {f:M→A→List av} {ms:List M} {asl:List A} {k:Nat} {m':M}:fM f (ms.set k m') asl k=fM f ms asl k:=by
 unfold fM
 rw [List.take_set_of_le (Nat.le_refl k),List.drop_set_of_lt (Nat.lt_succ_self k)]
theorem lj {S:BS} {w0 w:World} {C X Y:List av} (hp:X.Perm Y) (h:St S w0 (br X::C) w):St S w0 (br Y::C) w:=by
 have A:St S w0 (X++C) w:=h.iK
 exact (A.perm (hp.append_right C)).tied
theorem St.out {M A:Type} {f:M→A→List av} {S:BS} {w0 w:World} {C:List av} {ms:List M} {asl:List A} {k:Nat} {m:M} {a:A} {X:av} (hm:ms[k]? =some m) (ha:asl[k]? =some a) (hf:f m a=[X]) (h:St S w0 (br (aW f ms asl)::C) w):St S w0 (X::br (fM f ms asl k)::C) w:=by
 have B:=(lj (lp hm ha) h).iK
 rw [hf] at B
 have D:St S w0 (fM f ms asl k++(X::C)) w:=B.perm (List.perm_middle (a:=X) (l₁:=fM f ms asl k) (l₂:=C)).symm
 exact D.tied.perm (List.Perm.swap _ _ _)
theorem St.back {M A:Type} {f:M→A→List av} {S:BS} {w0 w:World} {C:List av} {ms:List M} {asl:List A} {k:Nat} {m':M} {a:A} {X:av} (hk:k<ms.length) (ha:asl[k]? =some a) (hf:f m' a=[X]) (h:St S w0 (X::br (fM f ms asl k)::C) w):St S w0 (br (aW f (ms.set k m') asl)::C) w:=by
 have B:St S w0 (br (fM f ms asl k)::X::C) w:=h.perm (List.Perm.swap _ _ _)
 have D:=B.iK
 have E:St S w0 ((f m' a++fM f (ms.set k m') asl k)++C) w:=by
  rw [hf,HM]
  exact D.perm (List.perm_middle (a:=X) (l₁:=fM f ms asl k) (l₂:=C))
 exact lj (lp (List.getElem?_set_self hk) ha).symm E.tied
section
variable {E:fq} {ops:Array Oper} {Q:df} {rest:List Oper} {D:List Deferred} {L:List (Nat×Value)} {C C1:List av}
variable {M A:Type} {f:M→A→List av} {ms:List M} {asl:List A} {k:Nat} {m:M} {a:A} {X:av}
theorem Gc {c:Code} (i:Nat) (hm:ms[k]? =some m) (ha:asl[k]? =some a) (hf:f m a=[X]) (hn:decide (i::(List.range C.length).filter fun k=>k != i).Nodup=true) (hC:kJ C (i::(List.range C.length).filter fun k=>k != i)=br (aW f ms asl)::C1)
 (h:WJ E c Q D L (X::br (fM f ms asl k)::C1)):WJ E c Q D L C:=fun a w hf' hs=>h a w hf' (St.out hm ha hf (St.kJ _ hn hC hs))
theorem MD {K:Act→World→Prop} (i j:Nat) (hk:k<ms.length) (ha:asl[k]? =some a) (hf:f m a=[X]) (hn:decide (j::i::(List.range C.length).filter fun k=>k != i&&k != j).Nodup=true) (hC:kJ C (j::i::(List.range C.length).filter fun k=>k != i&&k != j)=X::br (fM f ms asl k)::C1)
 (h:KJ E K D L (br (aW f (ms.set k m) asl)::C1)):KJ E K D L C:=fun a w hf' hs=>h a w hf' (St.back hk ha hf (St.kJ _ hn hC hs))
end
end
section
open Go.RowKit
def nx (l:List Int) (a:RA):List Value:=[vS a.1 l.length a.2]
def Rx (l:List Int) (a:RA):List av:=[rd a.1 l.length 1 (l.map iC)]
def th (l:List Int) (a:RA):List av:=[own a.1 a.2 Ue 1 (l.map iC)]
theorem Fx: ∀ (m:List Int) (a:RA) (w:World),(∀ X∈th m a,X.holds w)→ ∀ X∈Rx m a,X.holds w:=fun m a w h X hX=>by
 simp only [Rx,bH] at hX
 subst hX
 have:=nZ (h _ (bH.2 rfl))
 simpa using this
theorem Lz {l:List (List Int)} {bz:List RA}:(br (aW th l bz)).wr=true:=by
 show (aW th l bz).all (·.wr)=true
 rw [cW]
 intro X hX
 obtain ⟨k,m,a,_,_,h⟩:=jJ hX
 simp only [th,bH] at h
 subst h; rfl
theorem lz {ls:List (List Int)} {az:List RA} (h:az.length=ls.length):(List.zipWith nx ls az).length=ls.length:=by simp [h]
theorem M9 (l:List (List Int)) (az:List RA): ∀ v∈(List.zipWith nx l az).flatten,v.oneCell'=true:=by
 induction l generalizing az with
 |nil=>intro v hv; simp at hv
 |cons x l ih=>
  cases az with
  |nil=>intro v hv; simp at hv
  |cons a az=>
   intro v hv
   rw [List.zipWith_cons_cons,List.flatten_cons,dM] at hv
   rcases hv with hv|hv
   ·simp [nx] at hv; subst hv; rfl
   ·exact ih az v hv
section
variable {M A:Type} {f:M→A→List av} {ms:List M} {asl:List A} {k:Nat} {m:M} {a:A} {X:av}
theorem sT:fM f (ms.set k m) (asl.set k a) k=fM f ms asl k:=by
 unfold fM
 rw [List.take_set_of_le (Nat.le_refl k),List.drop_set_of_lt (Nat.lt_succ_self k),List.take_set_of_le (Nat.le_refl k),List.drop_set_of_lt (Nat.lt_succ_self k)]
theorem St.TC {S:BS} {w0 w:World} {C:List av} (hk:k<ms.length) (hk2:k<asl.length) (hf:f m a=[X]) (h:St S w0 (X::br (fM f ms asl k)::C) w):St S w0 (br (aW f (ms.set k m) (asl.set k a))::C) w:=by
 have A:St S w0 (br (fM f ms asl k)::X::C) w:=h.perm (List.Perm.swap _ _ _)
 have B:=A.iK
 have D:St S w0 ((f m a++fM f (ms.set k m) (asl.set k a) k)++C) w:=by
  rw [hf,sT]
  exact B.perm (List.perm_middle (a:=X) (l₁:=fM f ms asl k) (l₂:=C))
 exact lj (lp (List.getElem?_set_self hk) (List.getElem?_set_self hk2)).symm D.tied
theorem qS {β:Type} {c:M→A→β}:(List.zipWith c ms asl).set k (c m a)=List.zipWith c (ms.set k m) (asl.set k a):=by
 apply List.ext_getElem?
 intro j
 rw [List.getElem?_set]
 by_cases e:k=j
 ·subst e
  rw [if_pos rfl,List.length_zipWith,List.getElem?_zipWith,List.getElem?_set,List.getElem?_set,if_pos rfl,if_pos rfl]
  by_cases B:k<ms.length
  ·by_cases C:k<asl.length
   ·rw [if_pos I,if_pos B,if_pos C]
   ·rw [if_neg I,if_pos B,if_neg C]
  ·rw [if_neg I,if_neg B]
 ·rw [if_neg e,List.getElem?_zipWith,List.getElem?_zipWith,List.getElem?_set_ne e,List.getElem?_set_ne e]
variable {E:fq} {ops:Array Oper} {Q:df} {rest:List Oper} {D:List Deferred} {L:List (Nat×Value)} {C C1:List av}
abbrev Dp (C:List av) (i j:Nat):List Nat:=j::i::(List.range C.length).filter fun k=>k != i&&k != j
abbrev HR (C:List av) (i:Nat):List Nat:=i::(List.range C.length).filter fun k=>k != i
theorem F3 (i j:Nat) (hk:k<ms.length) (hk2:k<asl.length) (hf:f m a=[X]) (hn:decide (Dp C i j).Nodup=true) (hC:mo C (Dp C i j)=some (X::br (fM f ms asl k)::C1))
 (h:RJ E ops Q rest D L (br (aW f (ms.set k m) (asl.set k a))::C1)):RJ E ops Q rest D L C:=fun a w hf' hs=>h a w hf' (St.TC hk hk2 hf (St.kJ _ hn (jS hC) hs))
theorem DZ {c:Code} (i:Nat) (hm:ms[k]? =some m) (ha:asl[k]? =some a) (hf:f m a=[X]) (hn:decide (HR C i).Nodup=true) (hC:mo C (HR C i)=some (br (aW f ms asl)::C1))
 (h:WJ E c Q D L (X::br (fM f ms asl k)::C1)):WJ E c Q D L C:=fun a w hf' hs=>h a w hf' (St.out hm ha hf (St.kJ _ hn (jS hC) hs))
theorem Oy {K:Act→World→Prop} (i j:Nat) (hk:k<ms.length) (ha:asl[k]? =some a) (hf:f m a=[X]) (hn:decide (Dp C i j).Nodup=true) (hC:mo C (Dp C i j)=some (X::br (fM f ms asl k)::C1))
 (h:KJ E K D L (br (aW f (ms.set k m) asl)::C1)):KJ E K D L C:=fun a w hf' hs=>h a w hf' (St.back hk ha hf (St.kJ _ hn (jS hC) hs))
theorem Q9 {Y Y':List av} (i j:Nat) (hn:decide (Dp C i j).Nodup=true) (hC:mo C (Dp C i j)=some (X::br Y::C1)) (e:Y++[X]=Y') (h:RJ E ops Q rest D L (br Y'::C1)):RJ E ops Q rest D L C:=fun a w hf hs=>h a w hf ((St.kJ _ hn (jS hC) hs).tie e)
theorem Ep {K:Act→World→Prop} {Y Y':List av} (i j:Nat) (hn:decide (Dp C i j).Nodup=true) (hC:mo C (Dp C i j)=some (X::br Y::C1)) (e:Y++[X]=Y') (h:KJ E K D L (br Y'::C1)):KJ E K D L C:=fun a w hf hs=>h a w hf ((St.kJ _ hn (jS hC) hs).tie e)
end
theorem E_ {M A:Type} {f:M→A→List av} {ms:List M} {asl:List A} {m:M} {a:A} {X:av} (h:ms.length=asl.length) (hf:f m a=[X]):aW f ms asl++[X]=aW f (ms++[m]) (asl++[a]):=by
 rw [jB h]; simp [aW,hf]
theorem Ii {M A β:Type} {f:M→A→β} {ms:List M} {asl:List A} {m:M} {a:A} (h:ms.length=asl.length):List.zipWith f ms asl++List.zipWith f [m] [a]=List.zipWith f (ms++[m]) (asl++[a]):=(List.zipWith_append h).symm
theorem pT {r:bY} {k:Nat}:((eP r k).map (·.1)).Nodup:=by
 unfold eP
 rw [List.map_filterMap]
 refine List.Pairwise.filterMap _ ?_ (List.nodup_range (n:=r.aM.length))
 intro a b A x hx y hy e
 subst e
 simp only [Option.map_map,Option.map_eq_some_iff,Function.comp] at hx hy
 obtain ⟨_,_,rfl⟩:=hx
 obtain ⟨_,_,h⟩:=hy
 exact A I
noncomputable def dU (r:bY):List (List Int):=if cM r=0 then Classical.epsilon (fun G=>iH (aD (aF r)) ((aF r).map (·.1)) G∧BX G) else []
theorem CD {r:bY} (h: ¬ cM r=0):dU r=[]:=if_neg h
theorem uq {r:bY} {G:List (List Int)} (he:cM r=0) (h1:iH (aD (aF r)) ((aF r).map (·.1)) G) (h2:BX G):G=dU r:=by
 unfold dU
 rw [if_pos he]
 have A:=Classical.epsilon_spec (p:=fun G=>iH (aD (aF r)) ((aF r).map (·.1)) G∧BX G) ⟨G,h1,h2⟩
 exact sD pT (fun i hi=>(g8 (oh he)).2.1) h1 A.1 h2 A.2
section
variable {f:Int→aa} {L:List Int} {G:List (List Int)} {g:List Int} {x last:Int} {i j:Nat}
theorem Ar (h:mD f (L.take i) G last) (hg:g∈G):g.length≤L.length:=by
 have A:=h.ok.perm.length_eq
 have B:g.length≤G.flatten.length:=(List.sublist_flatten_of_mem hg).length_le
 rw [List.length_take] at A; omega
theorem GJ (h:mD f (L.take i) G last):G.length≤L.length:=by
 have A:=h.ok.perm.length_eq
 have B: ∀ G:List (List Int),(∀ g∈G,g≠[])→G.length≤G.flatten.length:=fun G=>by
  induction G with
  |nil=>intro _; simp
  |cons g G ih=>
   intro hG
   have C:=ih fun y hy=>hG y (cV _ hy)
   have D:=List.length_pos_iff.2 (hG g cq)
   simp only [List.flatten_cons,List.length_cons,List.length_append]; omega
 have C:=B G h.ok.some_
 rw [List.length_take] at A; omega
theorem p_ (h0: -1≤(f x).Hi) (hx:L[i]? =some x) (hg:(G++[[]])[(G++[([]:List Int)]).length-1]? =some g) (h:mD f (L.take i) G last) (hl:last<(f x).Lo):mD f (L.take (i+1)) ((G++[[]]).set ((G++[([]:List Int)]).length-1) (g++[x])) (max last (f x).Hi):=by
 have A:(G++[([]:List Int)]).length-1=G.length:=by simp
 rw [A] at hg ⊢
 simp at hg
 subst hg
 rw [l8 hx]
 have B:(G++[([]:List Int)]).set G.length ([]++[x])=G++[[x]]:=by simp
 rw [B]
 exact Nm h0 h hl
theorem oZ (h0: -1≤(f x).Hi) (hf: ∀ i∈L,(f i).Lo≤(f i).Hi) (hup:Fp (fun u=>(f u).Lo) L) (hx:L[i]? =some x) (hg:G[G.length-1]? =some g) (h:mD f (L.take i) G last) (hl: ¬ last<(f x).Lo):mD f (L.take (i+1)) (G.set (G.length-1) (g++[x])) (max last (f x).Hi):=by
 obtain ⟨A,F⟩:=aY.1 hg
 obtain ⟨G',y,rfl⟩: ∃ G' y,G=G'++[y]:=⟨G.dropLast,G.getLast (by intro e; subst e; simp at A),(List.dropLast_concat_getLast _).symm⟩
 have D:(G'++[y]).length-1=G'.length:=by simp
 simp only [D] at hg ⊢
 simp at hg
 subst hg
 have E:(G'++[y]).set G'.length (y++[x])=G'++[y++[x]]:=by simp
 rw [l8 hx,E]
 refine Lc h0 (fun i hi=>hf i (List.mem_of_mem_take hi)) (fun a ha=>?_) h hl
 obtain ⟨C,B⟩:=aY.1 hx
 obtain ⟨q,hq,rfl⟩:=List.mem_iff_getElem.1 ha
 rw [List.length_take] at hq
 rw [List.getElem_take]
 have:=eQ.1 hup q i I C I
 rw [B] at this
 exact this
theorem FE (hlo:0≤(f x).Lo) (h:mD f (L.take i) G last) (hl: ¬ last<(f x).Lo):1≤G.length:=by
 rcases h.at_ with ⟨_,e⟩|⟨a,ha,_⟩
 ·omega
 ·exact List.length_pos_iff.2 (Mb h (fun e=>by rw [e] at ha; cases ha))
/-- the first groups are in order -/
def n_ (G:List (List Int)) (j:Nat):List (List Int):=(G.take j).map dB++G.drop j
theorem Et (h:G.length≤j):n_ G j=G.map dB:=by unfold n_; rw [List.take_of_length_le h,List.drop_eq_nil_of_le h,List.append_nil]
theorem DX:(n_ G j).length=G.length:=by unfold n_; rw [List.length_append,List.length_map,List.length_take,List.length_drop]; omega
theorem Ix (h:G[j]? =some g):(n_ G j)[j]? =some g:=by
 have hj:=(aY.1 h).1
 unfold n_
 rw [List.getElem?_append_right (by rw [List.length_map,List.length_take]; omega),List.length_map,List.length_take,Nat.min_eq_left I,Nat.sub_self,List.getElem?_drop]
 simpa using h
theorem Fj (h:G[j]? =some g):(n_ G j).set j (dB g)=n_ G (j+1):=by
 have hj:=(aY.1 h).1
 unfold n_
 rw [List.set_append_right _ _ (by rw [List.length_map,List.length_take]; omega),List.length_map,List.length_take,Nat.min_eq_left I,Nat.sub_self,List.drop_eq_getElem_cons hj,List.set_cons_zero,List.take_add_one,h]
 simp
theorem Ki {gz:List RA}:List.zipWith nx (G.map dB) gz=List.zipWith nx G gz:=by
 induction G generalizing gz with
 |nil=>rfl
 |cons g G ih=>
  cases gz with
  |nil=>rfl
  |cons a gz=>simp only [List.map_cons,List.zipWith_cons_cons,ih]; simp [nx]
end
end
section
open Go.RowKit
theorem xz (l:List ao) (az:List RA): ∀ v∈(List.zipWith ao.cells l az).flatten,v.oneCell'=true:=by
 induction l generalizing az with
 |nil=>intro v hv; simp at hv
 |cons x l ih=>
  cases az with
  |nil=>intro v hv; simp at hv
  |cons a az=>
   intro v hv
   rw [List.zipWith_cons_cons,List.flatten_cons,dM] at hv
   rcases hv with hv|hv
   ·simp [ao.cells,dx.cells] at hv
    rcases hv with rfl|rfl<;>rfl
   ·exact ih az v hv
theorem eM {l:List ao} {az:List RA} (h:az.length=l.length):(List.zipWith ao.cells l az).length=l.length:=by simp [h]
/-- addresses, of which some are new -/
def sh (bz az:List RA) (i:Nat):List RA:=bz++az.drop i
theorem qU {bz az:List RA} {i:Nat} (hb:bz.length=i) (hi:i≤az.length):(sh bz az i).length=az.length:=by simp [sh,hb]; omega
theorem Jx {bz az:List RA} {i:Nat} (h:az.length≤i):sh bz az i=bz:=by unfold sh; rw [List.drop_eq_nil_of_le h,List.append_nil]
theorem Fz {bz az:List RA} {i:Nat} {a:RA} (hb:bz.length=i) (h:az[i]? =some a):(sh bz az i)[i]? =some a:=by
 unfold sh
 rw [List.getElem?_append_right I,hb,Nat.sub_self,List.getElem?_drop]
 simpa using h
theorem KE {bz az:List RA} {i:Nat} {a b:RA} (hb:bz.length=i) (h:az[i]? =some a):(sh bz az i).set i b=sh (bz++[b]) az (i+1):=by
 unfold sh
 have hi:=(aY.1 h).1
 rw [List.set_append_right _ _ I,hb,Nat.sub_self,List.drop_eq_getElem_cons hi,List.set_cons_zero]
 simp
theorem Oz {l:List ao} {bz az:List RA} {i:Nat} {x:ao} {xa nw:RA} (hx:l[i]? =some x) (hb:bz.length=i) (ha:az[i]? =some xa):
 (List.zipWith ao.cells l (sh bz az i)).set i (ao.cells x nw)=List.zipWith ao.cells l (sh (bz++[nw]) az (i+1)):=by
 rw [← KE hb ha]
 apply List.ext_getElem?
 intro k
 rw [List.getElem?_set]
 by_cases e:i=k
 ·subst e
  have A:=Fz hb ha
  have B:=(aY.1 A).1
  have C:=(aY.1 hx).1
  rw [if_pos rfl,List.getElem?_zipWith,hx,List.getElem?_set_self B,if_pos (by simp; omega)]
 ·rw [if_neg e,List.getElem?_zipWith,List.getElem?_zipWith,List.getElem?_set_ne e]
theorem GW {l:List ao} {bz:List RA} {i:Nat} {x:ao} {nw:RA} (hx:l[i]? =some x) (hb:bz.length=i):aW ao.owns (l.take i) bz++ao.owns x nw=aW ao.owns (l.take (i+1)) (bz++[nw]):=by
 have hi:=(aY.1 hx).1
 rw [List.take_add_one,hx,Option.toList_some,jB (by rw [List.length_take,hb]; omega)]
 simp [aW]
theorem fQ {l:List ao} {bz:List RA}:(br (aW ao.owns l bz)).wr=true:=by
 show (aW ao.owns l bz).all (·.wr)=true
 rw [cW]
 intro X hX
 obtain ⟨k,m,a,_,_,h⟩:=jJ hX
 simp only [ao.owns,bH] at h
 subst h; rfl
/-- what is known of new rows -/
def oD (l:List ao) (bz:List RA):Prop:= ∀ (k:Nat) m (a:RA),l[k]? =some m→bz[k]? =some a→m.aN.length≤a.2
theorem CM {l:List ao} {bz:List RA} {i:Nat} {x:ao} {nw:RA} (h:oD l bz) (hb:bz.length=i) (hx:l[i]? =some x) (hc:x.aN.length≤nw.2):oD l (bz++[nw]):=fun k m a hm ha=>by
 by_cases e:k<bz.length
 ·rw [List.getElem?_append_left e] at ha
  exact h k m a hm ha
 ·rw [List.getElem?_append_right I] at ha
  have hk:k-bz.length=0:=by
   rcases Nat.eq_zero_or_pos (k-bz.length) with A|A
   ·exact A
   ·rw [List.getElem?_eq_none (by simp; omega)] at ha; cases ha
  rw [hk] at ha
  simp at ha
  have:k=i:=by omega
  subst this
  rw [hx] at hm; cases hm
  subst ha; exact hc
theorem fr: ∀ (m:ao) (a:RA) (w:World),(∀ X∈ao.owns m a,X.holds w)→ ∀ X∈ao.gP m a,X.holds w:=fun m a w h X hX=>by
 simp only [ao.gP,bH] at hX
 subst hX
 have:=nZ (h _ (bH.2 rfl))
 simpa using this
theorem ew.Nx {l:aX} {az bz:List RA} (h:ew l az) (hb:bz.length=l.ah.length) (hc:oD l.ah bz):ew l bz:=⟨h.sw,h.side,h.sr,hb,h.sH,fun k m a hm ha=>⟨hc k m a hm ha,by
 obtain ⟨A,B⟩: ∃ A,az[k]? =some A:=⟨az[k]'(by rw [h.oo]; exact (aY.1 hm).1),fc _⟩
 exact (h.LL k m A hm B).2⟩⟩
section
variable {E:fq} {ops:Array Oper} {Q:df} {rest:List Oper} {D:List Deferred} {L:List (Nat×Value)} {C:List av}
theorem Ge {a:OA} {c e sz:Nat} {es:List (List Value)} (i:Nat) (hC:C[i]? =some (own a c e sz es)) (k:es.length≤c→RJ E ops Q rest D L C):RJ E ops Q rest D L C:=fun act w hf hs=>
 k (Ad (hs.holds _ (aT hC))) act w hf hs
end
end
section
open Go.RowKit
def nt (m:aw) (a:RA):List av:=[own a.1 a.2 PF 2 (m.cv.ai.map aK.cells)]
def iz (m:List aw) (a:cK):List av:=own a.1.1 a.1.2 Cl 7 (List.zipWith aw.cells m a.2)::aW nt m a.2
theorem Rm: ∀ (m:aw) (a:RA) (w:World),(∀ X∈nt m a,X.holds w)→ ∀ X∈aw.gP m a,X.holds w:=fun m a w h X hX=>by
 simp only [aw.gP,bH] at hX
 subst hX
 have:=nZ (h _ (bH.2 rfl))
 simpa using this
theorem j9 {m:List aw} {asl:List RA} (h:asl.length=m.length):(List.zipWith aw.cells m asl).length=m.length:=by simp [h]
theorem du {m:List (List aw)} {asl:List cK} (h:asl.length=m.length):(List.zipWith cD m asl).length=m.length:=by simp [h]
theorem Nz {m:List aw} {asl:List RA}:(aW nt m asl).all (·.wr)=true:=by
 rw [cW]
 intro X hX
 obtain ⟨k,d,a,_,_,h⟩:=jJ hX
 simp only [nt,bH] at h
 subst h; rfl
theorem jZ {m:List (List aw)} {asl:List cK}:(br (aW iz m asl)).wr=true:=by
 show (aW iz m asl).all (·.wr)=true
 rw [cW]
 intro X hX
 obtain ⟨k,d,a,_,_,h⟩:=jJ hX
 rcases bu.1 h with rfl|h
 ·rfl
 ·exact cW.1 Nz X h
theorem GH (l:List aw) (az:List RA): ∀ v∈(List.zipWith aw.cells l az).flatten,v.oneCell'=true:=by
 induction l generalizing az with
 |nil=>intro v hv; simp at hv
 |cons x l ih=>
  cases az with
  |nil=>intro v hv; simp at hv
  |cons a az=>
   intro v hv
   rw [List.zipWith_cons_cons,List.flatten_cons,dM] at hv
   rcases hv with hv|hv
   ·simp [aw.cells,bq.cells,d_.cells,aa.cells] at hv
    rcases hv with rfl|rfl|rfl|rfl|rfl|rfl|rfl<;>rfl
   ·exact ih az v hv
theorem zN (l:List (List aw)) (az:List cK): ∀ v∈(List.zipWith cD l az).flatten,v.oneCell'=true:=by
 induction l generalizing az with
 |nil=>intro v hv; simp at hv
 |cons x l ih=>
  cases az with
  |nil=>intro v hv; simp at hv
  |cons a az=>
   intro v hv
   rw [List.zipWith_cons_cons,List.flatten_cons,dM] at hv
   rcases hv with hv|hv
   ·simp [cD] at hv; subst hv; rfl
   ·exact ih az v hv
/-- every heat has as many places as descents -/
def si (H:List (List aw)) (hz:List cK):Prop:=hz.length=H.length∧ ∀ (k:Nat) h (a:cK),H[k]? =some h→hz[k]? =some a→a.2.length=h.length
theorem O2 {a:OA} {c e sz n:Nat} {es:List (List Value)} {w:World} (h:(own a c e sz es).holds w) (hn:es.length=n):(rd a n sz es).holds w:=by subst hn; exact nZ h
theorem gM {C:List av} {H:List (List aw)} {hz:List cK} (i:Nat) (hC:C[i]? =some (br (aW iz H hz))) (hh:si H hz):iA C (e9 (aW iy H hz)).holds:=fun w hw X hX=>by
 have hb:=hw _ (aT hC)
 obtain ⟨k,m,a,A,B,D⟩:=jJ hX
 rcases bu.1 D with rfl|D
 ·exact O2 (hb.1 _ (bM A B cq)) (j9 (hh.2 k m a A B))
 ·obtain ⟨q,d,b,E,F,G⟩:=jJ D
  exact Rm d b w (fun Y hY=>hb.1 Y (bM A B (cV _ (bM E F hY)))) X G
section
variable {α:Type}
def jh (bz az:List α) (i:Nat):List α:=bz++az.drop i
variable {bz az:List α} {i:Nat} {a b:α}
theorem eJ (hb:bz.length=i) (hi:i≤az.length):(jh bz az i).length=az.length:=by simp [jh,hb]; omega
theorem qq (h:az.length≤i):jh bz az i=bz:=by unfold jh; rw [List.drop_eq_nil_of_le h,List.append_nil]
theorem uk (hb:bz.length=i) (h:az[i]? =some a):(jh bz az i)[i]? =some a:=by
 unfold jh
 rw [List.getElem?_append_right I,hb,Nat.sub_self,List.getElem?_drop]
 simpa using h
theorem Dg (hb:bz.length=i):(jh (bz++[b]) az (i+1))[i]? =some b:=by
 unfold jh
 rw [List.getElem?_append_left (by simp; omega),List.getElem?_append_right I,hb,Nat.sub_self]; rfl
theorem LQ (hb:bz.length=i) (h:az[i]? =some a):(jh bz az i).set i b=jh (bz++[b]) az (i+1):=by
 unfold jh
 have hi:=(aY.1 h).1
 rw [List.set_append_right _ _ I,hb,Nat.sub_self,List.drop_eq_getElem_cons hi,List.set_cons_zero]
 simp
theorem qL {M β:Type} {c:M→α→β} {l:List M} {x:M} (hx:l[i]? =some x) (hb:bz.length=i) (h:az[i]? =some a):(List.zipWith c l (jh bz az i)).set i (c x b)=List.zipWith c l (jh (bz++[b]) az (i+1)):=by
 rw [qS,LQ hb h]
 congr 1
 obtain ⟨hi,rfl⟩:=aY.1 hx
 exact List.set_getElem_self hi
theorem n8 {M:Type} {f:M→α→List av} {l:List M} {x:M} (hx:l[i]? =some x) (hb:bz.length=i):aW f (l.take i) bz++f x b=aW f (l.take (i+1)) (bz++[b]):=by
 have hi:=(aY.1 hx).1
 rw [List.take_add_one,hx,Option.toList_some,jB (by rw [List.length_take,hb]; omega)]
 simp [aW]
end
theorem Bx: ∀ {l:List (List aw)} {u v:List cK},u.map (·.1)=v.map (·.1)→List.zipWith cD l u=List.zipWith cD l v
 |[],u,v,_=>by simp
 |x::l,[],[],_=>rfl
 |x::l,[],b::v,h=>by simp at h
 |x::l,a::u,[],h=>by simp at h
 |x::l,a::u,b::v,h=>by
  simp only [List.map_cons,List.cons.injEq] at h
  rw [List.zipWith_cons_cons,List.zipWith_cons_cons,Bx h.2]
  have e:cD x a=cD x b:=by simp only [cD,h.1]
  rw [e]
theorem Df {l:List (List aw)} {hz ha:List cK} {p:RA} {x y:List RA} {i:Nat}:List.zipWith cD l (jh (hz++[(p,x)]) ha i)=List.zipWith cD l (jh (hz++[(p,y)]) ha i):=Bx (by simp [jh])
theorem Gi {H:List (List aw)} {hz:List cK} {i:Nat} {x:List aw} {b:cK} (hx:H[i]? =some x) (h: ∀ (k:Nat) y (a:cK),H[k]? =some y→hz[k]? =some a→a.2.length=y.length) (hb:hz.length=i) (hl:b.2.length=x.length): ∀ (k:Nat) y (a:cK),H[k]? =some y→(hz++[b])[k]? =some a→a.2.length=y.length:=fun k y a hy ha=>by
 by_cases e:k<hz.length
 ·rw [List.getElem?_append_left e] at ha
  exact h k y a hy ha
 ·rw [List.getElem?_append_right I] at ha
  have hk:k-hz.length=0:=by
   rcases Nat.eq_zero_or_pos (k-hz.length) with A|A
   ·exact A
   ·rw [List.getElem?_eq_none (by simp; omega)] at ha; cases ha
  rw [hk] at ha
  simp at ha
  have:k=i:=by omega
  subst this
  rw [hx] at hy; cases hy
  subst ha; exact hl
theorem Gs {S:BS} {w0 w:World} {C:List av} {A:av} {Y Z:List av} (h:St S w0 (A::br Y::br Z::C) w):St S w0 (br (Z++A::Y)::C) w:=by
 have D:St S w0 (br Y::A::br Z::C) w:=h.perm (List.Perm.swap _ _ _)
 have E:St S w0 (Y++(A::br Z::C)) w:=D.iK
 have F:St S w0 (br Z::(A::Y)++C) w:=E.perm (by
  have B:(Y++(A::br Z::C)).Perm ((A::br Z::C)++Y):=List.perm_append_comm
  refine B.trans ?_
  show (A::br Z::(C++Y)).Perm (br Z::A::(Y++C))
  exact (List.Perm.swap _ _ _).trans (((List.perm_append_comm (l₁:=C) (l₂:=Y)).cons A).cons _))
 have G:St S w0 (Z++((A::Y)++C)) w:=F.iK
 have H:St S w0 ((Z++A::Y)++C) w:=by simpa using G
 exact H.tied
theorem Hd {S:BS} {w0 w:World} {C:List av} {A:av} {Y Z:List av} (h:St S w0 (br (A::Y++Z)::C) w):St S w0 (A::br Y::br Z::C) w:=by
 have D:St S w0 ((A::Y++Z)++C) w:=h.iK
 have E:St S w0 (Z++(A::(Y++C))) w:=D.perm (by
  show (A::(Y++Z)++C).Perm (Z++(A::(Y++C)))
  have B:(A::(Y++Z)++C).Perm (A::(Z++(Y++C))):=by
   show (A::((Y++Z)++C)).Perm _
   refine List.Perm.cons A ?_
   rw [← List.append_assoc]
   exact List.perm_append_comm.append_right C
  exact B.trans (List.perm_middle (a:=A) (l₁:=Z) (l₂:=Y++C)).symm)
 have F:=E.tied
 have G:St S w0 (Y++(A::br Z::C)) w:=F.perm (by
  show (br Z::A::(Y++C)).Perm (Y++(A::br Z::C))
  have B:(Y++(A::br Z::C)).Perm (A::br Z::(Y++C)):=by
   have:=List.perm_append_comm (l₁:=Y) (l₂:=A::br Z::C)
   refine this.trans ?_
   show (A::br Z::(C++Y)).Perm _
   exact (List.perm_append_comm.cons _).cons _
  exact (B.trans (List.Perm.swap _ _ _)).symm)
 have H:=G.tied
 exact H.perm (List.Perm.swap _ _ _)
theorem w8 {H:List (List aw)} {hz:List cK} {k:Nat} {h:List aw} {a:cK} (hh:H[k]? =some h) (ha:hz[k]? =some a):(aW iz H hz).Perm (own a.1.1 a.1.2 Cl 7 (List.zipWith aw.cells h a.2)::aW nt h a.2++fM iz H hz k):=lp hh ha
theorem Qj {E:fq} {K:Act→World→Prop} {D:hP} {L:dh} {C:List av} {a:OA} {c e sz:Nat} {es:List (List Value)} (i:Nat) (hC:C[i]? =some (own a c e sz es)) (k:es.length≤c→KJ E K D L C):KJ E K D L C:=fun act w hf hs=>k (Ad (hs.holds _ (aT hC))) act w hf hs
abbrev NY (C:List av) (i j k:Nat):List Nat:=k::j::i::(List.range C.length).filter fun q=>q != i&&q != j&&q != k
section
variable {E:fq} {ops:Array Oper} {Q:df} {rest:List Oper} {D:List Deferred} {L:List (Nat×Value)} {C C1:List av} {K:Act→World→Prop}
variable {H:List (List aw)} {hz:List cK} {h h':List aw} {a a':cK} {k:Nat} {X:av} {Y Z Z':List av}
/-- i: the others, j: what hangs on the row, q: the row -/
theorem JF (i j q:Nat) (hn:decide (NY C i j q).Nodup=true) (hC:mo C (NY C i j q)=some (X::br Y::br Z::C1)) (e:Z++X::Y=Z') (hk:KJ E K D L (br Z'::C1)):KJ E K D L C:=fun a w hf hs=>by
 subst e; exact hk a w hf (Gs (St.kJ _ hn (jS hC) hs))
theorem QB {c:Code} (i:Nat) (hh:H[k]? =some h) (ha:hz[k]? =some a) (hn:decide (HR C i).Nodup=true) (hC:mo C (HR C i)=some (br (aW iz H hz)::C1))
 (hk:WJ E c Q D L (own a.1.1 a.1.2 Cl 7 (List.zipWith aw.cells h a.2)::br (aW nt h a.2)::br (fM iz H hz k)::C1)):WJ E c Q D L C:=fun act w hf hs=>
 hk act w hf (Hd (lj (w8 hh ha) (St.kJ _ hn (jS hC) hs)))
theorem Ld {S:BS} {w0 w:World} (hk:k<H.length) (hk2:k<hz.length) (hs:St S w0 (own a'.1.1 a'.1.2 Cl 7 (List.zipWith aw.cells h' a'.2)::br (aW nt h' a'.2)::br (fM iz H hz k)::C) w):St S w0 (br (aW iz (H.set k h') (hz.set k a'))::C) w:=by
 have B:=Gs hs
 refine lj ?_ B
 have A:=w8 (H:=H.set k h') (hz:=hz.set k a') (List.getElem?_set_self hk) (List.getElem?_set_self hk2)
 rw [sT] at A
 exact (List.perm_append_comm).trans A.symm
end
theorem Iv {H:List (List aw)} {hz:List cK} {k:Nat} {h h':List aw} {a:cK} {bs:List RA} (hh:H[k]? =some h) (ha:hz[k]? =some a) (hl:h'.length=h.length):List.zipWith cD (H.set k h') (hz.set k (a.1,bs))=List.zipWith cD H hz:=by
 rw [← qS]
 have e:cD h' (a.1,bs)=cD h a:=by simp only [cD,hl]
 rw [e]
 have hz':=dG (f:=cD) hh ha
 obtain ⟨hi,A⟩:=aY.1 hz'
 rw [← A]
 exact List.set_getElem_self hi
theorem OM {S:BS} {w0 w:World} {C:List av} {h:List aw} {bs:List RA} {i:Nat} {d:aw} {b:RA} {d':aw} (hd:h[i]? =some d) (hb:bs[i]? =some b) (hs':d'.cv.ai=[]) (hs:St S w0 (br (aW nt h bs)::C) w):St S w0 (br (aW nt (h.set i d') (bs.set i (none,0)))::C) w:=by
 have A:=(lj (lp hd hb) hs).iK
 have B:St S w0 (fM nt h bs i++C) w:=St.take (by simpa using A) (List.sublist_append_right (nt d b) (fM nt h bs i++C))
 have D:=B.rJ PF 2
 have E:St S w0 ((nt d' (none,0)++fM nt (h.set i d') (bs.set i (none,0)) i)++C) w:=by
  rw [sT]
  simpa [nt,hs'] using D
 exact lj (lp (List.getElem?_set_self (aY.1 hd).1) (List.getElem?_set_self (aY.1 hb).1)).symm E.tied
theorem fp.Nx {r:bY} {az bz:List RA} {ha hz:List cK} (h:fp r az ha) (hb:bz.length=r.an.ah.length) (hc:oD r.an.ah bz) (hh:si r.aq hz):fp r bz hz:=⟨h.line.Nx hb hc,h.jd,h.draw,h.iW,hh.1,fun k x a hx ha'=>by
 obtain ⟨A,C⟩: ∃ A,ha[k]? =some A:=⟨ha[k]'(by rw [h.has]; exact (aY.1 hx).1),fc _⟩
 have B:=h.m8 k x A hx C
 exact ⟨B.len,hh.2 k x a hx ha',B.sig⟩⟩
end
section
open Go.RowKit
def kZ (t:aa):aw:=⟨false,true,t,⟨0,0,[]⟩⟩
def g9 (H:List (List aw)) (h i:Int) (t:aa):List (List aw):=H.set h.toNat ((H[h.toNat]?.getD []).set i.toNat (kZ t))
def jN (r:bY) (h i:Int) (t:aa):bY:=⟨r.an,r.aM,r.bK,r.gX,g9 r.aq h i t⟩
@[simp] theorem Ry {r:bY} {h i:Int} {t:aa}:(jN r h i t).an=r.an:=rfl
@[simp] theorem P6 {r:bY} {h i:Int} {t:aa}:(jN r h i t).aM=r.aM:=rfl
@[simp] theorem Rt {r:bY} {h i:Int} {t:aa}:(jN r h i t).bK=r.bK:=rfl
theorem wS {m:g_} {i:Int} {s:aa}:(dI m i s).length≤m.length:=by
 unfold dI
 refine Nat.le_trans (List.length_filter_le _ _) ?_
 rw [List.length_map,List.length_range]; exact Nat.le_refl _
noncomputable def qE (r:bY) (h i:Int) (t:aa):Int:=if ((0≤h∧h≤(r.aq.length:Int)-1)∧q9 r i)∧iU t then (if ((r.aq[h.toNat]?).bind (·[i.toNat]?)).any (·.Out)=true then 8 else 0) else 2
noncomputable def g0 (r:bY) (h i:Int) (t:aa):Int:=if cM r=0 then qE r h i t else cM r
noncomputable def ff (r:bY) (h i:Int) (t:aa):List Int:=if g0 r h i t=0 then (dB ((aF r).map (·.1))).filter (fun k=> !decide (dI (aF r) k (aD (aF r) k)=dI (aF (jN r h i t)) k (aD (aF (jN r h i t)) k))) else []
section
variable {r:bY} {h i:Int} {t:aa} {ht:List aw} {d:aw}
theorem wm {H:List (List aw)} (hh:H[h.toNat]? =some ht):g9 H h i t=H.set h.toNat (ht.set i.toNat (kZ t)):=by unfold g9; rw [hh]; rfl
theorem jo {H:List (List aw)}:(g9 H h i t).length=H.length:=by unfold g9; rw [List.length_set]
theorem mI (q: ¬ (((0≤h∧h≤(r.aq.length:Int)-1)∧0≤i∧i≤(r.aM.length:Int)-1)∧iU t)):qE r h i t=2:=if_neg q
theorem GI (q:((0≤h∧h≤(r.aq.length:Int)-1)∧0≤i∧i≤(r.aM.length:Int)-1)∧iU t) (h1:r.aq[h.toNat]? =some ht) (h2:ht[i.toNat]? =some d):qE r h i t=if d.Out=true then 8 else 0:=by
 unfold qE
 rw [if_pos (show ((0≤h∧h≤(r.aq.length:Int)-1)∧q9 r i)∧iU t from q),h1,Option.bind_some,h2,Option.any_some]
theorem tS (q:((0≤h∧h≤(r.aq.length:Int)-1)∧0≤i∧i≤(r.aM.length:Int)-1)∧iU t) (h1:r.aq[h.toNat]? =some ht) (h2:ht[i.toNat]? =some d) (ho:d.Out=true):qE r h i t=8:=by rw [GI q h1 h2,if_pos ho]
theorem NK (q:((0≤h∧h≤(r.aq.length:Int)-1)∧0≤i∧i≤(r.aM.length:Int)-1)∧iU t) (h1:r.aq[h.toNat]? =some ht) (h2:ht[i.toNat]? =some d) (ho:d.Out=false):qE r h i t=0:=by rw [GI q h1 h2,if_neg (by rw [ho]; decide)]
/-- what it means that there is no error -/
theorem zy (e:qE r h i t=0):((0≤h∧h≤(r.aq.length:Int)-1)∧q9 r i)∧iU t∧((r.aq[h.toNat]?).bind (·[i.toNat]?)).any (·.Out)=false:=by
 unfold qE at e
 split at e
 ·rename_i q
  split at e
  ·cases e
  ·rename_i A; exact ⟨q.1,q.2,by simpa using A⟩
 ·cases e
theorem Dh (e:g0 r h i t=0):cM r=0∧qE r h i t=0:=by
 unfold g0 at e
 split at e
 ·exact ⟨asm,e⟩
 ·exact absurd e asm
theorem sQ (e: ¬ cM r=0):g0 r h i t=cM r:=if_neg e
theorem pg (e:cM r=0):g0 r h i t=qE r h i t:=if_pos e
theorem CO {H:List (List aw)} {k:Nat} {y:List aw} (hy:(g9 H h i t)[k]? =some y): ∃ x,H[k]? =some x∧y.length=x.length∧ ∀ d∈y,d∈x∨d=kZ t:=by
 unfold g9 at hy
 rw [List.getElem?_set] at hy
 split at hy
 ·rename_i e
  split at hy
  ·rename_i hl
   have A:H[h.toNat]? =some H[h.toNat]:=fc hl
   rw [A] at hy
   simp only [Option.getD_some,Option.some.injEq] at hy
   subst hy
   refine ⟨H[h.toNat],by rw [← e]; exact A,by rw [List.length_set],fun d hd=>?_⟩
   exact List.mem_or_eq_of_mem_set hd
  ·cases hy
 ·exact ⟨y,hy,U,fun d hd=> .inl hd⟩
theorem Ey (hr:fj r) (ht:iU t):fj (jN r h i t):=⟨hr.num,hr.xL,by
 have:=hr.nh
 show 1≤((g9 r.aq h i t).length:Int)∧((g9 r.aq h i t).length:Int)≤3
 rw [jo]; exact this,hr.ids,hr.draw,fun y hy=>by
 obtain ⟨k,hk⟩:=List.mem_iff_getElem?.1 hy
 obtain ⟨x,hx,hl,hm⟩:=CO hk
 have A:=hr.m8 x (aT hx)
 refine ⟨hl.trans A.1,fun d hd=>?_⟩
 rcases hm d hd with q|rfl
 ·exact A.2 d q
 ·unfold gV
  rw [if_neg (by simp [kZ]),if_pos (by rfl)]
  exact ⟨ht,by simp [mQ,kZ]⟩⟩
theorem ze (e:g0 r h i t=0):cM (jN r h i t)=0:=by
 obtain ⟨A,B⟩:=Dh e
 obtain ⟨C,D⟩:=ig A
 unfold cM
 rw [if_pos (show dD (jN r h i t).an=0 from C),if_pos (Ey D (zy B).2.1)]
theorem fp.rep {az bz:List RA} {ha hz:List cK} (hin:fp r az ha) (hb:bz.length=r.an.ah.length) (hc:oD r.an.ah bz) (hh:si (g9 r.aq h i t) hz):fp (jN r h i t) bz hz:=⟨hin.line.Nx hb hc,hin.jd,hin.draw,by
 show (g9 r.aq h i t).length≤1000000
 rw [jo]; exact hin.iW,hh.1,fun k y a hy ha'=>by
 obtain ⟨x,hx,hl,hm⟩:=CO hy
 obtain ⟨b,hb⟩: ∃ b,ha[k]? =some b:=⟨ha[k]'(by rw [hin.has]; exact (aY.1 hx).1),fc _⟩
 have A:=hin.m8 k x b hx hb
 refine ⟨by rw [hl]; exact A.len,hh.2 k y a hy ha',fun d hd=>?_⟩
 rcases hm d hd with q|rfl
 ·exact A.sig d q
 ·simp [kZ]⟩
theorem KZ {H:List (List aw)} {k q:Nat}:((g9 H h i t)[k]?).bind (·[q]?)=(H[k]?).bind (·[q]?)∨(k=h.toNat∧q=i.toNat∧(∃ d,(H[k]?).bind (·[q]?)=some d)∧((g9 H h i t)[k]?).bind (·[q]?)=some (kZ t)):=by
 by_cases e:h.toNat=k
 ·cases hk:H[k]? with
  |none=>
   left
   have:(g9 H h i t)[k]? =none:=by rw [List.getElem?_eq_none_iff,jo]; exact List.getElem?_eq_none_iff.1 hk
   rw [this]
  |some x=>
   have B:(g9 H h i t)[k]? =some (x.set i.toNat (kZ t)):=by
    subst e
    rw [wm hk]
    exact List.getElem?_set_self (aY.1 hk).1
   rw [B,Option.bind_some,Option.bind_some]
   by_cases A:i.toNat=q
   ·cases hq:x[q]? with
    |none=>
     left
     rw [List.getElem?_eq_none_iff,List.length_set]; exact List.getElem?_eq_none_iff.1 hq
    |some d=>
     right
     subst A
     exact ⟨e.symm,U,⟨d,U⟩,List.getElem?_set_self (aY.1 hq).1⟩
   ·left; rw [List.getElem?_set_ne A]
 ·left
  unfold g9
  rw [List.getElem?_set_ne e]
theorem yW {l:aX} {H:List (List aw)} {q:Nat} (ho:((H[h.toNat]?).bind (·[i.toNat]?)).any (·.Out)=false): ∀ n,(fI l (g9 H h i t) q n).isSome=(fI l H q n).isSome
 |0=>rfl
 |n+1=>by
  have ih:=yW (l:=l) (q:=q) ho n
  unfold fI
  rcases KZ (H:=H) (h:=h) (i:=i) (t:=t) (k:=n) (q:=q) with e|⟨rfl,rfl,⟨d,hd⟩,e⟩
  ·rw [e]
   cases e1:fI l (g9 H h i t) q n<;>cases e2:fI l H q n<;>simp_all
   cases (H[n]?).bind (·[q]?) with
   |none=>rfl
   |some d=>by_cases c:d.Out=true<;>simp [c]
  ·rw [e,hd]
   have A:d.Out=false:=by rw [hd] at ho; simpa using ho
   cases e1:fI l (g9 H h i t) i.toNat h.toNat<;>cases e2:fI l H i.toNat h.toNat<;>simp_all [kZ]
theorem KI {r:bY} {k:Nat} {x:Int}:(eP r k).lookup x=if 0≤x∧x<(r.aM.length:Int) then fI r.an r.aq x.toNat k else none:=by
 by_cases c:0≤x∧x<(r.aM.length:Int)
 ·rw [if_pos c]
  have:=rN (f:=fun q=>fI r.an r.aq q k) r.aM.length x.toNat
  rw [if_pos I,show (x.toNat:Int)=x by omega] at this
  exact this
 ·rw [if_neg c]
  cases e:(eP r k).lookup x with
  |none=>rfl
  |some v=>
   exfalso
   obtain ⟨q,hq,A,_⟩:=uS ((yd pT).2 e)
   simp only at A
   omega
theorem Mr (e:qE r h i t=0) (k:Int):((aF (jN r h i t)).lookup k).isSome=((aF r).lookup k).isSome:=by
 obtain ⟨_,_,ho⟩:=zy e
 unfold aF
 rw [KI,KI]
 show (if 0≤k∧k<(r.aM.length:Int) then fI r.an (g9 r.aq h i t) k.toNat (g9 r.aq h i t).length else none).isSome=_
 rw [jo]
 split
 ·exact yW ho _
 ·rfl
theorem B6 {m:g_} {k:Int} (h:k∈dB (m.map (·.1))):m.lookup k≠none:=by
 obtain ⟨p,hp,rfl⟩:=bX.1 (fT.mem_iff.1 h)
 intro e
 exact absurd (List.lookup_eq_none_iff.1 e p hp) sm
theorem QV {hz:List cK} {hza:cK} (hh:si r.aq hz) (h1:r.aq[h.toNat]? =some ht) (h2:hz[h.toNat]? =some hza):si (g9 r.aq h i t) (hz.set h.toNat (hza.1,hza.2.set i.toNat (none,0))):=by
 refine ⟨by rw [List.length_set,jo]; exact hh.1,fun k y a hy ha=>?_⟩
 rw [wm h1] at hy
 rw [List.getElem?_set] at hy ha
 by_cases e:h.toNat=k
 ·rw [if_pos e,if_pos (aY.1 h1).1] at hy
  rw [if_pos e,if_pos (aY.1 h2).1] at ha
  cases hy; cases ha
  simp only [List.length_set]
  exact hh.2 _ _ _ h1 h2
 ·rw [if_neg e] at hy ha
  exact hh.2 k y a hy ha
theorem yi (e: ¬ g0 r h i t=0):ff r h i t=[]:=if_neg e
theorem D2 (e:g0 r h i t=0):ff r h i t=(dB ((aF r).map (·.1))).filter (fun k=> !decide (dI (aF r) k (aD (aF r) k)=dI (aF (jN r h i t)) k (aD (aF (jN r h i t)) k))):=if_pos e
end
section
variable {E:fq} {Q:df} {D:List Deferred} {L:List (Nat×Value)} {C C1:List av} {c:Code}
variable {H:List (List aw)} {hz:List cK} {h h':List aw} {a a':cK} {k:Nat} {bs:List RA} {i:Nat} {d d':aw} {b:RA}
theorem Rc (j:Nat) (hd:h[i]? =some d) (hb:bs[i]? =some b) (hs':d'.cv.ai=[]) (hn:decide (HR C j).Nodup=true) (hC:mo C (HR C j)=some (br (aW nt h bs)::C1))
 (hk:WJ E c Q D L (br (aW nt (h.set i d') (bs.set i (none,0)))::C1)):WJ E c Q D L C:=fun act w hf hs=>hk act w hf (OM hd hb hs' (St.kJ _ hn (jS hC) hs))
theorem N6 (i j q:Nat) (hk:k<H.length) (hk2:k<hz.length) (hn:decide (NY C i j q).Nodup=true) (hC:mo C (NY C i j q)=some (own a'.1.1 a'.1.2 Cl 7 (List.zipWith aw.cells h' a'.2)::br (aW nt h' a'.2)::br (fM iz H hz k)::C1))
 (hr:WJ E c Q D L (br (aW iz (H.set k h') (hz.set k a'))::C1)):WJ E c Q D L C:=fun act w hf hs=>hr act w hf (Ld hk hk2 (St.kJ _ hn (jS hC) hs))
end
end
section
set_option maxRecDepth 20000
def BF (x y:Int):aw:=kZ ⟨x,y⟩
def aO:bY:=⟨nq,[4,7,9],[2,0,1],2,[[⟨false,false,dJ,mT⟩,BF 2600 2600,BF 2580 2609],[BF 2555 2559,BF 2540 2549,BF 2570 2575]]⟩
theorem Ba {l:aX} {x y:Int} (h:iU ⟨x,y⟩):gV l (BF x y):=by rw [qv ⟨rfl,rfl⟩]; exact ⟨h,rfl,rfl,rfl⟩
theorem Rg:fj aO:=by
 refine ⟨dc,dc,dc,fun i x hx=>?_,dc,fun h hh=>?_⟩
 ·match i with
  |0=>simp [aO] at hx; subst hx; exact ⟨dc,fun y h=>absurd h dc⟩
  |1=>simp [aO] at hx; subst hx; exact ⟨dc,fun y _ h=>by simp [aO] at h; omega⟩
  |2=>simp [aO] at hx; subst hx; exact ⟨dc,fun y _ h=>by simp [aO] at h; omega⟩
  |n+3=>simp [aO] at hx
 ·simp only [aO,bu,List.not_mem_nil,or_false] at hh
  rcases hh with rfl|rfl
  ·refine ⟨U,fun d hd=>?_⟩
   simp only [bu,List.not_mem_nil,or_false] at hd
   rcases hd with rfl|rfl|rfl
   ·rw [qD ⟨rfl,rfl⟩]; exact ⟨EC.1,rfl⟩
   ·exact Ba dc
   ·exact Ba dc
  ·refine ⟨U,fun d hd=>?_⟩
   simp only [bu,List.not_mem_nil,or_false] at hd
   rcases hd with rfl|rfl|rfl<;>exact Ba dc
theorem qM:cM aO=0:=by unfold cM; rw [if_pos (show dD aO.an=0 from Pa),if_pos Rg]
theorem PN:ke aO 0 0=0∧hZ aO 0 0=⟨2596,2602⟩:=by
 have h:ke aO 0 0=0:=by unfold ke; rw [if_pos qM]; decide
 refine ⟨h,?_⟩
 unfold hZ
 rw [if_pos h]
 show dE nq ⟨false,false,dJ,mT⟩=_
 rw [rq ⟨rfl,rfl⟩]; exact EC.2
/-- the sums of a race of three sleds and two heats, all of which run -/
theorem L_ {l:aX} {ids dr:List Int} {t:Int} {H:List (List aw)} {a b c d e f:aw} (hH:H=[[a,b,c],[d,e,f]]) (hi:ids.length=3) (hoa: ∀ x∈[a,b,c,d,e,f],x.Out=false):
 aF ⟨l,ids,dr,t,H⟩=[(0,⟨(dE l a).Lo/10+(dE l d).Lo/10,(dE l a).Hi/10+(dE l d).Hi/10⟩),(1,⟨(dE l b).Lo/10+(dE l e).Lo/10,(dE l b).Hi/10+(dE l e).Hi/10⟩),(2,⟨(dE l c).Lo/10+(dE l f).Lo/10,(dE l c).Hi/10+(dE l f).Hi/10⟩)]∧
 eP ⟨l,ids,dr,t,H⟩ 1=[(0,⟨(dE l a).Lo/10,(dE l a).Hi/10⟩),(1,⟨(dE l b).Lo/10,(dE l b).Hi/10⟩),(2,⟨(dE l c).Lo/10,(dE l c).Hi/10⟩)]:=by
 subst hH
 simp only [bu,List.not_mem_nil,or_false,forall_eq_or_imp,forall_eq] at hoa
 obtain ⟨A,B,C,D,E,F⟩:=hoa
 simp [aF,eP,hi,List.range_succ,fI,A,B,C,D,E,F]
def Og:g_:=[(0,⟨514,515⟩),(1,⟨514,514⟩),(2,⟨515,517⟩)]
def Ol:g_:=[(0,⟨514,515⟩),(1,⟨514,514⟩),(2,⟨516,516⟩)]
def S8:g_:=[(0,⟨259,260⟩),(1,⟨260,260⟩),(2,⟨258,260⟩)]
theorem Aa:dE nq ⟨false,false,dJ,mT⟩=⟨2596,2602⟩:=by rw [rq ⟨rfl,rfl⟩]; exact EC.2
theorem qj {l:aX} {x y:Int}:dE l (BF x y)=⟨x,y⟩:=tP ⟨rfl,rfl⟩
theorem vG:aF aO=Og∧eP aO 1=S8:=by
 obtain ⟨A,B⟩:=L_ (l:=nq) (ids:=[4,7,9]) (dr:=[2,0,1]) (t:=2) (H:=aO.aq) rfl rfl dc
 refine ⟨A.trans ?_,B.trans ?_⟩
 ·rw [Aa,qj,qj,qj,qj,qj]; rfl
 ·rw [Aa,qj,qj]; rfl
def lx:bY:=jN aO 0 2 ⟨2590,2599⟩
theorem Cw:g0 aO 0 2 ⟨2590,2599⟩=0:=by unfold g0; rw [if_pos qM]; unfold qE; decide
theorem xE:cM lx=0:=ze Cw
theorem JN:aF lx=Ol:=by
 obtain ⟨A,B⟩:=L_ (l:=nq) (ids:=[4,7,9]) (dr:=[2,0,1]) (t:=2) (H:=lx.aq) (a:=⟨false,false,dJ,mT⟩) (b:=BF 2600 2600) (c:=BF 2590 2599) (d:=BF 2555 2559) (e:=BF 2540 2549) (f:=BF 2570 2575) rfl rfl dc
 refine A.trans ?_
 rw [Aa,qj,qj,qj,qj,qj]; rfl
/-- ranks, as they can be reckoned -/
def Eu (m:g_) (i:Int) (own:aa):List Int:=((List.range m.length).map fun (k:Nat)=>(k:Int)+1).filter fun k=>(jU m i own).any fun n=>decide ((ij m i n:Int)+1≤k∧k≤(kv m i n:Int)+1)
theorem Gz {m:g_} {i:Int} {own:aa}:dI m i own=Eu m i own:=by
 unfold dI Eu
 congr 1
 funext k
 rw [Bool.eq_iff_iff,decide_eq_true_eq,List.any_eq_true]
 simp only [decide_eq_true_eq,sS]
theorem Aw {r:bY} {m:g_} {i:Int} {s:aa} (he:cM r=0) (hm:aF r=m) (hi:q9 r i) (hl:m.lookup i=some s):jR r i=0∧r8 r i=s∧fV r i=Eu m i s:=by
 have h:jR r i=0:=by unfold jR; rw [if_pos he,if_pos hi,hm,hl]; rfl
 refine ⟨h,?_,?_⟩
 ·unfold r8 aD; rw [if_pos h,hm,hl]; rfl
 ·unfold fV aD; rw [if_pos h,hm,hl,Gz]; rfl
theorem Gq {r:bY} {m:g_} {a b:Int} {s t:aa} (he:cM r=0) (hm:aF r=m) (hi:q9 r a∧q9 r b∧a≠b) (hs:m.lookup a=some s) (ht:m.lookup b=some t):n7 r a b=0∧v7 r a b=CS s t∧qC r a b=sE s t:=by
 have h:n7 r a b=0:=by unfold n7; rw [if_pos he,if_pos hi,hm,hs,ht]; simp
 refine ⟨h,?_,?_⟩
 ·unfold v7 aD; rw [if_pos h,hm,hs,ht]; rfl
 ·unfold qC aD; rw [if_pos h,hm,hs,ht]; rfl
theorem mM:jR aO 0=0∧r8 aO 0=⟨514,515⟩∧fV aO 0=[1,2]:=by have h:=Aw (i:=0) (s:=⟨514,515⟩) qM vG.1 dc rfl; exact ⟨h.1,h.2.1,h.2.2.trans dc⟩
theorem CT:jR aO 2=0∧r8 aO 2=⟨515,517⟩∧fV aO 2=[2,3]:=by have h:=Aw (i:=2) (s:=⟨515,517⟩) qM vG.1 dc rfl; exact ⟨h.1,h.2.1,h.2.2.trans dc⟩
theorem Le:jR lx 2=0∧r8 lx 2=⟨516,516⟩:=by have h:=Aw (i:=2) (s:=⟨516,516⟩) xE JN dc rfl; exact ⟨h.1,h.2.1⟩
theorem As:n7 aO 1 2=0∧v7 aO 1 2=2∧qC aO 1 2=0:=by have h:=Gq (a:=1) (b:=2) (s:=⟨514,514⟩) (t:=⟨515,517⟩) qM vG.1 dc rfl rfl; exact ⟨h.1,h.2.1.trans dc,h.2.2.trans dc⟩
theorem AM:n7 aO 0 1=0∧v7 aO 0 1=0∧qC aO 0 1=1:=by have h:=Gq (a:=0) (b:=1) (s:=⟨514,515⟩) (t:=⟨514,514⟩) qM vG.1 dc rfl rfl; exact ⟨h.1,h.2.1.trans dc,h.2.2.trans dc⟩
theorem KA:ji aO 1=0∧iq aO 1=[0,2,1]:=by
 have h:ji aO 1=0:=by unfold ji; rw [if_pos qM]; decide
 refine ⟨h,?_⟩
 unfold iq
 rw [if_pos h,if_neg dc]
 unfold uB
 rw [show eP aO (1:Int).toNat=S8 from vG.2]
 decide
theorem JA:ji aO 2=0∧iq aO 2=[0,1,2]:=by
 have h:ji aO 2=0:=by unfold ji; rw [if_pos qM]; decide
 refine ⟨h,?_⟩
 unfold iq
 rw [if_pos h,if_neg dc]
 unfold uB
 rw [show eP aO (2:Int).toNat=Og from vG.1]
 decide
theorem Ox:dU aO=[[0,1,2]]:=by
 refine (uq qM ?_ ?_).symm
 ·rw [vG.1]
  refine ⟨dc,dc,sm,fun g hg t A B=>?_⟩
  rw [bH.1 hg] at A B ⊢
  simp [Og,aD,List.lookup] at A B ⊢
  omega
 ·intro g hg; rw [bH.1 hg]; decide
theorem Kh:dU lx=[[0,1],[2]]:=by
 refine (uq xE ?_ ?_).symm
 ·rw [JN]
  refine ⟨dc,dc,?_,fun g hg t A B=>?_⟩
  ·simp [LI,Ol,aD,List.lookup]
  ·simp only [bu,List.not_mem_nil,or_false] at hg
   rcases hg with rfl|rfl<;>(simp [Ol,aD,List.lookup] at A B ⊢; omega)
 ·intro g hg; simp only [bu,List.not_mem_nil,or_false] at hg; rcases hg with rfl|rfl<;>decide
theorem Nw:ff aO 0 2 ⟨2590,2599⟩=[2]:=by
 unfold ff
 rw [if_pos Cw,vG.1,show aF (jN aO 0 2 ⟨2590,2599⟩)=Ol from JN]
 simp only [Gz]
 rw [show dB (Og.map (·.1))=[0,1,2] from vN (n:=3) dc]
 decide
end
section
open Go.RowKit
section
variable {E:fq} {ops:Array Oper} {Q:df} {rest:List Oper} {D:List Deferred} {L:List (Nat×Value)} {C C1:List av}
end
theorem BP {C:List av}: ∀ {a b:List Nat} {X Y:List av},mo C a=some X→mo C b=some Y→mo C (a++b)=some (X++Y)
 |[],b,X,Y,h,h2=>by cases h; exact h2
 |i::a,b,X,Y,h,h2=>by
  unfold mo at h
  split at h
  ·rename_i A hA
   split at h
   ·rename_i l hl
    cases h
    have ih:=BP hl h2
    show (match C[i]? with
     |some A=>match mo C (a++b) with
      |some l=>some (A::l)
      |none=>none
     |none=>none)=_
    rw [hA,ih]; rfl
   ·cases h
  ·cases h
theorem uA {E:fq} {ops:Array Oper} {Q:df} {rest:List Oper} {D:hP} {L:dh} {C C1:List av} (X:List av) (i1 i2:List Nat) (h1:mo C i1=some X) (h2:mo C i2=some C1) (h:RJ E ops Q rest D L (br X::C1)) (hn:decide (i1++i2).Nodup=true:=by rfl):RJ E ops Q rest D L C:=fun a w hf hs=>h a w hf (St.tied (St.kJ _ hn (jS (BP h1 h2)) hs))
theorem qG {E:fq} {ops:Array Oper} {Q:df} {rest:List Oper} {D:hP} {L:dh} {C C1:List av} (ix:List Nat) (hn:decide ix.Nodup=true) (hC:mo C ix=some C1) (h:RJ E ops Q rest D L C1):RJ E ops Q rest D L C:=fun a w hf hs=>h a w hf (St.kJ _ hn (jS hC) hs)
theorem o5 {M A B:Type} {f:M→A→List B} {n:Nat} (h: ∀ m a,(f m a).length=n): ∀ {ms:List M} {asl:List A},∀ x∈List.zipWith f ms asl,x.length=n
 |[],asl,x,hx=>by simp at hx
 |m::ms,[],x,hx=>by simp at hx
 |m::ms,a::asl,x,hx=>by
  rw [List.zipWith_cons_cons] at hx
  rcases bu.1 hx with rfl|hx
  ·exact h m a
  ·exact o5 h x hx
theorem GF (m:aw) (a:RA):(aw.cells m a).length=7:=rfl
theorem JV (m:List aw) (a:cK):(cD m a).length=1:=rfl
theorem I9 (m:List Int) (a:RA):(nx m a).length=1:=rfl
def TK:List aw:=[⟨false,false,dJ,mT⟩,BF 2600 2600,BF 2580 2609]
def TO:List aw:=[BF 2555 2559,BF 2540 2549,BF 2570 2575]
theorem IS {p q s t u v x y:RA}:si aO.aq [(p,[s,t,u]),(q,[v,x,y])]:=⟨rfl,fun k h a hk ha=>by
 match k with
 |0=>simp [aO] at hk ha; subst hk; subst ha; rfl
 |1=>simp [aO] at hk ha; subst hk; subst ha; rfl
 |n+2=>simp at ha⟩
theorem Ro {bz:List RA} {hz:List cK} (h:ew nq bz) (hh:si aO.aq hz):fp aO bz hz:=⟨h,dc,dc,dc,hh.1,fun k x a hx ha=>by
 have hm:=aT hx
 have hs:=hh.2 k x a hx ha
 simp only [aO,bu,List.not_mem_nil,or_false] at hm
 rcases hm with rfl|rfl
 ·exact ⟨dc,hs,dc⟩
 ·exact ⟨dc,hs,dc⟩⟩
end
section
open Go.RowKit
def ql (b:Bool):List Value:=[.bool b]
@[simp] theorem Be (b:Bool):(ql b).length=1:=rfl
theorem HG (l:List Bool): ∀ v∈(l.map ql).flatten,v.oneCell'=true:=mP (fun s=>rfl) l
end
section
def mg (r:bY) (i:Nat):Prop:= ∀ (j:Nat) x,j<i→r.aq[j]? =some x→ ¬ o3 x
def ny (x:List aw) (i:Nat):Prop:= ∀ (j:Nat) d,j<i→x[j]? =some d→ ¬ 15<(d.cv.ai.length:Int)
section
variable {r:bY} {i:Nat} {x:List aw} {d:aw}
theorem CX:mg r 0:=fun j x hj=>absurd hj (Nat.not_lt_zero _)
theorem Ce (h:mg r i) (hx:r.aq[i]? =some x) (ho: ¬ o3 x):mg r (i+1):=fun j y hj hy=>by
 rcases Nat.lt_or_ge j i with q|q
 ·exact h j y q hy
 ·obtain rfl:j=i:=by omega
  rw [hx] at hy; cases hy; exact ho
theorem CK:ny x 0:=fun j x hj=>absurd hj (Nat.not_lt_zero _)
theorem Cu (h:ny x i) (hx:x[i]? =some d) (ho: ¬ 15<(d.cv.ai.length:Int)):ny x (i+1):=fun j y hj hy=>by
 rcases Nat.lt_or_ge j i with q|q
 ·exact h j y q hy
 ·obtain rfl:j=i:=by omega
  rw [hx] at hy; cases hy; exact ho
theorem DU (hl: ¬ 8<(x.length:Int)) (h:ny x i) (hi:x.length≤i): ¬ o3 x:=by
 rintro (q|⟨d,hd,q⟩)
 ·exact hl q
 ·obtain ⟨j,hj⟩:=List.getElem?_of_mem hd
  exact h j d (by have:=(aY.1 hj).1; omega) hj q
theorem G_ (h1: ¬ lX r.an) (h2: ¬ 8<(r.aM.length:Int)∧ ¬ 8<(r.bK.length:Int)∧ ¬ 5<(r.aq.length:Int)) (h:mg r i) (hi:r.aq.length≤i): ¬ nR r:=by
 rintro ((q|q)|⟨x,hx,q⟩)
 ·exact h1 q
 ·omega
 ·obtain ⟨j,hj⟩:=List.getElem?_of_mem hx
  exact h j x (by have:=(aY.1 hj).1; omega) hj q
theorem pW (h:lX r.an∨8<(r.aM.length:Int)∨8<(r.bK.length:Int)∨5<(r.aq.length:Int)):nR r:= .inl h
theorem Cf (hx:r.aq[i]? =some x) (h:8<(x.length:Int)):nR r:= .inr ⟨x,aT hx,.inl h⟩
theorem Er {j:Nat} (hx:r.aq[i]? =some x) (hd:x[j]? =some d) (h:15<(d.cv.ai.length:Int)):nR r:= .inr ⟨x,aT hx,.inr ⟨d,aT hd,h⟩⟩
end
noncomputable def ph (l:aX) (d:aw):aa:=if d.Out=true then dJ else dE l d
theorem LO {l:aX} {d:aw} (h:gV l d):ph l d=dE l d:=by
 unfold ph
 split
 ·rename_i q
  rw [FJ q]
  rw [q8 q] at h
  exact h.2.1.symm
 ·rfl
theorem Bb {l:aX} {d:aw} (h:d.Out=true):ph l d=dJ:=if_pos h
theorem GB {l:aX} {d:aw} (h:d.Out=false∧d.eV=true):ph l d=d.Time:=by unfold ph; rw [if_neg (by rw [h.1]; decide),tP h]
theorem GO {l:aX} {d:aw} (h:d.Out=false∧d.eV=false):ph l d=se l d.cv:=by unfold ph; rw [if_neg (by rw [h.1]; decide),rq h]
def TS (r:bY) (j:Nat):Prop:= ∀ x,r.aM[j]? =some x→(0≤x∧x≤9999)∧ ∀ y,0<j→r.aM[j-1]? =some y→y<x
def I6 (r:bY) (j:Nat):Prop:= ∀ x,r.bK[j]? =some x→(0≤x∧x≤(r.aM.length:Int)-1)∧ ∀ (k:Nat) y,k<j→r.bK[k]? =some y→y≠x
def xq (r:bY) (i:Nat):Prop:= ∀ j,j<i→TS r j∧I6 r j
section
variable {r:bY} {i k:Nat} {x:Int}
theorem KP:xq r 0:=fun j hj=>absurd hj (Nat.not_lt_zero _)
theorem De (h:xq r i) (h1:TS r i) (h2:I6 r i):xq r (i+1):=fun j hj=>by
 rcases Nat.lt_or_ge j i with q|q
 ·exact h j q
 ·obtain rfl:j=i:=by omega
  exact ⟨h1,h2⟩
theorem xX {l:List Int} {u v:Int} (h: ∀ (q:Nat) y,q<k→l[q]? =some y→y≠v) (hx:l[k]? =some u) (hne: ¬ u=v): ∀ (q:Nat) y,q<k+1→l[q]? =some y→y≠v:=fun q y hq hy=>by
 rcases Nat.lt_or_ge q k with c|c
 ·exact h q y c hy
 ·obtain rfl:q=k:=by omega
  rw [hx] at hy; cases hy; exact hne
theorem KH (hl:r.bK.length=r.aM.length) (h:xq r r.aM.length):r.bK.Perm (GV r.aM.length):=by
 have nd:r.bK.Nodup:=by
  rw [List.nodup_iff_pairwise_ne,eQ]
  intro a b ha hb A
  exact ((h b I).2 _ (fc hb)).2 a _ A (fc ha)
 have hm: ∀ x∈r.bK,x∈GV r.aM.length:=fun x hx=>by
  obtain ⟨j,hj⟩:=List.getElem?_of_mem hx
  have:=((h j (by have:=(aY.1 hj).1; omega)).2 x hj).1
  exact bX.2 ⟨x.toNat,List.mem_range.2 I,I⟩
 have ndu:(GV r.aM.length).Nodup:=by
  unfold GV
  rw [List.nodup_iff_pairwise_ne,List.pairwise_map]
  exact List.pairwise_lt_range.imp fun h=>by omega
 have e:dB r.bK=(GV r.aM.length).filter fun x=>decide (x∈r.bK):=by
  refine ru lI ((xW _).filter _) (fT.nodup_iff.2 nd) (ndu.filter _) fun x=>?_
  rw [fT.mem_iff,List.mem_filter,decide_eq_true_eq]
  exact ⟨fun q=>⟨hm x q,q⟩,fun q=>q.2⟩
 have B:=congrArg List.length e
 rw [gI,hl] at B
 have C:(GV r.aM.length).filter (fun x=>decide (x∈r.bK))=GV r.aM.length:=List.filter_sublist.eq_of_length (by rw [← B]; simp)
 rw [C] at e
 rw [← e]; exact fT.symm
theorem G3 {n:Nat} (h1:1≤(r.aM.length:Int)∧(r.aM.length:Int)≤5) (h2:r.bK.length=r.aM.length) (h3:0≤r.gX∧r.gX≤5) (h4:1≤(r.aq.length:Int)∧(r.aq.length:Int)≤3)
 (hn:n=r.aM.length) (h6:xq r n) (h7:ks r i) (hi:r.aq.length≤i):fj r:=by
 subst hn
 refine ⟨h1,h3,h4,fun k x hx=>(h6 k (aY.1 hx).1).1 x hx,KH h2 h6,fun h hh=>?_⟩
 obtain ⟨j,hj⟩:=List.getElem?_of_mem hh
 exact h7 j h (by have:=(aY.1 hj).1; omega) hj
theorem fj.KY (h:fj r) (hx:r.bK[i]? =some x):0≤x∧x≤(r.aM.length:Int)-1:=by
 obtain ⟨k,hk,rfl⟩:=bX.1 (h.draw.mem_iff.1 (aT hx))
 have:=List.mem_range.1 hk
 omega
theorem fj.P8 (h:fj r):r.bK.Nodup:=by
 refine h.draw.nodup_iff.2 ?_
 rw [List.nodup_iff_pairwise_ne,List.pairwise_map]
 exact List.pairwise_lt_range.imp fun h=>by omega
theorem fj.Re (h:fj r) {u v:Int} (hki:k<i) (hu:r.bK[k]? =some u) (hv:r.bK[i]? =some v): ¬ u=v:=by
 have A:=h.P8
 rw [List.nodup_iff_pairwise_ne,eQ] at A
 obtain ⟨a,ea⟩:=aY.1 hu
 obtain ⟨b,eb⟩:=aY.1 hv
 subst ea eb
 exact A k i a b hki
end
section
variable {r:bY} {i k n:Nat} {s:aa} {l:aX} {hs:List (List aw)}
end
section
variable {r:bY} {i x:Int} {own s:aa} {k:Nat} {ys zs:List Int}
end
section
variable {B:List Bool} {P Q:Int→Prop} {k x:Nat} {m:g_} {i y a b:Int} {ys:List Int}
end
theorem tf {r:bY} {i:Int}:(fV r i).length≤r.aM.length:=by
 unfold fV
 split
 ·unfold dI
  refine Nat.le_trans (List.length_filter_le _ _) ?_
  rw [List.length_map,List.length_range]
  exact uW
 ·simp
end
section
theorem tQ: ∀ {m:g_} {a:Int} {s:aa},m.lookup a=some s→(a,s)∈m
 |[],a,s,h=>by cases h
 |(b,u)::m,a,s,h=>by
  by_cases e:a=b
  ·subst e
   simp [List.lookup] at h; subst h; exact cq
  ·have:(a==b)=false:=by simpa using e
   simp only [List.lookup,this] at h
   exact cV _ (tQ h)
theorem tn: ∀ {m:g_} {a:Int} {s:aa},(m.map (·.1)).Nodup→(a,s)∈m→m.lookup a=some s
 |[],a,s,_,h=>by cases h
 |(b,u)::m,a,s,hn,h=>by
  rw [List.map_cons,List.nodup_cons] at hn
  rcases bu.1 h with e|h
  ·cases e; simp [List.lookup]
  ·have e:a≠b:=fun e=>hn.1 (by rw [← e]; exact List.mem_map_of_mem (f:=(·.1)) h)
   have:(a==b)=false:=by simpa using e
   simp only [List.lookup,this]
   exact tn hn.2 h
/-- sums, each of another sled -/
structure k7 (m:g_):Prop where
 nd:(m.map (·.1)).Nodup
 le: ∀ p∈m,p.2.Lo≤p.2.Hi
theorem AZ {r:bY} (h:cM r=0):k7 (aF r):=⟨pT,fun p hp=>(oh h p hp).2.1⟩
section
variable {m:g_} {a b i n:Int} {s t own:aa}
theorem k7.at (h:k7 m) (hs:m.lookup a=some s):s.Lo≤s.Hi:=h.le _ (tQ hs)
theorem k7.one (h:k7 m) (hs:m.lookup a=some s) {p:Int×aa} (hp:p∈m) (e:p.1=a):p.2=s:=by
 obtain ⟨x,y⟩:=p
 cases e
 have:=tn h.nd hp
 rw [hs] at this; cases this; rfl
theorem k7.sm (h:k7 m):ij m i n≤kv m i n:=by
 rw [mz,oU]
 refine List.countP_mono_left fun p hp q=>?_
 have:=h.le p hp
 simp only [cS,decide_eq_true_eq] at q ⊢
 exact ⟨I,q.2⟩
theorem BY (h:k7 m) (hs:m.lookup i=some s):(ij m i s.Lo:Int)+1∈dI m i s:=by
 have A:=h.at hs
 have B:=h.sm (i:=i) (n:=s.Lo)
 exact (rK (by rw [hs]; simp)).2 ((qz A).2 ⟨s.Lo,Int.le_refl _,A,Int.le_refl _,I⟩)
theorem Eb (h:k7 m) (hs:m.lookup i=some s):dI m i s≠[]:=fun e=>by have:=BY h hs; rw [e] at this; cases this
/-- who is surely tied has the same ranks -/
theorem HD (h:k7 m) (hs:m.lookup a=some s) (ht:m.lookup b=some s) (he:s.Lo=s.Hi):dI m a s=dI m b s:=by
 have C:ij m a s.Lo=ij m b s.Lo:=by
  rw [mz,mz]
  apply List.countP_congr
  intro p hp
  simp only [cS,decide_eq_true_eq,Bool.not_eq_true',decide_eq_false_iff_not]
  exact ⟨fun q=>⟨q.1,fun e=>by have:=h.one ht hp e; rw [this] at q; omega⟩,fun q=>⟨q.1,fun e=>by have:=h.one hs hp e; rw [this] at q; omega⟩⟩
 have D:kv m a s.Lo=kv m b s.Lo:=by
  rw [oU,oU]
  apply List.countP_congr
  intro p hp
  simp only [cS,decide_eq_true_eq,Bool.not_eq_true',decide_eq_false_iff_not]
  exact ⟨fun q=>⟨q.1,fun e=>by have:=h.one ht hp e; rw [this] at q; omega⟩,fun q=>⟨q.1,fun e=>by have:=h.one hs hp e; rw [this] at q; omega⟩⟩
 unfold dI
 congr 1
 funext k
 rw [gO,qz (h.at hs),qz (h.at hs)]
 constructor<;>rintro ⟨x,A,B,E,F⟩<;>(have:x=s.Lo:=by omega)<;>subst this<;>exact ⟨s.Lo,A,B,I,I⟩
end
section
variable {r:bY} {a b i:Int} {s t:aa}
/-- what is known of two sleds that have sums -/
structure Px (r:bY) (a b:Int) (s t:aa):Prop where
 ne:a≠b
 Ra:k7 (aF r)
 sa:(aF r).lookup a=some s
 sb:(aF r).lookup b=some t
 ea:jR r a=0
 eb:jR r b=0
 va:r8 r a=s
 vb:r8 r b=t
 ra:fV r a=dI (aF r) a s
 rb:fV r b=dI (aF r) b t
 V8:v7 r a b=CS s t
 I4:v7 r b a=CS t s
 tied:qC r a b=sE s t
theorem FW (he:cM r=0) (hi:q9 r i) (hl:(aF r).lookup i=some s):jR r i=0∧r8 r i=s∧fV r i=dI (aF r) i s:=by
 have h:jR r i=0:=by unfold jR; rw [if_pos he,if_pos hi,hl]; rfl
 have A:aD (aF r) i=s:=by unfold aD; rw [hl]; rfl
 exact ⟨h,by unfold r8; rw [if_pos h,A],by rw [yR h,A]⟩
theorem Px.tie (h:Px r a b s t) (e:qC r a b=2):s=t∧s.Lo=s.Hi∧fV r a=fV r b∧v7 r a b=0∧v7 r b a=0:=by
 rw [h.tied] at e
 unfold sE at e
 split at e
 ·rename_i q
  obtain ⟨rfl,q⟩:=q
  have hb:CS s s=0:=by unfold CS; rw [if_neg I,if_neg I]
  exact ⟨U,q,by rw [h.ra,h.rb,HD h.Ra h.sa h.sb q],h.V8.trans hb,h.I4.trans hb⟩
 ·split at e<;>cases e
end
end
section
section
variable {r:bY} {h i:Nat} {ht:List aw} {d:aw} {bl:List Int} {n:Int} {out:Bool}
structure K6 (r:bY) (h i:Nat) (d:aw):Prop where
 off:d.Out=true→ke r ↑h ↑i=6
 on:d.Out=false→ke r ↑h ↑i=0∧hZ r ↑h ↑i=dE r.an d
 b:0≤(hZ r ↑h ↑i).Lo∧(hZ r ↑h ↑i).Lo≤(hZ r ↑h ↑i).Hi∧(hZ r ↑h ↑i).Hi≤86400000
 at_:(r.aq[h]?).bind (·[i]?)=some d
theorem K6.same (q:K6 r h i d):d.Out=decide (ke r ↑h ↑i=6):=by
 cases ho:d.Out with
 |true=>rw [q.off ho]; rfl
 |false=>rw [(q.on ho).1]; rfl
end
section
variable {r:bY} {i:Nat} {k:Int}
end
end
section
def jQ (s t:aa):Prop:=s.Lo≤t.Lo∧t.Lo≤t.Hi∧t.Hi≤s.Hi
/-- sums of the same sleds, each within the old one -/
structure tx (m m':g_):Prop where
 ok:k7 m
 ok':k7 m'
 keys:m'.map (·.1)=m.map (·.1)
 UX: ∀ (k:Int) s s',m.lookup k=some s→m'.lookup k=some s'→jQ s s'
section
variable {m m':g_} {i k n:Int} {s t own:aa}
theorem tv {m:g_} (h:k∈m.map (·.1)): ∃ s,m.lookup k=some s:=by
 obtain ⟨p,hp,rfl⟩:=bX.1 h
 cases e:m.lookup p.1 with
 |some s=>exact ⟨s,rfl⟩
 |none=>exact absurd rfl ((gZ.1 e) p hp)
theorem nB {m:g_} (h:m.lookup k=some s):aD m k=s:=by unfold aD; rw [h]; rfl
theorem za (h:k7 m):ij m i n=(m.map (·.1)).countP fun k=>decide ((aD m k).Hi<n)&& !decide (k=i):=by
 rw [mz,List.countP_map]
 apply List.countP_congr
 intro p hp
 have:aD m p.1=p.2:=nB (tn h.nd hp)
 simp only [Function.comp,this]
theorem C_ (h:k7 m):kv m i n=(m.map (·.1)).countP fun k=>decide ((aD m k).Lo<n)&& !decide (k=i):=by
 rw [oU,List.countP_map]
 apply List.countP_congr
 intro p hp
 have:aD m p.1=p.2:=nB (tn h.nd hp)
 simp only [Function.comp,this]
theorem tx.look (h:tx m m') (hs:m.lookup k=some s): ∃ s',m'.lookup k=some s'∧jQ s s':=by
 obtain ⟨s',e⟩:=tv (m:=m') (k:=k) (by rw [h.keys]; exact bX.2 ⟨_,tQ hs,rfl⟩)
 exact ⟨s',e,h.UX k s s' hs e⟩
theorem tx.back (h:tx m m') (hs:m'.lookup k=some t): ∃ s,m.lookup k=some s∧jQ s t:=by
 obtain ⟨s,e⟩:=tv (m:=m) (k:=k) (by rw [← h.keys]; exact bX.2 ⟨_,tQ hs,rfl⟩)
 exact ⟨s,e,h.UX k s t e hs⟩
theorem tx.sure (h:tx m m'):ij m i n≤ij m' i n:=by
 rw [za h.ok,za h.ok',h.keys]
 refine List.countP_mono_left fun k hk q=>?_
 obtain ⟨s,hs⟩:=tv hk
 obtain ⟨s',hs',hw⟩:=h.look hs
 rw [nB hs] at q
 rw [nB hs']
 unfold jQ at hw
 simp only [cS,decide_eq_true_eq] at q ⊢
 exact ⟨I,q.2⟩
theorem tx.may (h:tx m m'):kv m' i n≤kv m i n:=by
 rw [C_ h.ok,C_ h.ok',h.keys]
 refine List.countP_mono_left fun k hk q=>?_
 obtain ⟨s,hs⟩:=tv hk
 obtain ⟨s',hs',hw⟩:=h.look hs
 rw [nB hs'] at q
 rw [nB hs]
 unfold jQ at hw
 simp only [cS,decide_eq_true_eq] at q ⊢
 exact ⟨I,q.2⟩
/-- no rank more -/
theorem tx.zw (h:tx m m') (hs:m.lookup i=some s) (ht:m'.lookup i=some t) {x:Int} (hx:x∈dI m' i t):x∈dI m i s:=by
 have hw:=h.UX i s t hs ht
 unfold jQ at hw
 rw [rK (by rw [ht]; simp),qz (h.ok'.at ht)] at hx
 rw [rK (by rw [hs]; simp),qz (h.ok.at hs)]
 obtain ⟨y,A,B,C,D⟩:=hx
 have:=h.sure (i:=i) (n:=y)
 have:=h.may (i:=i) (n:=y)
 exact ⟨y,I,I,I,I⟩
end
def SN (l l':aX) (d d':aw):Prop:=d.Out=d'.Out∧(d.Out=false→jQ (dE l d) (dE l' d'))
structure JM (l l':aX) (H H':List (List aw)) (q:Nat):Prop where
 len: ∀ k:Nat,((H'[k]?).bind (·[q]?)).isSome=((H[k]?).bind (·[q]?)).isSome
 UC: ∀ (k:Nat) d d',(H[k]?).bind (·[q]?)=some d→(H'[k]?).bind (·[q]?)=some d'→SN l l' d d'∧0≤(dE l d).Lo
theorem AA {l l':aX} {H H':List (List aw)} {q:Nat} (h:JM l l' H H' q): ∀ n,(fI l' H' q n).isSome=(fI l H q n).isSome∧ ∀ s s',fI l H q n=some s→fI l' H' q n=some s'→jQ s s'
 |0=>⟨rfl,fun s s' B A=>by simp only [fI,Option.some.injEq] at B A; subst B; subst A; unfold jQ; simp⟩
 |n+1=>by
  obtain ⟨C,G⟩:=AA h n
  have D:=h.len n
  have AB:=h.UC n
  unfold fI
  cases B:fI l H q n with
  |none=>
   rw [B] at C
   cases A:fI l' H' q n with
   |none=>exact ⟨rfl,fun s s' e=>by cases e⟩
   |some v=>rw [A] at C; cases C
  |some s=>
   rw [B] at C
   cases A:fI l' H' q n with
   |none=>rw [A] at C; cases C
   |some s'=>
    have hw:=G s s' B A
    cases e3:(H[n]?).bind (·[q]?) with
    |none=>
     rw [e3] at D
     cases e4:(H'[n]?).bind (·[q]?) with
     |none=>exact ⟨rfl,fun s s' e=>by cases e⟩
     |some v=>rw [e4] at D; cases D
    |some d=>
     rw [e3] at D
     cases e4:(H'[n]?).bind (·[q]?) with
     |none=>rw [e4] at D; cases D
     |some d'=>
      obtain ⟨⟨ho,ht⟩,J⟩:=AB d d' e3 e4
      simp only
      cases eo:d.Out with
      |true=>rw [← ho,eo]; exact ⟨rfl,fun s s' e=>by simp at e⟩
      |false=>
       rw [← ho,eo]
       have ht:=ht eo
       refine ⟨U,fun u u' E F=>?_⟩
       simp only [Bool.false_eq_true,if_false,Option.some.injEq] at E F
       subst E; subst F
       unfold jQ at ht hw ⊢
       simp only
       omega
theorem zH {r:bY}:(aF r).map (·.1)=((List.range r.aM.length).filter fun (q:Nat)=>(fI r.an r.aq q r.aq.length).isSome).map fun (q:Nat)=>(q:Int):=by
 unfold aF eP
 generalize List.range r.aM.length=L
 induction L with
 |nil=>rfl
 |cons q L ih=>
  cases e:fI r.an r.aq q r.aq.length with
  |none=>simp only [List.filterMap_cons,List.filter_cons,e,Option.map_none,Option.isSome_none]; simpa using ih
  |some s=>simp only [List.filterMap_cons,List.filter_cons,e,Option.map_some,Option.isSome_some,if_true,List.map_cons,ih]
theorem KM {r r':bY} (he:cM r=0) (he':cM r'=0) (hs:r'.aM.length=r.aM.length) (hh:r'.aq.length=r.aq.length) (h: ∀ q,q<r.aM.length→JM r.an r'.an r.aq r'.aq q):tx (aF r) (aF r'):=by
 refine ⟨AZ he,AZ he',?_,fun k s s' A B=>?_⟩
 ·rw [zH,zH,hs,hh]
  congr 1
  apply List.filter_congr
  intro q hq
  exact (AA (h q (List.mem_range.1 hq)) _).1
 ·unfold aF at A B
  rw [KI] at A B
  rw [hs,hh] at B
  split at A
  ·rename_i q
   rw [if_pos q] at B
   exact (AA (h k.toNat I) _).2 s s' A B
  ·cases A
end
section
structure CQ (w w':bT):Prop where
 start:w'.Start=w.Start
 now:w.gp≤w'.gp
 n:w'.n=w.n
 least: ∀ b,bR w' b≤bR w b
 times:w'.vu=w.vu
 AS:w.cw≤w'.cw
 Gm:w.dN≤w'.dN
 sigs:w'.KU=w.KU
variable {w w':bT}
theorem CQ.opt (h:CQ w w') {b:Nat} {o:Int×aa} (ho:o∈iv w b): ∃ o'∈iv w' b,o'.1=o.1∧o'.2.Lo≤o.2.Lo∧o.2.Hi≤o'.2.Hi:=by
 unfold iv at ho
 rcases bu.1 ho with rfl|ho
 ·exact ⟨(-1,⟨w'.Start,w'.gp⟩),cq ..,U,by simp only [h.start]; omega,h.now⟩
 ·refine ⟨o,cV _ ?_,U,Int.le_refl _,Int.le_refl _⟩
  unfold rV at ho ⊢; rw [h.times]; exact ho
theorem CQ.may (h:CQ w w') {t:aB} (ht:j_ w t=true):j_ w' t=true:=by
 unfold j_ at ht ⊢
 have:=of_decide_eq_true ht
 have A:=h.AS
 have B:=h.Gm
 have C:=h.sigs
 exact gf I
theorem CQ.fwd (h:CQ w w'): ∀ (b:Nat) (p:aB×Int),p∈fwd w b→ ∃ p'∈Go.Proofs.YtlajhejcfcoddaaGreatDoor.fwd w' b,p'.1=p.1∧p'.2≤p.2:=by
 intro b
 induction b with
 |zero=>
  intro p hp
  simp only [Go.Proofs.YtlajhejcfcoddaaGreatDoor.fwd,bH] at hp ⊢
  subst hp
  exact ⟨_,U,U,by simp only [h.start]; omega⟩
 |succ b ih=>
  intro q hq
  obtain ⟨p,hp,o,ho,e⟩:=fu.1 hq
  obtain ⟨p',hp',A,D⟩:=ih p hp
  obtain ⟨o',ho',B,E,F⟩:=h.opt ho
  have hl:=h.least b
  have hn:=h.now
  unfold kH at e
  split at e
  ·rename_i C
   simp only [Option.some.injEq] at e
   subst e
   refine ⟨(dw p'.1 (fx o'.1),max (p'.2+bR w' b) o'.2.Lo),fu.2 ⟨p',hp',o',ho',by unfold kH; rw [if_pos I]⟩,by simp only [A,B],by simp only; omega⟩
  ·cases e
theorem CQ.bwd (h:CQ w w'): ∀ (k:Nat) (p:aB×Int),p∈bwd w k→ ∃ p'∈Go.Proofs.YtlajhejcfcoddaaGreatDoor.bwd w' k,p'.1=p.1∧p.2≤p'.2:=by
 intro k
 induction k with
 |zero=>
  intro p hp
  simp only [Go.Proofs.YtlajhejcfcoddaaGreatDoor.bwd,bH] at hp ⊢
  subst hp
  exact ⟨_,U,U,h.now⟩
 |succ k ih=>
  intro q hq
  simp only [Go.Proofs.YtlajhejcfcoddaaGreatDoor.bwd,bu,List.mem_flatMap,List.mem_filterMap] at hq ⊢
  rcases hq with rfl|⟨p,hp,o,ho,e⟩
  ·exact ⟨_,.inl U,U,h.now⟩
  ·obtain ⟨p',hp',A,D⟩:=ih p hp
   obtain ⟨o',ho',B,E,F⟩:=h.opt ho
   have hl:=h.least (w.n-(k+1))
   rw [h.n]
   unfold m_ at e
   split at e
   ·rename_i C
    simp only [Option.some.injEq] at e
    subst e
    exact ⟨(dw p'.1 (fx o'.1),min p'.2 o'.2.Hi-bR w' (w.n-(k+1))),.inr ⟨p',hp',o',ho',by unfold m_; rw [if_pos I]⟩,by simp only [A,B],by simp only; omega⟩
   ·cases e
theorem CQ.back (h:CQ w w') {b:Nat} {p:aB×Int} (hp:p∈back w b): ∃ p'∈Go.Proofs.YtlajhejcfcoddaaGreatDoor.back w' b,p'.1=p.1∧p.2≤p'.2:=by
 unfold Go.Proofs.YtlajhejcfcoddaaGreatDoor.back at hp ⊢
 rw [h.n]
 exact h.bwd _ p hp
theorem CQ.pass (h:CQ w w') {b:Nat} {q:Int×aa} (hq:q∈eU w b): ∃ q'∈eU w' b,q'.1=q.1∧q'.2.Lo≤q.2.Lo∧q.2.Hi≤q'.2.Hi:=by
 obtain ⟨o,ho,p,hp,u,hu,e⟩:=gU.1 hq
 obtain ⟨D,E,rfl⟩:=iL.1 e
 obtain ⟨o',ho',A,F,G⟩:=h.opt ho
 obtain ⟨p',hp',B,H⟩:=h.fwd _ p hp
 obtain ⟨u',hu',C,AA⟩:=h.back hu
 have hl:=h.least b
 simp only [iQ] at D
 refine ⟨(o'.1,iQ w' b p' u' o'),gU.2 ⟨o',ho',p',hp',u',hu',iL.2 ⟨?_,?_,U⟩⟩,A,?_,?_⟩
 ·simp only [iQ]; omega
 ·have:=h.may E
  unfold vC at this ⊢
  rw [A,B,C]; exact this
 ·simp only [iQ]; omega
 ·simp only [iQ]; omega
theorem o4 {k:Int}:k∈jW w↔ ∃ i:Nat,k=(i:Int)∧i≤w.n∧jF w (fwd w i)=true:=by
 unfold jW kE
 simp only [bX,List.mem_filter,List.mem_range]
 constructor
 ·rintro ⟨i,⟨B,A⟩,rfl⟩; exact ⟨i,rfl,I,A⟩
 ·rintro ⟨i,rfl,B,A⟩; exact ⟨i,⟨I,A⟩,rfl⟩
theorem CQ.Hc (h:CQ w w') {k:Int} (hk:k∈jW w):k∈jW w':=by
 obtain ⟨i,rfl,C,A⟩:=o4.1 hk
 refine o4.2 ⟨i,U,by rw [h.n]; exact C,?_⟩
 unfold jF at A ⊢
 obtain ⟨p,hp,D⟩:=List.any_eq_true.1 A
 obtain ⟨p',hp',B,_⟩:=h.fwd _ p hp
 exact List.any_eq_true.2 ⟨p',hp',by rw [B]; exact h.may D⟩
theorem vg {l:List (Int×aa)} (hl: ∀ q∈l,q.2.Lo≤q.2.Hi) (h:g6 l≠iT):mU l (g6 l):=by
 rcases qQ hl with ⟨_,e⟩|h'
 ·exact absurd e h
 ·exact h'
theorem wF {l:List (Int×aa)} (hl: ∀ q∈l,q.2.Lo≤q.2.Hi) {q:Int×aa} (hq:q∈l):mU l (g6 l):=by
 rcases qQ hl with ⟨e,_⟩|h'
 ·rw [e] at hq; cases hq
 ·exact h'
theorem CQ.Rk (h:CQ w w') {b:Nat} (hn:g6 (eU w b)≠iT):g6 (eU w' b)≠iT∧(g6 (eU w' b)).Lo≤(g6 (eU w b)).Lo∧(g6 (eU w b)).Hi≤(g6 (eU w' b)).Hi:=by
 have B:=vg (l:=eU w b) (fun q hq=>iN hq) hn
 obtain ⟨x,hx,ex⟩:=B.lo
 obtain ⟨y,hy,ey⟩:=B.hi
 obtain ⟨x',hx',_,C,D⟩:=h.pass hx
 obtain ⟨y',hy',_,E,F⟩:=h.pass hy
 have A:=wF (l:=eU w' b) (fun q hq=>iN hq) hx'
 have G:=A.all x' hx'
 have H:=A.all y' hy'
 exact ⟨A.ne,I,I⟩
/-- two rides, of two lines, of which one allows more -/
structure Rs (l:aX) (r:cE) (l':aX) (r':cE):Prop where
 line:dD l=0
 line':dD l'=0
 yL:fD l r
 ride':fD l' r'
 w:CQ (b_ l r) (b_ l' r')
 uv:l'.ae.length=l.ae.length
variable {l l':aX} {r r':cE}
theorem Rs.ok (h:Rs l r l' r') (he:eg l r 0=0):eg l' r' 0=0:=by
 refine lW h.line' h.ride' U fun e=>?_
 obtain ⟨k,hk⟩:=List.exists_mem_of_ne_nil _ (j8 he).2.2.2
 have:=h.w.Hc hk
 rw [e] at this; cases this
theorem Rs.Bm (h:Rs l r l' r') {k:Int} (hk:k∈lu l r):k∈lu l' r':=by
 by_cases he:eg l r 0=0
 ·rw [l9 he] at hk
  rw [l9 (h.ok he)]
  exact h.w.Hc hk
 ·rw [u9 he] at hk; cases hk
theorem rR {b:Nat} (hb:b<l.ae.length):eg l r (iP l b)=eg l r 0:=by rw [ye I]
theorem Rs.z_ (h:Rs l r l' r') {b:Nat} (hb:b<l.ae.length) (he:de l r b=0):de l' r' b=0∧(dy l' r' b).Lo≤(dy l r b).Lo∧(dy l r b).Hi≤(dy l' r' b).Hi:=by
 have ho:eg l r (iP l b)=0:=by
  by_cases e:eg l r (iP l b)=0
  ·exact e
  ·rw [(kb e).1] at he; exact absurd he e
 have ho':eg l' r' (iP l' b)=0:=by
  rw [rR (by rw [h.uv]; exact hb)]
  rw [rR hb] at ho
  exact h.ok ho
 have hn:ky l r b≠iT:=fun e=>by rw [(lf ho e).1] at he; omega
 obtain ⟨C,D,E⟩:=h.w.Rk hn
 have B:=iY ho hn
 have A:=iY ho' C
 rw [B.2,A.2]
 exact ⟨A.1,D,E⟩
theorem zQ {b:Nat}:bR (b_ l r) b=if b<l.ae.length then dT l b else 0:=by
 unfold bR b_ cG
 split
 ·rename_i h
  simp [h]
 ·rename_i h
  simp [h]
theorem Iy {sg:List aK} {i:Nat} (h:i=0):m6 sg i=⟨-1,0⟩:=by subst h; rfl
theorem rn {sg:List aK} {i:Nat} {y:aK} (h:0<i) (hy:sg[i-1]? =some y):m6 sg i=y:=by unfold m6; rw [if_neg I,hy]; rfl
def QZ (l:aX):Prop:= ¬ lX l∧dD l=0
noncomputable instance (l:aX):Decidable (QZ l):=Classical.propDecidable _
end
section
theorem SM (a b:Int) (ha:0≤a) (hb:0<b):0≤a % b∧a % b<b:=⟨Int.emod_nonneg _ (Int.ne_of_gt hb),Int.emod_lt_of_pos _ hb⟩
theorem nD {l:aX} (ht:db l.aL=true) (h:lK l) {i:Nat} (hi:i<l.ae.length):1≤dT l i∧dT l i≤500000000:=by
 have A:=h.Rw i hi
 have B:=GM ht h.td i
 have hf:=h.head.1
 unfold dT pC
 refine ⟨(Int.le_ediv_iff_mul_le I).2 I,?_⟩
 have:(1000*lS l i+l.gk-1)/l.gk≤1000*lS l i+l.gk-1:=Int.ediv_le_self _ I
 omega
end
section
open Go.RowKit
theorem nQ {c:ao} {t:Int}: ∀ (l:List bJ) (s:aa),(s.Lo≤(l.foldl (gL c t) s).Lo∧(l.foldl (gL c t) s).Hi≤s.Hi)∧(∀ x∈l,x.dL.Lo-mZ c t x≤(l.foldl (gL c t) s).Lo∧(l.foldl (gL c t) s).Hi≤x.dL.Hi+mZ c t x)∧
 (∀ M,s.Lo≤M→(∀ x∈l,x.dL.Lo-mZ c t x≤M)→(l.foldl (gL c t) s).Lo≤M)∧ ∀ M,M≤s.Hi→(∀ x∈l,M≤x.dL.Hi+mZ c t x)→M≤(l.foldl (gL c t) s).Hi
 |[],s=>⟨⟨Int.le_refl _,Int.le_refl _⟩,(fun x hx=>by cases hx),(fun M h _=>h),fun M h _=>h⟩
 |y::l,s=>by
  obtain ⟨⟨D,E⟩,b,B,d⟩:=nQ (c:=c) (t:=t) l (gL c t s y)
  have F:(gL c t s y).Lo=max s.Lo (y.dL.Lo-mZ c t y):=rfl
  have G:(gL c t s y).Hi=min s.Hi (y.dL.Hi+mZ c t y):=rfl
  simp only [List.foldl_cons]
  refine ⟨⟨I,I⟩,fun x hx=>?_,fun M C A=>B M ?_ fun x hx=>A x (cV _ hx),fun M C A=>d M ?_ fun x hx=>A x (cV _ hx)⟩
  ·rcases bu.1 hx with rfl|hx
   ·omega
   ·exact b x hx
  ·have:=A y sm; omega
  ·have:=A y sm; omega
theorem Cg {c:ao} {t:Int} {x:bJ} (h:x∈c.aN):x.dL.Lo-mZ c t x≤(eO c t).Lo∧(eO c t).Hi≤x.dL.Hi+mZ c t x:=(nQ c.aN _).2.1 x h
theorem Mj {c:ao} {t M:Int} (h0: -1099511627776≤M) (h: ∀ x∈c.aN,x.dL.Lo-mZ c t x≤M):(eO c t).Lo≤M:=(nQ c.aN _).2.2.1 M h0 h
theorem JC {c:ao} {t M:Int} (h0:M≤1099511627776) (h: ∀ x∈c.aN,M≤x.dL.Hi+mZ c t x):M≤(eO c t).Hi:=(nQ c.aN _).2.2.2 M h0 h
theorem Dc {c:ao} {t:Int}: -1099511627776≤(eO c t).Lo∧(eO c t).Hi≤1099511627776:=(nQ c.aN _).1
def fy (c:ao) (k:Nat) (x:bJ):ao:=⟨c.dq,(c.aN.take k++[x])++c.aN.drop k⟩
theorem Dy {c:ao} {k:Nat} {x y:bJ} (h:y∈c.aN):y∈(fy c k x).aN:=by
 show y∈(c.aN.take k++[x])++c.aN.drop k
 rw [← List.take_append_drop k c.aN] at h
 rcases dM.1 h with h|h
 ·exact List.mem_append_left _ (List.mem_append_left _ h)
 ·exact List.mem_append_right _ h
theorem Cr {c:ao} {k:Nat} {x:bJ} {t:Int}:(eO c t).Lo≤(eO (fy c k x) t).Lo∧(eO (fy c k x) t).Hi≤(eO c t).Hi:=
 ⟨Mj Dc.1 fun y hy=>(Cg (c:=fy c k x) (t:=t) (Dy hy)).1,JC Dc.2 fun y hy=>(Cg (c:=fy c k x) (t:=t) (Dy hy)).2⟩
def iM (l:aX) (i:Nat) (c:ao):aX:=⟨l.aL,l.gk,l.ah.set i c,l.ae,l.bU,l.dN,l.cw⟩
theorem JS {l:aX} {bz:List RA} {i:Nat} {c:ao} {a:RA} (h:ew l bz) (hb:bz.length=l.ah.length) (hc:c.aN.length≤a.2∧c.aN.length≤9223372036854775807):pZ (iM l i c) (bz.set i a):=by
 have A:=h.sw
 have B:=h.sr
 have C:=h.sH
 refine ⟨?_,h.side,?_,?_,?_,fun k m b hm ha=>?_⟩
 ·show l.aL.length≤9223372036854775807
  omega
 ·show (l.ah.set i c).length≤9223372036854775807
  rw [List.length_set]; omega
 ·show (bz.set i a).length=(l.ah.set i c).length
  rw [List.length_set,List.length_set]; exact hb
 ·show l.ae.length≤9223372036854775807
  omega
 ·change (l.ah.set i c)[k]? =some m at hm
  rw [List.getElem?_set] at hm ha
  by_cases e:i=k
  ·subst e
   rw [if_pos rfl] at hm ha
   split at hm
   ·rename_i q
    cases hm
    rw [if_pos I] at ha
    cases ha
    exact hc
   ·cases hm
  ·rw [if_neg e] at hm ha
   have:=h.LL k m b hm ha
   omega
theorem AN {l:List ao} {bz:List RA} {i:Nat} {c:ao} {a:RA}:(List.zipWith ao.cells l bz).set i (ao.cells c a)=List.zipWith ao.cells (l.set i c) (bz.set i a):=by
 apply List.ext_getElem?
 intro k
 rw [List.getElem?_set,List.getElem?_zipWith,List.getElem?_zipWith,List.getElem?_set,List.getElem?_set]
 by_cases e:i=k
 ·subst e
  rw [if_pos rfl,if_pos rfl,if_pos rfl]
  simp only [List.length_zipWith]
  by_cases A:i<l.length
  ·by_cases B:i<bz.length
   ·rw [if_pos I,if_pos A,if_pos B]
   ·rw [if_neg I,if_pos A,if_neg B]
  ·rw [if_neg I,if_neg A]
 ·rw [if_neg e,if_neg e,if_neg e]
/-- rows of which one is another, new one -/
theorem x9 {C:List av} {ms:List ao} {bz:List RA} {i:Nat} {c:ao} {a:RA} {X0:av} (p q:Nat) (h1:C[p]? =some (br (aW ao.owns ms bz))) (h2:C[q]? =some X0) (h3:ao.owns c a=[X0]):iA C (e9 (aW ao.gP (ms.set i c) (bz.set i a))).holds:=fun w hw X hX=>by
 have hb:=hw _ (aT h1)
 have ho:=hw _ (aT h2)
 obtain ⟨k,m,d,hm,hd,hx⟩:=jJ hX
 rw [List.getElem?_set] at hm hd
 by_cases e:i=k
 ·subst e
  rw [if_pos rfl] at hm hd
  split at hm
  ·cases hm
   split at hd
   ·cases hd
    exact fr c a w (fun Y hY=>by rw [h3,bH] at hY; subst hY; exact ho) X hx
   ·cases hd
  ·cases hm
 ·rw [if_neg e] at hm hd
  exact fr m d w (fun Y hY=>hb.1 Y (bM hm hd hY)) X hx
end
section
/-- what the first watch can do the second one can -/
structure wI (w w':bT):Prop where
 start:w'.Start=w.Start
 now:w.gp≤w'.gp
 n:w'.n=w.n
 least: ∀ b,bR w' b≤bR w b
 opt: ∀ {b:Nat} {o:Int×aa},o∈iv w b→ ∃ o'∈iv w' b,o'.1=o.1∧o'.2.Lo≤o.2.Lo∧o.2.Hi≤o'.2.Hi
 may: ∀ {t:aB},j_ w t=true→j_ w' t=true
section
variable {w w':bT}
theorem wI.fwd (h:wI w w'): ∀ (b:Nat) (p:aB×Int),p∈fwd w b→ ∃ p'∈Go.Proofs.YtlajhejcfcoddaaGreatDoor.fwd w' b,p'.1=p.1∧p'.2≤p.2:=by
 intro b
 induction b with
 |zero=>
  intro p hp
  simp only [Go.Proofs.YtlajhejcfcoddaaGreatDoor.fwd,bH] at hp ⊢
  subst hp
  exact ⟨_,U,U,by simp only [h.start]; omega⟩
 |succ b ih=>
  intro q hq
  obtain ⟨p,hp,o,ho,e⟩:=fu.1 hq
  obtain ⟨p',hp',A,D⟩:=ih p hp
  obtain ⟨o',ho',B,E,F⟩:=h.opt ho
  have hl:=h.least b
  have hn:=h.now
  unfold kH at e
  split at e
  ·rename_i C
   simp only [Option.some.injEq] at e
   subst e
   refine ⟨(dw p'.1 (fx o'.1),max (p'.2+bR w' b) o'.2.Lo),fu.2 ⟨p',hp',o',ho',by unfold kH; rw [if_pos I]⟩,by simp only [A,B],by simp only; omega⟩
  ·cases e
theorem wI.bwd (h:wI w w'): ∀ (k:Nat) (p:aB×Int),p∈bwd w k→ ∃ p'∈Go.Proofs.YtlajhejcfcoddaaGreatDoor.bwd w' k,p'.1=p.1∧p.2≤p'.2:=by
 intro k
 induction k with
 |zero=>
  intro p hp
  simp only [Go.Proofs.YtlajhejcfcoddaaGreatDoor.bwd,bH] at hp ⊢
  subst hp
  exact ⟨_,U,U,h.now⟩
 |succ k ih=>
  intro q hq
  simp only [Go.Proofs.YtlajhejcfcoddaaGreatDoor.bwd,bu,List.mem_flatMap,List.mem_filterMap] at hq ⊢
  rcases hq with rfl|⟨p,hp,o,ho,e⟩
  ·exact ⟨_,.inl U,U,h.now⟩
  ·obtain ⟨p',hp',A,D⟩:=ih p hp
   obtain ⟨o',ho',B,E,F⟩:=h.opt ho
   have hl:=h.least (w.n-(k+1))
   rw [h.n]
   unfold m_ at e
   split at e
   ·rename_i C
    simp only [Option.some.injEq] at e
    subst e
    exact ⟨(dw p'.1 (fx o'.1),min p'.2 o'.2.Hi-bR w' (w.n-(k+1))),.inr ⟨p',hp',o',ho',by unfold m_; rw [if_pos I]⟩,by simp only [A,B],by simp only; omega⟩
   ·cases e
theorem wI.back (h:wI w w') {b:Nat} {p:aB×Int} (hp:p∈back w b): ∃ p'∈Go.Proofs.YtlajhejcfcoddaaGreatDoor.back w' b,p'.1=p.1∧p.2≤p'.2:=by
 unfold Go.Proofs.YtlajhejcfcoddaaGreatDoor.back at hp ⊢
 rw [h.n]
 exact h.bwd _ p hp
theorem wI.pass (h:wI w w') {b:Nat} {q:Int×aa} (hq:q∈eU w b): ∃ q'∈eU w' b,q'.1=q.1∧q'.2.Lo≤q.2.Lo∧q.2.Hi≤q'.2.Hi:=by
 obtain ⟨o,ho,p,hp,u,hu,e⟩:=gU.1 hq
 obtain ⟨D,E,rfl⟩:=iL.1 e
 obtain ⟨o',ho',A,F,G⟩:=h.opt ho
 obtain ⟨p',hp',B,H⟩:=h.fwd _ p hp
 obtain ⟨u',hu',C,AA⟩:=h.back hu
 have hl:=h.least b
 simp only [iQ] at D
 refine ⟨(o'.1,iQ w' b p' u' o'),gU.2 ⟨o',ho',p',hp',u',hu',iL.2 ⟨?_,?_,U⟩⟩,A,?_,?_⟩
 ·simp only [iQ]; omega
 ·have:=h.may E
  unfold vC at this ⊢
  rw [A,B,C]; exact this
 ·simp only [iQ]; omega
 ·simp only [iQ]; omega
theorem wI.Rk (h:wI w w') {b:Nat} (hn:g6 (eU w b)≠iT):g6 (eU w' b)≠iT∧(g6 (eU w' b)).Lo≤(g6 (eU w b)).Lo∧(g6 (eU w b)).Hi≤(g6 (eU w' b)).Hi:=by
 have B:=vg (l:=eU w b) (fun q hq=>iN hq) hn
 obtain ⟨x,hx,ex⟩:=B.lo
 obtain ⟨y,hy,ey⟩:=B.hi
 obtain ⟨x',hx',_,C,D⟩:=h.pass hx
 obtain ⟨y',hy',_,E,F⟩:=h.pass hy
 have A:=wF (l:=eU w' b) (fun q hq=>iN hq) hx'
 have G:=A.all x' hx'
 have H:=A.all y' hy'
 exact ⟨A.ne,I,I⟩
end
theorem z4 {P Q:Int→Bool} {n:Nat} (h: ∀ t,P t=true→Q t=true):ek Q n≤ek P n:=by
 by_cases c:ek Q n≤ek P n
 ·exact c
 ·have B:=(hE (p:=P) (n:=n)).1
  have D:=(hE (p:=Q) (n:=n)).2
  have C:=h _ (vn (p:=P) (n:=n) I)
  have A:=rX (p:=Q) (n:=n) B (show ek P n<ek Q n by omega)
  rw [C] at A; cases A
/-- a clock that tells no more -/
def IH (c c':ao):Prop:= ∀ t,(eO c t).Lo≤(eO c' t).Lo∧(eO c' t).Hi≤(eO c t).Hi
structure qm (l l':aX):Prop where
 Pk:l'.aL=l.aL
 TQ:l'.gk=l.gk
 uv:l'.ae=l.ae
 fin:l'.bU=l.bU
 Gm:l'.dN=l.dN
 AS:l'.cw=l.cw
 clock: ∀ s,IH (mC l s) (mC l' s)
theorem Jg {c c':ao} (h:IH c c') (r:Int):(m7 c r).Lo≤(m7 c' r).Lo∧(m7 c' r).Hi≤(m7 c r).Hi:=by
 have A:ek (fW c r) 86400001≤ek (fW c' r) 86400001:=z4 fun t q=>by
  unfold fW at q ⊢
  have:=of_decide_eq_true q
  have:=h t
  exact gf I
 have B:ek (fU c' r) 86400001≤ek (fU c r) 86400001:=z4 fun t q=>by
  unfold fU at q ⊢
  have:=of_decide_eq_true q
  have:=h t
  exact gf I
 unfold m7
 simp only
 omega
section
variable {l l':aX} {r:cE}
theorem qm.least (h:qm l l') (i:Nat):dT l' i=dT l i:=by
 have hc:aX.mk l.aL l.gk l'.ah l.ae l.bU l.dN l.cw=l':=by
  rw [← h.Pk,← h.TQ,← h.uv,← h.fin,← h.Gm,← h.AS]
 unfold dT
 rw [h.TQ]
 congr 2
 unfold lS
 rw [h.Pk,h.uv]
theorem qm.sub (h:qm l l'):wI (b_ l' r) (b_ l r):=by
 refine ⟨U,Int.le_refl _,?_,fun b=>?_,fun {b o} ho=>?_,fun {t} q=>?_⟩
 ·show (cG l l.ae.length).length=(cG l' l'.ae.length).length
  rw [dR,dR,h.uv]
 ·refine Int.le_of_eq ?_
  unfold bR
  show ((cG l l.ae.length)[b]?).getD 0=((cG l' l'.ae.length)[b]?).getD 0
  rw [h.uv]
  unfold cG
  rw [show dT l'=dT l from funext h.least]
 ·unfold iv at ho
  rcases bu.1 ho with rfl|ho
  ·exact ⟨_,cq,U,Int.le_refl _,Int.le_refl _⟩
  ·unfold rV at ho
   have ho:o∈((dW l' r.ai r.ai.length)[b]?).getD []:=ho
   unfold dW at ho
   rw [h.uv,fB] at ho
   cases e:(List.range l.ae.length)[b]? with
   |none=>rw [e] at ho; cases ho
   |some b'=>
    rw [e] at ho
    have ho:o∈j3 l' r.ai r.ai.length b':=ho
    obtain ⟨k,hk,A⟩:=List.mem_filterMap.1 ho
    unfold mF at A
    cases e3:r.ai[k]? with
    |none=>rw [e3] at A; cases A
    |some s=>
     rw [e3] at A
     simp only [Option.bind_some] at A
     split at A
     ·rename_i q
      simp only [Option.some.injEq] at A
      subst A
      have hw:=Jg (h.clock s) s.Read
      have hw:(cJ l s).Lo≤(cJ l' s).Lo∧(cJ l' s).Hi≤(cJ l s).Hi:=hw
      refine ⟨((k:Int),cJ l s),cV _ ?_,U,hw.1,hw.2⟩
      show _∈((dW l r.ai r.ai.length)[b]?).getD []
      unfold dW
      rw [fB,e]
      show _∈j3 l r.ai r.ai.length b'
      refine List.mem_filterMap.2 ⟨k,hk,?_⟩
      unfold mF
      rw [e3]
      simp only [Option.bind_some]
      rw [if_pos ⟨q.1,I⟩]
     ·cases A
 ·unfold j_ at q ⊢
  have:=of_decide_eq_true q
  have B:(b_ l' r).cw=(b_ l r).cw:=h.AS
  have C:(b_ l' r).dN=(b_ l r).dN:=h.Gm
  have D:(b_ l' r).KU=(b_ l r).KU:=rfl
  exact gf I
theorem qm.Vb (h:qm l l') (h1:de l r l.bU=0) (h2:de l' r l'.bU=0):jQ (se l r) (se l' r):=by
 have hp: ∀ {l:aX},de l r l.bU=0→ky l r l.bU.toNat≠iT∧dy l r l.bU=ky l r l.bU.toNat:=fun {l} q=>by
  refine ⟨fun e=>?_,by unfold dy; rw [if_pos q]⟩
  unfold de at q
  split at q
  ·cases q
  ·rename_i c; exact c q
 have a:=hp h1
 have b:=hp h2
 have hb:=tW h2
 have hh:=(h.sub (r:=r)).Rk (b:=l.bU.toNat) (by have:=b.1; rw [h.fin] at this; exact this)
 rw [s_ h1,s_ h2]
 rw [b.2,h.fin] at hb ⊢
 rw [a.2]
 unfold ky at hb ⊢
 unfold jQ
 simp only
 omega
theorem qm.UC (h:qm l l') {d:aw} (h1:gV l d) (h2:gV l' d):SN l l' d d:=by
 refine ⟨U,fun eo=>?_⟩
 cases ef:d.eV with
 |true=>
  rw [tP ⟨eo,ef⟩,tP ⟨eo,ef⟩]
  rw [qv ⟨eo,ef⟩] at h1
  have:=h1.1
  unfold iU at this
  unfold jQ; omega
 |false=>
  rw [rq ⟨eo,ef⟩,rq ⟨eo,ef⟩]
  rw [qD ⟨eo,ef⟩] at h1 h2
  exact h.Vb h1.1 h2.1
end
theorem D6 {l:aX} {i k:Nat} {c:ao} {x:bJ} (hc:l.ah[i]? =some c):qm l (iM l i (fy c k x)):=by
 refine ⟨U,U,U,U,U,U,fun s t=>?_⟩
 unfold mC
 show (eO (((l.ae[s.f_.toNat]?).bind fun b=>l.ah[b.jk.toNat]?).getD ⟨0,[]⟩) t).Lo≤(eO (((l.ae[s.f_.toNat]?).bind fun b=>(l.ah.set i (fy c k x))[b.jk.toNat]?).getD ⟨0,[]⟩) t).Lo∧(eO (((l.ae[s.f_.toNat]?).bind fun b=>(l.ah.set i (fy c k x))[b.jk.toNat]?).getD ⟨0,[]⟩) t).Hi≤(eO (((l.ae[s.f_.toNat]?).bind fun b=>l.ah[b.jk.toNat]?).getD ⟨0,[]⟩) t).Hi
 cases l.ae[s.f_.toNat]? with
 |none=>exact ⟨Int.le_refl _,Int.le_refl _⟩
 |some b=>
  simp only [Option.bind_some]
  by_cases e:i=b.jk.toNat
  ·subst e
   rw [List.getElem?_set_self (aY.1 hc).1,hc]
   exact Cr
  ·rw [List.getElem?_set_ne e]
   exact ⟨Int.le_refl _,Int.le_refl _⟩
/-- a race whose line tells no more -/
theorem K2 {r:bY} {l':aX} (h:qm r.an l') (he:cM r=0) (he':cM ⟨l',r.aM,r.bK,r.gX,r.aq⟩=0):tx (aF r) (aF ⟨l',r.aM,r.bK,r.gX,r.aq⟩):=by
 have ok: ∀ {r:bY} {k q:Nat} {d:aw},cM r=0→(r.aq[k]?).bind (·[q]?)=some d→gV r.an d:=fun {r k q d} he hd=>by
  cases e:r.aq[k]? with
  |none=>rw [e] at hd; cases hd
  |some x=>
   rw [e] at hd
   exact ((ig he).2.m8 x (aT e)).2 d (aT hd)
 refine KM he he' U U fun q _=>⟨fun k=>rfl,fun k d d' A B=>?_⟩
 have B:(r.aq[k]?).bind (·[q]?)=some d':=B
 rw [A] at B; cases B
 exact ⟨h.UC (ok he A) (ok (r:=⟨l',r.aM,r.bK,r.gX,r.aq⟩) he' A),(AW (ok he A)).1⟩
end
section
section
variable {r r':bY} {h i k j:Int} {t s:aa}
theorem Ob (he:cM r=0) (he':cM r'=0) (hs:r'.aM.length=r.aM.length) (hn:tx (aF r) (aF r')) (hk:(k,s)∈aF r):jR r k=0∧jR r' k=0∧fV r' k≠[]∧ ∀ y∈fV r' k,y∈fV r k:=by
 obtain ⟨q,D,C,_⟩:=uS hk
 simp only at C
 have hi:q9 r k:=by unfold q9; omega
 have hi':q9 r' k:=by unfold q9; omega
 have hl:(aF r).lookup k=some s:=tn pT hk
 obtain ⟨s',hl',_⟩:=hn.look hl
 have B:=FW he hi hl
 have A:=FW he' hi' hl'
 refine ⟨B.1,A.1,by rw [A.2.2]; exact Eb (AZ he') hl',fun y hy=>?_⟩
 rw [A.2.2] at hy
 rw [B.2.2]; exact hn.zw hl hl' hy
end
end
section
/-- where a sled may be after k beams more -/
def gn (w:bT):Nat→Nat→aB×Int→List (aB×Int)
 |0,_,p=>[p]
 |k+1,b,p=>(iv w b).flatMap fun o=>match kH w b p o with
  |some q=>gn w k (b+1) q
  |none=>[]
variable {w:bT}
theorem iB {k b:Nat} {p q:aB×Int}:q∈gn w (k+1) b p↔ ∃ o∈iv w b,∃ p',kH w b p o=some p'∧q∈gn w k (b+1) p':=by
 simp only [gn,List.mem_flatMap]
 constructor
 ·rintro ⟨o,ho,h⟩
  cases e:kH w b p o with
  |none=>rw [e] at h; cases h
  |some p'=>rw [e] at h; exact ⟨o,ho,p',e,h⟩
 ·rintro ⟨o,ho,p',e,h⟩
  exact ⟨o,ho,by rw [e]; exact h⟩
theorem rU: ∀ (k b:Nat) (q:aB×Int),q∈fwd w (b+k)↔ ∃ p∈fwd w b,q∈gn w k b p:=by
 intro k
 induction k with
 |zero=>
  intro b q
  simp only [Nat.add_zero,gn,bH]
  exact ⟨fun h=>⟨q,h,rfl⟩,fun ⟨p,hp,e⟩=>e▸hp⟩
 |succ k ih=>
  intro b q
  rw [show b+(k+1)=(b+1)+k by omega,ih]
  constructor
  ·rintro ⟨p',hp',h⟩
   obtain ⟨p,hp,o,ho,e⟩:=fu.1 hp'
   exact ⟨p,hp,iB.2 ⟨o,ho,p',e,h⟩⟩
  ·rintro ⟨p,hp,h⟩
   obtain ⟨o,ho,p',e,h'⟩:=iB.1 h
   exact ⟨p',fu.2 ⟨p,hp,o,ho,e⟩,h'⟩
theorem gW {b:Nat} {p q:aB×Int} {o:Int×aa}:kH w b p o=some q↔max (p.2+bR w b) o.2.Lo≤min o.2.Hi w.gp∧q=(dw p.1 (fx o.1),max (p.2+bR w b) o.2.Lo):=by
 unfold kH
 split
 ·rename_i h
  constructor
  ·intro e; cases e; exact ⟨h,rfl⟩
  ·rintro ⟨_,rfl⟩; rfl
 ·rename_i h
  constructor
  ·intro e; cases e
  ·rintro ⟨h',_⟩; exact absurd h' h
theorem uI {b:Nat} {p q:aB×Int} {o:Int×aa}:m_ w b p o=some q↔o.2.Lo≤min p.2 o.2.Hi∧q=(dw p.1 (fx o.1),min p.2 o.2.Hi-bR w b):=by
 unfold m_
 split
 ·rename_i h
  constructor
  ·intro e; cases e; exact ⟨h,rfl⟩
  ·rintro ⟨_,rfl⟩; rfl
 ·rename_i h
  constructor
  ·intro e; cases e
  ·rintro ⟨h',_⟩; exact absurd h' h
theorem Hq {b:Nat} (hb:b≤w.n):((⟨0,0⟩:aB),w.gp)∈back w b:=by
 rcases Nat.lt_or_ge b w.n with h|h
 ·exact (o6 h).2 (.inl U)
 ·rw [u7 h]; simp
theorem nG (t:aB):dw t ⟨0,0⟩=t:=by cases t; simp [dw]
theorem yT (a o u:aB):dw (dw a o) u=dw a (dw u o):=by simp only [dw,aB.mk.injEq]; omega
theorem Gg (hl: ∀ b,0≤bR w b): ∀ (k:Nat) (u:aB×Int),u∈bwd w k→u.2≤w.gp:=by
 intro k
 induction k with
 |zero=>intro u hu; simp only [bwd,bH] at hu; subst hu; exact Int.le_refl _
 |succ k ih=>
  intro u hu
  simp only [bwd,bu,List.mem_flatMap,List.mem_filterMap] at hu
  rcases hu with rfl|⟨p,hp,o,ho,e⟩
  ·exact Int.le_refl _
  ·obtain ⟨_,rfl⟩:=uI.1 e
   have:=ih p hp
   have:=hl (w.n-(k+1))
   simp only; omega
/-- what follows a passing is told by the way back -/
theorem O5: ∀ (k b:Nat) (p q:aB×Int),b+k≤w.n→p.2≤w.gp→q∈gn w k b p→ ∃ u∈back w b,p.2≤u.2∧q.1=dw p.1 u.1:=by
 intro k
 induction k with
 |zero=>
  intro b p q hb hp hq
  simp only [gn,bH] at hq
  subst hq
  exact ⟨_,Hq I,hp,(nG _).symm⟩
 |succ k ih=>
  intro b p q hb hp hq
  obtain ⟨o,ho,p',e,h⟩:=iB.1 hq
  obtain ⟨C,rfl⟩:=gW.1 e
  obtain ⟨u',hu',B,A⟩:=ih (b+1) _ q I (by simp only; omega) h
  simp only at B A
  refine ⟨(dw u'.1 (fx o.1),min u'.2 o.2.Hi-bR w b),(o6 I).2 (.inr ⟨u',hu',o,ho,uI.2 ⟨I,U⟩⟩),by simp only; omega,?_⟩
  rw [A,yT]
theorem LZ (hl: ∀ b,0≤bR w b): ∀ (d b:Nat) (p u:aB×Int),w.n=b+d→p.2≤u.2→u∈back w b→ ∃ k,b+k≤w.n∧ ∃ q∈gn w k b p,q.1=dw p.1 u.1:=by
 intro d
 induction d with
 |zero=>
  intro b p u hd hp hu
  rw [u7 I] at hu
  simp only [bH] at hu
  subst hu
  exact ⟨0,I,p,by simp [gn],(nG _).symm⟩
 |succ d ih=>
  intro b p u hd hp hu
  rcases (o6 I).1 hu with rfl|⟨u',hu',o,ho,e⟩
  ·exact ⟨0,I,p,by simp [gn],(nG _).symm⟩
  ·obtain ⟨B,rfl⟩:=uI.1 e
   have hn:u'.2≤w.gp:=Gg hl _ _ hu'
   simp only at hp
   obtain ⟨k,hk,q,hq,A⟩:=ih (b+1) (dw p.1 (fx o.1),max (p.2+bR w b) o.2.Lo) u' I (by simp only; omega) hu'
   refine ⟨k+1,I,q,iB.2 ⟨o,ho,_,gW.2 ⟨I,U⟩,hq⟩,?_⟩
   rw [A]; simp only; rw [yT]
end
section
section
variable {l:aX} {r:cE} {one at_:Int} {d:Nat} {f g m:Int} {rec:Int→Int→Int→Bool} {i:Int}
end
theorem q_ {l:aX} {r:cE} {d:Nat} (hd:d<l.ae.length) {o:Int×aa}:o∈iv (b_ l r) d↔o=(-1,⟨r.Start,r.gp⟩)∨ ∃ k,k<r.ai.length∧ ∃ s,r.ai[k]? =some s∧(s.f_=(d:Int)∧(cJ l s).Lo≤(cJ l s).Hi)∧o=((k:Int),cJ l s):=by
 unfold iv rV
 show o∈(-1,(⟨r.Start,r.gp⟩:aa))::((dW l r.ai r.ai.length)[d]?).getD []↔_
 rw [o7 hd,Option.getD_some,bu,sR]
theorem p9 {l:aX} {r:cE} {d:Nat} (hd:d<l.ae.length):bR (b_ l r) d=dT l d:=by rw [zQ,if_pos hd]
theorem vi {l:aX} {n d:Nat} {y:Int} (h:(cG l n)[d]? =some y):y=dT l d:=by
 unfold cG at h
 rw [fB] at h
 have hd:d<n:=by
  rcases Nat.lt_or_ge d n with q|q
  ·exact q
  ·rw [List.getElem?_eq_none (by simpa using q)] at h; cases h
 rw [List.getElem?_range hd] at h
 exact (Option.some.inj h).symm
end
section
def QX (w:bT) (b:Nat) (i:Int):Prop:= ∃ b',b'<b∧ ∃ q∈eU w b',q.1=i
noncomputable instance (w:bT) (b:Nat) (i:Int):Decidable (QX w b i):=Classical.propDecidable _
def wq (w:bT) (b:Nat):Bool:=(eU w b).any fun q=>decide (0≤q.1)
def Bj (w:bT) (k:Nat):List Int:=((List.range k).filter fun b=> !wq w b).map fun (b:Nat)=>(b:Int)
noncomputable def wu (l:aX) (r:cE):List Int:=if eg l r 0=0 then Bj (b_ l r) (xw (lu l r)).toNat else []
theorem yB {l:aX} {r:cE} (h:eg l r 0=0):wu l r=Bj (b_ l r) (xw (lu l r)).toNat:=if_pos h
theorem yu {l:aX} {r:cE} (h: ¬ eg l r 0=0):wu l r=[]:=if_neg h
theorem Tn {l:aX} {r:cE} (h:eg l r 0=0):0≤xw (lu l r)∧xw (lu l r)≤(l.ae.length:Int):=by
 have A:=(GU (uM h)).1
 rw [l9 h] at A ⊢
 obtain ⟨i,e,hi,_⟩:=o4.1 A
 have hn:(b_ l r).n=l.ae.length:=dR
 omega
end
section
/-- a truth goes on from here -/
def s8 (w:bT) (b:Nat) (p:aB×Int):Prop:= ∃ k,b+k≤w.n∧ ∃ q∈gn w k b p,j_ w q.1=true
/-- a truth may have come here, or earlier -/
def DI (w:bT) (b:Nat) (p:aB×Int):Prop:= ∃ v,(p.1,v)∈fwd w b∧v≤p.2
def Mz (n:Int) (p:aB×Int):aB×Int:=(p.1,p.2+n)
section
variable {w:bT}
theorem HQ: ∀ (k j b:Nat) (p q z:aB×Int),q∈gn w k b p→z∈gn w j (b+k) q→z∈gn w (k+j) b p:=by
 intro k
 induction k with
 |zero=>
  intro j b p q z A B
  simp only [gn,bH] at A
  subst A
  rw [Nat.zero_add]; exact B
 |succ k ih=>
  intro j b p q z A B
  obtain ⟨o,ho,p',e,h⟩:=iB.1 A
  rw [show k+1+j=(k+j)+1 by omega]
  exact iB.2 ⟨o,ho,p',e,ih j (b+1) p' q z h (by rw [show b+1+k=b+(k+1) by omega]; exact B)⟩
theorem BT: ∀ (k b:Nat) (t:aB) (x y:Int) (q:aB×Int),y≤x→q∈gn w k b (t,x)→ ∃ q'∈gn w k b (t,y),q'.1=q.1∧q'.2≤q.2:=by
 intro k
 induction k with
 |zero=>
  intro b t x y q A hq
  simp only [gn,bH] at hq ⊢
  subst hq
  exact ⟨_,U,U,A⟩
 |succ k ih=>
  intro b t x y q A hq
  obtain ⟨o,ho,p',e,h⟩:=iB.1 hq
  obtain ⟨B,rfl⟩:=gW.1 e
  simp only at B h
  obtain ⟨q',hq',C,D⟩:=ih (b+1) _ _ (max (y+bR w b) o.2.Lo) q I h
  exact ⟨q',iB.2 ⟨o,ho,_,gW.2 ⟨by simp only; omega,U⟩,hq'⟩,C,D⟩
theorem xx {b:Nat} {t:aB} {x y:Int} (h:s8 w b (t,x)) (hy:y≤x):s8 w b (t,y):=by
 obtain ⟨k,hk,q,hq,hm⟩:=h
 obtain ⟨q',hq',e,_⟩:=BT k b t x y q hy hq
 exact ⟨k,hk,q',hq',by rw [e]; exact hm⟩
theorem uP {k b:Nat} {p q:aB×Int} (h:q∈gn w k b p) (hv:s8 w (b+k) q):s8 w b p:=by
 obtain ⟨j,hj,z,hz,hm⟩:=hv
 exact ⟨k+j,I,z,HQ k j b p q z h hz,hm⟩
theorem G5 {b:Nat} {p q:aB×Int} {o:Int×aa} (h:DI w b p) (ho:o∈iv w b) (e:kH w b p o=some q):DI w (b+1) q:=by
 obtain ⟨v,hv,A⟩:=h
 obtain ⟨B,rfl⟩:=gW.1 e
 exact ⟨max (v+bR w b) o.2.Lo,fu.2 ⟨_,hv,o,ho,gW.2 ⟨by simp only; omega,U⟩⟩,by simp only; omega⟩
theorem CI {b:Nat} {p:aB×Int} (h:p∈fwd w b):DI w b p:=⟨p.2,h,Int.le_refl _⟩
theorem zE (hl: ∀ b,0≤bR w b): ∀ (b:Nat) (p:aB×Int),p∈fwd w b→w.Start≤p.2:=by
 intro b
 induction b with
 |zero=>intro p hp; simp only [fwd,bH] at hp; subst hp; exact Int.le_refl _
 |succ b ih=>
  intro q hq
  obtain ⟨p,hp,o,ho,e⟩:=fu.1 hq
  obtain ⟨_,rfl⟩:=gW.1 e
  have:=ih p hp
  have:=hl b
  simp only; omega
/-- a beam is passed at a time, by a signal -/
def wR (w:bT) (b:Nat) (s t:Int):Prop:= ∃ p∈fwd w b,∃ o∈iv w b,o.1=s∧(max (p.2+bR w b) o.2.Lo≤t∧t≤min o.2.Hi w.gp)∧s8 w (b+1) (dw p.1 (fx o.1),t)
theorem ow (hl: ∀ b,0≤bR w b) {b:Nat} (hb:b<w.n) {s t:Int}:(∃ q∈eU w b,q.1=s∧q.2.Lo≤t∧t≤q.2.Hi)↔wR w b s t:=by
 constructor
 ·rintro ⟨q,hq,hs,C,D⟩
  obtain ⟨o,ho,p,hp,u,hu,e⟩:=gU.1 hq
  obtain ⟨B,A,rfl⟩:=iL.1 e
  simp only [iQ] at C D B
  have hn:u.2≤w.gp:=Gg hl _ _ hu
  obtain ⟨k,hk,q,hq',E⟩:=LZ hl (w.n-(b+1)) (b+1) (dw p.1 (fx o.1),t) u I (by simp only; omega) hu
  refine ⟨p,hp,o,ho,hs,⟨I,I⟩,k,hk,q,hq',?_⟩
  rw [E]
  unfold vC at A
  rw [show dw (dw p.1 (fx o.1)) u.1=dw (dw p.1 u.1) (fx o.1) by simp only [dw,aB.mk.injEq]; omega]
  exact A
 ·rintro ⟨p,hp,o,ho,hs,⟨C,D⟩,k,hk,q,hq,hm⟩
  obtain ⟨u,hu,B,A⟩:=O5 k (b+1) _ q hk (by simp only; omega) hq
  simp only at B A
  refine ⟨(o.1,iQ w b p u o),gU.2 ⟨o,ho,p,hp,u,hu,iL.2 ⟨by simp only [iQ]; omega,?_,U⟩⟩,hs,by simp only [iQ]; omega,by simp only [iQ]; omega⟩
  unfold vC
  rw [A] at hm
  rw [show dw (dw p.1 u.1) (fx o.1)=dw (dw p.1 (fx o.1)) u.1 by simp only [dw,aB.mk.injEq]; omega]
  exact hm
end
structure wa (w w':bT) (n:Int) (f:Int→Int):Prop where
 start:w'.Start=w.Start+n
 now:w'.gp=w.gp+n
 wn:w'.n=w.n
 low: ∀ b,0≤bR w b
 least: ∀ b,bR w' b=bR w b
 may: ∀ t,j_ w t=true→j_ w' t=true
 UQ: ∀ s,0≤f s↔0≤s
 opt: ∀ (b:Nat) (p:aB×Int) (o:Int×aa),b<w.n→w.Start≤p.2→DI w b p→o∈iv w b→max (p.2+bR w b) o.2.Lo≤min o.2.Hi w.gp→s8 w (b+1) (dw p.1 (fx o.1),max (p.2+bR w b) o.2.Lo)→
  ∃ o'∈iv w' b,o'.1=f o.1∧ ∀ t,w.Start≤t→t≤w.gp→((o.2.Lo≤t∧t≤o.2.Hi)↔(o'.2.Lo≤t+n∧t+n≤o'.2.Hi))
section
variable {w w':bT} {n:Int} {f g:Int→Int}
theorem wa.one (h:wa w w' n f) (s:Int):fx (f s)=fx s:=by
 unfold fx
 have:=h.UQ s
 by_cases q:s<0
 ·rw [if_pos q,if_pos I]
 ·rw [if_neg q,if_neg I]
theorem wa.step (h:wa w w' n f) {b:Nat} {p q:aB×Int} {o:Int×aa} (hb:b<w.n) (hs:w.Start≤p.2) (hl:DI w b p) (ho:o∈iv w b) (e:kH w b p o=some q) (hv:s8 w (b+1) q):
 ∃ o'∈iv w' b,kH w' b (Mz n p) o'=some (Mz n q):=by
 obtain ⟨E,rfl⟩:=gW.1 e
 obtain ⟨o',ho',D,A⟩:=h.opt b p o hb hs hl ho E hv
 have F:=h.low b
 have B:=A (max (p.2+bR w b) o.2.Lo) I I
 have C:=A (max (p.2+n+bR w b) o'.2.Lo-n) I
 refine ⟨o',ho',gW.2 ?_⟩
 simp only [Mz,h.least,h.now]
 rw [D,h.one]
 have G:=B.1 I
 have H:=(C I).2 I
 refine ⟨I,?_⟩
 simp only [Prod.mk.injEq,true_and]
 omega
theorem wa.reach (h:wa w w' n f): ∀ (k b:Nat) (p q:aB×Int),b+k≤w.n→w.Start≤p.2→DI w b p→q∈gn w k b p→s8 w (b+k) q→Mz n q∈gn w' k b (Mz n p):=by
 intro k
 induction k with
 |zero=>
  intro b p q _ _ _ hq _
  simp only [gn,bH] at hq ⊢
  rw [hq]
 |succ k ih=>
  intro b p q hb hs hl hq hv
  obtain ⟨o,ho,p',e,hq'⟩:=iB.1 hq
  have hv':s8 w (b+1) p':=uP hq' (by rw [show b+1+k=b+(k+1) by omega]; exact hv)
  obtain ⟨o',ho',e'⟩:=h.step I hs hl ho e hv'
  have A:=gW.1 e
  have B:=h.low b
  exact iB.2 ⟨o',ho',_,e',ih (b+1) p' q I (by rw [A.2]; simp only; omega) (G5 hl ho e) hq' (by rw [show b+1+k=b+(k+1) by omega]; exact hv)⟩
theorem wa.PX (h:wa w w' n f) {b:Nat} {p:aB×Int} (hs:w.Start≤p.2) (hl:DI w b p) (hv:s8 w b p):s8 w' b (Mz n p):=by
 obtain ⟨k,hk,q,hq,hm⟩:=hv
 exact ⟨k,by rw [h.wn]; exact hk,_,h.reach k b p q hk hs hl hq ⟨0,I,q,by simp [gn],hm⟩,h.may _ hm⟩
theorem wa.fwd (h:wa w w' n f) {b:Nat} {q:aB×Int} (hb:b≤w.n) (hq:q∈fwd w b) (hv:s8 w b q):Mz n q∈Go.Proofs.YtlajhejcfcoddaaGreatDoor.fwd w' b:=by
 obtain ⟨p,hp,hr⟩:=(rU b 0 q).1 (by rw [Nat.zero_add]; exact hq)
 have hr':=h.reach b 0 p q I (zE h.low 0 p hp) (CI hp) hr (by rw [Nat.zero_add]; exact hv)
 have:Mz n p∈Go.Proofs.YtlajhejcfcoddaaGreatDoor.fwd w' 0:=by
  simp only [Go.Proofs.YtlajhejcfcoddaaGreatDoor.fwd,bH] at hp ⊢
  subst hp
  rw [h.start]; rfl
 have A:=(rU b 0 (Mz n q)).2 ⟨_,this,hr'⟩
 rwa [Nat.zero_add] at A
theorem wa.any (h:wa w w' n f) {b:Nat} (hb:b≤w.n) (hm:jF w (Go.Proofs.YtlajhejcfcoddaaGreatDoor.fwd w b)=true):jF w' (Go.Proofs.YtlajhejcfcoddaaGreatDoor.fwd w' b)=true:=by
 unfold jF at hm ⊢
 obtain ⟨p,hp,A⟩:=List.any_eq_true.1 hm
 exact List.any_eq_true.2 ⟨_,h.fwd hb hp ⟨0,I,p,by simp [gn],A⟩,h.may _ A⟩
theorem wa.pass (h:wa w w' n f) {b:Nat} (hb:b<w.n) {s t:Int} (hp:wR w b s t):wR w' b (f s) (t+n):=by
 obtain ⟨p,hp,o,ho,rfl,⟨D,G⟩,hv⟩:=hp
 have hs:=zE h.low b p hp
 have hl:=h.low b
 have A:s8 w (b+1) (dw p.1 (fx o.1),max (p.2+bR w b) o.2.Lo):=xx hv D
 have e:kH w b p o=some (dw p.1 (fx o.1),max (p.2+bR w b) o.2.Lo):=gW.2 ⟨I,rfl⟩
 have B:s8 w b p:=uP (k:=1) (iB.2 ⟨o,ho,_,e,by simp [gn]⟩) A
 obtain ⟨o',ho',C,E⟩:=h.opt b p o hb hs (CI hp) ho I A
 have c:=(E t I I).1 I
 refine ⟨Mz n p,h.fwd I hp B,o',ho',C,?_,?_⟩
 ·simp only [Mz,h.least,h.now]; omega
 ·have F:=h.PX (b:=b+1) (p:=(dw p.1 (fx o.1),t)) (by simp only; omega) ⟨_,fu.2 ⟨p,hp,o,ho,e⟩,D⟩ hv
  rw [C,h.one]; exact F
theorem MC (h:wa w w' n f) (h':wa w' w (-n) g):jW w'=jW w:=by
 unfold jW
 rw [h.wn]
 unfold kE
 congr 1
 refine List.filter_congr fun b hb=>?_
 have hb:=List.mem_range.1 hb
 rw [Bool.eq_iff_iff]
 exact ⟨h'.any (by rw [h.wn]; omega),h.any I⟩
theorem zR (h:wa w w' n f) (h':wa w' w (-n) g) {b:Nat} (hb:b<w.n) {t:Int}:(∃ q∈eU w b,q.2.Lo≤t∧t≤q.2.Hi)↔ ∃ q∈eU w' b,q.2.Lo≤t+n∧t+n≤q.2.Hi:=by
 constructor
 ·rintro ⟨q,hq,A,B⟩
  obtain ⟨q',hq',_,C⟩:=(ow h'.low (by rw [h.wn]; exact hb)).2 (h.pass hb ((ow h.low hb).1 ⟨q,hq,rfl,A,B⟩))
  exact ⟨q',hq',C⟩
 ·rintro ⟨q,hq,A,B⟩
  obtain ⟨q',hq',_,C⟩:=(ow h.low hb).2 (h'.pass (by rw [h.wn]; exact hb) ((ow h'.low (by rw [h.wn]; exact hb)).1 ⟨q,hq,rfl,A,B⟩))
  exact ⟨q',hq',I,I⟩
theorem BL (h:wa w w' n f) (hl': ∀ b,0≤bR w' b) {b:Nat} (hb:b<w.n) {s:Int} (hq: ∃ q∈eU w b,q.1=s): ∃ q∈eU w' b,q.1=f s:=by
 obtain ⟨q,hq,e⟩:=hq
 have A:q.2.Lo≤q.2.Hi:=iN hq
 obtain ⟨q',hq',e',_⟩:=(ow hl' (by rw [h.wn]; exact hb)).2 (h.pass hb ((ow h.low hb).1 ⟨q,hq,e,Int.le_refl _,A⟩))
 exact ⟨q',hq',e'⟩
theorem MG (h:wa w w' n f) (h':wa w' w (-n) g) {b:Nat} (hb:b<w.n):(g6 (eU w b)=iT↔g6 (eU w' b)=iT)∧(g6 (eU w b)≠iT→g6 (eU w' b)=⟨(g6 (eU w b)).Lo+n,(g6 (eU w b)).Hi+n⟩):=by
 have key: ∀ {u v:bT} {m:Int},(∀ t,(∃ q∈eU u b,q.2.Lo≤t∧t≤q.2.Hi)→ ∃ q∈eU v b,q.2.Lo≤t+m∧t+m≤q.2.Hi)→g6 (eU u b)≠iT→g6 (eU v b)≠iT∧(g6 (eU v b)).Lo≤(g6 (eU u b)).Lo+m∧(g6 (eU u b)).Hi+m≤(g6 (eU v b)).Hi:=by
  intro u v m ht hn
  have A:=vg (l:=eU u b) (fun q hq=>iN hq) hn
  obtain ⟨x,hx,ex⟩:=A.lo
  obtain ⟨y,hy,ey⟩:=A.hi
  have C:x.2.Lo≤x.2.Hi:=iN hx
  have D:y.2.Lo≤y.2.Hi:=iN hy
  obtain ⟨x',hx',G,H⟩:=ht x.2.Lo ⟨x,hx,Int.le_refl _,C⟩
  obtain ⟨y',hy',AA,J⟩:=ht y.2.Hi ⟨y,hy,D,Int.le_refl _⟩
  have B:=wF (l:=eU v b) (fun q hq=>iN hq) hx'
  have K:=B.all x' hx'
  have L:=B.all y' hy'
  exact ⟨B.ne,I,I⟩
 have E:=key (u:=w) (v:=w') (m:=n) fun t=>(zR h h' hb).1
 have F:=key (u:=w') (v:=w) (m:= -n) fun t hq=>(zR h h' hb).2 (by rw [show t+ -n+n=t by omega]; exact hq)
 refine ⟨⟨fun e=>Classical.byContradiction fun q=>(F q).1 e,fun e=>Classical.byContradiction fun q=>(E q).1 e⟩,fun q=>?_⟩
 have A:=E q
 have B:=F A.1
 rw [aa.ext_iff]
 simp only
 omega
theorem Iz (h:wa w w' n f) (h':wa w' w (-n) g) {b:Nat} (hb:b<w.n):wq w' b=wq w b:=by
 rw [Bool.eq_iff_iff]
 unfold wq
 simp only [List.any_eq_true,decide_eq_true_eq]
 constructor
 ·rintro ⟨q,hq,A⟩
  obtain ⟨q',hq',e⟩:=BL h' h.low (by rw [h.wn]; exact hb) ⟨q,hq,rfl⟩
  exact ⟨q',hq',by rw [e]; exact (h'.UQ _).2 A⟩
 ·rintro ⟨q,hq,A⟩
  obtain ⟨q',hq',e⟩:=BL h h'.low hb ⟨q,hq,rfl⟩
  exact ⟨q',hq',by rw [e]; exact (h.UQ _).2 A⟩
end
section
variable {l l':aX} {r r':cE} {n:Int} {f g:Int→Int}
structure r_ (l:aX) (r:cE) (l':aX) (r':cE) (n:Int) (f g:Int→Int):Prop where
 line:dD l=0
 line':dD l'=0
 yL:fD l r
 ride':fD l' r'
 uv:l'.ae.length=l.ae.length
 to:wa (b_ l r) (b_ l' r') n f
 VQ:wa (b_ l' r') (b_ l r) (-n) g
theorem r_.Hc (h:r_ l r l' r' n f g):jW (b_ l' r')=jW (b_ l r):=MC h.to h.VQ
theorem r_.e (h:r_ l r l' r' n f g) {me:Int}:eg l' r' me=eg l r me:=by
 by_cases hm:me=0
 ·by_cases q:jW (b_ l r)=[]
  ·rw [p6 h.line h.yL hm q,p6 h.line' h.ride' hm (h.Hc.trans q)]
  ·rw [lW h.line h.yL hm q,lW h.line' h.ride' hm (by rw [h.Hc]; exact q)]
 ·rw [q6 h.line h.yL hm,q6 h.line' h.ride' hm]
theorem r_.Bm (h:r_ l r l' r' n f g):lu l' r'=lu l r:=by
 by_cases q:eg l r 0=0
 ·rw [l9 q,l9 (h.e.trans q),h.Hc]
 ·rw [u9 q,u9 (by rw [h.e]; exact q)]
theorem r_.td (h:r_ l r l' r' n f g) {b:Int}:iP l' b=iP l b:=by unfold iP; rw [h.uv]
theorem r_.bn (h:r_ l r l' r' n f g):(b_ l r).n=l.ae.length:=dR
theorem r_.z_ (h:r_ l r l' r' n f g) {b:Nat} (hb:b<l.ae.length):de l' r' b=de l r b∧(de l r b=0→dy l' r' b=⟨(dy l r b).Lo+n,(dy l r b).Hi+n⟩)∧(¬ de l r b=0→dy l' r' b=dy l r b):=by
 have hh:=MG h.to h.VQ (b:=b) (by rw [h.bn]; exact hb)
 by_cases ho:eg l r (iP l b)=0
 ·have ho':eg l' r' (iP l' b)=0:=by rw [h.td,h.e]; exact ho
  by_cases e:ky l r b=iT
  ·have A:=lf ho e
   have B:=lf ho' (hh.1.1 e)
   exact ⟨B.1.trans A.1.symm,fun q=>by rw [A.1] at q; omega,fun _=>B.2.trans A.2.symm⟩
  ·have A:=iY ho e
   have B:=iY ho' (fun q=>e (hh.1.2 q))
   refine ⟨B.1.trans A.1.symm,fun _=>?_,fun q=>absurd A.1 q⟩
   rw [B.2,A.2]; exact hh.2 e
 ·have A:=kb ho
  have B:=kb (l:=l') (r:=r') (b:=(b:Int)) (by rw [h.td,h.e]; exact ho)
  rw [h.td,h.e] at B
  exact ⟨B.1.trans A.1.symm,fun q=>absurd (A.1.symm.trans q) ho,fun _=>B.2.trans A.2.symm⟩
theorem r_.e7 (h:r_ l r l' r' n f g):wu l' r'=wu l r:=by
 by_cases q:eg l r 0=0
 ·rw [yB q,yB (h.e.trans q),h.Bm]
  have hb:=Tn q
  unfold Bj
  congr 1
  refine List.filter_congr fun b A=>?_
  have A:=List.mem_range.1 A
  rw [Iz h.to h.VQ (by rw [h.bn]; omega)]
 ·rw [yu q,yu (by rw [h.e]; exact q)]
end
end
section
section
variable {n t rd:Int} {c:ao} {l:aX} {r:cE} {s:aK}
end
def RL {α:Type} (f:α→α) (k:Nat) (l:List α):List α:=(l.take k).map f++l.drop k
section
variable {α:Type} {f:α→α} {k:Nat} {l:List α} {x:α}
@[simp] theorem Uk:(RL f k l).length=l.length:=by unfold RL; rw [List.length_append,List.length_map,List.length_take,List.length_drop]; omega
end
section
variable {n:Int} {l:aX} {bz:List RA}
end
section
variable {l l':aX} {r r':cE} {n:Int} {f g:Int→Int}
theorem r_.Vb (h:r_ l r l' r' n f g) (hf:l'.bU=l.bU) (hs:r'.Start=r.Start+n):de l' r' l'.bU=de l r l.bU∧se l' r'=se l r:=by
 obtain ⟨_,A⟩:=gj h.line
 have hh:=A.head.2.2.2.1
 obtain ⟨k,hk⟩: ∃ k:Nat,l.bU=(k:Int):=⟨l.bU.toNat,I⟩
 have hp:=h.z_ (b:=k) I
 rw [hf,hk]
 refine ⟨hp.1,?_⟩
 unfold se
 rw [hf,hk,hp.1]
 by_cases q:de l r (k:Int)=0
 ·rw [if_pos q,if_pos q,hp.2.1 q,hs,aa.ext_iff]
  simp only
  omega
 ·rw [if_neg q,if_neg q]
end
end
section
section
variable {n:Int} {l:aX} {r:bY} {d:aw} {h i:Int} {k q:Nat}
theorem FB (he:cM r=0) (hd:(r.aq[k]?).bind (·[q]?)=some d):gV r.an d:=by
 cases e:r.aq[k]? with
 |none=>rw [e] at hd; cases hd
 |some x=>
  rw [e] at hd
  exact ((ig he).2.m8 x (aT e)).2 d (aT hd)
end
end
section
open Go.RowKit
theorem MF {r:bY} {l':aX} {bz cz:List RA} {hz:List cK} (h:fp r bz hz) (hl:pZ l' cz):oF ⟨l',r.aM,r.bK,r.gX,r.aq⟩ cz hz:=⟨hl,Nat.le_trans h.jd dc,Nat.le_trans h.draw dc,Nat.le_trans h.iW dc,h.has,fun k x a hx ha=>by
 have q:=h.m8 k x a hx ha
 exact ⟨Nat.le_trans q.len dc,q.oo,fun d hd=>Nat.le_trans (q.sig d hd) dc⟩⟩
section
variable {E:fq} {ops:Array Oper} {Q:df} {rest:List Oper} {D:List Deferred} {L:List (Nat×Value)} {C C1:List av} {K:Act→World→Prop}
variable {h:List aw} {bs:List RA} {k:Nat} {d d':aw} {b b':RA}
end
end
section
def mK (r:bY) (l':aX):bY:=⟨l',r.aM,r.bK,r.gX,r.aq⟩
section
variable {r r':bY} {l':aX} {h i:Int}
theorem HY (hl:qm r.an l') (he:cM r=0) (he':cM (mK r l')=0):ke (mK r l') h i=ke r h i∧(ke r h i=0→jQ (hZ r h i) (hZ (mK r l') h i)):=by
 have e:ke (mK r l') h i=ke r h i:=by
  unfold ke
  rw [if_pos he,if_pos he']
  rfl
 refine ⟨e,fun q=>?_⟩
 have A:=e.trans q
 unfold hZ
 rw [if_pos q,if_pos A]
 show jQ _ (((r.aq[h.toNat]?).bind (·[i.toNat]?)).map (dE l') |>.getD dJ)
 cases e2:(r.aq[h.toNat]?).bind (·[i.toNat]?) with
 |none=>simp [jQ,dJ]
 |some d=>
  simp only [Option.map_some,Option.getD_some]
  have ho:d.Out=false:=by
   cases hd:d.Out with
   |false=>rfl
   |true=>
    unfold ke at q
    rw [if_pos he,e2] at q
    simp only [Option.any_some,hd] at q
    split at q<;>simp at q
  exact (hl.UC (FB he e2) (FB (r:=mK r l') he' e2)).2 ho
theorem D5 (he:cM r=0) (he':cM r'=0) (hs:r'.aM.length=r.aM.length) (hn:tx (aF r) (aF r')) (hi:q9 r i):jR r' i=jR r i∧ ∀ y∈fV r' i,y∈fV r i:=by
 have hi':q9 r' i:=by unfold q9 at hi ⊢; omega
 cases hl:(aF r).lookup i with
 |some s=>
  have h:=Ob he he' hs hn (tQ hl)
  exact ⟨h.2.1.trans h.1.symm,h.2.2.2⟩
 |none=>
  have hl':(aF r').lookup i=none:=gZ.2 fun p hp e=>by
   have:p.1∈(aF r).map (·.1):=by rw [← hn.keys]; exact bX.2 ⟨p,hp,rfl⟩
   obtain ⟨u,hu,A⟩:=bX.1 this
   exact gZ.1 hl u hu (A.trans e)
  have B:jR r i=6:=uY he hi (by rw [hl]; decide)
  have A:jR r' i=6:=uY he' hi' (by rw [hl']; decide)
  refine ⟨A.trans B.symm,fun y hy=>?_⟩
  rw [u6 (by rw [A]; decide)] at hy
  cases hy
end
end
section
open Go.RowKit
section
variable {P:Program} {t:TypeId} {x y:Operand}
theorem qy {e:TypeId} {a:OA} {n c:Nat} (ht:P.underlying t=some (.slice e)):iI P .eql t x y (.slice a n c) (.slice none 0 0) (.bool (decide (a=none))):=fun w=>by
 have A:(Op.equal t (.slice a n c) (.slice none 0 0)).run P w= .ok (decide (a=none)) w:=by
  unfold Op.equal
  show (Op.equalIn (9999+1) t (.slice a n c) (.slice none 0 0)).run P w=_
  unfold Op.equalIn
  cases a<;>simp [run_underlying ht]
 have B:eqGuard .eql t x y (.slice a n c) (.slice none 0 0)=pure ():=rfl
 rw [B]
 show (Sem.run P (do let b ← Op.equal t (.slice a n c) (.slice none 0 0); pure (vB b)) w)=_
 simp [A]
end
section
variable {E:fq} {ops:Array Oper} {Q:df} {rest:List Oper} {D:List Deferred} {L:List (Nat×Value)} {C:List av}
variable {dst:Option Tmp} {d:Nat} {ty:TypeId} {ps:String} {af:Array Edge} {g:Option (Nat×Bool)}
/-- a row that lies nowhere is empty -/
theorem mE {a:OA} {n sz:Nat} {es:List (List Value)} (hR:iA C (rd a n sz es).holds) (ha:a=none) (hz:0<sz) (k:es=[]→RJ E ops Q rest D L C):RJ E ops Q rest D L C:=fun act w hf hs=>by
 refine k ?_ act w hf hs
 obtain ⟨F,G,B⟩:=hs.has hR
 rcases Nat.eq_zero_or_pos (n*sz) with h|h
 ·have:n=0:=by
   rcases Nat.mul_eq_zero.1 h with h|h
   ·exact h
   ·omega
  exact jX I
 ·obtain ⟨ad,A,_⟩:=B h
  rw [ha] at A; cases A
theorem JZ {a:OA} {c e sz:Nat} {es:List (List Value)} (i:Nat) (hC:C[i]? =some (own a c e sz es)) (k:es.length≤c→RJ E ops Q rest D L C):RJ E ops Q rest D L C:=fun act w hf hs=>
 k (Ad (hs.holds _ (aT hC))) act w hf hs
theorem lH {A:av} (i:Nat) (h:C[i]? =some A.ro):iA C A.holds:=fun w hw=>by
 have B:=hw A.ro (aT h)
 exact B
/-- the end of a row is set to zero: it is no more of it -/
theorem OC {x:Operand} {t e sz by_ k n c c':Nat} {z:Value} {a:OA} {es:List (List Value)} (i:Nat) (hg:jL ops L g=true) (hx:ev L x=some (.slice (wO a c k sz) (n-k) c')) (ht:tA E.P t=some (e,sz,by_,z)) (hz1: ∀ v∈z.cells.toList,v.oneCell'=true)
 (hC:C[i]? =some (own a c e sz es)) (hn:n=es.length) (hk:k≤n) (K:RJ E ops Q rest D L (C.set i (own a c e sz (es.take k)))):
 RJ E ops Q (⟨none,.call {callee:= .builtin .clear,args:= #[x],argTypes:= #[t]},ty,ps,af,g⟩::rest) D L C:=by
 intro act w A F
 obtain ⟨inf,hu,hi,f,h3,h4,s⟩:=Fl ht
 unfold sk
 rw [if_pos (ep A hg)]
 subst hn
 obtain ⟨W,N⟩:(own a c e sz es).holds w:=F.holds _ (aT hC)
 have B: ∀ y∈es.take k,y.length=sz:=fun y hy=>W y (List.mem_of_mem_take hy)
 have V:(es.take k).flatten=es.flatten.take (k*sz):=by
  have h:=List.take_append_drop k es
  have l:es.flatten=(es.take k).flatten++(es.drop k).flatten:=by rw [← List.flatten_append,h]
  have m:(es.take k).flatten.length=k*sz:=by rw [je B,List.length_take]; congr 1; omega
  rw [l,← m,List.take_left]
 by_cases r:es.length-k=0
 ·have AA:es.take k=es:=List.take_of_length_le I
  refine g3 sm (w':=w) (v:= .tuple #[]) ?_ ?_
  ·rw [r] at hx
   cases hs:wO a c k sz with
   |none=>rw [hs] at hx; simp [execOp,resolve,invoke,builtin,Builtin.clear_,A.ev hx,run_underlying hu]
   |some q=>rw [hs] at hx; simp [execOp,resolve,invoke,builtin,Builtin.clear_,A.ev hx,run_underlying hu]
  ·rw [AA] at K
   exact K _ _ A (by
    have:C.set i (own a c e sz es)=C:=by
     apply List.ext_getElem?
     intro q
     rw [List.getElem?_set]
     by_cases j:i=q
     ·subst j; rw [if_pos rfl,if_pos (aY.1 hC).1,hC]
     ·rw [if_neg j]
    rw [this]; exact F)
 ·rcases N.2 with ⟨l,m⟩|⟨gg,cap,cur,hv,AC,M,Y,T,J,G⟩
  ·omega
  ·injection hv with Z AO d
   subst Z d
   have R:wO (some (⟨gg,0,none⟩:Addr)) c k sz=some ⟨gg,k*sz,none⟩:=by
    unfold wO; rw [if_neg I]; simp [Addr.add_lit]
   rw [R] at hx
   have H:(Builtin.zeroCells z.cells (es.length-k)).toList.length=(es.length-k)*sz:=by
    rw [Array.length_toList,size_zeroCells,s]
   have p:k*sz+(es.length-k)*sz=es.length*sz:=by rw [← Nat.add_mul]; congr 1; omega
   have o:es.length*sz≤cur.size:=by rw [J]; exact Nat.mul_le_mul_right _ Y
   have h1': ∀ v∈(Builtin.zeroCells z.cells (es.length-k)).toList,v.oneCell'=true:=fun v hv=>by
    refine hz1 v ?_
    simp [Builtin.zeroCells] at hv
    obtain ⟨q,hq,hv⟩:=hv
    have O:0<z.cells.size:=by
     rcases Nat.eq_zero_or_pos z.cells.size with AB|AB
     ·rw [AB] at hq; simp at hq
     ·exact AB
    have X:q % z.cells.size<z.cells.size:=Nat.mod_lt _ O
    rw [getElem!_pos z.cells _ X] at hv
    rw [← hv]; simp
   have hst':=run_storeCells_at E.P gg (k*sz) e (Builtin.zeroCells z.cells (es.length-k)).toList 0 cur w M (by rw [H]; omega) h1'
   simp only [Nat.add_zero] at hst'
   obtain ⟨q,hq⟩: ∃ q,es.length-k=q+1:=⟨es.length-k-1,I⟩
   refine g3 sm (w':=w.setRow gg (cur.toList.take (k*sz)++(Builtin.zeroCells z.cells (es.length-k)).toList++cur.toList.drop (k*sz+(Builtin.zeroCells z.cells (es.length-k)).toList.length)).toArray) (v:= .tuple #[]) ?_ ?_
   ·rw [hq] at hx hst' ⊢
    simp [execOp,resolve,invoke,builtin,Builtin.clear_,A.ev hx,run_underlying hu,zeroValue,typeInfo,hi,f,hst']
   ·refine K _ _ A ?_
    refine F.move i hC (row:=some gg) (fun b hb=>by cases hb; exact ⟨_,rfl,rfl⟩) rfl ⟨rfl,rfl,rfl,sm,fun k' _ hk'=>setRow_other w gg k' _ (fun e=>hk' (by simp [e]))⟩ (fun y hy=>by
     obtain ⟨ad,AB,rfl⟩:=hy
     cases AB; exact .inl rfl) ?_
    refine ⟨B,?_,.inr ⟨gg,c,_,U,Nat.zero_le _,setRow_heap w gg cur _ e _ M,?_,T,?_,?_⟩⟩
    ·exact je B
    ·rw [List.length_take]; omega
    ·simp only [List.size_toArray,List.length_append,List.length_take,List.length_drop,Array.length_toList,H]
     have:=J
     simp only [Array.length_toList] at H
     omega
    ·have u:(es.take k).length*sz=k*sz:=by rw [List.length_take]; congr 1; omega
     have S:(cur.toList.take (k*sz)).length=k*sz:=by rw [List.length_take,Array.length_toList]; omega
     rw [u,V,← G,List.take_take,Nat.min_eq_left I]
     show List.take (k*sz) (_++_++_)=_
     rw [List.append_assoc,List.take_left' S]
end
end
section
open Go.RowKit
theorem pf (n lo hi:Int):
 eB Tryz.prog 89 [(vI n),(vI lo),(vI hi)] [] (vB (decide (lo≤n∧n≤hi))):=by
 refine bG kr Tryz.func89 U U fun D Q hQ hN=>?_
 try dsimp only
 refine WS fun _ B=>bo 1 U<|RK B<|WS fun _ A=>rP 4 [] mn ?_
 refine dp (t:=10) U (aQ fun C=>?_) (aP fun C=>?_)
 ·refine rP 5 [] mn ?_
  refine RK A<|ar<|Q1 hQ U U U ?_
  exact cB (gO.2 I)
 refine rP 5 [] mn ?_
 refine RK A<|ar<|Q1 hQ U U U ?_
 exact cB (ct I).symm
theorem pR (s:aa) (lo hi:Int):
 eB Tryz.prog 90 [(vA (aa.cells s)),(vI lo),(vI hi)] [] (vB (decide (s.Lo≤s.Hi∧lo≤s.Lo∧s.Hi≤hi))):=by
 refine bG kr Tryz.func90 U U fun E Q hQ hN=>?_
 try dsimp only
 refine WS fun _ B=>gd U fun D=>bo 1 U<|RK B<|WS fun _ A=>fY 5 [] (mc 0 U mn) U<|rS (CL (pf s.Lo lo s.Hi) (aI) U)<|rP 1 [] mn ?_
 refine cu (t:=13) U (aP fun C=>?_) (aQ fun C=>?_)
 ·refine rP 6 [] mn ?_
  refine RK A<|ar<|Q1 hQ U U U ?_
  exact cB (ct I).symm
 refine rP 6 [] (mc 0 U mn) ?_
 refine RK A<|ar<|Q1 hQ U U U ?_
 exact cB (gO.2 I)
theorem OJ (t:List ak) (tA:OA) (tC:Nat):
 eB Tryz.prog 55 [(vA (bB.cells (bB.mk (bj.mk tA t.length tC))))] [(rd tA t.length 9 (t.map ak.cells))] (vB (decide (20<(t.length:Int)))):=by
 refine bG kr Tryz.func55 U U fun D Q hQ hN=>?_
 try dsimp only
 refine WS fun _ A=>gd U fun C=>bo 1 U<|RK A<|WS fun _ B=>rP 5 [] (mc 0 U mn) ?_
 refine RK B<|ar ?_
 exact Q1 hQ U U U U
theorem NJ (l:List Int) (lA:OA) (lC:Nat) (f:Value) (p:Int→Bool) (X:av) (hf: ∀ x0,x0∈l→Ew Tryz.prog f [.int .i64 x0] [X] (.bool (p x0))) (hlen:l.length≤1000000):
 eB Tryz.prog 115 [(vS lA l.length lC),f] [(rd lA l.length 1 (l.map iC)),X] (vI (uu p l)):=by
 refine bG kr Tryz.func115 U U fun R Q hQ hN=>?_
 try dsimp only
 refine WS fun _ G=>bo 1 U<|RK G<|aj fun _ H=>WS fun _ AA=>rP 3 [] mn ?_
 refine RK AA<|ax ?_
 have B:(0≤l.length)∧((l.take 0).any p=false):=by simp
 refine bL (ι:={z:Nat // (z≤l.length)∧((l.take z).any p=false)}) [0,1,7] [0,1] U U (fun z=>[(8,(vI (z.1:Int)))]) (fun z=>[]) (fun _=>rfl) (fun _=>rfl) (fun z=>l.length-z.1) ⟨0,B⟩ (aU U) (aG [0,1]) ?_
 clear B
 rintro ⟨i,⟨N,A⟩⟩ J4 F
 try dsimp only
 refine WS fun _ J=>rP 1 [] mn ?_
 refine RK J<|aj fun _ K=>bS U (aP fun P=>?_) (aQ fun P=>?_)
 ·refine bD<|ab<|ab<|ay<|KK H<|WS fun _ E=>rP 1 [] mn ?_
  refine RK E<|ar<|Q1 hQ U U U ?_
  exact cI (s9 I A).symm
 refine WK K<|aj fun _ L=>ax<|WS fun _ M=>bo 2 U<|RK M<|WS fun _ C=>rP 3 [] mn ?_
 obtain ⟨x,hx⟩:=aJ l i I
 have O:=bO iC hx
 refine rS (IA i U (aC 0 U) cL dc I I)<|rS (gi i 0 (vI x) U cj (aC 0 U) O U dc U)<|rS (SX (s7 U U U (hf x (aT hx)) (bp [1])) U U)<|RK C<|cP U (fun hp=>?_) (fun hp=>?_)
 ·refine WS fun _ D=>rP 2 [] mn ?_
  refine RK D<|ar<|Q1 hQ U U U ?_
  exact cI (xC hx hp A).symm
 refine cr<|aH<|KK L<|al<|rP 2 [] mn ?_
 refine aA ?_
 refine aV (F ⟨(i+1),⟨I,xS hx A hp⟩⟩ _ _ _ U os (aU U) (aG [0,1]))
theorem sM (l:List Int) (lA:OA) (lC:Nat) (f:Value) (p:Int→Bool) (X:av) (hf: ∀ x0,x0∈l→Ew Tryz.prog f [.int .i64 x0] [X] (.bool (p x0))) (hlen:l.length≤1000000):
 eB Tryz.prog 76 [(vS lA l.length lC),f] [(rd lA l.length 1 (l.map iC)),X] (vB (l.any p)):=by
 refine bG kr Tryz.func76 U U fun C Q hQ hN=>?_
 try dsimp only
 refine WS fun _ A=>bo 1 U<|RK A<|WS fun _ B=>bo 2 U<|rS (CL (NJ l lA lC f p X (by exact hf) hlen) (bp [0,1]) U)<|rP 2 [] mn ?_
 refine RK B<|ar<|Q1 hQ U U U ?_
 exact cB uy
theorem HU (n lo hi:Int) (g1 g2:Nat):
 eB Tryz.prog 179 [(vI n),(vP g1),(vP g2)] [(cd g1 3 [(vI lo)]),(cd g2 3 [(vI hi)])] (vB (decide (n<lo∨hi<n))):=by
 refine bG kr Tryz.func179 U U fun D Q hQ hN=>?_
 try dsimp only
 refine WS fun _ B=>bo 1 U<|RK B<|WS fun _ A=>rP 4 [] (mr 0 U mn) ?_
 refine dp (t:=8) U (aQ fun C=>?_) (aP fun C=>?_)
 ·refine rP 5 [] mn ?_
  refine RK A<|ar<|Q1 hQ U U U ?_
  exact cB (gf I).symm
 refine rP 5 [] (mr 1 U mn) ?_
 refine RK A<|ar<|Q1 hQ U U U ?_
 exact cB (gO.2 I)
theorem o8 (lo hi:Int) (l:List Int) (lA:OA) (lC:Nat) (hlen:l.length≤1000000):
 eB Tryz.prog 151 [(vI lo),(vI hi),(vS lA l.length lC)] [(rd lA l.length 1 (l.map iC))] (vB (qi lo hi l)):=by
 refine bG kr Tryz.func151 U U fun F Q hQ hN=>?_
 try dsimp only
 refine WS fun _ D=>uG U U fun A=>uG U U fun B=>bo 1 U<|RK D<|WS fun _ E=>rP 1 [] mn ?_
 refine rS (FU U) ?_
 refine rS (CL (sM l lA lC (Value.func (.func 179) [].toArray [(vP A),(vP B)].toArray) (fun C=>(decide (C<lo∨hi<C))) (e9 [(cd A 3 [(vI lo)]),(cd B 3 [(vI hi)])]) (by intro C _; exact oi (fi:=[]) (ca:=[(vP A),(vP B)]) (mA (HU C lo hi A B) (bp [0,1]))) hlen) (fP 2 U U<|au (mB (bp [1,0]))<|aI) U) ?_
 refine rP 2 [] mn ?_
 refine RK E<|ar ?_
 exact Q1 hQ U U U U
theorem wk (s:aa) (lo hi:Int):
 eB Tryz.prog 152 [(vA (aa.cells s)),(vI lo),(vI hi)] [] (vB (decide (s.Lo≤s.Hi∧lo≤s.Lo∧s.Hi≤hi))):=by
 refine bG kr Tryz.func152 U U fun F Q hQ hN=>?_
 try dsimp only
 refine WS fun _ B=>gd U fun E=>bo 1 U<|RK B<|WS fun _ A=>rP 6 [] (mc 0 U mn) ?_
 refine c_ (xs:=[.tmp 10,.tmp 12]) (cs:=[(vI s.Lo),(vI s.Hi)]) U cL jA U U U U (by simp [Value.cells]) U U fun C=>?_
 refine rS (CL (eB.eq (o8 lo hi ([s.Lo,s.Hi]) (some ⟨C,0,none⟩) 2 (by (simp; done))) rG) (au (aZ 0 U U (by simp [bI]) U)<|aI) U) ?_
 refine rP 1 [] mn ?_
 refine cu (t:=15) U (aP fun D=>?_) (aQ fun D=>?_)
 ·refine rP 7 [] mn ?_
  refine RK A<|ar<|Q1 hQ U U U ?_
  exact cB (ct I).symm
 refine rP 7 [] (mc 1 U mn) ?_
 refine RK A<|ar<|Q1 hQ U U U ?_
 exact cB (gO.2 I)
theorem wy (ts:List ak) (tsA:OA) (tsC:Nat) (hlen:ts.length≤1000000):
 eB Tryz.prog 56 [(vA (bB.cells (bB.mk (bj.mk tsA ts.length tsC))))] [(rd tsA ts.length 9 (ts.map ak.cells))] (vB (db ts)):=by
 refine bG kr Tryz.func56 U U fun w0 Q hQ hN=>?_
 try dsimp only
 refine WS fun _ C1=>gd U fun b2=>bo 1 U<|RK C1<|aj fun _ C2=>WS fun _ C3=>fY 3 [] (mc 0 U mn) U<|rS (CL (pf (ts.length:Int) 1 12) (aI) U)<|rP 1 [] mn ?_
 refine RK C3<|cP U (bx fun h5=>?_) (bw fun h5=>?_)
 ·refine WS fun _ DL=>rP 1 [] mn ?_
  refine RK DL<|ar<|Q1 hQ U U U ?_
  exact cB (oQ I).symm
 refine WK C2<|aj fun _ Di=>WS fun _ Do=>rP 1 [] mn ?_
 refine RK Do<|ax ?_
 have E:(0≤ts.length)∧(eY (-1) ts=eY (gF ts 0) (ts.drop 0))∧(-1≤gF ts 0):=by (refine ⟨I,rfl,by simp [gF]⟩)
 refine bL (ι:={z:Nat // (z≤ts.length)∧(eY (-1) ts=eY (gF ts z) (ts.drop z))∧(-1≤gF ts z)}) [1] [0,1] U U (fun z=>[(3,(vI (z.1:Int)))]) (fun z=>[]) (fun _=>rfl) (fun _=>rfl) (fun z=>ts.length-z.1) ⟨0,E⟩ (aU U) (aG [0,1]) ?_
 clear E
 rintro ⟨i,⟨EQ,A,Eq⟩⟩ J9 D
 try dsimp only
 have hz:i=0→gF ts i= -1:=BB
 refine aj fun _ K=>WS fun _ L=>rP 5 [] (mc 0 U mn) ?_
 refine RK L<|bS U (aP fun v=>?_) (aQ fun v=>?_)
 ·refine bD<|ab<|ab<|ay<|KK Di<|WS fun _ u=>rP 1 [] mn ?_
  refine RK u<|ar<|Q1 hQ U U U ?_
  exact cB (vO A I I).symm
 refine WK K<|aj fun _ C=>ax<|WS fun _ M=>rP 3 [] (mc 0 U mn) ?_
 obtain ⟨x,hx⟩:=aJ ts i I
 have FR:=bO ak.cells hx
 refine rS (IA i U (aC 1 U) wQ dc I I)<|rS (oY i 0 (ak.cells x) U cj (aC 1 U) FR U dc U U)<|AL U F8 fun FT=>gl U Km U<|RK M<|aj fun _ F=>aj fun _ B=>dH cx 38 kr<|mV 2 [] (mc 0 U mn) U<|dS (CL (pf x.Id 0 9999) (aI) U)<|dP 2 [] mn ?_
 refine js (t:=26) U (bx fun w=>?_) (bw fun w=>?_)
 ·refine lQ 11 U<|lQ 22 U<|cQ<|RK B<|aR U<|WS fun _ N=>rP 1 [] mn ?_
  refine RK N<|ar<|Q1 hQ U U U ?_
  exact cB (dZ A hx (by simp only [bQ,eh]; omega)).symm
 refine dP 3 [] mn ?_
 refine jl (t:=29) U (aP fun AC=>?_) (aQ fun AC=>?_)
 ·refine lQ 8 U<|lQ 6 U<|dS (LP (aa.cells x.kO) 0 U cj U U U)<|dS (CL (pR x.kO 1 30000) (aI) U)<|dP 3 [] mn ?_
  refine js (t:=48) U (bx fun A9=>?_) (bw fun A9=>?_)
  ·refine lQ 11 U<|cQ<|RK B<|aR U<|WS fun _ e=>rP 1 [] mn ?_
   refine RK e<|ar<|Q1 hQ U U U ?_
   exact cB (dZ A hx (by simp only [bQ,eh]; omega)).symm
  refine lQ 1 U<|dS (LP (aa.cells x.l7) 0 U cj U U U)<|dS (CL (pR x.l7 0 5000) (aI) U)<|dP 3 [] mn ?_
  refine js (t:=54) U (bx fun Bm=>?_) (bw fun Bm=>?_)
  ·refine lQ 5 U<|cQ<|RK B<|aR U<|WS fun _ f=>rP 1 [] mn ?_
   refine RK f<|ar<|Q1 hQ U U U ?_
   exact cB (dZ A hx (by simp only [bQ,eh]; omega)).symm
  refine mV 2 [] (mc 0 U mn) U<|dS (CL (pf x.Ao 0 5000) (aI) U)<|dP 2 [] mn ?_
  refine cQ<|RK B<|cP U (bx fun B3=>?_) (bw fun B3=>?_)
  ·refine WS fun _ g=>rP 1 [] mn ?_
   refine RK g<|ar<|Q1 hQ U U U ?_
   exact cB (dZ A hx (by simp only [bQ,eh]; omega)).symm
  refine WK F<|WS fun _ h=>fY 2 [] (mc 0 U mn) U<|RK h<|ax<|WS fun _ j=>rS (BI U mJ)<|rP 1 [] mn ?_
  refine RK j<|cP U (aQ fun B7=>?_) (aP fun B7=>?_)
  ·refine WS fun _ AB=>rP 5 [] (mc 0 U mn) ?_
   refine dp (t:=68) U (bx fun B9=>?_) (bw fun B9=>?_)
   ·refine bo 5 U<|RK AB<|aR U<|WS fun _ k=>rP 1 [] mn ?_
    refine RK k<|ar<|Q1 hQ U U U ?_
    exact cB (dZ A hx (by simp only [bQ,eh]; omega)).symm
   refine rP 5 [] (mc 0 U mn) ?_
   refine RK AB<|bS U (bw fun Ca=>?_) (bx fun Ca=>?_)
   ·refine cr<|aH<|aH<|KK C<|al<|rP 3 [] mn ?_
    refine aA ?_
    refine aV (D ⟨(i+1),⟨I,g5 A hx (by simp only [bQ,eh]; omega),by rw [gv hx]; omega⟩⟩ _ _ _ U os (aU U) (aG [1,2]))
   refine WS fun _ l=>rP 1 [] mn ?_
   refine RK l<|ar<|Q1 hQ U U U ?_
   exact cB (dZ A hx (by simp only [bQ,eh]; omega)).symm
  refine aj fun _ J=>WS fun _ m=>rS (BI U mJ)<|rP 1 [] mn ?_
  refine RK m<|cP U (aQ fun Ci=>?_) (aP fun Ci=>?_)
  ·refine WK J<|bS U (aP fun Ck=>?_) (aQ fun Ck=>?_)
   ·refine WS fun _ p=>rP 1 [] mn ?_
    refine RK p<|ar<|Q1 hQ U U U ?_
    exact cB (oQ I).symm
   refine WS fun _ n=>bo 1 U<|rS (LP (aa.cells x.eN) 0 U cj U U U)<|rS (CL (pR x.eN 500 20000) (aI) U)<|rP 1 [] mn ?_
   refine RK n<|bS U (bw fun Cp=>?_) (bx fun Cp=>?_)
   ·refine cr<|aH<|aH<|KK C<|al<|rP 3 [] mn ?_
    refine aA ?_
    refine aV (D ⟨(i+1),⟨I,g5 A hx (by simp only [bQ,eh]; omega),by rw [gv hx]; omega⟩⟩ _ _ _ U os (aU U) (aG [1,2]))
   refine WS fun _ o=>rP 1 [] mn ?_
   refine RK o<|ar<|Q1 hQ U U U ?_
   exact cB (dZ A hx (by simp only [bQ,eh]; omega)).symm
  refine al<|rS (BI U mJ)<|rP 1 [] mn ?_
  refine RK J<|bS U (aP fun Cx=>?_) (aQ fun Cx=>?_)
  ·refine WS fun _ s=>rP 1 [] mn ?_
   refine RK s<|ar<|Q1 hQ U U U ?_
   exact cB (dZ A hx (by simp only [bQ,eh]; omega)).symm
  refine WS fun _ q=>bo 1 U<|rS (LP (aa.cells x.eN) 0 U cj U U U)<|rS (CL (pR x.eN 500 20000) (aI) U)<|rP 1 [] mn ?_
  refine RK q<|bS U (bw fun C0=>?_) (bx fun C0=>?_)
  ·refine cr<|aH<|aH<|KK C<|al<|rP 3 [] mn ?_
   refine aA ?_
   refine aV (D ⟨(i+1),⟨I,g5 A hx (by simp only [bQ,eh]; omega),by rw [gv hx]; omega⟩⟩ _ _ _ U os (aU U) (aG [1,2]))
  refine WS fun _ r=>rP 1 [] mn ?_
  refine RK r<|ar<|Q1 hQ U U U ?_
  exact cB (dZ A hx (by simp only [bQ,eh]; omega)).symm
 refine dP 6 [0,1] (mc 0 U (mc 1 U mn)) ?_
 obtain ⟨y,hy⟩:=aJ ts (i-1) I
 have FS:=bO ak.cells hy
 refine dS (IA (i-1) U (aC 2 U) wQ dc I I)<|dS (mW ((i-1)*9) U (aC 2 U) (Nat.mul_pos I dc) fw U) ?_
 have Fn:=Ec I hy
 refine dS (gi (i-1) 0 (vI y.Id) U cj (aC 2 U) FS U dc U)<|dP 4 [] mn ?_
 refine js (t:=42) U (aQ fun AO=>?_) (aP fun AO=>?_)
 ·refine lQ 17 U<|cQ<|RK B<|aR U<|WS fun _ O=>rP 1 [] mn ?_
  refine RK O<|ar<|Q1 hQ U U U ?_
  exact cB (dZ A hx (by simp only [bQ,eh]; omega)).symm
 refine lQ 1 U<|dS (LP (aa.cells x.kO) 0 U cj U U U)<|dS (CL (pR x.kO 1 30000) (aI) U)<|dP 3 [] mn ?_
 refine js (t:=48) U (bx fun AS=>?_) (bw fun AS=>?_)
 ·refine lQ 11 U<|cQ<|RK B<|aR U<|WS fun _ P=>rP 1 [] mn ?_
  refine RK P<|ar<|Q1 hQ U U U ?_
  exact cB (dZ A hx (by simp only [bQ,eh]; omega)).symm
 refine lQ 1 U<|dS (LP (aa.cells x.l7) 0 U cj U U U)<|dS (CL (pR x.l7 0 5000) (aI) U)<|dP 3 [] mn ?_
 refine js (t:=54) U (bx fun Ap=>?_) (bw fun Ap=>?_)
 ·refine lQ 5 U<|cQ<|RK B<|aR U<|WS fun _ R=>rP 1 [] mn ?_
  refine RK R<|ar<|Q1 hQ U U U ?_
  exact cB (dZ A hx (by simp only [bQ,eh]; omega)).symm
 refine mV 2 [] (mc 0 U mn) U<|dS (CL (pf x.Ao 0 5000) (aI) U)<|dP 2 [] mn ?_
 refine cQ<|RK B<|cP U (bx fun A0=>?_) (bw fun A0=>?_)
 ·refine WS fun _ S=>rP 1 [] mn ?_
  refine RK S<|ar<|Q1 hQ U U U ?_
  exact cB (dZ A hx (by simp only [bQ,eh]; omega)).symm
 refine WK F<|WS fun _ T=>fY 2 [] (mc 0 U mn) U<|RK T<|ax<|WS fun _ AA=>rS (BI U mJ)<|rP 1 [] mn ?_
 refine RK AA<|cP U (aQ fun A1=>?_) (aP fun A1=>?_)
 ·refine WS fun _ G=>rP 5 [] (mc 0 U mn) ?_
  refine dp (t:=68) U (bx fun A2=>?_) (bw fun A2=>?_)
  ·refine bo 5 U<|RK G<|aR U<|WS fun _ V=>rP 1 [] mn ?_
   refine RK V<|ar<|Q1 hQ U U U ?_
   exact cB (dZ A hx (by simp only [bQ,eh]; omega)).symm
  refine rP 5 [] (mc 0 U mn) ?_
  refine RK G<|bS U (bw fun A3=>?_) (bx fun A3=>?_)
  ·refine cr<|aH<|aH<|KK C<|al<|rP 3 [] mn ?_
   refine aA ?_
   refine aV (D ⟨(i+1),⟨I,g5 A hx (by simp only [bQ,eh]; omega),by rw [gv hx]; omega⟩⟩ _ _ _ U os (aU U) (aG [1,2]))
  refine WS fun _ W=>rP 1 [] mn ?_
  refine RK W<|ar<|Q1 hQ U U U ?_
  exact cB (dZ A hx (by simp only [bQ,eh]; omega)).symm
 refine aj fun _ H=>WS fun _ X=>rS (BI U mJ)<|rP 1 [] mn ?_
 refine RK X<|cP U (aQ fun A4=>?_) (aP fun A4=>?_)
 ·refine WK H<|bS U (aP fun A5=>?_) (aQ fun A5=>?_)
  ·refine WS fun _ a=>rP 1 [] mn ?_
   refine RK a<|ar<|Q1 hQ U U U ?_
   exact cB (oQ I).symm
  refine WS fun _ Y=>bo 1 U<|rS (LP (aa.cells x.eN) 0 U cj U U U)<|rS (CL (pR x.eN 500 20000) (aI) U)<|rP 1 [] mn ?_
  refine RK Y<|bS U (bw fun A6=>?_) (bx fun A6=>?_)
  ·refine cr<|aH<|aH<|KK C<|al<|rP 3 [] mn ?_
   refine aA ?_
   refine aV (D ⟨(i+1),⟨I,g5 A hx (by simp only [bQ,eh]; omega),by rw [gv hx]; omega⟩⟩ _ _ _ U os (aU U) (aG [1,2]))
  refine WS fun _ Z=>rP 1 [] mn ?_
  refine RK Z<|ar<|Q1 hQ U U U ?_
  exact cB (dZ A hx (by simp only [bQ,eh]; omega)).symm
 refine al<|rS (BI U mJ)<|rP 1 [] mn ?_
 refine RK H<|bS U (aP fun A7=>?_) (aQ fun A7=>?_)
 ·refine WS fun _ d=>rP 1 [] mn ?_
  refine RK d<|ar<|Q1 hQ U U U ?_
  exact cB (dZ A hx (by simp only [bQ,eh]; omega)).symm
 refine WS fun _ b=>bo 1 U<|rS (LP (aa.cells x.eN) 0 U cj U U U)<|rS (CL (pR x.eN 500 20000) (aI) U)<|rP 1 [] mn ?_
 refine RK b<|bS U (bw fun A8=>?_) (bx fun A8=>?_)
 ·refine cr<|aH<|aH<|KK C<|al<|rP 3 [] mn ?_
  refine aA ?_
  refine aV (D ⟨(i+1),⟨I,g5 A hx (by simp only [bQ,eh]; omega),by rw [gv hx]; omega⟩⟩ _ _ _ U os (aU U) (aG [1,2]))
 refine WS fun _ c=>rP 1 [] mn ?_
 refine RK c<|ar<|Q1 hQ U U U ?_
 exact cB (dZ A hx (by simp only [bQ,eh]; omega)).symm
theorem B_ (ts:List ak) (tsA:OA) (tsC:Nat) (hlen:ts.length≤1000000) (hside: ∀ x∈ts,0≤x.jq∧x.jq≤255):
 eB Tryz.prog 110 [(vA (bB.cells (bB.mk (bj.mk tsA ts.length tsC))))] [(rd tsA ts.length 9 (ts.map ak.cells))] (vI (if db ts=true then 0 else 10)):=by
 refine bG kr Tryz.func110 U U fun w0 Q hQ hN=>?_
 try dsimp only
 refine WS fun _ v=>gd U fun b2=>bo 1 U<|RK v<|z9 U<|aj fun _ w=>WS fun _ y=>rP 3 [] (mc 0 U mn) ?_
 refine c_ (xs:=[.tmp 11]) (cs:=[(vI (ts.length:Int))]) U cL jA U U U U (by simp [Value.cells]) U U fun b5=>?_
 refine rS (CL (eB.eq (o8 1 12 ([(ts.length:Int)]) (some ⟨b5,0,none⟩) 1 (by (simp; done))) cZ) (au (aZ 0 U U (by simp [bI]) U)<|aI) U) ?_
 refine rP 1 [] mn ?_
 refine RK y<|cP U (bx fun h6=>?_) (bw fun h6=>?_)
 ·refine WS fun _ AC=>rP 1 [] mn ?_
  refine RK AC<|ar<|Q1 hQ U U U ?_
  exact cI (if_neg (by rw [oQ I]; decide)).symm
 refine WK w<|WS fun _ AO=>bo 1 U<|RK AO<|WS fun _ AS=>bo 1 U<|RK AS<|aj fun _ J=>AJ<|KK J<|aj fun _ B=>WS fun _ K=>rP 4 [] (mc 1 U mn) ?_
 refine RK K<|ax ?_
 have D:(0≤ts.length)∧(eY (-1) ts=eY (gF ts 0) (ts.drop 0))∧(-1≤gF ts 0)∧(gF ts 0≤9999):=by (refine ⟨I,rfl,by simp [gF],by simp [gF]⟩)
 refine bL (ι:={z:Nat // (z≤ts.length)∧(eY (-1) ts=eY (gF ts z) (ts.drop z))∧(-1≤gF ts z)∧(gF ts z≤9999)}) [1,4,16,17] [1,2] U U (fun z=>[(3,(vI (gF ts z.1))),(18,(vI (z.1:Int)))]) (fun z=>[]) (fun _=>rfl) (fun _=>rfl) (fun z=>ts.length-z.1) ⟨0,D⟩ (aU U) (aG [1,2]) ?_
 clear D
 rintro ⟨i,⟨Ap,A,A0,A1⟩⟩ J13 E
 try dsimp only
 refine WS fun _ L=>rP 1 [] mn ?_
 refine RK L<|aj fun _ M=>bS U (aP fun k=>?_) (aQ fun k=>?_)
 ·refine bD<|ab<|ab<|ay<|KK B<|WS fun _ O=>rP 2 [] mn ?_
  refine RK O<|ar<|Q1 hQ U U U ?_
  exact cI (if_pos (vO A I I)).symm
 refine WK M<|aj fun _ F=>ax<|WS fun _ N=>?_
 obtain ⟨x,hx⟩:=aJ ts i I
 have A2:=bO ak.cells hx
 refine rS (IA i U (aC 1 U) wQ dc I I) ?_
 have A6:=hside x (aT hx)
 refine rS (oY i 0 (ak.cells x) U cj (aC 1 U) A2 U dc U U)<|AL U F8 fun A3=>gl U Km U<|RK N ?_
 refine mw (ι:=Unit) [1,3,4,6,16,17,18] [0,1,2] U U (fun z=>[(7,(vB (decide (x.jq=0∧x.eN.Lo=0∧x.eN.Hi=0))))]) (fun z=>[]) (fun _=>rfl) (fun _=>rfl) ?_ fun K20 G=>?_
 ·intro _
  try dsimp only
  refine mw (ι:=Unit) [1,3,4,6,7,16,17,18] [0,1,2] U U (fun z=>[(8,(vB (decide ((1≤x.jq∧x.jq≤2)∧x.eN.Lo≤x.eN.Hi∧500≤x.eN.Lo∧x.eN.Hi≤20000))))]) (fun z=>[]) (fun _=>rfl) (fun _=>rfl) ?_ fun K21 H=>?_
  ·intro _
   try dsimp only
   refine aj fun _ AB=>WS fun _ C=>rP 4 [] (mc 0 U mn) ?_
   refine c_ (xs:=[.tmp 44]) (cs:=[(vI x.Id)]) U cL jA U U U U (by simp [Value.cells]) U U fun h=>?_
   refine rS (CL (eB.eq (o8 ((gF ts i)+1) 9999 ([x.Id]) (some ⟨h,0,none⟩) 1 (by (simp; done))) cZ) (au (aZ 0 U U (by simp [bI]) U)<|aI) U) ?_
   refine rP 2 [] mn ?_
   refine dp (t:=48) U (bx fun o=>?_) (bw fun o=>?_)
   ·refine bo 26 U<|RK C<|aR U<|WS fun _ P=>bo 1 U<|RK P<|bD<|ab<|iX U<|ab<|ab<|ay<|KK B<|WS fun _ R=>rP 2 [] mn ?_
    refine RK R<|ar<|Q1 hQ U U U ?_
    exact cI (if_neg (by rw [dZ A hx (by simp only [bQ,eh]; omega)]; decide)).symm
   refine bo 1 U<|rS (LP (aa.cells x.kO) 1 U cj U U U)<|rS (CL (wk x.kO 1 30000) (aI) U)<|rP 3 [] mn ?_
   refine dp (t:=54) U (bx fun p=>?_) (bw fun p=>?_)
   ·refine bo 20 U<|RK C<|aR U<|WS fun _ S=>bo 1 U<|RK S<|bD<|ab<|iX U<|ab<|ab<|ay<|KK B<|WS fun _ T=>rP 2 [] mn ?_
    refine RK T<|ar<|Q1 hQ U U U ?_
    exact cI (if_neg (by rw [dZ A hx (by simp only [bQ,eh]; omega)]; decide)).symm
   refine bo 1 U<|rS (LP (aa.cells x.l7) 1 U cj U U U)<|rS (CL (wk x.l7 0 5000) (aI) U)<|rP 3 [] mn ?_
   refine dp (t:=60) U (bx fun q=>?_) (bw fun q=>?_)
   ·refine bo 14 U<|RK C<|aR U<|WS fun _ AA=>bo 1 U<|RK AA<|bD<|ab<|iX U<|ab<|ab<|ay<|KK B<|WS fun _ V=>rP 2 [] mn ?_
    refine RK V<|ar<|Q1 hQ U U U ?_
    exact cI (if_neg (by rw [dZ A hx (by simp only [bQ,eh]; omega)]; decide)).symm
   refine rP 2 [] (mc 1 U mn) ?_
   refine c_ (xs:=[.tmp 62]) (cs:=[(vI x.Ao)]) U cL jA U U U U (by simp [Value.cells]) U U fun j=>?_
   refine rS (CL (eB.eq (o8 0 5000 ([x.Ao]) (some ⟨j,0,none⟩) 1 (by (simp; done))) cZ) (au (aZ 0 U U (by simp [bI]) U)<|aI) U) ?_
   refine rP 3 [] mn ?_
   refine dp (t:=67) U (bx fun r=>?_) (bw fun r=>?_)
   ·refine bo 7 U<|RK C<|aR U<|WS fun _ W=>bo 1 U<|RK W<|bD<|ab<|iX U<|ab<|ab<|ay<|KK B<|WS fun _ X=>rP 2 [] mn ?_
    refine RK X<|ar<|Q1 hQ U U U ?_
    exact cI (if_neg (by rw [dZ A hx (by simp only [bQ,eh]; omega)]; decide)).symm
   refine rP 3 [] mn ?_
   refine cu (t:=70) U (bw fun s=>?_) (bx fun s=>?_)
   ·refine bo 4 U<|RK C<|a_ U<|WK AB<|al<|fY 3 [] (mc 2 U mn) U<|aA<|aH<|KK F<|al<|rP 2 [] mn ?_
    refine aA ?_
    have f:(vI (gF ts (i+1)))=(vI x.Id):=by rw [gv hx]
    refine aV (E ⟨(i+1),⟨I,g5 A hx (by simp only [bQ,eh]; omega),by rw [gv hx]; omega,by rw [gv hx]; omega⟩⟩ _ _ _ U os (cU 4<|bk U f<|aU U) (aG [3,4]))
   refine rP 4 [] mn ?_
   refine RK C<|bS U (bw fun u=>?_) (bx fun u=>?_)
   ·refine WK AB<|al<|fY 3 [] (mc 2 U mn) U<|aA<|aH<|KK F<|al<|rP 2 [] mn ?_
    refine aA ?_
    have e:(vI (gF ts (i+1)))=(vI x.Id):=by rw [gv hx]
    refine aV (E ⟨(i+1),⟨I,g5 A hx (by simp only [bQ,eh]; omega),by rw [gv hx]; omega,by rw [gv hx]; omega⟩⟩ _ _ _ U os (cU 4<|bk U e<|aU U) (aG [3,4]))
   refine WS fun _ Y=>bo 1 U<|RK Y<|bD<|ab<|iX U<|ab<|ab<|ay<|KK B<|WS fun _ Z=>rP 2 [] mn ?_
   refine RK Z<|ar<|Q1 hQ U U U ?_
   exact cI (if_neg (by rw [dZ A hx (by simp only [bQ,eh]; omega)]; decide)).symm
  refine al<|rP 2 [] (mc 0 U mn) ?_
  refine rS (SX (tO (m:=x.jq) U U Ru qp (qB (by first|assumption|omega))) U U)<|c_ (xs:=[.tmp 33]) (cs:=[(vI x.jq)]) U cL jA U U U U (by simp [Value.cells]) U U fun g=>?_
  refine rS (CL (eB.eq (o8 1 2 ([x.jq]) (some ⟨g,0,none⟩) 1 (by (simp; done))) cZ) (au (aZ 0 U U (by simp [bI]) U)<|aI) U) ?_
  refine rP 1 [] mn ?_
  refine cu (t:=36) U (aP fun n=>?_) (aQ fun n=>?_)
  ·refine rP 5 [] mn ?_
   refine aA ?_
   have d:(decide ((1≤x.jq∧x.jq≤2)∧x.eN.Lo≤x.eN.Hi∧500≤x.eN.Lo∧x.eN.Hi≤20000))=false:=ct I
   refine aV (ja (cU 8<|ob U d<|dF.nil _) (aG [1,2,3]) (H ()))
  refine bo 1 U<|rS (LP (aa.cells x.eN) 1 U cj U U U)<|rS (CL (wk x.eN 500 20000) (aI) U)<|rP 2 [] mn ?_
  refine aA ?_
  have c:(decide ((1≤x.jq∧x.jq≤2)∧x.eN.Lo≤x.eN.Hi∧500≤x.eN.Lo∧x.eN.Hi≤20000))=(decide (x.eN.Lo≤x.eN.Hi∧500≤x.eN.Lo∧x.eN.Hi≤20000)):=gO.2 I
  refine aV (ja (cU 8<|ob U c<|dF.nil _) (aG [1,2,3]) (H ()))
 refine al<|fY 2 [] (mc 0 U mn) U<|rS (BI U mJ)<|rP 1 [] mn ?_
 refine cu (t:=25) U (aP fun l=>?_) (aQ fun l=>?_)
 ·refine rP 6 [] mn ?_
  refine aA ?_
  have b:(decide (x.jq=0∧x.eN.Lo=0∧x.eN.Hi=0))=false:=ct I
  refine aV (ja (cU 7<|ob U b<|dF.nil _) (aG [0,1,2]) (G ()))
 refine bo 1 U<|rS (LP (aa.cells x.eN) 0 U cj U U U)<|rS (SX (bh (xs:=[]) (cs:=(aa.cells (aa.mk 0 0))) U U (bg gH U)) U U)<|rS (BI U (tH _ _ x.eN (aa.mk 0 0)))<|rP 2 [] mn ?_
 refine aA ?_
 have a:(decide (x.jq=0∧x.eN.Lo=0∧x.eN.Hi=0))=(decide (x.eN=(aa.mk 0 0))):=gO.2 (by (simp only [aa.ext_iff] at *; omega))
 refine aV (ja (cU 7<|ob U a<|dF.nil _) (aG [0,1,2]) (G ()))
theorem Rh (ts:List ak) (tsA:OA) (tsC:Nat) (hlen:ts.length≤1000000):
 lB Tryz.prog 80 [(vA (bB.cells (bB.mk (bj.mk tsA ts.length tsC))))] [(rd tsA ts.length 9 (ts.map ak.cells))] (fun (x:(OA)×Nat)=>(vA (bB.cells (bB.mk (bj.mk x.1 ts.length x.2))))) (fun (x:(OA)×Nat)=>True) (fun (x:(OA)×Nat)=>[(own x.1 x.2 153 9 (ts.map ak.cells))]):=by
 refine di kr Tryz.func80 U U fun H Q hQ hN=>?_
 try dsimp only
 refine WS fun _ A=>gd U fun F=>AL U Vu fun G=>RK A<|WS fun _ B=>ld U wQ U fun E=>rP 2 [] (mc 2 U mn) ?_
 refine cR (es:=(List.map ak.cells [])) (C':=[own (some ⟨E,0,none⟩) 0 153 9 (List.map ak.cells []),_,_,_]) 0 U sm U (by simp [maxLen]) U ?_
 refine ck (es2:=(List.map ak.cells ts)) (m':=ts.length) 0 U U U Up U U sm (aC 3 U) (nH _) os (by first|(simp only [maxLen]; omega)|(simp [maxLen]; omega)) sm sm U fun C D=>?_
 try dsimp only
 refine rS (SX (bh (xs:=[(0,.tmp 6)]) (cs:=(bB.cells (bB.mk (bj.mk C ts.length D)))) U U (bg SP U)) U U)<|ti U Uq U<|RK B<|ar<|LX hQ (C,D) [0] [0] (mc 1 U mn) U U U U ?_
 trivial
end
section
open Go.RowKit
theorem Jh (n lo hi:Int) (g1 g2:Nat):
 eB Tryz.prog 77 [(vI n),(vP g1),(vP g2)] [(cd g1 3 [(vI lo)]),(cd g2 3 [(vI hi)])] (vB (decide (n<lo∨hi<n))):=by
 refine bG kr Tryz.func77 U U fun D Q hQ hN=>?_
 try dsimp only
 refine WS fun _ B=>bo 1 U<|RK B<|WS fun _ A=>rP 4 [] (mr 0 U mn) ?_
 refine dp (t:=8) U (aQ fun C=>?_) (aP fun C=>?_)
 ·refine rP 5 [] mn ?_
  refine RK A<|ar<|Q1 hQ U U U ?_
  exact cB (gf I).symm
 refine rP 5 [] (mr 1 U mn) ?_
 refine RK A<|ar<|Q1 hQ U U U ?_
 exact cB (gO.2 I)
theorem kx (lo hi:Int) (l:List Int) (lA:OA) (lC:Nat) (hlen:l.length≤1000000):
 eB Tryz.prog 39 [(vI lo),(vI hi),(vS lA l.length lC)] [(rd lA l.length 1 (l.map iC))] (vB (qi lo hi l)):=by
 refine bG kr Tryz.func39 U U fun F Q hQ hN=>?_
 try dsimp only
 refine WS fun _ D=>uG U U fun A=>uG U U fun B=>bo 1 U<|RK D<|WS fun _ E=>rP 1 [] mn ?_
 refine rS (FU U) ?_
 refine rS (CL (sM l lA lC (Value.func (.func 77) [].toArray [(vP A),(vP B)].toArray) (fun C=>(decide (C<lo∨hi<C))) (e9 [(cd A 3 [(vI lo)]),(cd B 3 [(vI hi)])]) (by intro C _; exact oi (fi:=[]) (ca:=[(vP A),(vP B)]) (mA (Jh C lo hi A B) (bp [0,1]))) hlen) (fP 2 U U<|au (mB (bp [1,0]))<|aI) U) ?_
 refine rP 2 [] mn ?_
 refine RK E<|ar ?_
 exact Q1 hQ U U U U
theorem Gk (s:aa):
 eB Tryz.prog 107 [(vA (aa.cells s))] [] (vB (decide (iU s))):=by
 refine bG kr Tryz.func107 U U fun F Q hQ hN=>?_
 try dsimp only
 refine WS fun _ B=>gd U fun E=>bo 1 U<|RK B<|WS fun _ A=>rP 4 [] (mc 0 U mn) ?_
 refine c_ (xs:=[.tmp 4,.tmp 6]) (cs:=[(vI s.Lo),(vI s.Hi)]) U cL jA U U U U (by simp [Value.cells]) U U fun C=>?_
 refine rS (CL (eB.eq (kx 1 600000 ([s.Lo,s.Hi]) (some ⟨C,0,none⟩) 2 (by (simp; done))) rG) (au (aZ 0 U U (by simp [bI]) U)<|aI) U) ?_
 refine rP 1 [] mn ?_
 refine cu (t:=9) U (aP fun D=>?_) (aQ fun D=>?_)
 ·refine rP 7 [] mn ?_
  refine RK A<|ar<|Q1 hQ U U U ?_
  simp only [iU]
  exact cB (ct I).symm
 refine rP 7 [] (mc 1 U mn) ?_
 refine RK A<|ar<|Q1 hQ U U U ?_
 simp only [iU]
 exact cB (gO.2 I)
theorem JP (d:aw) (sgA:OA) (sgC:Nat):
 eB Tryz.prog 217 [(vA (bq.cells (bq.mk d.Out d.eV d.Time (mh d.cv sgA sgC))))] [(rd sgA d.cv.ai.length 2 (d.cv.ai.map aK.cells))] (vB (decide (mQ d.cv))):=by
 refine bG kr Tryz.func217 U U fun F Q hQ hN=>?_
 try dsimp only
 refine WS fun _ B=>gd U fun E=>bo 1 U<|RK B<|WS fun _ A=>rP 5 [] (mc 0 U mn) ?_
 refine cu (t:=7) U (aP fun C=>?_) (aQ fun C=>?_)
 ·refine rP 13 [] mn ?_
  refine RK A<|ar<|Q1 hQ U U U ?_
  simp only [mQ]
  exact cB (ct I).symm
 refine rP 6 [] (mc 0 U mn) ?_
 refine cu (t:=13) U (aP fun D=>?_) (aQ fun D=>?_)
 ·refine rP 7 [] mn ?_
  refine RK A<|ar<|Q1 hQ U U U ?_
  simp only [mQ]
  exact cB (ct I).symm
 refine rP 7 [] (mc 0 U mn) ?_
 refine RK A<|ar<|Q1 hQ U U U ?_
 simp only [mQ]
 exact cB (gO.2 I)
theorem TW (d:aw) (sgA:OA) (sgC:Nat):
 eB Tryz.prog 215 [(vA (bq.cells (bq.mk d.Out d.eV d.Time (mh d.cv sgA sgC))))] [(rd sgA d.cv.ai.length 2 (d.cv.ai.map aK.cells))] (vB d.Out):=by
 refine bG kr Tryz.func215 U U fun D Q hQ hN=>?_
 try dsimp only
 refine WS fun _ A=>gd U fun C=>bo 1 U<|RK A<|WS fun _ B=>rP 3 [] (mc 0 U mn) ?_
 refine RK B<|ar<|Q1 hQ U U U ?_
 rfl
theorem TP (d:aw) (sgA:OA) (sgC:Nat):
 eB Tryz.prog 218 [(vA (bq.cells (bq.mk d.Out d.eV d.Time (mh d.cv sgA sgC))))] [(rd sgA d.cv.ai.length 2 (d.cv.ai.map aK.cells))] (vB d.eV):=by
 refine bG kr Tryz.func218 U U fun D Q hQ hN=>?_
 try dsimp only
 refine WS fun _ A=>gd U fun C=>bo 1 U<|RK A<|WS fun _ B=>rP 3 [] (mc 0 U mn) ?_
 refine RK B<|ar<|Q1 hQ U U U ?_
 rfl
theorem Sb (d:aw) (sgA:OA) (sgC:Nat):
 eB Tryz.prog 220 [(vA (bq.cells (bq.mk d.Out d.eV d.Time (mh d.cv sgA sgC))))] [(rd sgA d.cv.ai.length 2 (d.cv.ai.map aK.cells))] (vB true):=by
 refine bG kr Tryz.func220 U U fun D Q hQ hN=>?_
 try dsimp only
 refine WS fun _ A=>gd U fun C=>bo 1 U<|RK A<|WS fun _ B=>rP 1 [] mn ?_
 refine RK B<|ar<|Q1 hQ U U U ?_
 rfl
end
section
open Go.RowKit
theorem Bf (r:bY) (kA:OA) (kC:Nat) (az:List RA) (cA:OA) (cC:Nat) (bA:OA) (bC:Nat) (slA:OA) (slC:Nat) (drA:OA) (drC:Nat) (ha:List cK) (heA:OA) (heC:Nat) (tz:List RA) (tA:OA) (tC:Nat) (ms:Value) (gw:Nat) (l:List Int) (lA:OA) (lC:Nat) (hin:fp r az ha) (hlen:l.length≤1000000):
 eB Tryz.prog 48 [(vP gw),(vS lA l.length lC)] [(rd kA r.an.aL.length 9 (r.an.aL.map ak.cells)),(rd cA r.an.ah.length 2 (List.zipWith ao.cells r.an.ah az)),(e9 (aW ao.gP r.an.ah az)),(rd bA r.an.ae.length 4 (r.an.ae.map bE.cells)),(rd slA r.aM.length 1 (r.aM.map iC)),(rd drA r.bK.length 1 (r.bK.map iC)),(rd heA r.aq.length 1 (List.zipWith cD r.aq ha)),(e9 (aW iy r.aq ha)),(rd tA ((cT r).length) 1 (List.zipWith E4 (cT r) tz)),(e9 (aW M1 (cT r) tz)),(cd gw 112 (gh.cells (gh.mk (oz r kA kC cA cC bA bC slA slC drA drC heA heC) (bj.mk tA ((cT r).length) tC) ms))),(rd lA l.length 1 (l.map iC))] (vB (qi 0 ((r.aM.length:Int)-1) l)):=by
 have C:=hin.line
 have G:=hin.iW
 have H:=hin.has
 have E:=hin.jd
 have D:=hin.draw
 have F:=dQ (r:=r)
 refine bG kr Tryz.func48 U U fun AA Q hQ hN=>?_
 try dsimp only
 refine WS fun _ A=>bo 1 U<|RK A<|WS fun _ B=>bo 1 U<|rS (SX (bP U U) U U)<|fY 6 [] (mr 10 U mn) U<|rS (CL (kx 0 ((r.aM.length:Int)-1) l lA lC hlen) (bp [11]) U)<|rP 1 [] mn ?_
 refine RK B<|ar ?_
 exact Q1 hQ U U U U
theorem ym (a b:Bool):
 eB Tryz.prog 65 [(vB a),(vB b)] [] (Value.int .u8 (if a=true then 2 else if b=true then 1 else 0)):=by
 refine bG kr Tryz.func65 U U fun J Q hQ hN=>?_
 try dsimp only
 refine WS fun _ C=>bo 1 U<|RK C<|aj fun _ D=>ax<|WS fun _ E=>rP 2 [] mn ?_
 refine RK E<|cP U (fun A=>?_) (fun A=>?_)
 ·refine WS fun _ F=>rP 1 [] mn ?_
  refine RK F<|ar<|Q1 hQ U U U ?_
  rw [if_pos A]
 refine WS fun _ G=>rP 2 [] mn ?_
 refine RK G<|cP U (fun B=>?_) (fun B=>?_)
 ·refine WS fun _ H=>rP 1 [] mn ?_
  refine RK H<|ar<|Q1 hQ U U U ?_
  (rw [if_neg (by rw [A]; decide),if_pos B])
 refine cr<|aH<|KK D<|WS fun _ AA=>rP 1 [] mn ?_
 refine RK AA<|ar<|Q1 hQ U U U ?_
 (rw [if_neg (by rw [A]; decide),if_neg (by rw [B]; decide)])
end
section
open Go.RowKit
theorem P5 {P:Program} {t:TypeId} {x y:Operand} {k e:TypeId} {p:Option Nat} (h:P.underlying t=some (.map k e)):iI P .eql t x y (.map p) (.map none) (.bool p.isNone):=fun w=>by
 have A:(Op.equal t (.map p) (.map none)).run P w= .ok p.isNone w:=by
  unfold Op.equal
  show (Op.equalIn (9999+1) t (.map p) (.map none)).run P w=_
  unfold Op.equalIn
  cases p<;>simp [run_underlying h]
 have B:eqGuard .eql t x y (.map p) (.map none)=pure ():=rfl
 rw [B]
 show (Sem.run P (do let b ← Op.equal t (.map p) (.map none); pure (vB b)) w)=_
 simp [A]
theorem Fv {P:Program} {r:Nat} {es:Array MapEntry} {clock:Nat} {w:World} (t:TypeId) (hb:w.heap[r]? =some (.map es clock)):
 (Extern.MapsClone.clone #[.iface t (.map (some r))]).run P w= .ok (.iface t (.map (some w.heap.size))) (w.alloc (.map es clock)):=by
 have e:Extern.MapsClone.clone #[.iface t (.map (some r))]=(getObj r >>= fun o=>match o with
  | .map entries clock=>(newObj (.map entries clock) >>= fun n=>pure (.iface t (.map (some n))))
  |_=>stuck "maps.clone: a map expected"):=rfl
 rw [e]
 simp [MapKept.run_getObj_map hb,Result.andThen,go_sem]
theorem CJ {P:Program} {xt t k e:TypeId} {v:Value} {w:World} (h:P.underlying t=some (.map k e)):(Instr.typeAssert (.iface t v) xt t false).run P w= .ok v w:=by
 simp [Instr.typeAssert,run_underlying h,go_sem,Result.andThen]
theorem oM {C:List av} {g t:Nat} {cs:List Value} {n sz:Nat} {es:List (List Value)} (i:Nat) (hC:C[i]? =some (cd g t cs).ro) (h1:es.length=n) (h2: ∀ e∈es,e.length=sz) (h3:es.flatten=cs):iA C (rd (some ⟨g,0,none⟩) n sz es).holds:=fun w hw=>
 vp (show (cd g t cs).holds w from hw (cd g t cs).ro (aT hC)) h1 h2 ⟨[],by simp [h3]⟩
section
variable {E:fq} {ops:Array Oper} {Q:df} {rest:List Oper} {D:List Deferred} {L:List (Nat×Value)} {C:List av}
variable {dst:Option Nat} {d:Nat} {ty:TypeId} {ps:String} {af:Array Edge} {g:Option (Nat×Bool)}
theorem IT {P:Program} {t k e:TypeId} {v:Value} {w:World} (h:P.underlying t=some (.map k e)):(Instr.makeInterface t v).run P w= .ok (.iface t v) w:=by
 simp [Instr.makeInterface,run_underlying h,Result.andThen]
theorem Nq {t k e:TypeId} {x:Operand} {v:Value} (hg:jL ops L g=true) (hx:ev L x=some v) (ht:E.P.underlying t=some (.map k e)):SD E ops ⟨dst,.makeInterface t x,ty,ps,af,g⟩ D L C (.iface t v):=
 dY hg sm fun a w hf _=>by
  have e:=hf.ev hx
  simp only [execOp,e]
  rw [Sem.run_bind,IT ht]
  simp
theorem RM {xt t kt et:TypeId} {x:Operand} {v:Value} (hg:jL ops L g=true) (hx:ev L x=some (.iface t v)) (ht:E.P.underlying t=some (.map kt et)):SD E ops ⟨dst,.typeAssert x xt t false,ty,ps,af,g⟩ D L C v:=
 dY hg sm fun a w hf _=>by
  have e:=hf.ev hx
  simp only [execOp,e]
  rw [Sem.run_bind,CJ ht]
  simp
theorem IM {K:Type} [DecidableEq K] {kV:K→Value} {x:Operand} {ts:Array TypeId} {f:FuncId} {fn:Func} {t b:Nat} {m:List (K×Value)} (hg:jL ops L g=true) (hx:ev L x=some (.iface t (.map (some b)))) (hf:E.P.funcs[f]? =some fn) (hname:(fn.name=="runtime.NumGoroutine")=false)
 (hb:fn.body.isNone=true) (hn:Extern.findNext fn=none) (he:Extern.find fn=some Extern.MapsClone.clone) (hC:iA C (iS kV b m).holds) (hd:Nat.blt d E.n=true) (k: ∀ b',RJ E ops Q rest D ((d,.iface t (.map (some b')))::L) (iS kV b' m::C)):
 RJ E ops Q (⟨some d,.call {callee:= .value (.func f),args:= #[x],argTypes:=ts},ty,ps,af,g⟩::rest) D L C:=by
 intro a w B hs
 have hd':d<E.n:=by rw [← Nat.blt_eq]; exact hd
 obtain ⟨es,c,F,hi⟩:=hC w hs.holds
 unfold sk
 rw [if_pos (ep B hg)]
 refine g3 (v:= .iface t (.map (some w.heap.size))) (w':=w.alloc (.map es c)) sm ?_ ?_
 ·have e:=B.ev hx
  have G:a.eval (.func f)= .func (.func f) #[] #[]:=rfl
  simp [execOp,resolve,e,G,Deferred.ofValue,invoke,run_callFunc_extern hf hname hb hn he,Fv t F]
 ·refine k _ _ _ (B.put hd' _) (hs.grow (ei.alloc no w _) (N:=[iS kV w.heap.size m]) ⟨fun A hA=>?_,fun A hA b hb=>?_,List.pairwise_singleton _ _⟩)
  ·simp at hA; subst hA; exact ⟨es,c,heap_alloc_new w _,hi⟩
  ·simp at hA; subst hA; exact Nat.le_of_eq (Eq.symm hb)
end
end
section
open Go.RowKit
theorem xh (lA:OA) (lN lC:Nat):
 lB Tryz.prog 74 [(vS lA lN lC)] [] (fun (x:Nat)=>(Value.func (.func 112) [].toArray [(vP x)].toArray)) (fun (x:Nat)=>True) (fun (x:Nat)=>[(cd x 29 [(vS lA lN lC)])]):=by
 refine di kr Tryz.func74 U U fun D Q hQ hN=>?_
 try dsimp only
 refine WS fun _ A=>uG U U fun C=>bo 1 U<|RK A<|WS fun _ B=>rS (FU U)<|rP 1 [] mn ?_
 refine RK B<|ar<|LX hQ C [0] [] mn U U U U ?_
 trivial
theorem Ly (nl:List Int) (nlA:OA) (nlC g1:Nat) (hlen:nl.length≤12):
 Nb Tryz.prog 112 [] [(vP g1)] [(rd nlA nl.length 1 (nl.map iC)),(cd g1 29 [(vS nlA nl.length nlC)])] (qI nl):=by
 refine FD kr Tryz.func112 U U fun l J Z A0 T Q hY K AB hQ hN=>?_
 try dsimp only
 refine WS fun _ M=>rP 3 [] (mr 2 U mn) ?_
 refine RK M<|ax ?_
 have F:(0≤nl.length)∧(J 0 A0)∧(Fo A0 T A0):=by exact ⟨Nat.zero_le _,K,AB⟩
 refine bL (ι:={z:Nat×av // (z.1≤nl.length)∧(J z.1 z.2)∧(Fo A0 T z.2)}) [0,1,5,6] [1] U U (fun z=>[(7,(vI (z.1.1:Int)))]) (fun z=>[z.1.2]) (fun _=>rfl) (fun _=>rfl) (fun z=>nl.length-z.1.1) ⟨(0,A0),F⟩ (aU U) (aG [1,0]) ?_
 clear F
 rintro ⟨⟨i,A⟩,⟨G,B,C⟩⟩ J2 L
 try dsimp only at G B C
 try dsimp only
 refine WS fun _ N=>rP 1 [] mn ?_
 refine RK N<|aj fun _ O=>bS U (aP fun AA=>?_) (aQ fun AA=>?_)
 ·refine bD<|ab<|ab<|ay ?_
  refine hN _ _ _ (ik (vs:=[]) trivial fun w hs=>TA 1 U (by rw [tL]; have e:nl.length=i:=I; rw [e]; exact B) C hs)
 refine WK O<|aj fun _ P=>ax<|WS fun _ R=>?_
 obtain ⟨x,hx⟩:=aJ nl i I
 have S:=bO iC hx
 refine rS (IA i U (aC 0 U) cL dc I I)<|rS (gi i 0 (vI x) U cj (aC 0 U) S U dc U)<|bo 1 U<|RK R<|WS fun _ H=>rP 2 [] mn ?_
 refine Gb 1 hY B C U U U (Hn hx) U U (fun B9 E D=>?_) (fun B9 E D=>?_)
 rotate_left 1
 ·refine rP 1 [] mn ?_
  refine RK H<|aR U<|ar ?_
  refine hQ _ _ _ (ik (vs:=[]) trivial fun w hs=>Po 1 U E D hs)
 refine bo 1 U<|RK H<|a_ U<|cr<|aH<|KK P<|al<|rP 2 [] mn ?_
 refine aA ?_
 refine aV (L ⟨((i+1),B9),⟨I,E,D⟩⟩ _ _ _ U os (aU U) (aG [0,1]))
end
section
open Go.RowKit
theorem N3 (x:Int):
 eB Tryz.prog 169 [(vI x)] [] (vB false):=by
 refine bG kr Tryz.func169 U U fun C Q hQ hN=>?_
 try dsimp only
 refine WS fun _ A=>bo 1 U<|RK A<|WS fun _ B=>rP 4 [] mn ?_
 refine RK B<|ar<|Q1 hQ U U U ?_
 simp
theorem OO (x y:Int):
 eB Tryz.prog 127 [(vI x),(vI y)] [] (vB (decide (x<y))):=by
 refine bG kr Tryz.func127 U U fun C Q hQ hN=>?_
 try dsimp only
 refine WS fun _ A=>bo 1 U<|RK A<|WS fun _ B=>bo 1 U<|rS (CL (N3 x) (aI) U)<|rP 11 [] mn ?_
 refine RK B<|ar<|Q1 hQ U U U ?_
 exact cB (gO.2 I)
theorem Ht (l:List Int) (lA:OA) (lC:Nat) (hlen:l.length≤1000000):
 DO Tryz.prog 121 [(vS lA l.length lC),(vI 0),(vI (l.length:Int))] [] (own lA lC 3 1 (l.map iC)) (fun (x:(List Int))=>(vT [])) (fun (x:(List Int))=>x.Perm l∧x.Pairwise (· ≤ ·)) (fun (x:(List Int))=>(own lA lC 3 1 (x.map iC))):=by
 refine mX kr Tryz.func121 U U fun g Q hQ hN=>?_
 try dsimp only
 refine WS fun _ X=>bo 1 U<|rS (SX (cb (r:= .int .i64 1) U U U (iG ⟨dc,dc⟩)) U U)<|rP 1 [] mn ?_
 refine RK X<|ax ?_
 have A:(1≤1∧(1≤l.length∨1=1))∧(l.length=l.length)∧(l.Perm l)∧(QC l 1):=by exact ⟨I,rfl,List.Perm.refl _,Ny⟩
 refine bL (ι:={z:Nat×(List Int) // (1≤z.1∧(z.1≤l.length∨z.1=1))∧(z.2.length=l.length)∧(z.2.Perm l)∧(QC z.2 z.1)}) [0,1,2] [] U U (fun z=>[(6,(vI (z.1.1:Int)))]) (fun z=>[(own lA lC 3 1 (z.1.2.map iC))]) (fun _=>rfl) (fun _=>rfl) (fun z=>l.length-z.1.1) ⟨(1,l),A⟩ (aU U) (aG [0]) ?_
 clear A
 rintro ⟨⟨i,m⟩,⟨K,AB,E,F⟩⟩ J2 M
 try dsimp only at K AB E F
 try dsimp only
 refine aj fun _ Y=>WS fun _ Z=>rP 3 [] mn ?_
 refine RK Z<|bS U (aP fun e=>?_) (aQ fun e=>?_)
 ·refine bD<|ab<|ab<|ay<|LM hN m 0 [] mn U U U U ?_
  exact ⟨E,Oj F I⟩
 refine WK Y<|aj fun _ O=>ax<|WS fun _ b=>rP 2 [] mn ?_
 refine RK b<|ax ?_
 have A:(i≤i)∧(m.length=l.length)∧(m.Perm l)∧(Qw m i i):=by exact ⟨Nat.le_refl _,AB,E,Ie F I⟩
 refine bL (ι:={z:Nat×(List Int) // (z.1≤i)∧(z.2.length=l.length)∧(z.2.Perm l)∧(Qw z.2 i z.1)}) [0,1,2,6] [] U U (fun z=>[(7,(vI (z.1.1:Int)))]) (fun z=>[(own lA lC 3 1 (z.1.2.map iC))]) (fun _=>rfl) (fun _=>rfl) (fun z=>z.1.1) ⟨(i,m),A⟩ (aU U) (aG [0]) ?_
 clear A
 rintro ⟨⟨j,q⟩,⟨G,B,C,D⟩⟩ J8 W
 try dsimp only at G B C D
 try dsimp only
 refine aj fun _ c=>aj fun _ J=>dH cx 15 kr<|dP 4 [] mn ?_
 refine jl (t:=19) U (aP fun hj=>?_) (aQ fun hj=>?_)
 ·refine lQ 11 U<|cQ<|RK J<|a_ U<|bD<|ab<|ab<|ay<|aH<|KK O<|al<|rP 3 [] mn ?_
  refine aA ?_
  refine aV (M ⟨((i+1),q),⟨I,B,C,by exact JI I D⟩⟩ _ _ _ U (by simp only []; omega) (aU U) (aG [0]))
 refine dP 2 [] mn ?_
 obtain ⟨x,hx⟩:=aJ q j I
 have L:=bO iC hx
 refine dS (IA j U (ag (n:=l.length) 0 U sq) cL dc I I) ?_
 refine dS (gi j 0 (vI x) U cj (ag (n:=q.length) 0 U sm) L U dc U)<|dP 3 [] mn ?_
 obtain ⟨y,hy⟩:=aJ q (j-1) I
 have V:=bO iC hy
 refine dS (IA (j-1) U (ag (n:=l.length) 0 U sq) cL dc I I) ?_
 refine dS (gi (j-1) 0 (vI y) U cj (ag (n:=q.length) 0 U sm) V U dc U)<|dS (CL (OO x y) (aI) U)<|dP 1 [] mn ?_
 refine cQ<|RK J<|bS U (aP fun H=>?_) (aQ fun H=>?_)
 ·refine bD<|ab<|ab<|ay<|aH<|KK O<|al<|rP 3 [] mn ?_
  refine aA ?_
  refine aV (M ⟨((i+1),q),⟨I,B,C,by exact L4 hx hy I G H D⟩⟩ _ _ _ U (by simp only []; omega) (aU U) (aG [0]))
 refine WK c<|aj fun _ N=>ax<|dK cx [15,16,17] [8,9,12,13,14] [] [] [0] U U U U U<|eS U (MV U)<|eS U (MV U)<|eS U (MV U)<|eS U (MV U)<|eS U (BI U (su ⟨I,I⟩))<|eS U (MV U)<|eS U (MV U)<|eS U (BI U (su ⟨I,I⟩)) ?_
 refine fS U (IA (j-1) U (ag (n:=l.length) 0 U sq) cL dc I I) ?_
 refine fS U (gi (j-1) 0 (vI y) U cj (ag (n:=q.length) 0 U sm) V U dc U)<|eS U (MV U)<|eS U (MV U) ?_
 refine fS U (IA j U (ag (n:=l.length) 0 U sq) cL dc I I) ?_
 refine fS U (gi j 0 (vI x) U cj (ag (n:=q.length) 0 U sm) L U dc U) ?_
 refine fS U (IA j U (ag (n:=l.length) 0 U sq) cL dc I I) ?_
 refine eT U<|cf U fun T12 P=>dk (k:=j) (o:=0) (vs:=[(vI y)]) (es':=(List.map iC (q.set j y))) (C':=[(own lA lC 3 1 (List.map iC (q.set j y)))]) 0 U U U Cs U U U U L U dc (by exact (List.map_set (f:=iC) (l:=q) (i:=j) (a:=y)).symm) U<|aA (P _ _ (aG []) ?_)
 refine cf U fun T13 R=>?_
 obtain ⟨d,AA⟩:=aJ (q.set j y) (j-1) os
 have hx15m:(List.map iC (q.set j y))[(j-1)]? =some (iC d):=by rw [fB,AA]; rfl
 refine rS (IA (j-1) U (ag (n:=l.length) 0 U sq) cL dc I I) ?_
 refine aA (R _ _ (aG []) ?_)
 refine cf U fun T16 S=>dk (k:=(j-1)) (o:=0) (vs:=[(vI x)]) (es':=(List.map iC ((q.set j y).set (j-1) x))) (C':=[(own lA lC 3 1 (List.map iC ((q.set j y).set (j-1) x)))]) 0 U U U Cs U U U U hx15m U dc (by exact (List.map_set (f:=iC) (l:=(q.set j y)) (i:=(j-1)) (a:=x)).symm) U<|aA (S _ _ (aG []) ?_)
 refine fO U<|aH<|KK N<|al<|rP 3 [] mn ?_
 refine aA ?_
 have T:(vI (((j-1):Nat):Int))=(vI ((j:Int)-1)):=by exact cI I
 refine aV (W ⟨((j-1),((q.set j y).set (j-1) x)),⟨I,by simp; exact B,(IB hx hy).trans C,JX hx hy I G H D⟩⟩ _ _ _ U (by simp only []; omega) (cU 4<|bk U T<|dF.nil _) (aG [0]))
theorem OB (x:Int) (hx:0≤x∧x≤100):
 lB Tryz.prog 131 [(Value.int .u64 x)] [] (fun (x:Int)=>(vI x)) (fun (x:Int)=>True) (fun (x:Int)=>[]):=by
 refine di kr Tryz.func131 U U fun N Q hQ hN=>?_
 try dsimp only
 refine WS fun _ D=>bo 1 U<|RK D<|aj fun _ E=>WS fun _ F=>rP 1 [] mn ?_
 refine rS (BI U FN)<|RK F<|cP U (aQ fun L=>?_) (aP fun L=>?_)
 ·exfalso; omega
 refine WK E<|aj fun _ G=>WS fun _ H=>rP 1 [] mn ?_
 refine rS (BI U FN)<|RK H<|cP U (aQ fun M=>?_) (aP fun M=>?_)
 ·exfalso; omega
 refine WK G<|aj fun _ AA=>WS fun _ J=>rP 1 [] mn ?_
 refine rS (BI U FN)<|RK J<|cP U (aQ fun C=>?_) (aP fun C=>?_)
 ·exfalso; omega
 refine WK AA<|WS fun _ B=>bo 2 U<|rS (SX (tO (m:=x) U U Td Ru (Bw (by first|assumption|omega))) U U)<|Rn (k:=(x).toNat) U U U V7 I (Nat.lt_of_lt_of_le (m:=200) I (of_decide_eq_true kr)) U fun A K=>rS (SX (tO (m:=A) U U Ru qp (qB (by first|assumption|omega))) U U)<|rP 2 [] mn ?_
 refine RK B<|ar<|LX hQ (0+A) [] [] mn U U U U ?_
 trivial
theorem QI (x:Int) (hx:0≤x∧x≤100):
 lB Tryz.prog 88 [(Value.int .u64 x)] [] (fun (x:Int)=>(vI x)) (fun (x:Int)=>True) (fun (x:Int)=>[]):=by
 refine di kr Tryz.func88 U U fun F Q hQ hN=>?_
 try dsimp only
 refine WS fun _ A=>bo 1 U<|RK A<|aj fun _ B=>a_ U<|WK B<|WS fun _ C=>rP 1 [] mn ?_
 refine cX (OB x hx) (aI) U fun E D=>?_
 try dsimp only
 refine rP 1 [] mn ?_
 refine RK C<|ar<|LX hQ E [] [] mn U U U U ?_
 trivial
theorem SB (l:List Int) (lA:OA) (lC:Nat) (u:Int) (hlen:l.length≤12):
 DO Tryz.prog 87 [(vS lA l.length lC),(vI 0),(vI (l.length:Int)),(vI u)] [] (own lA lC 3 1 (l.map iC)) (fun (x:(List Int))=>(vT [])) (fun (x:(List Int))=>x.Perm l∧x.Pairwise (· ≤ ·)) (fun (x:(List Int))=>(own lA lC 3 1 (x.map iC))):=by
 refine mX kr Tryz.func87 U U fun K Q hQ hN=>?_
 try dsimp only
 refine WS fun _ A=>bo 1 U<|RK A<|WS fun _ B=>bo 1 U<|RK B<|ax<|kj 1<|eH fun R3 AA=>ax<|WS fun _ C=>bo 4 U<|RK C<|aj fun _ H=>WS fun _ D=>rP 2 [] mn ?_
 refine RK D<|bS U (aP fun G=>?_) (aQ fun G=>?_)
 ·exfalso; omega
 refine WS fun _ E=>rP 3 [] mn ?_
 refine jm 0 U U U U (Ht l lA lC I) U kG U (fun J F=>?_)
 try dsimp only
 refine RK E<|ar<|LM hQ J 0 [] mn U U U U ?_
 assumption
theorem Ac (l:List Int) (lA:OA) (lC:Nat) (hlen:l.length≤12):
 DO Tryz.prog 54 [(vS lA l.length lC)] [] (own lA lC 3 1 (l.map iC)) (fun (x:(List Int))=>(vT [])) (fun (x:(List Int))=>x.Perm l∧x.Pairwise (· ≤ ·)) (fun (x:(List Int))=>(own lA lC 3 1 (x.map iC))):=by
 refine mX kr Tryz.func54 U U fun F Q hQ hN=>?_
 try dsimp only
 refine WS fun _ A=>bo 3 U<|RK A<|al<|rP 3 [] mn ?_
 refine rS (SX (tO (m:=(l.length:Int)) U U qp Tt (Am (by first|assumption|omega))) U U)<|cX (QI (l.length:Int) I) (aI) U fun E B=>?_
 try dsimp only
 refine jm 0 U U U U (SB l lA lC E hlen) U kG U (fun D C=>?_)
 try dsimp only
 refine aA<|LM hN D 0 [] mn U U U U ?_
 assumption
end
section
open Go.RowKit
theorem IY (nl:List Int) (nlA:OA) (nlC g1:Nat) (hlen:nl.length≤12):
 lB Tryz.prog 120 [(vS none 0 0),(Value.func (.func 112) [].toArray [(vP g1)].toArray)] [(rd nlA nl.length 1 (nl.map iC)),(cd g1 29 [(vS nlA nl.length nlC)])] (fun (x:(OA)×Nat)=>(vS x.1 nl.length x.2)) (fun (x:(OA)×Nat)=>True) (fun (x:(OA)×Nat)=>[(own x.1 x.2 3 1 (nl.map iC))]):=by
 refine di kr Tryz.func120 U U fun R Q hQ hN=>?_
 try dsimp only
 refine WS fun _ D=>uG U U fun J=>bo 1 U<|RK D<|aj fun _ E=>WS fun _ G=>rP 1 [] mn ?_
 refine RK G<|ax<|kR 1 U (by exact fun _ h=>h)<|kR 3 U (by exact fun _ h=>h)<|gr 3 1 ?_
 refine F9 (L0:=[(2,(vP J))]) (F:=[(rd nlA nl.length 1 (nl.map iC)).ro,(cd g1 29 [(vS nlA nl.length nlC)]).ro]) (xs:=(qI nl)) (fun k (y:(OA)×Nat)=>True) (fun k y=>[(own y.1 y.2 3 1 ((nl.take k).map iC)),(cd J 29 [(vS y.1 ((nl.take k).length) y.2)]),(rd nlA nl.length 1 (nl.map iC)).ro]) (fun _ (_:Unit)=>False) (fun _ _=>[]) [0,3,4] [2,1] (none,0) U U (Ly nl nlA nlC g1 (by first|assumption|omega|(simp; done))) U U U (by trivial) (by simp only [List.forall_mem_cons,List.not_mem_nil,false_imp_iff,implies_true,and_true]; exact ⟨⟨_,sm,(dV (bV _))⟩,⟨_,sm,(dV (bV _))⟩⟩) (by exact Fi) U (aU U) ?_ ?_ (fun _ _ _ h=>h.elim) (fun _ _ h=>h.elim)
 rotate_left 1
 ·rintro O ⟨a,c⟩ AA
  try dsimp only
  rw [yG]
  refine aH<|KK E<|WS fun _ A=>rP 2 [] (mc 4 U mn) ?_
  refine RK A<|ar<|hQ _ _ _ (o0 0 U U<|ik (vs:=[(vS a nl.length c)]) ⟨U,trivial⟩ fun w hs=>JO (a,c) [3] ?_ ?_ U U U hs)
  ·rfl
  ·trivial
 rintro k x ⟨a,c⟩ l ra rb S T K5 Qr6 hx K H B L M
 obtain ⟨y,hy,rfl⟩:=H7 hx
 try dsimp only
 refine al<|rP 1 [] mn ?_
 refine aA<|aV (H _ _ ?_)
 refine ax<|al<|rP 2 [] (mc 2 U mn) ?_
 refine c_ (xs:=[.tmp 9]) (cs:=[(vI y)]) U cL jA U U U U (by simp [Value.cells]) U U fun P=>?_
 refine ck (es2:=(List.map iC (nl.take (k+1)))) (m':=(nl.take (k+1)).length) 2 U U U pw U U sm (aZ (es:=List.map iC [y]) 0 U U (by simp [bI]) U) (jP _) (by simp; omega) (by simp [maxLen]; omega) (by rw [l8 hy]; simp) sm U fun N C=>?_
 try dsimp only
 refine Vx U xN U U<|aA<|aH ?_
 exact B (N,C) _ _ (by trivial) (aG [1,2,3,4])
theorem HI (nl:List Int) (nlA:OA) (nlC g1:Nat) (hlen:nl.length≤12):
 lB Tryz.prog 85 [(Value.func (.func 112) [].toArray [(vP g1)].toArray)] [(rd nlA nl.length 1 (nl.map iC)),(cd g1 29 [(vS nlA nl.length nlC)])] (fun (x:(OA)×Nat)=>(vS x.1 nl.length x.2)) (fun (x:(OA)×Nat)=>True) (fun (x:(OA)×Nat)=>[(own x.1 x.2 3 1 (nl.map iC))]):=by
 refine di kr Tryz.func85 U U fun G Q hQ hN=>?_
 try dsimp only
 refine WS fun _ A=>bo 1 U<|RK A<|WS fun _ B=>rP 1 [] mn ?_
 refine cX (IY nl nlA nlC g1 hlen) (bp [0,1]) U fun F E=>?_
 obtain ⟨C,D⟩:=F
 try dsimp only
 refine rP 1 [] mn ?_
 refine RK B<|ar<|LX hQ (C,D) [0] [] mn U U U U ?_
 trivial
theorem wL (nl:List Int) (nlA:OA) (nlC g1:Nat) (hlen:nl.length≤12):
 lB Tryz.prog 51 [(Value.func (.func 112) [].toArray [(vP g1)].toArray)] [(rd nlA nl.length 1 (nl.map iC)),(cd g1 29 [(vS nlA nl.length nlC)])] (fun (x:(OA)×Nat)=>(vS x.1 nl.length x.2)) (fun (x:(OA)×Nat)=>True) (fun (x:(OA)×Nat)=>[(own x.1 x.2 3 1 ((dB nl).map iC))]):=by
 refine di kr Tryz.func51 U U fun J Q hQ hN=>?_
 try dsimp only
 refine WS fun _ B=>bo 1 U<|RK B<|WS fun _ C=>rP 1 [] mn ?_
 refine cX (HI nl nlA nlC g1 hlen) (bp [0,1]) U fun AA H=>?_
 obtain ⟨F,G⟩:=AA
 try dsimp only
 refine bo 1 U<|RK C<|WS fun _ D=>rP 1 [] mn ?_
 refine jm 0 U U U U (Ac nl F G hlen) U kG U (fun m A=>?_)
 try dsimp only
 refine RK D<|WS fun _ E=>?_
 obtain rfl:=qs A.1 A.2
 skip
 refine rP 2 [] mn ?_
 refine RK E<|ar<|LX hQ (F,G) [0] [] mn U U U U ?_
 trivial
end
section
open Go.RowKit
section
variable {K:Type} [DecidableEq K] {kV:K→Value}
variable {E:fq} {ops:Array Oper} {Q:df} {rest:List Oper} {D:List Deferred} {L:List (Nat×Value)} {C:List av}
variable {ty:TypeId} {ps:String} {af:Array Edge} {g:Option (Nat×Bool)}
theorem pE {t kt et:TypeId} {xm xk:Operand} {ts:Array TypeId} {b:Nat} {x:K} {m m':List (K×Value)} {C':List av} (i:Nat) (hg:jL ops L g=true) (hm:ev L xm=some (.map (some b))) (hk:ev L xk=some (kV x)) (hts:ts[0]? =some t)
 (ht:E.P.underlying t=some (.map kt et)) (hkt:uX E.P kt kV) (hC:C[i]? =some (iS kV b m)) (hm':cH m x=m') (hC':C.set i (iS kV b m')=C') (k:RJ E ops Q rest D L C'):
 RJ E ops Q (⟨none,.call {callee:= .builtin .delete,args:= #[xm,xk],argTypes:=ts},ty,ps,af,g⟩::rest) D L C:=by
 subst hm' hC'
 intro a w A hs
 unfold sk
 rw [if_pos (ep A hg)]
 obtain ⟨es,c,he,hi⟩:=hs.holds _ (aT hC)
 have B:(getObj b).run E.P w= .ok (.map es c) w:=MapKept.run_getObj_map he
 rcases po (P:=E.P) (w:=w) (x:=x) hkt hi with ⟨F,G⟩|⟨j,AA,F,G,H⟩
 ·refine g3 (v:= .tuple #[]) (w':={w with heap:=w.heap.setIfInBounds b (.map es c)}) sm ?_ ?_
  ·simp [execOp,resolve,invoke,builtin,A.ev hm,A.ev hk,Builtin.delete_,hts,run_underlying ht,B,jg hkt,F,MapKept.run_setObj_map _ he]
  ·refine k _ _ ⟨A.defers,A.size,A.at_⟩ (hs.DL (b:=b) i hC U U (nu _) (fun _ h=>h) ⟨_,_,pB he,?_⟩)
   rw [E7 G]; exact hi
 ·refine g3 (v:= .tuple #[]) (w':={w with heap:=w.heap.setIfInBounds b (.map (es.eraseIdxIfInBounds j) c)}) sm ?_ ?_
  ·simp [execOp,resolve,invoke,builtin,A.ev hm,A.ev hk,Builtin.delete_,hts,run_underlying ht,B,jg hkt,F,MapKept.run_setObj_map _ he]
  ·exact k _ _ ⟨A.defers,A.size,A.at_⟩ (hs.DL (b:=b) i hC U U (nu _) (fun _ h=>h) ⟨_,_,pB he,hi.del G⟩)
end
end
section
open Go.RowKit
theorem Ju (n lo hi:Int) (g1 g2:Nat):
 eB Tryz.prog 100 [(vI n),(vP g1),(vP g2)] [(cd g1 3 [(vI lo)]),(cd g2 3 [(vI hi)])] (vB (decide (n<lo∨hi<n))):=by
 refine bG kr Tryz.func100 U U fun D Q hQ hN=>?_
 try dsimp only
 refine WS fun _ B=>bo 1 U<|RK B<|WS fun _ A=>rP 4 [] (mr 0 U mn) ?_
 refine dp (t:=8) U (aQ fun C=>?_) (aP fun C=>?_)
 ·refine rP 5 [] mn ?_
  refine RK A<|ar<|Q1 hQ U U U ?_
  exact cB (gf I).symm
 refine rP 5 [] (mr 1 U mn) ?_
 refine RK A<|ar<|Q1 hQ U U U ?_
 exact cB (gO.2 I)
theorem jn (lo hi:Int) (l:List Int) (lA:OA) (lC:Nat) (hlen:l.length≤1000000):
 eB Tryz.prog 60 [(vI lo),(vI hi),(vS lA l.length lC)] [(rd lA l.length 1 (l.map iC))] (vB (qi lo hi l)):=by
 refine bG kr Tryz.func60 U U fun F Q hQ hN=>?_
 try dsimp only
 refine WS fun _ D=>uG U U fun A=>uG U U fun B=>bo 1 U<|RK D<|WS fun _ E=>rP 1 [] mn ?_
 refine rS (FU U) ?_
 refine rS (CL (sM l lA lC (Value.func (.func 100) [].toArray [(vP A),(vP B)].toArray) (fun C=>(decide (C<lo∨hi<C))) (e9 [(cd A 3 [(vI lo)]),(cd B 3 [(vI hi)])]) (by intro C _; exact oi (fi:=[]) (ca:=[(vP A),(vP B)]) (mA (Ju C lo hi A B) (bp [0,1]))) hlen) (fP 2 U U<|au (mB (bp [1,0]))<|aI) U) ?_
 refine rP 2 [] mn ?_
 refine RK E<|ar ?_
 exact Q1 hQ U U U U
theorem U9 (n d:Int) (hd:2≤d):
 eB Tryz.prog 95 [(vI n),(vI d)] [] (vI (Sr n d)):=by
 refine bG kr Tryz.func95 U U fun C Q hQ hN=>?_
 try dsimp only
 refine WS fun _ A=>bo 1 U<|RK A<|WS fun _ B=>bo 2 U<|rS (BI U Qg)<|rS (BI U KB)<|bo 1 U<|rS (BI U (Qc I (Rj (Uo _) hd)))<|rP 1 [] mn ?_
 refine RK B<|ar ?_
 exact Q1 hQ U U U U
theorem PL (n d:Int) (hd:1≤d∧d≤1000000) (hn:0≤n∧n≤1000000000000000):
 eB Tryz.prog 95 [(vI n),(vI d)] [] (vI (pC n d)):=by
 refine bG kr Tryz.func95 U U fun C Q hQ hN=>?_
 try dsimp only
 refine WS fun _ A=>bo 1 U<|RK A<|WS fun _ B=>bo 5 U<|rS (BI U (t_ I I I))<|rP 1 [] mn ?_
 refine RK B<|ar ?_
 exact Q1 hQ U U U U
theorem FV (c:ao) (sA:OA) (sC:Nat) (at_:Int) (hc:fm c) (ha:0≤at_∧at_≤90000000):
 eB Tryz.prog 139 [(vA (dx.cells (dx.mk c.dq (bj.mk sA c.aN.length sC)))),(vI at_)] [(rd sA c.aN.length 3 (c.aN.map bJ.cells))] (vA (aa.cells (eO c at_))):=by
 have X:=hc.len
 have J:=hc.sB
 refine bG kr Tryz.func139 U U fun e Q hQ hN=>?_
 try dsimp only
 refine WS fun _ M=>gd U fun b=>AL U dv fun d=>RK M<|WS fun _ N=>rS (SX (bh (xs:=[(0,.const (vI (-1099511627776))),(1,.const (vI 1099511627776))]) (cs:=(aa.cells (aa.mk (-1099511627776) 1099511627776))) U U (bg gH U)) U U)<|AL U dv fun W=>gl U cy U<|RK N<|aj fun _ O=>aj fun _ P=>?_
 have R:(aa.cells (aa.mk (-1099511627776) 1099511627776))=(aa.cells (gK c at_ 0)):=by rfl
 rw [R]
 refine al<|rP 4 [] (mc 2 U mn) ?_
 refine RK P<|ax ?_
 have A:(0≤c.aN.length):=by exact Nat.zero_le _
 refine bL (ι:={z:Nat // (z≤c.aN.length)}) [1,2,4,5,11,12] [1,2,3] U U (fun z=>[(13,(vI (z.1:Int)))]) (fun z=>[(cd W 45 (aa.cells (gK c at_ z.1)))]) (fun _=>rfl) (fun _=>rfl) (fun z=>c.aN.length-z.1) ⟨0,A⟩ (aU U) (aG [1,2,3,0]) ?_
 clear A
 rintro ⟨i,S⟩ J9 L
 try dsimp only
 refine WS fun _ B=>rP 1 [] mn ?_
 refine RK B<|aj fun _ C=>bS U (aP fun K=>?_) (aQ fun K=>?_)
 ·refine bD<|ab<|ab<|ay<|KK O<|WS fun _ G=>rP 1 [] (mc 3 U mn) ?_
  refine gl U cy U<|RK G<|ar<|IC hQ [0] (mc 0 U mn) U ?_
  rw [nT (show c.aN.length≤i by omega)]
 refine WK C<|aj fun _ D=>ax<|WS fun _ E=>?_
 obtain ⟨x,hx⟩:=aJ c.aN i I
 have AA:=bO bJ.cells hx
 refine rS (IA i U (aC 2 U) pz dc I I)<|rS (oY i 0 (bJ.cells x) U cj (aC 2 U) AA U dc U U)<|AL U vr fun V=>gl U AT U<|RK E<|WS fun _ F=>rP 5 [0,1] (mc 2 U (mc 0 U mn)) ?_
 have T:=hc.uR hx
 have Z:=Bs hc ha i
 have Y:=Gl J ha (show 0≤x.At∧x.At≤90000000 by omega)
 refine fY 5 [] (mc 0 U mn) U<|rS (MX U)<|rS (BI U (Gt ⟨I,I⟩))<|rS (CL (PL (c.dq*(max (at_-x.At) (x.At-at_))) 1000000 I I) (aI) U)<|bo 1 U<|RK F<|al<|rP 6 [0,1] (mc 4 U (mc 0 U mn)) ?_
 have a:0≤pC (c.dq*max (at_-x.At) (x.At-at_)) 1000000∧pC (c.dq*max (at_-x.At) (x.At-at_)) 1000000≤90001:=uH J ha T.1
 refine bo 1 U<|rS (MX U)<|rP 7 [0,1] (mc 4 U (mc 0 U mn)) ?_
 refine rS (MN U)<|rS (SX (bh (xs:=[(0,.tmp 37),(1,.tmp 45)]) (cs:=(aa.cells (aa.mk (max ((gK c at_ i).Lo) (x.dL.Lo-(pC (c.dq*(max (at_-x.At) (x.At-at_))) 1000000))) (min ((gK c at_ i).Hi) (x.dL.Hi+(pC (c.dq*(max (at_-x.At) (x.At-at_))) 1000000)))))) U U (bg gH U)) U U)<|Pg U cy U<|aA<|aH<|KK D ?_
 have H:(aa.cells (aa.mk (max ((gK c at_ i).Lo) (x.dL.Lo-(pC (c.dq*(max (at_-x.At) (x.At-at_))) 1000000))) (min ((gK c at_ i).Hi) (x.dL.Hi+(pC (c.dq*(max (at_-x.At) (x.At-at_))) 1000000)))))=(aa.cells (gK c at_ (i+1))):=by rw [jY hx]; rfl
 rw [H]
 refine al<|rP 2 [] mn ?_
 refine aA ?_
 have AB:(vI (((i+1):Nat):Int))=(vI ((i:Int)+1)):=by exact cI I
 refine aV (L ⟨(i+1),(by first|omega|(simp only []; omega))⟩ _ _ _ U os (cU 6<|bk U AB<|dF.nil _) (aG [1,2,3,4]))
theorem Qa (c:ao) (sA:OA) (sC:Nat) (hlen:c.aN.length≤1000000) (hcap:c.aN.length≤sC):
 eB Tryz.prog 157 [(vA (dx.cells (dx.mk c.dq (bj.mk sA c.aN.length sC))))] [(rd sA c.aN.length 3 (c.aN.map bJ.cells))] (vB (decide (fm c))):=by
 refine bG kr Tryz.func157 U U fun w0 Q hQ hN=>?_
 try dsimp only
 refine WS fun _ A8=>gd U fun b2=>bo 1 U<|RK A8<|z9 U<|aj fun _ A9=>WS fun _ q=>rP 2 [] (mc 0 U mn) ?_
 refine c_ (xs:=[.tmp 11]) (cs:=[(vI c.dq)]) U cL jA U U U U (by simp [Value.cells]) U U fun b5=>?_
 refine rS (CL (eB.eq (jn 0 1000 ([c.dq]) (some ⟨b5,0,none⟩) 1 (by (simp; done))) cZ) (au (aZ 0 U U (by simp [bI]) U)<|aI) U) ?_
 refine rP 2 [] mn ?_
 refine dp (t:=15) U (bx fun AB=>?_) (bw fun AB=>?_)
 ·refine bo 7 U<|RK q<|aR U<|WS fun _ Bm=>rP 1 [] mn ?_
  refine RK Bm<|ar<|Q1 hQ U U U ?_
  exact cB (ct fun h=>AB h.sB).symm
 refine rP 3 [] (mc 1 U mn) ?_
 refine c_ (xs:=[.tmp 18]) (cs:=[(vI (c.aN.length:Int))]) U cL jA U U U U (by simp [Value.cells]) U U fun b7=>?_
 refine rS (CL (eB.eq (jn 1 5 ([(c.aN.length:Int)]) (some ⟨b7,0,none⟩) 1 (by (simp; done))) cZ) (au (aZ 0 U U (by simp [bI]) U)<|aI) U) ?_
 refine rP 2 [] mn ?_
 refine RK q<|cP U (bx fun O=>?_) (bw fun O=>?_)
 ·refine WS fun _ B3=>rP 1 [] mn ?_
  refine RK B3<|ar<|Q1 hQ U U U ?_
  exact cB (ct fun h=>O (by have:=h.len; omega)).symm
 refine WK A9<|WS fun _ B7=>bo 1 U<|RK B7<|WS fun _ R=>bo 1 U<|RK R<|aj fun _ S=>AJ<|KK S<|aj fun _ K=>WS fun _ T=>rP 4 [] (mc 2 U mn) ?_
 refine RK T<|ax ?_
 have B:(0≤c.aN.length)∧(sX c 0):=by exact ⟨Nat.zero_le _,He⟩
 have r:(vI (kD c 0))=(vI (-1)):=by rw [gN rfl]
 refine bL (ι:={z:Nat // (z≤c.aN.length)∧(sX c z)}) [1,2,4,24,25] [2,3] U U (fun z=>[(3,(vI (kD c z.1))),(26,(vI (z.1:Int)))]) (fun z=>[]) (fun _=>rfl) (fun _=>rfl) (fun z=>c.aN.length-z.1) ⟨0,B⟩ (bk U r<|aU U) (aG [2,3]) ?_
 clear B
 rintro ⟨i,⟨L,C⟩⟩ J15 P
 try dsimp only
 have C1: -1≤kD c i∧kD c i≤86400000:=QO L C
 refine WS fun _ AA=>rP 1 [] mn ?_
 refine RK AA<|aj fun _ V=>bS U (aP fun A3=>?_) (aQ fun A3=>?_)
 ·refine bD<|ab<|ab<|ay<|KK K<|WS fun _ f=>rP 2 [] mn ?_
  refine RK f<|ar<|Q1 hQ U U U ?_
  exact cB (gf (H3 AB I (by have e:i=c.aN.length:=I; rw [← e]; exact C))).symm
 refine WK V<|aj fun _ W=>ax<|WS fun _ X=>rP 1 [] mn ?_
 obtain ⟨x,hx⟩:=aJ c.aN i I
 have Ci:=bO bJ.cells hx
 refine rS (IA i U (aC 1 U) pz dc I I)<|rS (oY i 0 (bJ.cells x) U cj (aC 1 U) Ci U dc U U)<|AL U vr fun Ck=>rP 1 [] mn ?_
 refine gl U AT U<|RK X ?_
 refine mw (ι:=Unit) [1,2,3,5,6,24,25,26] [0,1,2] U U (fun z=>[(4,(vB (decide (fH c i x))))]) (fun z=>[]) (fun _=>rfl) (fun _=>rfl) ?_ fun K22 G=>?_
 ·intro _
  try dsimp only
  refine aj fun _ Y=>WS fun _ Z=>fY 3 [] (mc 1 U mn) U<|rS (UB i U pz I I)<|rP 2 [] mn ?_
  refine RK Z<|ax ?_
  have B:(0≤i)∧((decide (fH c i x))=(decide (mq c i x 0))):=by exact ⟨Nat.zero_le _,gO.2 E8.symm⟩
  refine bL (ι:={z:Nat×Bool // (z.1≤i)∧(z.2=(decide (mq c i x z.1)))}) [1,2,3,5,6,24,25,26,59,60] [0,1,2] U U (fun z=>[(4,(vB z.1.2)),(61,(vI (z.1.1:Int)))]) (fun z=>[]) (fun _=>rfl) (fun _=>rfl) (fun z=>i-z.1.1) ⟨(0,(decide (fH c i x))),B⟩ (aU U) (aG [0,1,2]) ?_
  clear B
  rintro ⟨⟨k,b⟩,⟨M,A⟩⟩ J25 F
  try dsimp only at M A
  try dsimp only
  refine WS fun _ a=>rP 1 [] mn ?_
  refine RK a<|aj fun _ d=>bS U (aP fun A5=>?_) (aQ fun A5=>?_)
  ·refine bD<|ab<|ab<|ay<|KK Y<|aj fun _ m=>WS fun _ n=>rP 2 [] mn ?_
   refine RK n<|cP U (fun D=>?_) (fun D=>?_)
   ·rw [Bool.not_eq_true'] at D
    refine bD<|ab<|iX U<|ab<|ab<|ay<|KK K<|WS fun _ p=>rP 2 [] mn ?_
    refine RK p<|ar<|Q1 hQ U U U ?_
    exact cB (by have e:k=i:=I; rw [e] at A; rw [D] at A ⊢; exact (ct (Mm hx (of_decide_eq_false A.symm))).symm)
   rw [Bool.not_eq_false'] at D
   refine WK m<|al<|fY 3 [] (mc 0 U mn) U<|aA<|aH<|KK W<|al<|rP 2 [] mn ?_
   refine aA ?_
   have AS:(vB true)=(vB b):=by exact cB D.symm
   have Ao:(vI (kD c (i+1)))=(vI x.At):=by rw [oK hx]
   have Ap:(vI (((i+1):Nat):Int))=(vI ((i:Int)+1)):=by exact cI I
   refine aV (P ⟨(i+1),⟨I,Is C hx (by have e:k=i:=I; rw [e] at A; exact of_decide_eq_true (A.symm.trans D))⟩⟩ _ _ _ U os (dF.cons U<|dF.cons U<|bk U AS<|dF.cons U<|dF.cons U<|bk U Ao<|bk U Ap<|dF.nil _) (aG [1,2]))
  refine WK d<|aj fun _ H=>ax<|WS fun _ g=>?_
  obtain ⟨o,ho⟩:=aJ c.aN k I
  have B9:=bO bJ.cells ho
  refine rS (Tz k U (aC 2 U) pz dc I I I)<|rS (oY k 0 (bJ.cells o) U cj (aC 2 U) B9 U dc U U)<|AL U vr fun Cp=>gl U AT U<|RK g<|WS fun _ l=>fY 6 [0,1,2] (mc 2 U (mc 1 U (mc 0 U mn))) U<|rS (BI U KB)<|rS (BI U PY)<|rS (CL (U9 (Bp (c.dq*(Bp (x.At-o.At)))) 1000000 I) (aI) U)<|bo 1 U<|RK l<|al<|rP 2 [] mn ?_
  refine cu (t:=75) U (fun J=>?_) (fun J=>?_)
  ·refine bo 6 U<|bo 16 U<|aA<|aH<|KK H<|al<|rP 2 [] mn ?_
   refine aA ?_
   have AO:(vI (((k+1):Nat):Int))=(vI ((k:Int)+1)):=by exact cI I
   refine aV (F ⟨((k+1),false),⟨I,by exact (ct fun h=>by have h2:=((sV ho).1 h).1; rw [A] at J; exact absurd (gf h2) (by rw [J]; decide)).symm⟩⟩ _ _ _ U os (cU 11<|bk U AO<|dF.nil _) (aG [1,2,3]))
  refine rP 6 [0,1] (mc 1 U (mc 0 U mn)) ?_
  have A0:mq c i x k:=of_decide_eq_true (A.symm.trans J)
  obtain ⟨Ca,C2,C3⟩:=uC (fun j y hj hy=>(C j y hj hy).1) hx A0.1 I ho
  have N:=NB AB Ca
  refine rP 5 [] mn ?_
  refine cu (t:=86) U (aP fun E=>?_) (aQ fun E=>?_)
  ·refine bo 11 U<|aA<|aH<|KK H<|al<|rP 2 [] mn ?_
   refine aA ?_
   have AC:(vI (((k+1):Nat):Int))=(vI ((k:Int)+1)):=by exact cI I
   refine aV (F ⟨((k+1),false),⟨I,by exact (ct fun h=>by have h2:=((sV ho).1 h).2; rw [N] at E; exact E h2.1).symm⟩⟩ _ _ _ U os (cU 11<|bk U AC<|dF.nil _) (aG [1,2,3]))
  refine fY 11 [0,1] (mc 0 U (mc 1 U mn)) U<|aA<|aH<|KK H<|al<|rP 2 [] mn ?_
  refine aA ?_
  have w:(vI (((k+1):Nat):Int))=(vI ((k:Int)+1)):=by exact cI I
  refine aV (F ⟨((k+1),(decide ((o.dL.Lo-x.dL.Hi)≤(Sr (Bp (c.dq*(Bp (x.At-o.At)))) 1000000)))),⟨I,by exact gO.2 (by rw [sV ho,N]; rw [N] at E; exact ⟨fun h=>⟨A0,E,h⟩,fun h=>h.2.2⟩)⟩⟩ _ _ _ U os (cU 11<|bk U w<|dF.nil _) (aG [1,2,3]))
 refine al<|rP 4 [] (mc 0 U mn) ?_
 refine c_ (xs:=[.tmp 34]) (cs:=[(vI x.At)]) U cL jA U U U U (by simp [Value.cells]) U U fun A1=>?_
 refine rS (CL (eB.eq (jn ((kD c i)+1) 86400000 ([x.At]) (some ⟨A1,0,none⟩) 1 (by (simp; done))) cZ) (au (aZ 0 U U (by simp [bI]) U)<|aI) U) ?_
 refine rP 1 [] mn ?_
 refine cu (t:=37) U (aP fun A6=>?_) (aQ fun A6=>?_)
 ·refine rP 19 [] mn ?_
  refine aA ?_
  have v:(decide (fH c i x))=false:=ct (by unfold fH; omega)
  refine aV (ja (cU 8<|ob U v<|dF.nil _) (aG [1,2,3]) (G ()))
 refine rP 6 [] (mc 1 U mn) ?_
 refine c_ (xs:=[.tmp 40,.tmp 43]) (cs:=[(vI x.dL.Lo),(vI x.dL.Hi)]) U cL jA U U U U (by simp [Value.cells]) U U fun A2=>?_
 refine rS (CL (eB.eq (jn (-10000) 10000 ([x.dL.Lo,x.dL.Hi]) (some ⟨A2,0,none⟩) 2 (by (simp; done))) rG) (au (aZ 0 U U (by simp [bI]) U)<|aI) U) ?_
 refine rP 2 [] mn ?_
 refine cu (t:=47) U (aP fun A7=>?_) (aQ fun A7=>?_)
 ·refine rP 9 [] mn ?_
  refine aA ?_
  have u:(decide (fH c i x))=false:=ct (by unfold fH; omega)
  refine aV (ja (cU 8<|ob U u<|dF.nil _) (aG [2,3,4]) (G ()))
 refine rP 9 [] (mc 2 U mn) ?_
 refine aA ?_
 have s:(decide (fH c i x))=(decide (x.dL.Lo≤x.dL.Hi)):=gO.2 (by unfold fH; omega)
 refine aV (ja (cU 8<|ob U s<|dF.nil _) (aG [2,3,4]) (G ()))
theorem TU (ms:List ao) (az:List RA) (k:Nat) (m:ao) (a:RA) (hm:ms[k]? =some m) (ha:az[k]? =some a) (hc:m.aN.length≤a.2∧m.aN.length≤1000000):
 eB Tryz.prog 156 [(vA (dx.cells (dx.mk m.dq (bj.mk a.1 m.aN.length a.2))))] [(e9 (aW ao.gP ms az))] (vB (!(decide (fm m)))):=by
 obtain ⟨C,D⟩:=hc
 refine bG kr Tryz.func156 U U fun F Q hQ hN=>?_
 try dsimp only
 refine WS fun _ A=>gd U fun E=>bo 1 U<|RK A<|WS fun _ B=>fY 1 [] (mc 0 U mn) U<|rS (CL (Qa m a.1 a.2 asm asm) (au (show iA _ (rd a.1 m.aN.length 3 (m.aN.map bJ.cells)).holds from (dA 1 U (bM hm ha (by simp [ao.gP]))))<|aI) U)<|rP 2 [] mn ?_
 refine RK B<|ar ?_
 exact Q1 hQ U U U U
theorem H9 (l:List ao) (az:List RA) (lA:OA) (lC:Nat) (f:Value) (p:ao→Bool) (X:av) (hf: ∀ (k:Nat) m a,l[k]? =some m→az[k]? =some a→Ew Tryz.prog f [.agg (ao.cells m a).toArray] [X] (.bool (p m))) (hlen:l.length≤1000000) (has:az.length=l.length):
 eB Tryz.prog 180 [(vS lA l.length lC),f] [(rd lA l.length 2 (List.zipWith ao.cells l az)),(e9 (aW ao.gP l az)),X] (vI (uu p l)):=by
 refine bG kr Tryz.func180 U U fun T Q hQ hN=>?_
 try dsimp only
 refine WS fun _ AA=>bo 1 U<|RK AA<|aj fun _ J=>WS fun _ K=>rP 3 [] mn ?_
 refine RK K<|ax ?_
 have B:(0≤l.length)∧((l.take 0).any p=false):=by simp
 refine bL (ι:={z:Nat // (z≤l.length)∧((l.take z).any p=false)}) [0,1,7] [0,1,2] U U (fun z=>[(8,(vI (z.1:Int)))]) (fun z=>[]) (fun _=>rfl) (fun _=>rfl) (fun z=>l.length-z.1) ⟨0,B⟩ (aU U) (aG [0,1,2]) ?_
 clear B
 rintro ⟨i,⟨P,A⟩⟩ J4 H
 try dsimp only
 refine WS fun _ L=>rP 1 [] mn ?_
 refine RK L<|aj fun _ M=>bS U (aP fun S=>?_) (aQ fun S=>?_)
 ·refine bD<|ab<|ab<|ay<|KK J<|WS fun _ E=>rP 1 [] mn ?_
  refine RK E<|ar<|Q1 hQ U U U ?_
  exact cI (s9 I A).symm
 refine WK M<|aj fun _ N=>ax<|WS fun _ O=>bo 2 U<|RK O<|WS fun _ C=>rP 3 [] mn ?_
 obtain ⟨x,hx⟩:=aJ l i I
 obtain ⟨xa,G⟩:=aJ az i I
 have R:(List.zipWith ao.cells l az)[i]? =some (ao.cells x xa):=dG hx G
 refine rS (IA i U (aC 0 U) uQ dc I I)<|rS (oY i 0 (dx.cells (dx.mk x.dq (bj.mk xa.1 x.aN.length xa.2))) U cj (aC 0 U) R U dc U U)<|rS (SX (s7 U U U (hf i x xa hx G) (bp [2])) U U)<|RK C<|cP U (fun hp=>?_) (fun hp=>?_)
 ·refine WS fun _ D=>rP 2 [] mn ?_
  refine RK D<|ar<|Q1 hQ U U U ?_
  exact cI (xC hx hp A).symm
 refine cr<|aH<|KK N<|al<|rP 2 [] mn ?_
 refine aA ?_
 have F:(vI (((i+1):Nat):Int))=(vI ((i:Int)+1)):=by exact cI I
 refine aV (H ⟨(i+1),⟨I,xS hx A hp⟩⟩ _ _ _ U os (cU 3<|bk U F<|dF.nil _) (aG [0,1,2]))
theorem AX (l:List ao) (az:List RA) (lA:OA) (lC:Nat) (f:Value) (p:ao→Bool) (X:av) (hf: ∀ (k:Nat) m a,l[k]? =some m→az[k]? =some a→Ew Tryz.prog f [.agg (ao.cells m a).toArray] [X] (.bool (p m))) (hlen:l.length≤1000000) (has:az.length=l.length):
 eB Tryz.prog 155 [(vS lA l.length lC),f] [(rd lA l.length 2 (List.zipWith ao.cells l az)),(e9 (aW ao.gP l az)),X] (vB (l.any p)):=by
 refine bG kr Tryz.func155 U U fun C Q hQ hN=>?_
 try dsimp only
 refine WS fun _ A=>bo 1 U<|RK A<|WS fun _ B=>bo 2 U<|rS (CL (H9 l az lA lC f p X (by exact hf) hlen has) (NR 0 1 2 U U U U U U) U)<|rP 2 [] mn ?_
 refine RK B<|ar<|Q1 hQ U U U ?_
 exact cB uy
theorem Hr (l:List bE) (lA:OA) (lC:Nat) (f:Value) (p:bE→Bool) (X:av) (hf: ∀ x0,x0∈l→Ew Tryz.prog f [.agg (bE.cells x0).toArray] [X] (.bool (p x0))) (hlen:l.length≤1000000):
 eB Tryz.prog 181 [(vS lA l.length lC),f] [(rd lA l.length 4 (l.map bE.cells)),X] (vI (uu p l)):=by
 refine bG kr Tryz.func181 U U fun S Q hQ hN=>?_
 try dsimp only
 refine WS fun _ H=>bo 1 U<|RK H<|aj fun _ AA=>WS fun _ J=>rP 3 [] mn ?_
 refine RK J<|ax ?_
 have B:(0≤l.length)∧((l.take 0).any p=false):=by simp
 refine bL (ι:={z:Nat // (z≤l.length)∧((l.take z).any p=false)}) [0,1,7] [0,1] U U (fun z=>[(8,(vI (z.1:Int)))]) (fun z=>[]) (fun _=>rfl) (fun _=>rfl) (fun z=>l.length-z.1) ⟨0,B⟩ (aU U) (aG [0,1]) ?_
 clear B
 rintro ⟨i,⟨O,A⟩⟩ J4 G
 try dsimp only
 refine WS fun _ K=>rP 1 [] mn ?_
 refine RK K<|aj fun _ L=>bS U (aP fun R=>?_) (aQ fun R=>?_)
 ·refine bD<|ab<|ab<|ay<|KK AA<|WS fun _ E=>rP 1 [] mn ?_
  refine RK E<|ar<|Q1 hQ U U U ?_
  exact cI (s9 I A).symm
 refine WK L<|aj fun _ M=>ax<|WS fun _ N=>bo 2 U<|RK N<|WS fun _ C=>rP 3 [] mn ?_
 obtain ⟨x,hx⟩:=aJ l i I
 have P:=bO bE.cells hx
 refine rS (IA i U (aC 0 U) vo dc I I)<|rS (oY i 0 (bE.cells x) U cj (aC 0 U) P U dc U U)<|rS (SX (s7 U U U (hf x (aT hx)) (bp [1])) U U)<|RK C<|cP U (fun hp=>?_) (fun hp=>?_)
 ·refine WS fun _ D=>rP 2 [] mn ?_
  refine RK D<|ar<|Q1 hQ U U U ?_
  exact cI (xC hx hp A).symm
 refine cr<|aH<|KK M<|al<|rP 2 [] mn ?_
 refine aA ?_
 have F:(vI (((i+1):Nat):Int))=(vI ((i:Int)+1)):=by exact cI I
 refine aV (G ⟨(i+1),⟨I,xS hx A hp⟩⟩ _ _ _ U os (cU 3<|bk U F<|dF.nil _) (aG [0,1]))
theorem AE (l:List bE) (lA:OA) (lC:Nat) (f:Value) (p:bE→Bool) (X:av) (hf: ∀ x0,x0∈l→Ew Tryz.prog f [.agg (bE.cells x0).toArray] [X] (.bool (p x0))) (hlen:l.length≤1000000):
 eB Tryz.prog 159 [(vS lA l.length lC),f] [(rd lA l.length 4 (l.map bE.cells)),X] (vB (l.any p)):=by
 refine bG kr Tryz.func159 U U fun C Q hQ hN=>?_
 try dsimp only
 refine WS fun _ A=>bo 1 U<|RK A<|WS fun _ B=>bo 2 U<|rS (CL (Hr l lA lC f p X (by exact hf) hlen) (bp [0,1]) U)<|rP 2 [] mn ?_
 refine RK B<|ar<|Q1 hQ U U U ?_
 exact cB uy
end
section
open Go.RowKit
theorem pL (a:aa) (l:List aa) (lA:OA) (lC:Nat) (ha:lO a) (hl: ∀ z∈l,lO z) (hlen:l.length≤4):
 eB Tryz.prog 175 [(vA (aa.cells a)),(vS lA l.length lC)] [(rd lA l.length 2 (l.map aa.cells))] (vA (aa.cells (kP a l))):=by
 refine bG kr Tryz.func175 U U fun AA Q hQ hN=>?_
 try dsimp only
 refine WS fun _ AB=>gd U fun R=>AL U dv fun T=>RK AB<|aj fun _ J=>WS fun _ K=>rP 3 [] mn ?_
 refine RK K<|ax ?_
 have A:(0≤l.length):=by exact Nat.zero_le _
 refine bL (ι:={z:Nat // (z≤l.length)}) [2,4,7,8] [0,2] U U (fun z=>[(9,(vI (z.1:Int)))]) (fun z=>[(cd R 45 (aa.cells (kP a (l.take z.1))))]) (fun _=>rfl) (fun _=>rfl) (fun z=>l.length-z.1) ⟨0,A⟩ (aU U) (aG [0,2,1]) ?_
 clear A
 rintro ⟨i,N⟩ J6 H
 try dsimp only
 refine WS fun _ L=>rP 1 [] mn ?_
 refine RK L<|aj fun _ M=>bS U (aP fun S=>?_) (aQ fun S=>?_)
 ·refine bD<|ab<|ab<|ay<|KK J<|aj fun _ D=>?_
  have G:(aa.cells (kP a (l.take i)))=(aa.cells (kP a l)):=by rw [I_ I]
  rw [G]
  refine al<|rP 1 [] (mc 2 U mn) ?_
  refine gl U cy U<|RK D<|ar ?_
  exact IC hQ [0] (mc 0 U mn) U U
 refine WK M<|aj fun _ B=>ax<|WS fun _ C=>?_
 obtain ⟨x,hx⟩:=aJ l i I
 have O:=bO aa.cells hx
 refine rS (IA i U (aC 1 U) g4 dc I I)<|rS (oY i 0 (aa.cells x) U cj (aC 1 U) O U dc U U)<|AL U dv fun P=>gl U cy U<|RK C<|al ?_
 have hb:=Qs ha hl i
 have hz:=hl x (aT hx)
 unfold lO at hz
 refine rP 10 [0,1,0,1] (mc 3 U (mc 0 U mn)) ?_
 refine rS (SX (bh (xs:=[(0,.tmp 17),(1,.tmp 22)]) (cs:=(aa.cells (aa.mk (((kP a (l.take i)).Lo)+x.Lo) (((kP a (l.take i)).Hi)+x.Hi)))) U U (bg gH U)) U U)<|UH U cy U<|aA<|aH<|KK B ?_
 have E:(aa.cells (aa.mk (((kP a (l.take i)).Lo)+x.Lo) (((kP a (l.take i)).Hi)+x.Hi)))=(aa.cells (kP a (l.take (i+1)))):=by rw [zz hx]; rfl
 rw [E]
 refine al<|rP 2 [] mn ?_
 refine aA ?_
 have F:(vI ((i+1):Int))=(vI ((i:Int)+1)):=by exact cI I
 refine aV (H ⟨(i+1),(by first|omega|(simp only []; omega))⟩ _ _ _ U os (cU 4<|bk U F<|dF.nil _) (aG [1,2,3]))
theorem Gu (ts:List ak) (tsA:OA) (tsC:Nat) (hlen:ts.length≤1000000) (hside: ∀ x∈ts,0≤x.jq∧x.jq≤255):
 eB Tryz.prog 172 [(vA (bB.cells (bB.mk (bj.mk tsA ts.length tsC))))] [(rd tsA ts.length 9 (ts.map ak.cells))] (vT [(vA (eG.cells (eG.mk (bB.mk (bj.mk tsA ts.length tsC))))),(vI (if db ts=true then 0 else 10))]):=by
 refine bG kr Tryz.func172 U U fun E Q hQ hN=>?_
 try dsimp only
 refine WS fun _ A=>gd U fun C=>AL U JG fun D=>bo 1 U<|RK A<|aj fun _ B=>dH cx 4 kr<|mV 1 [] (mc 1 U mn) U<|dS (SX (bh (xs:=[(0,.tmp 4)]) (cs:=(eG.cells (eG.mk (bB.mk (bj.mk tsA ts.length tsC))))) U U (bg Us U)) U U)<|mV 1 [] (mc 1 U mn) U<|dS (CL (B_ ts tsA tsC hlen hside) (bp [2]) U)<|cQ<|gl U ML U<|rP 1 [] mn ?_
 refine RK B<|ar ?_
 exact lP hQ [0] (mc 0 U mn) U U
theorem Oe (f:Int) (tsA:OA) (tsN tsC:Nat):
 lB Tryz.prog 186 [(vA (eG.cells (eG.mk (bB.mk (bj.mk tsA tsN tsC))))),(vI f)] [] (fun (x:Nat×Nat)=>(Value.func (.func 190) [].toArray [(Value.pointer (some ⟨x.1,0,none⟩)),(Value.pointer (some ⟨x.2,0,none⟩))].toArray)) (fun (x:Nat×Nat)=>True) (fun (x:Nat×Nat)=>[(cd x.1 3 [(vI f)]),(cd x.2 237 (eG.cells (eG.mk (bB.mk (bj.mk tsA tsN tsC)))))]):=by
 refine di kr Tryz.func186 U U fun E Q hQ hN=>?_
 try dsimp only
 refine WS fun _ A=>gd U fun C=>uG U U fun D=>bo 1 U<|RK A<|WS fun _ B=>rS (FU U)<|rP 1 [] mn ?_
 refine RK B<|ar<|LX hQ (D,C) [0,1] [] mn U U U U ?_
 trivial
theorem Ia (ts:List ak) (tsA:OA) (tsC:Nat) (f:Int) (g1 g2:Nat) (hst: ∀ x∈ts,bQ x) (hlen:ts.length≤12) (hf:0≤f∧f≤ts.length):
 Nb Tryz.prog 190 [] [(vP g1),(vP g2)] [(rd tsA ts.length 9 (ts.map ak.cells)),(cd g1 3 [(vI f)]),(cd g2 237 (eG.cells (eG.mk (bB.mk (bj.mk tsA ts.length tsC)))))] (ui ts f.toNat):=by
 refine FD kr Tryz.func190 U U fun l J Z A0 p Q hY g d hQ hN=>?_
 try dsimp only
 refine WS fun _ h=>AL U dv fun n=>AL U dv fun o=>RK h<|WS fun _ i=>rP 2 [] (mr 4 U mn) ?_
 refine RK i<|ax ?_
 have P:(0≤ts.length-f.toNat)∧(J 0 A0)∧(Fo A0 p A0):=by exact ⟨Nat.zero_le _,g,d⟩
 have m:(vI (f+(0:Int)))=(vI f):=by exact cI I
 refine bL (ι:={z:Nat×av // (z.1≤ts.length-f.toNat)∧(J z.1 z.2)∧(Fo A0 p z.2)}) [0,1,2,4,5] [3,4,5] U U (fun z=>[(6,(vI (f+(z.1.1:Int))))]) (fun z=>[(cd o 45 (aa.cells (gG ts f.toNat z.1.1))),(cd n 45 (aa.cells (eL ts f.toNat z.1.1))),z.1.2]) (fun _=>rfl) (fun _=>rfl) (fun z=>ts.length-f.toNat-z.1.1) ⟨(0,A0),P⟩ (bk U m<|dF.nil _) (aG [3,4,5,0,1,2]) ?_
 clear P
 rintro ⟨⟨k,A⟩,⟨W,R,S⟩⟩ J6 V
 try dsimp only at W R S
 try dsimp only
 refine aj fun _ j=>WS fun _ X=>rP 3 [0,1] (mc 4 U (mc 3 U mn)) ?_
 refine Gb 5 hY R S U U U (zC I) U U (fun B9 C B=>?_) (fun B9 C B=>?_)
 rotate_left 1
 ·refine rP 8 [] mn ?_
  refine RK X<|a_ U<|bD<|ab<|ab<|ay ?_
  refine hN _ _ _ (ik (vs:=[]) trivial fun w hs=>Po 5 U C B hs)
 refine rP 8 [] (mr 2 U mn) ?_
 refine RK X<|bS U (aP fun c=>?_) (aQ fun c=>?_)
 ·refine bD<|ab<|ab<|ay ?_
  refine hN _ _ _ (ik (vs:=[]) trivial fun w hs=>TA 5 U (by rw [uo]; have e:ts.length-f.toNat+1=k+1:=I; rw [e]; exact C) B hs)
 refine WK j<|aj fun _ M=>ax<|oJ cx [0,1,2,3,4,5,6,7,10,11,12,13,14,15,16,17] [8,9,18,19,20,21] [true,false,false,false,false,false,false,false,true,false,false,false,false,false,false,false] [8,9,18] [(rd tsA ts.length 9 (ts.map ak.cells)).ro,(cd g1 3 [(vI f)]).ro,(cd g2 237 (eG.cells (eG.mk (bB.mk (bj.mk tsA ts.length tsC))))).ro,B9] [(rd tsA ts.length 9 (ts.map ak.cells)).ro,(cd g1 3 [(vI f)]).ro,(cd g2 237 (eG.cells (eG.mk (bB.mk (bj.mk tsA ts.length tsC))))).ro,(cd o 45 (aa.cells (gG ts f.toNat k))),(cd n 45 (aa.cells (eL ts f.toNat k))),B9] kr (aG [0,1,2,5]) (aG [0,1,2,3,4,5])<|fS U (LW 4 U cj U U)<|eS U (FA 0 U fw U)<|eS U (FA 0 U fw U)<|eS U (ID (vS tsA ts.length tsC) 2 U cj U U)<|eS U (MV U) ?_
 obtain ⟨x,hx⟩:=aJ ts (f.toNat+k) I
 have a:=bO ak.cells hx
 refine eS U (IA (f.toNat+k) U (aC 0 U) wQ dc I I) ?_
 have L:=hst x (aT hx)
 refine eS U (mW (((f.toNat+k)*9)+1) U (aC 0 U) (Nat.mul_pos I dc) fw U)<|eS U (oY (f.toNat+k) 1 (aa.cells x.kO) U cj (aC 0 U) a U dc U U)<|fS U (LW 3 U cj U U)<|eS U (FA 0 U fw U)<|eS U (FA 0 U fw U)<|eS U (ID (vS tsA ts.length tsC) 2 U cj U U)<|eS U (MV U)<|eS U (IA (f.toNat+k) U (aC 0 U) wQ dc I I)<|eS U (mW (((f.toNat+k)*9)+3) U (aC 0 U) (Nat.mul_pos I dc) fw U)<|eS U (oY (f.toNat+k) 3 (aa.cells x.l7) U cj (aC 0 U) a U dc U U)<|eT U<|iE [8,18] kr (ej ?_<|ej ?_<|j5)
 rotate_left 1
 ·refine kB (rem':=[8,9,19,20,21]) U kr fun T14 N=>c_ (xs:=[.tmp 39]) (cs:=(aa.cells x.l7)) U g4 dv U U U U (by simp [Value.cells,aa.aS]) U U fun T=>aA (N _ _ (aG [1,2,3,6]) (aG [1,2,3,4,5,6]) ?_)
  refine N1 8<|kB (rem':=[9,19,20,21]) U kr fun T16 D=>c_ (xs:=[.tmp 29]) (cs:=(aa.cells x.kO)) U g4 dv U U U U (by simp [Value.cells,aa.aS]) U U fun AA=>aA (D _ _ (aG [2,3,4,7]) (aG [2,3,4,5,6,7]) ?_)
  refine N1 9<|kB (rem':=[19,20,21]) U kr fun T18 O=>?_
  refine rS (CL (eB.eq (pL (eL ts f.toNat k) ([x.kO]) (some ⟨AA,0,none⟩) 1 (by exact qO hst I) (by intro z hz; simp only [bH] at hz; subst hz; exact uL L) sm) n9) (au (aZ 0 rfl rfl (by simp [aa.aS]) rfl)<|aI) rfl) ?_
  refine aA (O _ _ (aG [2,3,4,7]) (aG [2,3,4,5,6,7]) ?_)
  refine N1 19<|NO U U [20,21] fun T19 E=>?_
  refine rS (CL (eB.eq (pL (gG ts f.toNat k) ([x.l7]) (some ⟨T,0,none⟩) 1 (by exact yl hst I) (by intro z hz; simp only [bH] at hz; subst hz; exact uO L) sm) n9) (au (aZ 1 rfl rfl (by simp [aa.aS]) rfl)<|aI) rfl) ?_
  refine aA (E _ _ (aG [2,3,4,7]) ?_)
  refine N1 20<|NO U U [21] fun T20 F=>O6 U cy U<|aA (F _ _ (aG [2,3,4,7]) ?_)
  refine N1 21<|NO U U [] fun T21 G=>IE U cy U<|aA (G _ _ (aG [2,3,4,7]) ?_)
  refine nW<|aH<|KK M ?_
  have H:(aa.cells (mL (eL ts f.toNat k) x.kO))=(aa.cells (eL ts f.toNat (k+1))):=by rw [p5 hx]
  rw [H]
  have AB:(aa.cells (mL (gG ts f.toNat k) x.l7))=(aa.cells (gG ts f.toNat (k+1))):=by rw [pM hx]
  rw [AB]
  refine al<|rP 3 [] mn ?_
  refine aA ?_
  have K:(vI (f+(((k+1):Nat):Int)))=(vI ((f+(k:Int))+1)):=by exact cI I
  refine aV (V ⟨((k+1),B9),⟨I,C,B⟩⟩ _ _ _ U os (cU 5<|bk U K<|dF.nil _) (aG [2,3,4,5,6,7]))
 refine kB (rem':=[9,18,19,20,21]) U kr fun T14 N=>c_ (xs:=[.tmp 29]) (cs:=(aa.cells x.kO)) U g4 dv U U U U (by simp [Value.cells,aa.aS]) U U fun T=>aA (N _ _ (aG [1,2,3,6]) (aG [1,2,3,4,5,6]) ?_)
 refine iE [9,18] kr (ej ?_<|ej ?_<|j5)
 rotate_left 1
 ·refine kB (rem':=[9,19,20,21]) U kr fun T16 D=>c_ (xs:=[.tmp 39]) (cs:=(aa.cells x.l7)) U g4 dv U U U U (by simp [Value.cells,aa.aS]) U U fun AA=>aA (D _ _ (aG [2,3,4,7]) (aG [2,3,4,5,6,7]) ?_)
  refine N1 9<|kB (rem':=[19,20,21]) U kr fun T18 O=>?_
  refine rS (CL (eB.eq (pL (eL ts f.toNat k) ([x.kO]) (some ⟨T,0,none⟩) 1 (by exact qO hst I) (by intro z hz; simp only [bH] at hz; subst hz; exact uL L) sm) n9) (au (aZ 1 rfl rfl (by simp [aa.aS]) rfl)<|aI) rfl) ?_
  refine aA (O _ _ (aG [2,3,4,7]) (aG [2,3,4,5,6,7]) ?_)
  refine N1 19<|NO U U [20,21] fun T19 E=>?_
  refine rS (CL (eB.eq (pL (gG ts f.toNat k) ([x.l7]) (some ⟨AA,0,none⟩) 1 (by exact yl hst I) (by intro z hz; simp only [bH] at hz; subst hz; exact uO L) sm) n9) (au (aZ 0 rfl rfl (by simp [aa.aS]) rfl)<|aI) rfl) ?_
  refine aA (E _ _ (aG [2,3,4,7]) ?_)
  refine N1 20<|NO U U [21] fun T20 F=>O6 U cy U<|aA (F _ _ (aG [2,3,4,7]) ?_)
  refine N1 21<|NO U U [] fun T21 G=>IE U cy U<|aA (G _ _ (aG [2,3,4,7]) ?_)
  refine nW<|aH<|KK M ?_
  have H:(aa.cells (mL (eL ts f.toNat k) x.kO))=(aa.cells (eL ts f.toNat (k+1))):=by rw [p5 hx]
  rw [H]
  have AB:(aa.cells (mL (gG ts f.toNat k) x.l7))=(aa.cells (gG ts f.toNat (k+1))):=by rw [pM hx]
  rw [AB]
  refine al<|rP 3 [] mn ?_
  refine aA ?_
  have K:(vI (f+(((k+1):Nat):Int)))=(vI ((f+(k:Int))+1)):=by exact cI I
  refine aV (V ⟨((k+1),B9),⟨I,C,B⟩⟩ _ _ _ U os (cU 5<|bk U K<|dF.nil _) (aG [2,3,4,5,6,7]))
 refine kB (rem':=[18,19,20,21]) U kr fun T16 D=>?_
 refine rS (CL (eB.eq (pL (eL ts f.toNat k) ([x.kO]) (some ⟨T,0,none⟩) 1 (by exact qO hst I) (by intro z hz; simp only [bH] at hz; subst hz; exact uL L) sm) n9) (au (aZ 0 rfl rfl (by simp [aa.aS]) rfl)<|aI) rfl) ?_
 refine aA (D _ _ (aG [1,2,3,6]) (aG [1,2,3,4,5,6]) ?_)
 refine N1 18<|kB (rem':=[19,20,21]) U kr fun T17 Y=>c_ (xs:=[.tmp 39]) (cs:=(aa.cells x.l7)) U g4 dv U U U U (by simp [Value.cells,aa.aS]) U U fun b=>aA (Y _ _ (aG [2,3,4,7]) (aG [2,3,4,5,6,7]) ?_)
 refine N1 19<|NO U U [20,21] fun T19 E=>?_
 refine rS (CL (eB.eq (pL (gG ts f.toNat k) ([x.l7]) (some ⟨b,0,none⟩) 1 (by exact yl hst I) (by intro z hz; simp only [bH] at hz; subst hz; exact uO L) sm) n9) (au (aZ 0 rfl rfl (by simp [aa.aS]) rfl)<|aI) rfl) ?_
 refine aA (E _ _ (aG [2,3,4,7]) ?_)
 refine N1 20<|NO U U [21] fun T20 F=>O6 U cy U<|aA (F _ _ (aG [2,3,4,7]) ?_)
 refine N1 21<|NO U U [] fun T21 G=>IE U cy U<|aA (G _ _ (aG [2,3,4,7]) ?_)
 refine nW<|aH<|KK M ?_
 have H:(aa.cells (mL (eL ts f.toNat k) x.kO))=(aa.cells (eL ts f.toNat (k+1))):=by rw [p5 hx]
 rw [H]
 have AB:(aa.cells (mL (gG ts f.toNat k) x.l7))=(aa.cells (gG ts f.toNat (k+1))):=by rw [pM hx]
 rw [AB]
 refine al<|rP 3 [] mn ?_
 refine aA ?_
 have K:(vI (f+(((k+1):Nat):Int)))=(vI ((f+(k:Int))+1)):=by exact cI I
 refine aV (V ⟨((k+1),B9),⟨I,C,B⟩⟩ _ _ _ U os (cU 5<|bk U K<|dF.nil _) (aG [2,3,4,5,6,7]))
theorem Mg (ts:List ak) (tsA:OA) (tsC:Nat) (f t:Int) (hst: ∀ x∈ts,bQ x) (hlen:ts.length≤12) (hf:0≤f∧f≤t∧t≤ts.length):
 eB Tryz.prog 174 [(vA (eG.cells (eG.mk (bB.mk (bj.mk tsA ts.length tsC))))),(vI f),(vI t)] [(rd tsA ts.length 9 (ts.map ak.cells))] (vT [(vA (aa.cells (eL ts f.toNat (t-f).toNat))),(vA (aa.cells (gG ts f.toNat (t-f).toNat)))]):=by
 refine bG kr Tryz.func174 U U fun w0 Q hQ hN=>?_
 try dsimp only
 refine WS fun _ M=>gd U fun a=>uG U U fun b=>uG U U fun d=>AL U dv fun e=>AL U dv fun g=>RK M<|aj fun _ AA=>WS fun _ V=>rP 2 [0,1] (mc 4 U (mc 3 U mn)) ?_
 refine cX (Oe f tsA ts.length tsC) (aI) U fun u n=>?_
 obtain ⟨B,C⟩:=u
 try dsimp only
 refine RK V<|ax<|kR 7 U (by exact fun _ h=>h) ?_
 refine F9 (L0:=[(3,(vP a)),(4,(vP b)),(5,(vP d)),(6,(vP e)),(7,(vP g))]) (F:=[(rd tsA ts.length 9 (ts.map ak.cells)).ro,(cd B 3 [(vI f)]),(cd C 237 (eG.cells (eG.mk (bB.mk (bj.mk tsA ts.length tsC)))))]) (xs:=(ui ts f.toNat)) (fun k (y:aa×aa×Int)=>(k≤(t-f).toNat)∧(y.2.2=f+(k:Int))) (fun k y=>[(cd g 45 (aa.cells y.2.1)),(cd e 45 (aa.cells y.1)),(cd d 3 [(vI t)]),(cd b 3 [(vI y.2.2)]),(cd a 237 (eG.cells (eG.mk (bB.mk (bj.mk tsA ts.length tsC))))),(rd tsA ts.length 9 (ts.map ak.cells)).ro]) (fun c (z:Unit)=>(c= .exit 0)) (fun _ z=>[(cd g 45 (aa.cells (gG ts f.toNat (t-f).toNat))),(cd e 45 (aa.cells (eL ts f.toNat (t-f).toNat))),(cd d 3 [(vI t)]),(cd b 3 [(vI t)]),(cd a 237 (eG.cells (eG.mk (bB.mk (bj.mk tsA ts.length tsC))))),(rd tsA ts.length 9 (ts.map ak.cells)).ro]) [3,4,5,6,7,8] [0,1,2] (dJ,dJ,f) U U (Ia ts tsA tsC f B C (by first|assumption|omega|(simp; done)) (by first|assumption|omega|(simp; done)) I) U U U (by exact ⟨Nat.zero_le _,sm⟩) (by simp only [List.forall_mem_cons,List.not_mem_nil,false_imp_iff,implies_true,and_true]; exact ⟨⟨_,sm,(dV (bV _))⟩,⟨_,sm,(bV _)⟩,⟨_,sm,(bV _)⟩⟩) (by exact DV) U (aU U) ?_ ?_ ?_ ?_
 rotate_left 1
 ·rintro q ⟨v,z2,m⟩ J
  obtain ⟨A,K⟩:=J
  try dsimp only at A K
  try dsimp only
  exfalso; rw [uo] at A; omega
 ·rintro r id _ Y
  have hc:=Y
  cases hc
  try dsimp only
  refine ay<|KK AA<|aj fun _ D=>dK cx [2,3] [] [] [0,1,2,3,4,5,6,7,8,9] [] U U U U U<|eS U (LW 5 U cj U U)<|eS U (LW 4 U cj U U)<|eT U<|cf U fun T30 E=>IE U cy U<|aA (E _ _ (aG [0,1,2,3,4,5,6,7,8,9]) ?_)
  refine cf U fun T31 G=>Pg U cy U<|aA (G _ _ (aG [0,1,2,3,4,5,6,7,8,9]) ?_)
  refine fO U<|KK D<|ar<|hQ _ _ _ (o0 0 U U<|ik (vs:=[(vA (aa.cells (eL ts f.toNat (t-f).toNat))),(vA (aa.cells (gG ts f.toNat (t-f).toNat)))]) ⟨⟨_,U,.inl ⟨_,_,cj,pI (vs:=(aa.cells (eL ts f.toNat (t-f).toNat))) 5 U U,U,U⟩⟩,⟨_,U,.inl ⟨_,_,cj,pI (vs:=(aa.cells (gG ts f.toNat (t-f).toNat))) 4 U U,U,U⟩⟩,trivial⟩ fun w hs=>Fk ?_ hs)
  show (vT [(vA (aa.cells (eL ts f.toNat (t-f).toNat))),(vA (aa.cells (gG ts f.toNat (t-f).toNat)))])=(vT [(vA (aa.cells (eL ts f.toNat (t-f).toNat))),(vA (aa.cells (gG ts f.toNat (t-f).toNat)))])
  clear hs w hQ hN G T31 E T30 D V AA M
  rfl
 ·rintro s _ Z
  cases Z
 rintro k x ⟨v,z2,m⟩ l ra rb S w1 K13 Qr14 hx AB N H L j
 obtain ⟨hk,rfl⟩:=HK hx
 obtain ⟨A,K⟩:=AB
 try dsimp only at A K
 try dsimp only
 refine WS fun _ O=>AL U dv fun o=>gl U cy U<|RK O<|al<|AL U dv fun p=>gl U cy U<|aA<|ja (fun _ _ h=>h) (aG [2,0,1,3,4,5,6,7,8])<|aV (N _ _ ?_)
 refine ax<|aj fun _ P=>aj fun _ R=>dK cx [2,3] [] [] [0,1,2,5,6,7,8] [] U U U U U<|eS U (LW 2 U cj U U)<|eS U (LW 1 U cj U U)<|eT U<|cf U fun T21 W=>Pg U cy U<|aA (W _ _ (aG [0,1,2,5,6,7,8]) ?_)
 refine cf U fun T22 X=>UH U cy U<|aA (X _ _ (aG [0,1,2,5,6,7,8]) ?_)
 refine fO U<|KK R<|WS fun _ T=>rP 3 [0,1] (mc 6 U (mc 5 U mn)) ?_
 refine RK T<|cP U (aQ fun i=>?_) (aP fun i=>?_)
 ·refine bD<|ab<|iX U ?_
  rw [show m=t from by omega]
  obtain rfl:k=(t-f).toNat:=by omega
  exact L _ () _ _ (by exact U) (aG [0,3,4,5,6,7,8])
 refine WK P<|al<|rP 2 [] (mc 6 U mn) ?_
 refine V5 U Cs U U<|aA<|aH ?_
 exact H ((eL ts f.toNat k),(gG ts f.toNat k),(m+1)) _ _ (by refine ⟨I,?_⟩; dsimp only; omega) (aG [0,3,4,5,6,7,8])
end
section
open Go.RowKit
theorem G2 (i:Int) (s:cN) (ts:List ak) (tsA:OA) (tsC g1:Nat) (hst: ∀ x∈ts,bQ x) (hlen:ts.length≤12):
 eB Tryz.prog 185 [(vI i),(vA (cN.cells s)),(vP g1)] [(rd tsA ts.length 9 (ts.map ak.cells)),(cd g1 237 (eG.cells (eG.mk (bB.mk (bj.mk tsA ts.length tsC)))))] (vB (!(decide (fG ts s)))):=by
 refine bG kr Tryz.func185 U U fun AA Q hQ hN=>?_
 try dsimp only
 refine WS fun _ C=>gd U fun G=>rP 1 [] mn ?_
 refine RK C<|aj fun _ A=>oJ cx [0,1,2,3,4,5,6] [7,8,9,10,11,12,13,14,15,16,17,18,19,20,21,22,23,24,25,26] [false,false,false,false,false,false,false] [] [(cd G 158 (cN.cells s)),(rd tsA ts.length 9 (ts.map ak.cells)).ro,(cd g1 237 (eG.cells (eG.mk (bB.mk (bj.mk tsA ts.length tsC))))).ro] [] kr (aG [0,1,2]) (aG [])<|eS U (FA 0 U fw U)<|eS U (FA 0 U fw U)<|eS U (ID (vS tsA ts.length tsC) 2 U cj U U)<|eS U (LN U QM)<|eS U (BI U (su ⟨I,I⟩))<|eS U (FA 0 U fw U)<|eS U (L1 (vI s.bf) 0 U cj U U)<|eT U<|N1 7<|NO U U [8,9,10,11,12,13,14,15,16,17,18,19,20,21,22,23,24,25,26] fun T4 D=>c_ (xs:=[.tmp 12]) (cs:=[(vI s.bf)]) U cL jA U U U U (by simp [Value.cells]) U U fun H=>RD D 1 U<|Ks [14,15,16,17,18,19,20,21,22,23,24,25,26,27,28,29,30,31,5] kr kr U _ U U (aG [1,2,3]) ?_
 refine dS (CL (eB.eq (o8 0 ((ts.length:Int)-1) ([s.bf]) (some ⟨H,0,none⟩) 1 (by (simp; done))) cZ) (au (aZ 0 U U (by simp [bI]) U)<|aI) U) ?_
 refine dP 2 [] mn ?_
 refine js (t:=16) U (bx fun B=>?_) (bw fun B=>?_)
 ·refine lQ 9 U<|dP 7 [] mn ?_
  refine cQ<|RK A<|ar<|Q1 hQ U U U ?_
  (refine cB ?_; rw [ct (CU I)]; rfl)
 refine lQ 1 U<|dS (LP (aa.cells s.mS) 1 U cj U U U)<|dP 5 [0,1] (mr 3 U (mc 1 U mn)) ?_
 obtain ⟨x,hx⟩:=aJ ts ((s.bf).toNat) I
 have E:=bO ak.cells hx
 refine dS (IA ((s.bf).toNat) U (aC 2 U) wQ dc I I)<|dS (mW ((((s.bf).toNat)*9)+1) U (aC 2 U) (Nat.mul_pos I dc) fw U) ?_
 have F:=(hst x (aT hx)).2.1
 simp only [eh] at F
 refine dS (mW ((((s.bf).toNat)*9)+1) U (aC 2 U) (Nat.mul_pos I dc) fw U)<|dS (gi ((s.bf).toNat) 1 (vI x.kO.Lo) U cj (aC 2 U) E U dc U)<|lQ 1 U<|dS (CL (wk s.mS 0 (x.kO.Lo-1)) (aI) U)<|dP 3 [] mn ?_
 refine cQ<|RK A<|ar<|Q1 hQ U U U ?_
 exact congrArg (fun b=>vB (!b)) (gO.2 (B5 I hx).symm)
theorem ED (l:List cN) (lA:OA) (lC:Nat) (f:Value) (p:Int→cN→Bool) (X:av) (hf: ∀ x0 x1,(∃ k:Nat,x0=(k:Int)∧l[k]? =some x1)→Ew Tryz.prog f [.int .i64 x0,.agg (cN.cells x1).toArray] [X] (.bool (p x0 x1))) (hlen:l.length≤1000000):
 lB Tryz.prog 184 [(vS lA l.length lC),f] [(rd lA l.length 3 (l.map cN.cells)),X] (fun (x:(OA)×Nat)=>(vS x.1 ((JB (fun jj yy=>p (jj:Int) yy) l).length) x.2)) (fun (x:(OA)×Nat)=>True) (fun (x:(OA)×Nat)=>[(own x.1 x.2 3 1 ((JB (fun jj yy=>p (jj:Int) yy) l).map iC))]):=by
 refine di kr Tryz.func184 U U fun W Q hQ hN=>?_
 try dsimp only
 refine WS fun _ L=>bo 1 U<|RK L<|WS fun _ M=>bo 1 U<|RK M<|aj fun _ N=>WS fun _ O=>rP 3 [] mn ?_
 refine RK O<|ax<|gr 3 1 ?_
 have A:(0≤l.length):=by exact Nat.zero_le _
 refine bL (ι:={z:Nat×(OA)×Nat // (z.1≤l.length)}) [0,1,8,9] [1,2] U U (fun z=>[(5,(vS z.1.2.1 ((sU (fun jj yy=>p (jj:Int) yy) l z.1.1).length) z.1.2.2)),(10,(vI (z.1.1:Int)))]) (fun z=>[(own z.1.2.1 z.1.2.2 3 1 ((sU (fun jj yy=>p (jj:Int) yy) l z.1.1).map iC))]) (fun _=>rfl) (fun _=>rfl) (fun z=>l.length-z.1.1) ⟨(0,none,0),A⟩ (aU U) (aG [1,2,0]) ?_
 clear A
 rintro ⟨⟨i,a,c⟩,B⟩ J5 C
 try dsimp only at B
 try dsimp only
 refine WS fun _ P=>rP 1 [] mn ?_
 refine RK P<|aj fun _ R=>bS U (aP fun V=>?_) (aQ fun V=>?_)
 ·refine bD<|ab<|ab<|ay<|KK N<|WS fun _ F=>?_
  rw [Ot (p:=fun (i:Nat) x=>p (i:Int) x) (show i=l.length by omega)]
  refine rP 2 [] mn ?_
  refine RK F<|ar<|LX hQ (a,c) [2] [] mn U U U U ?_
  trivial
 refine WK R<|aj fun _ G=>ax<|WS fun _ D=>rP 1 [] mn ?_
 obtain ⟨x,hx⟩:=aJ l i I
 have S:=bO cN.cells hx
 refine rS (IA i U (aC 0 U) Js dc I I)<|rS (oY i 0 (cN.cells x) U cj (aC 0 U) S U dc U U)<|AL U Dr fun T=>bo 1 U<|gl U IU U<|RK D<|WS fun _ E=>rP 3 [] (mc 0 U mn) ?_
 refine rS (SX (s7 U U U (hf (i:Int) x ⟨i,U,hx⟩) (bp [2])) U U)<|RK E<|bS U (fun hp=>?_) (fun hp=>?_)
 ·refine cr<|aH<|KK G<|al ?_
  rw [← Ni (p:=fun (i:Nat) x=>p (i:Int) x) hx hp]
  refine rP 2 [] mn ?_
  refine aA ?_
  have AB:(vI (((i+1):Nat):Int))=(vI ((i:Int)+1)):=by exact cI I
  refine aV (C ⟨((i+1),a,c),(by first|omega|(simp only []; omega))⟩ _ _ _ U os (cU 5<|bk U AB<|dF.nil _) (aG [1,2,3]))
 refine al<|rP 2 [] mn ?_
 refine c_ (xs:=[.tmp 20]) (cs:=[(vI (i:Int))]) U cL jA U U U U (by simp [Value.cells]) U U fun AA=>?_
 refine ck (es2:=(List.map iC (sU (fun jj yy=>p (jj:Int) yy) l (i+1)))) (m':=(sU (fun jj yy=>p (jj:Int) yy) l (i+1)).length) 4 U U U pw U U sm (aZ (es:=List.map iC [(i:Int)]) 0 U U (by simp [bI]) U) (jP _) (by have:=Dn (p:=fun (i:Nat) x=>p (i:Int) x) (l:=l) (n:=i); simp; omega) (by have:=Dn (p:=fun (i:Nat) x=>p (i:Int) x) (l:=l) (n:=i); simp only [maxLen]; omega) (by rw [Jj hx hp]; simp) sm U fun J K=>?_
 try dsimp only
 refine bo 1 U<|aA<|aH<|KK G<|al<|rP 2 [] mn ?_
 refine aA ?_
 have H:(vI (((i+1):Nat):Int))=(vI ((i:Int)+1)):=by exact cI I
 refine aV (C ⟨((i+1),J,K),(by first|omega|(simp only []; omega))⟩ _ _ _ U os (cU 5<|bk U H<|dF.nil _) (aG [2,3,4]))
theorem BN (ts:List ak) (tsA:OA) (tsC:Nat) (l:List cN) (lA:OA) (lC:Nat) (hst: ∀ x∈ts,bQ x) (hlen:ts.length≤12) (hl:l.length≤4):
 eB Tryz.prog 173 [(vA (eG.cells (eG.mk (bB.mk (bj.mk tsA ts.length tsC))))),(vS lA l.length lC)] [(rd tsA ts.length 9 (ts.map ak.cells)),(rd lA l.length 3 (l.map cN.cells))] (vB (decide (∀ s∈l,fG ts s))):=by
 refine bG kr Tryz.func173 U U fun J Q hQ hN=>?_
 try dsimp only
 refine WS fun _ B=>gd U fun A=>bo 1 U<|RK B<|WS fun _ C=>rP 1 [] mn ?_
 refine rS (FU U) ?_
 refine cX (ED l lA lC (Value.func (.func 185) [].toArray [(vP A)].toArray) (fun E D=>(!(decide (fG ts D)))) (e9 [(rd tsA ts.length 9 (ts.map ak.cells)),(cd A 237 (eG.cells (eG.mk (bB.mk (bj.mk tsA ts.length tsC)))))]) (by intro E D _; exact oi (fi:=[]) (ca:=[(vP A)]) (mA (G2 E D ts tsA tsC A (by first|assumption|omega) (by first|assumption|omega)) (bp [0,1]))) I) (fP 2 U U<|au (mB (bp [1,0]))<|aI) U fun G F=>?_
 obtain ⟨H,AA⟩:=G
 try dsimp only
 refine rP 3 [] mn ?_
 refine RK C<|ar<|Q1 hQ U U U ?_
 exact congrArg Value.bool (decide_eq_decide.2 (by rw [show ∀ n:Nat,((n:Int)=0)↔n=0 from fun n=>by omega,Hl]; simp only [Bool.not_eq_false',decide_eq_true_eq]; exact ⟨fun h s hs=>by obtain ⟨k,hk⟩:=List.getElem?_of_mem hs; exact h k s hk,fun h k s hk=>h s (List.mem_of_getElem? hk)⟩))
theorem Ee (z:aa) (hz:lO z):
 eB Tryz.prog 176 [(vA (aa.cells z))] [] (vA (aa.cells (oB z))):=by
 unfold lO at hz
 refine bG kr Tryz.func176 U U fun E Q hQ hN=>?_
 try dsimp only
 refine WS fun _ A=>gd U fun C=>AL U dv fun D=>RK A<|WS fun _ B=>fY 2 [] (mc 1 U mn) U<|rS (NG U ⟨I,I⟩)<|rP 2 [] (mc 1 U mn) ?_
 refine rS (NG U ⟨I,I⟩)<|rS (SX (bh (xs:=[(0,.tmp 5),(1,.tmp 8)]) (cs:=(aa.cells (aa.mk (-z.Hi) (-z.Lo)))) U U (bg gH U)) U U)<|gl U cy U<|RK B<|ar ?_
 exact IC hQ [0] (mc 0 U mn) U U
theorem Tb (ts:List ak) (tsA:OA) (tsC:Nat) (s:cN) (hlen:ts.length≤1000000) (hside: ∀ x∈ts,0≤x.jq∧x.jq≤255):
 eB Tryz.prog 135 [(vA (bB.cells (bB.mk (bj.mk tsA ts.length tsC)))),(vA (cN.cells s))] [(rd tsA ts.length 9 (ts.map ak.cells))] (vT [(vA (aa.cells (P0 ts s))),(vI (FC ts s))]):=by
 refine bG kr Tryz.func135 U U fun Z Q hQ hN=>?_
 try dsimp only
 refine WS fun _ K=>gd U fun V=>gd U fun W=>AL U dv fun X=>bo 1 U<|RK K<|WS fun _ L=>fY 1 [] (mc 2 U mn) U<|rS (CL (Gu ts tsA tsC hlen hside) (bp [3]) U)<|bo 3 U<|AL U JG fun Y=>gl U ML U<|bo 1 U<|RK L<|aj fun _ M=>WS fun _ N=>rP 2 [] mn ?_
 refine RK N<|cP U (bx fun he=>?_) (bw fun he=>?_)
 ·refine WS fun _ O=>rS (SX (bh (xs:=[]) (cs:=(aa.cells (aa.mk 0 0))) U U (bg gH U)) U U)<|bo 1 U<|ti U cy U<|rP 1 [] mn ?_
  refine RK O<|ar<|lP hQ [0] (mc 1 U mn) U ?_
  (have e:=Kk (s:=s) (zx he).1; rw [e.1,e.2,(zx he).2]<;>rfl)
 refine WK M<|aj fun _ C=>WS fun _ D=>?_
 have B:=D7 he
 have H:=ki B
 have R:=k6 B
 refine rP 2 [0,1] (mc 0 U (mc 2 U mn)) ?_
 refine c_ (xs:=[.tmp 20]) (cs:=(cN.cells s)) U Js Dr U U U U (by simp [Value.cells,cN.aS]) U U fun AB=>?_
 refine rS (CL (eB.eq (BN ts tsA tsC ([s]) (some ⟨AB,0,none⟩) 1 asm asm (by (simp; done))) D9) (fP 5 U U<|au (aZ 0 U U (by simp [cN.aS]) U)<|aI) U) ?_
 refine rP 1 [] mn ?_
 refine RK D<|cP U (bx fun A=>?_) (bw fun A=>?_)
 ·refine WS fun _ E=>rS (SX (bh (xs:=[]) (cs:=(aa.cells (aa.mk 0 0))) U U (bg gH U)) U U)<|Ga U cy U<|rP 1 [] mn ?_
  refine RK E<|ar<|lP hQ [0] (mc 2 U mn) U ?_
  (have e:=ME B A; rw [e.1,e.2]<;>rfl)
 refine WK C<|WS fun _ F=>?_
 have AA:=A.1
 have P:=qT H A
 refine fY 3 [0,1] (mc 1 U (mc 3 U mn)) U<|rS (CL (Mg ts tsA tsC 0 s.bf asm asm I) (bp [5]) U)<|bo 3 U<|AL U dv fun S=>AL U dv fun T=>ti U cy U<|gl U cy U<|RK F<|WS fun _ G=>rP 2 [] (mc 1 U mn) ?_
 refine rS (LP (aa.cells s.mS) 5 U cj U U U)<|c_ (xs:=[.tmp 34]) (cs:=(aa.cells s.mS)) U g4 dv U U U U (by simp [Value.cells,aa.aS]) U U fun J=>?_
 refine rS (CL (eB.eq (pL (eL ts (0:Int).toNat (s.bf-0).toNat) ([s.mS]) (some ⟨J,0,none⟩) 1 (by exact qO H I) (by intro z hz; simp only [bH] at hz; subst hz; exact P) sm) n9) (au (aZ 0 rfl rfl (by simp [aa.aS]) rfl)<|aI) rfl) ?_
 refine IE U cy U<|rP 1 [] mn ?_
 refine RK G<|ar<|lP hQ [0] (mc 5 U mn) U ?_
 (have e:=yh B A; rw [e.1,e.2]; unfold M0; rw [show (s.bf-0).toNat=s.bf.toNat by rw [Int.sub_zero]]<;>rfl)
theorem NI (ts:List ak) (tsA:OA) (tsC:Nat) (p:cN) (q:cN) (hlen:ts.length≤1000000) (hside: ∀ x∈ts,0≤x.jq∧x.jq≤255):
 eB Tryz.prog 136 [(vA (bB.cells (bB.mk (bj.mk tsA ts.length tsC)))),(vA (cN.cells p)),(vA (cN.cells q))] [(rd tsA ts.length 9 (ts.map ak.cells))] (vT [(vA (aa.cells (kY ts p q))),(vI (lU ts p q))]):=by
 refine bG kr Tryz.func136 U U fun w Q hQ hN=>?_
 try dsimp only
 refine WS fun _ c=>gd U fun r=>gd U fun s=>gd U fun t=>AL U dv fun u=>bo 1 U<|RK c<|WS fun _ d=>fY 1 [] (mc 3 U mn) U<|rS (CL (Gu ts tsA tsC hlen hside) (bp [4]) U)<|bo 3 U<|AL U JG fun v=>gl U ML U<|bo 1 U<|RK d<|aj fun _ g=>WS fun _ h=>rP 2 [] mn ?_
 refine RK h<|cP U (bx fun he=>?_) (bw fun he=>?_)
 ·refine WS fun _ G=>rS (SX (bh (xs:=[]) (cs:=(aa.cells (aa.mk 0 0))) U U (bg gH U)) U U)<|bo 1 U<|ti U cy U<|rP 1 [] mn ?_
  refine RK G<|ar<|lP hQ [0] (mc 1 U mn) U ?_
  (have e:=vd (a:=p) (b:=q) (zx he).1; rw [e.1,e.2,(zx he).2]<;>rfl)
 refine WK g<|aj fun _ H=>WS fun _ AB=>?_
 have A:=D7 he
 have F:=ki A
 have j:=k6 A
 refine rP 3 [0,1,2] (mc 0 U (mc 3 U (mc 2 U mn))) ?_
 refine c_ (xs:=[.tmp 22,.tmp 23]) (cs:=((cN.cells p)++(cN.cells q))) U Js Dr U U U U (by simp [Value.cells,cN.aS]) U U fun X=>?_
 refine rS (CL (eB.eq (BN ts tsA tsC ([p,q]) (some ⟨X,0,none⟩) 2 asm asm (by (simp; done))) EU) (fP 6 U U<|au (aZ 0 U U (by simp [cN.aS]) U)<|aI) U) ?_
 refine rP 1 [] mn ?_
 refine RK AB<|cP U (bx fun D=>?_) (bw fun D=>?_)
 ·refine WS fun _ J=>rS (SX (bh (xs:=[]) (cs:=(aa.cells (aa.mk 0 0))) U U (bg gH U)) U U)<|Ga U cy U<|rP 1 [] mn ?_
  refine RK J<|ar<|lP hQ [0] (mc 2 U mn) U ?_
  (have e:=o9 A D; rw [e.1,e.2]<;>rfl)
 refine WK H<|WS fun _ K=>?_
 obtain ⟨hp,hq⟩:=D
 have n:=hp.1
 have o:=hq.1
 have i:=qT F hp
 have W:=qT F hq
 have V:=Ak i
 have B:=qO F (f:=(min p.bf q.bf).toNat) (k:=(max p.bf q.bf-min p.bf q.bf).toNat) I
 refine fY 5 [0,1,2] (mc 1 U (mc 4 U (mc 3 U mn))) U<|rS (MN U)<|fY 4 [0,1] (mc 4 U (mc 3 U mn)) U<|rS (MX U)<|rS (CL (Mg ts tsA tsC (min p.bf q.bf) (max p.bf q.bf) asm asm I) (bp [6]) U)<|bo 3 U<|AL U dv fun l=>AL U dv fun m=>ti U cy U<|gl U cy U<|RK K<|aj fun _ C=>WS fun _ L=>rP 5 [0,1] (mc 5 U (mc 6 U mn)) ?_
 refine RK L<|bS U (aP fun E=>?_) (aQ fun E=>?_)
 ·refine WK C<|aj fun _ N=>dK cx [6,7,8] [] [] [0,1,2,3,5,6,7,8] [] U U U U U<|eS U (LW 1 U cj U U)<|eS U (FA 1 U fw U)<|eS U (LP (aa.cells q.mS) 4 U cj U U U)<|eS U (FA 1 U fw U)<|eS U (LP (aa.cells p.mS) 5 U cj U U U)<|eS U (CL (Ee p.mS asm) (aI) U)<|eS U (AG U)<|eT U<|cf U fun T26 S=>c_ (xs:=[.tmp 52,.tmp 55]) (cs:=((aa.cells q.mS)++(aa.cells (oB p.mS)))) U g4 dv U U U U (by simp [Value.cells,aa.aS]) U U fun Z=>aA (S _ _ (aG [1,2,3,4,6,7,8,9]) ?_)
  refine cf U fun T28 T=>?_
  refine rS (CL (eB.eq (pL (eL ts (min p.bf q.bf).toNat ((max p.bf q.bf)-(min p.bf q.bf)).toNat) ([q.mS,(oB p.mS)]) (some ⟨Z,0,none⟩) 2 (by first|exact B|exact Ak B) (by intro z hz; simp only [bu,List.not_mem_nil,or_false] at hz; rcases hz with rfl|rfl; exact W; exact V) sm) Cc) (au (aZ 0 rfl rfl (by simp [aa.aS]) rfl)<|aI) rfl) ?_
  refine aA (T _ _ (aG [1,2,3,4,6,7,8,9]) ?_)
  refine cf U fun T29 AA=>IE U cy U<|aA (AA _ _ (aG [1,2,3,4,6,7,8,9]) ?_)
  refine fO U<|KK N<|ar<|lP hQ [0] (mc 5 U mn) U ?_
  (have e:=lG A ⟨hp,hq⟩; rw [e.1,e.2]; unfold j6 yw; rw [if_neg E]<;>rfl)
 refine al<|rP 1 [] (mc 1 U mn) ?_
 refine rS (CL (Ee (eL ts (min p.bf q.bf).toNat ((max p.bf q.bf)-(min p.bf q.bf)).toNat) asm) (aI) U)<|ti U cy U<|RK C<|aj fun _ M=>dK cx [6,7,8] [] [] [0,1,2,3,5,6,7,8] [] U U U U U<|eS U (LW 1 U cj U U)<|eS U (FA 1 U fw U)<|eS U (LP (aa.cells q.mS) 4 U cj U U U)<|eS U (FA 1 U fw U)<|eS U (LP (aa.cells p.mS) 5 U cj U U U)<|eS U (CL (Ee p.mS asm) (aI) U)<|eS U (AG U)<|eT U<|cf U fun T21 O=>c_ (xs:=[.tmp 52,.tmp 55]) (cs:=((aa.cells q.mS)++(aa.cells (oB p.mS)))) U g4 dv U U U U (by simp [Value.cells,aa.aS]) U U fun Y=>aA (O _ _ (aG [1,2,3,4,6,7,8,9]) ?_)
 refine cf U fun T23 P=>?_
 refine rS (CL (eB.eq (pL (oB (eL ts (min p.bf q.bf).toNat ((max p.bf q.bf)-(min p.bf q.bf)).toNat)) ([q.mS,(oB p.mS)]) (some ⟨Y,0,none⟩) 2 (by first|exact B|exact Ak B) (by intro z hz; simp only [bu,List.not_mem_nil,or_false] at hz; rcases hz with rfl|rfl; exact W; exact V) sm) Cc) (au (aZ 0 rfl rfl (by simp [aa.aS]) rfl)<|aI) rfl) ?_
 refine aA (P _ _ (aG [1,2,3,4,6,7,8,9]) ?_)
 refine cf U fun T24 R=>IE U cy U<|aA (R _ _ (aG [1,2,3,4,6,7,8,9]) ?_)
 refine fO U<|KK M<|ar<|lP hQ [0] (mc 5 U mn) U ?_
 (have e:=lG A ⟨hp,hq⟩; rw [e.1,e.2]; unfold j6 yw; rw [if_pos E]<;>rfl)
theorem rr (ts:List ak) (tsA:OA) (tsC:Nat) (s:cN) (hst: ∀ x∈ts,bQ x) (hlen:ts.length≤12):
 eB Tryz.prog 93 [(vA (bB.cells (bB.mk (bj.mk tsA ts.length tsC)))),(vA (cN.cells s))] [(rd tsA ts.length 9 (ts.map ak.cells))] (vB (decide (fG ts s))):=by
 refine bG kr Tryz.func93 U U fun H Q hQ hN=>?_
 try dsimp only
 refine WS fun _ C=>gd U fun F=>gd U fun G=>bo 1 U<|RK C<|aj fun _ A=>dH cx 22 kr<|mV 6 [0,1] (mc 0 U (mc 1 U mn)) U<|dS (CL (pf s.bf 0 ((ts.length:Int)-1)) (aI) U)<|dP 1 [] mn ?_
 refine jl (t:=12) U (aP fun B=>?_) (aQ fun B=>?_)
 ·refine lQ 8 U<|dP 6 [] mn ?_
  refine cQ<|RK A<|ar<|Q1 hQ U U U ?_
  (refine cB ?_; rw [ct (CU I)])
 refine lQ 1 U<|dS (LP (aa.cells s.mS) 0 U cj U U U)<|dP 4 [0,1] (mc 1 U (mc 0 U mn)) ?_
 obtain ⟨x,hx⟩:=aJ ts ((s.bf).toNat) I
 have D:=bO ak.cells hx
 refine dS (IA ((s.bf).toNat) U (aC 2 U) wQ dc I I)<|dS (mW ((((s.bf).toNat)*9)+1) U (aC 2 U) (Nat.mul_pos I dc) fw U) ?_
 have E:=(hst x (aT hx)).2.1
 simp only [eh] at E
 refine dS (mW ((((s.bf).toNat)*9)+1) U (aC 2 U) (Nat.mul_pos I dc) fw U)<|dS (gi ((s.bf).toNat) 1 (vI x.kO.Lo) U cj (aC 2 U) D U dc U)<|lQ 1 U<|dS (CL (pR s.mS 0 (x.kO.Lo-1)) (aI) U)<|dP 2 [] mn ?_
 refine cQ<|RK A<|ar<|Q1 hQ U U U ?_
 exact cB (gO.2 (B5 I hx).symm)
theorem Aj (ts:List ak) (tsA:OA) (tsC:Nat) (f t:Int) (hst: ∀ x∈ts,bQ x) (hlen:ts.length≤12) (hf:0≤f∧f≤t∧t≤ts.length):
 eB Tryz.prog 171 [(vA (bB.cells (bB.mk (bj.mk tsA ts.length tsC)))),(vI f),(vI t)] [(rd tsA ts.length 9 (ts.map ak.cells))] (vT [(vA (aa.cells (eL ts f.toNat (t-f).toNat))),(vA (aa.cells (gG ts f.toNat (t-f).toNat)))]):=by
 refine bG kr Tryz.func171 U U fun i Q hQ hN=>?_
 try dsimp only
 refine WS fun _ R=>gd U fun e=>AL U dv fun g=>AL U dv fun h=>RK R<|WS fun _ S=>AL U dv fun a=>AL U dv fun b=>RK S<|aj fun _ T=>WS fun _ AA=>rP 2 [] mn ?_
 refine RK AA<|ax ?_
 have A:(0≤(t-f).toNat):=by exact Nat.zero_le _
 have K:(vI (f+(0:Int)))=(vI f):=by exact cI I
 refine bL (ι:={z:Nat // (z≤(t-f).toNat)}) [1,2,3,6,7,8,9] [2,3,4,5] U U (fun z=>[(10,(vI (f+(z.1:Int))))]) (fun z=>[(cd b 45 (aa.cells (gG ts f.toNat z.1))),(cd a 45 (aa.cells (eL ts f.toNat z.1)))]) (fun _=>rfl) (fun _=>rfl) (fun z=>(t-f).toNat-z.1) ⟨0,A⟩ (bk U K<|dF.nil _) (aG [2,3,4,5,0,1]) ?_
 clear A
 rintro ⟨k,V⟩ J11 B
 try dsimp only
 refine aj fun _ C=>WS fun _ D=>rP 3 [] mn ?_
 refine RK D<|bS U (aP fun P=>?_) (aQ fun P=>?_)
 ·refine bD<|ab<|ab<|ay<|KK T<|aj fun _ H=>dK cx [2,3] [] [] [2,3,4,5] [] U U U U U<|eS U (LW 3 U cj U U)<|eS U (LW 2 U cj U U)<|eT U<|cf U fun T23 AB=>ti U cy U<|aA (AB _ _ (aG [2,3,4,5]) ?_)
  refine cf U fun T24 J=>gl U cy U<|aA (J _ _ (aG [2,3,4,5]) ?_)
  refine fO U<|KK H<|ar<|lP hQ [0,1] (mc 1 U (mc 0 U mn)) U ?_
  obtain rfl:k=(t-f).toNat:=I; rfl
 refine WK C<|aj fun _ E=>ax<|WS fun _ F=>rP 3 [] (mc 2 U mn) ?_
 obtain ⟨x,hx⟩:=aJ ts (f.toNat+k) I
 have Y:=bO ak.cells hx
 refine rS (IA (f.toNat+k) U (aC 3 U) wQ dc I I)<|rS (oY (f.toNat+k) 0 (ak.cells x) U cj (aC 3 U) Y U dc U U)<|AL U F8 fun Z=>gl U Km U<|RK F<|WS fun _ G=>?_
 have O:=hst x (aT hx)
 have d:=mx hst f.toNat k
 have c:=FF hst f.toNat k
 have W:=O.2.1
 have X:=O.2.2.1
 simp only [eh] at W X
 refine fY 12 [0,1,0,1] (mc 6 U (mc 0 U mn)) U<|rS (SX (bh (xs:=[(0,.tmp 28),(1,.tmp 34)]) (cs:=(aa.cells (aa.mk (((eL ts f.toNat k).Lo)+x.kO.Lo) (((eL ts f.toNat k).Hi)+x.kO.Hi)))) U U (bg gH U)) U U)<|O6 U cy U<|RK G<|al<|rP 12 [0,1,0,1] (mc 5 U (mc 0 U mn)) ?_
 refine rS (SX (bh (xs:=[(0,.tmp 41),(1,.tmp 47)]) (cs:=(aa.cells (aa.mk (((gG ts f.toNat k).Lo)+x.l7.Lo) (((gG ts f.toNat k).Hi)+x.l7.Hi)))) U U (bg gH U)) U U)<|IE U cy U<|aA<|aH<|KK E ?_
 have L:(aa.cells (aa.mk (((eL ts f.toNat k).Lo)+x.kO.Lo) (((eL ts f.toNat k).Hi)+x.kO.Hi)))=(aa.cells (eL ts f.toNat (k+1))):=by rw [p5 hx]; rfl
 rw [L]
 have M:(aa.cells (aa.mk (((gG ts f.toNat k).Lo)+x.l7.Lo) (((gG ts f.toNat k).Hi)+x.l7.Hi)))=(aa.cells (gG ts f.toNat (k+1))):=by rw [pM hx]; rfl
 rw [M]
 refine al<|rP 3 [] mn ?_
 refine aA ?_
 have N:(vI (f+(((k+1):Nat):Int)))=(vI ((f+(k:Int))+1)):=by exact cI I
 refine aV (B ⟨(k+1),(by first|omega|(simp only []; omega))⟩ _ _ _ U os (cU 7<|bk U N<|dF.nil _) (aG [1,2,3,4,5,6]))
end
end Go.Proofs.YtlajhejcfcoddaaGreatDoor
