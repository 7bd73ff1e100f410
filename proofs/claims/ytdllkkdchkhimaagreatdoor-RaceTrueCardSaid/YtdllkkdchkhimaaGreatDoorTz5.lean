/-
 The statement raceTrue_said, part 5 of 8: RaceV, RankP, OrdX, TabP, NestS, Grp, Twin, Fresh, Rep, Ex6, Win6, BoolC, RaceR, Tied6, True6, Sel6, Bits, B1, Rc1, Rs5, CloneM, Rs1, S2, Rs2, MapD, B4, B2, B3, B5, B6, Frozen, MarkD, Marks, Follow, OpenM, V2.
 Conditions: none.
-/
import Derived.Test.YtdllkkdchkhimaaGreatDoorTz1
import Derived.Test.YtdllkkdchkhimaaGreatDoorTz2
import Derived.Test.YtdllkkdchkhimaaGreatDoorTz3
import Derived.Test.YtdllkkdchkhimaaGreatDoorTz4
import Derived.KernelRfl
import Derived.MapKept
import Derived.Laws.Externs
namespace Go.Proofs.YtdllkkdchkhimaaGreatDoor
set_option maxRecDepth 100000
set_option maxHeartbeats 4000000
set_option linter.unusedVariables false
section
def aD (m:g3) (i:Int):aa:=(m.lookup i).getD dA
def re (r:cd) (i:Int):Prop:=0≤i∧i≤(r.aI.length:Int)-1
instance (r:cd) (i:Int):Decidable (re r i):=by unfold re; infer_instance
noncomputable def jX (r:cd) (i:Int):Int:=if bY r=0 then (if re r i then (if (aG r).lookup i=none then 6 else 0) else 2) else bY r
noncomputable def qC (r:cd) (i:Int):aa:=if jX r i=0 then aD (aG r) i else dA
noncomputable def l_ (r:cd) (a b:Int):Int:=if bY r=0 then (if re r a∧re r b∧a≠b then (if (aG r).lookup a=none∨(aG r).lookup b=none then 6 else 0) else 2) else bY r
def ue (s t:aa):Int:=if s.Hi<t.Lo then 2 else if s.Lo<t.Hi then 1 else 0
def mW (s t:aa):Int:=if s=t∧s.Lo=s.Hi then 2 else if s.Lo≤t.Hi∧t.Lo≤s.Hi then 1 else 0
noncomputable def ph (r:cd) (a b:Int):Int:=if l_ r a b=0 then ue (aD (aG r) a) (aD (aG r) b) else 0
noncomputable def lk (r:cd) (a b:Int):Int:=if l_ r a b=0 then mW (aD (aG r) a) (aD (aG r) b) else 0
noncomputable def ig (r:cd) (i:Int):List Int:=if jX r i=0 then dI (aG r) i (aD (aG r) i) else []
noncomputable def fR (r:cd) (h i:Int):Int:=if bY r=0 then (if (0≤h∧h≤(r.aq.length:Int)-1)∧re r i then (if ((r.aq[h.toNat]?).bind (·[i.toNat]?)).any (·.Out)=true then 6 else 0) else 2) else bY r
noncomputable def df (r:cd) (h i:Int):aa:=if fR r h i=0 then ((((r.aq[h.toNat]?).bind (·[i.toNat]?)).map (dw r.ah)).getD dA) else dA
noncomputable def uf (r:cd) (h:Nat):List Int:=let l:=eD (fun i=>(aD (eL r h) i).Hi) (r.bD.filter fun i=>((eL r h).lookup i).isSome); rp (min r.dZ.toNat l.length) l
noncomputable def iH (r:cd) (h:Int):Int:=if bY r=0 then (if 0≤h∧h≤(r.aq.length:Int) then 0 else 2) else bY r
noncomputable def gX (r:cd) (h:Int):List Int:=if iH r h=0 then (if h=0 then r.bD else uf r h.toNat) else []
section
variable {r:cd} {i a b:Int}
theorem ud {m:g3} {i:Int} (h:(m.lookup i).isSome=true): ¬ m.lookup i=none:=fun e=>by rw [e] at h; cases h
theorem ub {m:g3} {i:Int} (h:(m.lookup i).isSome=false):m.lookup i=none:=by cases e:m.lookup i with |none=>rfl|some v=>rw [e] at h; cases h
theorem yv (h:jX r i=0):bY r=0∧re r i∧(aG r).lookup i≠none:=by
 unfold jX at h
 split at h
 ·split at h
  ·split at h
   ·cases h
   ·exact ⟨asm,asm,asm⟩
  ·cases h
 ·exact absurd h asm
theorem yH (h:l_ r a b=0):bY r=0∧(re r a∧re r b∧a≠b)∧(aG r).lookup a≠none∧(aG r).lookup b≠none:=by
 unfold l_ at h
 split at h
 ·split at h
  ·split at h
   ·cases h
   ·rename_i _ _ q
    exact ⟨asm,asm,fun e=>q (.inl e),fun e=>q (.inr e)⟩
  ·cases h
 ·exact absurd h asm
theorem tI {k:Nat} {p:Int×aa} (h:p∈eL r k): ∃ q:Nat,q<r.aI.length∧p.1=(q:Int)∧eP r.ah r.aq q k=some p.2:=by
 unfold eL at h
 obtain ⟨q,hq,e⟩:=List.mem_filterMap.1 h
 obtain ⟨s,hs,rfl⟩:=Option.map_eq_some_iff.1 e
 exact ⟨q,List.mem_range.1 hq,U,hs⟩
theorem Fq {k:Nat} (h:bY r=0) (hk:k≤r.aq.length): ∀ p∈eL r k,0≤p.2.Lo∧p.2.Lo≤p.2.Hi∧p.2.Hi≤30000000:=fun p hp=>by
 obtain ⟨q,_,_,hs⟩:=tI hp
 have A:=Al (iF h).2.zB hk hs
 have B:=(iF h).2.nh
 omega
theorem nm (h:bY r=0): ∀ p∈aG r,0≤p.2.Lo∧p.2.Lo≤p.2.Hi∧p.2.Hi≤30000000:=Fq h (Nat.le_refl _)
theorem uy {k:Nat}:(eL r k).length≤r.aI.length:=by
 unfold eL
 refine Nat.le_trans (List.length_filterMap_le _ _) ?_
 rw [List.length_range]; exact Nat.le_refl _
theorem nx (h:bY r=0):(aG r).length≤5:=by
 have A:=uy (r:=r) (k:=r.aq.length)
 have B:=(iF h).2.num
 unfold aG; omega
theorem M6 {s t:aa}:(if decide (s.Hi<t.Lo)=true then (2:Int) else if decide (s.Lo<t.Hi)=true then 1 else 0)=ue s t:=by simp only [decide_eq_true_eq]; rfl
theorem KG {s t:aa} (h:s=t):(if decide (max s.Lo t.Lo=min s.Hi t.Hi)=true then (2:Int) else if decide (max s.Lo t.Lo≤min s.Hi t.Hi)=true then 1 else 0)=mW s t:=by
 subst h
 simp only [decide_eq_true_eq,mW,Int.max_self,Int.min_self,true_and,and_self]
theorem NN {s t:aa} (hs:s.Lo≤s.Hi) (ht:t.Lo≤t.Hi) (h: ¬ s=t):(if false=true then (2:Int) else if decide (max s.Lo t.Lo≤min s.Hi t.Hi)=true then 1 else 0)=mW s t:=by
 unfold mW
 rw [if_neg dc,if_neg (fun q:s=t∧s.Lo=s.Hi=>h q.1)]
 by_cases c:s.Lo≤t.Hi∧t.Lo≤s.Hi
 ·rw [if_pos c,if_pos (fP om)]
 ·rw [if_neg c,if_neg (by rw [decide_eq_true_eq]; omega)]
theorem KF (h: ¬ bY r=0):jX r i=bY r:=if_neg h
theorem Lp (h:bY r=0) (hi: ¬ (0≤i∧i≤(r.aI.length:Int)-1)):jX r i=2:=by unfold jX; rw [if_pos h,if_neg (show ¬ re r i from hi)]
theorem GP (h:bY r=0) (hi:0≤i∧i≤(r.aI.length:Int)-1) (hl:((aG r).lookup i).isSome=false):jX r i=6:=by unfold jX; rw [if_pos h,if_pos (show re r i from hi),if_pos (ub hl)]
theorem Nc (h:bY r=0) (hi:0≤i∧i≤(r.aI.length:Int)-1) (hl:((aG r).lookup i).isSome=true):jX r i=0:=by unfold jX; rw [if_pos h,if_pos (show re r i from hi),if_neg (ud hl)]
theorem LF (h: ¬ bY r=0):l_ r a b=bY r:=if_neg h
theorem CQ (h:bY r=0) (hi: ¬ ((0≤a∧a≤(r.aI.length:Int)-1)∧(0≤b∧b≤(r.aI.length:Int)-1)∧a≠b)):l_ r a b=2:=by unfold l_; rw [if_pos h,if_neg (show ¬ (re r a∧re r b∧a≠b) from hi)]
theorem yB (h:bY r=0) (hi:(0≤a∧a≤(r.aI.length:Int)-1)∧(0≤b∧b≤(r.aI.length:Int)-1)∧a≠b) (hl:((aG r).lookup a).isSome=false∨((aG r).lookup b).isSome=false):l_ r a b=6:=by
 unfold l_; rw [if_pos h,if_pos (show re r a∧re r b∧a≠b from hi),if_pos (hl.imp ub ub)]
theorem Nd (h:bY r=0) (hi:(0≤a∧a≤(r.aI.length:Int)-1)∧(0≤b∧b≤(r.aI.length:Int)-1)∧a≠b) (h1:((aG r).lookup a).isSome=true) (h2:((aG r).lookup b).isSome=true):l_ r a b=0:=by
 unfold l_; rw [if_pos h,if_pos (show re r a∧re r b∧a≠b from hi),if_neg (fun q=>q.elim (ud h1) (ud h2))]
end
end
section
abbrev qx:=List (Int×Bool)
def iZ (m:qx) (P:Int→Prop):Prop:=(m.map (·.1)).Nodup∧ ∀ k,k∈m.map (·.1)↔P k
section
variable {m:qx} {P Q:Int→Prop} {k:Int}
theorem iZ.yc (h:iZ m P) (e: ∀ k,P k↔Q k):iZ m Q:=⟨h.1,fun k=>(h.2 k).trans (e k)⟩
theorem L_ (h: ∀ k,¬ P k):iZ [] P:=⟨List.Pairwise.nil,fun k=>⟨fun q=>by simp at q,fun q=>absurd q (h k)⟩⟩
theorem GV:k∈m.map (·.1)↔(m.lookup k).isSome=true:=by
 induction m with
 |nil=>simp
 |cons p m ih=>
  obtain ⟨a,b⟩:=p
  by_cases e:k=a
  ·subst e; simp [List.lookup]
  ·have:(k==a)=false:=by simpa using e
   simp only [List.map_cons,ew,e,false_or,List.lookup,this]
   exact ih
theorem JV {b:Bool} (h:iZ m P) (hk: ¬ P k):iZ (eh m k b) fun q=>P q∨q=k:=by
 have hn:(m.lookup k).isSome=false:=by
  rw [Bool.eq_false_iff]
  exact fun q=>hk ((h.2 k).1 (GV.2 q))
 unfold eh
 rw [hn]
 simp only [Bool.false_eq_true,if_false]
 refine ⟨?_,fun q=>?_⟩
 ·rw [List.map_append]
  refine List.nodup_append.2 ⟨h.1,sm,fun a ha b hb e=>?_⟩
  simp at hb
  subst hb; subst e
  exact hk ((h.2 _).1 ha)
 ·rw [List.map_append,ku,h.2 q]
  simp
theorem Cl (h:iZ m P):iZ (cp m k) fun q=>P q∧q≠k:=by
 have hs:((cp m k).map (·.1)).Sublist (m.map (·.1)):=List.Sublist.map _ List.filter_sublist
 refine ⟨h.1.sublist hs,fun q=>?_⟩
 constructor
 ·intro hq
  obtain ⟨p,hp,rfl⟩:=List.mem_map.1 hq
  obtain ⟨A,B⟩:=jW.1 hp
  exact ⟨(h.2 _).1 (List.mem_map_of_mem A),B⟩
 ·rintro ⟨A,B⟩
  obtain ⟨p,hp,rfl⟩:=List.mem_map.1 ((h.2 q).2 A)
  exact List.mem_map_of_mem (jW.2 ⟨hp,B⟩)
end
/-- two rows that go up and have the same numbers, each once -/
theorem qX {a b:List Int} (ha:a.Pairwise (· ≤ ·)) (hb:b.Pairwise (· ≤ ·)) (na:a.Nodup) (nb:b.Nodup) (h: ∀ x,x∈a↔x∈b):a=b:=
 rj ((List.perm_ext_iff_of_nodup na nb).2 h) ha hb
def Jh (l:List Int):Nat:=if l.length=2∧l[1]? =l[0]? then 1 else l.length
theorem zl {l:List Int} {x y:Int} (h:l.length=2) (h0:l[0]? =some y) (h1:l[1]? =some x) (e:x=y):Jh l=1:=if_pos ⟨h,by rw [h0,h1,e]⟩
theorem BA {l:List Int} {x y:Int} (h:l.length=2) (h0:l[0]? =some y) (h1:l[1]? =some x) (e: ¬ x=y):Jh l=l.length:=if_neg fun q=>e (by have:=q.2; rw [h0,h1] at this; exact Option.some.inj this)
theorem Je (a b:Int):(a=b∧Jh (dk [a,b])=1)∨(¬ a=b∧Jh (dk [a,b])=2):=by
 have hl:(dk [a,b]).length=2:=by simp
 have hp:(dk [a,b]).Perm [a,b]:=fG
 match hs:dk [a,b],hl with
 |[x,y],_=>
  rw [hs] at hp
  by_cases e:a=b
  ·subst e
   left
   refine ⟨U,zl U U U ?_⟩
   have A:x∈[a,a]:=hp.mem_iff.1 sm
   have B:y∈[a,a]:=hp.mem_iff.1 sm
   simp at A B; omega
  ·right
   refine ⟨e,(BA (x:=y) (y:=x) U U U fun q=>?_).trans U⟩
   subst q
   have A:=hp.nodup_iff.2 (show [a,b].Nodup by simp [e])
   simp at A
section
variable {m left:g3} {i n x:Int} {y:aa}
theorem lP {p:Int×aa→Bool} (hn:(left.map (·.1)).Nodup) (hm:(x,y)∈left):left.countP p=(cp left x).countP p+(if p (x,y)=true then 1 else 0):=by
 induction left with
 |nil=>cases hm
 |cons q left ih=>
  obtain ⟨a,b⟩:=q
  simp only [List.map_cons,List.nodup_cons] at hn
  rcases List.mem_cons.1 hm with e|hm
  ·cases e
   have A:cp ((x,y)::left) x=left:=by
    unfold cp
    rw [List.filter_cons_of_neg sm]
    exact List.filter_eq_self.2 fun q hq=>by
     have:q.1≠x:=fun e=>hn.1 (e▸List.mem_map_of_mem hq)
     simpa using this
   rw [A,List.countP_cons]
  ·have B:a≠x:=fun e=>hn.1 (e▸List.mem_map_of_mem (f:=fun z:Int×aa=>z.1) hm)
   have A:cp ((a,b)::left) x=(a,b)::cp left x:=by
    unfold cp
    rw [List.filter_cons_of_pos (by simpa using B)]
   rw [A,List.countP_cons,List.countP_cons,ih hn.2 hm]
   omega
theorem mA:iL left i n=left.countP fun p=>decide (p.2.Hi<n)&& !decide (p.1=i):=by unfold iL mE; rw [List.countP_filter]
theorem o_:kO left i n=left.countP fun p=>decide (p.2.Lo<n)&& !decide (p.1=i):=by unfold kO mE; rw [List.countP_filter]
theorem GQ (hn:(left.map (·.1)).Nodup) (hm:(x,y)∈left) (h:x=i):iL left i n=iL (cp left x) i n:=by
 rw [mA,mA,lP hn hm]; simp [h]
theorem JG (hn:(left.map (·.1)).Nodup) (hm:(x,y)∈left) (h:x=i):kO left i n=kO (cp left x) i n:=by
 rw [o_,o_,lP hn hm]; simp [h]
theorem yC (hn:(left.map (·.1)).Nodup) (hm:(x,y)∈left) (h: ¬ x=i) (hy:y.Hi<n):iL left i n=iL (cp left x) i n+1:=by
 rw [mA,mA,lP hn hm]; simp [h,hy]
theorem Bj (hn:(left.map (·.1)).Nodup) (hm:(x,y)∈left) (h: ¬ x=i) (hy: ¬ y.Hi<n):iL left i n=iL (cp left x) i n:=by
 rw [mA,mA,lP hn hm]; simp [h,hy]
theorem Bv (hn:(left.map (·.1)).Nodup) (hm:(x,y)∈left) (h: ¬ x=i) (hy:y.Lo<n):kO left i n=kO (cp left x) i n+1:=by
 rw [o_,o_,lP hn hm]; simp [h,hy]
theorem Fj (hn:(left.map (·.1)).Nodup) (hm:(x,y)∈left) (h: ¬ x=i) (hy: ¬ y.Lo<n):kO left i n=kO (cp left x) i n:=by
 rw [o_,o_,lP hn hm]; simp [h,hy]
theorem yS:iL [] i n=0:=rfl
theorem Bl:kO [] i n=0:=rfl
theorem F_:iL m i n≤m.length:=by unfold iL mE; exact Nat.le_trans List.countP_le_length (List.length_filter_le _ _)
theorem I8:kO m i n≤m.length:=by unfold kO mE; exact Nat.le_trans List.countP_le_length (List.length_filter_le _ _)
end
def oc {β:Type} (m left:List (Int×β)) (ys:List Int):Prop:=(ys++left.map (·.1)).Perm (m.map (·.1))
theorem uM {β:Type} {m:List (Int×β)}:oc m m []:=List.Perm.refl _
theorem wx {β:Type} {m:List (Int×β)} {ys:List Int} (h:oc m [] ys):ys.Perm (m.map (·.1)):=by simpa [oc] using h
theorem KR {β:Type} {left:List (Int×β)} {x:Int} {y:β} (hn:(left.map (·.1)).Nodup) (hm:(x,y)∈left):(left.map (·.1)).Perm (x::(cp left x).map (·.1)):=by
 induction left with
 |nil=>cases hm
 |cons q left ih=>
  obtain ⟨a,b⟩:=q
  simp only [List.map_cons,List.nodup_cons] at hn
  rcases List.mem_cons.1 hm with e|hm
  ·cases e
   have A:cp ((x,y)::left) x=left:=by
    unfold cp
    rw [List.filter_cons_of_neg sm]
    exact List.filter_eq_self.2 fun q hq=>by
     have:q.1≠x:=fun e=>hn.1 (e▸List.mem_map_of_mem hq)
     simpa using this
   rw [A]; exact List.Perm.refl _
  ·have B:a≠x:=fun e=>hn.1 (e▸List.mem_map_of_mem (f:=fun z:Int×β=>z.1) hm)
   have A:cp ((a,b)::left) x=(a,b)::cp left x:=by
    unfold cp
    rw [List.filter_cons_of_pos (by simpa using B)]
   rw [A,List.map_cons,List.map_cons]
   exact ((ih hn.2 hm).cons a).trans (List.Perm.swap _ _ _)
theorem nW {β:Type} {m left:List (Int×β)} {ys:List Int} {x:Int} {y:β} (hn:(left.map (·.1)).Nodup) (hm:(x,y)∈left) (h:oc m left ys):oc m (cp left x) (ys++[x]):=by
 unfold oc at h ⊢
 refine List.Perm.trans ?_ h
 rw [List.append_assoc]
 exact (KR hn hm).symm.append_left ys
theorem eQ {β:Type} {m left:List (Int×β)} {x:Int} (h: ∀ p∈left,p∈m): ∀ p∈cp left x,p∈m:=fun p hp=>h p (jW.1 hp).1
theorem gO {m:g3} {i:Int} (h: ∀ p∈m,0≤p.2.Lo∧p.2.Lo≤p.2.Hi∧p.2.Hi≤30000000):0≤(aD m i).Lo∧(aD m i).Lo≤(aD m i).Hi∧(aD m i).Hi≤30000000:=by
 unfold aD
 cases e:m.lookup i with
 |none=>simp [dA]
 |some v=>
  have hm:(i,v)∈m:=by
   clear h
   induction m with
   |nil=>cases e
   |cons p m ih=>
    obtain ⟨a,b⟩:=p
    by_cases c:i=a
    ·subst c; simp [List.lookup] at e; subst e; exact bZ
    ·have:(i==a)=false:=by simpa using c
     simp only [List.lookup,this] at e
     exact cW _ (ih e)
  simpa using h _ hm
/-- not reached by the numbers so far -/
def uE (m:g3) (i:Int) (ys:List Int) (k:Int):Prop:=(1≤k∧k≤(m.length:Int))∧ ∀ n∈ys,¬ ((iL m i n:Int)+1≤k∧k≤(kO m i n:Int)+1)
section
variable {m:g3} {i:Int} {own:aa} {ys:List Int} {nev ranks:qx} {n a b:Int}
theorem JZ (h:iZ nev fun k=>1≤k∧k≤(m.length:Int)):iZ nev (uE m i []):=h.yc fun k=>⟨fun h=>⟨h,fun n hn=>by cases hn⟩,fun h=>h.1⟩
theorem Ka (ha:a=(iL m i n:Int)+1) (hb:b=(kO m i n:Int)+1) (h:iZ nev fun q=>uE m i ys q∧ ¬ (a≤q∧q≤b)):iZ nev (uE m i (ys++[n])):=by
 subst ha hb
 refine h.yc fun k=>?_
 unfold uE
 constructor
 ·rintro ⟨⟨B,A⟩,C⟩
  refine ⟨B,fun x hx=>?_⟩
  rcases List.mem_append.1 hx with hx|hx
  ·exact A x hx
  ·rw [bX] at hx; subst hx; exact C
 ·rintro ⟨B,A⟩
  exact ⟨⟨B,fun x hx=>A x (List.mem_append_left _ hx)⟩,A n sm⟩
theorem Ea {P:Int→Prop} {k:Int} (hk:a≤k) (h:iZ nev fun q=>P q∧ ¬ (a≤q∧q<k)):iZ (cp nev k) fun q=>P q∧ ¬ (a≤q∧q<k+1):=
 (Cl (k:=k) h).yc fun q=>by
  constructor
  ·rintro ⟨⟨B,A⟩,E⟩; exact ⟨B,fun ⟨C,D⟩=>A ⟨C,om⟩⟩
  ·rintro ⟨B,A⟩; exact ⟨⟨B,fun ⟨C,D⟩=>A ⟨C,om⟩⟩,fun e=>A ⟨om,om⟩⟩
theorem E7 (hall: ∀ n,n∈ys↔n∈jB m i own) {k:Int} (hk:1≤k∧k≤(m.length:Int)): ¬ uE m i ys k↔rK m i own k:=by
 unfold uE rK
 constructor
 ·intro h
  refine Classical.byContradiction fun q=>h ⟨hk,fun n hn hc=>q ⟨n,(hall n).1 hn,hc.1,hc.2⟩⟩
 ·rintro ⟨n,hn,A,B⟩ h
  exact h.2 n ((hall n).2 hn) ⟨A,B⟩
/-- the ranks, from what is left of the map -/
theorem EK (hi:m.lookup i≠none) (hall: ∀ n,n∈ys↔n∈jB m i own) (h:iZ ranks fun k=>(1≤k∧k≤(m.length:Int))∧ ¬ uE m i ys k):dk (ranks.map (·.1))=dI m i own:=by
 refine qX kS ?_ ((fG (l:=ranks.map (·.1))).nodup_iff.2 h.1) ?_ fun k=>?_
 ·unfold dI
  refine List.Pairwise.filter _ ?_
  rw [List.pairwise_map]
  exact List.pairwise_lt_range.imp fun h=>by omega
 ·unfold dI
  refine List.Pairwise.filter _ ?_
  rw [List.pairwise_map]
  exact List.pairwise_lt_range.imp fun h=>by omega
 ·rw [(fG (l:=ranks.map (·.1))).mem_iff,h.2 k,yO hi]
  constructor
  ·rintro ⟨A,B⟩; exact (E7 hall A).1 B
  ·intro A
   have hk:1≤k∧k≤(m.length:Int):=by
    obtain ⟨n,_,B,C⟩:=A
    have:=Kv hi (x:=n)
    omega
   exact ⟨hk,(E7 hall hk).2 A⟩
end
section
variable {nw left rk:qx} {N R:Int→Prop} {u:Int} {v:Bool}
theorem Nj (hl: ∀ p∈left,p∈nw) (hk:iZ nw N) (hm:(u,v)∈left) (h:iZ rk fun w=>R w∧ ¬ (N w∧w ∉ left.map (·.1))):iZ (cp rk u) fun w=>R w∧ ¬ (N w∧w ∉ (cp left u).map (·.1)):=
 (Cl (k:=u) h).yc fun w=>by
  have hd:w∈(cp left u).map (·.1)↔w∈left.map (·.1)∧w≠u:=by
   constructor
   ·intro q
    obtain ⟨p,hp,rfl⟩:=List.mem_map.1 q
    exact ⟨List.mem_map_of_mem (jW.1 hp).1,(jW.1 hp).2⟩
   ·rintro ⟨D,E⟩
    obtain ⟨p,hp,rfl⟩:=List.mem_map.1 D
    exact List.mem_map_of_mem (jW.2 ⟨hp,E⟩)
  constructor
  ·rintro ⟨⟨B,A⟩,C⟩
   exact ⟨B,fun q=>A ⟨q.1,fun z=>q.2 (hd.2 ⟨z,C⟩)⟩⟩
  ·rintro ⟨B,A⟩
   refine ⟨⟨B,fun q=>A ⟨q.1,fun z=>q.2 (hd.1 z).1⟩⟩,fun e=>A ⟨?_,fun z=>(hd.1 z).2 e⟩⟩
   subst e
   exact (hk.2 _).1 (List.mem_map_of_mem (f:=fun z:Int×Bool=>z.1) (hl _ hm))
theorem IP {n:Nat} (h:iZ rk R) (hR: ∀ k,R k→1≤k∧k≤(n:Int)):rk.length≤n:=by
 have hp:((List.range n).map fun (k:Nat)=>(k:Int)+1).Pairwise (· < ·):=by
  rw [List.pairwise_map]
  exact List.pairwise_lt_range.imp fun h=>by omega
 have e:dk (rk.map (·.1))=((List.range n).map fun (k:Nat)=>(k:Int)+1).filter fun k=>decide (k∈rk.map (·.1)):=by
  refine qX kS ((hp.filter _).imp fun h=>by omega) ((fG (l:=rk.map (·.1))).nodup_iff.2 h.1) ((hp.filter _).imp fun h=>by omega) fun k=>?_
  rw [(fG (l:=rk.map (·.1))).mem_iff,List.mem_filter,decide_eq_true_eq]
  refine ⟨fun q=>⟨?_,q⟩,fun q=>q.2⟩
  have:=hR k ((h.2 k).1 q)
  exact List.mem_map.2 ⟨(k-1).toNat,List.mem_range.2 om,om⟩
 have A:=congrArg List.length e
 have B:=List.length_filter_le (fun k=>decide (k∈rk.map (·.1))) ((List.range n).map fun (k:Nat)=>(k:Int)+1)
 rw [gp,List.length_map] at A
 rw [List.length_map,List.length_range] at B
 omega
end
section
variable {m left:g3} {i x n:Int} {own y:aa} {ys:List Int}
/-- what was told so far: all of those who are not left -/
def ym (m:g3) (i:Int) (own:aa) (left:g3) (ys:List Int):Prop:=(∀ n∈ys,n∈jB m i own)∧own.Lo∈ys∧ ∀ p∈m,p.1≠i→p ∉ left→ ∀ n∈[p.2.Lo+1,p.2.Hi+1],own.Lo≤n∧n≤own.Hi→n∈ys
theorem mF {p:Int×aa} (hp:p∈m) (hi:p.1≠i) (hn:n=p.2.Lo+1∨n=p.2.Hi+1) (hb:own.Lo≤n∧n≤own.Hi):n∈jB m i own:=
 cW _ (List.mem_filter.2 ⟨List.mem_flatMap.2 ⟨p,List.mem_filter.2 ⟨hp,by simpa using hi⟩,by simpa using hn⟩,fP hb⟩)
theorem IB:ym m i own m [own.Lo]:=⟨fun n hn=>by rw [bX] at hn; subst hn; exact bZ,sm,fun p hp _ hl=>absurd hp hl⟩
theorem MT (h:ym m i own [] ys) (n:Int):n∈ys↔n∈jB m i own:=by
 refine ⟨h.1 n,fun hn=>?_⟩
 rcases List.mem_cons.1 hn with rfl|hn
 ·exact h.2.1
 ·obtain ⟨C,D⟩:=List.mem_filter.1 hn
  obtain ⟨p,hp,hx⟩:=List.mem_flatMap.1 C
  obtain ⟨A,B⟩:=List.mem_filter.1 hp
  exact h.2.2 p A (by simpa using B) sm n hx (of_decide_eq_true D)
theorem kQ {ys':List Int} (hm:(left.map (·.1)).Nodup) (hx:(x,y)∈left) (hl: ∀ p∈left,p∈m) (h:ym m i own left ys) (hs: ∀ n∈ys,n∈ys') (hn: ∀ n∈ys',n∈ys∨n∈jB m i own)
 (hy:x≠i→ ∀ n∈[y.Lo+1,y.Hi+1],own.Lo≤n∧n≤own.Hi→n∈ys'):ym m i own (cp left x) ys':=by
 refine ⟨fun n A=>?_,hs _ h.2.1,fun p hp hi B n A hb=>?_⟩
 ·rcases hn n A with q|q
  ·exact h.1 n q
  ·exact q
 ·by_cases e:p∈left
  ·have C:p.1=x:=by
    refine Classical.byContradiction fun q=>B (jW.2 ⟨e,q⟩)
   have E:p=(x,y):=by
    obtain ⟨G,H⟩:=p
    simp only at C; subst C
    have F:=(g5 hm).1 e
    have D:=(g5 hm).1 hx
    rw [F] at D; cases D; rfl
   subst E
   exact hy hi n A hb
  ·exact hs n (h.2.2 p hp hi e n A hb)
end
section
variable {r:cd} {h i:Int} {ht:List aw} {d:aw}
theorem oQ (he: ¬ bY r=0):fR r h i=bY r:=if_neg he
theorem oE (he:bY r=0) (hi: ¬ ((0≤h∧h≤(r.aq.length:Int)-1)∧0≤i∧i≤(r.aI.length:Int)-1)):fR r h i=2:=by
 unfold fR; rw [if_pos he,if_neg (show ¬ ((0≤h∧h≤(r.aq.length:Int)-1)∧re r i) from hi)]
theorem CX (he:bY r=0) (hi:(0≤h∧h≤(r.aq.length:Int)-1)∧0≤i∧i≤(r.aI.length:Int)-1) (h1:r.aq[h.toNat]? =some ht) (h2:ht[i.toNat]? =some d):fR r h i=if d.Out=true then 6 else 0:=by
 unfold fR; rw [if_pos he,if_pos (show (0≤h∧h≤(r.aq.length:Int)-1)∧re r i from hi),h1]
 simp [h2]
theorem mU (he:bY r=0) (hi:(0≤h∧h≤(r.aq.length:Int)-1)∧0≤i∧i≤(r.aI.length:Int)-1) (h1:r.aq[h.toNat]? =some ht) (h2:ht[i.toNat]? =some d) (ho:d.Out=true):fR r h i=6:=by rw [CX he hi h1 h2,if_pos ho]
theorem qv (he:bY r=0) (hi:(0≤h∧h≤(r.aq.length:Int)-1)∧0≤i∧i≤(r.aI.length:Int)-1) (h1:r.aq[h.toNat]? =some ht) (h2:ht[i.toNat]? =some d) (ho:d.Out=false):fR r h i=0∧df r h i=dw r.ah d:=by
 have e:fR r h i=0:=by rw [CX he hi h1 h2,if_neg (by rw [ho]; decide)]
 refine ⟨e,?_⟩
 unfold df
 rw [if_pos e,h1]
 simp [h2]
end
theorem yu {r:cd} {i:Int} (h: ¬ jX r i=0):ig r i=[]:=if_neg h
theorem zq {r:cd} {i:Int} (h:jX r i=0):ig r i=dI (aG r) i (aD (aG r) i):=if_pos h
end
section
open Go.RowKit
section
variable {key:Int→Int} {l q m:List Int} {i j:Nat} {x y:Int}
theorem Hc:1=1∧l=[]∨te key l 1 l:=by
 cases l with
 |nil=>exact .inl ⟨rfl,rfl⟩
 |cons a l=>exact .inr (Iy sm)
theorem NY (h:i<l.length) (hd:i=1∧l=[]∨te key l i m):te key l i m:=by
 rcases hd with ⟨_,rfl⟩|hd
 ·simp at h
 ·exact hd
theorem KW (hi: ¬ i<l.length) (hl:m.length=l.length) (hd:i=1∧l=[]∨te key l i m):m=eD key l:=by
 rcases hd with ⟨_,rfl⟩|hd
 ·exact jz hl
 ·exact Ik om hd
theorem IE (hx:q[j]? =some x) (hy:q[j-1]? =some y) (h: ∀ z∈q,z∈l): ∀ z∈(q.set j y).set (j-1) x,z∈l:=fun z hz=>by
 rcases List.mem_or_eq_of_mem_set hz with hz|rfl
 ·rcases List.mem_or_eq_of_mem_set hz with hz|rfl
  ·exact h z hz
  ·exact h _ (aV hy)
 ·exact h _ (aV hx)
theorem wO {p:Int→Bool} (hx:l[i]? =some x) (h:p x=true):(l.take (i+1)).filter p=(l.take i).filter p++[x]:=by
 rw [lG hx,List.filter_append]; simp [h]
theorem EU {p:Int→Bool} (hx:l[i]? =some x) (h:p x=false):(l.take (i+1)).filter p=(l.take i).filter p:=by
 rw [lG hx,List.filter_append]; simp [h]
end
section
variable {r:cd} {h:Int} {n:Nat}
theorem DP (e: ¬ bY r=0):iH r h=bY r:=if_neg e
theorem DY (e:bY r=0) (q: ¬ (0≤h∧h≤(r.aq.length:Int))):iH r h=2:=by unfold iH; rw [if_pos e,if_neg q]
theorem zf (e:bY r=0) (q:0≤h∧h≤(r.aq.length:Int)):iH r h=0:=by unfold iH; rw [if_pos e,if_pos q]
theorem Dp (hd:r.bD.length≤12):(gX r h).length≤12:=by
 unfold gX
 split
 ·split
  ·exact hd
  ·unfold uf
   simp only [jU,kh]
   exact Nat.le_trans (List.length_filter_le _ _) hd
 ·simp
theorem yM (e: ¬ iH r h=0):gX r h=[]:=if_neg e
theorem vf (e:iH r h=0) (q:h=0):gX r h=r.bD:=by unfold gX; rw [if_pos e,if_pos q]
theorem u0 (e:iH r (n:Int)=0) (q: ¬ (n:Int)=0):gX r (n:Int)=uf r n:=by unfold gX; rw [if_pos e,if_neg q,Int.toNat_natCast]
theorem yD {k:Nat} {l:List Int} (hl:l=eD (fun i=>(aD (eL r n) i).Hi) (r.bD.filter fun i=>((eL r n).lookup i).isSome)) (hk:k=min r.dZ.toNat l.length):rp k l=uf r n:=by subst hl; subst hk; rfl
theorem Tl {m:g3} {l:List Int} (hb: ∀ p∈m,0≤p.2.Lo∧p.2.Lo≤p.2.Hi∧p.2.Hi≤30000000): ∀ x∈l,0≤(aD m x).Hi∧(aD m x).Hi≤30000000:=fun x _=>by have:=gO (i:=x) hb; omega
theorem Rw {m:g3} {l:List Int} (hb: ∀ p∈m,0≤p.2.Lo∧p.2.Lo≤p.2.Hi∧p.2.Hi≤30000000): ∀ x∈l,0≤(aD m x).Lo∧(aD m x).Lo≤30000000:=fun x _=>by have:=gO (i:=x) hb; omega
end
end
section
def Lr (f:Int→aa) (g:List Int):Prop:= ∀ t,(∃ a∈g,(f a).Lo<t)→(∃ b∈g,t≤(f b).Lo)→ ∃ c∈g,(f c).Lo<t∧t≤(f c).Hi
def Km (f:Int→aa) (g h:List Int):Prop:= ∀ a∈g,∀ b∈h,(f a).Hi<(f b).Lo
structure hZ (f:Int→aa) (keys:List Int) (G:List (List Int)):Prop where
 perm:G.flatten.Perm keys
 some_: ∀ g∈G,g≠[]
 apart:G.Pairwise (Km f)
 tight: ∀ g∈G,Lr f g
def BB (G:List (List Int)):Prop:= ∀ g∈G,g.Pairwise (· ≤ ·)
section
variable {f:Int→aa} {keys:List Int} {G G':List (List Int)} {g h:List Int} {x:Int}
theorem xM: ∀ {g:List Int},g≠[]→ ∃ a∈g,∀ b∈g,(f a).Lo≤(f b).Lo
 |[],h=>absurd rfl h
 |[a],_=>⟨a,sm,fun b hb=>by simp at hb; subst hb; omega⟩
 |a::b::g,_=>by
  obtain ⟨c,hc,hm⟩:=xM (g:=b::g) sm
  rcases Int.le_total (f a).Lo (f c).Lo with q|q
  ·refine ⟨a,sm,fun d hd=>?_⟩
   rcases List.mem_cons.1 hd with rfl|hd
   ·omega
   ·have:=hm d hd; omega
  ·refine ⟨c,cW _ hc,fun d hd=>?_⟩
   rcases List.mem_cons.1 hd with rfl|hd
   ·exact q
   ·exact hm d hd
/-- the first group is what no cut parts from the least -/
theorem qU (hf: ∀ i∈keys,(f i).Lo≤(f i).Hi) (h:hZ f keys (g::G)) {a:Int} (ha:a∈keys) (hm: ∀ b∈keys,(f a).Lo≤(f b).Lo) {b:Int} (hb:b∈keys):b∈g↔ ∀ t,(f a).Lo<t→t≤(f b).Lo→ ∃ c∈keys,(f c).Lo<t∧t≤(f c).Hi:=by
 have hk: ∀ x,x∈keys↔x∈g∨x∈G.flatten:=fun x=>by rw [← h.perm.mem_iff,List.flatten_cons,ku]
 have A:=List.pairwise_cons.1 h.apart
 have B:a∈g:=by
  rcases (hk a).1 ha with q|q
  ·exact q
  ·obtain ⟨y,hy⟩:=List.exists_mem_of_ne_nil _ (h.some_ g bZ)
   obtain ⟨g',hg',hag'⟩:=List.mem_flatten.1 q
   have F:=A.1 g' hg' y hy a hag'
   have H:=hm y ((hk y).2 (.inl hy))
   have E:=hf y ((hk y).2 (.inl hy))
   omega
 constructor
 ·intro AA t F H
  obtain ⟨c,hc,E⟩:=h.tight g bZ t ⟨a,B,F⟩ ⟨b,AA,H⟩
  exact ⟨c,(hk c).2 (.inl hc),E⟩
 ·intro C
  rcases (hk b).1 hb with q|q
  ·exact q
  ·exfalso
   obtain ⟨d,hd,D⟩:=xM (f:=f) (g:=G.flatten) (fun e=>by rw [e] at q; cases q)
   obtain ⟨g',hg',hdg'⟩:=List.mem_flatten.1 hd
   have F:=A.1 g' hg' a B d hdg'
   have H:=hf a ha
   have E:=D b q
   obtain ⟨c,hc,K,L⟩:=C (f d).Lo om E
   rcases (hk c).1 hc with J|J
   ·have:=A.1 g' hg' c J d hdg'; omega
   ·have:=D c J; omega
theorem vc (h:hZ f keys (g::G)):hZ f G.flatten G:=
 ⟨List.Perm.refl _,fun x hx=>h.some_ x (cW _ hx),(List.pairwise_cons.1 h.apart).2,fun x hx=>h.tight x (cW _ hx)⟩
theorem qc {k2:List Int} (h:hZ f keys G) (p:keys.Perm k2):hZ f k2 G:=⟨h.perm.trans p,h.some_,h.apart,h.tight⟩
theorem rD: ∀ {G G':List (List Int)} {keys:List Int},keys.Nodup→(∀ i∈keys,(f i).Lo≤(f i).Hi)→hZ f keys G→hZ f keys G'→BB G→BB G'→G=G'
 |[],[],keys,_,_,_,_,_,_=>rfl
 |[],g'::G',keys,_,_,h,h',_,_=>by
  exfalso
  have F:keys=[]:=List.Perm.eq_nil (by simpa using h.perm.symm)
  subst F
  have:=h'.perm.eq_nil
  simp at this
  exact h'.some_ g' bZ this.1
 |g::G,[],keys,_,_,h,h',_,_=>by
  exfalso
  have F:keys=[]:=List.Perm.eq_nil (by simpa using h'.perm.symm)
  subst F
  have:=h.perm.eq_nil
  simp at this
  exact h.some_ g bZ this.1
 |g::G,g'::G',keys,hn,hf,h,h',ha,ha'=>by
  have H:keys≠[]:=fun e=>by
   subst e
   have:=h.perm.eq_nil
   simp at this
   exact h.some_ g bZ this.1
  obtain ⟨a,A,B⟩:=xM (f:=f) H
  have D:=h.perm.nodup_iff.2 hn
  have E:=h'.perm.nodup_iff.2 hn
  rw [List.flatten_cons,List.nodup_append] at D E
  have zM: ∀ b∈g,b∈keys:=fun b hb=>h.perm.mem_iff.1 (by rw [List.flatten_cons]; exact List.mem_append_left _ hb)
  have C: ∀ b∈g',b∈keys:=fun b hb=>h'.perm.mem_iff.1 (by rw [List.flatten_cons]; exact List.mem_append_left _ hb)
  have e:g=g':=by
   refine qX (ha g bZ) (ha' g' bZ) D.1 E.1 fun b=>?_
   constructor
   ·intro hb
    exact (qU hf h' A B (zM b hb)).2 ((qU hf h A B (zM b hb)).1 hb)
   ·intro hb
    exact (qU hf h A B (C b hb)).2 ((qU hf h' A B (C b hb)).1 hb)
  subst e
  have p:G.flatten.Perm G'.flatten:=by
   have:=h.perm.trans h'.perm.symm
   rw [List.flatten_cons,List.flatten_cons] at this
   exact (List.perm_append_left_iff g).1 this
  rw [rD (G:=G) (G':=G') D.2.1 (fun i hi=>hf i (h.perm.mem_iff.1 (by rw [List.flatten_cons]; exact List.mem_append_right _ hi))) (vc h) (qc (vc h') p.symm) (fun x hx=>ha x (cW _ hx)) (fun x hx=>ha' x (cW _ hx))]
/-- groups, each one put in order -/
theorem uY (h:hZ f keys G):hZ f keys (G.map dk)∧BB (G.map dk):=by
 have hp: ∀ G:List (List Int),(G.map dk).flatten.Perm G.flatten:=fun G=>by
  induction G with
  |nil=>simp
  |cons g G ih=>simp only [List.map_cons,List.flatten_cons]; exact fG.append ih
 have hm: ∀ {g:List Int} {x:Int},x∈dk g↔x∈g:=fG.mem_iff
 refine ⟨⟨(hp G).trans h.perm,fun g hg=>?_,?_,fun g hg=>?_⟩,fun g hg=>?_⟩
 ·obtain ⟨y,hy,rfl⟩:=List.mem_map.1 hg
  intro e
  have:=(fG (l:=y)).symm
  rw [e] at this
  exact h.some_ y hy this.eq_nil
 ·rw [List.pairwise_map]
  exact h.apart.imp fun q a ha b hb=>q a (hm.1 ha) b (hm.1 hb)
 ·obtain ⟨y,hy,rfl⟩:=List.mem_map.1 hg
  rintro t ⟨a,ha,A⟩ ⟨b,hb,B⟩
  obtain ⟨c,hc,C⟩:=h.tight y hy t ⟨a,hm.1 ha,A⟩ ⟨b,hm.1 hb,B⟩
  exact ⟨c,hm.2 hc,C⟩
 ·obtain ⟨y,hy,rfl⟩:=List.mem_map.1 hg
  exact kS
end
/-- so far: groups, and the greatest of all -/
structure ml (f:Int→aa) (p:List Int) (G:List (List Int)) (last:Int):Prop where
 ok:hZ f p G
 PF: ∀ a∈p,(f a).Hi≤last
 at_:p=[]∧last= -1∨ ∃ a∈p,(f a).Hi=last
section
variable {f:Int→aa} {p:List Int} {G:List (List Int)} {g:List Int} {x last:Int}
theorem Fl:ml f [] [] (-1):=⟨⟨sm,fun g hg=>(by cases hg),List.Pairwise.nil,fun g hg=>by cases hg⟩,fun a ha=>(by cases ha),.inl ⟨rfl,rfl⟩⟩
theorem HY:Lr f [x]:=by
 rintro t ⟨a,ha,A⟩ ⟨b,hb,B⟩
 simp at ha hb; subst ha hb; omega
theorem q8 (h0: -1≤(f x).Hi) (h:ml f p G last):(∀ a∈p++[x],(f a).Hi≤max last (f x).Hi)∧((p++[x])=[]∧max last (f x).Hi= -1∨ ∃ a∈p++[x],(f a).Hi=max last (f x).Hi):=by
 refine ⟨fun a ha=>?_,.inr ?_⟩
 ·rcases List.mem_append.1 ha with ha|ha
  ·have:=h.PF a ha; omega
  ·rw [bX] at ha; subst ha; omega
 ·rcases Int.le_total last (f x).Hi with q|q
  ·exact ⟨x,sm,om⟩
  ·rcases h.at_ with ⟨rfl,e⟩|⟨a,ha,e⟩
   ·exact ⟨x,sm,om⟩
   ·exact ⟨a,List.mem_append_left _ ha,om⟩
theorem ML (h0: -1≤(f x).Hi) (h:ml f p G last) (hl:last<(f x).Lo):ml f (p++[x]) (G++[[x]]) (max last (f x).Hi):=by
 have A: ∀ y∈G,∀ a∈y,a∈p:=fun y hy a ha=>h.ok.perm.mem_iff.1 (List.mem_flatten.2 ⟨y,hy,ha⟩)
 refine ⟨⟨?_,fun y hy=>?_,?_,fun y hy=>?_⟩,(q8 h0 h).1,(q8 h0 h).2⟩
 ·rw [List.flatten_append]
  exact h.ok.perm.append sm
 ·rcases List.mem_append.1 hy with hy|hy
  ·exact h.ok.some_ y hy
  ·rw [bX] at hy; subst hy; simp
 ·rw [List.pairwise_append]
  refine ⟨h.ok.apart,List.pairwise_singleton _ _,fun y hy z hz a ha b hb=>?_⟩
  rw [bX] at hz; subst hz
  rw [bX] at hb; subst hb
  have:=h.PF a (A y hy a ha); omega
 ·rcases List.mem_append.1 hy with hy|hy
  ·exact h.ok.tight y hy
  ·rw [bX] at hy; subst hy; exact HY
theorem Kl (h0: -1≤(f x).Hi) (hf: ∀ i∈p,(f i).Lo≤(f i).Hi) (hx: ∀ a∈p,(f a).Lo≤(f x).Lo) (h:ml f p (G++[g]) last) (hl: ¬ last<(f x).Lo):ml f (p++[x]) (G++[g++[x]]) (max last (f x).Hi):=by
 have A: ∀ y∈G++[g],∀ a∈y,a∈p:=fun y hy a ha=>h.ok.perm.mem_iff.1 (List.mem_flatten.2 ⟨y,hy,ha⟩)
 have C:=List.pairwise_append.1 h.ok.apart
 have B:=h.ok.some_ g sm
 refine ⟨⟨?_,fun y hy=>?_,?_,fun y hy=>?_⟩,(q8 h0 h).1,(q8 h0 h).2⟩
 ·have:=h.ok.perm
  rw [List.flatten_append] at this ⊢
  simp only [List.flatten_cons,List.flatten_nil,List.append_nil] at this ⊢
  rw [← List.append_assoc]
  exact this.append_right _
 ·rcases List.mem_append.1 hy with hy|hy
  ·exact h.ok.some_ y (List.mem_append_left _ hy)
  ·rw [bX] at hy; subst hy; simp
 ·rw [List.pairwise_append]
  refine ⟨C.1,List.pairwise_singleton _ _,fun y hy z hz a ha b hb=>?_⟩
  rw [bX] at hz; subst hz
  rcases List.mem_append.1 hb with hb|hb
  ·exact C.2.2 y hy g sm a ha b hb
  ·rw [bX] at hb; subst hb
   obtain ⟨c,hc⟩:=List.exists_mem_of_ne_nil _ B
   have K:=C.2.2 y hy g sm a ha c hc
   have H:=hx c (A g sm c hc)
   omega
 ·rcases List.mem_append.1 hy with hy|hy
  ·exact h.ok.tight y (List.mem_append_left _ hy)
  ·rw [bX] at hy; subst hy
   rintro t ⟨a,ha,K⟩ ⟨b,hb,H⟩
   by_cases D: ∃ b∈g,t≤(f b).Lo
   ·obtain ⟨b',hb',L⟩:=D
    have AA:a∈g:=by
     rcases List.mem_append.1 ha with q|q
     ·exact q
     ·rw [bX] at q; subst q
      have:=hx b' (A g sm b' hb'); omega
    obtain ⟨c,hc,M⟩:=h.ok.tight g sm t ⟨a,AA,K⟩ ⟨b',hb',L⟩
    exact ⟨c,List.mem_append_left _ hc,M⟩
   ·have J: ∀ c∈g,(f c).Lo<t:=fun c hc=>by
     refine Classical.byContradiction fun q=>D ⟨c,hc,om⟩
    have N:t≤(f x).Lo:=by
     rcases List.mem_append.1 hb with q|q
     ·exact absurd ⟨b,q,H⟩ D
     ·rw [bX] at q; subst q; exact H
    rcases h.at_ with ⟨e,_⟩|⟨c,hc,e⟩
    ·exfalso
     obtain ⟨c,hc⟩:=List.exists_mem_of_ne_nil _ B
     have:=A g sm c hc
     rw [e] at this; cases this
    ·have E:c∈g:=by
      obtain ⟨y,hy,F⟩:=List.mem_flatten.1 (h.ok.perm.mem_iff.2 hc)
      rcases List.mem_append.1 hy with hy|hy
      ·exfalso
       obtain ⟨d,hd⟩:=List.exists_mem_of_ne_nil _ B
       have L:=C.2.2 y hy g sm c F d hd
       have M:=hf d (A g sm d hd)
       have O:=h.PF d (A g sm d hd)
       omega
      ·rw [bX] at hy; subst hy; exact F
     exact ⟨c,List.mem_append_left _ E,J c E,om⟩
theorem JU (h:ml f p G last) (hp:p≠[]):G≠[]:=fun e=>by
 subst e
 exact hp (by simpa using h.ok.perm.symm.eq_nil)
end
end
section
open Go.RowKit
/-- a map, or nil -/
def oC (o:Option Nat):List Value:=[Value.map o]
theorem Az {α:Type}: ∀ {ms:List α} {asl:List Nat},ms.length=asl.length→List.zipWith gH ms asl=(asl.map some).map oC
 |[],[],_=>rfl
 |[],_::_,h=>by simp at h
 |_::_,[],h=>by simp at h
 |x::ms,y::asl,h=>by simp only [List.zipWith_cons_cons,List.map_cons,Az (ms:=ms) (asl:=asl) (by simpa using h)]; rfl
/-- what stands for all but one -/
def fD {M A:Type} (f:M→A→List av) (ms:List M) (asl:List A) (k:Nat):List av:=aS f (ms.take k) (asl.take k)++aS f (ms.drop (k+1)) (asl.drop (k+1))
theorem kF {M A:Type} {f:M→A→List av}: ∀ {ms:List M} {asl:List A} {k:Nat} {m:M} {a:A},ms[k]? =some m→asl[k]? =some a→(aS f ms asl).Perm (f m a++fD f ms asl k)
 |[],_,k,m,a,h,_=>by simp at h
 |_::_,[],k,m,a,_,h=>by simp at h
 |x::ms,y::asl,0,m,a,h,h2=>by
  simp at h h2; subst h h2
  simp [fD,aS]
 |x::ms,y::asl,k+1,m,a,h,h2=>by
  have ih:=kF (f:=f) (ms:=ms) (asl:=asl) (k:=k) (by simpa using h) (by simpa using h2)
  show (f x y++aS f ms asl).Perm (f m a++fD f (x::ms) (y::asl) (k+1))
  have e:fD f (x::ms) (y::asl) (k+1)=f x y++fD f ms asl k:=by simp [fD,aS,List.append_assoc]
  rw [e]
  refine (ih.append_left (f x y)).trans ?_
  rw [← List.append_assoc,← List.append_assoc]
  exact List.perm_append_comm.append_right _
theorem HB {M A:Type} {f:M→A→List av} {ms:List M} {asl:List A} {k:Nat} {m':M}:fD f (ms.set k m') asl k=fD f ms asl k:=by
 unfold fD
 rw [List.take_set_of_le (Nat.le_refl k),List.drop_set_of_lt (Nat.lt_succ_self k)]
theorem kI {S:BS} {w0 w:World} {C X Y:List av} (hp:X.Perm Y) (h:St S w0 (bp X::C) w):St S w0 (bp Y::C) w:=by
 have A:St S w0 (X++C) w:=h.ia
 exact (A.perm (hp.append_right C)).tied
theorem St.out {M A:Type} {f:M→A→List av} {S:BS} {w0 w:World} {C:List av} {ms:List M} {asl:List A} {k:Nat} {m:M} {a:A} {X:av} (hm:ms[k]? =some m) (ha:asl[k]? =some a) (hf:f m a=[X]) (h:St S w0 (bp (aS f ms asl)::C) w):St S w0 (X::bp (fD f ms asl k)::C) w:=by
 have B:=(kI (kF hm ha) h).ia
 rw [hf] at B
 have D:St S w0 (fD f ms asl k++(X::C)) w:=B.perm (List.perm_middle (a:=X) (l₁:=fD f ms asl k) (l₂:=C)).symm
 exact D.tied.perm (List.Perm.swap _ _ _)
theorem St.back {M A:Type} {f:M→A→List av} {S:BS} {w0 w:World} {C:List av} {ms:List M} {asl:List A} {k:Nat} {m':M} {a:A} {X:av} (hk:k<ms.length) (ha:asl[k]? =some a) (hf:f m' a=[X]) (h:St S w0 (X::bp (fD f ms asl k)::C) w):St S w0 (bp (aS f (ms.set k m') asl)::C) w:=by
 have B:St S w0 (bp (fD f ms asl k)::X::C) w:=h.perm (List.Perm.swap _ _ _)
 have D:=B.ia
 have E:St S w0 ((f m' a++fD f (ms.set k m') asl k)++C) w:=by
  rw [hf,HB]
  exact D.perm (List.perm_middle (a:=X) (l₁:=fD f ms asl k) (l₂:=C))
 exact kI (kF (List.getElem?_set_self hk) ha).symm E.tied
section
variable {E:fh} {ops:Array Oper} {Q:c_} {rest:List Oper} {D:List Deferred} {L:List (Nat×Value)} {C C1:List av}
variable {M A:Type} {f:M→A→List av} {ms:List M} {asl:List A} {k:Nat} {m:M} {a:A} {X:av}
theorem F6 {c:Code} (i:Nat) (hm:ms[k]? =some m) (ha:asl[k]? =some a) (hf:f m a=[X]) (hn:decide (i::(List.range C.length).filter fun k=>k != i).Nodup=true) (hC:j_ C (i::(List.range C.length).filter fun k=>k != i)=bp (aS f ms asl)::C1)
 (h:WJ E c Q D L (X::bp (fD f ms asl k)::C1)):WJ E c Q D L C:=fun a w hf' hs=>h a w hf' (St.out hm ha hf (St.j_ _ hn hC hs))
theorem Lu {K:Act→World→Prop} (i j:Nat) (hk:k<ms.length) (ha:asl[k]? =some a) (hf:f m a=[X]) (hn:decide (j::i::(List.range C.length).filter fun k=>k != i&&k != j).Nodup=true) (hC:j_ C (j::i::(List.range C.length).filter fun k=>k != i&&k != j)=X::bp (fD f ms asl k)::C1)
 (h:KJ E K D L (bp (aS f (ms.set k m) asl)::C1)):KJ E K D L C:=fun a w hf' hs=>h a w hf' (St.back hk ha hf (St.j_ _ hn hC hs))
end
end
section
open Go.RowKit
def j5 (l:List Int) (a:RA):List Value:=[vS a.1 l.length a.2]
def QP (l:List Int) (a:RA):List av:=[rd a.1 l.length 1 (l.map iC)]
def nc (l:List Int) (a:RA):List av:=[own a.1 a.2 SI 1 (l.map iC)]
theorem F2: ∀ (m:List Int) (a:RA) (w:World),(∀ X∈nc m a,X.holds w)→ ∀ X∈QP m a,X.holds w:=fun m a w h X hX=>by
 simp only [QP,bX] at hX
 subst hX
 have:=mZ (h _ (List.mem_singleton.2 rfl))
 simpa using this
theorem Ih {l:List (List Int)} {bz:List RA}:(bp (aS nc l bz)).wr=true:=by
 show (aS nc l bz).all (·.wr)=true
 rw [fg]
 intro X hX
 obtain ⟨k,m,a,_,_,h⟩:=jF hX
 simp only [nc,bX] at h
 subst h; rfl
theorem k6 {ls:List (List Int)} {az:List RA} (h:az.length=ls.length):(List.zipWith j5 ls az).length=ls.length:=by simp [h]
theorem MY (l:List (List Int)) (az:List RA): ∀ v∈(List.zipWith j5 l az).flatten,v.oneCell'=true:=by
 induction l generalizing az with
 |nil=>intro v hv; simp at hv
 |cons x l ih=>
  cases az with
  |nil=>intro v hv; simp at hv
  |cons a az=>
   intro v hv
   rw [List.zipWith_cons_cons,List.flatten_cons,ku] at hv
   rcases hv with hv|hv
   ·simp [j5] at hv; subst hv; rfl
   ·exact ih az v hv
section
variable {M A:Type} {f:M→A→List av} {ms:List M} {asl:List A} {k:Nat} {m:M} {a:A} {X:av}
theorem rY:fD f (ms.set k m) (asl.set k a) k=fD f ms asl k:=by
 unfold fD
 rw [List.take_set_of_le (Nat.le_refl k),List.drop_set_of_lt (Nat.lt_succ_self k),List.take_set_of_le (Nat.le_refl k),List.drop_set_of_lt (Nat.lt_succ_self k)]
theorem St.Rf {S:BS} {w0 w:World} {C:List av} (hk:k<ms.length) (hk2:k<asl.length) (hf:f m a=[X]) (h:St S w0 (X::bp (fD f ms asl k)::C) w):St S w0 (bp (aS f (ms.set k m) (asl.set k a))::C) w:=by
 have A:St S w0 (bp (fD f ms asl k)::X::C) w:=h.perm (List.Perm.swap _ _ _)
 have B:=A.ia
 have D:St S w0 ((f m a++fD f (ms.set k m) (asl.set k a) k)++C) w:=by
  rw [hf,rY]
  exact B.perm (List.perm_middle (a:=X) (l₁:=fD f ms asl k) (l₂:=C))
 exact kI (kF (List.getElem?_set_self hk) (List.getElem?_set_self hk2)).symm D.tied
theorem qA {β:Type} {c:M→A→β}:(List.zipWith c ms asl).set k (c m a)=List.zipWith c (ms.set k m) (asl.set k a):=by
 apply List.ext_getElem?
 intro j
 rw [List.getElem?_set]
 by_cases e:k=j
 ·subst e
  rw [if_pos rfl,List.length_zipWith,List.getElem?_zipWith,List.getElem?_set,List.getElem?_set,if_pos rfl,if_pos rfl]
  by_cases B:k<ms.length
  ·by_cases C:k<asl.length
   ·rw [if_pos om,if_pos B,if_pos C]
   ·rw [if_neg om,if_pos B,if_neg C]
  ·rw [if_neg om,if_neg B]
 ·rw [if_neg e,List.getElem?_zipWith,List.getElem?_zipWith,List.getElem?_set_ne e,List.getElem?_set_ne e]
variable {E:fh} {ops:Array Oper} {Q:c_} {rest:List Oper} {D:List Deferred} {L:List (Nat×Value)} {C C1:List av}
abbrev Ca (C:List av) (i j:Nat):List Nat:=j::i::(List.range C.length).filter fun k=>k != i&&k != j
abbrev GM (C:List av) (i:Nat):List Nat:=i::(List.range C.length).filter fun k=>k != i
theorem F9 (i j:Nat) (hk:k<ms.length) (hk2:k<asl.length) (hf:f m a=[X]) (hn:decide (Ca C i j).Nodup=true) (hC:oY C (Ca C i j)=some (X::bp (fD f ms asl k)::C1))
 (h:RJ E ops Q rest D L (bp (aS f (ms.set k m) (asl.set k a))::C1)):RJ E ops Q rest D L C:=fun a w hf' hs=>h a w hf' (St.Rf hk hk2 hf (St.j_ _ hn (jv hC) hs))
theorem D1 {c:Code} (i:Nat) (hm:ms[k]? =some m) (ha:asl[k]? =some a) (hf:f m a=[X]) (hn:decide (GM C i).Nodup=true) (hC:oY C (GM C i)=some (bp (aS f ms asl)::C1))
 (h:WJ E c Q D L (X::bp (fD f ms asl k)::C1)):WJ E c Q D L C:=fun a w hf' hs=>h a w hf' (St.out hm ha hf (St.j_ _ hn (jv hC) hs))
theorem NV {K:Act→World→Prop} (i j:Nat) (hk:k<ms.length) (ha:asl[k]? =some a) (hf:f m a=[X]) (hn:decide (Ca C i j).Nodup=true) (hC:oY C (Ca C i j)=some (X::bp (fD f ms asl k)::C1))
 (h:KJ E K D L (bp (aS f (ms.set k m) asl)::C1)):KJ E K D L C:=fun a w hf' hs=>h a w hf' (St.back hk ha hf (St.j_ _ hn (jv hC) hs))
theorem Qx {Y Y':List av} (i j:Nat) (hn:decide (Ca C i j).Nodup=true) (hC:oY C (Ca C i j)=some (X::bp Y::C1)) (e:Y++[X]=Y') (h:RJ E ops Q rest D L (bp Y'::C1)):RJ E ops Q rest D L C:=fun a w hf hs=>h a w hf ((St.j_ _ hn (jv hC) hs).tie e)
theorem Kk {K:Act→World→Prop} {Y Y':List av} (i j:Nat) (hn:decide (Ca C i j).Nodup=true) (hC:oY C (Ca C i j)=some (X::bp Y::C1)) (e:Y++[X]=Y') (h:KJ E K D L (bp Y'::C1)):KJ E K D L C:=fun a w hf hs=>h a w hf ((St.j_ _ hn (jv hC) hs).tie e)
end
theorem DH {M A:Type} {f:M→A→List av} {ms:List M} {asl:List A} {m:M} {a:A} {X:av} (h:ms.length=asl.length) (hf:f m a=[X]):aS f ms asl++[X]=aS f (ms++[m]) (asl++[a]):=by
 rw [jD h]; simp [aS,hf]
theorem GG {M A β:Type} {f:M→A→β} {ms:List M} {asl:List A} {m:M} {a:A} (h:ms.length=asl.length):List.zipWith f ms asl++List.zipWith f [m] [a]=List.zipWith f (ms++[m]) (asl++[a]):=(List.zipWith_append h).symm
theorem pg {r:cd} {k:Nat}:((eL r k).map (·.1)).Nodup:=by
 unfold eL
 rw [List.map_filterMap]
 refine List.Pairwise.filterMap _ ?_ (List.nodup_range (n:=r.aI.length))
 intro a b A x hx y hy e
 subst e
 simp only [Option.map_map,Option.map_eq_some_iff,Function.comp] at hx hy
 obtain ⟨_,_,rfl⟩:=hx
 obtain ⟨_,_,h⟩:=hy
 exact A om
noncomputable def bH (r:cd):List (List Int):=if bY r=0 then Classical.epsilon (fun G=>hZ (aD (aG r)) ((aG r).map (·.1)) G∧BB G) else []
theorem Be {r:cd} (h: ¬ bY r=0):bH r=[]:=if_neg h
theorem sV {r:cd} {G:List (List Int)} (he:bY r=0) (h1:hZ (aD (aG r)) ((aG r).map (·.1)) G) (h2:BB G):G=bH r:=by
 unfold bH
 rw [if_pos he]
 have A:=Classical.epsilon_spec (p:=fun G=>hZ (aD (aG r)) ((aG r).map (·.1)) G∧BB G) ⟨G,h1,h2⟩
 exact rD pg (fun i hi=>(gO (nm he)).2.1) h1 A.1 h2 A.2
section
variable {f:Int→aa} {L:List Int} {G:List (List Int)} {g:List Int} {x last:Int} {i j:Nat}
theorem zH (h:ml f (L.take i) G last) (hg:g∈G):g.length≤L.length:=by
 have A:=h.ok.perm.length_eq
 have B:g.length≤G.flatten.length:=(List.sublist_flatten_of_mem hg).length_le
 rw [List.length_take] at A; omega
theorem Fz (h:ml f (L.take i) G last):G.length≤L.length:=by
 have A:=h.ok.perm.length_eq
 have B: ∀ G:List (List Int),(∀ g∈G,g≠[])→G.length≤G.flatten.length:=fun G=>by
  induction G with
  |nil=>intro _; simp
  |cons g G ih=>
   intro hG
   have C:=ih fun y hy=>hG y (cW _ hy)
   have D:=List.length_pos_iff.2 (hG g bZ)
   simp only [List.flatten_cons,List.length_cons,List.length_append]; omega
 have C:=B G h.ok.some_
 rw [List.length_take] at A; omega
theorem pb (h0: -1≤(f x).Hi) (hx:L[i]? =some x) (hg:(G++[[]])[(G++[([]:List Int)]).length-1]? =some g) (h:ml f (L.take i) G last) (hl:last<(f x).Lo):ml f (L.take (i+1)) ((G++[[]]).set ((G++[([]:List Int)]).length-1) (g++[x])) (max last (f x).Hi):=by
 have A:(G++[([]:List Int)]).length-1=G.length:=by simp
 rw [A] at hg ⊢
 simp at hg
 subst hg
 rw [lG hx]
 have B:(G++[([]:List Int)]).set G.length ([]++[x])=G++[[x]]:=by simp
 rw [B]
 exact ML h0 h hl
theorem oj (h0: -1≤(f x).Hi) (hf: ∀ i∈L,(f i).Lo≤(f i).Hi) (hup:Ek (fun u=>(f u).Lo) L) (hx:L[i]? =some x) (hg:G[G.length-1]? =some g) (h:ml f (L.take i) G last) (hl: ¬ last<(f x).Lo):ml f (L.take (i+1)) (G.set (G.length-1) (g++[x])) (max last (f x).Hi):=by
 obtain ⟨A,F⟩:=List.getElem?_eq_some_iff.1 hg
 obtain ⟨G',y,rfl⟩: ∃ G' y,G=G'++[y]:=⟨G.dropLast,G.getLast (by intro e; subst e; simp at A),(List.dropLast_concat_getLast _).symm⟩
 have D:(G'++[y]).length-1=G'.length:=by simp
 simp only [D] at hg ⊢
 simp at hg
 subst hg
 have E:(G'++[y]).set G'.length (y++[x])=G'++[y++[x]]:=by simp
 rw [lG hx,E]
 refine Kl h0 (fun i hi=>hf i (List.mem_of_mem_take hi)) (fun a ha=>?_) h hl
 obtain ⟨C,B⟩:=List.getElem?_eq_some_iff.1 hx
 obtain ⟨q,hq,rfl⟩:=List.mem_iff_getElem.1 ha
 rw [List.length_take] at hq
 rw [List.getElem_take]
 have:=List.pairwise_iff_getElem.1 hup q i om C om
 rw [B] at this
 exact this
theorem Ff (hlo:0≤(f x).Lo) (h:ml f (L.take i) G last) (hl: ¬ last<(f x).Lo):1≤G.length:=by
 rcases h.at_ with ⟨_,e⟩|⟨a,ha,_⟩
 ·omega
 ·exact List.length_pos_iff.2 (JU h (fun e=>by rw [e] at ha; cases ha))
/-- the first groups are in order -/
def m_ (G:List (List Int)) (j:Nat):List (List Int):=(G.take j).map dk++G.drop j
theorem D2 (h:G.length≤j):m_ G j=G.map dk:=by unfold m_; rw [List.take_of_length_le h,List.drop_eq_nil_of_le h,List.append_nil]
theorem ER:(m_ G j).length=G.length:=by unfold m_; rw [List.length_append,List.length_map,List.length_take,List.length_drop]; omega
theorem HP (h:G[j]? =some g):(m_ G j)[j]? =some g:=by
 have hj:=(List.getElem?_eq_some_iff.1 h).1
 unfold m_
 rw [List.getElem?_append_right (by rw [List.length_map,List.length_take]; omega),List.length_map,List.length_take,Nat.min_eq_left om,Nat.sub_self,List.getElem?_drop]
 simpa using h
theorem Df (h:G[j]? =some g):(m_ G j).set j (dk g)=m_ G (j+1):=by
 have hj:=(List.getElem?_eq_some_iff.1 h).1
 unfold m_
 rw [List.set_append_right _ _ (by rw [List.length_map,List.length_take]; omega),List.length_map,List.length_take,Nat.min_eq_left om,Nat.sub_self,List.drop_eq_getElem_cons hj,List.set_cons_zero,List.take_add_one,h]
 simp
theorem Ly {gz:List RA}:List.zipWith j5 (G.map dk) gz=List.zipWith j5 G gz:=by
 induction G generalizing gz with
 |nil=>rfl
 |cons g G ih=>
  cases gz with
  |nil=>rfl
  |cons a gz=>simp only [List.map_cons,List.zipWith_cons_cons,ih]; simp [j5]
end
end
section
open Go.RowKit
theorem Es (l:List au) (az:List RA): ∀ v∈(List.zipWith au.cells l az).flatten,v.oneCell'=true:=by
 induction l generalizing az with
 |nil=>intro v hv; simp at hv
 |cons x l ih=>
  cases az with
  |nil=>intro v hv; simp at hv
  |cons a az=>
   intro v hv
   rw [List.zipWith_cons_cons,List.flatten_cons,ku] at hv
   rcases hv with hv|hv
   ·simp [au.cells,du.cells] at hv
    rcases hv with rfl|rfl<;>rfl
   ·exact ih az v hv
theorem gZ {l:List au} {az:List RA} (h:az.length=l.length):(List.zipWith au.cells l az).length=l.length:=by simp [h]
theorem gn {l:List au} {bz:List RA}:(bp (aS au.owns l bz)).wr=true:=by
 show (aS au.owns l bz).all (·.wr)=true
 rw [fg]
 intro X hX
 obtain ⟨k,m,a,_,_,h⟩:=jF hX
 simp only [au.owns,bX] at h
 subst h; rfl
/-- what is known of new rows -/
def rr (l:List au) (bz:List RA):Prop:= ∀ (k:Nat) m (a:RA),l[k]? =some m→bz[k]? =some a→m.bx.length≤a.2
theorem Ji {l:List au} {bz:List RA} {i:Nat} {x:au} {nw:RA} (h:rr l bz) (hb:bz.length=i) (hx:l[i]? =some x) (hc:x.bx.length≤nw.2):rr l (bz++[nw]):=fun k m a hm ha=>by
 by_cases e:k<bz.length
 ·rw [List.getElem?_append_left e] at ha
  exact h k m a hm ha
 ·rw [List.getElem?_append_right om] at ha
  have hk:k-bz.length=0:=by
   rcases Nat.eq_zero_or_pos (k-bz.length) with A|A
   ·exact A
   ·rw [List.getElem?_eq_none (by simp; omega)] at ha; cases ha
  rw [hk] at ha
  simp at ha
  have:k=i:=by omega
  subst this
  rw [hx] at hm; cases hm
  subst ha; exact hc
theorem iY: ∀ (m:au) (a:RA) (w:World),(∀ X∈au.owns m a,X.holds w)→ ∀ X∈au.gW m a,X.holds w:=fun m a w h X hX=>by
 simp only [au.gW,bX] at hX
 subst hX
 have:=mZ (h _ (List.mem_singleton.2 rfl))
 simpa using this
theorem eE.Qc {l:bf} {az bz:List RA} (h:eE l az) (hb:bz.length=l.ai.length) (hc:rr l.ai bz):eE l bz:=⟨h.si,h.side,h.sh,hb,h.sf,fun k m a hm ha=>⟨hc k m a hm ha,by
 obtain ⟨A,B⟩: ∃ A,az[k]? =some A:=⟨az[k]'(by rw [h.nO]; exact (List.getElem?_eq_some_iff.1 hm).1),ff _⟩
 exact (h.QQ k m A hm B).2⟩⟩
section
variable {E:fh} {ops:Array Oper} {Q:c_} {rest:List Oper} {D:List Deferred} {L:List (Nat×Value)} {C:List av}
end
end
section
open Go.RowKit
def oh (m:aw) (a:RA):List av:=[own a.1 a.2 OJ 2 (m.cz.aj.map aO.cells)]
def gR (m:List aw) (a:cS):List av:=own a.1.1 a.1.2 CU 7 (List.zipWith aw.cells m a.2)::aS oh m a.2
theorem Qu: ∀ (m:aw) (a:RA) (w:World),(∀ X∈oh m a,X.holds w)→ ∀ X∈aw.gW m a,X.holds w:=fun m a w h X hX=>by
 simp only [aw.gW,bX] at hX
 subst hX
 have:=mZ (h _ (List.mem_singleton.2 rfl))
 simpa using this
theorem ql {m:List aw} {asl:List RA} (h:asl.length=m.length):(List.zipWith aw.cells m asl).length=m.length:=by simp [h]
theorem fw {m:List (List aw)} {asl:List cS} (h:asl.length=m.length):(List.zipWith cD m asl).length=m.length:=by simp [h]
theorem NI {m:List aw} {asl:List RA}:(aS oh m asl).all (·.wr)=true:=by
 rw [fg]
 intro X hX
 obtain ⟨k,d,a,_,_,h⟩:=jF hX
 simp only [oh,bX] at h
 subst h; rfl
theorem kl {m:List (List aw)} {asl:List cS}:(bp (aS gR m asl)).wr=true:=by
 show (aS gR m asl).all (·.wr)=true
 rw [fg]
 intro X hX
 obtain ⟨k,d,a,_,_,h⟩:=jF hX
 rcases List.mem_cons.1 h with rfl|h
 ·rfl
 ·exact List.all_eq_true.1 NI X h
theorem Ok (l:List aw) (az:List RA): ∀ v∈(List.zipWith aw.cells l az).flatten,v.oneCell'=true:=by
 induction l generalizing az with
 |nil=>intro v hv; simp at hv
 |cons x l ih=>
  cases az with
  |nil=>intro v hv; simp at hv
  |cons a az=>
   intro v hv
   rw [List.zipWith_cons_cons,List.flatten_cons,ku] at hv
   rcases hv with hv|hv
   ·simp [aw.cells,bw.cells,eK.cells,aa.cells] at hv
    rcases hv with rfl|rfl|rfl|rfl|rfl|rfl|rfl<;>rfl
   ·exact ih az v hv
theorem HS (l:List (List aw)) (az:List cS): ∀ v∈(List.zipWith cD l az).flatten,v.oneCell'=true:=by
 induction l generalizing az with
 |nil=>intro v hv; simp at hv
 |cons x l ih=>
  cases az with
  |nil=>intro v hv; simp at hv
  |cons a az=>
   intro v hv
   rw [List.zipWith_cons_cons,List.flatten_cons,ku] at hv
   rcases hv with hv|hv
   ·simp [cD] at hv; subst hv; rfl
   ·exact ih az v hv
/-- every heat has as many places as descents -/
def sH (H:List (List aw)) (hz:List cS):Prop:=hz.length=H.length∧ ∀ (k:Nat) h (a:cS),H[k]? =some h→hz[k]? =some a→a.2.length=h.length
theorem Nb {a:OA} {c e sz n:Nat} {es:List (List Value)} {w:World} (h:(own a c e sz es).holds w) (hn:es.length=n):(rd a n sz es).holds w:=by subst hn; exact mZ h
theorem hE {C:List av} {H:List (List aw)} {hz:List cS} (i:Nat) (hC:C[i]? =some (bp (aS gR H hz))) (hh:sH H hz):iq C (fc (aS im H hz)).holds:=fun w hw X hX=>by
 have hb:=hw _ (aV hC)
 obtain ⟨k,m,a,A,B,D⟩:=jF hX
 rcases List.mem_cons.1 D with rfl|D
 ·exact Nb (hb.1 _ (bT A B bZ)) (ql (hh.2 k m a A B))
 ·obtain ⟨q,d,b,E,F,G⟩:=jF D
  exact Qu d b w (fun Y hY=>hb.1 Y (bT A B (cW _ (bT E F hY)))) X G
section
variable {α:Type}
def km (bz az:List α) (i:Nat):List α:=bz++az.drop i
variable {bz az:List α} {i:Nat} {a b:α}
theorem iz (hb:bz.length=i) (hi:i≤az.length):(km bz az i).length=az.length:=by simp [km,hb]; omega
theorem wy (h:az.length≤i):km bz az i=bz:=by unfold km; rw [List.drop_eq_nil_of_le h,List.append_nil]
theorem Ak (hb:bz.length=i) (h:az[i]? =some a):(km bz az i)[i]? =some a:=by
 unfold km
 rw [List.getElem?_append_right om,hb,Nat.sub_self,List.getElem?_drop]
 simpa using h
theorem Ja (hb:bz.length=i):(km (bz++[b]) az (i+1))[i]? =some b:=by
 unfold km
 rw [List.getElem?_append_left (by simp; omega),List.getElem?_append_right om,hb,Nat.sub_self]; rfl
theorem Jm (hb:bz.length=i) (h:az[i]? =some a):(km bz az i).set i b=km (bz++[b]) az (i+1):=by
 unfold km
 have hi:=(List.getElem?_eq_some_iff.1 h).1
 rw [List.set_append_right _ _ om,hb,Nat.sub_self,List.drop_eq_getElem_cons hi,List.set_cons_zero]
 simp
theorem xh {M β:Type} {c:M→α→β} {l:List M} {x:M} (hx:l[i]? =some x) (hb:bz.length=i) (h:az[i]? =some a):(List.zipWith c l (km bz az i)).set i (c x b)=List.zipWith c l (km (bz++[b]) az (i+1)):=by
 rw [qA,Jm hb h]
 congr 1
 obtain ⟨hi,rfl⟩:=List.getElem?_eq_some_iff.1 hx
 exact List.set_getElem_self hi
theorem rH {M:Type} {f:M→α→List av} {l:List M} {x:M} (hx:l[i]? =some x) (hb:bz.length=i):aS f (l.take i) bz++f x b=aS f (l.take (i+1)) (bz++[b]):=by
 have hi:=(List.getElem?_eq_some_iff.1 hx).1
 rw [List.take_add_one,hx,Option.toList_some,jD (by rw [List.length_take,hb]; omega)]
 simp [aS]
end
theorem Bt: ∀ {l:List (List aw)} {u v:List cS},u.map (·.1)=v.map (·.1)→List.zipWith cD l u=List.zipWith cD l v
 |[],u,v,_=>by simp
 |x::l,[],[],_=>rfl
 |x::l,[],b::v,h=>by simp at h
 |x::l,a::u,[],h=>by simp at h
 |x::l,a::u,b::v,h=>by
  simp only [List.map_cons,List.cons.injEq] at h
  rw [List.zipWith_cons_cons,List.zipWith_cons_cons,Bt h.2]
  have e:cD x a=cD x b:=by simp only [cD,h.1]
  rw [e]
theorem K6 {l:List (List aw)} {hz ha:List cS} {p:RA} {x y:List RA} {i:Nat}:List.zipWith cD l (km (hz++[(p,x)]) ha i)=List.zipWith cD l (km (hz++[(p,y)]) ha i):=Bt (by simp [km])
theorem Ml {H:List (List aw)} {hz:List cS} {i:Nat} {x:List aw} {b:cS} (hx:H[i]? =some x) (h: ∀ (k:Nat) y (a:cS),H[k]? =some y→hz[k]? =some a→a.2.length=y.length) (hb:hz.length=i) (hl:b.2.length=x.length): ∀ (k:Nat) y (a:cS),H[k]? =some y→(hz++[b])[k]? =some a→a.2.length=y.length:=fun k y a hy ha=>by
 by_cases e:k<hz.length
 ·rw [List.getElem?_append_left e] at ha
  exact h k y a hy ha
 ·rw [List.getElem?_append_right om] at ha
  have hk:k-hz.length=0:=by
   rcases Nat.eq_zero_or_pos (k-hz.length) with A|A
   ·exact A
   ·rw [List.getElem?_eq_none (by simp; omega)] at ha; cases ha
  rw [hk] at ha
  simp at ha
  have:k=i:=by omega
  subst this
  rw [hx] at hy; cases hy
  subst ha; exact hl
theorem Fi {S:BS} {w0 w:World} {C:List av} {A:av} {Y Z:List av} (h:St S w0 (A::bp Y::bp Z::C) w):St S w0 (bp (Z++A::Y)::C) w:=by
 have D:St S w0 (bp Y::A::bp Z::C) w:=h.perm (List.Perm.swap _ _ _)
 have E:St S w0 (Y++(A::bp Z::C)) w:=D.ia
 have F:St S w0 (bp Z::(A::Y)++C) w:=E.perm (by
  have B:(Y++(A::bp Z::C)).Perm ((A::bp Z::C)++Y):=List.perm_append_comm
  refine B.trans ?_
  show (A::bp Z::(C++Y)).Perm (bp Z::A::(Y++C))
  exact (List.Perm.swap _ _ _).trans (((List.perm_append_comm (l₁:=C) (l₂:=Y)).cons A).cons _))
 have G:St S w0 (Z++((A::Y)++C)) w:=F.ia
 have H:St S w0 ((Z++A::Y)++C) w:=by simpa using G
 exact H.tied
theorem Gi {S:BS} {w0 w:World} {C:List av} {A:av} {Y Z:List av} (h:St S w0 (bp (A::Y++Z)::C) w):St S w0 (A::bp Y::bp Z::C) w:=by
 have D:St S w0 ((A::Y++Z)++C) w:=h.ia
 have E:St S w0 (Z++(A::(Y++C))) w:=D.perm (by
  show (A::(Y++Z)++C).Perm (Z++(A::(Y++C)))
  have B:(A::(Y++Z)++C).Perm (A::(Z++(Y++C))):=by
   show (A::((Y++Z)++C)).Perm _
   refine List.Perm.cons A ?_
   rw [← List.append_assoc]
   exact List.perm_append_comm.append_right C
  exact B.trans (List.perm_middle (a:=A) (l₁:=Z) (l₂:=Y++C)).symm)
 have F:=E.tied
 have G:St S w0 (Y++(A::bp Z::C)) w:=F.perm (by
  show (bp Z::A::(Y++C)).Perm (Y++(A::bp Z::C))
  have B:(Y++(A::bp Z::C)).Perm (A::bp Z::(Y++C)):=by
   have:=List.perm_append_comm (l₁:=Y) (l₂:=A::bp Z::C)
   refine this.trans ?_
   show (A::bp Z::(C++Y)).Perm _
   exact (List.perm_append_comm.cons _).cons _
  exact (B.trans (List.Perm.swap _ _ _)).symm)
 have H:=G.tied
 exact H.perm (List.Perm.swap _ _ _)
theorem wg {H:List (List aw)} {hz:List cS} {k:Nat} {h:List aw} {a:cS} (hh:H[k]? =some h) (ha:hz[k]? =some a):(aS gR H hz).Perm (own a.1.1 a.1.2 CU 7 (List.zipWith aw.cells h a.2)::aS oh h a.2++fD gR H hz k):=kF hh ha
theorem QJ {E:fh} {K:Act→World→Prop} {D:List Deferred} {L:List (Nat×Value)} {C:List av} {a:OA} {c e sz:Nat} {es:List (List Value)} (i:Nat) (hC:C[i]? =some (own a c e sz es)) (k:es.length≤c→KJ E K D L C):KJ E K D L C:=fun act w hf hs=>k (FY (hs.holds _ (aV hC))) act w hf hs
abbrev Oe (C:List av) (i j k:Nat):List Nat:=k::j::i::(List.range C.length).filter fun q=>q != i&&q != j&&q != k
section
variable {E:fh} {ops:Array Oper} {Q:c_} {rest:List Oper} {D:List Deferred} {L:List (Nat×Value)} {C C1:List av} {K:Act→World→Prop}
variable {H:List (List aw)} {hz:List cS} {h h':List aw} {a a':cS} {k:Nat} {X:av} {Y Z Z':List av}
/-- i: the others, j: what hangs on the row, q: the row -/
theorem P4 (i j q:Nat) (hn:decide (Oe C i j q).Nodup=true) (hC:oY C (Oe C i j q)=some (X::bp Y::bp Z::C1)) (e:Z++X::Y=Z') (hk:KJ E K D L (bp Z'::C1)):KJ E K D L C:=fun a w hf hs=>by
 subst e; exact hk a w hf (Fi (St.j_ _ hn (jv hC) hs))
theorem Qt {c:Code} (i:Nat) (hh:H[k]? =some h) (ha:hz[k]? =some a) (hn:decide (GM C i).Nodup=true) (hC:oY C (GM C i)=some (bp (aS gR H hz)::C1))
 (hk:WJ E c Q D L (own a.1.1 a.1.2 CU 7 (List.zipWith aw.cells h a.2)::bp (aS oh h a.2)::bp (fD gR H hz k)::C1)):WJ E c Q D L C:=fun act w hf hs=>
 hk act w hf (Gi (kI (wg hh ha) (St.j_ _ hn (jv hC) hs)))
theorem I2 {S:BS} {w0 w:World} (hk:k<H.length) (hk2:k<hz.length) (hs:St S w0 (own a'.1.1 a'.1.2 CU 7 (List.zipWith aw.cells h' a'.2)::bp (aS oh h' a'.2)::bp (fD gR H hz k)::C) w):St S w0 (bp (aS gR (H.set k h') (hz.set k a'))::C) w:=by
 have B:=Fi hs
 refine kI ?_ B
 have A:=wg (H:=H.set k h') (hz:=hz.set k a') (List.getElem?_set_self hk) (List.getElem?_set_self hk2)
 rw [rY] at A
 exact (List.perm_append_comm).trans A.symm
end
theorem GU {H:List (List aw)} {hz:List cS} {k:Nat} {h h':List aw} {a:cS} {bs:List RA} (hh:H[k]? =some h) (ha:hz[k]? =some a) (hl:h'.length=h.length):List.zipWith cD (H.set k h') (hz.set k (a.1,bs))=List.zipWith cD H hz:=by
 rw [← qA]
 have e:cD h' (a.1,bs)=cD h a:=by simp only [cD,hl]
 rw [e]
 have hz':=dB (f:=cD) hh ha
 obtain ⟨hi,A⟩:=List.getElem?_eq_some_iff.1 hz'
 rw [← A]
 exact List.set_getElem_self hi
theorem Og {S:BS} {w0 w:World} {C:List av} {h:List aw} {bs:List RA} {i:Nat} {d:aw} {b:RA} {d':aw} (hd:h[i]? =some d) (hb:bs[i]? =some b) (hs':d'.cz.aj=[]) (hs:St S w0 (bp (aS oh h bs)::C) w):St S w0 (bp (aS oh (h.set i d') (bs.set i (none,0)))::C) w:=by
 have A:=(kI (kF hd hb) hs).ia
 have B:St S w0 (fD oh h bs i++C) w:=St.take (by simpa using A) (List.sublist_append_right (oh d b) (fD oh h bs i++C))
 have D:=B.qV OJ 2
 have E:St S w0 ((oh d' (none,0)++fD oh (h.set i d') (bs.set i (none,0)) i)++C) w:=by
  rw [rY]
  simpa [oh,hs'] using D
 exact kI (kF (List.getElem?_set_self (List.getElem?_eq_some_iff.1 hd).1) (List.getElem?_set_self (List.getElem?_eq_some_iff.1 hb).1)).symm E.tied
theorem fy.Qc {r:cd} {az bz:List RA} {ha hz:List cS} (h:fy r az ha) (hb:bz.length=r.ah.ai.length) (hc:rr r.ah.ai bz) (hh:sH r.aq hz):fy r bz hz:=⟨h.line.Qc hb hc,h.iR,h.draw,h.iP,hh.1,fun k x a hx ha'=>by
 obtain ⟨A,C⟩: ∃ A,ha[k]? =some A:=⟨ha[k]'(by rw [h.has]; exact (List.getElem?_eq_some_iff.1 hx).1),ff _⟩
 have B:=h.nu k x A hx C
 exact ⟨B.len,hh.2 k x a hx ha',B.sig⟩⟩
end
section
open Go.RowKit
def ks (t:aa):aw:=⟨false,true,t,⟨0,0,[]⟩⟩
def dF (H:List (List aw)) (h i:Int) (t:aa):List (List aw):=H.set h.toNat ((H[h.toNat]?.getD []).set i.toNat (ks t))
def ju (r:cd) (h i:Int) (t:aa):cd:=⟨r.ah,r.aI,r.bD,r.dZ,dF r.aq h i t⟩
@[simp] theorem QS {r:cd} {h i:Int} {t:aa}:(ju r h i t).ah=r.ah:=rfl
@[simp] theorem Pk {r:cd} {h i:Int} {t:aa}:(ju r h i t).aI=r.aI:=rfl
@[simp] theorem QT {r:cd} {h i:Int} {t:aa}:(ju r h i t).bD=r.bD:=rfl
theorem xB {m:g3} {i:Int} {s:aa}:(dI m i s).length≤m.length:=by
 unfold dI
 refine Nat.le_trans (List.length_filter_le _ _) ?_
 rw [List.length_map,List.length_range]; exact Nat.le_refl _
noncomputable def qd (r:cd) (h i:Int) (t:aa):Int:=if ((0≤h∧h≤(r.aq.length:Int)-1)∧re r i)∧iI t then (if ((r.aq[h.toNat]?).bind (·[i.toNat]?)).any (·.Out)=true then 8 else 0) else 2
noncomputable def dK (r:cd) (h i:Int) (t:aa):Int:=if bY r=0 then qd r h i t else bY r
noncomputable def cx (r:cd) (h i:Int) (t:aa):List Int:=if dK r h i t=0 then (dk ((aG r).map (·.1))).filter (fun k=> !decide (dI (aG r) k (aD (aG r) k)=dI (aG (ju r h i t)) k (aD (aG (ju r h i t)) k))) else []
section
variable {r:cd} {h i:Int} {t:aa} {ht:List aw} {d:aw}
theorem vV {H:List (List aw)} (hh:H[h.toNat]? =some ht):dF H h i t=H.set h.toNat (ht.set i.toNat (ks t)):=by unfold dF; rw [hh]; rfl
theorem iW {H:List (List aw)}:(dF H h i t).length=H.length:=by unfold dF; rw [List.length_set]
theorem lX (q: ¬ (((0≤h∧h≤(r.aq.length:Int)-1)∧0≤i∧i≤(r.aI.length:Int)-1)∧iI t)):qd r h i t=2:=if_neg q
theorem E6 (q:((0≤h∧h≤(r.aq.length:Int)-1)∧0≤i∧i≤(r.aI.length:Int)-1)∧iI t) (h1:r.aq[h.toNat]? =some ht) (h2:ht[i.toNat]? =some d):qd r h i t=if d.Out=true then 8 else 0:=by
 unfold qd
 rw [if_pos (show ((0≤h∧h≤(r.aq.length:Int)-1)∧re r i)∧iI t from q),h1,Option.bind_some,h2,Option.any_some]
theorem sv (q:((0≤h∧h≤(r.aq.length:Int)-1)∧0≤i∧i≤(r.aI.length:Int)-1)∧iI t) (h1:r.aq[h.toNat]? =some ht) (h2:ht[i.toNat]? =some d) (ho:d.Out=true):qd r h i t=8:=by rw [E6 q h1 h2,if_pos ho]
theorem Oi (q:((0≤h∧h≤(r.aq.length:Int)-1)∧0≤i∧i≤(r.aI.length:Int)-1)∧iI t) (h1:r.aq[h.toNat]? =some ht) (h2:ht[i.toNat]? =some d) (ho:d.Out=false):qd r h i t=0:=by rw [E6 q h1 h2,if_neg (by rw [ho]; decide)]
/-- what it means that there is no error -/
theorem yE (e:qd r h i t=0):((0≤h∧h≤(r.aq.length:Int)-1)∧re r i)∧iI t∧((r.aq[h.toNat]?).bind (·[i.toNat]?)).any (·.Out)=false:=by
 unfold qd at e
 split at e
 ·rename_i q
  split at e
  ·cases e
  ·rename_i A; exact ⟨q.1,q.2,by simpa using A⟩
 ·cases e
theorem CN (e:dK r h i t=0):bY r=0∧qd r h i t=0:=by
 unfold dK at e
 split at e
 ·exact ⟨asm,e⟩
 ·exact absurd e asm
theorem rT (e: ¬ bY r=0):dK r h i t=bY r:=if_neg e
theorem oz (e:bY r=0):dK r h i t=qd r h i t:=if_pos e
theorem Bn {H:List (List aw)} {k:Nat} {y:List aw} (hy:(dF H h i t)[k]? =some y): ∃ x,H[k]? =some x∧y.length=x.length∧ ∀ d∈y,d∈x∨d=ks t:=by
 unfold dF at hy
 rw [List.getElem?_set] at hy
 split at hy
 ·rename_i e
  split at hy
  ·rename_i hl
   have A:H[h.toNat]? =some H[h.toNat]:=ff hl
   rw [A] at hy
   simp only [Option.getD_some,Option.some.injEq] at hy
   subst hy
   refine ⟨H[h.toNat],by rw [← e]; exact A,by rw [List.length_set],fun d hd=>?_⟩
   exact List.mem_or_eq_of_mem_set hd
  ·cases hy
 ·exact ⟨y,hy,U,fun d hd=> .inl hd⟩
theorem DS (hr:eZ r) (ht:iI t):eZ (ju r h i t):=⟨hr.num,hr.v8,by
 have:=hr.nh
 show 1≤((dF r.aq h i t).length:Int)∧((dF r.aq h i t).length:Int)≤3
 rw [iW]; exact this,hr.ids,hr.draw,fun y hy=>by
 obtain ⟨k,hk⟩:=List.mem_iff_getElem?.1 hy
 obtain ⟨x,hx,hl,hm⟩:=Bn hk
 have A:=hr.nu x (aV hx)
 refine ⟨hl.trans A.1,fun d hd=>?_⟩
 rcases hm d hd with q|rfl
 ·exact A.2 d q
 ·unfold ic
  rw [if_neg (by simp [ks]),if_pos (by rfl)]
  exact ⟨ht,by simp [l9,ks]⟩⟩
theorem yA (e:dK r h i t=0):bY (ju r h i t)=0:=by
 obtain ⟨A,B⟩:=CN e
 obtain ⟨C,D⟩:=iF A
 unfold bY
 rw [if_pos (show dx (ju r h i t).ah=0 from C),if_pos (DS D (yE B).2.1)]
theorem fy.rep {az bz:List RA} {ha hz:List cS} (hin:fy r az ha) (hb:bz.length=r.ah.ai.length) (hc:rr r.ah.ai bz) (hh:sH (dF r.aq h i t) hz):fy (ju r h i t) bz hz:=⟨hin.line.Qc hb hc,hin.iR,hin.draw,by
 show (dF r.aq h i t).length≤1000000
 rw [iW]; exact hin.iP,hh.1,fun k y a hy ha'=>by
 obtain ⟨x,hx,hl,hm⟩:=Bn hy
 obtain ⟨b,hb⟩: ∃ b,ha[k]? =some b:=⟨ha[k]'(by rw [hin.has]; exact (List.getElem?_eq_some_iff.1 hx).1),ff _⟩
 have A:=hin.nu k x b hx hb
 refine ⟨by rw [hl]; exact A.len,hh.2 k y a hy ha',fun d hd=>?_⟩
 rcases hm d hd with q|rfl
 ·exact A.sig d q
 ·simp [ks]⟩
theorem Jt {H:List (List aw)} {k q:Nat}:((dF H h i t)[k]?).bind (·[q]?)=(H[k]?).bind (·[q]?)∨(k=h.toNat∧q=i.toNat∧(∃ d,(H[k]?).bind (·[q]?)=some d)∧((dF H h i t)[k]?).bind (·[q]?)=some (ks t)):=by
 by_cases e:h.toNat=k
 ·cases hk:H[k]? with
  |none=>
   left
   have:(dF H h i t)[k]? =none:=by rw [List.getElem?_eq_none_iff,iW]; exact List.getElem?_eq_none_iff.1 hk
   rw [this]
  |some x=>
   have B:(dF H h i t)[k]? =some (x.set i.toNat (ks t)):=by
    subst e
    rw [vV hk]
    exact List.getElem?_set_self (List.getElem?_eq_some_iff.1 hk).1
   rw [B,Option.bind_some,Option.bind_some]
   by_cases A:i.toNat=q
   ·cases hq:x[q]? with
    |none=>
     left
     rw [List.getElem?_eq_none_iff,List.length_set]; exact List.getElem?_eq_none_iff.1 hq
    |some d=>
     right
     subst A
     exact ⟨e.symm,U,⟨d,U⟩,List.getElem?_set_self (List.getElem?_eq_some_iff.1 hq).1⟩
   ·left; rw [List.getElem?_set_ne A]
 ·left
  unfold dF
  rw [List.getElem?_set_ne e]
theorem zo {l:bf} {H:List (List aw)} {q:Nat} (ho:((H[h.toNat]?).bind (·[i.toNat]?)).any (·.Out)=false): ∀ n,(eP l (dF H h i t) q n).isSome=(eP l H q n).isSome
 |0=>rfl
 |n+1=>by
  have ih:=zo (l:=l) (q:=q) ho n
  unfold eP
  rcases Jt (H:=H) (h:=h) (i:=i) (t:=t) (k:=n) (q:=q) with e|⟨rfl,rfl,⟨d,hd⟩,e⟩
  ·rw [e]
   cases e1:eP l (dF H h i t) q n<;>cases e2:eP l H q n<;>simp_all
   cases (H[n]?).bind (·[q]?) with
   |none=>rfl
   |some d=>by_cases c:d.Out=true<;>simp [c]
  ·rw [e,hd]
   have A:d.Out=false:=by rw [hd] at ho; simpa using ho
   cases e1:eP l (dF H h i t) i.toNat h.toNat<;>cases e2:eP l H i.toNat h.toNat<;>simp_all [ks]
theorem Ow {r:cd} {k:Nat} {x:Int}:(eL r k).lookup x=if 0≤x∧x<(r.aI.length:Int) then eP r.ah r.aq x.toNat k else none:=by
 by_cases c:0≤x∧x<(r.aI.length:Int)
 ·rw [if_pos c]
  have:=oH (f:=fun q=>eP r.ah r.aq q k) r.aI.length x.toNat
  rw [if_pos om,show (x.toNat:Int)=x by omega] at this
  exact this
 ·rw [if_neg c]
  cases e:(eL r k).lookup x with
  |none=>rfl
  |some v=>
   exfalso
   obtain ⟨q,hq,A,_⟩:=tI ((x4 pg).2 e)
   simp only at A
   omega
theorem H8 (e:qd r h i t=0) (k:Int):((aG (ju r h i t)).lookup k).isSome=((aG r).lookup k).isSome:=by
 obtain ⟨_,_,ho⟩:=yE e
 unfold aG
 rw [Ow,Ow]
 show (if 0≤k∧k<(r.aI.length:Int) then eP r.ah (dF r.aq h i t) k.toNat (dF r.aq h i t).length else none).isSome=_
 rw [iW]
 split
 ·exact zo ho _
 ·rfl
theorem Cq {m:g3} {k:Int} (h:k∈dk (m.map (·.1))):m.lookup k≠none:=by
 obtain ⟨p,hp,rfl⟩:=List.mem_map.1 (fG.mem_iff.1 h)
 intro e
 exact absurd (List.lookup_eq_none_iff.1 e p hp) sm
theorem PW {hz:List cS} {hza:cS} (hh:sH r.aq hz) (h1:r.aq[h.toNat]? =some ht) (h2:hz[h.toNat]? =some hza):sH (dF r.aq h i t) (hz.set h.toNat (hza.1,hza.2.set i.toNat (none,0))):=by
 refine ⟨by rw [List.length_set,iW]; exact hh.1,fun k y a hy ha=>?_⟩
 rw [vV h1] at hy
 rw [List.getElem?_set] at hy ha
 by_cases e:h.toNat=k
 ·rw [if_pos e,if_pos (List.getElem?_eq_some_iff.1 h1).1] at hy
  rw [if_pos e,if_pos (List.getElem?_eq_some_iff.1 h2).1] at ha
  cases hy; cases ha
  simp only [List.length_set]
  exact hh.2 _ _ _ h1 h2
 ·rw [if_neg e] at hy ha
  exact hh.2 k y a hy ha
theorem xO (e: ¬ dK r h i t=0):cx r h i t=[]:=if_neg e
theorem DM (e:dK r h i t=0):cx r h i t=(dk ((aG r).map (·.1))).filter (fun k=> !decide (dI (aG r) k (aD (aG r) k)=dI (aG (ju r h i t)) k (aD (aG (ju r h i t)) k))):=if_pos e
end
section
variable {E:fh} {Q:c_} {D:List Deferred} {L:List (Nat×Value)} {C C1:List av} {c:Code}
variable {H:List (List aw)} {hz:List cS} {h h':List aw} {a a':cS} {k:Nat} {bs:List RA} {i:Nat} {d d':aw} {b:RA}
theorem P1 (j:Nat) (hd:h[i]? =some d) (hb:bs[i]? =some b) (hs':d'.cz.aj=[]) (hn:decide (GM C j).Nodup=true) (hC:oY C (GM C j)=some (bp (aS oh h bs)::C1))
 (hk:WJ E c Q D L (bp (aS oh (h.set i d') (bs.set i (none,0)))::C1)):WJ E c Q D L C:=fun act w hf hs=>hk act w hf (Og hd hb hs' (St.j_ _ hn (jv hC) hs))
theorem NM (i j q:Nat) (hk:k<H.length) (hk2:k<hz.length) (hn:decide (Oe C i j q).Nodup=true) (hC:oY C (Oe C i j q)=some (own a'.1.1 a'.1.2 CU 7 (List.zipWith aw.cells h' a'.2)::bp (aS oh h' a'.2)::bp (fD gR H hz k)::C1))
 (hr:WJ E c Q D L (bp (aS gR (H.set k h') (hz.set k a'))::C1)):WJ E c Q D L C:=fun act w hf hs=>hr act w hf (I2 hk hk2 (St.j_ _ hn (jv hC) hs))
end
end
section
set_option maxRecDepth 20000
def Cr (x y:Int):aw:=ks ⟨x,y⟩
def ab:cd:=⟨mC,[4,7,9],[2,0,1],2,[[⟨false,false,dA,mu⟩,Cr 2600 2600,Cr 2580 2609],[Cr 2555 2559,Cr 2540 2549,Cr 2570 2575]]⟩
theorem AB {l:bf} {x y:Int} (h:iI ⟨x,y⟩):ic l (Cr x y):=by rw [sQ ⟨rfl,rfl⟩]; exact ⟨h,rfl,rfl,rfl⟩
theorem Pz:eZ ab:=by
 refine ⟨dc,dc,dc,fun i x hx=>?_,dc,fun h hh=>?_⟩
 ·match i with
  |0=>simp [ab] at hx; subst hx; exact ⟨dc,fun y h=>absurd h dc⟩
  |1=>simp [ab] at hx; subst hx; exact ⟨dc,fun y _ h=>by simp [ab] at h; omega⟩
  |2=>simp [ab] at hx; subst hx; exact ⟨dc,fun y _ h=>by simp [ab] at h; omega⟩
  |n+3=>simp [ab] at hx
 ·simp only [ab,ew,List.not_mem_nil,or_false] at hh
  rcases hh with rfl|rfl
  ·refine ⟨U,fun d hd=>?_⟩
   simp only [ew,List.not_mem_nil,or_false] at hd
   rcases hd with rfl|rfl|rfl
   ·rw [sK ⟨rfl,rfl⟩]; exact ⟨EB.1,rfl⟩
   ·exact AB dc
   ·exact AB dc
  ·refine ⟨U,fun d hd=>?_⟩
   simp only [ew,List.not_mem_nil,or_false] at hd
   rcases hd with rfl|rfl|rfl<;>exact AB dc
theorem qi:bY ab=0:=by unfold bY; rw [if_pos (show dx ab.ah=0 from OW),if_pos Pz]
theorem O7:fR ab 0 0=0∧df ab 0 0=⟨2596,2602⟩:=by
 have h:fR ab 0 0=0:=by unfold fR; rw [if_pos qi]; decide
 refine ⟨h,?_⟩
 unfold df
 rw [if_pos h]
 show dw mC ⟨false,false,dA,mu⟩=_
 rw [vO ⟨rfl,rfl⟩]; exact EB.2
/-- the sums of a race of three sleds and two heats, all of which run -/
theorem Jo {l:bf} {ids dr:List Int} {t:Int} {H:List (List aw)} {a b c d e f:aw} (hH:H=[[a,b,c],[d,e,f]]) (hi:ids.length=3) (hoa: ∀ x∈[a,b,c,d,e,f],x.Out=false):
 aG ⟨l,ids,dr,t,H⟩=[(0,⟨(dw l a).Lo/10+(dw l d).Lo/10,(dw l a).Hi/10+(dw l d).Hi/10⟩),(1,⟨(dw l b).Lo/10+(dw l e).Lo/10,(dw l b).Hi/10+(dw l e).Hi/10⟩),(2,⟨(dw l c).Lo/10+(dw l f).Lo/10,(dw l c).Hi/10+(dw l f).Hi/10⟩)]∧
 eL ⟨l,ids,dr,t,H⟩ 1=[(0,⟨(dw l a).Lo/10,(dw l a).Hi/10⟩),(1,⟨(dw l b).Lo/10,(dw l b).Hi/10⟩),(2,⟨(dw l c).Lo/10,(dw l c).Hi/10⟩)]:=by
 subst hH
 simp only [ew,List.not_mem_nil,or_false,forall_eq_or_imp,forall_eq] at hoa
 obtain ⟨A,B,C,D,E,F⟩:=hoa
 simp [aG,eL,hi,List.range_succ,eP,A,B,C,D,E,F]
def NH:g3:=[(0,⟨514,515⟩),(1,⟨514,514⟩),(2,⟨515,517⟩)]
def N4:g3:=[(0,⟨514,515⟩),(1,⟨514,514⟩),(2,⟨516,516⟩)]
def Sl:g3:=[(0,⟨259,260⟩),(1,⟨260,260⟩),(2,⟨258,260⟩)]
theorem zD:dw mC ⟨false,false,dA,mu⟩=⟨2596,2602⟩:=by rw [vO ⟨rfl,rfl⟩]; exact EB.2
theorem pI {l:bf} {x y:Int}:dw l (Cr x y)=⟨x,y⟩:=AH ⟨rfl,rfl⟩
theorem u3:aG ab=NH∧eL ab 1=Sl:=by
 obtain ⟨A,B⟩:=Jo (l:=mC) (ids:=[4,7,9]) (dr:=[2,0,1]) (t:=2) (H:=ab.aq) rfl rfl dc
 refine ⟨A.trans ?_,B.trans ?_⟩
 ·rw [zD,pI,pI,pI,pI,pI]; rfl
 ·rw [zD,pI,pI]; rfl
def eY:cd:=ju ab 0 2 ⟨2590,2599⟩
theorem Bd:dK ab 0 2 ⟨2590,2599⟩=0:=by unfold dK; rw [if_pos qi]; unfold qd; decide
theorem xj:bY eY=0:=yA Bd
theorem KZ:aG eY=N4:=by
 obtain ⟨A,B⟩:=Jo (l:=mC) (ids:=[4,7,9]) (dr:=[2,0,1]) (t:=2) (H:=eY.aq) (a:=⟨false,false,dA,mu⟩) (b:=Cr 2600 2600) (c:=Cr 2590 2599) (d:=Cr 2555 2559) (e:=Cr 2540 2549) (f:=Cr 2570 2575) rfl rfl dc
 refine A.trans ?_
 rw [zD,pI,pI,pI,pI,pI]; rfl
/-- ranks, as they can be reckoned -/
def Dj (m:g3) (i:Int) (own:aa):List Int:=((List.range m.length).map fun (k:Nat)=>(k:Int)+1).filter fun k=>(jB m i own).any fun n=>decide ((iL m i n:Int)+1≤k∧k≤(kO m i n:Int)+1)
theorem Fu {m:g3} {i:Int} {own:aa}:dI m i own=Dj m i own:=by
 unfold dI Dj
 congr 1
 funext k
 rw [Bool.eq_iff_iff,decide_eq_true_eq,List.any_eq_true]
 simp only [decide_eq_true_eq,rK]
theorem zZ {r:cd} {m:g3} {i:Int} {s:aa} (he:bY r=0) (hm:aG r=m) (hi:re r i) (hl:m.lookup i=some s):jX r i=0∧qC r i=s∧ig r i=Dj m i s:=by
 have h:jX r i=0:=by unfold jX; rw [if_pos he,if_pos hi,hm,hl]; rfl
 refine ⟨h,?_,?_⟩
 ·unfold qC aD; rw [if_pos h,hm,hl]; rfl
 ·unfold ig aD; rw [if_pos h,hm,hl,Fu]; rfl
theorem Fv {r:cd} {m:g3} {a b:Int} {s t:aa} (he:bY r=0) (hm:aG r=m) (hi:re r a∧re r b∧a≠b) (hs:m.lookup a=some s) (ht:m.lookup b=some t):l_ r a b=0∧ph r a b=ue s t∧lk r a b=mW s t:=by
 have h:l_ r a b=0:=by unfold l_; rw [if_pos he,if_pos hi,hm,hs,ht]; simp
 refine ⟨h,?_,?_⟩
 ·unfold ph aD; rw [if_pos h,hm,hs,ht]; rfl
 ·unfold lk aD; rw [if_pos h,hm,hs,ht]; rfl
theorem lZ:jX ab 0=0∧qC ab 0=⟨514,515⟩∧ig ab 0=[1,2]:=by have h:=zZ (i:=0) (s:=⟨514,515⟩) qi u3.1 dc rfl; exact ⟨h.1,h.2.1,h.2.2.trans dc⟩
theorem AW:jX ab 2=0∧qC ab 2=⟨515,517⟩∧ig ab 2=[2,3]:=by have h:=zZ (i:=2) (s:=⟨515,517⟩) qi u3.1 dc rfl; exact ⟨h.1,h.2.1,h.2.2.trans dc⟩
theorem Lc:jX eY 2=0∧qC eY 2=⟨516,516⟩:=by have h:=zZ (i:=2) (s:=⟨516,516⟩) xj KZ dc rfl; exact ⟨h.1,h.2.1⟩
theorem zK:l_ ab 1 2=0∧ph ab 1 2=2∧lk ab 1 2=0:=by have h:=Fv (a:=1) (b:=2) (s:=⟨514,514⟩) (t:=⟨515,517⟩) qi u3.1 dc rfl rfl; exact ⟨h.1,h.2.1.trans dc,h.2.2.trans dc⟩
theorem zP:l_ ab 0 1=0∧ph ab 0 1=0∧lk ab 0 1=1:=by have h:=Fv (a:=0) (b:=1) (s:=⟨514,515⟩) (t:=⟨514,514⟩) qi u3.1 dc rfl rfl; exact ⟨h.1,h.2.1.trans dc,h.2.2.trans dc⟩
theorem KL:iH ab 1=0∧gX ab 1=[0,2,1]:=by
 have h:iH ab 1=0:=by unfold iH; rw [if_pos qi]; decide
 refine ⟨h,?_⟩
 unfold gX
 rw [if_pos h,if_neg dc]
 unfold uf
 rw [show eL ab (1:Int).toNat=Sl from u3.2]
 decide
theorem KI:iH ab 2=0∧gX ab 2=[0,1,2]:=by
 have h:iH ab 2=0:=by unfold iH; rw [if_pos qi]; decide
 refine ⟨h,?_⟩
 unfold gX
 rw [if_pos h,if_neg dc]
 unfold uf
 rw [show eL ab (2:Int).toNat=NH from u3.1]
 decide
theorem Ng:bH ab=[[0,1,2]]:=by
 refine (sV qi ?_ ?_).symm
 ·rw [u3.1]
  refine ⟨dc,dc,sm,fun g hg t A B=>?_⟩
  rw [List.mem_singleton.1 hg] at A B ⊢
  simp [NH,aD,List.lookup] at A B ⊢
  omega
 ·intro g hg; rw [List.mem_singleton.1 hg]; decide
theorem Jx:bH eY=[[0,1],[2]]:=by
 refine (sV xj ?_ ?_).symm
 ·rw [KZ]
  refine ⟨dc,dc,?_,fun g hg t A B=>?_⟩
  ·simp [Km,N4,aD,List.lookup]
  ·simp only [ew,List.not_mem_nil,or_false] at hg
   rcases hg with rfl|rfl<;>(simp [N4,aD,List.lookup] at A B ⊢; omega)
 ·intro g hg; simp only [ew,List.not_mem_nil,or_false] at hg; rcases hg with rfl|rfl<;>decide
theorem Nt:cx ab 0 2 ⟨2590,2599⟩=[2]:=by
 unfold cx
 rw [if_pos Bd,u3.1,show aG (ju ab 0 2 ⟨2590,2599⟩)=N4 from KZ]
 simp only [Fu]
 rw [show dk (NH.map (·.1))=[0,1,2] from uN (n:=3) dc]
 decide
end
section
open Go.RowKit
section
variable {E:fh} {ops:Array Oper} {Q:c_} {rest:List Oper} {D:List Deferred} {L:List (Nat×Value)} {C C1:List av}
theorem vZ (X:List av) (ix:List Nat) (hn:decide ix.Nodup=true) (hC:oY C ix=some (X++C1)) (h:RJ E ops Q rest D L (bp X::C1)):RJ E ops Q rest D L C:=fun a w hf hs=>h a w hf (St.tied (St.j_ _ hn (jv hC) hs))
end
theorem p_ {E:fh} {ops:Array Oper} {Q:c_} {rest:List Oper} {D:List Deferred} {L:List (Nat×Value)} {C C1:List av} (ix:List Nat) (hn:decide ix.Nodup=true) (hC:oY C ix=some C1) (h:RJ E ops Q rest D L C1):RJ E ops Q rest D L C:=fun a w hf hs=>h a w hf (St.j_ _ hn (jv hC) hs)
theorem oJ {M A B:Type} {f:M→A→List B} {n:Nat} (h: ∀ m a,(f m a).length=n): ∀ {ms:List M} {asl:List A},∀ x∈List.zipWith f ms asl,x.length=n
 |[],asl,x,hx=>by simp at hx
 |m::ms,[],x,hx=>by simp at hx
 |m::ms,a::asl,x,hx=>by
  rw [List.zipWith_cons_cons] at hx
  rcases List.mem_cons.1 hx with rfl|hx
  ·exact h m a
  ·exact oJ h x hx
theorem Fb (m:aw) (a:RA):(aw.cells m a).length=7:=rfl
theorem Ie (m:List aw) (a:cS):(cD m a).length=1:=rfl
theorem I0 (m:List Int) (a:RA):(j5 m a).length=1:=rfl
def Ro:List aw:=[⟨false,false,dA,mu⟩,Cr 2600 2600,Cr 2580 2609]
def Sn:List aw:=[Cr 2555 2559,Cr 2540 2549,Cr 2570 2575]
theorem KE {p q s t u v x y:RA}:sH ab.aq [(p,[s,t,u]),(q,[v,x,y])]:=⟨rfl,fun k h a hk ha=>by
 match k with
 |0=>simp [ab] at hk ha; subst hk; subst ha; rfl
 |1=>simp [ab] at hk ha; subst hk; subst ha; rfl
 |n+2=>simp at ha⟩
theorem PZ {bz:List RA} {hz:List cS} (h:eE mC bz) (hh:sH ab.aq hz):fy ab bz hz:=⟨h,dc,dc,dc,hh.1,fun k x a hx ha=>by
 have hm:=aV hx
 have hs:=hh.2 k x a hx ha
 simp only [ab,ew,List.not_mem_nil,or_false] at hm
 rcases hm with rfl|rfl
 ·exact ⟨dc,hs,dc⟩
 ·exact ⟨dc,hs,dc⟩⟩
end
section
open Go.RowKit
def pG (b:Bool):List Value:=[.bool b]
@[simp] theorem Ay (b:Bool):(pG b).length=1:=rfl
theorem Gg (l:List Bool): ∀ v∈(l.map pG).flatten,v.oneCell'=true:=l7 (fun s=>rfl) l
end
section
def lF (r:cd) (i:Nat):Prop:= ∀ (j:Nat) x,j<i→r.aq[j]? =some x→ ¬ ox x
def mN (x:List aw) (i:Nat):Prop:= ∀ (j:Nat) d,j<i→x[j]? =some d→ ¬ 15<(d.cz.aj.length:Int)
section
variable {r:cd} {i:Nat} {x:List aw} {d:aw}
theorem Cv:lF r 0:=fun j x hj=>absurd hj (Nat.not_lt_zero _)
theorem BL (h:lF r i) (hx:r.aq[i]? =some x) (ho: ¬ ox x):lF r (i+1):=fun j y hj hy=>by
 rcases Nat.lt_or_ge j i with q|q
 ·exact h j y q hy
 ·obtain rfl:j=i:=by omega
  rw [hx] at hy; cases hy; exact ho
theorem CA:mN x 0:=fun j x hj=>absurd hj (Nat.not_lt_zero _)
theorem B_ (h:mN x i) (hx:x[i]? =some d) (ho: ¬ 15<(d.cz.aj.length:Int)):mN x (i+1):=fun j y hj hy=>by
 rcases Nat.lt_or_ge j i with q|q
 ·exact h j y q hy
 ·obtain rfl:j=i:=by omega
  rw [hx] at hy; cases hy; exact ho
theorem DQ (hl: ¬ 8<(x.length:Int)) (h:mN x i) (hi:x.length≤i): ¬ ox x:=by
 rintro (q|⟨d,hd,q⟩)
 ·exact hl q
 ·obtain ⟨j,hj⟩:=List.getElem?_of_mem hd
  exact h j d (by have:=(List.getElem?_eq_some_iff.1 hj).1; omega) hj q
theorem GN (h1: ¬ mq r.ah) (h2: ¬ 8<(r.aI.length:Int)∧ ¬ 8<(r.bD.length:Int)∧ ¬ 5<(r.aq.length:Int)) (h:lF r i) (hi:r.aq.length≤i): ¬ oo r:=by
 rintro ((q|q)|⟨x,hx,q⟩)
 ·exact h1 q
 ·omega
 ·obtain ⟨j,hj⟩:=List.getElem?_of_mem hx
  exact h j x (by have:=(List.getElem?_eq_some_iff.1 hj).1; omega) hj q
theorem pA (h:mq r.ah∨8<(r.aI.length:Int)∨8<(r.bD.length:Int)∨5<(r.aq.length:Int)):oo r:= .inl h
theorem Cj (hx:r.aq[i]? =some x) (h:8<(x.length:Int)):oo r:= .inr ⟨x,aV hx,.inl h⟩
theorem DG {j:Nat} (hx:r.aq[i]? =some x) (hd:x[j]? =some d) (h:15<(d.cz.aj.length:Int)):oo r:= .inr ⟨x,aV hx,.inr ⟨d,aV hd,h⟩⟩
end
noncomputable def oT (l:bf) (d:aw):aa:=if d.Out=true then dA else dw l d
theorem Jq {l:bf} {d:aw} (h:ic l d):oT l d=dw l d:=by
 unfold oT
 split
 ·rename_i q
  rw [FD q]
  rw [pW q] at h
  exact h.2.1.symm
 ·rfl
theorem Au {l:bf} {d:aw} (h:d.Out=true):oT l d=dA:=if_pos h
theorem FZ {l:bf} {d:aw} (h:d.Out=false∧d.eO=true):oT l d=d.Time:=by unfold oT; rw [if_neg (by rw [h.1]; decide),AH h]
theorem F3 {l:bf} {d:aw} (h:d.Out=false∧d.eO=false):oT l d=Aw l d.cz:=by unfold oT; rw [if_neg (by rw [h.1]; decide),vO h]
def S5 (r:cd) (j:Nat):Prop:= ∀ x,r.aI[j]? =some x→(0≤x∧x≤9999)∧ ∀ y,0<j→r.aI[j-1]? =some y→y<x
def H7 (r:cd) (j:Nat):Prop:= ∀ x,r.bD[j]? =some x→(0≤x∧x≤(r.aI.length:Int)-1)∧ ∀ (k:Nat) y,k<j→r.bD[k]? =some y→y≠x
def wv (r:cd) (i:Nat):Prop:= ∀ j,j<i→S5 r j∧H7 r j
section
variable {r:cd} {i k:Nat} {x:Int}
theorem J1:wv r 0:=fun j hj=>absurd hj (Nat.not_lt_zero _)
theorem BN (h:wv r i) (h1:S5 r i) (h2:H7 r i):wv r (i+1):=fun j hj=>by
 rcases Nat.lt_or_ge j i with q|q
 ·exact h j q
 ·obtain rfl:j=i:=by omega
  exact ⟨h1,h2⟩
theorem wS {l:List Int} {u v:Int} (h: ∀ (q:Nat) y,q<k→l[q]? =some y→y≠v) (hx:l[k]? =some u) (hne: ¬ u=v): ∀ (q:Nat) y,q<k+1→l[q]? =some y→y≠v:=fun q y hq hy=>by
 rcases Nat.lt_or_ge q k with c|c
 ·exact h q y c hy
 ·obtain rfl:q=k:=by omega
  rw [hx] at hy; cases hy; exact hne
theorem Lz (hl:r.bD.length=r.aI.length) (h:wv r r.aI.length):r.bD.Perm (Gr r.aI.length):=by
 have nd:r.bD.Nodup:=by
  rw [List.nodup_iff_pairwise_ne,nV]
  intro a b ha hb A
  exact ((h b om).2 _ (ff hb)).2 a _ A (ff ha)
 have hm: ∀ x∈r.bD,x∈Gr r.aI.length:=fun x hx=>by
  obtain ⟨j,hj⟩:=List.getElem?_of_mem hx
  have:=((h j (by have:=(List.getElem?_eq_some_iff.1 hj).1; omega)).2 x hj).1
  exact List.mem_map.2 ⟨x.toNat,List.mem_range.2 om,om⟩
 have ndu:(Gr r.aI.length).Nodup:=by
  unfold Gr
  rw [List.nodup_iff_pairwise_ne,List.pairwise_map]
  exact List.pairwise_lt_range.imp fun h=>by omega
 have e:dk r.bD=(Gr r.aI.length).filter fun x=>decide (x∈r.bD):=by
  refine qX kS ((xe _).filter _) (fG.nodup_iff.2 nd) (ndu.filter _) fun x=>?_
  rw [fG.mem_iff,List.mem_filter,decide_eq_true_eq]
  exact ⟨fun q=>⟨hm x q,q⟩,fun q=>q.2⟩
 have B:=congrArg List.length e
 rw [gp,hl] at B
 have C:(Gr r.aI.length).filter (fun x=>decide (x∈r.bD))=Gr r.aI.length:=List.filter_sublist.eq_of_length (by rw [← B]; simp)
 rw [C] at e
 rw [← e]; exact fG.symm
theorem Gv {n:Nat} (h1:1≤(r.aI.length:Int)∧(r.aI.length:Int)≤5) (h2:r.bD.length=r.aI.length) (h3:0≤r.dZ∧r.dZ≤5) (h4:1≤(r.aq.length:Int)∧(r.aq.length:Int)≤3)
 (hn:n=r.aI.length) (h6:wv r n) (h7:jV r i) (hi:r.aq.length≤i):eZ r:=by
 subst hn
 refine ⟨h1,h3,h4,fun k x hx=>(h6 k (List.getElem?_eq_some_iff.1 hx).1).1 x hx,Lz h2 h6,fun h hh=>?_⟩
 obtain ⟨j,hj⟩:=List.getElem?_of_mem hh
 exact h7 j h (by have:=(List.getElem?_eq_some_iff.1 hj).1; omega) hj
theorem eZ.Is (h:eZ r) (hx:r.bD[i]? =some x):0≤x∧x≤(r.aI.length:Int)-1:=by
 obtain ⟨k,hk,rfl⟩:=List.mem_map.1 (h.draw.mem_iff.1 (aV hx))
 have:=List.mem_range.1 hk
 omega
theorem eZ.PB (h:eZ r):r.bD.Nodup:=by
 refine h.draw.nodup_iff.2 ?_
 rw [List.nodup_iff_pairwise_ne,List.pairwise_map]
 exact List.pairwise_lt_range.imp fun h=>by omega
theorem eZ.P2 (h:eZ r) {u v:Int} (hki:k<i) (hu:r.bD[k]? =some u) (hv:r.bD[i]? =some v): ¬ u=v:=by
 have A:=h.PB
 rw [List.nodup_iff_pairwise_ne,nV] at A
 obtain ⟨a,ea⟩:=List.getElem?_eq_some_iff.1 hu
 obtain ⟨b,eb⟩:=List.getElem?_eq_some_iff.1 hv
 subst ea eb
 exact A k i a b hki
end
section
variable {r:cd} {i k n:Nat} {s:aa} {l:bf} {hs:List (List aw)}
end
section
variable {r:cd} {i x:Int} {own s:aa} {k:Nat} {ys zs:List Int}
end
section
variable {B:List Bool} {P Q:Int→Prop} {k x:Nat} {m:g3} {i y a b:Int} {ys:List Int}
end
theorem v_ {r:cd} {i:Int}:(ig r i).length≤r.aI.length:=by
 unfold ig
 split
 ·unfold dI
  refine Nat.le_trans (List.length_filter_le _ _) ?_
  rw [List.length_map,List.length_range]
  exact uy
 ·simp
end
section
theorem AD: ∀ {m:g3} {a:Int} {s:aa},m.lookup a=some s→(a,s)∈m
 |[],a,s,h=>by cases h
 |(b,u)::m,a,s,h=>by
  by_cases e:a=b
  ·subst e
   simp [List.lookup] at h; subst h; exact bZ
  ·have:(a==b)=false:=by simpa using e
   simp only [List.lookup,this] at h
   exact cW _ (AD h)
theorem FH: ∀ {m:g3} {a:Int} {s:aa},(m.map (·.1)).Nodup→(a,s)∈m→m.lookup a=some s
 |[],a,s,_,h=>by cases h
 |(b,u)::m,a,s,hn,h=>by
  rw [List.map_cons,List.nodup_cons] at hn
  rcases List.mem_cons.1 h with e|h
  ·cases e; simp [List.lookup]
  ·have e:a≠b:=fun e=>hn.1 (by rw [← e]; exact List.mem_map_of_mem (f:=(·.1)) h)
   have:(a==b)=false:=by simpa using e
   simp only [List.lookup,this]
   exact FH hn.2 h
/-- sums, each of another sled -/
structure r8 (m:g3):Prop where
 nd:(m.map (·.1)).Nodup
 le: ∀ p∈m,p.2.Lo≤p.2.Hi
theorem NF {r:cd} (h:bY r=0):r8 (aG r):=⟨pg,fun p hp=>(nm h p hp).2.1⟩
section
variable {m:g3} {a b i n:Int} {s t own:aa}
theorem r8.at (h:r8 m) (hs:m.lookup a=some s):s.Lo≤s.Hi:=h.le _ (AD hs)
theorem r8.one (h:r8 m) (hs:m.lookup a=some s) {p:Int×aa} (hp:p∈m) (e:p.1=a):p.2=s:=by
 obtain ⟨x,y⟩:=p
 cases e
 have:=FH h.nd hp
 rw [hs] at this; cases this; rfl
/-- who is surely tied has the same ranks -/
theorem HG (h:r8 m) (hs:m.lookup a=some s) (ht:m.lookup b=some s) (he:s.Lo=s.Hi):dI m a s=dI m b s:=by
 have C:iL m a s.Lo=iL m b s.Lo:=by
  rw [mA,mA]
  apply List.countP_congr
  intro p hp
  simp only [cR,decide_eq_true_eq,Bool.not_eq_true',decide_eq_false_iff_not]
  exact ⟨fun q=>⟨q.1,fun e=>by have:=h.one ht hp e; rw [this] at q; omega⟩,fun q=>⟨q.1,fun e=>by have:=h.one hs hp e; rw [this] at q; omega⟩⟩
 have D:kO m a s.Lo=kO m b s.Lo:=by
  rw [o_,o_]
  apply List.countP_congr
  intro p hp
  simp only [cR,decide_eq_true_eq,Bool.not_eq_true',decide_eq_false_iff_not]
  exact ⟨fun q=>⟨q.1,fun e=>by have:=h.one ht hp e; rw [this] at q; omega⟩,fun q=>⟨q.1,fun e=>by have:=h.one hs hp e; rw [this] at q; omega⟩⟩
 unfold dI
 congr 1
 funext k
 rw [QX,x5 (h.at hs),x5 (h.at hs)]
 constructor<;>rintro ⟨x,A,B,E,F⟩<;>(have:x=s.Lo:=by omega)<;>subst this<;>exact ⟨s.Lo,A,B,om,om⟩
end
section
variable {r:cd} {a b i:Int} {s t:aa}
/-- what is known of two sleds that have sums -/
structure OC (r:cd) (a b:Int) (s t:aa):Prop where
 ne:a≠b
 Pr:r8 (aG r)
 sa:(aG r).lookup a=some s
 sb:(aG r).lookup b=some t
 ea:jX r a=0
 eb:jX r b=0
 va:qC r a=s
 vb:qC r b=t
 ra:ig r a=dI (aG r) a s
 rb:ig r b=dI (aG r) b t
 VB:ph r a b=ue s t
 QO:ph r b a=ue t s
 tied:lk r a b=mW s t
theorem z9 (he:bY r=0) (hi:re r i) (hl:(aG r).lookup i=some s):jX r i=0∧qC r i=s∧ig r i=dI (aG r) i s:=by
 have h:jX r i=0:=by unfold jX; rw [if_pos he,if_pos hi,hl]; rfl
 have A:aD (aG r) i=s:=by unfold aD; rw [hl]; rfl
 exact ⟨h,by unfold qC; rw [if_pos h,A],by rw [zq h,A]⟩
theorem OC.tie (h:OC r a b s t) (e:lk r a b=2):s=t∧s.Lo=s.Hi∧ig r a=ig r b∧ph r a b=0∧ph r b a=0:=by
 rw [h.tied] at e
 unfold mW at e
 split at e
 ·rename_i q
  obtain ⟨rfl,q⟩:=q
  have hb:ue s s=0:=by unfold ue; rw [if_neg om,if_neg om]
  exact ⟨U,q,by rw [h.ra,h.rb,HG h.Pr h.sa h.sb q],h.VB.trans hb,h.QO.trans hb⟩
 ·split at e<;>cases e
end
end
section
/-- the sums of the first sleds, by choices -/
structure pN (r:cd) (i:Nat) (T:List (Int×Int)):Prop where
 nd:(T.map (·.1)).Nodup
 mem: ∀ p∈T,∃ q:Nat,q<i∧p.1=(q:Int)∧ ∃ s,eP r.ah r.aq q r.aq.length=some s∧s.Lo≤p.2∧p.2≤s.Hi
 all: ∀ q:Nat,q<i→(eP r.ah r.aq q r.aq.length).isSome=true→(q:Int)∈T.map (·.1)
section
variable {r:cd} {i:Nat} {T:List (Int×Int)} {s:aa} {n:Int}
theorem JP:pN r 0 []:=⟨List.Pairwise.nil,fun p h=>(by cases h),fun q h=>absurd h (Nat.not_lt_zero _)⟩
theorem vN (h:pN r i T) (hs:eP r.ah r.aq i r.aq.length=none):pN r (i+1) T:=by
 refine ⟨h.nd,fun p hp=>?_,fun q hq A=>?_⟩
 ·obtain ⟨q,C,B⟩:=h.mem p hp; exact ⟨q,om,B⟩
 ·rcases Nat.lt_or_ge q i with c|c
  ·exact h.all q c A
  ·obtain rfl:q=i:=by omega
   rw [hs] at A; cases A
theorem Nx (h:pN r i T):T.lookup (i:Int)=none:=by
 rw [iD]
 intro p hp e
 obtain ⟨q,A,B,_⟩:=h.mem p hp
 omega
theorem vQ (h:pN r i T) (hs:eP r.ah r.aq i r.aq.length=some s) (hn:s.Lo≤n∧n≤s.Hi):pN r (i+1) (eh T (i:Int) n):=by
 have e:eh T (i:Int) n=T++[((i:Int),n)]:=by unfold eh; rw [Nx h]; rfl
 rw [e]
 refine ⟨?_,fun p hp=>?_,fun q hq A=>?_⟩
 ·rw [List.map_append,List.nodup_append]
  refine ⟨h.nd,sm,fun a ha b hb=>?_⟩
  obtain ⟨p,hp,rfl⟩:=List.mem_map.1 ha
  obtain ⟨q,C,B,_⟩:=h.mem p hp
  simp at hb; subst hb
  omega
 ·rcases List.mem_append.1 hp with hp|hp
  ·obtain ⟨q,C,B⟩:=h.mem p hp; exact ⟨q,om,B⟩
  ·rw [List.mem_singleton.1 hp]; exact ⟨i,om,rfl,s,hs,hn⟩
 ·rw [List.map_append]
  rcases Nat.lt_or_ge q i with c|c
  ·exact List.mem_append_left _ (h.all q c A)
  ·obtain rfl:q=i:=by omega
   exact List.mem_append_right _ sm
/-- who is looked at has a sum -/
theorem tS (h:pN r r.aI.length T) {p:Int×Int} (hp:p∈T):re r p.1∧ ∃ s,(aG r).lookup p.1=some s∧s.Lo≤p.2∧p.2≤s.Hi:=by
 obtain ⟨q,A,B,s,C,D⟩:=h.mem p hp
 refine ⟨by unfold re; omega,s,?_,D⟩
 rw [B]; unfold aG; rw [u9,if_pos A]; exact C
theorem xR (h:pN r r.aI.length T):(T.map (·.1)).Perm ((aG r).map (·.1)):=by
 refine (List.perm_ext_iff_of_nodup h.nd pg).2 fun a=>⟨fun q=>?_,fun q=>?_⟩
 ·obtain ⟨p,hp,rfl⟩:=List.mem_map.1 q
  obtain ⟨_,s,hs,_⟩:=tS h hp
  exact List.mem_map.2 ⟨_,AD hs,U⟩
 ·obtain ⟨p,hp,rfl⟩:=List.mem_map.1 q
  obtain ⟨q,A,B,C⟩:=tI hp
  rw [B]; exact h.all q A (by rw [C]; rfl)
/-- how many are before -/
theorem KD (he:bY r=0) (h:pN r r.aI.length T) {i:Int} (hi:(i,n)∈T):(T.countP fun p=>decide (p.2<n):Int)+1∈ig r i:=by
 obtain ⟨B,s,hs,F,G⟩:=tS h hi
 simp only at B hs F G
 have hk:=NF he
 rw [(z9 he B hs).2.2,yO (by rw [hs]; simp),x5 (hk.at hs)]
 have hc:T.countP (fun p=>decide (p.2<n))=(aG r).countP fun p=>decide ((T.lookup p.1).getD 0<n):=by
  have A:T.countP (fun p=>decide (p.2<n))=T.countP ((fun k=>decide ((T.lookup k).getD 0<n))∘(·.1)):=by
   apply List.countP_congr
   intro p hp
   have:T.lookup p.1=some p.2:=(g5 h.nd).1 hp
   simp only [Function.comp,this,Option.getD_some]
  rw [A,← List.countP_map,(xR h).countP_eq,List.countP_map]; rfl
 have hT: ∀ p∈aG r,∃ v,T.lookup p.1=some v∧p.2.Lo≤v∧v≤p.2.Hi∧(p.1=i→v=n):=fun p hp=>by
  have hm:p.1∈T.map (·.1):=(xR h).mem_iff.2 (List.mem_map.2 ⟨p,hp,rfl⟩)
  obtain ⟨q,hq,e⟩:=List.mem_map.1 hm
  have hl:T.lookup q.1=some q.2:=(g5 h.nd).1 hq
  obtain ⟨_,L,E,J,K⟩:=tS h hq
  have C:=hk.one (a:=p.1) (by rw [← e]; exact E) hp rfl
  refine ⟨q.2,by rw [← e]; exact hl,by rw [C]; exact J,by rw [C]; exact K,fun D=>?_⟩
  have H:T.lookup i=some n:=(g5 h.nd).1 hi
  rw [← D,← e,hl] at H; cases H; rfl
 refine ⟨n,F,G,?_,?_⟩
 ·rw [hc,mA]
  have:=List.countP_mono_left (l:=aG r) (p:=fun p=>decide (p.2.Hi<n)&& !decide (p.1=i)) (q:=fun p=>decide ((T.lookup p.1).getD 0<n)) fun p hp q=>by
   obtain ⟨v,A,AA,C,D⟩:=hT p hp
   simp only [cR,decide_eq_true_eq] at q
   rw [A,Option.getD_some,decide_eq_true_eq]; omega
  omega
 ·rw [hc,o_]
  have:=List.countP_mono_left (l:=aG r) (p:=fun p=>decide ((T.lookup p.1).getD 0<n)) (q:=fun p=>decide (p.2.Lo<n)&& !decide (p.1=i)) fun p hp q=>by
   obtain ⟨v,A,AA,C,D⟩:=hT p hp
   rw [A,Option.getD_some,decide_eq_true_eq] at q
   simp only [cR,decide_eq_true_eq,Bool.not_eq_true',decide_eq_false_iff_not]
   exact ⟨om,fun e=>by have:=D e; omega⟩
  omega
/-- what is told of something agrees with whether it is so -/
theorem Gl {s t:aa} {n m:Int} (h1:s.Lo≤n) (h2:n≤s.Hi) (h3:t.Lo≤m) (h4:m≤t.Hi):ue s t≤2∧(ue s t=2→n<m)∧(ue s t=0→ ¬ n<m):=by
 unfold ue; split
 ·omega
 ·split<;>omega
theorem Ed {s t:aa} {n m:Int} (h1:s.Lo≤n) (h2:n≤s.Hi) (h3:t.Lo≤m) (h4:m≤t.Hi):mW s t≤2∧(mW s t=2→n=m)∧(mW s t=0→ ¬ n=m):=by
 unfold mW; split
 ·rename_i q
  obtain ⟨rfl,q⟩:=q
  omega
 ·split<;>omega
theorem FC (he:bY r=0) (h:pN r r.aI.length T) {i k:Int} {m:Int} (hi:(i,n)∈T) (hk:(k,m)∈T) (hn:k≠i):l_ r i k=0∧(ph r i k≤2∧(ph r i k=2→n<m)∧(ph r i k=0→ ¬ n<m))∧(lk r i k≤2∧(lk r i k=2→n=m)∧(lk r i k=0→ ¬ n=m)):=by
 obtain ⟨AA,s,A,B,C⟩:=tS h hi
 obtain ⟨J,t,D,E,F⟩:=tS h hk
 have e:l_ r i k=0:=by unfold l_; rw [if_pos he,if_pos ⟨AA,J,fun q=>hn q.symm⟩,A,D]; simp
 have G:aD (aG r) i=s:=by unfold aD; rw [A]; rfl
 have H:aD (aG r) k=t:=by unfold aD; rw [D]; rfl
 refine ⟨e,?_,?_⟩
 ·rw [show ph r i k=ue s t from by unfold ph; rw [if_pos e,G,H]]; exact Gl B C E F
 ·rw [show lk r i k=mW s t from by unfold lk; rw [if_pos e,G,H]]; exact Ed B C E F
end
def H2 (s:aa) (n:Int):Int:=if n % 4=0 then s.Lo else if n % 4=1 then s.Hi else s.Lo+n/4 % (s.Hi-s.Lo+1)
theorem BD {s:aa} {n:Int} (hn:0≤n) (h:s.Lo≤s.Hi):s.Lo≤H2 s n∧H2 s n≤s.Hi:=by
 unfold H2
 split
 ·omega
 ·split
  ·omega
  ·have A:=Int.emod_nonneg (n/4) (show s.Hi-s.Lo+1≠0 by omega)
   have B:=Int.emod_lt_of_pos (n/4) (show 0<s.Hi-s.Lo+1 by omega)
   omega
structure uP (r:cd) (i k:Nat) (n:Int) (out:Bool):Prop where
 RY:(eP r.ah r.aq i k).isNone=out
 Vq: ∀ s,eP r.ah r.aq i k=some s→s.Lo≤n∧n≤s.Hi
 Uy:0≤n∧n≤10000000*(k:Int)
section
variable {r:cd} {i k:Nat} {n x:Int} {out:Bool} {d:aw}
theorem Ko:uP r i 0 0 false:=⟨rfl,fun s h=>by simp only [eP,Option.some.injEq] at h; subst h; simp,sm⟩
theorem K1 (h:uP r i k n out) (hd:(r.aq[k]?).bind (·[i]?)=some d) (hx:d.Out=false→(dw r.ah d).Lo≤x∧x≤(dw r.ah d).Hi) (hb:0≤x∧x≤100000000):uP r i (k+1) (n+x/10) (out||d.Out):=by
 have A:=h.RY
 have B:=h.Vq
 have C:=h.Uy
 refine ⟨?_,fun s hs=>?_,om⟩
 ·unfold eP
  rw [hd]
  cases e:eP r.ah r.aq i k with
  |none=>rw [e] at A; simp at A; subst A; rfl
  |some s=>
   rw [e] at A; simp at A; subst A
   cases eo:d.Out<;>simp [eo]
 ·unfold eP at hs
  rw [hd] at hs
  cases e:eP r.ah r.aq i k with
  |none=>rw [e] at hs; cases hs
  |some s0=>
   rw [e] at hs
   have D:=B s0 e
   cases eo:d.Out with
   |true=>simp [eo] at hs
   |false=>
    have E:=hx eo
    simp [eo] at hs
    subst hs
    simp only
    omega
/-- a sled whose descents were looked at: it is out, or its number lies in its sum -/
theorem FE (h:uP r i r.aq.length n out) (he:bY r=0) (hi:i<r.aI.length):(out=true→jX r (i:Int)=6∧eP r.ah r.aq i r.aq.length=none)∧(out=false→jX r (i:Int)=0∧ ∃ s,eP r.ah r.aq i r.aq.length=some s∧qC r (i:Int)=s∧s.Lo≤n∧n≤s.Hi):=by
 have B:re r (i:Int):=by unfold re; omega
 have hl:(aG r).lookup (i:Int)=eP r.ah r.aq i r.aq.length:=by unfold aG; rw [u9,if_pos hi]
 have C:=h.RY
 constructor<;>intro e<;>rw [e] at C
 ·have A:eP r.ah r.aq i r.aq.length=none:=by simpa using C
  exact ⟨by unfold jX; rw [if_pos he,if_pos B,hl,A]; rfl,A⟩
 ·cases A:eP r.ah r.aq i r.aq.length with
  |none=>rw [A] at C; cases C
  |some s=>
   have D:=z9 he B (hl.trans A)
   exact ⟨D.1,s,U,D.2.1,h.Vq s A⟩
end
end
section
def BT (bl:List Int) (i:Int):Int:=if bl.length=0 then 0 else bl.getD (i % (bl.length:Int)).toNat 0
theorem CB {bl:List Int} (hb: ∀ z∈bl,0≤z∧z≤4294967295) (i:Int):0≤BT bl i∧BT bl i≤4294967295:=by
 unfold BT
 split
 ·omega
 ·rw [List.getD_eq_getElem?_getD]
  cases h:bl[(i % (bl.length:Int)).toNat]? with
  |none=>simp
  |some z=>exact hb z (aV h)
theorem Kg {bl:List Int} {i z:Int} (h: ¬ (bl.length:Int)=0) (hz:bl[(i % (bl.length:Int)).toNat]? =some z):BT bl i=z:=by
 unfold BT; rw [if_neg om,List.getD_eq_getElem?_getD,hz]; rfl
section
variable {r:cd} {h i:Nat} {ht:List aw} {d:aw} {bl:List Int} {n:Int} {out:Bool}
structure tU (r:cd) (h i:Nat) (d:aw):Prop where
 off:d.Out=true→fR r ↑h ↑i=6
 on:d.Out=false→fR r ↑h ↑i=0∧df r ↑h ↑i=dw r.ah d
 b:0≤(df r ↑h ↑i).Lo∧(df r ↑h ↑i).Lo≤(df r ↑h ↑i).Hi∧(df r ↑h ↑i).Hi≤86400000
 at_:(r.aq[h]?).bind (·[i]?)=some d
theorem F8 (he:bY r=0) (hht:r.aq[h]? =some ht) (hd:ht[i]? =some d):tU r h i d:=by
 have B:=(iF he).2
 have D:=(List.getElem?_eq_some_iff.1 hht).1
 have E:=(List.getElem?_eq_some_iff.1 hd).1
 have C:=B.nu ht (aV hht)
 have hi:(0≤(h:Int)∧(h:Int)≤(r.aq.length:Int)-1)∧re r (i:Int):=⟨om,by unfold re; omega⟩
 have ha:(r.aq[h]?).bind (·[i]?)=some d:=by rw [hht]; exact hd
 have hb:=zQ (C.2 d (aV hd))
 cases ho:d.Out with
 |true=>
  have e:fR r ↑h ↑i=6:=by unfold fR; rw [if_pos he,if_pos hi,Int.toNat_natCast,Int.toNat_natCast,ha]; simp [ho]
  have A:df r ↑h ↑i=dA:=by unfold df; rw [if_neg (by rw [e]; decide)]
  exact ⟨fun _=>e,fun q=>(by rw [ho] at q; cases q),by rw [A]; simp [dA],ha⟩
 |false=>
  have e:fR r ↑h ↑i=0:=by unfold fR; rw [if_pos he,if_pos hi,Int.toNat_natCast,Int.toNat_natCast,ha]; simp [ho]
  have A:df r ↑h ↑i=dw r.ah d:=by unfold df; rw [if_pos e,Int.toNat_natCast,Int.toNat_natCast,ha]; rfl
  exact ⟨fun q=>(by rw [ho] at q; cases q),fun _=>⟨e,A⟩,by rw [A]; exact hb,ha⟩
theorem tU.same (q:tU r h i d):d.Out=decide (fR r ↑h ↑i=6):=by
 cases ho:d.Out with
 |true=>rw [q.off ho]; rfl
 |false=>rw [(q.on ho).1]; rfl
theorem tU.kind (q:tU r h i d):fR r ↑h ↑i=0∨fR r ↑h ↑i=6:=by
 cases ho:d.Out with
 |true=>exact .inr (q.off ho)
 |false=>exact .inl (q.on ho).1
theorem KU {e:Int} {A B:Prop} (h1:out=true→e=6∧A) (h2:out=false→e=0∧B):out=decide (e=6):=by
 cases out with
 |true=>rw [(h1 rfl).1]; rfl
 |false=>rw [(h2 rfl).1]; rfl
theorem ti (ht:uP r i h n out) (hbl: ∀ z∈bl,0≤z∧z≤4294967295) (hta:tU r h i d) {c:Int}:uP r i (h+1) (n+H2 (df r ↑h ↑i) (BT bl c)/10) (out||d.Out):=by
 have A:=BD (s:=df r ↑h ↑i) (CB hbl c).1 hta.b.2.1
 have B:=hta.b
 exact K1 ht hta.at_ (fun q=>by rw [← (hta.on q).2]; exact A) om
end
theorem vy {β:Type} {P:Int×β→Bool} {left:List (Int×β)} {x:Int} {y:β} (hn:(left.map (·.1)).Nodup) (hm:(x,y)∈left):left.countP P=(cp left x).countP P+if P (x,y)=true then 1 else 0:=by
 induction left with
 |nil=>cases hm
 |cons q left ih=>
  obtain ⟨a,b⟩:=q
  rw [List.map_cons,List.nodup_cons] at hn
  by_cases e:a=x
  ·subst e
   have A: ∀ p∈left,p.1≠a:=fun p hp e=>hn.1 (by rw [← e]; exact List.mem_map_of_mem (f:=(·.1)) hp)
   have hb:b=y:=by
    rcases List.mem_cons.1 hm with e|h
    ·cases e; rfl
    ·exact absurd U (A _ h)
   subst hb
   have hg:cp ((a,b)::left) a=left:=by
    unfold cp
    rw [List.filter_cons_of_neg sm]
    exact List.filter_eq_self.2 fun p hp=>by simpa using A p hp
   rw [hg,List.countP_cons]
  ·have B:(x,y)∈left:=by
    rcases List.mem_cons.1 hm with C|h
    ·cases C; exact absurd rfl e
    ·exact h
   have hg:cp ((a,b)::left) x=(a,b)::cp left x:=by
    unfold cp
    rw [List.filter_cons_of_pos (by simpa using e)]
   rw [hg,List.countP_cons,List.countP_cons,ih hn.2 B]
   omega
section
variable {r:cd} {i:Nat} {k:Int}
end
end
section
open Go.RowKit
section
variable {P:Program} {t:TypeId} {x y:Operand}
theorem qw {e:TypeId} {a:OA} {n c:Nat} (ht:P.underlying t=some (.slice e)):g0 P .eql t x y (.slice a n c) (.slice none 0 0) (.bool (decide (a=none))):=fun w=>by
 have A:(Op.equal t (.slice a n c) (.slice none 0 0)).run P w= .ok (decide (a=none)) w:=by
  unfold Op.equal
  show (Op.equalIn (9999+1) t (.slice a n c) (.slice none 0 0)).run P w=_
  unfold Op.equalIn
  cases a<;>simp [run_underlying ht]
 have B:eqGuard .eql t x y (.slice a n c) (.slice none 0 0)=pure ():=rfl
 rw [B]
 show (Sem.run P (do let b ← Op.equal t (.slice a n c) (.slice none 0 0); pure (vB b)) w)=_
 simp [A]
end
section
variable {E:fh} {ops:Array Oper} {Q:c_} {rest:List Oper} {D:List Deferred} {L:List (Nat×Value)} {C:List av}
variable {dst:Option Tmp} {d:Nat} {ty:TypeId} {ps:String} {af:Array Edge} {g:Option (Nat×Bool)}
/-- a row that lies nowhere is empty -/
theorem mh {a:OA} {n sz:Nat} {es:List (List Value)} (hR:iq C (rd a n sz es).holds) (ha:a=none) (hz:0<sz) (k:es=[]→RJ E ops Q rest D L C):RJ E ops Q rest D L C:=fun act w hf hs=>by
 refine k ?_ act w hf hs
 obtain ⟨F,G,B⟩:=hs.has hR
 rcases Nat.eq_zero_or_pos (n*sz) with h|h
 ·have:n=0:=by
   rcases Nat.mul_eq_zero.1 h with h|h
   ·exact h
   ·omega
  exact jz om
 ·obtain ⟨ad,A,_⟩:=B h
  rw [ha] at A; cases A
theorem Lt {a:OA} {c e sz:Nat} {es:List (List Value)} (i:Nat) (hC:C[i]? =some (own a c e sz es)) (k:es.length≤c→RJ E ops Q rest D L C):RJ E ops Q rest D L C:=fun act w hf hs=>
 k (FY (hs.holds _ (aV hC))) act w hf hs
theorem j1 {A:av} (i:Nat) (h:C[i]? =some A.ro):iq C A.holds:=fun w hw=>by
 have B:=hw A.ro (aV h)
 exact B
/-- the end of a row is set to zero: it is no more of it -/
theorem N8 {x:Operand} {t e sz by_ k n c c':Nat} {z:Value} {a:OA} {es:List (List Value)} (i:Nat) (hg:jr ops L g=true) (hx:ev L x=some (.slice (zM a c k sz) (n-k) c')) (ht:tA E.P t=some (e,sz,by_,z)) (hz1: ∀ v∈z.cells.toList,v.oneCell'=true)
 (hC:C[i]? =some (own a c e sz es)) (hn:n=es.length) (hk:k≤n) (K:RJ E ops Q rest D L (C.set i (own a c e sz (es.take k)))):
 RJ E ops Q (⟨none,.call {callee:= .builtin .clear,args:= #[x],argTypes:= #[t]},ty,ps,af,g⟩::rest) D L C:=by
 intro act w A F
 obtain ⟨inf,hu,hi,f,h3,h4,s⟩:=Ee ht
 unfold rh
 rw [if_pos (dV A hg)]
 subst hn
 obtain ⟨W,N⟩:(own a c e sz es).holds w:=F.holds _ (aV hC)
 have B: ∀ y∈es.take k,y.length=sz:=fun y hy=>W y (List.mem_of_mem_take hy)
 have V:(es.take k).flatten=es.flatten.take (k*sz):=by
  have h:=List.take_append_drop k es
  have l:es.flatten=(es.take k).flatten++(es.drop k).flatten:=by rw [← List.flatten_append,h]
  have m:(es.take k).flatten.length=k*sz:=by rw [iv B,List.length_take]; congr 1; omega
  rw [l,← m,List.take_left]
 by_cases r:es.length-k=0
 ·have AC:es.take k=es:=List.take_of_length_le om
  refine gM sm (w':=w) (v:= .tuple #[]) ?_ ?_
  ·rw [r] at hx
   cases hs:zM a c k sz with
   |none=>rw [hs] at hx; simp [execOp,resolve,invoke,builtin,Builtin.clear_,A.ev hx,run_underlying hu]
   |some q=>rw [hs] at hx; simp [execOp,resolve,invoke,builtin,Builtin.clear_,A.ev hx,run_underlying hu]
  ·rw [AC] at K
   exact K _ _ A (by
    have:C.set i (own a c e sz es)=C:=by
     apply List.ext_getElem?
     intro q
     rw [List.getElem?_set]
     by_cases j:i=q
     ·subst j; rw [if_pos rfl,if_pos (List.getElem?_eq_some_iff.1 hC).1,hC]
     ·rw [if_neg j]
    rw [this]; exact F)
 ·rcases N.2 with ⟨l,m⟩|⟨gg,cap,cur,hv,AA,M,Y,T,J,G⟩
  ·omega
  ·injection hv with Z AB d
   subst Z d
   have R:zM (some (⟨gg,0,none⟩:Addr)) c k sz=some ⟨gg,k*sz,none⟩:=by
    unfold zM; rw [if_neg om]; simp [Addr.add_lit]
   rw [R] at hx
   have H:(Builtin.zeroCells z.cells (es.length-k)).toList.length=(es.length-k)*sz:=by
    rw [Array.length_toList,size_zeroCells,s]
   have p:k*sz+(es.length-k)*sz=es.length*sz:=by rw [← Nat.add_mul]; congr 1; omega
   have o:es.length*sz≤cur.size:=by rw [J]; exact Nat.mul_le_mul_right _ Y
   have h1': ∀ v∈(Builtin.zeroCells z.cells (es.length-k)).toList,v.oneCell'=true:=fun v hv=>by
    refine hz1 v ?_
    simp [Builtin.zeroCells] at hv
    obtain ⟨q,hq,hv⟩:=hv
    have O:0<z.cells.size:=by
     rcases Nat.eq_zero_or_pos z.cells.size with AD|AD
     ·rw [AD] at hq; simp at hq
     ·exact AD
    have X:q % z.cells.size<z.cells.size:=Nat.mod_lt _ O
    rw [getElem!_pos z.cells _ X] at hv
    rw [← hv]; simp
   have hst':=run_storeCells_at E.P gg (k*sz) e (Builtin.zeroCells z.cells (es.length-k)).toList 0 cur w M (by rw [H]; omega) h1'
   simp only [Nat.add_zero] at hst'
   obtain ⟨q,hq⟩: ∃ q,es.length-k=q+1:=⟨es.length-k-1,om⟩
   refine gM sm (w':=w.setRow gg (cur.toList.take (k*sz)++(Builtin.zeroCells z.cells (es.length-k)).toList++cur.toList.drop (k*sz+(Builtin.zeroCells z.cells (es.length-k)).toList.length)).toArray) (v:= .tuple #[]) ?_ ?_
   ·rw [hq] at hx hst' ⊢
    simp [execOp,resolve,invoke,builtin,Builtin.clear_,A.ev hx,run_underlying hu,zeroValue,typeInfo,hi,f,hst']
   ·refine K _ _ A ?_
    refine F.move i hC (row:=some gg) (fun b hb=>by cases hb; exact ⟨_,rfl,rfl⟩) rfl ⟨rfl,rfl,rfl,sm,fun k' _ hk'=>setRow_other w gg k' _ (fun e=>hk' (by simp [e]))⟩ (fun y hy=>by
     obtain ⟨ad,AD,rfl⟩:=hy
     cases AD; exact .inl rfl) ?_
    refine ⟨B,?_,.inr ⟨gg,c,_,U,Nat.zero_le _,setRow_heap w gg cur _ e _ M,?_,T,?_,?_⟩⟩
    ·exact iv B
    ·rw [List.length_take]; omega
    ·simp only [List.size_toArray,List.length_append,List.length_take,List.length_drop,Array.length_toList,H]
     have:=J
     simp only [Array.length_toList] at H
     omega
    ·have u:(es.take k).length*sz=k*sz:=by rw [List.length_take]; congr 1; omega
     have S:(cur.toList.take (k*sz)).length=k*sz:=by rw [List.length_take,Array.length_toList]; omega
     rw [u,V,← G,List.take_take,Nat.min_eq_left om]
     show List.take (k*sz) (_++_++_)=_
     rw [List.append_assoc,List.take_left' S]
end
end
section
open Go.RowKit
theorem oM (n lo hi:Int):
 d_ Tryz.prog 130 [(vI n),(vI lo),(vI hi)] [] (vB (decide (lo≤n∧n≤hi))):=by
 refine bE kr Tryz.func130 U U fun D Q hQ hN=>?_
 try dsimp only
 refine WS fun _ B=>bg 1 U<|RK B<|WS fun _ A=>rP 4 [] I ?_
 refine cw (t:=10) U (aQ fun C=>?_) (aP fun C=>?_)
 ·refine rP 5 [] I ?_
  refine RK A<|ar<|Q1 hQ U U U ?_
  exact cB (decide_eq_decide.2 om)
 refine rP 5 [] I ?_
 refine RK A<|ar<|Q1 hQ U U U ?_
 exact cB (cr om).symm
theorem pt (s:aa) (lo hi:Int):
 d_ Tryz.prog 131 [(vA (aa.cells s)),(vI lo),(vI hi)] [] (vB (decide (s.Lo≤s.Hi∧lo≤s.Lo∧s.Hi≤hi))):=by
 refine bE kr Tryz.func131 U U fun E Q hQ hN=>?_
 try dsimp only
 refine WS fun _ B=>fU U fun D=>bg 1 U<|RK B<|WS fun _ A=>fF 5 [] (mc 0 U I) U<|rS (CL (oM s.Lo lo s.Hi) (aK) U)<|rP 1 [] I ?_
 refine cf (t:=13) U (aP fun C=>?_) (aQ fun C=>?_)
 ·refine rP 6 [] I ?_
  refine RK A<|ar<|Q1 hQ U U U ?_
  exact cB (cr om).symm
 refine rP 6 [] (mc 0 U I) ?_
 refine RK A<|ar<|Q1 hQ U U U ?_
 exact cB (decide_eq_decide.2 om)
theorem M4 (t:List ao) (tA:OA) (tC:Nat):
 d_ Tryz.prog 71 [(vA (aZ.cells (aZ.mk (aN.mk tA t.length tC))))] [(rd tA t.length 9 (t.map ao.cells))] (vB (decide (20<(t.length:Int)))):=by
 refine bE kr Tryz.func71 U U fun D Q hQ hN=>?_
 try dsimp only
 refine WS fun _ A=>fU U fun C=>bg 1 U<|RK A<|WS fun _ B=>rP 5 [] (mc 0 U I) ?_
 refine RK B<|ar ?_
 exact Q1 hQ U U U U
theorem NJ (l:List Int) (lA:OA) (lC:Nat) (f:Value) (p:Int→Bool) (X:av) (hf: ∀ x0,x0∈l→El Tryz.prog f [.int .i64 x0] [X] (.bool (p x0))) (hlen:l.length≤1000000):
 d_ Tryz.prog 80 [(vS lA l.length lC),f] [(rd lA l.length 1 (l.map iC)),X] (vI (tm p l)):=by
 refine bE kr Tryz.func80 U U fun R Q hQ hN=>?_
 try dsimp only
 refine WS fun _ G=>bg 1 U<|RK G<|ak fun _ H=>WS fun _ AA=>rP 3 [] I ?_
 refine RK AA<|ax ?_
 have B:(0≤l.length)∧((l.take 0).any p=false):=by simp
 refine bR (ι:={z:Nat // (z≤l.length)∧((l.take z).any p=false)}) [0,1,7] [0,1] U U (fun z=>[(8,(vI (z.1:Int)))]) (fun z=>[]) (fun _=>rfl) (fun _=>rfl) (fun z=>l.length-z.1) ⟨0,B⟩ (aU U) (aL [0,1]) ?_
 clear B
 rintro ⟨i,⟨N,A⟩⟩ J4 F
 try dsimp only
 refine WS fun _ J=>rP 1 [] I ?_
 refine RK J<|ak fun _ K=>bS U (aP fun P=>?_) (aQ fun P=>?_)
 ·refine bB<|ae<|ae<|aA<|KK H<|WS fun _ E=>rP 1 [] I ?_
  refine RK E<|ar<|Q1 hQ U U U ?_
  exact cI (rZ om A).symm
 refine WK K<|ak fun _ L=>ax<|WS fun _ M=>bg 2 U<|RK M<|WS fun _ C=>rP 3 [] I ?_
 obtain ⟨x,hx⟩:=aM l i om
 have O:=bQ iC hx
 refine rS (IA i U (aB 0 U) cJ dc om om)<|rS (gh i 0 (vI x) U cm (aB 0 U) O U dc U)<|rS (SX (r_ U U U (hf x (aV hx)) (bh [1])) U U)<|RK C<|cE U (fun hp=>?_) (fun hp=>?_)
 ·refine WS fun _ D=>rP 2 [] I ?_
  refine RK D<|ar<|Q1 hQ U U U ?_
  exact cI (xX hx hp A).symm
 refine cj<|aH<|KK L<|an<|rP 2 [] I ?_
 refine aF ?_
 refine aT (F ⟨(i+1),⟨om,wT hx A hp⟩⟩ _ _ _ U os (aU U) (aL [0,1]))
theorem rI (l:List Int) (lA:OA) (lC:Nat) (f:Value) (p:Int→Bool) (X:av) (hf: ∀ x0,x0∈l→El Tryz.prog f [.int .i64 x0] [X] (.bool (p x0))) (hlen:l.length≤1000000):
 d_ Tryz.prog 54 [(vS lA l.length lC),f] [(rd lA l.length 1 (l.map iC)),X] (vB (l.any p)):=by
 refine bE kr Tryz.func54 U U fun C Q hQ hN=>?_
 try dsimp only
 refine WS fun _ A=>bg 1 U<|RK A<|WS fun _ B=>bg 2 U<|rS (CL (NJ l lA lC f p X (by exact hf) hlen) (bh [0,1]) U)<|rP 2 [] I ?_
 refine RK B<|ar<|Q1 hQ U U U ?_
 exact cB tP
theorem Hy (n lo hi:Int) (g1 g2:Nat):
 d_ Tryz.prog 139 [(vI n),(vP g1),(vP g2)] [(b_ g1 3 [(vI lo)]),(b_ g2 3 [(vI hi)])] (vB (decide (n<lo∨hi<n))):=by
 refine bE kr Tryz.func139 U U fun D Q hQ hN=>?_
 try dsimp only
 refine WS fun _ B=>bg 1 U<|RK B<|WS fun _ A=>rP 4 [] (mr 0 U I) ?_
 refine cw (t:=8) U (aQ fun C=>?_) (aP fun C=>?_)
 ·refine rP 5 [] I ?_
  refine RK A<|ar<|Q1 hQ U U U ?_
  exact cB (fP om).symm
 refine rP 5 [] (mr 1 U I) ?_
 refine RK A<|ar<|Q1 hQ U U U ?_
 exact cB (decide_eq_decide.2 om)
theorem oB (lo hi:Int) (l:List Int) (lA:OA) (lC:Nat) (hlen:l.length≤1000000):
 d_ Tryz.prog 108 [(vI lo),(vI hi),(vS lA l.length lC)] [(rd lA l.length 1 (l.map iC))] (vB (pL lo hi l)):=by
 refine bE kr Tryz.func108 U U fun F Q hQ hN=>?_
 try dsimp only
 refine WS fun _ D=>uA U U fun A=>uA U U fun B=>bg 1 U<|RK D<|WS fun _ E=>rP 1 [] I ?_
 refine rS (FU U) ?_
 refine rS (CL (rI l lA lC (Value.func (.func 139) [].toArray [(vP A),(vP B)].toArray) (fun C=>(decide (C<lo∨hi<C))) (fc [(b_ A 3 [(vI lo)]),(b_ B 3 [(vI hi)])]) (by intro C _; exact m8 (fi:=[]) (ca:=[(vP A),(vP B)]) (lR (Hy C lo hi A B) (bh [0,1]))) hlen) (fK 2 U U<|ay (lV (bh [1,0]))<|aK) U) ?_
 refine rP 2 [] I ?_
 refine RK E<|ar ?_
 exact Q1 hQ U U U U
theorem vX (s:aa) (lo hi:Int):
 d_ Tryz.prog 109 [(vA (aa.cells s)),(vI lo),(vI hi)] [] (vB (decide (s.Lo≤s.Hi∧lo≤s.Lo∧s.Hi≤hi))):=by
 refine bE kr Tryz.func109 U U fun F Q hQ hN=>?_
 try dsimp only
 refine WS fun _ B=>fU U fun E=>bg 1 U<|RK B<|WS fun _ A=>rP 6 [] (mc 0 U I) ?_
 refine cZ (xs:=[.tmp 10,.tmp 12]) (cs:=[(vI s.Lo),(vI s.Hi)]) U cJ jd U U U U (by simp [Value.cells]) U U fun C=>?_
 refine rS (CL (d_.eq (oB lo hi ([s.Lo,s.Hi]) (some ⟨C,0,none⟩) 2 (by (simp; done))) qZ) (ay (a_ 0 U U (by simp [bK]) U)<|aK) U) ?_
 refine rP 1 [] I ?_
 refine cf (t:=15) U (aP fun D=>?_) (aQ fun D=>?_)
 ·refine rP 7 [] I ?_
  refine RK A<|ar<|Q1 hQ U U U ?_
  exact cB (cr om).symm
 refine rP 7 [] (mc 1 U I) ?_
 refine RK A<|ar<|Q1 hQ U U U ?_
 exact cB (decide_eq_decide.2 om)
theorem vR (ts:List ao) (tsA:OA) (tsC:Nat) (hlen:ts.length≤1000000):
 d_ Tryz.prog 104 [(vA (aZ.cells (aZ.mk (aN.mk tsA ts.length tsC))))] [(rd tsA ts.length 9 (ts.map ao.cells))] (vB (cV ts)):=by
 refine bE kr Tryz.func104 U U fun w0 Q hQ hN=>?_
 try dsimp only
 refine WS fun _ AZ=>fU U fun b2=>bg 1 U<|RK AZ<|ak fun _ Aa=>WS fun _ Ab=>fF 3 [] (mc 0 U I) U<|rS (CL (oM (ts.length:Int) 1 12) (aK) U)<|rP 1 [] I ?_
 refine RK Ab<|cE U (br fun h5=>?_) (bq fun h5=>?_)
 ·refine WS fun _ Ac=>rP 1 [] I ?_
  refine RK Ac<|ar<|Q1 hQ U U U ?_
  exact cB (n7 om).symm
 refine WK Aa<|ak fun _ Ad=>WS fun _ Ae=>rP 1 [] I ?_
 refine RK Ae<|ax ?_
 have E:(0≤ts.length)∧(eT (-1) ts=eT (gd ts 0) (ts.drop 0))∧(-1≤gd ts 0):=by (refine ⟨om,rfl,by simp [gd]⟩)
 refine bR (ι:={z:Nat // (z≤ts.length)∧(eT (-1) ts=eT (gd ts z) (ts.drop z))∧(-1≤gd ts z)}) [1] [0,1] U U (fun z=>[(3,(vI (z.1:Int)))]) (fun z=>[]) (fun _=>rfl) (fun _=>rfl) (fun z=>ts.length-z.1) ⟨0,E⟩ (aU U) (aL [0,1]) ?_
 clear E
 rintro ⟨i,⟨Af,A,Ag⟩⟩ J9 D
 try dsimp only
 have hz:i=0→gd ts i= -1:=BV
 refine ak fun _ K=>WS fun _ L=>rP 5 [] (mc 0 U I) ?_
 refine RK L<|bS U (aP fun v=>?_) (aQ fun v=>?_)
 ·refine bB<|ae<|ae<|aA<|KK Ad<|WS fun _ u=>rP 1 [] I ?_
  refine RK u<|ar<|Q1 hQ U U U ?_
  exact cB (uX A om om).symm
 refine WK K<|ak fun _ C=>ax<|WS fun _ M=>rP 3 [] (mc 0 U I) ?_
 obtain ⟨x,hx⟩:=aM ts i om
 have Ah:=bQ ao.cells hx
 refine rS (IA i U (aB 1 U) yg dc om om)<|rS (ov i 0 (ao.cells x) U cm (aB 1 U) Ah U dc U U)<|AL U Fx fun Aj=>fW U Ku U<|RK M<|ak fun _ F=>ak fun _ B=>dh cu 38 kr<|lJ 2 [] (mc 0 U I) U<|dS (CL (oM x.Id 0 9999) (aK) U)<|dP 2 [] I ?_
 refine ja (t:=26) U (br fun w=>?_) (bq fun w=>?_)
 ·refine kX 11 U<|kX 22 U<|cK<|RK B<|aR U<|WS fun _ N=>rP 1 [] I ?_
  refine RK N<|ar<|Q1 hQ U U U ?_
  exact cB (dH A hx (by simp only [bP,dN]; omega)).symm
 refine dP 3 [] I ?_
 refine jg (t:=29) U (aP fun AA=>?_) (aQ fun AA=>?_)
 ·refine kX 8 U<|kX 6 U<|dS (LP (aa.cells x.kf) 0 U cm U U U)<|dS (CL (pt x.kf 1 30000) (aK) U)<|dP 3 [] I ?_
  refine ja (t:=48) U (br fun AO=>?_) (bq fun AO=>?_)
  ·refine kX 11 U<|cK<|RK B<|aR U<|WS fun _ e=>rP 1 [] I ?_
   refine RK e<|ar<|Q1 hQ U U U ?_
   exact cB (dH A hx (by simp only [bP,dN]; omega)).symm
  refine kX 1 U<|dS (LP (aa.cells x.lB) 0 U cm U U U)<|dS (CL (pt x.lB 0 5000) (aK) U)<|dP 3 [] I ?_
  refine ja (t:=54) U (br fun AP=>?_) (bq fun AP=>?_)
  ·refine kX 5 U<|cK<|RK B<|aR U<|WS fun _ f=>rP 1 [] I ?_
   refine RK f<|ar<|Q1 hQ U U U ?_
   exact cB (dH A hx (by simp only [bP,dN]; omega)).symm
  refine lJ 2 [] (mc 0 U I) U<|dS (CL (oM x.An 0 5000) (aK) U)<|dP 2 [] I ?_
  refine cK<|RK B<|cE U (br fun AQ=>?_) (bq fun AQ=>?_)
  ·refine WS fun _ g=>rP 1 [] I ?_
   refine RK g<|ar<|Q1 hQ U U U ?_
   exact cB (dH A hx (by simp only [bP,dN]; omega)).symm
  refine WK F<|WS fun _ h=>fF 2 [] (mc 0 U I) U<|RK h<|ax<|WS fun _ j=>rS (BI U l8)<|rP 1 [] I ?_
  refine RK j<|cE U (aQ fun AR=>?_) (aP fun AR=>?_)
  ·refine WS fun _ Am=>rP 5 [] (mc 0 U I) ?_
   refine cw (t:=68) U (br fun AS=>?_) (bq fun AS=>?_)
   ·refine bg 5 U<|RK Am<|aR U<|WS fun _ k=>rP 1 [] I ?_
    refine RK k<|ar<|Q1 hQ U U U ?_
    exact cB (dH A hx (by simp only [bP,dN]; omega)).symm
   refine rP 5 [] (mc 0 U I) ?_
   refine RK Am<|bS U (bq fun AT=>?_) (br fun AT=>?_)
   ·refine cj<|aH<|aH<|KK C<|an<|rP 3 [] I ?_
    refine aF ?_
    refine aT (D ⟨(i+1),⟨om,gN A hx (by simp only [bP,dN]; omega),by rw [fX hx]; omega⟩⟩ _ _ _ U os (aU U) (aL [1,2]))
   refine WS fun _ l=>rP 1 [] I ?_
   refine RK l<|ar<|Q1 hQ U U U ?_
   exact cB (dH A hx (by simp only [bP,dN]; omega)).symm
  refine ak fun _ J=>WS fun _ m=>rS (BI U l8)<|rP 1 [] I ?_
  refine RK m<|cE U (aQ fun AU=>?_) (aP fun AU=>?_)
  ·refine WK J<|bS U (aP fun AV=>?_) (aQ fun AV=>?_)
   ·refine WS fun _ p=>rP 1 [] I ?_
    refine RK p<|ar<|Q1 hQ U U U ?_
    exact cB (n7 om).symm
   refine WS fun _ n=>bg 1 U<|rS (LP (aa.cells x.eM) 0 U cm U U U)<|rS (CL (pt x.eM 500 20000) (aK) U)<|rP 1 [] I ?_
   refine RK n<|bS U (bq fun AW=>?_) (br fun AW=>?_)
   ·refine cj<|aH<|aH<|KK C<|an<|rP 3 [] I ?_
    refine aF ?_
    refine aT (D ⟨(i+1),⟨om,gN A hx (by simp only [bP,dN]; omega),by rw [fX hx]; omega⟩⟩ _ _ _ U os (aU U) (aL [1,2]))
   refine WS fun _ o=>rP 1 [] I ?_
   refine RK o<|ar<|Q1 hQ U U U ?_
   exact cB (dH A hx (by simp only [bP,dN]; omega)).symm
  refine an<|rS (BI U l8)<|rP 1 [] I ?_
  refine RK J<|bS U (aP fun AX=>?_) (aQ fun AX=>?_)
  ·refine WS fun _ s=>rP 1 [] I ?_
   refine RK s<|ar<|Q1 hQ U U U ?_
   exact cB (dH A hx (by simp only [bP,dN]; omega)).symm
  refine WS fun _ q=>bg 1 U<|rS (LP (aa.cells x.eM) 0 U cm U U U)<|rS (CL (pt x.eM 500 20000) (aK) U)<|rP 1 [] I ?_
  refine RK q<|bS U (bq fun AY=>?_) (br fun AY=>?_)
  ·refine cj<|aH<|aH<|KK C<|an<|rP 3 [] I ?_
   refine aF ?_
   refine aT (D ⟨(i+1),⟨om,gN A hx (by simp only [bP,dN]; omega),by rw [fX hx]; omega⟩⟩ _ _ _ U os (aU U) (aL [1,2]))
  refine WS fun _ r=>rP 1 [] I ?_
  refine RK r<|ar<|Q1 hQ U U U ?_
  exact cB (dH A hx (by simp only [bP,dN]; omega)).symm
 refine dP 6 [0,1] (mc 0 U (mc 1 U I)) ?_
 obtain ⟨y,hy⟩:=aM ts (i-1) om
 have Ai:=bQ ao.cells hy
 refine dS (IA (i-1) U (aB 2 U) yg dc om om)<|dS (mK ((i-1)*9) U (aB 2 U) (Nat.mul_pos om dc) fB U) ?_
 have Al:=D5 om hy
 refine dS (gh (i-1) 0 (vI y.Id) U cm (aB 2 U) Ai U dc U)<|dP 4 [] I ?_
 refine ja (t:=42) U (aQ fun AB=>?_) (aP fun AB=>?_)
 ·refine kX 17 U<|cK<|RK B<|aR U<|WS fun _ O=>rP 1 [] I ?_
  refine RK O<|ar<|Q1 hQ U U U ?_
  exact cB (dH A hx (by simp only [bP,dN]; omega)).symm
 refine kX 1 U<|dS (LP (aa.cells x.kf) 0 U cm U U U)<|dS (CL (pt x.kf 1 30000) (aK) U)<|dP 3 [] I ?_
 refine ja (t:=48) U (br fun AC=>?_) (bq fun AC=>?_)
 ·refine kX 11 U<|cK<|RK B<|aR U<|WS fun _ P=>rP 1 [] I ?_
  refine RK P<|ar<|Q1 hQ U U U ?_
  exact cB (dH A hx (by simp only [bP,dN]; omega)).symm
 refine kX 1 U<|dS (LP (aa.cells x.lB) 0 U cm U U U)<|dS (CL (pt x.lB 0 5000) (aK) U)<|dP 3 [] I ?_
 refine ja (t:=54) U (br fun AD=>?_) (bq fun AD=>?_)
 ·refine kX 5 U<|cK<|RK B<|aR U<|WS fun _ R=>rP 1 [] I ?_
  refine RK R<|ar<|Q1 hQ U U U ?_
  exact cB (dH A hx (by simp only [bP,dN]; omega)).symm
 refine lJ 2 [] (mc 0 U I) U<|dS (CL (oM x.An 0 5000) (aK) U)<|dP 2 [] I ?_
 refine cK<|RK B<|cE U (br fun AE=>?_) (bq fun AE=>?_)
 ·refine WS fun _ S=>rP 1 [] I ?_
  refine RK S<|ar<|Q1 hQ U U U ?_
  exact cB (dH A hx (by simp only [bP,dN]; omega)).symm
 refine WK F<|WS fun _ T=>fF 2 [] (mc 0 U I) U<|RK T<|ax<|WS fun _ Ak=>rS (BI U l8)<|rP 1 [] I ?_
 refine RK Ak<|cE U (aQ fun AF=>?_) (aP fun AF=>?_)
 ·refine WS fun _ G=>rP 5 [] (mc 0 U I) ?_
  refine cw (t:=68) U (br fun AG=>?_) (bq fun AG=>?_)
  ·refine bg 5 U<|RK G<|aR U<|WS fun _ V=>rP 1 [] I ?_
   refine RK V<|ar<|Q1 hQ U U U ?_
   exact cB (dH A hx (by simp only [bP,dN]; omega)).symm
  refine rP 5 [] (mc 0 U I) ?_
  refine RK G<|bS U (bq fun AH=>?_) (br fun AH=>?_)
  ·refine cj<|aH<|aH<|KK C<|an<|rP 3 [] I ?_
   refine aF ?_
   refine aT (D ⟨(i+1),⟨om,gN A hx (by simp only [bP,dN]; omega),by rw [fX hx]; omega⟩⟩ _ _ _ U os (aU U) (aL [1,2]))
  refine WS fun _ W=>rP 1 [] I ?_
  refine RK W<|ar<|Q1 hQ U U U ?_
  exact cB (dH A hx (by simp only [bP,dN]; omega)).symm
 refine ak fun _ H=>WS fun _ X=>rS (BI U l8)<|rP 1 [] I ?_
 refine RK X<|cE U (aQ fun AI=>?_) (aP fun AI=>?_)
 ·refine WK H<|bS U (aP fun AJ=>?_) (aQ fun AJ=>?_)
  ·refine WS fun _ a=>rP 1 [] I ?_
   refine RK a<|ar<|Q1 hQ U U U ?_
   exact cB (n7 om).symm
  refine WS fun _ Y=>bg 1 U<|rS (LP (aa.cells x.eM) 0 U cm U U U)<|rS (CL (pt x.eM 500 20000) (aK) U)<|rP 1 [] I ?_
  refine RK Y<|bS U (bq fun AK=>?_) (br fun AK=>?_)
  ·refine cj<|aH<|aH<|KK C<|an<|rP 3 [] I ?_
   refine aF ?_
   refine aT (D ⟨(i+1),⟨om,gN A hx (by simp only [bP,dN]; omega),by rw [fX hx]; omega⟩⟩ _ _ _ U os (aU U) (aL [1,2]))
  refine WS fun _ Z=>rP 1 [] I ?_
  refine RK Z<|ar<|Q1 hQ U U U ?_
  exact cB (dH A hx (by simp only [bP,dN]; omega)).symm
 refine an<|rS (BI U l8)<|rP 1 [] I ?_
 refine RK H<|bS U (aP fun AM=>?_) (aQ fun AM=>?_)
 ·refine WS fun _ d=>rP 1 [] I ?_
  refine RK d<|ar<|Q1 hQ U U U ?_
  exact cB (dH A hx (by simp only [bP,dN]; omega)).symm
 refine WS fun _ b=>bg 1 U<|rS (LP (aa.cells x.eM) 0 U cm U U U)<|rS (CL (pt x.eM 500 20000) (aK) U)<|rP 1 [] I ?_
 refine RK b<|bS U (bq fun AN=>?_) (br fun AN=>?_)
 ·refine cj<|aH<|aH<|KK C<|an<|rP 3 [] I ?_
  refine aF ?_
  refine aT (D ⟨(i+1),⟨om,gN A hx (by simp only [bP,dN]; omega),by rw [fX hx]; omega⟩⟩ _ _ _ U os (aU U) (aL [1,2]))
 refine WS fun _ c=>rP 1 [] I ?_
 refine RK c<|ar<|Q1 hQ U U U ?_
 exact cB (dH A hx (by simp only [bP,dN]; omega)).symm
theorem Bk (ts:List ao) (tsA:OA) (tsC:Nat) (hlen:ts.length≤1000000) (hside: ∀ x∈ts,0≤x.iT∧x.iT≤255):
 d_ Tryz.prog 74 [(vA (aZ.cells (aZ.mk (aN.mk tsA ts.length tsC))))] [(rd tsA ts.length 9 (ts.map ao.cells))] (vI (if cV ts=true then 0 else 10)):=by
 refine bE kr Tryz.func74 U U fun w0 Q hQ hN=>?_
 try dsimp only
 refine WS fun _ v=>fU U fun b2=>bg 1 U<|RK v<|Av U<|ak fun _ w=>WS fun _ y=>rP 3 [] (mc 0 U I) ?_
 refine cZ (xs:=[.tmp 11]) (cs:=[(vI (ts.length:Int))]) U cJ jd U U U U (by simp [Value.cells]) U U fun b5=>?_
 refine rS (CL (d_.eq (oB 1 12 ([(ts.length:Int)]) (some ⟨b5,0,none⟩) 1 (by (simp; done))) cU) (ay (a_ 0 U U (by simp [bK]) U)<|aK) U) ?_
 refine rP 1 [] I ?_
 refine RK y<|cE U (br fun h6=>?_) (bq fun h6=>?_)
 ·refine WS fun _ AA=>rP 1 [] I ?_
  refine RK AA<|ar<|Q1 hQ U U U ?_
  exact cI (if_neg (by rw [n7 om]; decide)).symm
 refine WK w<|WS fun _ AB=>bg 1 U<|RK AB<|WS fun _ AC=>bg 1 U<|RK AC<|ak fun _ J=>zF<|KK J<|ak fun _ B=>WS fun _ K=>rP 4 [] (mc 1 U I) ?_
 refine RK K<|ax ?_
 have D:(0≤ts.length)∧(eT (-1) ts=eT (gd ts 0) (ts.drop 0))∧(-1≤gd ts 0)∧(gd ts 0≤9999):=by (refine ⟨om,rfl,by simp [gd],by simp [gd]⟩)
 refine bR (ι:={z:Nat // (z≤ts.length)∧(eT (-1) ts=eT (gd ts z) (ts.drop z))∧(-1≤gd ts z)∧(gd ts z≤9999)}) [1,4,16,17] [1,2] U U (fun z=>[(3,(vI (gd ts z.1))),(18,(vI (z.1:Int)))]) (fun z=>[]) (fun _=>rfl) (fun _=>rfl) (fun z=>ts.length-z.1) ⟨0,D⟩ (aU U) (aL [1,2]) ?_
 clear D
 rintro ⟨i,⟨AD,A,AE,AF⟩⟩ J13 E
 try dsimp only
 refine WS fun _ L=>rP 1 [] I ?_
 refine RK L<|ak fun _ M=>bS U (aP fun k=>?_) (aQ fun k=>?_)
 ·refine bB<|ae<|ae<|aA<|KK B<|WS fun _ O=>rP 2 [] I ?_
  refine RK O<|ar<|Q1 hQ U U U ?_
  exact cI (if_pos (uX A om om)).symm
 refine WK M<|ak fun _ F=>ax<|WS fun _ N=>?_
 obtain ⟨x,hx⟩:=aM ts i om
 have AG:=bQ ao.cells hx
 refine rS (IA i U (aB 1 U) yg dc om om) ?_
 have AK:=hside x (aV hx)
 refine rS (ov i 0 (ao.cells x) U cm (aB 1 U) AG U dc U U)<|AL U Fx fun AH=>fW U Ku U<|RK N ?_
 refine ob (ι:=Unit) [1,3,4,6,16,17,18] [0,1,2] U U (fun z=>[(7,(vB (decide (x.iT=0∧x.eM.Lo=0∧x.eM.Hi=0))))]) (fun z=>[]) (fun _=>rfl) (fun _=>rfl) ?_ fun K20 G=>?_
 ·intro _
  try dsimp only
  refine ob (ι:=Unit) [1,3,4,6,7,16,17,18] [0,1,2] U U (fun z=>[(8,(vB (decide ((1≤x.iT∧x.iT≤2)∧x.eM.Lo≤x.eM.Hi∧500≤x.eM.Lo∧x.eM.Hi≤20000))))]) (fun z=>[]) (fun _=>rfl) (fun _=>rfl) ?_ fun K21 H=>?_
  ·intro _
   try dsimp only
   refine ak fun _ AJ=>WS fun _ C=>rP 4 [] (mc 0 U I) ?_
   refine cZ (xs:=[.tmp 44]) (cs:=[(vI x.Id)]) U cJ jd U U U U (by simp [Value.cells]) U U fun h=>?_
   refine rS (CL (d_.eq (oB ((gd ts i)+1) 9999 ([x.Id]) (some ⟨h,0,none⟩) 1 (by (simp; done))) cU) (ay (a_ 0 U U (by simp [bK]) U)<|aK) U) ?_
   refine rP 2 [] I ?_
   refine cw (t:=48) U (br fun o=>?_) (bq fun o=>?_)
   ·refine bg 26 U<|RK C<|aR U<|WS fun _ P=>bg 1 U<|RK P<|bB<|ae<|iy U<|ae<|ae<|aA<|KK B<|WS fun _ R=>rP 2 [] I ?_
    refine RK R<|ar<|Q1 hQ U U U ?_
    exact cI (if_neg (by rw [dH A hx (by simp only [bP,dN]; omega)]; decide)).symm
   refine bg 1 U<|rS (LP (aa.cells x.kf) 1 U cm U U U)<|rS (CL (vX x.kf 1 30000) (aK) U)<|rP 3 [] I ?_
   refine cw (t:=54) U (br fun p=>?_) (bq fun p=>?_)
   ·refine bg 20 U<|RK C<|aR U<|WS fun _ S=>bg 1 U<|RK S<|bB<|ae<|iy U<|ae<|ae<|aA<|KK B<|WS fun _ T=>rP 2 [] I ?_
    refine RK T<|ar<|Q1 hQ U U U ?_
    exact cI (if_neg (by rw [dH A hx (by simp only [bP,dN]; omega)]; decide)).symm
   refine bg 1 U<|rS (LP (aa.cells x.lB) 1 U cm U U U)<|rS (CL (vX x.lB 0 5000) (aK) U)<|rP 3 [] I ?_
   refine cw (t:=60) U (br fun q=>?_) (bq fun q=>?_)
   ·refine bg 14 U<|RK C<|aR U<|WS fun _ AI=>bg 1 U<|RK AI<|bB<|ae<|iy U<|ae<|ae<|aA<|KK B<|WS fun _ V=>rP 2 [] I ?_
    refine RK V<|ar<|Q1 hQ U U U ?_
    exact cI (if_neg (by rw [dH A hx (by simp only [bP,dN]; omega)]; decide)).symm
   refine rP 2 [] (mc 1 U I) ?_
   refine cZ (xs:=[.tmp 62]) (cs:=[(vI x.An)]) U cJ jd U U U U (by simp [Value.cells]) U U fun j=>?_
   refine rS (CL (d_.eq (oB 0 5000 ([x.An]) (some ⟨j,0,none⟩) 1 (by (simp; done))) cU) (ay (a_ 0 U U (by simp [bK]) U)<|aK) U) ?_
   refine rP 3 [] I ?_
   refine cw (t:=67) U (br fun r=>?_) (bq fun r=>?_)
   ·refine bg 7 U<|RK C<|aR U<|WS fun _ W=>bg 1 U<|RK W<|bB<|ae<|iy U<|ae<|ae<|aA<|KK B<|WS fun _ X=>rP 2 [] I ?_
    refine RK X<|ar<|Q1 hQ U U U ?_
    exact cI (if_neg (by rw [dH A hx (by simp only [bP,dN]; omega)]; decide)).symm
   refine rP 3 [] I ?_
   refine cf (t:=70) U (bq fun s=>?_) (br fun s=>?_)
   ·refine bg 4 U<|RK C<|aX U<|WK AJ<|an<|fF 3 [] (mc 2 U I) U<|aF<|aH<|KK F<|an<|rP 2 [] I ?_
    refine aF ?_
    have f:(vI (gd ts (i+1)))=(vI x.Id):=by rw [fX hx]
    refine aT (E ⟨(i+1),⟨om,gN A hx (by simp only [bP,dN]; omega),by rw [fX hx]; omega,by rw [fX hx]; omega⟩⟩ _ _ _ U os (cP 4<|bo U f<|aU U) (aL [3,4]))
   refine rP 4 [] I ?_
   refine RK C<|bS U (bq fun u=>?_) (br fun u=>?_)
   ·refine WK AJ<|an<|fF 3 [] (mc 2 U I) U<|aF<|aH<|KK F<|an<|rP 2 [] I ?_
    refine aF ?_
    have e:(vI (gd ts (i+1)))=(vI x.Id):=by rw [fX hx]
    refine aT (E ⟨(i+1),⟨om,gN A hx (by simp only [bP,dN]; omega),by rw [fX hx]; omega,by rw [fX hx]; omega⟩⟩ _ _ _ U os (cP 4<|bo U e<|aU U) (aL [3,4]))
   refine WS fun _ Y=>bg 1 U<|RK Y<|bB<|ae<|iy U<|ae<|ae<|aA<|KK B<|WS fun _ Z=>rP 2 [] I ?_
   refine RK Z<|ar<|Q1 hQ U U U ?_
   exact cI (if_neg (by rw [dH A hx (by simp only [bP,dN]; omega)]; decide)).symm
  refine an<|rP 2 [] (mc 0 U I) ?_
  refine rS (SX (sU (m:=x.iT) U U TB oG (uL (by first|assumption|omega))) U U)<|cZ (xs:=[.tmp 33]) (cs:=[(vI x.iT)]) U cJ jd U U U U (by simp [Value.cells]) U U fun g=>?_
  refine rS (CL (d_.eq (oB 1 2 ([x.iT]) (some ⟨g,0,none⟩) 1 (by (simp; done))) cU) (ay (a_ 0 U U (by simp [bK]) U)<|aK) U) ?_
  refine rP 1 [] I ?_
  refine cf (t:=36) U (aP fun n=>?_) (aQ fun n=>?_)
  ·refine rP 5 [] I ?_
   refine aF ?_
   have d:(decide ((1≤x.iT∧x.iT≤2)∧x.eM.Lo≤x.eM.Hi∧500≤x.eM.Lo∧x.eM.Hi≤20000))=false:=cr om
   refine aT (jA (cP 8<|np U d<|dy.nil _) (aL [1,2,3]) (H ()))
  refine bg 1 U<|rS (LP (aa.cells x.eM) 1 U cm U U U)<|rS (CL (vX x.eM 500 20000) (aK) U)<|rP 2 [] I ?_
  refine aF ?_
  have c:(decide ((1≤x.iT∧x.iT≤2)∧x.eM.Lo≤x.eM.Hi∧500≤x.eM.Lo∧x.eM.Hi≤20000))=(decide (x.eM.Lo≤x.eM.Hi∧500≤x.eM.Lo∧x.eM.Hi≤20000)):=decide_eq_decide.2 om
  refine aT (jA (cP 8<|np U c<|dy.nil _) (aL [1,2,3]) (H ()))
 refine an<|fF 2 [] (mc 0 U I) U<|rS (BI U l8)<|rP 1 [] I ?_
 refine cf (t:=25) U (aP fun l=>?_) (aQ fun l=>?_)
 ·refine rP 6 [] I ?_
  refine aF ?_
  have b:(decide (x.iT=0∧x.eM.Lo=0∧x.eM.Hi=0))=false:=cr om
  refine aT (jA (cP 7<|np U b<|dy.nil _) (aL [0,1,2]) (G ()))
 refine bg 1 U<|rS (LP (aa.cells x.eM) 0 U cm U U U)<|rS (SX (bj (xs:=[]) (cs:=(aa.cells (aa.mk 0 0))) U U (bk gv U)) U U)<|rS (BI U (sT _ _ x.eM (aa.mk 0 0)))<|rP 2 [] I ?_
 refine aF ?_
 have a:(decide (x.iT=0∧x.eM.Lo=0∧x.eM.Hi=0))=(decide (x.eM=(aa.mk 0 0))):=decide_eq_decide.2 (by (simp only [aa.ext_iff] at *; omega))
 refine aT (jA (cP 7<|np U a<|dy.nil _) (aL [0,1,2]) (G ()))
end
section
open Go.RowKit
theorem Ld (n lo hi:Int) (g1 g2:Nat):
 d_ Tryz.prog 55 [(vI n),(vP g1),(vP g2)] [(b_ g1 3 [(vI lo)]),(b_ g2 3 [(vI hi)])] (vB (decide (n<lo∨hi<n))):=by
 refine bE kr Tryz.func55 U U fun D Q hQ hN=>?_
 try dsimp only
 refine WS fun _ B=>bg 1 U<|RK B<|WS fun _ A=>rP 4 [] (mr 0 U I) ?_
 refine cw (t:=8) U (aQ fun C=>?_) (aP fun C=>?_)
 ·refine rP 5 [] I ?_
  refine RK A<|ar<|Q1 hQ U U U ?_
  exact cB (fP om).symm
 refine rP 5 [] (mr 1 U I) ?_
 refine RK A<|ar<|Q1 hQ U U U ?_
 exact cB (decide_eq_decide.2 om)
theorem jT (lo hi:Int) (l:List Int) (lA:OA) (lC:Nat) (hlen:l.length≤1000000):
 d_ Tryz.prog 32 [(vI lo),(vI hi),(vS lA l.length lC)] [(rd lA l.length 1 (l.map iC))] (vB (pL lo hi l)):=by
 refine bE kr Tryz.func32 U U fun F Q hQ hN=>?_
 try dsimp only
 refine WS fun _ D=>uA U U fun A=>uA U U fun B=>bg 1 U<|RK D<|WS fun _ E=>rP 1 [] I ?_
 refine rS (FU U) ?_
 refine rS (CL (rI l lA lC (Value.func (.func 55) [].toArray [(vP A),(vP B)].toArray) (fun C=>(decide (C<lo∨hi<C))) (fc [(b_ A 3 [(vI lo)]),(b_ B 3 [(vI hi)])]) (by intro C _; exact m8 (fi:=[]) (ca:=[(vP A),(vP B)]) (lR (Ld C lo hi A B) (bh [0,1]))) hlen) (fK 2 U U<|ay (lV (bh [1,0]))<|aK) U) ?_
 refine rP 2 [] I ?_
 refine RK E<|ar ?_
 exact Q1 hQ U U U U
theorem FL (s:aa):
 d_ Tryz.prog 67 [(vA (aa.cells s))] [] (vB (decide (iI s))):=by
 refine bE kr Tryz.func67 U U fun F Q hQ hN=>?_
 try dsimp only
 refine WS fun _ B=>fU U fun E=>bg 1 U<|RK B<|WS fun _ A=>rP 4 [] (mc 0 U I) ?_
 refine cZ (xs:=[.tmp 4,.tmp 6]) (cs:=[(vI s.Lo),(vI s.Hi)]) U cJ jd U U U U (by simp [Value.cells]) U U fun C=>?_
 refine rS (CL (d_.eq (jT 1 600000 ([s.Lo,s.Hi]) (some ⟨C,0,none⟩) 2 (by (simp; done))) qZ) (ay (a_ 0 U U (by simp [bK]) U)<|aK) U) ?_
 refine rP 1 [] I ?_
 refine cf (t:=9) U (aP fun D=>?_) (aQ fun D=>?_)
 ·refine rP 7 [] I ?_
  refine RK A<|ar<|Q1 hQ U U U ?_
  simp only [iI]
  exact cB (cr om).symm
 refine rP 7 [] (mc 1 U I) ?_
 refine RK A<|ar<|Q1 hQ U U U ?_
 simp only [iI]
 exact cB (decide_eq_decide.2 om)
theorem H6 (d:aw) (sgA:OA) (sgC:Nat):
 d_ Tryz.prog 190 [(vA (bw.cells (bw.mk d.Out d.eO d.Time (mo d.cz sgA sgC))))] [(rd sgA d.cz.aj.length 2 (d.cz.aj.map aO.cells))] (vB (decide (l9 d.cz))):=by
 refine bE kr Tryz.func190 U U fun F Q hQ hN=>?_
 try dsimp only
 refine WS fun _ B=>fU U fun E=>bg 1 U<|RK B<|WS fun _ A=>rP 5 [] (mc 0 U I) ?_
 refine cf (t:=7) U (aP fun C=>?_) (aQ fun C=>?_)
 ·refine rP 13 [] I ?_
  refine RK A<|ar<|Q1 hQ U U U ?_
  simp only [l9]
  exact cB (cr om).symm
 refine rP 6 [] (mc 0 U I) ?_
 refine cf (t:=13) U (aP fun D=>?_) (aQ fun D=>?_)
 ·refine rP 7 [] I ?_
  refine RK A<|ar<|Q1 hQ U U U ?_
  simp only [l9]
  exact cB (cr om).symm
 refine rP 7 [] (mc 0 U I) ?_
 refine RK A<|ar<|Q1 hQ U U U ?_
 simp only [l9]
 exact cB (decide_eq_decide.2 om)
theorem SO (d:aw) (sgA:OA) (sgC:Nat):
 d_ Tryz.prog 188 [(vA (bw.cells (bw.mk d.Out d.eO d.Time (mo d.cz sgA sgC))))] [(rd sgA d.cz.aj.length 2 (d.cz.aj.map aO.cells))] (vB d.Out):=by
 refine bE kr Tryz.func188 U U fun D Q hQ hN=>?_
 try dsimp only
 refine WS fun _ A=>fU U fun C=>bg 1 U<|RK A<|WS fun _ B=>rP 3 [] (mc 0 U I) ?_
 refine RK B<|ar<|Q1 hQ U U U ?_
 rfl
theorem Re (d:aw) (sgA:OA) (sgC:Nat):
 d_ Tryz.prog 191 [(vA (bw.cells (bw.mk d.Out d.eO d.Time (mo d.cz sgA sgC))))] [(rd sgA d.cz.aj.length 2 (d.cz.aj.map aO.cells))] (vB d.eO):=by
 refine bE kr Tryz.func191 U U fun D Q hQ hN=>?_
 try dsimp only
 refine WS fun _ A=>fU U fun C=>bg 1 U<|RK A<|WS fun _ B=>rP 3 [] (mc 0 U I) ?_
 refine RK B<|ar<|Q1 hQ U U U ?_
 rfl
theorem To (d:aw) (sgA:OA) (sgC:Nat):
 d_ Tryz.prog 193 [(vA (bw.cells (bw.mk d.Out d.eO d.Time (mo d.cz sgA sgC))))] [(rd sgA d.cz.aj.length 2 (d.cz.aj.map aO.cells))] (vB true):=by
 refine bE kr Tryz.func193 U U fun D Q hQ hN=>?_
 try dsimp only
 refine WS fun _ A=>fU U fun C=>bg 1 U<|RK A<|WS fun _ B=>rP 1 [] I ?_
 refine RK B<|ar<|Q1 hQ U U U ?_
 rfl
end
section
open Go.RowKit
theorem zR (r:cd) (kA:OA) (kC:Nat) (az:List RA) (cA:OA) (cC:Nat) (bA:OA) (bC:Nat) (slA:OA) (slC:Nat) (drA:OA) (drC:Nat) (ha:List cS) (heA:OA) (heC:Nat) (tz:List RA) (tA:OA) (tC:Nat) (ms:Value) (gw:Nat) (l:List Int) (lA:OA) (lC:Nat) (hin:fy r az ha) (hlen:l.length≤1000000):
 d_ Tryz.prog 33 [(vP gw),(vS lA l.length lC)] [(rd kA r.ah.aJ.length 9 (r.ah.aJ.map ao.cells)),(rd cA r.ah.ai.length 2 (List.zipWith au.cells r.ah.ai az)),(fc (aS au.gW r.ah.ai az)),(rd bA r.ah.ag.length 4 (r.ah.ag.map bG.cells)),(rd slA r.aI.length 1 (r.aI.map iC)),(rd drA r.bD.length 1 (r.bD.map iC)),(rd heA r.aq.length 1 (List.zipWith cD r.aq ha)),(fc (aS im r.aq ha)),(rd tA ((cQ r).length) 1 (List.zipWith DA (cQ r) tz)),(fc (aS Mf (cQ r) tz)),(b_ gw 88 (fT.cells (fT.mk (ou r kA kC cA cC bA bC slA slC drA drC heA heC) (aN.mk tA ((cQ r).length) tC) ms))),(rd lA l.length 1 (l.map iC))] (vB (pL 0 ((r.aI.length:Int)-1) l)):=by
 have C:=hin.line
 have G:=hin.iP
 have H:=hin.has
 have E:=hin.iR
 have D:=hin.draw
 have F:=dJ (r:=r)
 refine bE kr Tryz.func33 U U fun AA Q hQ hN=>?_
 try dsimp only
 refine WS fun _ A=>bg 1 U<|RK A<|WS fun _ B=>bg 1 U<|rS (SX (bO U U) U U)<|fF 6 [] (mr 10 U I) U<|rS (CL (jT 0 ((r.aI.length:Int)-1) l lA lC hlen) (bh [11]) U)<|rP 1 [] I ?_
 refine RK B<|ar ?_
 exact Q1 hQ U U U U
theorem w7 (a b:Bool):
 d_ Tryz.prog 35 [(vB a),(vB b)] [] (Value.int .u8 (if a=true then 2 else if b=true then 1 else 0)):=by
 refine bE kr Tryz.func35 U U fun J Q hQ hN=>?_
 try dsimp only
 refine WS fun _ C=>bg 1 U<|RK C<|ak fun _ D=>ax<|WS fun _ E=>rP 2 [] I ?_
 refine RK E<|cE U (fun A=>?_) (fun A=>?_)
 ·refine WS fun _ F=>rP 1 [] I ?_
  refine RK F<|ar<|Q1 hQ U U U ?_
  rw [if_pos A]
 refine WS fun _ G=>rP 2 [] I ?_
 refine RK G<|cE U (fun B=>?_) (fun B=>?_)
 ·refine WS fun _ H=>rP 1 [] I ?_
  refine RK H<|ar<|Q1 hQ U U U ?_
  (rw [if_neg (by rw [A]; decide),if_pos B])
 refine cj<|aH<|KK D<|WS fun _ AA=>rP 1 [] I ?_
 refine RK AA<|ar<|Q1 hQ U U U ?_
 (rw [if_neg (by rw [A]; decide),if_neg (by rw [B]; decide)])
end
section
open Go.RowKit
theorem Qv {P:Program} {t:TypeId} {x y:Operand} {k e:TypeId} {p:Option Nat} (h:P.underlying t=some (.map k e)):g0 P .eql t x y (.map p) (.map none) (.bool p.isNone):=fun w=>by
 have A:(Op.equal t (.map p) (.map none)).run P w= .ok p.isNone w:=by
  unfold Op.equal
  show (Op.equalIn (9999+1) t (.map p) (.map none)).run P w=_
  unfold Op.equalIn
  cases p<;>simp [run_underlying h]
 have B:eqGuard .eql t x y (.map p) (.map none)=pure ():=rfl
 rw [B]
 show (Sem.run P (do let b ← Op.equal t (.map p) (.map none); pure (vB b)) w)=_
 simp [A]
theorem ET {P:Program} {r:Nat} {es:Array MapEntry} {clock:Nat} {w:World} (t:TypeId) (hb:w.heap[r]? =some (.map es clock)):
 (Extern.MapsClone.clone #[.iface t (.map (some r))]).run P w= .ok (.iface t (.map (some w.heap.size))) (w.alloc (.map es clock)):=by
 have e:Extern.MapsClone.clone #[.iface t (.map (some r))]=(getObj r >>= fun o=>match o with
  | .map entries clock=>(newObj (.map entries clock) >>= fun n=>pure (.iface t (.map (some n))))
  |_=>stuck "maps.clone: a map expected"):=rfl
 rw [e]
 simp [MapKept.run_getObj_map hb,Result.andThen,go_sem]
theorem Cf {P:Program} {xt t k e:TypeId} {v:Value} {w:World} (h:P.underlying t=some (.map k e)):(Instr.typeAssert (.iface t v) xt t false).run P w= .ok v w:=by
 simp [Instr.typeAssert,run_underlying h,go_sem,Result.andThen]
theorem nR {C:List av} {g t:Nat} {cs:List Value} {n sz:Nat} {es:List (List Value)} (i:Nat) (hC:C[i]? =some (b_ g t cs).ro) (h1:es.length=n) (h2: ∀ e∈es,e.length=sz) (h3:es.flatten=cs):iq C (rd (some ⟨g,0,none⟩) n sz es).holds:=fun w hw=>
 uB (show (b_ g t cs).holds w from hw (b_ g t cs).ro (aV hC)) h1 h2 ⟨[],by simp [h3]⟩
section
variable {E:fh} {ops:Array Oper} {Q:c_} {rest:List Oper} {D:List Deferred} {L:List (Nat×Value)} {C:List av}
variable {dst:Option Nat} {d:Nat} {ty:TypeId} {ps:String} {af:Array Edge} {g:Option (Nat×Bool)}
theorem Ii {P:Program} {t k e:TypeId} {v:Value} {w:World} (h:P.underlying t=some (.map k e)):(Instr.makeInterface t v).run P w= .ok (.iface t v) w:=by
 simp [Instr.makeInterface,run_underlying h,Result.andThen]
theorem Mn {t k e:TypeId} {x:Operand} {v:Value} (hg:jr ops L g=true) (hx:ev L x=some v) (ht:E.P.underlying t=some (.map k e)):SD E ops ⟨dst,.makeInterface t x,ty,ps,af,g⟩ D L C (.iface t v):=
 dE hg sm fun a w hf _=>by
  have e:=hf.ev hx
  simp only [execOp,e]
  rw [Sem.run_bind,Ii ht]
  simp
theorem S4 {xt t kt et:TypeId} {x:Operand} {v:Value} (hg:jr ops L g=true) (hx:ev L x=some (.iface t v)) (ht:E.P.underlying t=some (.map kt et)):SD E ops ⟨dst,.typeAssert x xt t false,ty,ps,af,g⟩ D L C v:=
 dE hg sm fun a w hf _=>by
  have e:=hf.ev hx
  simp only [execOp,e]
  rw [Sem.run_bind,Cf ht]
  simp
theorem Lh {K:Type} [DecidableEq K] {kV:K→Value} {x:Operand} {ts:Array TypeId} {f:FuncId} {fn:Func} {t b:Nat} {m:List (K×Value)} (hg:jr ops L g=true) (hx:ev L x=some (.iface t (.map (some b)))) (hf:E.P.funcs[f]? =some fn) (hname:(fn.name=="runtime.NumGoroutine")=false)
 (hb:fn.body.isNone=true) (hn:Extern.findNext fn=none) (he:Extern.find fn=some Extern.MapsClone.clone) (hC:iq C (hO kV b m).holds) (hd:Nat.blt d E.n=true) (k: ∀ b',RJ E ops Q rest D ((d,.iface t (.map (some b')))::L) (hO kV b' m::C)):
 RJ E ops Q (⟨some d,.call {callee:= .value (.func f),args:= #[x],argTypes:=ts},ty,ps,af,g⟩::rest) D L C:=by
 intro a w B hs
 have hd':d<E.n:=by rw [← Nat.blt_eq]; exact hd
 obtain ⟨es,c,F,hi⟩:=hC w hs.holds
 unfold rh
 rw [if_pos (dV B hg)]
 refine gM (v:= .iface t (.map (some w.heap.size))) (w':=w.alloc (.map es c)) sm ?_ ?_
 ·have e:=B.ev hx
  have G:a.eval (.func f)= .func (.func f) #[] #[]:=rfl
  simp [execOp,resolve,e,G,Deferred.ofValue,invoke,run_callFunc_extern hf hname hb hn he,ET t F]
 ·refine k _ _ _ (B.put hd' _) (hs.grow (dT.alloc no w _) (N:=[hO kV w.heap.size m]) ⟨fun A hA=>?_,fun A hA b hb=>?_,List.pairwise_singleton _ _⟩)
  ·simp at hA; subst hA; exact ⟨es,c,heap_alloc_new w _,hi⟩
  ·simp at hA; subst hA; exact Nat.le_of_eq (Eq.symm hb)
end
end
section
open Go.RowKit
theorem wK (lA:OA) (lN lC:Nat):
 lq Tryz.prog 51 [(vS lA lN lC)] [] (fun (x:Nat)=>(Value.func (.func 76) [].toArray [(vP x)].toArray)) (fun (x:Nat)=>True) (fun (x:Nat)=>[(b_ x 29 [(vS lA lN lC)])]):=by
 refine dv kr Tryz.func51 U U fun D Q hQ hN=>?_
 try dsimp only
 refine WS fun _ A=>uA U U fun C=>bg 1 U<|RK A<|WS fun _ B=>rS (FU U)<|rP 1 [] I ?_
 refine RK B<|ar<|LX hQ C [0] [] I U U U U ?_
 trivial
theorem H9 (nl:List Int) (nlA:OA) (nlC g1:Nat) (hlen:nl.length≤12):
 NW Tryz.prog 76 [] [(vP g1)] [(rd nlA nl.length 1 (nl.map iC)),(b_ g1 29 [(vS nlA nl.length nlC)])] (qj nl):=by
 refine Ft kr Tryz.func76 U U fun l J Z A0 T Q hY K AB hQ hN=>?_
 try dsimp only
 refine WS fun _ M=>rP 3 [] (mr 2 U I) ?_
 refine RK M<|ax ?_
 have F:(0≤nl.length)∧(J 0 A0)∧(Fo A0 T A0):=by exact ⟨Nat.zero_le _,K,AB⟩
 refine bR (ι:={z:Nat×av // (z.1≤nl.length)∧(J z.1 z.2)∧(Fo A0 T z.2)}) [0,1,5,6] [1] U U (fun z=>[(7,(vI (z.1.1:Int)))]) (fun z=>[z.1.2]) (fun _=>rfl) (fun _=>rfl) (fun z=>nl.length-z.1.1) ⟨(0,A0),F⟩ (aU U) (aL [1,0]) ?_
 clear F
 rintro ⟨⟨i,A⟩,⟨G,B,C⟩⟩ J2 L
 try dsimp only at G B C
 try dsimp only
 refine WS fun _ N=>rP 1 [] I ?_
 refine RK N<|ak fun _ O=>bS U (aP fun AA=>?_) (aQ fun AA=>?_)
 ·refine bB<|ae<|ae<|aA ?_
  refine hN _ _ _ (gU (vs:=[]) trivial fun w hs=>Q5 1 U (by rw [tw]; have e:nl.length=i:=om; rw [e]; exact B) C hs)
 refine WK O<|ak fun _ P=>ax<|WS fun _ R=>?_
 obtain ⟨x,hx⟩:=aM nl i om
 have S:=bQ iC hx
 refine rS (IA i U (aB 0 U) cJ dc om om)<|rS (gh i 0 (vI x) U cm (aB 0 U) S U dc U)<|bg 1 U<|RK R<|WS fun _ H=>rP 2 [] I ?_
 refine Fp 1 hY B C U U U (HT hx) U U (fun B9 E D=>?_) (fun B9 E D=>?_)
 rotate_left 1
 ·refine rP 1 [] I ?_
  refine RK H<|aR U<|ar ?_
  refine hQ _ _ _ (gU (vs:=[]) trivial fun w hs=>OB 1 U E D hs)
 refine bg 1 U<|RK H<|aX U<|cj<|aH<|KK P<|an<|rP 2 [] I ?_
 refine aF ?_
 refine aT (L ⟨((i+1),B9),⟨om,E,D⟩⟩ _ _ _ U os (aU U) (aL [0,1]))
end
section
open Go.RowKit
theorem MI (x:Int):
 d_ Tryz.prog 129 [(vI x)] [] (vB false):=by
 refine bE kr Tryz.func129 U U fun C Q hQ hN=>?_
 try dsimp only
 refine WS fun _ A=>bg 1 U<|RK A<|WS fun _ B=>rP 4 [] I ?_
 refine RK B<|ar<|Q1 hQ U U U ?_
 simp
theorem MK (x y:Int):
 d_ Tryz.prog 92 [(vI x),(vI y)] [] (vB (decide (x<y))):=by
 refine bE kr Tryz.func92 U U fun C Q hQ hN=>?_
 try dsimp only
 refine WS fun _ A=>bg 1 U<|RK A<|WS fun _ B=>bg 1 U<|rS (CL (MI x) (aK) U)<|rP 11 [] I ?_
 refine RK B<|ar<|Q1 hQ U U U ?_
 exact cB (decide_eq_decide.2 om)
theorem HV (l:List Int) (lA:OA) (lC:Nat) (hlen:l.length≤1000000):
 Da Tryz.prog 86 [(vS lA l.length lC),(vI 0),(vI (l.length:Int))] [] (own lA lC 3 1 (l.map iC)) (fun (x:(List Int))=>(vT [])) (fun (x:(List Int))=>x.Perm l∧x.Pairwise (· ≤ ·)) (fun (x:(List Int))=>(own lA lC 3 1 (x.map iC))):=by
 refine mw kr Tryz.func86 U U fun g Q hQ hN=>?_
 try dsimp only
 refine WS fun _ X=>bg 1 U<|rS (SX (cb (r:= .int .i64 1) U U U (ij ⟨dc,dc⟩)) U U)<|rP 1 [] I ?_
 refine RK X<|ax ?_
 have A:(1≤1∧(1≤l.length∨1=1))∧(l.length=l.length)∧(l.Perm l)∧(Px l 1):=by exact ⟨om,rfl,List.Perm.refl _,Nl⟩
 refine bR (ι:={z:Nat×(List Int) // (1≤z.1∧(z.1≤l.length∨z.1=1))∧(z.2.length=l.length)∧(z.2.Perm l)∧(Px z.2 z.1)}) [0,1,2] [] U U (fun z=>[(6,(vI (z.1.1:Int)))]) (fun z=>[(own lA lC 3 1 (z.1.2.map iC))]) (fun _=>rfl) (fun _=>rfl) (fun z=>l.length-z.1.1) ⟨(1,l),A⟩ (aU U) (aL [0]) ?_
 clear A
 rintro ⟨⟨i,m⟩,⟨K,AB,E,F⟩⟩ J2 M
 try dsimp only at K AB E F
 try dsimp only
 refine ak fun _ Y=>WS fun _ Z=>rP 3 [] I ?_
 refine RK Z<|bS U (aP fun e=>?_) (aQ fun e=>?_)
 ·refine bB<|ae<|ae<|aA<|LM hN m 0 [] I U U U U ?_
  exact ⟨E,Om F om⟩
 refine WK Y<|ak fun _ O=>ax<|WS fun _ b=>rP 2 [] I ?_
 refine RK b<|ax ?_
 have A:(i≤i)∧(m.length=l.length)∧(m.Perm l)∧(P5 m i i):=by exact ⟨Nat.le_refl _,AB,E,Ho F om⟩
 refine bR (ι:={z:Nat×(List Int) // (z.1≤i)∧(z.2.length=l.length)∧(z.2.Perm l)∧(P5 z.2 i z.1)}) [0,1,2,6] [] U U (fun z=>[(7,(vI (z.1.1:Int)))]) (fun z=>[(own lA lC 3 1 (z.1.2.map iC))]) (fun _=>rfl) (fun _=>rfl) (fun z=>z.1.1) ⟨(i,m),A⟩ (aU U) (aL [0]) ?_
 clear A
 rintro ⟨⟨j,q⟩,⟨G,B,C,D⟩⟩ J8 W
 try dsimp only at G B C D
 try dsimp only
 refine ak fun _ c=>ak fun _ J=>dh cu 15 kr<|dP 4 [] I ?_
 refine jg (t:=19) U (aP fun hj=>?_) (aQ fun hj=>?_)
 ·refine kX 11 U<|cK<|RK J<|aX U<|bB<|ae<|ae<|aA<|aH<|KK O<|an<|rP 3 [] I ?_
  refine aF ?_
  refine aT (M ⟨((i+1),q),⟨om,B,C,by exact KX om D⟩⟩ _ _ _ U (by simp only []; omega) (aU U) (aL [0]))
 refine dP 2 [] I ?_
 obtain ⟨x,hx⟩:=aM q j om
 have L:=bQ iC hx
 refine dS (IA j U (al (n:=l.length) 0 U sq) cJ dc om om) ?_
 refine dS (gh j 0 (vI x) U cm (al (n:=q.length) 0 U sm) L U dc U)<|dP 3 [] I ?_
 obtain ⟨y,hy⟩:=aM q (j-1) om
 have V:=bQ iC hy
 refine dS (IA (j-1) U (al (n:=l.length) 0 U sq) cJ dc om om) ?_
 refine dS (gh (j-1) 0 (vI y) U cm (al (n:=q.length) 0 U sm) V U dc U)<|dS (CL (MK x y) (aK) U)<|dP 1 [] I ?_
 refine cK<|RK J<|bS U (aP fun H=>?_) (aQ fun H=>?_)
 ·refine bB<|ae<|ae<|aA<|aH<|KK O<|an<|rP 3 [] I ?_
  refine aF ?_
  refine aT (M ⟨((i+1),q),⟨om,B,C,by exact JS hx hy om G H D⟩⟩ _ _ _ U (by simp only []; omega) (aU U) (aL [0]))
 refine WK c<|ak fun _ N=>ax<|dL cu [15,16,17] [8,9,12,13,14] [] [] [0] U U U U U<|eS U (MV U)<|eS U (MV U)<|eS U (MV U)<|eS U (MV U)<|eS U (BI U (rz ⟨om,om⟩))<|eS U (MV U)<|eS U (MV U)<|eS U (BI U (rz ⟨om,om⟩)) ?_
 refine fS U (IA (j-1) U (al (n:=l.length) 0 U sq) cJ dc om om) ?_
 refine fS U (gh (j-1) 0 (vI y) U cm (al (n:=q.length) 0 U sm) V U dc U)<|eS U (MV U)<|eS U (MV U) ?_
 refine fS U (IA j U (al (n:=l.length) 0 U sq) cJ dc om om) ?_
 refine fS U (gh j 0 (vI x) U cm (al (n:=q.length) 0 U sm) L U dc U) ?_
 refine fS U (IA j U (al (n:=l.length) 0 U sq) cJ dc om om) ?_
 refine e9 U<|cq U fun T12 P=>eG (k:=j) (o:=0) (vs:=[(vI y)]) (es':=(List.map iC (q.set j y))) (C':=[(own lA lC 3 1 (List.map iC (q.set j y)))]) 0 U U U AU U U U U L U dc (by exact (List.map_set (f:=iC) (l:=q) (i:=j) (a:=y)).symm) U<|aF (P _ _ (aL []) ?_)
 refine cq U fun T13 R=>?_
 obtain ⟨d,AA⟩:=aM (q.set j y) (j-1) os
 have hx15m:(List.map iC (q.set j y))[(j-1)]? =some (iC d):=by rw [fE,AA]; rfl
 refine rS (IA (j-1) U (al (n:=l.length) 0 U sq) cJ dc om om) ?_
 refine aF (R _ _ (aL []) ?_)
 refine cq U fun T16 S=>eG (k:=(j-1)) (o:=0) (vs:=[(vI x)]) (es':=(List.map iC ((q.set j y).set (j-1) x))) (C':=[(own lA lC 3 1 (List.map iC ((q.set j y).set (j-1) x)))]) 0 U U U AU U U U U hx15m U dc (by exact (List.map_set (f:=iC) (l:=(q.set j y)) (i:=(j-1)) (a:=x)).symm) U<|aF (S _ _ (aL []) ?_)
 refine fO U<|aH<|KK N<|an<|rP 3 [] I ?_
 refine aF ?_
 have T:(vI (((j-1):Nat):Int))=(vI ((j:Int)-1)):=by exact cI om
 refine aT (W ⟨((j-1),((q.set j y).set (j-1) x)),⟨om,by simp; exact B,(HZ hx hy).trans C,I3 hx hy om G H D⟩⟩ _ _ _ U (by simp only []; omega) (cP 4<|bo U T<|dy.nil _) (aL [0]))
theorem Mu (x:Int) (hx:0≤x∧x≤100):
 lq Tryz.prog 96 [(Value.int .u64 x)] [] (fun (x:Int)=>(vI x)) (fun (x:Int)=>True) (fun (x:Int)=>[]):=by
 refine dv kr Tryz.func96 U U fun N Q hQ hN=>?_
 try dsimp only
 refine WS fun _ D=>bg 1 U<|RK D<|ak fun _ E=>WS fun _ F=>rP 1 [] I ?_
 refine rS (BI U FO)<|RK F<|cE U (aQ fun L=>?_) (aP fun L=>?_)
 ·exfalso; omega
 refine WK E<|ak fun _ G=>WS fun _ H=>rP 1 [] I ?_
 refine rS (BI U FO)<|RK H<|cE U (aQ fun M=>?_) (aP fun M=>?_)
 ·exfalso; omega
 refine WK G<|ak fun _ AA=>WS fun _ J=>rP 1 [] I ?_
 refine rS (BI U FO)<|RK J<|cE U (aQ fun C=>?_) (aP fun C=>?_)
 ·exfalso; omega
 refine WK AA<|WS fun _ B=>bg 2 U<|rS (SX (sU (m:=x) U U QW TB (BG (by first|assumption|omega))) U U)<|PT (k:=(x).toNat) U U U Vy om (Nat.lt_of_lt_of_le (m:=200) om (of_decide_eq_true kr)) U fun A K=>rS (SX (sU (m:=A) U U TB oG (uL (by first|assumption|omega))) U U)<|rP 2 [] I ?_
 refine RK B<|ar<|LX hQ (0+A) [] [] I U U U U ?_
 trivial
theorem P_ (x:Int) (hx:0≤x∧x≤100):
 lq Tryz.prog 66 [(Value.int .u64 x)] [] (fun (x:Int)=>(vI x)) (fun (x:Int)=>True) (fun (x:Int)=>[]):=by
 refine dv kr Tryz.func66 U U fun F Q hQ hN=>?_
 try dsimp only
 refine WS fun _ A=>bg 1 U<|RK A<|ak fun _ B=>aX U<|WK B<|WS fun _ C=>rP 1 [] I ?_
 refine cX (Mu x hx) (aK) U fun E D=>?_
 try dsimp only
 refine rP 1 [] I ?_
 refine RK C<|ar<|LX hQ E [] [] I U U U U ?_
 trivial
theorem Rr (l:List Int) (lA:OA) (lC:Nat) (u:Int) (hlen:l.length≤12):
 Da Tryz.prog 65 [(vS lA l.length lC),(vI 0),(vI (l.length:Int)),(vI u)] [] (own lA lC 3 1 (l.map iC)) (fun (x:(List Int))=>(vT [])) (fun (x:(List Int))=>x.Perm l∧x.Pairwise (· ≤ ·)) (fun (x:(List Int))=>(own lA lC 3 1 (x.map iC))):=by
 refine mw kr Tryz.func65 U U fun K Q hQ hN=>?_
 try dsimp only
 refine WS fun _ A=>bg 1 U<|RK A<|WS fun _ B=>bg 1 U<|RK B<|ax<|jO 1<|eu fun R3 AA=>ax<|WS fun _ C=>bg 4 U<|RK C<|ak fun _ H=>WS fun _ D=>rP 2 [] I ?_
 refine RK D<|bS U (aP fun G=>?_) (aQ fun G=>?_)
 ·exfalso; omega
 refine WS fun _ E=>rP 3 [] I ?_
 refine iN 0 U U U U (HV l lA lC om) U j8 U (fun J F=>?_)
 try dsimp only
 refine RK E<|ar<|LM hQ J 0 [] I U U U U ?_
 assumption
theorem zE (l:List Int) (lA:OA) (lC:Nat) (hlen:l.length≤12):
 Da Tryz.prog 44 [(vS lA l.length lC)] [] (own lA lC 3 1 (l.map iC)) (fun (x:(List Int))=>(vT [])) (fun (x:(List Int))=>x.Perm l∧x.Pairwise (· ≤ ·)) (fun (x:(List Int))=>(own lA lC 3 1 (x.map iC))):=by
 refine mw kr Tryz.func44 U U fun F Q hQ hN=>?_
 try dsimp only
 refine WS fun _ A=>bg 3 U<|RK A<|an<|rP 3 [] I ?_
 refine rS (SX (sU (m:=(l.length:Int)) U U oG SJ (AF (by first|assumption|omega))) U U)<|cX (P_ (l.length:Int) om) (aK) U fun E B=>?_
 try dsimp only
 refine iN 0 U U U U (Rr l lA lC E hlen) U j8 U (fun D C=>?_)
 try dsimp only
 refine aF<|LM hN D 0 [] I U U U U ?_
 assumption
end
section
open Go.RowKit
theorem LZ (nl:List Int) (nlA:OA) (nlC g1:Nat) (hlen:nl.length≤12):
 lq Tryz.prog 85 [(vS none 0 0),(Value.func (.func 76) [].toArray [(vP g1)].toArray)] [(rd nlA nl.length 1 (nl.map iC)),(b_ g1 29 [(vS nlA nl.length nlC)])] (fun (x:(OA)×Nat)=>(vS x.1 nl.length x.2)) (fun (x:(OA)×Nat)=>True) (fun (x:(OA)×Nat)=>[(own x.1 x.2 3 1 (nl.map iC))]):=by
 refine dv kr Tryz.func85 U U fun R Q hQ hN=>?_
 try dsimp only
 refine WS fun _ D=>uA U U fun J=>bg 1 U<|RK D<|ak fun _ E=>WS fun _ G=>rP 1 [] I ?_
 refine RK G<|ax<|kg 1 U (by exact fun _ h=>h)<|kg 3 U (by exact fun _ h=>h)<|fY 3 1 ?_
 refine E4 (L0:=[(2,(vP J))]) (F:=[(rd nlA nl.length 1 (nl.map iC)).ro,(b_ g1 29 [(vS nlA nl.length nlC)]).ro]) (xs:=(qj nl)) (fun k (y:(OA)×Nat)=>True) (fun k y=>[(own y.1 y.2 3 1 ((nl.take k).map iC)),(b_ J 29 [(vS y.1 ((nl.take k).length) y.2)]),(rd nlA nl.length 1 (nl.map iC)).ro]) (fun _ (_:Unit)=>False) (fun _ _=>[]) [0,3,4] [2,1] (none,0) U U (H9 nl nlA nlC g1 (by first|assumption|omega|(simp; done))) U U U (by trivial) (by simp only [List.forall_mem_cons,List.not_mem_nil,false_imp_iff,implies_true,and_true]; exact ⟨⟨_,sm,(dC (bV _))⟩,⟨_,sm,(dC (bV _))⟩⟩) (by exact DB) U (aU U) ?_ ?_ (fun _ _ _ h=>h.elim) (fun _ _ h=>h.elim)
 rotate_left 1
 ·rintro O ⟨a,c⟩ AA
  try dsimp only
  rw [yh]
  refine aH<|KK E<|WS fun _ A=>rP 2 [] (mc 4 U I) ?_
  refine RK A<|ar<|hQ _ _ _ (oe 0 U U<|gU (vs:=[(vS a nl.length c)]) ⟨U,trivial⟩ fun w hs=>KM (a,c) [3] ?_ ?_ U U U hs)
  ·rfl
  ·trivial
 rintro k x ⟨a,c⟩ l ra rb S T K5 Qr6 hx K H B L M
 obtain ⟨y,hy,rfl⟩:=HL hx
 try dsimp only
 refine an<|rP 1 [] I ?_
 refine aF<|aT (H _ _ ?_)
 refine ax<|an<|rP 2 [] (mc 2 U I) ?_
 refine cZ (xs:=[.tmp 9]) (cs:=[(vI y)]) U cJ jd U U U U (by simp [Value.cells]) U U fun P=>?_
 refine de (es2:=(List.map iC (nl.take (k+1)))) (m':=(nl.take (k+1)).length) 2 U U U pT U U sm (a_ (es:=List.map iC [y]) 0 U U (by simp [bK]) U) (j6 _) (by simp; omega) (by simp [maxLen]; omega) (by rw [lG hy]; simp) sm U fun N C=>?_
 try dsimp only
 refine TO U AJ U U<|aF<|aH ?_
 exact B (N,C) _ _ (by trivial) (aL [1,2,3,4])
theorem Gx (nl:List Int) (nlA:OA) (nlC g1:Nat) (hlen:nl.length≤12):
 lq Tryz.prog 63 [(Value.func (.func 76) [].toArray [(vP g1)].toArray)] [(rd nlA nl.length 1 (nl.map iC)),(b_ g1 29 [(vS nlA nl.length nlC)])] (fun (x:(OA)×Nat)=>(vS x.1 nl.length x.2)) (fun (x:(OA)×Nat)=>True) (fun (x:(OA)×Nat)=>[(own x.1 x.2 3 1 (nl.map iC))]):=by
 refine dv kr Tryz.func63 U U fun G Q hQ hN=>?_
 try dsimp only
 refine WS fun _ A=>bg 1 U<|RK A<|WS fun _ B=>rP 1 [] I ?_
 refine cX (LZ nl nlA nlC g1 hlen) (bh [0,1]) U fun F E=>?_
 obtain ⟨C,D⟩:=F
 try dsimp only
 refine rP 1 [] I ?_
 refine RK B<|ar<|LX hQ (C,D) [0] [] I U U U U ?_
 trivial
theorem xn (nl:List Int) (nlA:OA) (nlC g1:Nat) (hlen:nl.length≤12):
 lq Tryz.prog 41 [(Value.func (.func 76) [].toArray [(vP g1)].toArray)] [(rd nlA nl.length 1 (nl.map iC)),(b_ g1 29 [(vS nlA nl.length nlC)])] (fun (x:(OA)×Nat)=>(vS x.1 nl.length x.2)) (fun (x:(OA)×Nat)=>True) (fun (x:(OA)×Nat)=>[(own x.1 x.2 3 1 ((dk nl).map iC))]):=by
 refine dv kr Tryz.func41 U U fun J Q hQ hN=>?_
 try dsimp only
 refine WS fun _ B=>bg 1 U<|RK B<|WS fun _ C=>rP 1 [] I ?_
 refine cX (Gx nl nlA nlC g1 hlen) (bh [0,1]) U fun AA H=>?_
 obtain ⟨F,G⟩:=AA
 try dsimp only
 refine bg 1 U<|RK C<|WS fun _ D=>rP 1 [] I ?_
 refine iN 0 U U U U (zE nl F G hlen) U j8 U (fun m A=>?_)
 try dsimp only
 refine RK D<|WS fun _ E=>?_
 obtain rfl:=qg A.1 A.2
 skip
 refine rP 2 [] I ?_
 refine RK E<|ar<|LX hQ (F,G) [0] [] I U U U U ?_
 trivial
end
section
open Go.RowKit
section
variable {K:Type} [DecidableEq K] {kV:K→Value}
variable {E:fh} {ops:Array Oper} {Q:c_} {rest:List Oper} {D:List Deferred} {L:List (Nat×Value)} {C:List av}
variable {ty:TypeId} {ps:String} {af:Array Edge} {g:Option (Nat×Bool)}
theorem pw {t kt et:TypeId} {xm xk:Operand} {ts:Array TypeId} {b:Nat} {x:K} {m m':List (K×Value)} {C':List av} (i:Nat) (hg:jr ops L g=true) (hm:ev L xm=some (.map (some b))) (hk:ev L xk=some (kV x)) (hts:ts[0]? =some t)
 (ht:E.P.underlying t=some (.map kt et)) (hkt:uH E.P kt kV) (hC:C[i]? =some (hO kV b m)) (hm':cp m x=m') (hC':C.set i (hO kV b m')=C') (k:RJ E ops Q rest D L C'):
 RJ E ops Q (⟨none,.call {callee:= .builtin .delete,args:= #[xm,xk],argTypes:=ts},ty,ps,af,g⟩::rest) D L C:=by
 subst hm' hC'
 intro a w A hs
 unfold rh
 rw [if_pos (dV A hg)]
 obtain ⟨es,c,he,hi⟩:=hs.holds _ (aV hC)
 have B:(getObj b).run E.P w= .ok (.map es c) w:=MapKept.run_getObj_map he
 rcases oL (P:=E.P) (w:=w) (x:=x) hkt hi with ⟨F,G⟩|⟨j,AA,F,G,H⟩
 ·refine gM (v:= .tuple #[]) (w':={w with heap:=w.heap.setIfInBounds b (.map es c)}) sm ?_ ?_
  ·simp [execOp,resolve,invoke,builtin,A.ev hm,A.ev hk,Builtin.delete_,hts,run_underlying ht,B,iJ hkt,F,MapKept.run_setObj_map _ he]
  ·refine k _ _ ⟨A.defers,A.size,A.at_⟩ (hs.C9 (b:=b) i hC U U (mP _) (fun _ h=>h) ⟨_,_,oV he,?_⟩)
   rw [Dn G]; exact hi
 ·refine gM (v:= .tuple #[]) (w':={w with heap:=w.heap.setIfInBounds b (.map (es.eraseIdxIfInBounds j) c)}) sm ?_ ?_
  ·simp [execOp,resolve,invoke,builtin,A.ev hm,A.ev hk,Builtin.delete_,hts,run_underlying ht,B,iJ hkt,F,MapKept.run_setObj_map _ he]
  ·exact k _ _ ⟨A.defers,A.size,A.at_⟩ (hs.C9 (b:=b) i hC U U (mP _) (fun _ h=>h) ⟨_,_,oV he,hi.del G⟩)
end
end
section
open Go.RowKit
theorem Ln (n lo hi:Int) (g1 g2:Nat):
 d_ Tryz.prog 140 [(vI n),(vP g1),(vP g2)] [(b_ g1 3 [(vI lo)]),(b_ g2 3 [(vI hi)])] (vB (decide (n<lo∨hi<n))):=by
 refine bE kr Tryz.func140 U U fun D Q hQ hN=>?_
 try dsimp only
 refine WS fun _ B=>bg 1 U<|RK B<|WS fun _ A=>rP 4 [] (mr 0 U I) ?_
 refine cw (t:=8) U (aQ fun C=>?_) (aP fun C=>?_)
 ·refine rP 5 [] I ?_
  refine RK A<|ar<|Q1 hQ U U U ?_
  exact cB (fP om).symm
 refine rP 5 [] (mr 1 U I) ?_
 refine RK A<|ar<|Q1 hQ U U U ?_
 exact cB (decide_eq_decide.2 om)
theorem iM (lo hi:Int) (l:List Int) (lA:OA) (lC:Nat) (hlen:l.length≤1000000):
 d_ Tryz.prog 111 [(vI lo),(vI hi),(vS lA l.length lC)] [(rd lA l.length 1 (l.map iC))] (vB (pL lo hi l)):=by
 refine bE kr Tryz.func111 U U fun F Q hQ hN=>?_
 try dsimp only
 refine WS fun _ D=>uA U U fun A=>uA U U fun B=>bg 1 U<|RK D<|WS fun _ E=>rP 1 [] I ?_
 refine rS (FU U) ?_
 refine rS (CL (rI l lA lC (Value.func (.func 140) [].toArray [(vP A),(vP B)].toArray) (fun C=>(decide (C<lo∨hi<C))) (fc [(b_ A 3 [(vI lo)]),(b_ B 3 [(vI hi)])]) (by intro C _; exact m8 (fi:=[]) (ca:=[(vP A),(vP B)]) (lR (Ln C lo hi A B) (bh [0,1]))) hlen) (fK 2 U U<|ay (lV (bh [1,0]))<|aK) U) ?_
 refine rP 2 [] I ?_
 refine RK E<|ar ?_
 exact Q1 hQ U U U U
theorem Uj (n d:Int) (hd:2≤d):
 d_ Tryz.prog 142 [(vI n),(vI d)] [] (vI (SC n d)):=by
 refine bE kr Tryz.func142 U U fun C Q hQ hN=>?_
 try dsimp only
 refine WS fun _ A=>bg 1 U<|RK A<|WS fun _ B=>bg 2 U<|rS (BI U Qj)<|rS (BI U Jp)<|bg 1 U<|rS (BI U (PQ om (Pt (Si _) hd)))<|rP 1 [] I ?_
 refine RK B<|ar ?_
 exact Q1 hQ U U U U
theorem Pb (n d:Int) (hd:1≤d∧d≤1000000) (hn:0≤n∧n≤1000000000000000):
 d_ Tryz.prog 142 [(vI n),(vI d)] [] (vI (oZ n d)):=by
 refine bE kr Tryz.func142 U U fun C Q hQ hN=>?_
 try dsimp only
 refine WS fun _ A=>bg 1 U<|RK A<|WS fun _ B=>bg 5 U<|rS (BI U (nM om om om))<|rP 1 [] I ?_
 refine RK B<|ar ?_
 exact Q1 hQ U U U U
theorem Fa (c:au) (sA:OA) (sC:Nat) (at_:Int) (hc:e8 c) (ha:0≤at_∧at_≤90000000):
 d_ Tryz.prog 210 [(vA (du.cells (du.mk c.dj (aN.mk sA c.bx.length sC)))),(vI at_)] [(rd sA c.bx.length 3 (c.bx.map cH.cells))] (vA (aa.cells (hU c at_))):=by
 have X:=hc.len
 have J:=hc.rm
 refine bE kr Tryz.func210 U U fun e Q hQ hN=>?_
 try dsimp only
 refine WS fun _ M=>fU U fun b=>AL U di fun d=>RK M<|WS fun _ N=>rS (SX (bj (xs:=[(0,.const (vI (-1099511627776))),(1,.const (vI 1099511627776))]) (cs:=(aa.cells (aa.mk (-1099511627776) 1099511627776))) U U (bk gv U)) U U)<|AL U di fun W=>fW U cv U<|RK N<|ak fun _ O=>ak fun _ P=>?_
 have R:(aa.cells (aa.mk (-1099511627776) 1099511627776))=(aa.cells (gu c at_ 0)):=by rfl
 rw [R]
 refine an<|rP 4 [] (mc 2 U I) ?_
 refine RK P<|ax ?_
 have A:(0≤c.bx.length):=by exact Nat.zero_le _
 refine bR (ι:={z:Nat // (z≤c.bx.length)}) [1,2,4,5,11,12] [1,2,3] U U (fun z=>[(13,(vI (z.1:Int)))]) (fun z=>[(b_ W 38 (aa.cells (gu c at_ z.1)))]) (fun _=>rfl) (fun _=>rfl) (fun z=>c.bx.length-z.1) ⟨0,A⟩ (aU U) (aL [1,2,3,0]) ?_
 clear A
 rintro ⟨i,S⟩ J9 L
 try dsimp only
 refine WS fun _ B=>rP 1 [] I ?_
 refine RK B<|ak fun _ C=>bS U (aP fun K=>?_) (aQ fun K=>?_)
 ·refine bB<|ae<|ae<|aA<|KK O<|WS fun _ G=>rP 1 [] (mc 3 U I) ?_
  refine fW U cv U<|RK G<|ar<|H3 hQ [0] (mc 0 U I) U ?_
  rw [nD (show c.bx.length≤i by omega)]
 refine WK C<|ak fun _ D=>ax<|WS fun _ E=>?_
 obtain ⟨x,hx⟩:=aM c.bx i om
 have AA:=bQ cH.cells hx
 refine rS (IA i U (aB 2 U) p8 dc om om)<|rS (ov i 0 (cH.cells x) U cm (aB 2 U) AA U dc U U)<|AL U ry fun V=>fW U td U<|RK E<|WS fun _ F=>rP 5 [0,1] (mc 2 U (mc 0 U I)) ?_
 have T:=hc.uI hx
 have Z:=Cu hc ha i
 have Y:=FB J ha (show 0≤x.At∧x.At≤90000000 by omega)
 refine fF 5 [] (mc 0 U I) U<|rS (MX U)<|rS (BI U (vg ⟨om,om⟩))<|rS (CL (Pb (c.dj*(max (at_-x.At) (x.At-at_))) 1000000 om om) (aK) U)<|bg 1 U<|RK F<|an<|rP 6 [0,1] (mc 4 U (mc 0 U I)) ?_
 have a:0≤oZ (c.dj*max (at_-x.At) (x.At-at_)) 1000000∧oZ (c.dj*max (at_-x.At) (x.At-at_)) 1000000≤90001:=tO J ha T.1
 refine bg 1 U<|rS (MX U)<|rP 7 [0,1] (mc 4 U (mc 0 U I)) ?_
 refine rS (MN U)<|rS (SX (bj (xs:=[(0,.tmp 37),(1,.tmp 45)]) (cs:=(aa.cells (aa.mk (max ((gu c at_ i).Lo) (x.eC.Lo-(oZ (c.dj*(max (at_-x.At) (x.At-at_))) 1000000))) (min ((gu c at_ i).Hi) (x.eC.Hi+(oZ (c.dj*(max (at_-x.At) (x.At-at_))) 1000000)))))) U U (bk gv U)) U U)<|O5 U cv U<|aF<|aH<|KK D ?_
 have H:(aa.cells (aa.mk (max ((gu c at_ i).Lo) (x.eC.Lo-(oZ (c.dj*(max (at_-x.At) (x.At-at_))) 1000000))) (min ((gu c at_ i).Hi) (x.eC.Hi+(oZ (c.dj*(max (at_-x.At) (x.At-at_))) 1000000)))))=(aa.cells (gu c at_ (i+1))):=by rw [jH hx]; rfl
 rw [H]
 refine an<|rP 2 [] I ?_
 refine aF ?_
 have AB:(vI (((i+1):Nat):Int))=(vI ((i:Int)+1)):=by exact cI om
 refine aT (L ⟨(i+1),(by first|omega|(simp only []; omega))⟩ _ _ _ U os (cP 6<|bo U AB<|dy.nil _) (aL [1,2,3,4]))
theorem QB (c:au) (sA:OA) (sC:Nat) (hlen:c.bx.length≤1000000) (hcap:c.bx.length≤sC):
 d_ Tryz.prog 115 [(vA (du.cells (du.mk c.dj (aN.mk sA c.bx.length sC))))] [(rd sA c.bx.length 3 (c.bx.map cH.cells))] (vB (decide (e8 c))):=by
 refine bE kr Tryz.func115 U U fun w0 Q hQ hN=>?_
 try dsimp only
 refine WS fun _ AO=>fU U fun b2=>bg 1 U<|RK AO<|Av U<|ak fun _ AP=>WS fun _ q=>rP 2 [] (mc 0 U I) ?_
 refine cZ (xs:=[.tmp 11]) (cs:=[(vI c.dj)]) U cJ jd U U U U (by simp [Value.cells]) U U fun b5=>?_
 refine rS (CL (d_.eq (iM 0 1000 ([c.dj]) (some ⟨b5,0,none⟩) 1 (by (simp; done))) cU) (ay (a_ 0 U U (by simp [bK]) U)<|aK) U) ?_
 refine rP 2 [] I ?_
 refine cw (t:=15) U (br fun AZ=>?_) (bq fun AZ=>?_)
 ·refine bg 7 U<|RK q<|aR U<|WS fun _ AR=>rP 1 [] I ?_
  refine RK AR<|ar<|Q1 hQ U U U ?_
  exact cB (cr fun h=>AZ h.rm).symm
 refine rP 3 [] (mc 1 U I) ?_
 refine cZ (xs:=[.tmp 18]) (cs:=[(vI (c.bx.length:Int))]) U cJ jd U U U U (by simp [Value.cells]) U U fun b7=>?_
 refine rS (CL (d_.eq (iM 1 5 ([(c.bx.length:Int)]) (some ⟨b7,0,none⟩) 1 (by (simp; done))) cU) (ay (a_ 0 U U (by simp [bK]) U)<|aK) U) ?_
 refine rP 2 [] I ?_
 refine RK q<|cE U (br fun O=>?_) (bq fun O=>?_)
 ·refine WS fun _ AS=>rP 1 [] I ?_
  refine RK AS<|ar<|Q1 hQ U U U ?_
  exact cB (cr fun h=>O (by have:=h.len; omega)).symm
 refine WK AP<|WS fun _ AT=>bg 1 U<|RK AT<|WS fun _ R=>bg 1 U<|RK R<|ak fun _ S=>zF<|KK S<|ak fun _ K=>WS fun _ T=>rP 4 [] (mc 2 U I) ?_
 refine RK T<|ax ?_
 have B:(0≤c.bx.length)∧(rE c 0):=by exact ⟨Nat.zero_le _,HI⟩
 have r:(vI (j4 c 0))=(vI (-1)):=by rw [gE rfl]
 refine bR (ι:={z:Nat // (z≤c.bx.length)∧(rE c z)}) [1,2,4,24,25] [2,3] U U (fun z=>[(3,(vI (j4 c z.1))),(26,(vI (z.1:Int)))]) (fun z=>[]) (fun _=>rfl) (fun _=>rfl) (fun z=>c.bx.length-z.1) ⟨0,B⟩ (bo U r<|aU U) (aL [2,3]) ?_
 clear B
 rintro ⟨i,⟨L,C⟩⟩ J15 P
 try dsimp only
 have Ab: -1≤j4 c i∧j4 c i≤86400000:=Qs L C
 refine WS fun _ AJ=>rP 1 [] I ?_
 refine RK AJ<|ak fun _ V=>bS U (aP fun AI=>?_) (aQ fun AI=>?_)
 ·refine bB<|ae<|ae<|aA<|KK K<|WS fun _ f=>rP 2 [] I ?_
  refine RK f<|ar<|Q1 hQ U U U ?_
  exact cB (fP (G5 AZ om (by have e:i=c.bx.length:=om; rw [← e]; exact C))).symm
 refine WK V<|ak fun _ W=>ax<|WS fun _ X=>rP 1 [] I ?_
 obtain ⟨x,hx⟩:=aM c.bx i om
 have AW:=bQ cH.cells hx
 refine rS (IA i U (aB 1 U) p8 dc om om)<|rS (ov i 0 (cH.cells x) U cm (aB 1 U) AW U dc U U)<|AL U ry fun AX=>rP 1 [] I ?_
 refine fW U td U<|RK X ?_
 refine ob (ι:=Unit) [1,2,3,5,6,24,25,26] [0,1,2] U U (fun z=>[(4,(vB (decide (fx c i x))))]) (fun z=>[]) (fun _=>rfl) (fun _=>rfl) ?_ fun K22 G=>?_
 ·intro _
  try dsimp only
  refine ak fun _ Y=>WS fun _ Z=>fF 3 [] (mc 1 U I) U<|rS (TH i U p8 om om)<|rP 2 [] I ?_
  refine RK Z<|ax ?_
  have B:(0≤i)∧((decide (fx c i x))=(decide (lU c i x 0))):=by exact ⟨Nat.zero_le _,decide_eq_decide.2 Dx.symm⟩
  refine bR (ι:={z:Nat×Bool // (z.1≤i)∧(z.2=(decide (lU c i x z.1)))}) [1,2,3,5,6,24,25,26,59,60] [0,1,2] U U (fun z=>[(4,(vB z.1.2)),(61,(vI (z.1.1:Int)))]) (fun z=>[]) (fun _=>rfl) (fun _=>rfl) (fun z=>i-z.1.1) ⟨(0,(decide (fx c i x))),B⟩ (aU U) (aL [0,1,2]) ?_
  clear B
  rintro ⟨⟨k,b⟩,⟨M,A⟩⟩ J25 F
  try dsimp only at M A
  try dsimp only
  refine WS fun _ a=>rP 1 [] I ?_
  refine RK a<|ak fun _ d=>bS U (aP fun AK=>?_) (aQ fun AK=>?_)
  ·refine bB<|ae<|ae<|aA<|KK Y<|ak fun _ m=>WS fun _ n=>rP 2 [] I ?_
   refine RK n<|cE U (fun D=>?_) (fun D=>?_)
   ·rw [Bool.not_eq_true'] at D
    refine bB<|ae<|iy U<|ae<|ae<|aA<|KK K<|WS fun _ p=>rP 2 [] I ?_
    refine RK p<|ar<|Q1 hQ U U U ?_
    exact cB (by have e:k=i:=om; rw [e] at A; rw [D] at A ⊢; exact (cr (IW hx (of_decide_eq_false A.symm))).symm)
   rw [Bool.not_eq_false'] at D
   refine WK m<|an<|fF 3 [] (mc 0 U I) U<|aF<|aH<|KK W<|an<|rP 2 [] I ?_
   refine aF ?_
   have AC:(vB true)=(vB b):=by exact cB D.symm
   have AD:(vI (j4 c (i+1)))=(vI x.At):=by rw [nP hx]
   have AE:(vI (((i+1):Nat):Int))=(vI ((i:Int)+1)):=by exact cI om
   refine aT (P ⟨(i+1),⟨om,GA C hx (by have e:k=i:=om; rw [e] at A; exact of_decide_eq_true (A.symm.trans D))⟩⟩ _ _ _ U os (dy.cons U<|dy.cons U<|bo U AC<|dy.cons U<|dy.cons U<|bo U AD<|bo U AE<|dy.nil _) (aL [1,2]))
  refine WK d<|ak fun _ H=>ax<|WS fun _ g=>?_
  obtain ⟨o,ho⟩:=aM c.bx k om
  have AU:=bQ cH.cells ho
  refine rS (RR k U (aB 2 U) p8 dc om om om)<|rS (ov k 0 (cH.cells o) U cm (aB 2 U) AU U dc U U)<|AL U ry fun AY=>fW U td U<|RK g<|WS fun _ l=>fF 6 [0,1,2] (mc 2 U (mc 1 U (mc 0 U I))) U<|rS (BI U Jp)<|rS (BI U PO)<|rS (CL (Uj (AQ (c.dj*(AQ (x.At-o.At)))) 1000000 om) (aK) U)<|bg 1 U<|RK l<|an<|rP 2 [] I ?_
  refine cf (t:=75) U (fun J=>?_) (fun J=>?_)
  ·refine bg 6 U<|bg 16 U<|aF<|aH<|KK H<|an<|rP 2 [] I ?_
   refine aF ?_
   have AB:(vI (((k+1):Nat):Int))=(vI ((k:Int)+1)):=by exact cI om
   refine aT (F ⟨((k+1),false),⟨om,by exact (cr fun h=>by have h2:=((rW ho).1 h).1; rw [A] at J; exact absurd (fP h2) (by rw [J]; decide)).symm⟩⟩ _ _ _ U os (cP 11<|bo U AB<|dy.nil _) (aL [1,2,3]))
  refine rP 6 [0,1] (mc 1 U (mc 0 U I)) ?_
  have AF:lU c i x k:=of_decide_eq_true (A.symm.trans J)
  obtain ⟨AV,Ac,Ad⟩:=uG (fun j y hj hy=>(C j y hj hy).1) hx AF.1 om ho
  have N:=Nv AZ AV
  refine rP 5 [] I ?_
  refine cf (t:=86) U (aP fun E=>?_) (aQ fun E=>?_)
  ·refine bg 11 U<|aF<|aH<|KK H<|an<|rP 2 [] I ?_
   refine aF ?_
   have AA:(vI (((k+1):Nat):Int))=(vI ((k:Int)+1)):=by exact cI om
   refine aT (F ⟨((k+1),false),⟨om,by exact (cr fun h=>by have h2:=((rW ho).1 h).2; rw [N] at E; exact E h2.1).symm⟩⟩ _ _ _ U os (cP 11<|bo U AA<|dy.nil _) (aL [1,2,3]))
  refine fF 11 [0,1] (mc 0 U (mc 1 U I)) U<|aF<|aH<|KK H<|an<|rP 2 [] I ?_
  refine aF ?_
  have w:(vI (((k+1):Nat):Int))=(vI ((k:Int)+1)):=by exact cI om
  refine aT (F ⟨((k+1),(decide ((o.eC.Lo-x.eC.Hi)≤(SC (AQ (c.dj*(AQ (x.At-o.At)))) 1000000)))),⟨om,by exact decide_eq_decide.2 (by rw [rW ho,N]; rw [N] at E; exact ⟨fun h=>⟨AF,E,h⟩,fun h=>h.2.2⟩)⟩⟩ _ _ _ U os (cP 11<|bo U w<|dy.nil _) (aL [1,2,3]))
 refine an<|rP 4 [] (mc 0 U I) ?_
 refine cZ (xs:=[.tmp 34]) (cs:=[(vI x.At)]) U cJ jd U U U U (by simp [Value.cells]) U U fun AG=>?_
 refine rS (CL (d_.eq (iM ((j4 c i)+1) 86400000 ([x.At]) (some ⟨AG,0,none⟩) 1 (by (simp; done))) cU) (ay (a_ 0 U U (by simp [bK]) U)<|aK) U) ?_
 refine rP 1 [] I ?_
 refine cf (t:=37) U (aP fun AM=>?_) (aQ fun AM=>?_)
 ·refine rP 19 [] I ?_
  refine aF ?_
  have v:(decide (fx c i x))=false:=cr (by unfold fx; omega)
  refine aT (jA (cP 8<|np U v<|dy.nil _) (aL [1,2,3]) (G ()))
 refine rP 6 [] (mc 1 U I) ?_
 refine cZ (xs:=[.tmp 40,.tmp 43]) (cs:=[(vI x.eC.Lo),(vI x.eC.Hi)]) U cJ jd U U U U (by simp [Value.cells]) U U fun AH=>?_
 refine rS (CL (d_.eq (iM (-10000) 10000 ([x.eC.Lo,x.eC.Hi]) (some ⟨AH,0,none⟩) 2 (by (simp; done))) qZ) (ay (a_ 0 U U (by simp [bK]) U)<|aK) U) ?_
 refine rP 2 [] I ?_
 refine cf (t:=47) U (aP fun AN=>?_) (aQ fun AN=>?_)
 ·refine rP 9 [] I ?_
  refine aF ?_
  have u:(decide (fx c i x))=false:=cr (by unfold fx; omega)
  refine aT (jA (cP 8<|np U u<|dy.nil _) (aL [2,3,4]) (G ()))
 refine rP 9 [] (mc 2 U I) ?_
 refine aF ?_
 have s:(decide (fx c i x))=(decide (x.eC.Lo≤x.eC.Hi)):=decide_eq_decide.2 (by unfold fx; omega)
 refine aT (jA (cP 8<|np U s<|dy.nil _) (aL [2,3,4]) (G ()))
theorem Tf (ms:List au) (az:List RA) (k:Nat) (m:au) (a:RA) (hm:ms[k]? =some m) (ha:az[k]? =some a) (hc:m.bx.length≤a.2∧m.bx.length≤1000000):
 d_ Tryz.prog 114 [(vA (du.cells (du.mk m.dj (aN.mk a.1 m.bx.length a.2))))] [(fc (aS au.gW ms az))] (vB (!(decide (e8 m)))):=by
 obtain ⟨C,D⟩:=hc
 refine bE kr Tryz.func114 U U fun F Q hQ hN=>?_
 try dsimp only
 refine WS fun _ A=>fU U fun E=>bg 1 U<|RK A<|WS fun _ B=>fF 1 [] (mc 0 U I) U<|rS (CL (QB m a.1 a.2 asm asm) (ay (show iq _ (rd a.1 m.bx.length 3 (m.bx.map cH.cells)).holds from (cT 1 U (bT hm ha (by simp [au.gW]))))<|aK) U)<|rP 2 [] I ?_
 refine RK B<|ar ?_
 exact Q1 hQ U U U U
theorem HD (l:List au) (az:List RA) (lA:OA) (lC:Nat) (f:Value) (p:au→Bool) (X:av) (hf: ∀ (k:Nat) m a,l[k]? =some m→az[k]? =some a→El Tryz.prog f [.agg (au.cells m a).toArray] [X] (.bool (p m))) (hlen:l.length≤1000000) (has:az.length=l.length):
 d_ Tryz.prog 141 [(vS lA l.length lC),f] [(rd lA l.length 2 (List.zipWith au.cells l az)),(fc (aS au.gW l az)),X] (vI (tm p l)):=by
 refine bE kr Tryz.func141 U U fun T Q hQ hN=>?_
 try dsimp only
 refine WS fun _ AA=>bg 1 U<|RK AA<|ak fun _ J=>WS fun _ K=>rP 3 [] I ?_
 refine RK K<|ax ?_
 have B:(0≤l.length)∧((l.take 0).any p=false):=by simp
 refine bR (ι:={z:Nat // (z≤l.length)∧((l.take z).any p=false)}) [0,1,7] [0,1,2] U U (fun z=>[(8,(vI (z.1:Int)))]) (fun z=>[]) (fun _=>rfl) (fun _=>rfl) (fun z=>l.length-z.1) ⟨0,B⟩ (aU U) (aL [0,1,2]) ?_
 clear B
 rintro ⟨i,⟨P,A⟩⟩ J4 H
 try dsimp only
 refine WS fun _ L=>rP 1 [] I ?_
 refine RK L<|ak fun _ M=>bS U (aP fun S=>?_) (aQ fun S=>?_)
 ·refine bB<|ae<|ae<|aA<|KK J<|WS fun _ E=>rP 1 [] I ?_
  refine RK E<|ar<|Q1 hQ U U U ?_
  exact cI (rZ om A).symm
 refine WK M<|ak fun _ N=>ax<|WS fun _ O=>bg 2 U<|RK O<|WS fun _ C=>rP 3 [] I ?_
 obtain ⟨x,hx⟩:=aM l i om
 obtain ⟨xa,G⟩:=aM az i om
 have R:(List.zipWith au.cells l az)[i]? =some (au.cells x xa):=dB hx G
 refine rS (IA i U (aB 0 U) z8 dc om om)<|rS (ov i 0 (du.cells (du.mk x.dj (aN.mk xa.1 x.bx.length xa.2))) U cm (aB 0 U) R U dc U U)<|rS (SX (r_ U U U (hf i x xa hx G) (bh [2])) U U)<|RK C<|cE U (fun hp=>?_) (fun hp=>?_)
 ·refine WS fun _ D=>rP 2 [] I ?_
  refine RK D<|ar<|Q1 hQ U U U ?_
  exact cI (xX hx hp A).symm
 refine cj<|aH<|KK N<|an<|rP 2 [] I ?_
 refine aF ?_
 have F:(vI (((i+1):Nat):Int))=(vI ((i:Int)+1)):=by exact cI om
 refine aT (H ⟨(i+1),⟨om,wT hx A hp⟩⟩ _ _ _ U os (cP 3<|bo U F<|dy.nil _) (aL [0,1,2]))
theorem zO (l:List au) (az:List RA) (lA:OA) (lC:Nat) (f:Value) (p:au→Bool) (X:av) (hf: ∀ (k:Nat) m a,l[k]? =some m→az[k]? =some a→El Tryz.prog f [.agg (au.cells m a).toArray] [X] (.bool (p m))) (hlen:l.length≤1000000) (has:az.length=l.length):
 d_ Tryz.prog 113 [(vS lA l.length lC),f] [(rd lA l.length 2 (List.zipWith au.cells l az)),(fc (aS au.gW l az)),X] (vB (l.any p)):=by
 refine bE kr Tryz.func113 U U fun C Q hQ hN=>?_
 try dsimp only
 refine WS fun _ A=>bg 1 U<|RK A<|WS fun _ B=>bg 2 U<|rS (CL (HD l az lA lC f p X (by exact hf) hlen has) (MD 0 1 2 U U U U U U) U)<|rP 2 [] I ?_
 refine RK B<|ar<|Q1 hQ U U U ?_
 exact cB tP
theorem GB (l:List bG) (lA:OA) (lC:Nat) (f:Value) (p:bG→Bool) (X:av) (hf: ∀ x0,x0∈l→El Tryz.prog f [.agg (bG.cells x0).toArray] [X] (.bool (p x0))) (hlen:l.length≤1000000):
 d_ Tryz.prog 143 [(vS lA l.length lC),f] [(rd lA l.length 4 (l.map bG.cells)),X] (vI (tm p l)):=by
 refine bE kr Tryz.func143 U U fun S Q hQ hN=>?_
 try dsimp only
 refine WS fun _ H=>bg 1 U<|RK H<|ak fun _ AA=>WS fun _ J=>rP 3 [] I ?_
 refine RK J<|ax ?_
 have B:(0≤l.length)∧((l.take 0).any p=false):=by simp
 refine bR (ι:={z:Nat // (z≤l.length)∧((l.take z).any p=false)}) [0,1,7] [0,1] U U (fun z=>[(8,(vI (z.1:Int)))]) (fun z=>[]) (fun _=>rfl) (fun _=>rfl) (fun z=>l.length-z.1) ⟨0,B⟩ (aU U) (aL [0,1]) ?_
 clear B
 rintro ⟨i,⟨O,A⟩⟩ J4 G
 try dsimp only
 refine WS fun _ K=>rP 1 [] I ?_
 refine RK K<|ak fun _ L=>bS U (aP fun R=>?_) (aQ fun R=>?_)
 ·refine bB<|ae<|ae<|aA<|KK AA<|WS fun _ E=>rP 1 [] I ?_
  refine RK E<|ar<|Q1 hQ U U U ?_
  exact cI (rZ om A).symm
 refine WK L<|ak fun _ M=>ax<|WS fun _ N=>bg 2 U<|RK N<|WS fun _ C=>rP 3 [] I ?_
 obtain ⟨x,hx⟩:=aM l i om
 have P:=bQ bG.cells hx
 refine rS (IA i U (aB 0 U) vq dc om om)<|rS (ov i 0 (bG.cells x) U cm (aB 0 U) P U dc U U)<|rS (SX (r_ U U U (hf x (aV hx)) (bh [1])) U U)<|RK C<|cE U (fun hp=>?_) (fun hp=>?_)
 ·refine WS fun _ D=>rP 2 [] I ?_
  refine RK D<|ar<|Q1 hQ U U U ?_
  exact cI (xX hx hp A).symm
 refine cj<|aH<|KK M<|an<|rP 2 [] I ?_
 refine aF ?_
 have F:(vI (((i+1):Nat):Int))=(vI ((i:Int)+1)):=by exact cI om
 refine aT (G ⟨(i+1),⟨om,wT hx A hp⟩⟩ _ _ _ U os (cP 3<|bo U F<|dy.nil _) (aL [0,1]))
theorem AE (l:List bG) (lA:OA) (lC:Nat) (f:Value) (p:bG→Bool) (X:av) (hf: ∀ x0,x0∈l→El Tryz.prog f [.agg (bG.cells x0).toArray] [X] (.bool (p x0))) (hlen:l.length≤1000000):
 d_ Tryz.prog 117 [(vS lA l.length lC),f] [(rd lA l.length 4 (l.map bG.cells)),X] (vB (l.any p)):=by
 refine bE kr Tryz.func117 U U fun C Q hQ hN=>?_
 try dsimp only
 refine WS fun _ A=>bg 1 U<|RK A<|WS fun _ B=>bg 2 U<|rS (CL (GB l lA lC f p X (by exact hf) hlen) (bh [0,1]) U)<|rP 2 [] I ?_
 refine RK B<|ar<|Q1 hQ U U U ?_
 exact cB tP
end
section
open Go.RowKit
theorem po (a:aa) (l:List aa) (lA:OA) (lC:Nat) (ha:lg a) (hl: ∀ z∈l,lg z) (hlen:l.length≤4):
 d_ Tryz.prog 147 [(vA (aa.cells a)),(vS lA l.length lC)] [(rd lA l.length 2 (l.map aa.cells))] (vA (aa.cells (ke a l))):=by
 refine bE kr Tryz.func147 U U fun AA Q hQ hN=>?_
 try dsimp only
 refine WS fun _ AB=>fU U fun R=>AL U di fun T=>RK AB<|ak fun _ J=>WS fun _ K=>rP 3 [] I ?_
 refine RK K<|ax ?_
 have A:(0≤l.length):=by exact Nat.zero_le _
 refine bR (ι:={z:Nat // (z≤l.length)}) [2,4,7,8] [0,2] U U (fun z=>[(9,(vI (z.1:Int)))]) (fun z=>[(b_ R 38 (aa.cells (ke a (l.take z.1))))]) (fun _=>rfl) (fun _=>rfl) (fun z=>l.length-z.1) ⟨0,A⟩ (aU U) (aL [0,2,1]) ?_
 clear A
 rintro ⟨i,N⟩ J6 H
 try dsimp only
 refine WS fun _ L=>rP 1 [] I ?_
 refine RK L<|ak fun _ M=>bS U (aP fun S=>?_) (aQ fun S=>?_)
 ·refine bB<|ae<|ae<|aA<|KK J<|ak fun _ D=>?_
  have G:(aa.cells (ke a (l.take i)))=(aa.cells (ke a l)):=by rw [Ix om]
  rw [G]
  refine an<|rP 1 [] (mc 2 U I) ?_
  refine fW U cv U<|RK D<|ar ?_
  exact H3 hQ [0] (mc 0 U I) U U
 refine WK M<|ak fun _ B=>ax<|WS fun _ C=>?_
 obtain ⟨x,hx⟩:=aM l i om
 have O:=bQ aa.cells hx
 refine rS (IA i U (aB 1 U) jL dc om om)<|rS (ov i 0 (aa.cells x) U cm (aB 1 U) O U dc U U)<|AL U di fun P=>fW U cv U<|RK C<|an ?_
 have hb:=PN ha hl i
 have hz:=hl x (aV hx)
 unfold lg at hz
 refine rP 10 [0,1,0,1] (mc 3 U (mc 0 U I)) ?_
 refine rS (SX (bj (xs:=[(0,.tmp 17),(1,.tmp 22)]) (cs:=(aa.cells (aa.mk (((ke a (l.take i)).Lo)+x.Lo) (((ke a (l.take i)).Hi)+x.Hi)))) U U (bk gv U)) U U)<|Ty U cv U<|aF<|aH<|KK B ?_
 have E:(aa.cells (aa.mk (((ke a (l.take i)).Lo)+x.Lo) (((ke a (l.take i)).Hi)+x.Hi)))=(aa.cells (ke a (l.take (i+1)))):=by rw [zg hx]; rfl
 rw [E]
 refine an<|rP 2 [] I ?_
 refine aF ?_
 have F:(vI ((i+1):Int))=(vI ((i:Int)+1)):=by exact cI om
 refine aT (H ⟨(i+1),(by first|omega|(simp only []; omega))⟩ _ _ _ U os (cP 4<|bo U F<|dy.nil _) (aL [1,2,3]))
theorem E5 (ts:List ao) (tsA:OA) (tsC:Nat) (hlen:ts.length≤1000000) (hside: ∀ x∈ts,0≤x.iT∧x.iT≤255):
 d_ Tryz.prog 144 [(vA (aZ.cells (aZ.mk (aN.mk tsA ts.length tsC))))] [(rd tsA ts.length 9 (ts.map ao.cells))] (vT [(vA (eA.cells (eA.mk (aZ.mk (aN.mk tsA ts.length tsC))))),(vI (if cV ts=true then 0 else 10))]):=by
 refine bE kr Tryz.func144 U U fun E Q hQ hN=>?_
 try dsimp only
 refine WS fun _ A=>fU U fun C=>AL U Kh fun D=>bg 1 U<|RK A<|ak fun _ B=>dh cu 4 kr<|lJ 1 [] (mc 1 U I) U<|dS (SX (bj (xs:=[(0,.tmp 4)]) (cs:=(eA.cells (eA.mk (aZ.mk (aN.mk tsA ts.length tsC))))) U U (bk RU U)) U U)<|lJ 1 [] (mc 1 U I) U<|dS (CL (Bk ts tsA tsC hlen hside) (bh [2]) U)<|cK<|fW U JH U<|rP 1 [] I ?_
 refine RK B<|ar ?_
 exact lf hQ [0] (mc 0 U I) U U
theorem Nn (f:Int) (tsA:OA) (tsN tsC:Nat):
 lq Tryz.prog 158 [(vA (eA.cells (eA.mk (aZ.mk (aN.mk tsA tsN tsC))))),(vI f)] [] (fun (x:Nat×Nat)=>(Value.func (.func 166) [].toArray [(Value.pointer (some ⟨x.1,0,none⟩)),(Value.pointer (some ⟨x.2,0,none⟩))].toArray)) (fun (x:Nat×Nat)=>True) (fun (x:Nat×Nat)=>[(b_ x.1 3 [(vI f)]),(b_ x.2 203 (eA.cells (eA.mk (aZ.mk (aN.mk tsA tsN tsC)))))]):=by
 refine dv kr Tryz.func158 U U fun E Q hQ hN=>?_
 try dsimp only
 refine WS fun _ A=>fU U fun C=>uA U U fun D=>bg 1 U<|RK A<|WS fun _ B=>rS (FU U)<|rP 1 [] I ?_
 refine RK B<|ar<|LX hQ (D,C) [0,1] [] I U U U U ?_
 trivial
theorem Ha (ts:List ao) (tsA:OA) (tsC:Nat) (f:Int) (g1 g2:Nat) (hst: ∀ x∈ts,bP x) (hlen:ts.length≤12) (hf:0≤f∧f≤ts.length):
 NW Tryz.prog 166 [] [(vP g1),(vP g2)] [(rd tsA ts.length 9 (ts.map ao.cells)),(b_ g1 3 [(vI f)]),(b_ g2 203 (eA.cells (eA.mk (aZ.mk (aN.mk tsA ts.length tsC)))))] (s9 ts f.toNat):=by
 refine Ft kr Tryz.func166 U U fun l J Z A0 p Q hY g d hQ hN=>?_
 try dsimp only
 refine WS fun _ h=>AL U di fun n=>AL U di fun o=>RK h<|WS fun _ i=>rP 2 [] (mr 4 U I) ?_
 refine RK i<|ax ?_
 have P:(0≤ts.length-f.toNat)∧(J 0 A0)∧(Fo A0 p A0):=by exact ⟨Nat.zero_le _,g,d⟩
 have m:(vI (f+(0:Int)))=(vI f):=by exact cI om
 refine bR (ι:={z:Nat×av // (z.1≤ts.length-f.toNat)∧(J z.1 z.2)∧(Fo A0 p z.2)}) [0,1,2,4,5] [3,4,5] U U (fun z=>[(6,(vI (f+(z.1.1:Int))))]) (fun z=>[(b_ o 38 (aa.cells (gk ts f.toNat z.1.1))),(b_ n 38 (aa.cells (eI ts f.toNat z.1.1))),z.1.2]) (fun _=>rfl) (fun _=>rfl) (fun z=>ts.length-f.toNat-z.1.1) ⟨(0,A0),P⟩ (bo U m<|dy.nil _) (aL [3,4,5,0,1,2]) ?_
 clear P
 rintro ⟨⟨k,A⟩,⟨W,R,S⟩⟩ J6 V
 try dsimp only at W R S
 try dsimp only
 refine ak fun _ j=>WS fun _ X=>rP 3 [0,1] (mc 4 U (mc 3 U I)) ?_
 refine Fp 5 hY R S U U U (yz om) U U (fun B9 C B=>?_) (fun B9 C B=>?_)
 rotate_left 1
 ·refine rP 8 [] I ?_
  refine RK X<|aX U<|bB<|ae<|ae<|aA ?_
  refine hN _ _ _ (gU (vs:=[]) trivial fun w hs=>OB 5 U C B hs)
 refine rP 8 [] (mr 2 U I) ?_
 refine RK X<|bS U (aP fun c=>?_) (aQ fun c=>?_)
 ·refine bB<|ae<|ae<|aA ?_
  refine hN _ _ _ (gU (vs:=[]) trivial fun w hs=>Q5 5 U (by rw [tj]; have e:ts.length-f.toNat+1=k+1:=om; rw [e]; exact C) B hs)
 refine WK j<|ak fun _ M=>ax<|pq cu [0,1,2,3,4,5,6,7,10,11,12,13,14,15,16,17] [8,9,18,19,20,21] [true,false,false,false,false,false,false,false,true,false,false,false,false,false,false,false] [8,9,18] [(rd tsA ts.length 9 (ts.map ao.cells)).ro,(b_ g1 3 [(vI f)]).ro,(b_ g2 203 (eA.cells (eA.mk (aZ.mk (aN.mk tsA ts.length tsC))))).ro,B9] [(rd tsA ts.length 9 (ts.map ao.cells)).ro,(b_ g1 3 [(vI f)]).ro,(b_ g2 203 (eA.cells (eA.mk (aZ.mk (aN.mk tsA ts.length tsC))))).ro,(b_ o 38 (aa.cells (gk ts f.toNat k))),(b_ n 38 (aa.cells (eI ts f.toNat k))),B9] kr (aL [0,1,2,5]) (aL [0,1,2,3,4,5])<|fS U (LW 4 U cm U U)<|eS U (FA 0 U fB U)<|eS U (FA 0 U fB U)<|eS U (H0 (vS tsA ts.length tsC) 2 U cm U U)<|eS U (MV U) ?_
 obtain ⟨x,hx⟩:=aM ts (f.toNat+k) om
 have a:=bQ ao.cells hx
 refine eS U (IA (f.toNat+k) U (aB 0 U) yg dc om om) ?_
 have L:=hst x (aV hx)
 refine eS U (mK (((f.toNat+k)*9)+1) U (aB 0 U) (Nat.mul_pos om dc) fB U)<|eS U (ov (f.toNat+k) 1 (aa.cells x.kf) U cm (aB 0 U) a U dc U U)<|fS U (LW 3 U cm U U)<|eS U (FA 0 U fB U)<|eS U (FA 0 U fB U)<|eS U (H0 (vS tsA ts.length tsC) 2 U cm U U)<|eS U (MV U)<|eS U (IA (f.toNat+k) U (aB 0 U) yg dc om om)<|eS U (mK (((f.toNat+k)*9)+3) U (aB 0 U) (Nat.mul_pos om dc) fB U)<|eS U (ov (f.toNat+k) 3 (aa.cells x.lB) U cm (aB 0 U) a U dc U U)<|e9 U<|i_ [8,18] kr (eN ?_<|eN ?_<|kM)
 rotate_left 1
 ·refine vi (rem':=[8,9,19,20,21]) U kr fun T14 N=>cZ (xs:=[.tmp 39]) (cs:=(aa.cells x.lB)) U jL di U U U U (by simp [Value.cells,aa.aW]) U U fun T=>aF (N _ _ (aL [1,2,3,6]) (aL [1,2,3,4,5,6]) ?_)
  refine N1 8<|vi (rem':=[9,19,20,21]) U kr fun T16 D=>cZ (xs:=[.tmp 29]) (cs:=(aa.cells x.kf)) U jL di U U U U (by simp [Value.cells,aa.aW]) U U fun AA=>aF (D _ _ (aL [2,3,4,7]) (aL [2,3,4,5,6,7]) ?_)
  refine N1 9<|vi (rem':=[19,20,21]) U kr fun T18 O=>?_
  refine rS (CL (d_.eq (po (eI ts f.toNat k) ([x.kf]) (some ⟨AA,0,none⟩) 1 (by exact qo hst om) (by intro z hz; simp only [bX] at hz; subst hz; exact uk L) sm) nF) (ay (a_ 0 rfl rfl (by simp [aa.aW]) rfl)<|aK) rfl) ?_
  refine aF (O _ _ (aL [2,3,4,7]) (aL [2,3,4,5,6,7]) ?_)
  refine N1 19<|NO U U [20,21] fun T19 E=>?_
  refine rS (CL (d_.eq (po (gk ts f.toNat k) ([x.lB]) (some ⟨T,0,none⟩) 1 (by exact wZ hst om) (by intro z hz; simp only [bX] at hz; subst hz; exact uC L) sm) nF) (ay (a_ 1 rfl rfl (by simp [aa.aW]) rfl)<|aK) rfl) ?_
  refine aF (E _ _ (aL [2,3,4,7]) ?_)
  refine N1 20<|NO U U [21] fun T20 F=>OU U cv U<|aF (F _ _ (aL [2,3,4,7]) ?_)
  refine N1 21<|NO U U [] fun T21 G=>H4 U cv U<|aF (G _ _ (aL [2,3,4,7]) ?_)
  refine pP<|aH<|KK M ?_
  have H:(aa.cells (mg (eI ts f.toNat k) x.kf))=(aa.cells (eI ts f.toNat (k+1))):=by rw [px hx]
  rw [H]
  have AB:(aa.cells (mg (gk ts f.toNat k) x.lB))=(aa.cells (gk ts f.toNat (k+1))):=by rw [pB hx]
  rw [AB]
  refine an<|rP 3 [] I ?_
  refine aF ?_
  have K:(vI (f+(((k+1):Nat):Int)))=(vI ((f+(k:Int))+1)):=by exact cI om
  refine aT (V ⟨((k+1),B9),⟨om,C,B⟩⟩ _ _ _ U os (cP 5<|bo U K<|dy.nil _) (aL [2,3,4,5,6,7]))
 refine vi (rem':=[9,18,19,20,21]) U kr fun T14 N=>cZ (xs:=[.tmp 29]) (cs:=(aa.cells x.kf)) U jL di U U U U (by simp [Value.cells,aa.aW]) U U fun T=>aF (N _ _ (aL [1,2,3,6]) (aL [1,2,3,4,5,6]) ?_)
 refine i_ [9,18] kr (eN ?_<|eN ?_<|kM)
 rotate_left 1
 ·refine vi (rem':=[9,19,20,21]) U kr fun T16 D=>cZ (xs:=[.tmp 39]) (cs:=(aa.cells x.lB)) U jL di U U U U (by simp [Value.cells,aa.aW]) U U fun AA=>aF (D _ _ (aL [2,3,4,7]) (aL [2,3,4,5,6,7]) ?_)
  refine N1 9<|vi (rem':=[19,20,21]) U kr fun T18 O=>?_
  refine rS (CL (d_.eq (po (eI ts f.toNat k) ([x.kf]) (some ⟨T,0,none⟩) 1 (by exact qo hst om) (by intro z hz; simp only [bX] at hz; subst hz; exact uk L) sm) nF) (ay (a_ 1 rfl rfl (by simp [aa.aW]) rfl)<|aK) rfl) ?_
  refine aF (O _ _ (aL [2,3,4,7]) (aL [2,3,4,5,6,7]) ?_)
  refine N1 19<|NO U U [20,21] fun T19 E=>?_
  refine rS (CL (d_.eq (po (gk ts f.toNat k) ([x.lB]) (some ⟨AA,0,none⟩) 1 (by exact wZ hst om) (by intro z hz; simp only [bX] at hz; subst hz; exact uC L) sm) nF) (ay (a_ 0 rfl rfl (by simp [aa.aW]) rfl)<|aK) rfl) ?_
  refine aF (E _ _ (aL [2,3,4,7]) ?_)
  refine N1 20<|NO U U [21] fun T20 F=>OU U cv U<|aF (F _ _ (aL [2,3,4,7]) ?_)
  refine N1 21<|NO U U [] fun T21 G=>H4 U cv U<|aF (G _ _ (aL [2,3,4,7]) ?_)
  refine pP<|aH<|KK M ?_
  have H:(aa.cells (mg (eI ts f.toNat k) x.kf))=(aa.cells (eI ts f.toNat (k+1))):=by rw [px hx]
  rw [H]
  have AB:(aa.cells (mg (gk ts f.toNat k) x.lB))=(aa.cells (gk ts f.toNat (k+1))):=by rw [pB hx]
  rw [AB]
  refine an<|rP 3 [] I ?_
  refine aF ?_
  have K:(vI (f+(((k+1):Nat):Int)))=(vI ((f+(k:Int))+1)):=by exact cI om
  refine aT (V ⟨((k+1),B9),⟨om,C,B⟩⟩ _ _ _ U os (cP 5<|bo U K<|dy.nil _) (aL [2,3,4,5,6,7]))
 refine vi (rem':=[18,19,20,21]) U kr fun T16 D=>?_
 refine rS (CL (d_.eq (po (eI ts f.toNat k) ([x.kf]) (some ⟨T,0,none⟩) 1 (by exact qo hst om) (by intro z hz; simp only [bX] at hz; subst hz; exact uk L) sm) nF) (ay (a_ 0 rfl rfl (by simp [aa.aW]) rfl)<|aK) rfl) ?_
 refine aF (D _ _ (aL [1,2,3,6]) (aL [1,2,3,4,5,6]) ?_)
 refine N1 18<|vi (rem':=[19,20,21]) U kr fun T17 Y=>cZ (xs:=[.tmp 39]) (cs:=(aa.cells x.lB)) U jL di U U U U (by simp [Value.cells,aa.aW]) U U fun b=>aF (Y _ _ (aL [2,3,4,7]) (aL [2,3,4,5,6,7]) ?_)
 refine N1 19<|NO U U [20,21] fun T19 E=>?_
 refine rS (CL (d_.eq (po (gk ts f.toNat k) ([x.lB]) (some ⟨b,0,none⟩) 1 (by exact wZ hst om) (by intro z hz; simp only [bX] at hz; subst hz; exact uC L) sm) nF) (ay (a_ 0 rfl rfl (by simp [aa.aW]) rfl)<|aK) rfl) ?_
 refine aF (E _ _ (aL [2,3,4,7]) ?_)
 refine N1 20<|NO U U [21] fun T20 F=>OU U cv U<|aF (F _ _ (aL [2,3,4,7]) ?_)
 refine N1 21<|NO U U [] fun T21 G=>H4 U cv U<|aF (G _ _ (aL [2,3,4,7]) ?_)
 refine pP<|aH<|KK M ?_
 have H:(aa.cells (mg (eI ts f.toNat k) x.kf))=(aa.cells (eI ts f.toNat (k+1))):=by rw [px hx]
 rw [H]
 have AB:(aa.cells (mg (gk ts f.toNat k) x.lB))=(aa.cells (gk ts f.toNat (k+1))):=by rw [pB hx]
 rw [AB]
 refine an<|rP 3 [] I ?_
 refine aF ?_
 have K:(vI (f+(((k+1):Nat):Int)))=(vI ((f+(k:Int))+1)):=by exact cI om
 refine aT (V ⟨((k+1),B9),⟨om,C,B⟩⟩ _ _ _ U os (cP 5<|bo U K<|dy.nil _) (aL [2,3,4,5,6,7]))
theorem Kf (ts:List ao) (tsA:OA) (tsC:Nat) (f t:Int) (hst: ∀ x∈ts,bP x) (hlen:ts.length≤12) (hf:0≤f∧f≤t∧t≤ts.length):
 d_ Tryz.prog 146 [(vA (eA.cells (eA.mk (aZ.mk (aN.mk tsA ts.length tsC))))),(vI f),(vI t)] [(rd tsA ts.length 9 (ts.map ao.cells))] (vT [(vA (aa.cells (eI ts f.toNat (t-f).toNat))),(vA (aa.cells (gk ts f.toNat (t-f).toNat)))]):=by
 refine bE kr Tryz.func146 U U fun w0 Q hQ hN=>?_
 try dsimp only
 refine WS fun _ M=>fU U fun a=>uA U U fun b=>uA U U fun d=>AL U di fun e=>AL U di fun g=>RK M<|ak fun _ AA=>WS fun _ V=>rP 2 [0,1] (mc 4 U (mc 3 U I)) ?_
 refine cX (Nn f tsA ts.length tsC) (aK) U fun u n=>?_
 obtain ⟨B,C⟩:=u
 try dsimp only
 refine RK V<|ax<|kg 7 U (by exact fun _ h=>h) ?_
 refine E4 (L0:=[(3,(vP a)),(4,(vP b)),(5,(vP d)),(6,(vP e)),(7,(vP g))]) (F:=[(rd tsA ts.length 9 (ts.map ao.cells)).ro,(b_ B 3 [(vI f)]),(b_ C 203 (eA.cells (eA.mk (aZ.mk (aN.mk tsA ts.length tsC)))))]) (xs:=(s9 ts f.toNat)) (fun k (y:aa×aa×Int)=>(k≤(t-f).toNat)∧(y.2.2=f+(k:Int))) (fun k y=>[(b_ g 38 (aa.cells y.2.1)),(b_ e 38 (aa.cells y.1)),(b_ d 3 [(vI t)]),(b_ b 3 [(vI y.2.2)]),(b_ a 203 (eA.cells (eA.mk (aZ.mk (aN.mk tsA ts.length tsC))))),(rd tsA ts.length 9 (ts.map ao.cells)).ro]) (fun c (z:Unit)=>(c= .exit 0)) (fun _ z=>[(b_ g 38 (aa.cells (gk ts f.toNat (t-f).toNat))),(b_ e 38 (aa.cells (eI ts f.toNat (t-f).toNat))),(b_ d 3 [(vI t)]),(b_ b 3 [(vI t)]),(b_ a 203 (eA.cells (eA.mk (aZ.mk (aN.mk tsA ts.length tsC))))),(rd tsA ts.length 9 (ts.map ao.cells)).ro]) [3,4,5,6,7,8] [0,1,2] (dA,dA,f) U U (Ha ts tsA tsC f B C (by first|assumption|omega|(simp; done)) (by first|assumption|omega|(simp; done)) om) U U U (by exact ⟨Nat.zero_le _,sm⟩) (by simp only [List.forall_mem_cons,List.not_mem_nil,false_imp_iff,implies_true,and_true]; exact ⟨⟨_,sm,(dC (bV _))⟩,⟨_,sm,(bV _)⟩,⟨_,sm,(bV _)⟩⟩) (by exact Ew) U (aU U) ?_ ?_ ?_ ?_
 rotate_left 1
 ·rintro q ⟨v,z2,m⟩ J
  obtain ⟨A,K⟩:=J
  try dsimp only at A K
  try dsimp only
  exfalso; rw [tj] at A; omega
 ·rintro r id _ Y
  have hc:=Y
  cases hc
  try dsimp only
  refine aA<|KK AA<|ak fun _ D=>dL cu [2,3] [] [] [0,1,2,3,4,5,6,7,8,9] [] U U U U U<|eS U (LW 5 U cm U U)<|eS U (LW 4 U cm U U)<|e9 U<|cq U fun T30 E=>H4 U cv U<|aF (E _ _ (aL [0,1,2,3,4,5,6,7,8,9]) ?_)
  refine cq U fun T31 G=>O5 U cv U<|aF (G _ _ (aL [0,1,2,3,4,5,6,7,8,9]) ?_)
  refine fO U<|KK D<|ar<|hQ _ _ _ (oe 0 U U<|gU (vs:=[(vA (aa.cells (eI ts f.toNat (t-f).toNat))),(vA (aa.cells (gk ts f.toNat (t-f).toNat)))]) ⟨⟨_,U,.inl ⟨_,_,cm,pz (vs:=(aa.cells (eI ts f.toNat (t-f).toNat))) 5 U U,U,U⟩⟩,⟨_,U,.inl ⟨_,_,cm,pz (vs:=(aa.cells (gk ts f.toNat (t-f).toNat))) 4 U U,U,U⟩⟩,trivial⟩ fun w hs=>EA ?_ hs)
  show (vT [(vA (aa.cells (eI ts f.toNat (t-f).toNat))),(vA (aa.cells (gk ts f.toNat (t-f).toNat)))])=(vT [(vA (aa.cells (eI ts f.toNat (t-f).toNat))),(vA (aa.cells (gk ts f.toNat (t-f).toNat)))])
  clear hs w hQ hN G T31 E T30 D V AA M
  rfl
 ·rintro s _ Z
  cases Z
 rintro k x ⟨v,z2,m⟩ l ra rb S w1 K13 Qr14 hx AB N H L j
 obtain ⟨hk,rfl⟩:=Gk hx
 obtain ⟨A,K⟩:=AB
 try dsimp only at A K
 try dsimp only
 refine WS fun _ O=>AL U di fun o=>fW U cv U<|RK O<|an<|AL U di fun p=>fW U cv U<|aF<|jA (fun _ _ h=>h) (aL [2,0,1,3,4,5,6,7,8])<|aT (N _ _ ?_)
 refine ax<|ak fun _ P=>ak fun _ R=>dL cu [2,3] [] [] [0,1,2,5,6,7,8] [] U U U U U<|eS U (LW 2 U cm U U)<|eS U (LW 1 U cm U U)<|e9 U<|cq U fun T21 W=>O5 U cv U<|aF (W _ _ (aL [0,1,2,5,6,7,8]) ?_)
 refine cq U fun T22 X=>Ty U cv U<|aF (X _ _ (aL [0,1,2,5,6,7,8]) ?_)
 refine fO U<|KK R<|WS fun _ T=>rP 3 [0,1] (mc 6 U (mc 5 U I)) ?_
 refine RK T<|cE U (aQ fun i=>?_) (aP fun i=>?_)
 ·refine bB<|ae<|iy U ?_
  rw [show m=t from by omega]
  obtain rfl:k=(t-f).toNat:=by omega
  exact L _ () _ _ (by exact U) (aL [0,3,4,5,6,7,8])
 refine WK P<|an<|rP 2 [] (mc 6 U I) ?_
 refine VD U AU U U<|aF<|aH ?_
 exact H ((eI ts f.toNat k),(gk ts f.toNat k),(m+1)) _ _ (by refine ⟨om,?_⟩; dsimp only; omega) (aL [0,3,4,5,6,7,8])
end
section
open Go.RowKit
theorem GL (i:Int) (s:cM) (ts:List ao) (tsA:OA) (tsC g1:Nat) (hst: ∀ x∈ts,bP x) (hlen:ts.length≤12):
 d_ Tryz.prog 157 [(vI i),(vA (cM.cells s)),(vP g1)] [(rd tsA ts.length 9 (ts.map ao.cells)),(b_ g1 203 (eA.cells (eA.mk (aZ.mk (aN.mk tsA ts.length tsC)))))] (vB (!(decide (fu ts s)))):=by
 refine bE kr Tryz.func157 U U fun AA Q hQ hN=>?_
 try dsimp only
 refine WS fun _ C=>fU U fun G=>rP 1 [] I ?_
 refine RK C<|ak fun _ A=>pq cu [0,1,2,3,4,5,6] [7,8,9,10,11,12,13,14,15,16,17,18,19,20,21,22,23,24,25,26] [false,false,false,false,false,false,false] [] [(b_ G 119 (cM.cells s)),(rd tsA ts.length 9 (ts.map ao.cells)).ro,(b_ g1 203 (eA.cells (eA.mk (aZ.mk (aN.mk tsA ts.length tsC))))).ro] [] kr (aL [0,1,2]) (aL [])<|eS U (FA 0 U fB U)<|eS U (FA 0 U fB U)<|eS U (H0 (vS tsA ts.length tsC) 2 U cm U U)<|eS U (LN U Qz)<|eS U (BI U (rz ⟨om,om⟩))<|eS U (FA 0 U fB U)<|eS U (L1 (vI s.aY) 0 U cm U U)<|e9 U<|N1 7<|NO U U [8,9,10,11,12,13,14,15,16,17,18,19,20,21,22,23,24,25,26] fun T4 D=>cZ (xs:=[.tmp 12]) (cs:=[(vI s.aY)]) U cJ jd U U U U (by simp [Value.cells]) U U fun H=>RD D 1 U<|JC [14,15,16,17,18,19,20,21,22,23,24,25,26,27,28,29,30,31,5] kr kr U _ U U (aL [1,2,3]) ?_
 refine dS (CL (d_.eq (oB 0 ((ts.length:Int)-1) ([s.aY]) (some ⟨H,0,none⟩) 1 (by (simp; done))) cU) (ay (a_ 0 U U (by simp [bK]) U)<|aK) U) ?_
 refine dP 2 [] I ?_
 refine ja (t:=16) U (br fun B=>?_) (bq fun B=>?_)
 ·refine kX 9 U<|dP 7 [] I ?_
  refine cK<|RK A<|ar<|Q1 hQ U U U ?_
  (refine cB ?_; rw [cr (Cz om)]; rfl)
 refine kX 1 U<|dS (LP (aa.cells s.mm) 1 U cm U U U)<|dP 5 [0,1] (mr 3 U (mc 1 U I)) ?_
 obtain ⟨x,hx⟩:=aM ts ((s.aY).toNat) om
 have E:=bQ ao.cells hx
 refine dS (IA ((s.aY).toNat) U (aB 2 U) yg dc om om)<|dS (mK ((((s.aY).toNat)*9)+1) U (aB 2 U) (Nat.mul_pos om dc) fB U) ?_
 have F:=(hst x (aV hx)).2.1
 simp only [dN] at F
 refine dS (mK ((((s.aY).toNat)*9)+1) U (aB 2 U) (Nat.mul_pos om dc) fB U)<|dS (gh ((s.aY).toNat) 1 (vI x.kf.Lo) U cm (aB 2 U) E U dc U)<|kX 1 U<|dS (CL (vX s.mm 0 (x.kf.Lo-1)) (aK) U)<|dP 3 [] I ?_
 refine cK<|RK A<|ar<|Q1 hQ U U U ?_
 exact congrArg (fun b=>vB (!b)) (decide_eq_decide.2 (Cm om hx).symm)
theorem Ej (l:List cM) (lA:OA) (lC:Nat) (f:Value) (p:Int→cM→Bool) (X:av) (hf: ∀ x0 x1,(∃ k:Nat,x0=(k:Int)∧l[k]? =some x1)→El Tryz.prog f [.int .i64 x0,.agg (cM.cells x1).toArray] [X] (.bool (p x0 x1))) (hlen:l.length≤1000000):
 lq Tryz.prog 156 [(vS lA l.length lC),f] [(rd lA l.length 3 (l.map cM.cells)),X] (fun (x:(OA)×Nat)=>(vS x.1 ((Lx (fun jj yy=>p (jj:Int) yy) l).length) x.2)) (fun (x:(OA)×Nat)=>True) (fun (x:(OA)×Nat)=>[(own x.1 x.2 3 1 ((Lx (fun jj yy=>p (jj:Int) yy) l).map iC))]):=by
 refine dv kr Tryz.func156 U U fun W Q hQ hN=>?_
 try dsimp only
 refine WS fun _ L=>bg 1 U<|RK L<|WS fun _ M=>bg 1 U<|RK M<|ak fun _ N=>WS fun _ O=>rP 3 [] I ?_
 refine RK O<|ax<|fY 3 1 ?_
 have A:(0≤l.length):=by exact Nat.zero_le _
 refine bR (ι:={z:Nat×(OA)×Nat // (z.1≤l.length)}) [0,1,8,9] [1,2] U U (fun z=>[(5,(vS z.1.2.1 ((rQ (fun jj yy=>p (jj:Int) yy) l z.1.1).length) z.1.2.2)),(10,(vI (z.1.1:Int)))]) (fun z=>[(own z.1.2.1 z.1.2.2 3 1 ((rQ (fun jj yy=>p (jj:Int) yy) l z.1.1).map iC))]) (fun _=>rfl) (fun _=>rfl) (fun z=>l.length-z.1.1) ⟨(0,none,0),A⟩ (aU U) (aL [1,2,0]) ?_
 clear A
 rintro ⟨⟨i,a,c⟩,B⟩ J5 C
 try dsimp only at B
 try dsimp only
 refine WS fun _ P=>rP 1 [] I ?_
 refine RK P<|ak fun _ R=>bS U (aP fun V=>?_) (aQ fun V=>?_)
 ·refine bB<|ae<|ae<|aA<|KK N<|WS fun _ F=>?_
  rw [Nr (p:=fun (i:Nat) x=>p (i:Int) x) (show i=l.length by omega)]
  refine rP 2 [] I ?_
  refine RK F<|ar<|LX hQ (a,c) [2] [] I U U U U ?_
  trivial
 refine WK R<|ak fun _ G=>ax<|WS fun _ D=>rP 1 [] I ?_
 obtain ⟨x,hx⟩:=aM l i om
 have S:=bQ cM.cells hx
 refine rS (IA i U (aB 0 U) Ir dc om om)<|rS (ov i 0 (cM.cells x) U cm (aB 0 U) S U dc U U)<|AL U CD fun T=>bg 1 U<|fW U Kw U<|RK D<|WS fun _ E=>rP 3 [] (mc 0 U I) ?_
 refine rS (SX (r_ U U U (hf (i:Int) x ⟨i,U,hx⟩) (bh [2])) U U)<|RK E<|bS U (fun hp=>?_) (fun hp=>?_)
 ·refine cj<|aH<|KK G<|an ?_
  rw [← MO (p:=fun (i:Nat) x=>p (i:Int) x) hx hp]
  refine rP 2 [] I ?_
  refine aF ?_
  have AB:(vI (((i+1):Nat):Int))=(vI ((i:Int)+1)):=by exact cI om
  refine aT (C ⟨((i+1),a,c),(by first|omega|(simp only []; omega))⟩ _ _ _ U os (cP 5<|bo U AB<|dy.nil _) (aL [1,2,3]))
 refine an<|rP 2 [] I ?_
 refine cZ (xs:=[.tmp 20]) (cs:=[(vI (i:Int))]) U cJ jd U U U U (by simp [Value.cells]) U U fun AA=>?_
 refine de (es2:=(List.map iC (rQ (fun jj yy=>p (jj:Int) yy) l (i+1)))) (m':=(rQ (fun jj yy=>p (jj:Int) yy) l (i+1)).length) 4 U U U pT U U sm (a_ (es:=List.map iC [(i:Int)]) 0 U U (by simp [bK]) U) (j6 _) (by have:=CY (p:=fun (i:Nat) x=>p (i:Int) x) (l:=l) (n:=i); simp; omega) (by have:=CY (p:=fun (i:Nat) x=>p (i:Int) x) (l:=l) (n:=i); simp only [maxLen]; omega) (by rw [Ia hx hp]; simp) sm U fun J K=>?_
 try dsimp only
 refine bg 1 U<|aF<|aH<|KK G<|an<|rP 2 [] I ?_
 refine aF ?_
 have H:(vI (((i+1):Nat):Int))=(vI ((i:Int)+1)):=by exact cI om
 refine aT (C ⟨((i+1),J,K),(by first|omega|(simp only []; omega))⟩ _ _ _ U os (cP 5<|bo U H<|dy.nil _) (aL [2,3,4]))
theorem AY (ts:List ao) (tsA:OA) (tsC:Nat) (l:List cM) (lA:OA) (lC:Nat) (hst: ∀ x∈ts,bP x) (hlen:ts.length≤12) (hl:l.length≤4):
 d_ Tryz.prog 145 [(vA (eA.cells (eA.mk (aZ.mk (aN.mk tsA ts.length tsC))))),(vS lA l.length lC)] [(rd tsA ts.length 9 (ts.map ao.cells)),(rd lA l.length 3 (l.map cM.cells))] (vB (decide (∀ s∈l,fu ts s))):=by
 refine bE kr Tryz.func145 U U fun J Q hQ hN=>?_
 try dsimp only
 refine WS fun _ B=>fU U fun A=>bg 1 U<|RK B<|WS fun _ C=>rP 1 [] I ?_
 refine rS (FU U) ?_
 refine cX (Ej l lA lC (Value.func (.func 157) [].toArray [(vP A)].toArray) (fun E D=>(!(decide (fu ts D)))) (fc [(rd tsA ts.length 9 (ts.map ao.cells)),(b_ A 203 (eA.cells (eA.mk (aZ.mk (aN.mk tsA ts.length tsC)))))]) (by intro E D _; exact m8 (fi:=[]) (ca:=[(vP A)]) (lR (GL E D ts tsA tsC A (by first|assumption|omega) (by first|assumption|omega)) (bh [0,1]))) om) (fK 2 U U<|ay (lV (bh [1,0]))<|aK) U fun G F=>?_
 obtain ⟨H,AA⟩:=G
 try dsimp only
 refine rP 3 [] I ?_
 refine RK C<|ar<|Q1 hQ U U U ?_
 exact congrArg Value.bool (decide_eq_decide.2 (by rw [show ∀ n:Nat,((n:Int)=0)↔n=0 from fun n=>by omega,Hb]; simp only [Bool.not_eq_false',decide_eq_true_eq]; exact ⟨fun h s hs=>by obtain ⟨k,hk⟩:=List.getElem?_of_mem hs; exact h k s hk,fun h k s hk=>h s (List.mem_of_getElem? hk)⟩))
theorem DR (z:aa) (hz:lg z):
 d_ Tryz.prog 159 [(vA (aa.cells z))] [] (vA (aa.cells (nN z))):=by
 unfold lg at hz
 refine bE kr Tryz.func159 U U fun E Q hQ hN=>?_
 try dsimp only
 refine WS fun _ A=>fU U fun C=>AL U di fun D=>RK A<|WS fun _ B=>fF 2 [] (mc 1 U I) U<|rS (NG U ⟨om,om⟩)<|rP 2 [] (mc 1 U I) ?_
 refine rS (NG U ⟨om,om⟩)<|rS (SX (bj (xs:=[(0,.tmp 5),(1,.tmp 8)]) (cs:=(aa.cells (aa.mk (-z.Hi) (-z.Lo)))) U U (bk gv U)) U U)<|fW U cv U<|RK B<|ar ?_
 exact H3 hQ [0] (mc 0 U I) U U
theorem Q_ (ts:List ao) (tsA:OA) (tsC:Nat) (s:cM) (hlen:ts.length≤1000000) (hside: ∀ x∈ts,0≤x.iT∧x.iT≤255):
 d_ Tryz.prog 119 [(vA (aZ.cells (aZ.mk (aN.mk tsA ts.length tsC)))),(vA (cM.cells s))] [(rd tsA ts.length 9 (ts.map ao.cells))] (vT [(vA (aa.cells (Pu ts s))),(vI (Fh ts s))]):=by
 refine bE kr Tryz.func119 U U fun Z Q hQ hN=>?_
 try dsimp only
 refine WS fun _ K=>fU U fun V=>fU U fun W=>AL U di fun X=>bg 1 U<|RK K<|WS fun _ L=>fF 1 [] (mc 2 U I) U<|rS (CL (E5 ts tsA tsC hlen hside) (bh [3]) U)<|bg 3 U<|AL U Kh fun Y=>fW U JH U<|bg 1 U<|RK L<|ak fun _ M=>WS fun _ N=>rP 2 [] I ?_
 refine RK N<|cE U (br fun he=>?_) (bq fun he=>?_)
 ·refine WS fun _ O=>rS (SX (bj (xs:=[]) (cs:=(aa.cells (aa.mk 0 0))) U U (bk gv U)) U U)<|bg 1 U<|tF U cv U<|rP 1 [] I ?_
  refine RK O<|ar<|lf hQ [0] (mc 1 U I) U ?_
  (have e:=Ip (s:=s) (yL he).1; rw [e.1,e.2,(yL he).2]<;>rfl)
 refine WK M<|ak fun _ C=>WS fun _ D=>?_
 have B:=DL he
 have H:=jP B
 have R:=kD B
 refine rP 2 [0,1] (mc 0 U (mc 2 U I)) ?_
 refine cZ (xs:=[.tmp 20]) (cs:=(cM.cells s)) U Ir CD U U U U (by simp [Value.cells,cM.aW]) U U fun AB=>?_
 refine rS (CL (d_.eq (AY ts tsA tsC ([s]) (some ⟨AB,0,none⟩) 1 asm asm (by (simp; done))) DU) (fK 5 U U<|ay (a_ 0 U U (by simp [cM.aW]) U)<|aK) U) ?_
 refine rP 1 [] I ?_
 refine RK D<|cE U (br fun A=>?_) (bq fun A=>?_)
 ·refine WS fun _ E=>rS (SX (bj (xs:=[]) (cs:=(aa.cells (aa.mk 0 0))) U U (bk gv U)) U U)<|Hr U cv U<|rP 1 [] I ?_
  refine RK E<|ar<|lf hQ [0] (mc 2 U I) U ?_
  (have e:=I5 B A; rw [e.1,e.2]<;>rfl)
 refine WK C<|WS fun _ F=>?_
 have AA:=A.1
 have P:=qk H A
 refine fF 3 [0,1] (mc 1 U (mc 3 U I)) U<|rS (CL (Kf ts tsA tsC 0 s.aY asm asm om) (bh [5]) U)<|bg 3 U<|AL U di fun S=>AL U di fun T=>tF U cv U<|fW U cv U<|RK F<|WS fun _ G=>rP 2 [] (mc 1 U I) ?_
 refine rS (LP (aa.cells s.mm) 5 U cm U U U)<|cZ (xs:=[.tmp 34]) (cs:=(aa.cells s.mm)) U jL di U U U U (by simp [Value.cells,aa.aW]) U U fun J=>?_
 refine rS (CL (d_.eq (po (eI ts (0:Int).toNat (s.aY-0).toNat) ([s.mm]) (some ⟨J,0,none⟩) 1 (by exact qo H om) (by intro z hz; simp only [bX] at hz; subst hz; exact P) sm) nF) (ay (a_ 0 rfl rfl (by simp [aa.aW]) rfl)<|aK) rfl) ?_
 refine H4 U cv U<|rP 1 [] I ?_
 refine RK G<|ar<|lf hQ [0] (mc 5 U I) U ?_
 (have e:=w4 B A; rw [e.1,e.2]; unfold Mh; rw [show (s.aY-0).toNat=s.aY.toNat by rw [Int.sub_zero]]<;>rfl)
theorem MF (ts:List ao) (tsA:OA) (tsC:Nat) (p:cM) (q:cM) (hlen:ts.length≤1000000) (hside: ∀ x∈ts,0≤x.iT∧x.iT≤255):
 d_ Tryz.prog 148 [(vA (aZ.cells (aZ.mk (aN.mk tsA ts.length tsC)))),(vA (cM.cells p)),(vA (cM.cells q))] [(rd tsA ts.length 9 (ts.map ao.cells))] (vT [(vA (aa.cells (kv ts p q))),(vI (lK ts p q))]):=by
 refine bE kr Tryz.func148 U U fun w Q hQ hN=>?_
 try dsimp only
 refine WS fun _ c=>fU U fun r=>fU U fun s=>fU U fun t=>AL U di fun u=>bg 1 U<|RK c<|WS fun _ d=>fF 1 [] (mc 3 U I) U<|rS (CL (E5 ts tsA tsC hlen hside) (bh [4]) U)<|bg 3 U<|AL U Kh fun v=>fW U JH U<|bg 1 U<|RK d<|ak fun _ g=>WS fun _ h=>rP 2 [] I ?_
 refine RK h<|cE U (br fun he=>?_) (bq fun he=>?_)
 ·refine WS fun _ G=>rS (SX (bj (xs:=[]) (cs:=(aa.cells (aa.mk 0 0))) U U (bk gv U)) U U)<|bg 1 U<|tF U cv U<|rP 1 [] I ?_
  refine RK G<|ar<|lf hQ [0] (mc 1 U I) U ?_
  (have e:=ua (a:=p) (b:=q) (yL he).1; rw [e.1,e.2,(yL he).2]<;>rfl)
 refine WK g<|ak fun _ H=>WS fun _ AB=>?_
 have A:=DL he
 have F:=jP A
 have j:=kD A
 refine rP 3 [0,1,2] (mc 0 U (mc 3 U (mc 2 U I))) ?_
 refine cZ (xs:=[.tmp 22,.tmp 23]) (cs:=((cM.cells p)++(cM.cells q))) U Ir CD U U U U (by simp [Value.cells,cM.aW]) U U fun X=>?_
 refine rS (CL (d_.eq (AY ts tsA tsC ([p,q]) (some ⟨X,0,none⟩) 2 asm asm (by (simp; done))) D6) (fK 6 U U<|ay (a_ 0 U U (by simp [cM.aW]) U)<|aK) U) ?_
 refine rP 1 [] I ?_
 refine RK AB<|cE U (br fun D=>?_) (bq fun D=>?_)
 ·refine WS fun _ J=>rS (SX (bj (xs:=[]) (cs:=(aa.cells (aa.mk 0 0))) U U (bk gv U)) U U)<|Hr U cv U<|rP 1 [] I ?_
  refine RK J<|ar<|lf hQ [0] (mc 2 U I) U ?_
  (have e:=oK A D; rw [e.1,e.2]<;>rfl)
 refine WK H<|WS fun _ K=>?_
 obtain ⟨hp,hq⟩:=D
 have n:=hp.1
 have o:=hq.1
 have i:=qk F hp
 have W:=qk F hq
 have V:=zJ i
 have B:=qo F (f:=(min p.aY q.aY).toNat) (k:=(max p.aY q.aY-min p.aY q.aY).toNat) om
 refine fF 5 [0,1,2] (mc 1 U (mc 4 U (mc 3 U I))) U<|rS (MN U)<|fF 4 [0,1] (mc 4 U (mc 3 U I)) U<|rS (MX U)<|rS (CL (Kf ts tsA tsC (min p.aY q.aY) (max p.aY q.aY) asm asm om) (bh [6]) U)<|bg 3 U<|AL U di fun l=>AL U di fun m=>tF U cv U<|fW U cv U<|RK K<|ak fun _ C=>WS fun _ L=>rP 5 [0,1] (mc 5 U (mc 6 U I)) ?_
 refine RK L<|bS U (aP fun E=>?_) (aQ fun E=>?_)
 ·refine WK C<|ak fun _ N=>dL cu [6,7,8] [] [] [0,1,2,3,5,6,7,8] [] U U U U U<|eS U (LW 1 U cm U U)<|eS U (FA 1 U fB U)<|eS U (LP (aa.cells q.mm) 4 U cm U U U)<|eS U (FA 1 U fB U)<|eS U (LP (aa.cells p.mm) 5 U cm U U U)<|eS U (CL (DR p.mm asm) (aK) U)<|eS U (AG U)<|e9 U<|cq U fun T26 S=>cZ (xs:=[.tmp 52,.tmp 55]) (cs:=((aa.cells q.mm)++(aa.cells (nN p.mm)))) U jL di U U U U (by simp [Value.cells,aa.aW]) U U fun Z=>aF (S _ _ (aL [1,2,3,4,6,7,8,9]) ?_)
  refine cq U fun T28 T=>?_
  refine rS (CL (d_.eq (po (eI ts (min p.aY q.aY).toNat ((max p.aY q.aY)-(min p.aY q.aY)).toNat) ([q.mm,(nN p.mm)]) (some ⟨Z,0,none⟩) 2 (by first|exact B|exact zJ B) (by intro z hz; simp only [ew,List.not_mem_nil,or_false] at hz; rcases hz with rfl|rfl; exact W; exact V) sm) BE) (ay (a_ 0 rfl rfl (by simp [aa.aW]) rfl)<|aK) rfl) ?_
  refine aF (T _ _ (aL [1,2,3,4,6,7,8,9]) ?_)
  refine cq U fun T29 AA=>H4 U cv U<|aF (AA _ _ (aL [1,2,3,4,6,7,8,9]) ?_)
  refine fO U<|KK N<|ar<|lf hQ [0] (mc 5 U I) U ?_
  (have e:=kY A ⟨hp,hq⟩; rw [e.1,e.2]; unfold jG wJ; rw [if_neg E]<;>rfl)
 refine an<|rP 1 [] (mc 1 U I) ?_
 refine rS (CL (DR (eI ts (min p.aY q.aY).toNat ((max p.aY q.aY)-(min p.aY q.aY)).toNat) asm) (aK) U)<|tF U cv U<|RK C<|ak fun _ M=>dL cu [6,7,8] [] [] [0,1,2,3,5,6,7,8] [] U U U U U<|eS U (LW 1 U cm U U)<|eS U (FA 1 U fB U)<|eS U (LP (aa.cells q.mm) 4 U cm U U U)<|eS U (FA 1 U fB U)<|eS U (LP (aa.cells p.mm) 5 U cm U U U)<|eS U (CL (DR p.mm asm) (aK) U)<|eS U (AG U)<|e9 U<|cq U fun T21 O=>cZ (xs:=[.tmp 52,.tmp 55]) (cs:=((aa.cells q.mm)++(aa.cells (nN p.mm)))) U jL di U U U U (by simp [Value.cells,aa.aW]) U U fun Y=>aF (O _ _ (aL [1,2,3,4,6,7,8,9]) ?_)
 refine cq U fun T23 P=>?_
 refine rS (CL (d_.eq (po (nN (eI ts (min p.aY q.aY).toNat ((max p.aY q.aY)-(min p.aY q.aY)).toNat)) ([q.mm,(nN p.mm)]) (some ⟨Y,0,none⟩) 2 (by first|exact B|exact zJ B) (by intro z hz; simp only [ew,List.not_mem_nil,or_false] at hz; rcases hz with rfl|rfl; exact W; exact V) sm) BE) (ay (a_ 0 rfl rfl (by simp [aa.aW]) rfl)<|aK) rfl) ?_
 refine aF (P _ _ (aL [1,2,3,4,6,7,8,9]) ?_)
 refine cq U fun T24 R=>H4 U cv U<|aF (R _ _ (aL [1,2,3,4,6,7,8,9]) ?_)
 refine fO U<|KK M<|ar<|lf hQ [0] (mc 5 U I) U ?_
 (have e:=kY A ⟨hp,hq⟩; rw [e.1,e.2]; unfold jG wJ; rw [if_pos E]<;>rfl)
theorem qJ (ts:List ao) (tsA:OA) (tsC:Nat) (s:cM) (hst: ∀ x∈ts,bP x) (hlen:ts.length≤12):
 d_ Tryz.prog 134 [(vA (aZ.cells (aZ.mk (aN.mk tsA ts.length tsC)))),(vA (cM.cells s))] [(rd tsA ts.length 9 (ts.map ao.cells))] (vB (decide (fu ts s))):=by
 refine bE kr Tryz.func134 U U fun H Q hQ hN=>?_
 try dsimp only
 refine WS fun _ C=>fU U fun F=>fU U fun G=>bg 1 U<|RK C<|ak fun _ A=>dh cu 22 kr<|lJ 6 [0,1] (mc 0 U (mc 1 U I)) U<|dS (CL (oM s.aY 0 ((ts.length:Int)-1)) (aK) U)<|dP 1 [] I ?_
 refine jg (t:=12) U (aP fun B=>?_) (aQ fun B=>?_)
 ·refine kX 8 U<|dP 6 [] I ?_
  refine cK<|RK A<|ar<|Q1 hQ U U U ?_
  (refine cB ?_; rw [cr (Cz om)])
 refine kX 1 U<|dS (LP (aa.cells s.mm) 0 U cm U U U)<|dP 4 [0,1] (mc 1 U (mc 0 U I)) ?_
 obtain ⟨x,hx⟩:=aM ts ((s.aY).toNat) om
 have D:=bQ ao.cells hx
 refine dS (IA ((s.aY).toNat) U (aB 2 U) yg dc om om)<|dS (mK ((((s.aY).toNat)*9)+1) U (aB 2 U) (Nat.mul_pos om dc) fB U) ?_
 have E:=(hst x (aV hx)).2.1
 simp only [dN] at E
 refine dS (mK ((((s.aY).toNat)*9)+1) U (aB 2 U) (Nat.mul_pos om dc) fB U)<|dS (gh ((s.aY).toNat) 1 (vI x.kf.Lo) U cm (aB 2 U) D U dc U)<|kX 1 U<|dS (CL (pt s.mm 0 (x.kf.Lo-1)) (aK) U)<|dP 2 [] I ?_
 refine cK<|RK A<|ar<|Q1 hQ U U U ?_
 exact cB (decide_eq_decide.2 (Cm om hx).symm)
theorem z_ (ts:List ao) (tsA:OA) (tsC:Nat) (f t:Int) (hst: ∀ x∈ts,bP x) (hlen:ts.length≤12) (hf:0≤f∧f≤t∧t≤ts.length):
 d_ Tryz.prog 162 [(vA (aZ.cells (aZ.mk (aN.mk tsA ts.length tsC)))),(vI f),(vI t)] [(rd tsA ts.length 9 (ts.map ao.cells))] (vT [(vA (aa.cells (eI ts f.toNat (t-f).toNat))),(vA (aa.cells (gk ts f.toNat (t-f).toNat)))]):=by
 refine bE kr Tryz.func162 U U fun i Q hQ hN=>?_
 try dsimp only
 refine WS fun _ R=>fU U fun e=>AL U di fun g=>AL U di fun h=>RK R<|WS fun _ S=>AL U di fun a=>AL U di fun b=>RK S<|ak fun _ T=>WS fun _ AA=>rP 2 [] I ?_
 refine RK AA<|ax ?_
 have A:(0≤(t-f).toNat):=by exact Nat.zero_le _
 have K:(vI (f+(0:Int)))=(vI f):=by exact cI om
 refine bR (ι:={z:Nat // (z≤(t-f).toNat)}) [1,2,3,6,7,8,9] [2,3,4,5] U U (fun z=>[(10,(vI (f+(z.1:Int))))]) (fun z=>[(b_ b 38 (aa.cells (gk ts f.toNat z.1))),(b_ a 38 (aa.cells (eI ts f.toNat z.1)))]) (fun _=>rfl) (fun _=>rfl) (fun z=>(t-f).toNat-z.1) ⟨0,A⟩ (bo U K<|dy.nil _) (aL [2,3,4,5,0,1]) ?_
 clear A
 rintro ⟨k,V⟩ J11 B
 try dsimp only
 refine ak fun _ C=>WS fun _ D=>rP 3 [] I ?_
 refine RK D<|bS U (aP fun P=>?_) (aQ fun P=>?_)
 ·refine bB<|ae<|ae<|aA<|KK T<|ak fun _ H=>dL cu [2,3] [] [] [2,3,4,5] [] U U U U U<|eS U (LW 3 U cm U U)<|eS U (LW 2 U cm U U)<|e9 U<|cq U fun T23 AB=>tF U cv U<|aF (AB _ _ (aL [2,3,4,5]) ?_)
  refine cq U fun T24 J=>fW U cv U<|aF (J _ _ (aL [2,3,4,5]) ?_)
  refine fO U<|KK H<|ar<|lf hQ [0,1] (mc 1 U (mc 0 U I)) U ?_
  obtain rfl:k=(t-f).toNat:=om; rfl
 refine WK C<|ak fun _ E=>ax<|WS fun _ F=>rP 3 [] (mc 2 U I) ?_
 obtain ⟨x,hx⟩:=aM ts (f.toNat+k) om
 have Y:=bQ ao.cells hx
 refine rS (IA (f.toNat+k) U (aB 3 U) yg dc om om)<|rS (ov (f.toNat+k) 0 (ao.cells x) U cm (aB 3 U) Y U dc U U)<|AL U Fx fun Z=>fW U Ku U<|RK F<|WS fun _ G=>?_
 have O:=hst x (aV hx)
 have d:=lW hst f.toNat k
 have c:=Ga hst f.toNat k
 have W:=O.2.1
 have X:=O.2.2.1
 simp only [dN] at W X
 refine fF 12 [0,1,0,1] (mc 6 U (mc 0 U I)) U<|rS (SX (bj (xs:=[(0,.tmp 28),(1,.tmp 34)]) (cs:=(aa.cells (aa.mk (((eI ts f.toNat k).Lo)+x.kf.Lo) (((eI ts f.toNat k).Hi)+x.kf.Hi)))) U U (bk gv U)) U U)<|OU U cv U<|RK G<|an<|rP 12 [0,1,0,1] (mc 5 U (mc 0 U I)) ?_
 refine rS (SX (bj (xs:=[(0,.tmp 41),(1,.tmp 47)]) (cs:=(aa.cells (aa.mk (((gk ts f.toNat k).Lo)+x.lB.Lo) (((gk ts f.toNat k).Hi)+x.lB.Hi)))) U U (bk gv U)) U U)<|H4 U cv U<|aF<|aH<|KK E ?_
 have L:(aa.cells (aa.mk (((eI ts f.toNat k).Lo)+x.kf.Lo) (((eI ts f.toNat k).Hi)+x.kf.Hi)))=(aa.cells (eI ts f.toNat (k+1))):=by rw [px hx]; rfl
 rw [L]
 have M:(aa.cells (aa.mk (((gk ts f.toNat k).Lo)+x.lB.Lo) (((gk ts f.toNat k).Hi)+x.lB.Hi)))=(aa.cells (gk ts f.toNat (k+1))):=by rw [pB hx]; rfl
 rw [M]
 refine an<|rP 3 [] I ?_
 refine aF ?_
 have N:(vI (f+(((k+1):Nat):Int)))=(vI ((f+(k:Int))+1)):=by exact cI om
 refine aT (B ⟨(k+1),(by first|omega|(simp only []; omega))⟩ _ _ _ U os (cP 7<|bo U N<|dy.nil _) (aL [1,2,3,4,5,6]))
end
section
open Go.RowKit
theorem QK (l:bf) (kA:OA) (kC:Nat) (az:List RA) (cA:OA) (cC:Nat) (bA:OA) (bC:Nat) (hin:eE l az):
 d_ Tryz.prog 110 [(vA (bJ.cells (ld l kA kC cA cC bA bC)))] [(rd kA l.aJ.length 9 (l.aJ.map ao.cells)),(rd cA l.ai.length 2 (List.zipWith au.cells l.ai az)),(fc (aS au.gW l.ai az)),(rd bA l.ag.length 4 (l.ag.map bG.cells))] (vB (decide (gr l))):=by
 have R:=hin.si
 have P:=hin.sh
 have N:=hin.nO
 have O:=hin.sf
 refine bE kr Tryz.func110 U U fun T Q hQ hN=>?_
 try dsimp only
 refine WS fun _ G=>fU U fun S=>bg 1 U<|RK G<|WS fun _ A=>rP 2 [] (mc 0 U I) ?_
 refine cZ (xs:=[.tmp 4]) (cs:=[(vI l.dG)]) U cJ jd U U U U (by simp [Value.cells]) U U fun H=>?_
 refine rS (CL (d_.eq (iM 1 5000 ([l.dG]) (some ⟨H,0,none⟩) 1 (by (simp; done))) cU) (ay (a_ 0 U U (by simp [bK]) U)<|aK) U) ?_
 refine rP 1 [] I ?_
 refine cf (t:=7) U (aP fun K=>?_) (aQ fun K=>?_)
 ·refine rP 36 [] I ?_
  refine RK A<|ar<|Q1 hQ U U U ?_
  exact cB (cr (by unfold gr; omega)).symm
 refine rP 3 [] (mc 1 U I) ?_
 refine cZ (xs:=[.tmp 10]) (cs:=[(vI (l.ai.length:Int))]) U cJ jd U U U U (by simp [Value.cells]) U U fun AA=>?_
 refine rS (CL (d_.eq (iM 1 4 ([(l.ai.length:Int)]) (some ⟨AA,0,none⟩) 1 (by (simp; done))) cU) (ay (a_ 0 U U (by simp [bK]) U)<|aK) U) ?_
 refine rP 2 [] I ?_
 refine cf (t:=14) U (aP fun L=>?_) (aQ fun L=>?_)
 ·refine rP 29 [] I ?_
  refine RK A<|ar<|Q1 hQ U U U ?_
  exact cB (cr (by unfold gr; omega)).symm
 refine rP 3 [] (mc 2 U I) ?_
 refine cZ (xs:=[.tmp 17]) (cs:=[(vI (l.ag.length:Int))]) U cJ jd U U U U (by simp [Value.cells]) U U fun J=>?_
 refine rS (CL (d_.eq (iM 1 6 ([(l.ag.length:Int)]) (some ⟨J,0,none⟩) 1 (by (simp; done))) cU) (ay (a_ 0 U U (by simp [bK]) U)<|aK) U) ?_
 refine rP 2 [] I ?_
 refine cf (t:=21) U (aP fun M=>?_) (aQ fun M=>?_)
 ·refine rP 22 [] I ?_
  refine RK A<|ar<|Q1 hQ U U U ?_
  exact cB (cr (by unfold gr; omega)).symm
 refine rP 6 [] (mc 3 U I) ?_
 refine cZ (xs:=[.tmp 27]) (cs:=[(vI l.bI)]) U cJ jd U U U U (by simp [Value.cells]) U U fun B=>?_
 refine rS (CL (d_.eq (iM 0 ((l.ag.length:Int)-1) ([l.bI]) (some ⟨B,0,none⟩) 1 (by (simp; done))) cU) (ay (a_ 0 U U (by simp [bK]) U)<|aK) U) ?_
 refine rP 2 [] I ?_
 refine cf (t:=31) U (aP fun E=>?_) (aQ fun E=>?_)
 ·refine rP 12 [] I ?_
  refine RK A<|ar<|Q1 hQ U U U ?_
  exact cB (cr (by unfold gr; omega)).symm
 refine rP 2 [] (mc 4 U I) ?_
 refine cZ (xs:=[.tmp 33]) (cs:=[(vI l.cy)]) U cJ jd U U U U (by simp [Value.cells]) U U fun C=>?_
 refine rS (CL (d_.eq (iM 0 3 ([l.cy]) (some ⟨C,0,none⟩) 1 (by (simp; done))) cU) (ay (a_ 0 U U (by simp [bK]) U)<|aK) U) ?_
 refine rP 2 [] I ?_
 refine cf (t:=37) U (aP fun F=>?_) (aQ fun F=>?_)
 ·refine rP 6 [] I ?_
  refine RK A<|ar<|Q1 hQ U U U ?_
  exact cB (cr (by unfold gr; omega)).symm
 refine rP 2 [] (mc 5 U I) ?_
 refine cZ (xs:=[.tmp 39]) (cs:=[(vI l.bL)]) U cJ jd U U U U (by simp [Value.cells]) U U fun D=>?_
 refine rS (CL (d_.eq (iM 0 3 ([l.bL]) (some ⟨D,0,none⟩) 1 (by (simp; done))) cU) (ay (a_ 0 U U (by simp [bK]) U)<|aK) U) ?_
 refine rP 2 [] I ?_
 refine RK A<|ar<|Q1 hQ U U U ?_
 exact cB (decide_eq_decide.2 (by unfold gr; omega))
theorem PI (l:bf) (kA:OA) (kC:Nat) (az:List RA) (cA:OA) (cC:Nat) (bA:OA) (bC:Nat) (hin:eE l az):
 d_ Tryz.prog 112 [(vA (bJ.cells (ld l kA kC cA cC bA bC)))] [(rd kA l.aJ.length 9 (l.aJ.map ao.cells)),(rd cA l.ai.length 2 (List.zipWith au.cells l.ai az)),(fc (aS au.gW l.ai az)),(rd bA l.ag.length 4 (l.ag.map bG.cells))] (vB (decide (∀ c∈l.ai,e8 c))):=by
 have H:=hin.si
 have G:=hin.sh
 have E:=hin.nO
 have F:=hin.sf
 refine bE kr Tryz.func112 U U fun K Q hQ hN=>?_
 try dsimp only
 refine WS fun _ C=>fU U fun J=>bg 1 U<|RK C<|WS fun _ D=>rP 2 [] (mc 0 U I) ?_
 refine rS (CL (zO l.ai az cA cC (Value.func (.func 114) [].toArray [].toArray) (fun m=>(!(decide (e8 m)))) (fc (aS au.gW l.ai az)) (by intro AA m a B A; exact m8 (fi:=[]) (ca:=[]) (Tf l.ai az AA m a (by exact B) (by exact A) (by exact hin.QQ _ _ _ B A))) asm asm) (MD 2 3 3 U U U U U U) U) ?_
 refine rP 2 [] I ?_
 refine RK D<|ar<|Q1 hQ U U U ?_
 exact cB (by rw [Bool.eq_iff_iff,decide_eq_true_eq]; exact Dk)
theorem Ql (b:bG) (l:bf) (kA:OA) (kC:Nat) (az:List RA) (cA:OA) (cC:Nat) (bA:OA) (bC g1:Nat) (hin:eE l az) (htr:cV l.aJ=true):
 d_ Tryz.prog 118 [(vA (bG.cells b)),(vP g1)] [(rd kA l.aJ.length 9 (l.aJ.map ao.cells)),(rd cA l.ai.length 2 (List.zipWith au.cells l.ai az)),(fc (aS au.gW l.ai az)),(rd bA l.ag.length 4 (l.ag.map bG.cells)),(b_ g1 28 (bJ.cells (ld l kA kC cA cC bA bC)))] (vB (!(decide (jJ l b)))):=by
 have J:=hin.si
 have H:=hin.sh
 have F:=hin.nO
 have G:=hin.sf
 have AA:=hin.side
 refine bE kr Tryz.func118 U U fun M Q hQ hN=>?_
 try dsimp only
 refine WS fun _ C=>fU U fun K=>bg 1 U<|RK C<|WS fun _ D=>bg 1 U<|rS (Vv (aZ.cells (aZ.mk (aN.mk kA l.aJ.length kC))) 5 U cm U U U)<|bg 1 U<|rS (LP (cM.cells b.mx) 0 U cm U U U)<|rS (CL (Q_ l.aJ kA kC b.mx asm asm) (bh [1]) U)<|bg 3 U<|AL U di fun L=>fW U cv U<|bg 1 U<|RK D<|WS fun _ B=>rP 3 [] I ?_
 refine cw (t:=16) U (br fun A=>?_) (bq fun A=>?_)
 ·refine rP 11 [] I ?_
  refine RK B<|ar<|Q1 hQ U U U ?_
  (refine cB ?_; rw [cr (fun h:jJ l b=>A ((E9 htr).2 h.1))]; rfl)
 refine rP 6 [0,1] (mr 6 U (mc 1 U I)) ?_
 refine cZ (xs:=[.tmp 22]) (cs:=[(vI b.jN)]) U cJ jd U U U U (by simp [Value.cells]) U U fun E=>?_
 refine rS (CL (d_.eq (iM 0 ((l.ai.length:Int)-1) ([b.jN]) (some ⟨E,0,none⟩) 1 (by (simp; done))) cU) (ay (a_ 0 U U (by simp [bK]) U)<|aK) U) ?_
 refine rP 3 [] I ?_
 refine RK B<|ar<|Q1 hQ U U U ?_
 (refine cB ?_; refine congrArg Bool.not (decide_eq_decide.2 ⟨fun h=>⟨(E9 htr).1 A,om,om⟩,fun h=>by have:=h.2; omega⟩))
theorem Ph (l:bf) (kA:OA) (kC:Nat) (az:List RA) (cA:OA) (cC:Nat) (bA:OA) (bC:Nat) (hin:eE l az) (htr:cV l.aJ=true):
 d_ Tryz.prog 116 [(vA (bJ.cells (ld l kA kC cA cC bA bC)))] [(rd kA l.aJ.length 9 (l.aJ.map ao.cells)),(rd cA l.ai.length 2 (List.zipWith au.cells l.ai az)),(fc (aS au.gW l.ai az)),(rd bA l.ag.length 4 (l.ag.map bG.cells))] (vB (decide (∀ b∈l.ag,jJ l b))):=by
 have H:=hin.si
 have G:=hin.sh
 have E:=hin.nO
 have F:=hin.sf
 refine bE kr Tryz.func116 U U fun AA Q hQ hN=>?_
 try dsimp only
 refine WS fun _ B=>fU U fun A=>bg 1 U<|RK B<|WS fun _ C=>rP 2 [] (mc 0 U I) ?_
 refine rS (FU U) ?_
 refine rS (CL (AE l.ag bA bC (Value.func (.func 118) [].toArray [(vP A)].toArray) (fun D=>(!(decide (jJ l D)))) (fc [(rd kA l.aJ.length 9 (l.aJ.map ao.cells)),(rd cA l.ai.length 2 (List.zipWith au.cells l.ai az)),(fc (aS au.gW l.ai az)),(rd bA l.ag.length 4 (l.ag.map bG.cells)),(b_ A 28 (bJ.cells (ld l kA kC cA cC bA bC)))]) (by intro D _; exact m8 (fi:=[]) (ca:=[(vP A)]) (lR (Ql D l kA kC az cA cC bA bC A (by first|assumption|omega) (by first|assumption|omega)) (bh [0,1,2,3,4]))) asm) (fK 4 U U<|ay (lV (bh [1,2,3,4,0]))<|aK) U) ?_
 refine rP 2 [] I ?_
 refine RK C<|ar<|Q1 hQ U U U ?_
 exact cB (by rw [Bool.eq_iff_iff,decide_eq_true_eq]; exact GY)
theorem OT (l:bf) (kA:OA) (kC:Nat) (az:List RA) (cA:OA) (cC:Nat) (bA:OA) (bC:Nat) (n:Int) (hin:eE l az) (htr:cV l.aJ=true) (hbk: ∀ b∈l.ag,jJ l b) (hn:0≤n∧n<(l.ag.length:Int)):
 d_ Tryz.prog 121 [(vA (bJ.cells (ld l kA kC cA cC bA bC))),(vI n)] [(rd kA l.aJ.length 9 (l.aJ.map ao.cells)),(rd cA l.ai.length 2 (List.zipWith au.cells l.ai az)),(fc (aS au.gW l.ai az)),(rd bA l.ag.length 4 (l.ag.map bG.cells))] (vI (lQ l n.toNat)):=by
 have P:=hin.si
 have N:=hin.sh
 have L:=hin.nO
 have M:=hin.sf
 have O:=hin.side
 refine bE kr Tryz.func121 U U fun AA Q hQ hN=>?_
 try dsimp only
 refine WS fun _ E=>fU U fun R=>bg 1 U<|RK E<|WS fun _ F=>rP 3 [] (mc 0 U I) ?_
 obtain ⟨x,hx⟩:=aM l.ag ((n).toNat) om
 have J:=bQ bG.cells hx
 refine rS (IA ((n).toNat) U (aB 4 U) vq dc om om)<|rS (mK (((n).toNat)*4) U (aB 4 U) (Nat.mul_pos om dc) fB U)<|rS (ov ((n).toNat) 0 (cM.cells x.mx) U cm (aB 4 U) J U dc U U)<|AL U CD fun S=>fW U Kw U<|RK F<|WS fun _ G=>bg 1 U<|rS (LP (aZ.cells (aZ.mk (aN.mk kA l.aJ.length kC))) 1 U cm U U U)<|fF 1 [] (mc 0 U I) U<|rS (CL (Q_ l.aJ kA kC x.mx asm asm) (bh [2]) U)<|bg 3 U<|AL U di fun T=>fW U cv U<|bg 1 U<|RK G<|ak fun _ C=>WS fun _ H=>rP 2 [] I ?_
 refine RK H<|bS U (aP fun D=>?_) (aQ fun D=>?_)
 ·refine WK C<|WS fun _ B=>rP 3 [] (mc 0 U I) ?_
  refine RK B<|ar<|Q1 hQ U U U ?_
  (refine congrArg (Value.int .i64) ?_; rw [show n.toNat=0 by omega] at hx ⊢; rw [yU hx,(w4 htr (hbk _ (List.mem_of_getElem? hx)).1).2])
 refine dL cu [14] [] [] [1,2,3,4,5,6] [] U U U U U<|eS U (FA 0 U fB U)<|eS U (LP (aZ.cells (aZ.mk (aN.mk kA l.aJ.length kC))) 1 U cm U U U)<|eS U (FA 3 U fB U)<|eS U (L1 (vS bA l.ag.length bC) 1 U cm U U)<|eS U (MV U)<|eS U (BI U (rz ⟨om,om⟩)) ?_
 obtain ⟨y,hy⟩:=aM l.ag (((n-1)).toNat) om
 have K:=bQ bG.cells hy
 refine eS U (IA (((n-1)).toNat) U (aB 5 U) vq dc om om)<|eS U (mK ((((n-1)).toNat)*4) U (aB 5 U) (Nat.mul_pos om dc) fB U)<|eS U (ov (((n-1)).toNat) 0 (cM.cells y.mx) U cm (aB 5 U) K U dc U U)<|eS U (LW 0 U cm U U)<|eS U (CL (MF l.aJ kA kC y.mx x.mx asm asm) (bh [2]) U)<|eS U (MV U)<|eS U (EX U)<|eS U (EX U)<|e9 U<|cq U fun T9 AB=>fW U cv U<|aF (AB _ _ (aL [1,2,3,4,5,6]) ?_)
 refine fO U<|KK C<|WS fun _ A=>rP 3 [] (mc 0 U I) ?_
 refine RK A<|ar<|Q1 hQ U U U ?_
 (refine congrArg (Value.int .i64) ?_; rw [BH om hx (by rw [show n.toNat-1=(n-1).toNat by omega]; exact hy),(kY htr ⟨(hbk _ (List.mem_of_getElem? hy)).1,(hbk _ (List.mem_of_getElem? hx)).1⟩).2])
theorem Qp (l:bf) (kA:OA) (kC:Nat) (az:List RA) (cA:OA) (cC:Nat) (bA:OA) (bC:Nat) (hin:eE l az) (htr:cV l.aJ=true) (hbk: ∀ b∈l.ag,jJ l b):
 d_ Tryz.prog 120 [(vA (bJ.cells (ld l kA kC cA cC bA bC)))] [(rd kA l.aJ.length 9 (l.aJ.map ao.cells)),(rd cA l.ai.length 2 (List.zipWith au.cells l.ai az)),(fc (aS au.gW l.ai az)),(rd bA l.ag.length 4 (l.ag.map bG.cells))] (vB (decide (∀ i,i<l.ag.length→1≤lQ l i))):=by
 have V:=hin.si
 have AA:=hin.sh
 have S:=hin.nO
 have T:=hin.sf
 refine bE kr Tryz.func120 U U fun X Q hQ hN=>?_
 try dsimp only
 refine WS fun _ J=>fU U fun W=>bg 1 U<|RK J<|ak fun _ K=>WS fun _ L=>rP 4 [] (mc 0 U I) ?_
 refine RK L<|ax ?_
 have A:(0≤l.ag.length)∧(∀ j,j<0→1≤lQ l j):=by exact ⟨Nat.zero_le _,fun j hj=>absurd hj (Nat.not_lt_zero _)⟩
 refine bR (ι:={z:Nat // (z≤l.ag.length)∧(∀ j,j<z→1≤lQ l j)}) [1,6] [0,1,2,3,4] U U (fun z=>[(7,(vI (z.1:Int)))]) (fun z=>[]) (fun _=>rfl) (fun _=>rfl) (fun z=>l.ag.length-z.1) ⟨0,A⟩ (aU U) (aL [0,1,2,3,4]) ?_
 clear A
 rintro ⟨i,⟨P,B⟩⟩ J5 AB
 try dsimp only
 refine WS fun _ M=>rP 1 [] I ?_
 refine RK M<|ak fun _ N=>bS U (aP fun R=>?_) (aQ fun R=>?_)
 ·refine bB<|ae<|ae<|aA<|KK K<|WS fun _ G=>rP 1 [] I ?_
  refine RK G<|ar<|Q1 hQ U U U ?_
  exact cB (fP (fun j hj=>B j om)).symm
 refine WK N<|ak fun _ O=>ax<|WS fun _ D=>bg 2 U<|RK D<|WS fun _ E=>fF 2 [] (mc 0 U I) U<|rS (CL (OT l kA kC az cA cC bA bC (i:Int) hin htr hbk om) (bh [1,2,3,4]) U)<|rP 1 [] I ?_
 refine RK E<|cE U (aQ fun C=>?_) (aP fun C=>?_)
 ·refine WS fun _ F=>rP 1 [] I ?_
  refine RK F<|ar<|Q1 hQ U U U ?_
  exact cB (cr (fun h=>by have:=h i om; simp only [Int.toNat_natCast] at C; omega)).symm
 refine cj<|aH<|KK O<|an<|rP 2 [] I ?_
 refine aF ?_
 have H:(vI (((i+1):Nat):Int))=(vI ((i:Int)+1)):=by exact cI om
 refine aT (AB ⟨(i+1),⟨om,fun j hj=>by rcases Nat.lt_or_ge j i with q|q; exact B j q; (obtain rfl:j=i:=by omega); simp only [Int.toNat_natCast] at C; omega⟩⟩ _ _ _ rfl os (dy.cons rfl<|dy.cons rfl<|bo rfl H<|dy.nil _) (aL [0,1,2,3,4]))
end
section
open Go.RowKit
theorem PX:
 d_ Tryz.prog 75 [] [] (vA ((gL.cells (gL.mk (Value.func (.func 110) [].toArray [].toArray)))++(gL.cells (gL.mk (Value.func (.func 112) [].toArray [].toArray)))++(gL.cells (gL.mk (Value.func (.func 116) [].toArray [].toArray)))++(gL.cells (gL.mk (Value.func (.func 120) [].toArray [].toArray))))):=by
 refine bE kr Tryz.func75 U U fun D Q hQ hN=>?_
 try dsimp only
 refine WS fun _ A=>AL U Tk fun C=>RK A<|WS fun _ B=>rS (SX (bj (xs:=[(0,.func 110)]) (cs:=(gL.cells (gL.mk (Value.func (.func 110) [].toArray [].toArray)))) U U (bk FF U)) U U)<|rS (SX (bj (xs:=[(0,.func 112)]) (cs:=(gL.cells (gL.mk (Value.func (.func 112) [].toArray [].toArray)))) U U (bk FF U)) U U)<|rS (SX (bj (xs:=[(0,.func 116)]) (cs:=(gL.cells (gL.mk (Value.func (.func 116) [].toArray [].toArray)))) U U (bk FF U)) U U)<|rS (SX (bj (xs:=[(0,.func 120)]) (cs:=(gL.cells (gL.mk (Value.func (.func 120) [].toArray [].toArray)))) U U (bk FF U)) U U)<|rS (SX (bj (xs:=[(0,.tmp 1),(1,.tmp 2),(2,.tmp 3),(3,.tmp 4)]) (cs:=((gL.cells (gL.mk (Value.func (.func 110) [].toArray [].toArray)))++(gL.cells (gL.mk (Value.func (.func 112) [].toArray [].toArray)))++(gL.cells (gL.mk (Value.func (.func 116) [].toArray [].toArray)))++(gL.cells (gL.mk (Value.func (.func 120) [].toArray [].toArray))))) U U (bk Sh U)) U U)<|fW U Sv U<|RK B<|ar ?_
 exact H3 hQ [0] (mc 0 U I) U U
theorem BM (l:bf) (kA:OA) (kC:Nat) (az:List RA) (cA:OA) (cC:Nat) (bA:OA) (bC:Nat) (hin:eE l az):
 d_ Tryz.prog 50 [(vA (bJ.cells (ld l kA kC cA cC bA bC)))] [(rd kA l.aJ.length 9 (l.aJ.map ao.cells)),(rd cA l.ai.length 2 (List.zipWith au.cells l.ai az)),(fc (aS au.gW l.ai az)),(rd bA l.ag.length 4 (l.ag.map bG.cells))] (vI (dx l)):=by
 have AF:=hin.si
 have AD:=hin.sh
 have AB:=hin.nO
 have AC:=hin.sf
 have AE:=hin.side
 refine bE kr Tryz.func50 U U fun w0 Q hQ hN=>?_
 try dsimp only
 refine WS fun _ m=>fU U fun b2=>bg 1 U<|RK m<|ak fun _ n=>WS fun _ o=>bg 1 U<|rS (LP (aZ.cells (aZ.mk (aN.mk kA l.aJ.length kC))) 0 U cm U U U)<|rS (CL (Bk l.aJ kA kC asm asm) (bh [1]) U)<|bg 1 U<|RK o<|WS fun _ p=>rP 2 [] I ?_
 refine RK p<|cE U (br fun B=>?_) (bq fun B=>?_)
 ·refine WS fun _ q=>rP 2 [] I ?_
  refine RK q<|ar<|Q1 hQ U U U ?_
  (refine cI ?_; rw [(yL B).2,yI (yL B).1])
 refine WK n<|ak fun _ s=>WS fun _ t=>?_
 have A:=DL B
 refine rS (CL PX (aK) U)<|bg 1 U<|RK t<|ax<|jO 5<|eu fun R9 u=>WS fun _ C=>rS (SX (cb (r:= .bool true) U U U gQ) U U)<|RK C<|ak fun _ D=>aR U<|WK D<|ak fun _ E=>ax<|WS fun _ F=>rS (SX (tf (vs:=(gL.cells (gL.mk (Value.func (.func 110) [].toArray [].toArray)))) 0 U U U Fk cm U dc U) U U)<|AL U E8 fun x=>fW U FJ U<|RK F<|WS fun _ G=>fF 3 [0,1] (mc 0 U (mc 1 U I)) U<|rS (CL (QK l kA kC az cA cC bA bC hin) (bh [2,3,4,5]) U)<|rP 1 [] I ?_
 refine RK G<|cE U (br fun g=>?_) (bq fun g=>?_)
 ·refine WS fun _ H=>rP 1 [] I ?_
  refine RK H<|ar<|Q1 hQ U U U ?_
  exact cI (p7 A fun h=>absurd h.head asm).symm
 refine cj<|aH<|KK E<|an<|rS (SX (cb (r:= .int .i64 1) U U U (ij ⟨dc,dc⟩)) U U)<|bg 1 U<|RK u<|eu fun R18 d=>WS fun _ AH=>rS (SX (cb (r:= .bool true) U U U gQ) U U)<|RK AH<|ak fun _ J=>aR U<|WK J<|ak fun _ K=>ax<|WS fun _ L=>rS (SX (tf (vs:=(gL.cells (gL.mk (Value.func (.func 112) [].toArray [].toArray)))) 1 U U U Fk cm U dc U) U U)<|AL U E8 fun y=>fW U FJ U<|RK L<|WS fun _ M=>fF 3 [0,1] (mc 0 U (mc 2 U I)) U<|rS (CL (PI l kA kC az cA cC bA bC hin) (bh [3,4,5,6]) U)<|rP 1 [] I ?_
 refine RK M<|cE U (br fun i=>?_) (bq fun i=>?_)
 ·refine WS fun _ N=>rP 1 [] I ?_
  refine RK N<|ar<|Q1 hQ U U U ?_
  exact cI (p7 A fun h=>absurd h.clock asm).symm
 refine cj<|aH<|KK K<|an<|rS (SX (cb (r:= .int .i64 2) U U U (ij ⟨dc,dc⟩)) U U)<|bg 1 U<|RK d<|eu fun R27 e=>WS fun _ O=>rS (SX (cb (r:= .bool true) U U U gQ) U U)<|RK O<|ak fun _ P=>aR U<|WK P<|ak fun _ R=>ax<|WS fun _ S=>rS (SX (tf (vs:=(gL.cells (gL.mk (Value.func (.func 116) [].toArray [].toArray)))) 2 U U U Fk cm U dc U) U U)<|AL U E8 fun z=>fW U FJ U<|RK S<|WS fun _ T=>fF 3 [0,1] (mc 0 U (mc 3 U I)) U<|rS (CL (Ph l kA kC az cA cC bA bC hin asm) (bh [4,5,6,7]) U)<|rP 1 [] I ?_
 refine RK T<|cE U (br fun j=>?_) (bq fun j=>?_)
 ·refine WS fun _ AG=>rP 1 [] I ?_
  refine RK AG<|ar<|Q1 hQ U U U ?_
  exact cI (p7 A fun h=>absurd h.vn asm).symm
 refine cj<|aH<|KK R<|an<|rS (SX (cb (r:= .int .i64 3) U U U (ij ⟨dc,dc⟩)) U U)<|bg 1 U<|RK e<|eu fun R36 f=>WS fun _ V=>rS (SX (cb (r:= .bool true) U U U gQ) U U)<|RK V<|ak fun _ W=>aR U<|WK W<|ak fun _ X=>ax<|WS fun _ Y=>rS (SX (tf (vs:=(gL.cells (gL.mk (Value.func (.func 120) [].toArray [].toArray)))) 3 U U U Fk cm U dc U) U U)<|AL U E8 fun AA=>fW U FJ U<|RK Y<|WS fun _ Z=>fF 3 [0,1] (mc 0 U (mc 4 U I)) U<|rS (CL (Qp l kA kC az cA cC bA bC hin asm asm) (bh [5,6,7,8]) U)<|rP 1 [] I ?_
 refine RK Z<|cE U (br fun k=>?_) (bq fun k=>?_)
 ·refine WS fun _ a=>rP 1 [] I ?_
  refine RK a<|ar<|Q1 hQ U U U ?_
  exact cI (p7 A fun h=>absurd h.QR asm).symm
 refine cj<|aH<|KK X<|an<|rS (SX (cb (r:= .int .i64 4) U U U (ij ⟨dc,dc⟩)) U U)<|bg 1 U<|RK f<|eu fun R45 w=>WS fun _ b=>rS (SX (cb (r:= .bool false) U U U gQ) U U)<|RK b<|ak fun _ v=>aX U<|bB<|ae<|ae<|aA<|KK s<|WS fun _ c=>rP 1 [] I ?_
 refine RK c<|ar<|Q1 hQ U U U ?_
 exact cI (w9 A (yN asm asm asm asm)).symm
theorem Ce (lo hi:Int) (f:Value) (p:Int→Bool) (X:av) (r:Int) (hf: ∀ x0,0≤x0∧x0<hi→El Tryz.prog f [.int .i64 x0] [X] (.bool (p x0))) (hb:0≤lo∧lo≤r∧r≤hi∧hi≤100000000) (hno: ∀ x,lo≤x→x<r→p x=false) (hyes: ∀ x,r≤x→x<hi→p x=true):
 d_ Tryz.prog 208 [(vI lo),(vI hi),f] [X] (vI r):=by
 refine bE kr Tryz.func208 U U fun N Q hQ hN=>?_
 try dsimp only
 refine WS fun _ F=>rP 1 [] I ?_
 refine RK F<|ak fun _ G=>ax ?_
 have A:(lo≤lo∧lo≤r)∧(r≤hi∧hi≤hi):=by omega
 refine bR (ι:={z:Int×Int // (lo≤z.1∧z.1≤r)∧(r≤z.2∧z.2≤hi)}) [2] [0] U U (fun z=>[(0,(vI z.1.1)),(1,(vI z.1.2))]) (fun z=>[]) (fun _=>rfl) (fun _=>rfl) (fun z=>(z.1.2-z.1.1).toNat) ⟨(lo,hi),A⟩ (aU U) (aL [0]) ?_
 clear A
 rintro ⟨⟨a,b⟩,⟨B,C⟩⟩ J3 D
 try dsimp only at B C
 try dsimp only
 refine ak fun _ H=>WS fun _ AA=>rP 3 [] I ?_
 refine RK AA<|bS U (aP fun M=>?_) (aQ fun M=>?_)
 ·refine bB<|ae<|ae<|aA<|KK G<|WS fun _ L=>rP 2 [] I ?_
  refine RK L<|ar<|Q1 hQ U U U ?_
  exact cI om
 refine WK H<|ax<|WS fun _ J=>bg 4 U<|rS (BI U (nM om om om))<|bg 2 U<|RK J<|WS fun _ K=>rP 2 [] I ?_
 refine rS (SX (r_ U U U (hf (a+((b-a)/2)) om) (bh [0])) U U)<|RK K<|cE U (fun hp=>?_) (fun hp=>?_)
 ·refine an<|rP 2 [] I ?_
  refine aF<|aH ?_
  refine aT (D ⟨(a,(a+((b-a)/2))),(by dsimp only; rcases Int.lt_or_le (a+(b-a)/2) r with q|q; (have E:=hno _ om q; (rw [E] at hp; cases hp)); (have E:=hyes _ q om; (refine ⟨⟨om,om⟩,om,om⟩)))⟩ _ _ _ rfl (by simp only []; omega) (aU rfl) (aL [0]))
 refine an<|rP 3 [] I ?_
 refine aF<|aH ?_
 refine aT (D ⟨(((a+((b-a)/2))+1),b),(by dsimp only; rcases Int.lt_or_le (a+(b-a)/2) r with q|q; (have E:=hno _ om q; (refine ⟨⟨om,om⟩,om,om⟩)); (have E:=hyes _ q om; (rw [E] at hp; cases hp)))⟩ _ _ _ rfl (by simp only []; omega) (aU rfl) (aL [0]))
theorem Jb (u:Int) (c:au) (sA:OA) (sC g1:Nat) (s:aO) (g2:Nat) (hc:e8 c) (hu:0≤u∧u≤90000000):
 d_ Tryz.prog 209 [(vI u),(vP g1),(vP g2)] [(rd sA c.bx.length 3 (c.bx.map cH.cells)),(b_ g1 127 (du.cells (du.mk c.dj (aN.mk sA c.bx.length sC)))),(b_ g2 131 (aO.cells s))] (vB (decide (s.Read≤u+(hU c u).Hi))):=by
 have C:=qy hc hu
 refine bE kr Tryz.func209 U U fun D Q hQ hN=>?_
 try dsimp only
 refine WS fun _ A=>bg 1 U<|RK A<|ak fun _ B=>dh cu 10 kr<|lJ 3 [] (mr 1 U I) U<|dS (CL (Fa c sA sC u hc hu) (bh [0]) U)<|dS (SX (kE (v:=(vI ((hU c u).Hi))) U U fB Ao U) U U)<|dP 5 [] (mr 2 U I) ?_
 refine cK<|RK B<|ar ?_
 exact Q1 hQ U U U U
theorem JD (u:Int) (c:au) (sA:OA) (sC g1:Nat) (s:aO) (g2:Nat) (hc:e8 c) (hu:0≤u∧u≤90000000):
 d_ Tryz.prog 211 [(vI u),(vP g1),(vP g2)] [(rd sA c.bx.length 3 (c.bx.map cH.cells)),(b_ g1 127 (du.cells (du.mk c.dj (aN.mk sA c.bx.length sC)))),(b_ g2 131 (aO.cells s))] (vB (decide (s.Read<u+(hU c u).Lo))):=by
 have C:=qy hc hu
 refine bE kr Tryz.func211 U U fun D Q hQ hN=>?_
 try dsimp only
 refine WS fun _ A=>bg 1 U<|RK A<|ak fun _ B=>dh cu 10 kr<|lJ 3 [] (mr 1 U I) U<|dS (CL (Fa c sA sC u hc hu) (bh [0]) U)<|dS (SX (kE (v:=(vI ((hU c u).Lo))) U U fB Ap U) U U)<|dP 5 [] (mr 2 U I) ?_
 refine cK<|RK B<|ar ?_
 exact Q1 hQ U U U U
theorem Kq (l:bf) (kA:OA) (kC:Nat) (az:List RA) (cA:OA) (cC:Nat) (bA:OA) (bC:Nat) (s:aO) (hin:eE l az) (hok:kR l) (hs:(0≤s.gl∧s.gl≤(l.ag.length:Int)-1)∧0≤s.Read∧s.Read≤86400000):
 d_ Tryz.prog 200 [(vA (bJ.cells (ld l kA kC cA cC bA bC))),(vA (aO.cells s))] [(rd kA l.aJ.length 9 (l.aJ.map ao.cells)),(rd cA l.ai.length 2 (List.zipWith au.cells l.ai az)),(fc (aS au.gW l.ai az)),(rd bA l.ag.length 4 (l.ag.map bG.cells))] (vA (aa.cells (cL l s))):=by
 have V:=hin.si
 have S:=hin.sh
 have P:=hin.nO
 have R:=hin.sf
 refine bE kr Tryz.func200 U U fun Z Q hQ hN=>?_
 try dsimp only
 refine WS fun _ AB=>fU U fun X=>fU U fun D=>AL U di fun Y=>RK AB<|ak fun _ J=>dL cu [11,12] [] [] [0,1,2,3,4,5,6] [] U U U U U<|eS U (FA 2 U fB U)<|eS U (L1 (vS cA l.ai.length cC) 2 U cm U U)<|eS U (FA 3 U fB U)<|eS U (L1 (vS bA l.ag.length bC) 2 U cm U U)<|eS U (FA 0 U fB U)<|eS U (L1 (vI s.gl) 1 U cm U U) ?_
 obtain ⟨y,hy⟩:=aM l.ag ((s.gl).toNat) om
 have O:=bQ bG.cells hy
 refine eS U (IA ((s.gl).toNat) U (aB 6 U) vq dc om om)<|eS U (mK ((((s.gl).toNat)*4)+3) U (aB 6 U) (Nat.mul_pos om dc) fB U)<|eS U (gh ((s.gl).toNat) 3 (vI y.jN) U cm (aB 6 U) O U dc U) ?_
 have W:=(hok.vn _ (aV hy)).2
 obtain ⟨x,hx⟩:=aM l.ai ((y.jN).toNat) om
 obtain ⟨xa,F⟩:=aM az ((y.jN).toNat) om
 have N:(List.zipWith au.cells l.ai az)[(y.jN).toNat]? =some (au.cells x xa):=dB hx F
 refine eS U (IA ((y.jN).toNat) U (aB 4 U) z8 dc om om)<|eS U (ov ((y.jN).toNat) 0 (du.cells (du.mk x.dj (aN.mk xa.1 x.bx.length xa.2))) U cm (aB 4 U) N U dc U U)<|e9 U<|cq U fun T6 L=>AL U It fun E=>aF (L _ _ (aL [1,2,3,4,5,6,7]) ?_)
 refine cq U fun T8 M=>fW U O2 U<|aF (M _ _ (aL [1,2,3,4,5,6,7]) ?_)
 refine fO U<|KK J<|WS fun _ K=>?_
 have A:=hok.clock _ (aV hx)
 have AA:=ib (p:=gf x s.Read) (n:=86400001)
 have T:=ib (p:=gi x s.Read) (n:=86400001)
 refine rS (FU U) ?_
 refine rS (CL (Ce 0 86400001 (Value.func (.func 209) [].toArray [(vP E),(vP D)].toArray) (fun B=>(decide (s.Read≤B+(hU x B).Hi))) (fc [(rd xa.1 x.bx.length 3 (x.bx.map cH.cells)),(b_ E 127 (du.cells (du.mk x.dj (aN.mk xa.1 x.bx.length xa.2)))),(b_ D 131 (aO.cells s))]) (fr (gf x s.Read) 86400001) (by intro B _; exact m8 (fi:=[]) (ca:=[(vP E),(vP D)]) (lR (Jb B x xa.1 xa.2 E s D (by first|assumption|omega) (by first|assumption|omega)) (MD 0 1 2 U U U U U U))) om (by intro z G hz; exact (kG A G om).1 hz) (by intro z hz H; exact (kG A om H).2.1 hz)) (ay (lV (ay (show iq _ (rd xa.1 x.bx.length 3 (x.bx.map cH.cells)).holds from (cT 6 U (bT hx F (by simp [au.gW]))))<|fK 0 U U<|fK 2 U U<|aK))<|aK) U) ?_
 refine rS (FU U) ?_
 refine rS (CL (Ce 0 86400001 (Value.func (.func 211) [].toArray [(vP E),(vP D)].toArray) (fun C=>(decide (s.Read<C+(hU x C).Lo))) (fc [(rd xa.1 x.bx.length 3 (x.bx.map cH.cells)),(b_ E 127 (du.cells (du.mk x.dj (aN.mk xa.1 x.bx.length xa.2)))),(b_ D 131 (aO.cells s))]) (fr (gi x s.Read) 86400001) (by intro C _; exact m8 (fi:=[]) (ca:=[(vP E),(vP D)]) (lR (JD C x xa.1 xa.2 E s D (by first|assumption|omega) (by first|assumption|omega)) (MD 0 1 2 U U U U U U))) om (by intro z G hz; exact (kG A G om).2.2.1 hz) (by intro z hz H; exact (kG A om H).2.2.2 hz)) (ay (lV (ay (show iq _ (rd xa.1 x.bx.length 3 (x.bx.map cH.cells)).holds from (cT 6 U (bT hx F (by simp [au.gW]))))<|fK 0 U U<|fK 2 U U<|aK))<|aK) U) ?_
 refine rP 1 [] I ?_
 refine rS (SX (bj (xs:=[(0,.tmp 18),(1,.tmp 21)]) (cs:=(aa.cells (aa.mk (fr (gf x s.Read) 86400001) ((fr (gi x s.Read) 86400001)-1)))) U U (bk gv U)) U U)<|tF U cv U<|RK K<|ar<|H3 hQ [0] (mc 1 U I) U ?_
 unfold cL p9; rw [xL hy hx]
end
section
open Go.RowKit
structure Ki (S:BS) (w0:World) (X:av) (C0:List av) (w:World) (S':BS):Prop where
 st:St S w0 (X::C0) w
 w_: ∀ b,S'.w b↔ ∃ A∈C0,A.wf b
theorem Ec {A B:av} (h:Dc A B):Dc A.ro B:=fun b C D=>⟨fun h=>h,(h b C D).2⟩
theorem Bc {E:fh} {c:Code} {Q:c_} {D:List Deferred} {L:List (Nat×Value)} {C C0:List av} {X:av} (i:Nat) (hn:decide (i::(List.range C.length).filter fun k=>k != i).Nodup=true) (hC:j_ C (i::(List.range C.length).filter fun k=>k != i)=X::C0)
 (h: ∀ w S',Ki E.S E.w0 X C0 w S'→WJ ⟨E.P,E.r,E.n,S',w⟩ c Q D L (X.ro::C0)):WJ E c Q D L C:=fun a w hf hs=>by
 have F:=St.j_ _ hn hC hs
 obtain ⟨G,H⟩:=List.pairwise_cons.1 F.sep
 refine h w ⟨fun b=> ∃ A∈C0,A.wf b,fun _=>True⟩ ⟨F,fun b=>Iff.rfl⟩ a w hf ⟨dT.refl _ _,fun A hA=>?_,List.Pairwise.cons (fun B hB=>Ec (G B hB)) H,fun A hA b hb=>?_,fun A hA b hb=> .inr trivial⟩
 ·rcases List.mem_cons.1 hA with rfl|hA
  ·exact F.holds X (bZ ..)
  ·exact F.holds A (cW _ hA)
 ·rcases List.mem_cons.1 hA with rfl|hA
  ·exact hb.elim
  ·exact .inr ⟨A,hA,hb⟩
theorem Aj {E:fh} {S':BS} {w:World} {K:Act→World→Prop} {D:List Deferred} {L:List (Nat×Value)} {C0 C1 C2:List av} {X:av} (hz:Ki E.S E.w0 X C0 w S') (is:List Nat) (hn:decide is.Nodup=true) (hC:j_ C2 is=C1) (hwr:C1.all (·.wr)=true)
 (h:KJ E K D L (X::C1)):KJ ⟨E.P,E.r,E.n,S',w⟩ K D L C2:=fun a w' hf hs=>by
 have F:=St.j_ is hn hC hs
 have C:=hz.st
 obtain ⟨J,M⟩:=List.pairwise_cons.1 C.sep
 have AA: ∀ b,X.fq b→ ¬ S'.w b:=fun b hb hw=>by
  obtain ⟨A,hA,hw⟩:=(hz.w_ b).1 hw
  exact (J A hA b hb (A.ki b hw)).2 hw
 have G: ∀ b,S'.w b→E.w0.heap.size≤b∨E.S.w b:=fun b hb=>by
  obtain ⟨A,hA,hw⟩:=(hz.w_ b).1 hb
  exact C.own A (cW _ hA) b hw
 have H: ∀ A∈C1,∀ b,A.fq b→w.heap.size≤b∨S'.w b:=fun A hA b hb=>F.own A hA b (A.whole (List.all_eq_true.1 hwr A hA) b hb)
 refine h a w' hf ⟨?_,fun A hA=>?_,List.Pairwise.cons (fun B hB b hb hb'=>?_) F.sep,fun A hA b hb=>?_,fun A hA b hb=>?_⟩
 ·refine ⟨F.keeps.os.trans C.keeps.os,F.keeps.tape.trans C.keeps.tape,F.keeps.output.trans C.keeps.output,Nat.le_trans C.keeps.size F.keeps.size,fun k hk hn'=>?_⟩
  refine (F.keeps.block k (Nat.lt_of_lt_of_le hk C.keeps.size) fun hw=>?_).trans (C.keeps.block k hk hn')
  rcases G k hw with q|q
  ·omega
  ·exact hn' q
 ·rcases List.mem_cons.1 hA with rfl|hA
  ·have hh:=C.holds A (bZ ..)
   exact A.oq w w' (fun b hb=>F.keeps.block b (A.lt w hh b hb) (AA b hb)) hh
  ·exact F.holds A hA
 ·exfalso
  have hl:=X.lt w (C.holds X (bZ ..)) b hb
  rcases H B hB b hb' with q|q
  ·omega
  ·exact AA b hb q
 ·rcases List.mem_cons.1 hA with rfl|hA
  ·exact C.own A (bZ ..) b hb
  ·rcases F.own A hA b hb with q|q
   ·exact .inl (Nat.le_trans C.keeps.size q)
   ·exact G b q
 ·rcases List.mem_cons.1 hA with rfl|hA
  ·exact C.seen A (bZ ..) b hb
  ·rcases H A hA b hb with q|q
   ·exact .inl (Nat.le_trans C.keeps.size q)
   ·obtain ⟨B,hB,hw⟩:=(hz.w_ b).1 q
    exact C.seen B (cW _ hB) b (B.ki b hw)
/-- put back, as it was -/
theorem Gt {M A:Type} {f:M→A→List av} {S:BS} {w0 w:World} {C:List av} {ms:List M} {asl:List A} {k:Nat} {m:M} {a:A} {X:av} (hm:ms[k]? =some m) (ha:asl[k]? =some a) (hf:f m a=[X]) (h:St S w0 (X::bp (fD f ms asl k)::C) w):St S w0 (bp (aS f ms asl)::C) w:=by
 have B:St S w0 (bp (fD f ms asl k)::X::C) w:=h.perm (List.Perm.swap _ _ _)
 have D:St S w0 ((f m a++fD f ms asl k)++C) w:=by
  rw [hf]
  exact B.ia.perm (List.perm_middle (a:=X) (l₁:=fD f ms asl k) (l₂:=C))
 exact kI (kF hm ha).symm D.tied
theorem LK {E:fh} {K:Act→World→Prop} {D:List Deferred} {L:List (Nat×Value)} {C C1:List av} {M A:Type} {f:M→A→List av} {ms:List M} {asl:List A} {k:Nat} {m:M} {a:A} {X:av} (i j:Nat) (hm:ms[k]? =some m) (ha:asl[k]? =some a) (hf:f m a=[X])
 (hn:decide (j::i::(List.range C.length).filter fun k=>k != i&&k != j).Nodup=true) (hC:j_ C (j::i::(List.range C.length).filter fun k=>k != i&&k != j)=X::bp (fD f ms asl k)::C1)
 (h:KJ E K D L (bp (aS f ms asl)::C1)):KJ E K D L C:=fun a w hf' hs=>h a w hf' (Gt hm ha hf (St.j_ _ hn hC hs))
theorem zj {M A:Type} {f:M→A→List av} {ms:List M} {asl:List A} {m:M} {a:A} {X:av} (hl:ms.length=asl.length) (hf:f m a=[X]):aS f ms asl++[X]=aS f (ms++[m]) (asl++[a]):=by
 rw [jD hl,← hf]; simp [aS]
theorem yW {E:fh} {K:Act→World→Prop} {D:List Deferred} {L:List (Nat×Value)} {C C1:List av} {M A:Type} {f:M→A→List av} {ms:List M} {asl:List A} {m:M} {a:A} {X:av} (i j:Nat) (hf:f m a=[X])
 (hn:decide (j::i::(List.range C.length).filter fun k=>k != i&&k != j).Nodup=true) (hC:j_ C (j::i::(List.range C.length).filter fun k=>k != i&&k != j)=X::bp (aS f ms asl)::C1)
 (h:KJ E K D L (bp (aS f (m::ms) (a::asl))::C1)):KJ E K D L C:=fun b w hf' hs=>by
 have B:=St.j_ _ hn hC hs
 have F:St E.S E.w0 (bp (aS f ms asl)::X::C1) w:=B.perm (List.Perm.swap _ _ _)
 have G:St E.S E.w0 (aS f (m::ms) (a::asl)++C1) w:=by
  show St E.S E.w0 ((f m a++aS f ms asl)++C1) w
  rw [hf]
  exact F.ia.perm (List.perm_middle (a:=X) (l₁:=aS f ms asl) (l₂:=C1))
 exact h b w hf' G.tied
end
section
open Go.RowKit
abbrev lx (r:Nat):av:=k9 r (.deferred (some []))
theorem MW (rs:List Nat):(bp (rs.map lx)).wr=true:=by
 show (rs.map lx).all (·.wr)=true
 rw [fg]
 intro X hX
 obtain ⟨r,_,rfl⟩:=List.mem_map.1 hX
 rfl
theorem vG {E:fh} {c:Code} {Q:c_} {D:List Deferred} {L:List (Nat×Value)} {C:List av} {ι:Type} (Di:ι→List Deferred) (Li:ι→List (Nat×Value)) (Ci:ι→List av) (μ:ι→Nat) (x0:ι)
 (hD:D=Di x0) (h0:dy L (Li x0)) (hC: ∀ w,St E.S E.w0 C w→St E.S E.w0 (Ci x0) w)
 (round: ∀ x (J:Act→World→Prop),(∀ y D' L' C',D'=Di y→μ y<μ x→dy L' (Li y)→(∀ w,St E.S E.w0 C' w→St E.S E.w0 (Ci y) w)→KJ E J D' L' C')→WJ E c (Exit.then J Q) (Di x) (Li x) (Ci x)):WJ E (.loop c) Q D L C:=by
 intro a w hf hs
 subst hD
 have H: ∃ x,Fr E.n (Di x) (Li x) a∧St E.S E.w0 (Ci x) w:=⟨x0,hf.sub h0,hC w hs⟩
 clear hf hs
 have key: ∀ (m:Nat) (a:Act) (w:World),(∃ x,μ x=m∧Fr E.n (Di x) (Li x) a∧St E.S E.w0 (Ci x) w)→(Code.loop c).wpIn (Fw E.r) 0 E.P Q a w:=by
  intro m a w hx
  refine wpIn_loop (fun a w=> ∃ x,Fr E.n (Di x) (Li x) a∧St E.S E.w0 (Ci x) w) (fun a w=>leastOf fun k=> ∃ x,μ x=k∧Fr E.n (Di x) (Li x) a∧St E.S E.w0 (Ci x) w) (by obtain ⟨x,_,h⟩:=hx; exact ⟨x,h⟩) ?_
  intro a w hx
  have F: ∃ k,∃ x,μ x=k∧Fr E.n (Di x) (Li x) a∧St E.S E.w0 (Ci x) w:=by obtain ⟨x,h⟩:=hx; exact ⟨_,x,rfl,h⟩
  obtain ⟨x,K,AA,M⟩:=(leastOf_spec F).1
  refine round x _ ?_ a w AA M
  intro y D' L' C' hD G A B a' w' hf' hs'
  subst hD
  refine ⟨⟨y,hf'.sub A,B _ hs'⟩,?_⟩
  rw [← K]
  exact Nat.lt_of_le_of_lt ((leastOf_spec ⟨_,y,U,hf'.sub A,B _ hs'⟩).2 _ ⟨y,U,hf'.sub A,B _ hs'⟩) G
 obtain ⟨x,h⟩:=H
 exact key _ a w ⟨x,U,h⟩
theorem St.U6 {S:BS} {w0 w:World} {C X:List av} {A:av} (h:St S w0 (A::bp X::C) w):St S w0 (bp (A::X)::C) w:=by
 have B:St S w0 (bp X::A::C) w:=h.perm (List.Perm.swap _ _ _)
 have D:St S w0 ((A::X)++C) w:=B.ia.perm (List.perm_middle (a:=A) (l₁:=X) (l₂:=C))
 exact D.tied
theorem LU {E:fh} {K:Act→World→Prop} {D:List Deferred} {L:List (Nat×Value)} {C C1 X:List av} {A:av} (i j:Nat) (hn:decide (j::i::(List.range C.length).filter fun k=>k != i&&k != j).Nodup=true) (hC:j_ C (j::i::(List.range C.length).filter fun k=>k != i&&k != j)=A::bp X::C1)
 (h:KJ E K D L (bp (A::X)::C1)):KJ E K D L C:=fun a w hf hs=>h a w hf ((St.j_ _ hn hC hs).U6)
theorem Eg {E:fh} {K:Act→World→Prop} {D:List Deferred} {L:List (Nat×Value)} {C:List av} (h:KJ E K D L (bp []::C)):KJ E K D L C:=fun a w hf hs=>h a w hf hs.Pg
theorem Qd {E:fh} {K:Act→World→Prop} {D:List Deferred} {L:List (Nat×Value)} (C1 C2:List av) (h:KJ E K D L (bp C1::C2)):KJ E K D L (C1++C2):=fun a w hf hs=>h a w hf (St.tied hs)
theorem M5 {E:fh} {fn:Func} {R:Ending→World→Prop} {D:List Deferred} {L:List (Nat×Value)} {C C1:List av} {rs:List Nat} (i:Nat) (hn:decide (i::(List.range C.length).filter fun k=>k != i).Nodup=true) (hC:j_ C (i::(List.range C.length).filter fun k=>k != i)=bp (rs.map lx)::C1)
 (h:LJ E fn R D L C1):LJ E fn R (rs.map lh++D) L C:=by
 have key: ∀ rs:List Nat,LJ E fn R (rs.map lh++D) L (bp (rs.map lx)::C1):=by
  intro rs
  induction rs with
  |nil=>exact fun a w hf hs=>h a w hf (hs.take (List.sublist_cons_self _ _))
  |cons r rs ih=>
   have A:LJ E fn R (lh r::(rs.map lh++D)) L (lx r::bp (rs.map lx)::C1):=oe 0 rfl rfl (fun a w hf hs=>ih a w hf (hs.take (List.sublist_cons_self _ _)))
   intro a w hf hs
   refine A a w hf ?_
   have B:St E.S E.w0 ((lx r::rs.map lx)++C1) w:=St.ia (C1:=lx r::rs.map lx) hs
   have F:St E.S E.w0 (rs.map lx++(lx r::C1)) w:=B.perm (List.perm_middle (a:=lx r) (l₁:=rs.map lx) (l₂:=C1)).symm
   exact F.tied.perm (List.Perm.swap _ _ _)
 exact fun a w hf hs=>key rs a w hf (St.j_ _ hn hC hs)
theorem Jc {E:fh} {fn:Func} {R:Ending→World→Prop} {L:List (Nat×Value)} {C C1:List av} {rs:List Nat} (i:Nat) (hn:decide (i::(List.range C.length).filter fun k=>k != i).Nodup=true) (hC:j_ C (i::(List.range C.length).filter fun k=>k != i)=bp (rs.map lx)::C1)
 (h:LJ E fn R [] L C1):LJ E fn R (rs.map lh) L C:=by
 have:=M5 (D:=[]) i hn hC h
 rwa [List.append_nil] at this
end
section
open Go.RowKit
theorem JN (fs:List FM) (fb:List Nat):(bp (aS nH fs fb)).wr=true:=by
 show (aS nH fs fb).all (·.wr)=true
 rw [fg]
 intro X hX
 obtain ⟨k,m,a,_,_,h⟩:=jF hX
 simp only [nH,bX] at h
 subst h; rfl
theorem Tb (fs:List TM) (fb:List Nat):(bp (aS q_ fs fb)).wr=true:=by
 show (aS q_ fs fb).all (·.wr)=true
 rw [fg]
 intro X hX
 obtain ⟨k,m,a,_,_,h⟩:=jF hX
 simp only [q_,bX] at h
 subst h; rfl
end
section
def eB (bl:List Nat) (n:Nat):List (Option Nat):=bl.map some++List.replicate (n-bl.length) none
def gV (bl:List Nat) (n:Nat):List (Option Nat):=List.replicate (n-bl.length) none++bl.map some
theorem qS {bl:List Nat} {n:Nat} (h:bl.length≤n):(eB bl n).length=n:=by simp [eB]; omega
theorem yn {bl:List Nat} {n:Nat} (h:bl.length≤n):(gV bl n).length=n:=by simp [gV]; omega
theorem zp {n:Nat}:List.replicate n none=eB [] n:=by simp [eB]
theorem Hq {n:Nat}:List.replicate n none=gV [] n:=by simp [gV]
theorem yo {bl:List Nat} {n:Nat} (h:bl.length=n):eB bl n=bl.map some:=by simp [eB,h]
theorem GK {bl:List Nat} {n:Nat} (h:bl.length=n):gV bl n=bl.map some:=by simp [gV,h]
theorem ow {bl:List Nat} {n k g:Nat} (h:bl[k]? =some g):(eB bl n)[k]? =some (some g):=by
 have hk:=(List.getElem?_eq_some_iff.1 h).1
 unfold eB
 rw [List.getElem?_append_left (by simpa using hk),fE,h]; rfl
theorem s8 {bl:List Nat} {n k i g:Nat} (h:bl[i]? =some g) (hk:k=n-bl.length+i):(gV bl n)[k]? =some (some g):=by
 subst hk
 unfold gV
 rw [List.getElem?_append_right sm,fE,List.length_replicate,Nat.add_sub_cancel_left,h]; rfl
theorem uu {bl:List Nat} {n k g:Nat} (hk:k=bl.length) (h:bl.length<n):(eB bl n).set k (some g)=eB (bl++[g]) n:=by
 subst hk
 unfold eB
 rw [List.set_append_right _ _ sm]
 have e:n-bl.length=(n-(bl++[g]).length)+1:=by simp; omega
 rw [e,List.replicate_succ]
 simp
theorem GO {bl:List Nat} {n k g:Nat} (hk:k+1+bl.length=n):(gV bl n).set k (some g)=gV (g::bl) n:=by
 unfold gV
 have e:n-bl.length=k+1:=by omega
 have A:n-(g::bl).length=k:=by simp; omega
 rw [e,A,List.set_append_left _ _ sm,List.replicate_succ',List.set_append_right _ _ sm]
 simp
theorem rl {l:List (Option Nat)} {k g:Nat} (h:l[k]? =some (some g)):(l.map oC)[k]? =some (oC (some g)):=by rw [fE,h]; rfl
theorem zT {α:Type} {l:List α} {x:α} {k:Nat} (h:k=l.length):(l++[x])[k]? =some x:=by subst h; simp
theorem K3 {α:Type} {l:List α} {x y:α} {k:Nat} (h:l[k]? =some y):(l++[x])[k]? =some y:=by rw [List.getElem?_append_left (List.getElem?_eq_some_iff.1 h).1]; exact h
structure pQ (w:bU) (fs:List FM):Prop where
 all: ∀ (b:Nat) m,fs[b]? =some m→sG m (fwd w b)∧(m.map (·.1)).Nodup
structure g4 (w:bU) (k:Nat) (bs:List FM):Prop where
 all: ∀ (i:Nat) m,bs[i]? =some m→vd m (back w (k+i))∧(m.map (·.1)).Nodup
variable {w:bU} {b:Nat} {mb m left:List (aC×Int)} {o:Int×aa} {os:List (Int×aa)} {p:aC×Int}
theorem pQ.first:pQ w [[(⟨0,0⟩,w.Start)]]:=⟨fun b m h=>by
 match b with
 |0=>simp at h; subst h; exact ⟨Gn,sm⟩
 |n+1=>simp at h⟩
theorem pQ.add {fs:List FM} (h:pQ w fs) (hl:fs.length=b+1) (hmb:fs[b]? =some mb) (hm:xP w b m) (hd:jE w b mb m left) (h0:left=[]):pQ w (fs++[m]):=⟨fun i x hx=>by
 rcases Nat.lt_or_ge i fs.length with q|q
 ·rw [List.getElem?_append_left q] at hx; exact h.all i x hx
 ·rw [List.getElem?_append_right q] at hx
  have hi:i-fs.length=0:=by
   rcases Nat.eq_zero_or_pos (i-fs.length) with z|z
   ·exact z
   ·rw [List.getElem?_eq_none (by simp; omega)] at hx; cases hx
  rw [hi] at hx
  simp at hx; subst hx
  obtain rfl:i=b+1:=by omega
  have A:=h.all b mb hmb
  exact ⟨Kt A.2 A.1 hm.snd (hd.fin h0),hm.keys⟩⟩
theorem pQ.ok {fs:List FM} (h:pQ w fs) (hl:fs.length=w.n+1):xq w fs:=⟨hl,fun b m hm=>(h.all b m hm).1,fun b m hm=>(h.all b m hm).2⟩
theorem g4.none_:g4 w b []:=⟨fun i m h=>by simp at h⟩
theorem g4.last (hb:w.n≤b):g4 w b [[(⟨0,0⟩,w.gj)]]:=⟨fun i m h=>by
 match i with
 |0=>simp at h; subst h; exact ⟨IQ om,sm⟩
 |n+1=>simp at h⟩
theorem g4.add {bs:List FM} (h:g4 w (b+1) bs) (hb:b<w.n) (hmb:bs[0]? =some mb) (hm:vk w b m) (hd:jt w b mb m left) (h0:left=[]):g4 w b (m::bs):=⟨fun i x hx=>by
 match i with
 |0=>
  simp at hx; subst hx
  have A:=h.all 0 mb hmb
  exact ⟨JK hb A.2 A.1 hm.snd hm.zero (hd.fin h0),hm.keys⟩
 |n+1=>
  have:=h.all n x (by simpa using hx)
  rw [show b+1+n=b+(n+1) by omega] at this
  exact this⟩
theorem g4.ok {bs:List FM} (h:g4 w 0 bs) (hl:bs.length=w.n+1):ux w bs:=⟨hl,fun b m hm=>by have:=(h.all b m hm).1; rwa [Nat.zero_add] at this,fun b m hm=>(h.all b m hm).2⟩
/-- on the way through one entry's options -/
structure mV (w:bU) (b:Nat) (mb left m:List (aC×Int)) (p:aC×Int) (os:List (Int×aa)):Prop where
 on:xP w b m
 tq:jE w b mb m left
 done:iQ w b m p os
structure nA (w:bU) (b:Nat) (mb left m:List (aC×Int)) (p:aC×Int) (os:List (Int×aa)):Prop where
 on:vk w b m
 tq:jt w b mb m left
 done:iS w b m p os
theorem mV.start (h:xP w b m) (h2:jE w b mb m left):mV w b mb left m p []:=⟨h,h2,fun o ho=>by cases ho⟩
theorem nA.start (h:vk w b m) (h2:jt w b mb m left):nA w b mb left m p []:=⟨h,h2,fun o ho=>by cases ho⟩
theorem GX {q:aC×Int} (h:(m.lookup q.1).isSome=false∨q.2<(m.lookup q.1).getD 0):oW m q=eh m q.1 q.2:=by
 unfold oW
 cases e:m.lookup q.1 with
 |none=>rfl
 |some v=>rw [e] at h; simp at h; simp only; rw [if_pos h]
theorem Du {q:aC×Int} (h:(m.lookup q.1).isSome=true) (h2: ¬ q.2<(m.lookup q.1).getD 0):oW m q=m:=by
 unfold oW
 cases e:m.lookup q.1 with
 |none=>rw [e] at h; cases h
 |some v=>rw [e] at h2; simp only [Option.getD_some] at h2; simp only; rw [if_neg h2]
theorem HK {q:aC×Int} (h:(m.lookup q.1).isSome=false∨(m.lookup q.1).getD 0<q.2):oO m q=eh m q.1 q.2:=by
 unfold oO
 cases e:m.lookup q.1 with
 |none=>rfl
 |some v=>rw [e] at h; simp at h; simp only; rw [if_pos h]
theorem Dt {q:aC×Int} (h:(m.lookup q.1).isSome=true) (h2: ¬ (m.lookup q.1).getD 0<q.2):oO m q=m:=by
 unfold oO
 cases e:m.lookup q.1 with
 |none=>rw [e] at h; cases h
 |some v=>rw [e] at h2; simp only [Option.getD_some] at h2; simp only; rw [if_neg h2]
theorem Ab {t:aC} {v y:Int} (hy:w.pJ[b]? =some y) (h:max (v+y) o.2.Lo≤min o.2.Hi w.gj):ky w b (t,v) o=some (dp t (fp o.1),max (v+y) o.2.Lo):=by
 have e:=ng hy
 subst e
 exact JF h
theorem Ib {t:aC} {v y:Int} (hy:w.pJ[b]? =some y) (h: ¬ max (v+y) o.2.Lo≤min o.2.Hi w.gj):ky w b (t,v) o=none:=by
 have e:=ng hy
 subst e
 exact MP h
theorem zI {t:aC} {v y:Int} (hy:w.pJ[b]? =some y) (h:o.2.Lo≤min v o.2.Hi):nK w b (t,v) o=some (dp t (fp o.1),min v o.2.Hi-y):=by
 have e:=ng hy
 subst e
 exact JT h
theorem mV.set {q:aC×Int} (h:mV w b mb left m p os) (hp:p∈fwd w b) (ho:o∈ik w b) (he:ky w b p o=some q) (hs:(m.lookup q.1).isSome=false∨q.2<(m.lookup q.1).getD 0):mV w b mb left (eh m q.1 q.2) p (os++[o]):=by
 rw [← GX hs]
 exact ⟨h.on.add hp ho he,h.tq.lower uK,h.done.KC he⟩
theorem mV.oq {q:aC×Int} (h:mV w b mb left m p os) (he:ky w b p o=some q) (hs:(m.lookup q.1).isSome=true) (h2: ¬ q.2<(m.lookup q.1).getD 0):mV w b mb left m p (os++[o]):=by
 have:=h.done.KC he
 rw [Du hs h2] at this
 exact ⟨h.on,h.tq,this⟩
theorem mV.skip (h:mV w b mb left m p os) (he:ky w b p o=none):mV w b mb left m p (os++[o]):=⟨h.on,h.tq,h.done.none_ he⟩
theorem nA.set {q:aC×Int} (hb:b<w.n) (h:nA w b mb left m p os) (hp:p∈back w (b+1)) (ho:o∈ik w b) (he:nK w b p o=some q) (hs:(m.lookup q.1).isSome=false∨(m.lookup q.1).getD 0<q.2):nA w b mb left (eh m q.1 q.2) p (os++[o]):=by
 rw [← HK hs]
 exact ⟨h.on.add hb hp ho he,h.tq.upper qz,h.done.KC he⟩
theorem nA.oq {q:aC×Int} (h:nA w b mb left m p os) (he:nK w b p o=some q) (hs:(m.lookup q.1).isSome=true) (h2: ¬ (m.lookup q.1).getD 0<q.2):nA w b mb left m p (os++[o]):=by
 have:=h.done.KC he
 rw [Dt hs h2] at this
 exact ⟨h.on,h.tq,this⟩
theorem nA.skip (h:nA w b mb left m p os) (he:nK w b p o=none):nA w b mb left m p (os++[o]):=⟨h.on,h.tq,h.done.none_ he⟩
theorem mV.next {t:aC} {v:Int} (hn:(left.map (·.1)).Nodup) (hm:(t,v)∈left) (h:mV w b mb left m (t,v) os) (ho: ∀ o∈ik w b,o∈os):jE w b mb m (cp left t):=h.tq.next hn hm h.done ho
theorem nA.next {t:aC} {v:Int} (hn:(left.map (·.1)).Nodup) (hm:(t,v)∈left) (h:nA w b mb left m (t,v) os) (ho: ∀ o∈ik w b,o∈os):jt w b mb m (cp left t):=h.tq.next hn hm h.done ho
theorem pQ.mem {fs:List FM} (h:pQ w fs) (hm:fs[b]? =some mb) (hp:p∈mb):p∈fwd w b:=(h.all b mb hm).1.1 _ _ ((fz (h.all b mb hm).2).1 hp)
theorem g4.Vn {bs:List FM} {k:Nat} (h:g4 w k bs) (hk:k=b+1) (hm:bs[0]? =some mb) (hp:p∈mb):p∈back w (b+1):=by
 subst hk
 exact (h.all 0 mb hm).1.1 _ _ ((fz (h.all 0 mb hm).2).1 hp)
theorem g4.end_ {bs:List FM} {k j:Nat} (h:g4 w k bs) (hj:bs.length=0) (hk:j=b) (hb:w.n≤b):g4 w j ([(⟨0,0⟩,w.gj)]::bs):=by
 subst hk
 rw [jz hj]
 exact g4.last hb
theorem g4.more {bs:List FM} {k j:Nat} (h:g4 w k bs) (hk:k=b+1) (hj:j=b) (hb:b<w.n) (hmb:bs[0]? =some mb) (hm:vk w b m) (hd:jt w b mb m left) (h0:left=[]):g4 w j (m::bs):=by
 subst hk hj
 exact h.add hb hmb hm hd h0
end
section
open Go.RowKit
theorem jY {a:OA} {c e sz n:Nat} {es:List (List Value)} (h:es.length=n):Mg (own a c e sz es) (rd a n sz es):=by subst h; exact MB
theorem th {L:List av}:Mg (bp L) (fc L):=⟨fun w h=>h.1,fun b h=>h⟩
theorem Oh {b:Nat} {fb:List Nat} {g:Nat} (h:fb.length=b):aS q_ (List.replicate b ([]:TM)) fb++[hO iV g (bM dW [])]=aS q_ (List.replicate (b+1) ([]:TM)) (fb++[g]):=by
 rw [List.replicate_succ']
 exact zj (by rw [List.length_replicate]; exact h.symm) U
theorem T1 {α:Type} {ms:List α} {fb:List Nat} {n:Nat} (h:fb.length=n) (h2:ms.length=n):List.map oC (eB fb n)=List.zipWith gH ms fb:=by
 rw [yo h]; exact (Az om).symm
theorem vK {l:bf} {r:cG} {i:Nat} {x:aO} (hx:r.aj[i]? =some x) (h: ¬ j2 l r.aj i x): ¬ fm l r:=fun q=>h (q.sig i x hx)
end
section
open Go.RowKit
theorem rR (ln:bJ) (ri:eK) (e:List Int) (tms:List TM) (e_A:OA) (e_C:Nat) (tb:List Nat) (t_A:OA) (t_C:Nat) (fA:OA) (fN fC:Nat) (bA:OA) (bN bC:Nat) (gw b:Nat) (g1 g2:Nat) (hb:b<tms.length) (htb:tb.length=tms.length):
 DD Tryz.prog 212 [] [(vP g1),(vP g2)] [(rd e_A e.length 1 (e.map iC)),(rd t_A tms.length 1 (List.zipWith gH tms tb)),(fc (aS q_ tms tb)),(b_ gw 270 (ck.cells (ck.mk ln ri (aN.mk e_A e.length e_C) (aN.mk t_A tms.length t_C) (aN.mk fA fN fC) (aN.mk bA bN bC)))),(b_ g1 259 [(vP gw)]),(b_ g2 3 [(vI (b:Int))])] ([]:List (Int×aa)) (fun ys x ys'=> ∃ o,o∈ik (cN ln ri e tms) b∧x=OY o∧ys'=ys++[o]) (fun ys=> ∀ o∈ik (cN ln ri e tms) b,o∈ys):=by
 refine sW kr Tryz.func212 U U fun l J Z A0 d Q hY V AA hQ hN=>?_
 try dsimp only
 refine ak fun _ X=>ak fun _ R=>dh cu 12 kr<|lJ 2 [] (mr 5 U I) U<|dS (SX (bO U U) U U)<|lJ 4 [0,1] (mr 4 U (mr 5 U I)) U<|dS (SX (bO U U) U U)<|dP 3 [] (mr 4 U I) ?_
 refine dS (SX (bj (xs:=[(0,.tmp 11),(1,.tmp 16)]) (cs:=(aa.cells (aa.mk ri.Start ri.gj))) U U (bk gv U)) U U)<|cK<|ko (k:=([]:List (Int×aa))) (k':=(([]:List (Int×aa))++[((-1),(aa.mk ri.Start ri.gj))])) 0 (by first|exact hsz|exact Nat.le_refl _) hY V AA U U U (by exact ⟨(-1,⟨ri.Start,ri.gj⟩),bZ ..,U,U⟩) U U (fun B3 N M=>?_) (fun B3 N M=>?_)
 rotate_left 1
 ·refine rP 1 [] I ?_
  refine RK R<|aR U<|ar ?_
  refine hQ _ _ _ (gU (vs:=[]) trivial fun w hs=>rn 0 U N M hs)
 refine bg 1 U<|RK R<|aX U<|WK X<|ak fun _ Y=>dh cu 7 kr<|lJ 1 [] (mr 5 U I) U<|dS (SX (bO U U) U U)<|dP 3 [0,1] (mr 4 U (mr 6 U I)) ?_
 obtain ⟨x,hx⟩:=aM tms b om
 obtain ⟨xa,L⟩:=aM tb b om
 have a:(List.zipWith gH tms tb)[b]? =some (gH x xa):=dB hx L
 refine dS (IA b U (aB 2 U) E_ dc om om)<|dS (gh b 0 (Value.map (some xa)) U cm (aB 2 U) a U dc U)<|cK<|iG (kV:=iV) (m:=bM dW x) 3 U U nJ U ⟨⟨(hO iV xa (bM dW x)),(bT hx L (by simp [q_])),U⟩,fun h=>h⟩ (show iq _ (hO iV xa (bM dW x)).holds from cT 3 U (bT hx L (by simp [q_]))) U fun j=>?_
 try dsimp only
 refine RK Y<|ax ?_
 have G:(∀ o∈x,o∈x∨o∈(([]:List (Int×aa))++[((-1),(aa.mk ri.Start ri.gj))]))∧(∀ o∈x,o∈x)∧(J (([]:List (Int×aa))++[((-1),(aa.mk ri.Start ri.gj))]) B3)∧(Fo A0 d B3)∧((-1,(⟨ri.Start,ri.gj⟩:aa))∈(([]:List (Int×aa))++[((-1),(aa.mk ri.Start ri.gj))])):=by exact ⟨fun o ho=> .inl ho,fun o ho=>ho,asm,asm,sm⟩
 refine bR (ι:={z:TM×(List (Int×aa))×av // (∀ o∈x,o∈z.1∨o∈z.2.1)∧(∀ o∈z.1,o∈x)∧(J z.2.1 z.2.2)∧(Fo A0 d z.2.2)∧((-1,(⟨ri.Start,ri.gj⟩:aa))∈z.2.1)}) [0,1,2,27] [2,3,4,6,7] U U (fun z=>[]) (fun z=>[(x9 iV j xa (bM dW x) (bM dW z.1.1) none),z.1.2.2]) (fun _=>rfl) (fun _=>rfl) (fun z=>z.1.1.length) ⟨(x,(([]:List (Int×aa))++[((-1),(aa.mk ri.Start ri.gj))]),B3),G⟩ (dy.nil _) (aL [2,3,4,6,7,0,1]) ?_
 clear G
 rintro ⟨⟨left,ys,A⟩,⟨B,C,D,E,F⟩⟩ J8 W
 try dsimp only at B C D E F
 try dsimp only
 refine WS fun _ S=>g6 (dQ oG).inj (f:=dW) 5 U U U U (fun T=>?_) (fun i z hm hn=>?_)
 ·refine rP 1 [] I ?_
  refine RK S<|ak fun _ c=>aX U<|bB<|ae<|ae<|aA ?_
  refine hN _ _ _ (gU (vs:=[]) trivial fun w hs=>Kz 6 U (by exact Hg hx B T F) D E hs)
 try dsimp only
 refine bg 1 U<|RK S<|ak fun _ O=>aR U<|WK O<|ax<|WS fun _ P=>rS (SX (g7 5 U U U) U U)<|bg 2 U<|AL U di fun g=>bg 1 U<|fW U cv U<|RK P<|WS fun _ K=>rP 3 [] (mc 0 U I) ?_
 refine ko (k:=ys) (k':=(ys++[(i,z)])) 7 (by first|exact hsz|exact Nat.le_refl _) hY D E U U U (by exact ⟨(i,z),(we hx).2 (.inr (C _ hm)),U,U⟩) U U (fun B15 AB H=>?_) (fun B15 AB H=>?_)
 rotate_left 1
 ·refine rP 1 [] I ?_
  refine RK K<|aR U<|ar ?_
  refine hQ _ _ _ (gU (vs:=[]) trivial fun w hs=>rn 7 U AB H hs)
 refine rP 1 [] I ?_
 refine RK K<|aX U<|cj<|aH<|f_ 6 U eJ U ?_
 refine aT (W ⟨((cp left i),(ys++[(i,z)]),B15),⟨G1 hn hm B,l4 C,asm,asm,by simp [F]⟩⟩ _ _ _ U (dU hm) (aU U) (aL [1,2,3,4,5,6,7]))
theorem uv (gw b:Nat):
 lq Tryz.prog 204 [(vP gw),(vI (b:Int))] [] (fun (x:Nat×Nat)=>(Value.func (.func 212) [].toArray [(Value.pointer (some ⟨x.1,0,none⟩)),(Value.pointer (some ⟨x.2,0,none⟩))].toArray)) (fun (x:Nat×Nat)=>True) (fun (x:Nat×Nat)=>[(b_ x.1 259 [(vP gw)]),(b_ x.2 3 [(vI (b:Int))])]):=by
 refine dv kr Tryz.func204 U U fun E Q hQ hN=>?_
 try dsimp only
 refine WS fun _ A=>uA U U fun C=>uA U U fun D=>bg 1 U<|RK A<|WS fun _ B=>rS (FU U)<|rP 1 [] I ?_
 refine RK B<|ar<|LX hQ (C,D) [1,0] [] I U U U U ?_
 trivial
theorem Ju (gw b:Nat):
 lq Tryz.prog 199 [(vP gw),(vI (b:Int))] [] (fun (x:Nat×Nat)=>(Value.func (.func 203) [].toArray [(Value.pointer (some ⟨x.1,0,none⟩)),(Value.pointer (some ⟨x.2,0,none⟩))].toArray)) (fun (x:Nat×Nat)=>True) (fun (x:Nat×Nat)=>[(b_ x.1 259 [(vP gw)]),(b_ x.2 3 [(vI (b:Int))])]):=by
 refine dv kr Tryz.func199 U U fun E Q hQ hN=>?_
 try dsimp only
 refine WS fun _ A=>uA U U fun C=>uA U U fun D=>bg 1 U<|RK A<|WS fun _ B=>rS (FU U)<|rP 1 [] I ?_
 refine RK B<|ar<|LX hQ (C,D) [1,0] [] I U U U U ?_
 trivial
end
end Go.Proofs.YtdllkkdchkhimaaGreatDoor
