/-
 The statement raceTied_said, part 5 of 8: RaceV, RankP, OrdX, TabP, NestS, Grp, Twin, Fresh, Rep, Ex6, Win6, BoolC, RaceR, Tied6, Bits, B1, Rc1, Rs5, CloneM, Rs1, S2, Rs2, MapD, B4, B2, B3, B5, B6, Frozen, MarkD, Marks, Follow, OpenM, V2, V1.
 Conditions: none.
-/
import Derived.Test.YtdllkkdchkhimaaGreatDoorTz1
import Derived.Test.YtdllkkdchkhimaaGreatDoorTz2
import Derived.Test.YtdllkkdchkhimaaGreatDoorTz3
import Derived.Test.YtdllkkdchkhimaaGreatDoorTz4
import Derived.KernelRfl
import Derived.MapKept
import Derived.Laws.Externs
namespace Go.Proofs.YtdllkkdchkhimaaGreatDoor
set_option maxRecDepth 100000
set_option maxHeartbeats 4000000
set_option linter.unusedVariables false
section
def aB (m:g3) (i:Int):aa:=(m.lookup i).getD dA
def pQ (r:cm) (i:Int):Prop:=0≤i∧i≤(r.aJ.length:Int)-1
instance (r:cm) (i:Int):Decidable (pQ r i):=by unfold pQ; infer_instance
noncomputable def kG (r:cm) (i:Int):Int:=if bX r=0 then (if pQ r i then (if (aF r).lookup i=none then 6 else 0) else 2) else bX r
noncomputable def pP (r:cm) (i:Int):aa:=if kG r i=0 then aB (aF r) i else dA
noncomputable def j_ (r:cm) (a b:Int):Int:=if bX r=0 then (if pQ r a∧pQ r b∧a≠b then (if (aF r).lookup a=none∨(aF r).lookup b=none then 6 else 0) else 2) else bX r
def wv (s t:aa):Int:=if s.Hi<t.Lo then 2 else if s.Lo<t.Hi then 1 else 0
def nA (s t:aa):Int:=if s=t∧s.Lo=s.Hi then 2 else if s.Lo≤t.Hi∧t.Lo≤s.Hi then 1 else 0
noncomputable def pS (r:cm) (a b:Int):Int:=if j_ r a b=0 then wv (aB (aF r) a) (aB (aF r) b) else 0
noncomputable def l6 (r:cm) (a b:Int):Int:=if j_ r a b=0 then nA (aB (aF r) a) (aB (aF r) b) else 0
noncomputable def cH (r:cm) (i:Int):List Int:=if kG r i=0 then db (aF r) i (aB (aF r) i) else []
noncomputable def gT (r:cm) (h i:Int):Int:=if bX r=0 then (if (0≤h∧h≤(r.ar.length:Int)-1)∧pQ r i then (if ((r.ar[h.toNat]?).bind (·[i.toNat]?)).any (·.Out)=true then 6 else 0) else 2) else bX r
noncomputable def eZ (r:cm) (h i:Int):aa:=if gT r h i=0 then ((((r.ar[h.toNat]?).bind (·[i.toNat]?)).map (dC r.ah)).getD dA) else dA
noncomputable def uo (r:cm) (h:Nat):List Int:=let l:=eA (fun i=>(aB (eI r h) i).Hi) (r.bB.filter fun i=>((eI r h).lookup i).isSome); rr (min r.dW.toNat l.length) l
noncomputable def iF (r:cm) (h:Int):Int:=if bX r=0 then (if 0≤h∧h≤(r.ar.length:Int) then 0 else 2) else bX r
noncomputable def gY (r:cm) (h:Int):List Int:=if iF r h=0 then (if h=0 then r.bB else uo r h.toNat) else []
section
variable {r:cm} {i a b:Int}
theorem uy {m:g3} {i:Int} (h:(m.lookup i).isSome=true): ¬ m.lookup i=none:=fun e=>by rw [e] at h; cases h
theorem tY {m:g3} {i:Int} (h:(m.lookup i).isSome=false):m.lookup i=none:=by cases e:m.lookup i with |none=>rfl|some v=>rw [e] at h; cases h
theorem yV (h:kG r i=0):bX r=0∧pQ r i∧(aF r).lookup i≠none:=by
 unfold kG at h
 split at h
 ·split at h
  ·split at h
   ·cases h
   ·exact ⟨asm,asm,asm⟩
  ·cases h
 ·exact absurd h asm
theorem tS (h:j_ r a b=0):bX r=0∧(pQ r a∧pQ r b∧a≠b)∧(aF r).lookup a≠none∧(aF r).lookup b≠none:=by
 unfold j_ at h
 split at h
 ·split at h
  ·split at h
   ·cases h
   ·rename_i _ _ q
    exact ⟨asm,asm,fun e=>q (.inl e),fun e=>q (.inr e)⟩
  ·cases h
 ·exact absurd h asm
theorem yi {k:Nat} {p:Int×aa} (h:p∈eI r k): ∃ q:Nat,q<r.aJ.length∧p.1=(q:Int)∧gI r.ah r.ar q k=some p.2:=by
 unfold eI at h
 obtain ⟨q,hq,e⟩:=List.mem_filterMap.1 h
 obtain ⟨s,hs,rfl⟩:=Option.map_eq_some_iff.1 e
 exact ⟨q,List.mem_range.1 hq,U,hs⟩
theorem ES {k:Nat} (h:bX r=0) (hk:k≤r.ar.length): ∀ p∈eI r k,0≤p.2.Lo∧p.2.Lo≤p.2.Hi∧p.2.Hi≤30000000:=fun p hp=>by
 obtain ⟨q,_,_,hs⟩:=yi hp
 have A:=z7 (jk h).2.Ag hk hs
 have B:=(jk h).2.nh
 omega
theorem m_ (h:bX r=0): ∀ p∈aF r,0≤p.2.Lo∧p.2.Lo≤p.2.Hi∧p.2.Hi≤30000000:=ES h (Nat.le_refl _)
theorem tD {k:Nat}:(eI r k).length≤r.aJ.length:=by
 unfold eI
 refine Nat.le_trans (List.length_filterMap_le _ _) ?_
 rw [List.length_range]; exact Nat.le_refl _
theorem oM (h:bX r=0):(aF r).length≤5:=by
 have A:=tD (r:=r) (k:=r.ar.length)
 have B:=(jk h).2.num
 unfold aF; omega
theorem L7 {s t:aa}:(if decide (s.Hi<t.Lo)=true then (2:Int) else if decide (s.Lo<t.Hi)=true then 1 else 0)=wv s t:=by simp only [decide_eq_true_eq]; rfl
theorem Ia {s t:aa} (h:s=t):(if decide (max s.Lo t.Lo=min s.Hi t.Hi)=true then (2:Int) else if decide (max s.Lo t.Lo≤min s.Hi t.Hi)=true then 1 else 0)=nA s t:=by
 subst h
 simp only [decide_eq_true_eq,nA,Int.max_self,Int.min_self,true_and,and_self]
theorem M3 {s t:aa} (hs:s.Lo≤s.Hi) (ht:t.Lo≤t.Hi) (h: ¬ s=t):(if false=true then (2:Int) else if decide (max s.Lo t.Lo≤min s.Hi t.Hi)=true then 1 else 0)=nA s t:=by
 unfold nA
 rw [if_neg dc,if_neg (fun q:s=t∧s.Lo=s.Hi=>h q.1)]
 by_cases c:s.Lo≤t.Hi∧t.Lo≤s.Hi
 ·rw [if_pos c,if_pos (dw om)]
 ·rw [if_neg c,if_neg (by rw [decide_eq_true_eq]; omega)]
theorem Il (h: ¬ bX r=0):kG r i=bX r:=if_neg h
theorem HW (h:bX r=0) (hi: ¬ (0≤i∧i≤(r.aJ.length:Int)-1)):kG r i=2:=by unfold kG; rw [if_pos h,if_neg (show ¬ pQ r i from hi)]
theorem Hz (h:bX r=0) (hi:0≤i∧i≤(r.aJ.length:Int)-1) (hl:((aF r).lookup i).isSome=false):kG r i=6:=by unfold kG; rw [if_pos h,if_pos (show pQ r i from hi),if_pos (tY hl)]
theorem Nl (h:bX r=0) (hi:0≤i∧i≤(r.aJ.length:Int)-1) (hl:((aF r).lookup i).isSome=true):kG r i=0:=by unfold kG; rw [if_pos h,if_pos (show pQ r i from hi),if_neg (uy hl)]
theorem Ln (h: ¬ bX r=0):j_ r a b=bX r:=if_neg h
theorem BX (h:bX r=0) (hi: ¬ ((0≤a∧a≤(r.aJ.length:Int)-1)∧(0≤b∧b≤(r.aJ.length:Int)-1)∧a≠b)):j_ r a b=2:=by unfold j_; rw [if_pos h,if_neg (show ¬ (pQ r a∧pQ r b∧a≠b) from hi)]
theorem zg (h:bX r=0) (hi:(0≤a∧a≤(r.aJ.length:Int)-1)∧(0≤b∧b≤(r.aJ.length:Int)-1)∧a≠b) (hl:((aF r).lookup a).isSome=false∨((aF r).lookup b).isSome=false):j_ r a b=6:=by
 unfold j_; rw [if_pos h,if_pos (show pQ r a∧pQ r b∧a≠b from hi),if_pos (hl.imp tY tY)]
theorem NM (h:bX r=0) (hi:(0≤a∧a≤(r.aJ.length:Int)-1)∧(0≤b∧b≤(r.aJ.length:Int)-1)∧a≠b) (h1:((aF r).lookup a).isSome=true) (h2:((aF r).lookup b).isSome=true):j_ r a b=0:=by
 unfold j_; rw [if_pos h,if_pos (show pQ r a∧pQ r b∧a≠b from hi),if_neg (fun q=>q.elim (uy h1) (uy h2))]
end
end
section
abbrev qo:=List (Int×Bool)
def iK (m:qo) (P:Int→Prop):Prop:=(m.map (·.1)).Nodup∧ ∀ k,k∈m.map (·.1)↔P k
section
variable {m:qo} {P Q:Int→Prop} {k:Int}
theorem iK.x7 (h:iK m P) (e: ∀ k,P k↔Q k):iK m Q:=⟨h.1,fun k=>(h.2 k).trans (e k)⟩
theorem LS (h: ∀ k,¬ P k):iK [] P:=⟨List.Pairwise.nil,fun k=>⟨fun q=>by simp at q,fun q=>absurd q (h k)⟩⟩
theorem Gf:k∈m.map (·.1)↔(m.lookup k).isSome=true:=by
 induction m with
 |nil=>simp
 |cons p m ih=>
  obtain ⟨a,b⟩:=p
  by_cases e:k=a
  ·subst e; simp [List.lookup]
  ·have:(k==a)=false:=by simpa using e
   simp only [List.map_cons,er,e,false_or,List.lookup,this]
   exact ih
theorem Ls {b:Bool} (h:iK m P) (hk: ¬ P k):iK (eT m k b) fun q=>P q∨q=k:=by
 have hn:(m.lookup k).isSome=false:=by
  rw [Bool.eq_false_iff]
  exact fun q=>hk ((h.2 k).1 (Gf.2 q))
 unfold eT
 rw [hn]
 simp only [Bool.false_eq_true,if_false]
 refine ⟨?_,fun q=>?_⟩
 ·rw [List.map_append]
  refine List.nodup_append.2 ⟨h.1,sm,fun a ha b hb e=>?_⟩
  simp at hb
  subst hb; subst e
  exact hk ((h.2 _).1 ha)
 ·rw [List.map_append,kH,h.2 q]
  simp
theorem Bq (h:iK m P):iK (cD m k) fun q=>P q∧q≠k:=by
 have hs:((cD m k).map (·.1)).Sublist (m.map (·.1)):=List.Sublist.map _ List.filter_sublist
 refine ⟨h.1.sublist hs,fun q=>?_⟩
 constructor
 ·intro hq
  obtain ⟨p,hp,rfl⟩:=List.mem_map.1 hq
  obtain ⟨A,B⟩:=jV.1 hp
  exact ⟨(h.2 _).1 (List.mem_map_of_mem A),B⟩
 ·rintro ⟨A,B⟩
  obtain ⟨p,hp,rfl⟩:=List.mem_map.1 ((h.2 q).2 A)
  exact List.mem_map_of_mem (jV.2 ⟨hp,B⟩)
end
/-- two rows that go up and have the same numbers, each once -/
theorem qJ {a b:List Int} (ha:a.Pairwise (· ≤ ·)) (hb:b.Pairwise (· ≤ ·)) (na:a.Nodup) (nb:b.Nodup) (h: ∀ x,x∈a↔x∈b):a=b:=
 rm ((List.perm_ext_iff_of_nodup na nb).2 h) ha hb
def HV (l:List Int):Nat:=if l.length=2∧l[1]? =l[0]? then 1 else l.length
theorem yR {l:List Int} {x y:Int} (h:l.length=2) (h0:l[0]? =some y) (h1:l[1]? =some x) (e:x=y):HV l=1:=if_pos ⟨h,by rw [h0,h1,e]⟩
theorem AP {l:List Int} {x y:Int} (h:l.length=2) (h0:l[0]? =some y) (h1:l[1]? =some x) (e: ¬ x=y):HV l=l.length:=if_neg fun q=>e (by have:=q.2; rw [h0,h1] at this; exact Option.some.inj this)
theorem KF (a b:Int):(a=b∧HV (di [a,b])=1)∨(¬ a=b∧HV (di [a,b])=2):=by
 have hl:(di [a,b]).length=2:=by simp
 have hp:(di [a,b]).Perm [a,b]:=fE
 match hs:di [a,b],hl with
 |[x,y],_=>
  rw [hs] at hp
  by_cases e:a=b
  ·subst e
   left
   refine ⟨U,yR U U U ?_⟩
   have A:x∈[a,a]:=hp.mem_iff.1 sm
   have B:y∈[a,a]:=hp.mem_iff.1 sm
   simp at A B; omega
  ·right
   refine ⟨e,(AP (x:=y) (y:=x) U U U fun q=>?_).trans U⟩
   subst q
   have A:=hp.nodup_iff.2 (show [a,b].Nodup by simp [e])
   simp at A
section
variable {m left:g3} {i n x:Int} {y:aa}
theorem lD {p:Int×aa→Bool} (hn:(left.map (·.1)).Nodup) (hm:(x,y)∈left):left.countP p=(cD left x).countP p+(if p (x,y)=true then 1 else 0):=by
 induction left with
 |nil=>cases hm
 |cons q left ih=>
  obtain ⟨a,b⟩:=q
  simp only [List.map_cons,List.nodup_cons] at hn
  rcases List.mem_cons.1 hm with e|hm
  ·cases e
   have A:cD ((x,y)::left) x=left:=by
    unfold cD
    rw [List.filter_cons_of_neg sm]
    exact List.filter_eq_self.2 fun q hq=>by
     have:q.1≠x:=fun e=>hn.1 (e▸List.mem_map_of_mem hq)
     simpa using this
   rw [A,List.countP_cons]
  ·have B:a≠x:=fun e=>hn.1 (e▸List.mem_map_of_mem (f:=fun z:Int×aa=>z.1) hm)
   have A:cD ((a,b)::left) x=(a,b)::cD left x:=by
    unfold cD
    rw [List.filter_cons_of_pos (by simpa using B)]
   rw [A,List.countP_cons,List.countP_cons,ih hn.2 hm]
   omega
theorem kR:gH left i n=left.countP fun p=>decide (p.2.Hi<n)&& !decide (p.1=i):=by unfold gH mJ; rw [List.countP_filter]
theorem mY:jo left i n=left.countP fun p=>decide (p.2.Lo<n)&& !decide (p.1=i):=by unfold jo mJ; rw [List.countP_filter]
theorem G7 (hn:(left.map (·.1)).Nodup) (hm:(x,y)∈left) (h:x=i):gH left i n=gH (cD left x) i n:=by
 rw [kR,kR,lD hn hm]; simp [h]
theorem Iu (hn:(left.map (·.1)).Nodup) (hm:(x,y)∈left) (h:x=i):jo left i n=jo (cD left x) i n:=by
 rw [mY,mY,lD hn hm]; simp [h]
theorem zp (hn:(left.map (·.1)).Nodup) (hm:(x,y)∈left) (h: ¬ x=i) (hy:y.Hi<n):gH left i n=gH (cD left x) i n+1:=by
 rw [kR,kR,lD hn hm]; simp [h,hy]
theorem Co (hn:(left.map (·.1)).Nodup) (hm:(x,y)∈left) (h: ¬ x=i) (hy: ¬ y.Hi<n):gH left i n=gH (cD left x) i n:=by
 rw [kR,kR,lD hn hm]; simp [h,hy]
theorem Cg (hn:(left.map (·.1)).Nodup) (hm:(x,y)∈left) (h: ¬ x=i) (hy:y.Lo<n):jo left i n=jo (cD left x) i n+1:=by
 rw [mY,mY,lD hn hm]; simp [h,hy]
theorem EO (hn:(left.map (·.1)).Nodup) (hm:(x,y)∈left) (h: ¬ x=i) (hy: ¬ y.Lo<n):jo left i n=jo (cD left x) i n:=by
 rw [mY,mY,lD hn hm]; simp [h,hy]
theorem yq:gH [] i n=0:=rfl
theorem Cv:jo [] i n=0:=rfl
theorem FN:gH m i n≤m.length:=by unfold gH mJ; exact Nat.le_trans List.countP_le_length (List.length_filter_le _ _)
theorem H6:jo m i n≤m.length:=by unfold jo mJ; exact Nat.le_trans List.countP_le_length (List.length_filter_le _ _)
end
def og {β:Type} (m left:List (Int×β)) (ys:List Int):Prop:=(ys++left.map (·.1)).Perm (m.map (·.1))
theorem u9 {β:Type} {m:List (Int×β)}:og m m []:=List.Perm.refl _
theorem w5 {β:Type} {m:List (Int×β)} {ys:List Int} (h:og m [] ys):ys.Perm (m.map (·.1)):=by simpa [og] using h
theorem Ik {β:Type} {left:List (Int×β)} {x:Int} {y:β} (hn:(left.map (·.1)).Nodup) (hm:(x,y)∈left):(left.map (·.1)).Perm (x::(cD left x).map (·.1)):=by
 induction left with
 |nil=>cases hm
 |cons q left ih=>
  obtain ⟨a,b⟩:=q
  simp only [List.map_cons,List.nodup_cons] at hn
  rcases List.mem_cons.1 hm with e|hm
  ·cases e
   have A:cD ((x,y)::left) x=left:=by
    unfold cD
    rw [List.filter_cons_of_neg sm]
    exact List.filter_eq_self.2 fun q hq=>by
     have:q.1≠x:=fun e=>hn.1 (e▸List.mem_map_of_mem hq)
     simpa using this
   rw [A]; exact List.Perm.refl _
  ·have B:a≠x:=fun e=>hn.1 (e▸List.mem_map_of_mem (f:=fun z:Int×β=>z.1) hm)
   have A:cD ((a,b)::left) x=(a,b)::cD left x:=by
    unfold cD
    rw [List.filter_cons_of_pos (by simpa using B)]
   rw [A,List.map_cons,List.map_cons]
   exact ((ih hn.2 hm).cons a).trans (List.Perm.swap _ _ _)
theorem nV {β:Type} {m left:List (Int×β)} {ys:List Int} {x:Int} {y:β} (hn:(left.map (·.1)).Nodup) (hm:(x,y)∈left) (h:og m left ys):og m (cD left x) (ys++[x]):=by
 unfold og at h ⊢
 refine List.Perm.trans ?_ h
 rw [List.append_assoc]
 exact (Ik hn hm).symm.append_left ys
theorem fU {β:Type} {m left:List (Int×β)} {x:Int} (h: ∀ p∈left,p∈m): ∀ p∈cD left x,p∈m:=fun p hp=>h p (jV.1 hp).1
theorem gL {m:g3} {i:Int} (h: ∀ p∈m,0≤p.2.Lo∧p.2.Lo≤p.2.Hi∧p.2.Hi≤30000000):0≤(aB m i).Lo∧(aB m i).Lo≤(aB m i).Hi∧(aB m i).Hi≤30000000:=by
 unfold aB
 cases e:m.lookup i with
 |none=>simp [dA]
 |some v=>
  have hm:(i,v)∈m:=by
   clear h
   induction m with
   |nil=>cases e
   |cons p m ih=>
    obtain ⟨a,b⟩:=p
    by_cases c:i=a
    ·subst c; simp [List.lookup] at e; subst e; exact cj
    ·have:(i==a)=false:=by simpa using c
     simp only [List.lookup,this] at e
     exact cT _ (ih e)
  simpa using h _ hm
/-- not reached by the numbers so far -/
def uw (m:g3) (i:Int) (ys:List Int) (k:Int):Prop:=(1≤k∧k≤(m.length:Int))∧ ∀ n∈ys,¬ ((gH m i n:Int)+1≤k∧k≤(jo m i n:Int)+1)
section
variable {m:g3} {i:Int} {own:aa} {ys:List Int} {nev ranks:qo} {n a b:Int}
theorem HX (h:iK nev fun k=>1≤k∧k≤(m.length:Int)):iK nev (uw m i []):=h.x7 fun k=>⟨fun h=>⟨h,fun n hn=>by cases hn⟩,fun h=>h.1⟩
theorem I8 (ha:a=(gH m i n:Int)+1) (hb:b=(jo m i n:Int)+1) (h:iK nev fun q=>uw m i ys q∧ ¬ (a≤q∧q≤b)):iK nev (uw m i (ys++[n])):=by
 subst ha hb
 refine h.x7 fun k=>?_
 unfold uw
 constructor
 ·rintro ⟨⟨B,A⟩,C⟩
  refine ⟨B,fun x hx=>?_⟩
  rcases List.mem_append.1 hx with hx|hx
  ·exact A x hx
  ·rw [bW] at hx; subst hx; exact C
 ·rintro ⟨B,A⟩
  exact ⟨⟨B,fun x hx=>A x (List.mem_append_left _ hx)⟩,A n sm⟩
theorem Ey {P:Int→Prop} {k:Int} (hk:a≤k) (h:iK nev fun q=>P q∧ ¬ (a≤q∧q<k)):iK (cD nev k) fun q=>P q∧ ¬ (a≤q∧q<k+1):=
 (Bq (k:=k) h).x7 fun q=>by
  constructor
  ·rintro ⟨⟨B,A⟩,E⟩; exact ⟨B,fun ⟨C,D⟩=>A ⟨C,om⟩⟩
  ·rintro ⟨B,A⟩; exact ⟨⟨B,fun ⟨C,D⟩=>A ⟨C,om⟩⟩,fun e=>A ⟨om,om⟩⟩
theorem EI (hall: ∀ n,n∈ys↔n∈jx m i own) {k:Int} (hk:1≤k∧k≤(m.length:Int)): ¬ uw m i ys k↔rZ m i own k:=by
 unfold uw rZ
 constructor
 ·intro h
  refine Classical.byContradiction fun q=>h ⟨hk,fun n hn hc=>q ⟨n,(hall n).1 hn,hc.1,hc.2⟩⟩
 ·rintro ⟨n,hn,A,B⟩ h
  exact h.2 n ((hall n).2 hn) ⟨A,B⟩
/-- the ranks, from what is left of the map -/
theorem Dw (hi:m.lookup i≠none) (hall: ∀ n,n∈ys↔n∈jx m i own) (h:iK ranks fun k=>(1≤k∧k≤(m.length:Int))∧ ¬ uw m i ys k):di (ranks.map (·.1))=db m i own:=by
 refine qJ kZ ?_ ((fE (l:=ranks.map (·.1))).nodup_iff.2 h.1) ?_ fun k=>?_
 ·unfold db
  refine List.Pairwise.filter _ ?_
  rw [List.pairwise_map]
  exact List.pairwise_lt_range.imp fun h=>by omega
 ·unfold db
  refine List.Pairwise.filter _ ?_
  rw [List.pairwise_map]
  exact List.pairwise_lt_range.imp fun h=>by omega
 ·rw [(fE (l:=ranks.map (·.1))).mem_iff,h.2 k,qD hi]
  constructor
  ·rintro ⟨A,B⟩; exact (EI hall A).1 B
  ·intro A
   have hk:1≤k∧k≤(m.length:Int):=by
    obtain ⟨n,_,B,C⟩:=A
    have:=Lg hi (x:=n)
    omega
   exact ⟨hk,(EI hall hk).2 A⟩
end
section
variable {nw left rk:qo} {N R:Int→Prop} {u:Int} {v:Bool}
theorem Mt (hl: ∀ p∈left,p∈nw) (hk:iK nw N) (hm:(u,v)∈left) (h:iK rk fun w=>R w∧ ¬ (N w∧w ∉ left.map (·.1))):iK (cD rk u) fun w=>R w∧ ¬ (N w∧w ∉ (cD left u).map (·.1)):=
 (Bq (k:=u) h).x7 fun w=>by
  have hd:w∈(cD left u).map (·.1)↔w∈left.map (·.1)∧w≠u:=by
   constructor
   ·intro q
    obtain ⟨p,hp,rfl⟩:=List.mem_map.1 q
    exact ⟨List.mem_map_of_mem (jV.1 hp).1,(jV.1 hp).2⟩
   ·rintro ⟨D,E⟩
    obtain ⟨p,hp,rfl⟩:=List.mem_map.1 D
    exact List.mem_map_of_mem (jV.2 ⟨hp,E⟩)
  constructor
  ·rintro ⟨⟨B,A⟩,C⟩
   exact ⟨B,fun q=>A ⟨q.1,fun z=>q.2 (hd.2 ⟨z,C⟩)⟩⟩
  ·rintro ⟨B,A⟩
   refine ⟨⟨B,fun q=>A ⟨q.1,fun z=>q.2 (hd.1 z).1⟩⟩,fun e=>A ⟨?_,fun z=>(hd.1 z).2 e⟩⟩
   subst e
   exact (hk.2 _).1 (List.mem_map_of_mem (f:=fun z:Int×Bool=>z.1) (hl _ hm))
theorem Lb {n:Nat} (h:iK rk R) (hR: ∀ k,R k→1≤k∧k≤(n:Int)):rk.length≤n:=by
 have hp:((List.range n).map fun (k:Nat)=>(k:Int)+1).Pairwise (· < ·):=by
  rw [List.pairwise_map]
  exact List.pairwise_lt_range.imp fun h=>by omega
 have e:di (rk.map (·.1))=((List.range n).map fun (k:Nat)=>(k:Int)+1).filter fun k=>decide (k∈rk.map (·.1)):=by
  refine qJ kZ ((hp.filter _).imp fun h=>by omega) ((fE (l:=rk.map (·.1))).nodup_iff.2 h.1) ((hp.filter _).imp fun h=>by omega) fun k=>?_
  rw [(fE (l:=rk.map (·.1))).mem_iff,List.mem_filter,decide_eq_true_eq]
  refine ⟨fun q=>⟨?_,q⟩,fun q=>q.2⟩
  have:=hR k ((h.2 k).1 q)
  exact List.mem_map.2 ⟨(k-1).toNat,List.mem_range.2 om,om⟩
 have A:=congrArg List.length e
 have B:=List.length_filter_le (fun k=>decide (k∈rk.map (·.1))) ((List.range n).map fun (k:Nat)=>(k:Int)+1)
 rw [gp,List.length_map] at A
 rw [List.length_map,List.length_range] at B
 omega
end
section
variable {m left:g3} {i x n:Int} {own y:aa} {ys:List Int}
/-- what was told so far: all of those who are not left -/
def yr (m:g3) (i:Int) (own:aa) (left:g3) (ys:List Int):Prop:=(∀ n∈ys,n∈jx m i own)∧own.Lo∈ys∧ ∀ p∈m,p.1≠i→p ∉ left→ ∀ n∈[p.2.Lo+1,p.2.Hi+1],own.Lo≤n∧n≤own.Hi→n∈ys
theorem mC {p:Int×aa} (hp:p∈m) (hi:p.1≠i) (hn:n=p.2.Lo+1∨n=p.2.Hi+1) (hb:own.Lo≤n∧n≤own.Hi):n∈jx m i own:=
 cT _ (List.mem_filter.2 ⟨List.mem_flatMap.2 ⟨p,List.mem_filter.2 ⟨hp,by simpa using hi⟩,by simpa using hn⟩,dw hb⟩)
theorem JB:yr m i own m [own.Lo]:=⟨fun n hn=>by rw [bW] at hn; subst hn; exact cj,sm,fun p hp _ hl=>absurd hp hl⟩
theorem MW (h:yr m i own [] ys) (n:Int):n∈ys↔n∈jx m i own:=by
 refine ⟨h.1 n,fun hn=>?_⟩
 rcases List.mem_cons.1 hn with rfl|hn
 ·exact h.2.1
 ·obtain ⟨C,D⟩:=List.mem_filter.1 hn
  obtain ⟨p,hp,hx⟩:=List.mem_flatMap.1 C
  obtain ⟨A,B⟩:=List.mem_filter.1 hp
  exact h.2.2 p A (by simpa using B) sm n hx (of_decide_eq_true D)
theorem kW {ys':List Int} (hm:(left.map (·.1)).Nodup) (hx:(x,y)∈left) (hl: ∀ p∈left,p∈m) (h:yr m i own left ys) (hs: ∀ n∈ys,n∈ys') (hn: ∀ n∈ys',n∈ys∨n∈jx m i own)
 (hy:x≠i→ ∀ n∈[y.Lo+1,y.Hi+1],own.Lo≤n∧n≤own.Hi→n∈ys'):yr m i own (cD left x) ys':=by
 refine ⟨fun n A=>?_,hs _ h.2.1,fun p hp hi B n A hb=>?_⟩
 ·rcases hn n A with q|q
  ·exact h.1 n q
  ·exact q
 ·by_cases e:p∈left
  ·have C:p.1=x:=by
    refine Classical.byContradiction fun q=>B (jV.2 ⟨e,q⟩)
   have E:p=(x,y):=by
    obtain ⟨G,H⟩:=p
    simp only at C; subst C
    have F:=(jQ hm).1 e
    have D:=(jQ hm).1 hx
    rw [F] at D; cases D; rfl
   subst E
   exact hy hi n A hb
  ·exact hs n (h.2.2 p hp hi e n A hb)
end
section
variable {r:cm} {h i:Int} {ht:List ax} {d:ax}
theorem oK (he: ¬ bX r=0):gT r h i=bX r:=if_neg he
theorem oQ (he:bX r=0) (hi: ¬ ((0≤h∧h≤(r.ar.length:Int)-1)∧0≤i∧i≤(r.aJ.length:Int)-1)):gT r h i=2:=by
 unfold gT; rw [if_pos he,if_neg (show ¬ ((0≤h∧h≤(r.ar.length:Int)-1)∧pQ r i) from hi)]
theorem Cb (he:bX r=0) (hi:(0≤h∧h≤(r.ar.length:Int)-1)∧0≤i∧i≤(r.aJ.length:Int)-1) (h1:r.ar[h.toNat]? =some ht) (h2:ht[i.toNat]? =some d):gT r h i=if d.Out=true then 6 else 0:=by
 unfold gT; rw [if_pos he,if_pos (show (0≤h∧h≤(r.ar.length:Int)-1)∧pQ r i from hi),h1]
 simp [h2]
theorem m8 (he:bX r=0) (hi:(0≤h∧h≤(r.ar.length:Int)-1)∧0≤i∧i≤(r.aJ.length:Int)-1) (h1:r.ar[h.toNat]? =some ht) (h2:ht[i.toNat]? =some d) (ho:d.Out=true):gT r h i=6:=by rw [Cb he hi h1 h2,if_pos ho]
theorem qh (he:bX r=0) (hi:(0≤h∧h≤(r.ar.length:Int)-1)∧0≤i∧i≤(r.aJ.length:Int)-1) (h1:r.ar[h.toNat]? =some ht) (h2:ht[i.toNat]? =some d) (ho:d.Out=false):gT r h i=0∧eZ r h i=dC r.ah d:=by
 have e:gT r h i=0:=by rw [Cb he hi h1 h2,if_neg (by rw [ho]; decide)]
 refine ⟨e,?_⟩
 unfold eZ
 rw [if_pos e,h1]
 simp [h2]
end
theorem zl {r:cm} {i:Int} (h: ¬ kG r i=0):cH r i=[]:=if_neg h
theorem yp {r:cm} {i:Int} (h:kG r i=0):cH r i=db (aF r) i (aB (aF r) i):=if_pos h
end
section
open Go.RowKit
section
variable {key:Int→Int} {l q m:List Int} {i j:Nat} {x y:Int}
theorem GX:1=1∧l=[]∨s_ key l 1 l:=by
 cases l with
 |nil=>exact .inl ⟨rfl,rfl⟩
 |cons a l=>exact .inr (KT sm)
theorem MS (h:i<l.length) (hd:i=1∧l=[]∨s_ key l i m):s_ key l i m:=by
 rcases hd with ⟨_,rfl⟩|hd
 ·simp at h
 ·exact hd
theorem IM (hi: ¬ i<l.length) (hl:m.length=l.length) (hd:i=1∧l=[]∨s_ key l i m):m=eA key l:=by
 rcases hd with ⟨_,rfl⟩|hd
 ·exact jv hl
 ·exact KU om hd
theorem KG (hx:q[j]? =some x) (hy:q[j-1]? =some y) (h: ∀ z∈q,z∈l): ∀ z∈(q.set j y).set (j-1) x,z∈l:=fun z hz=>by
 rcases List.mem_or_eq_of_mem_set hz with hz|rfl
 ·rcases List.mem_or_eq_of_mem_set hz with hz|rfl
  ·exact h z hz
  ·exact h _ (aU hy)
 ·exact h _ (aU hx)
theorem wa {p:Int→Bool} (hx:l[i]? =some x) (h:p x=true):(l.take (i+1)).filter p=(l.take i).filter p++[x]:=by
 rw [lu hx,List.filter_append]; simp [h]
theorem FD {p:Int→Bool} (hx:l[i]? =some x) (h:p x=false):(l.take (i+1)).filter p=(l.take i).filter p:=by
 rw [lu hx,List.filter_append]; simp [h]
end
section
variable {r:cm} {h:Int} {n:Nat}
theorem D7 (e: ¬ bX r=0):iF r h=bX r:=if_neg e
theorem Dg (e:bX r=0) (q: ¬ (0≤h∧h≤(r.ar.length:Int))):iF r h=2:=by unfold iF; rw [if_pos e,if_neg q]
theorem yD (e:bX r=0) (q:0≤h∧h≤(r.ar.length:Int)):iF r h=0:=by unfold iF; rw [if_pos e,if_pos q]
theorem EC (hd:r.bB.length≤12):(gY r h).length≤12:=by
 unfold gY
 split
 ·split
  ·exact hd
  ·unfold uo
   simp only [jU,ke]
   exact Nat.le_trans (List.length_filter_le _ _) hd
 ·simp
theorem zn (e: ¬ iF r h=0):gY r h=[]:=if_neg e
theorem uI (e:iF r h=0) (q:h=0):gY r h=r.bB:=by unfold gY; rw [if_pos e,if_pos q]
theorem uN (e:iF r (n:Int)=0) (q: ¬ (n:Int)=0):gY r (n:Int)=uo r n:=by unfold gY; rw [if_pos e,if_neg q,Int.toNat_natCast]
theorem yF {k:Nat} {l:List Int} (hl:l=eA (fun i=>(aB (eI r n) i).Hi) (r.bB.filter fun i=>((eI r n).lookup i).isSome)) (hk:k=min r.dW.toNat l.length):rr k l=uo r n:=by subst hl; subst hk; rfl
theorem QT {m:g3} {l:List Int} (hb: ∀ p∈m,0≤p.2.Lo∧p.2.Lo≤p.2.Hi∧p.2.Hi≤30000000): ∀ x∈l,0≤(aB m x).Hi∧(aB m x).Hi≤30000000:=fun x _=>by have:=gL (i:=x) hb; omega
theorem S5 {m:g3} {l:List Int} (hb: ∀ p∈m,0≤p.2.Lo∧p.2.Lo≤p.2.Hi∧p.2.Hi≤30000000): ∀ x∈l,0≤(aB m x).Lo∧(aB m x).Lo≤30000000:=fun x _=>by have:=gL (i:=x) hb; omega
end
end
section
def Jo (f:Int→aa) (g:List Int):Prop:= ∀ t,(∃ a∈g,(f a).Lo<t)→(∃ b∈g,t≤(f b).Lo)→ ∃ c∈g,(f c).Lo<t∧t≤(f c).Hi
def HU (f:Int→aa) (g h:List Int):Prop:= ∀ a∈g,∀ b∈h,(f a).Hi<(f b).Lo
structure hZ (f:Int→aa) (keys:List Int) (G:List (List Int)):Prop where
 perm:G.flatten.Perm keys
 some_: ∀ g∈G,g≠[]
 apart:G.Pairwise (HU f)
 tight: ∀ g∈G,Jo f g
def BG (G:List (List Int)):Prop:= ∀ g∈G,g.Pairwise (· ≤ ·)
section
variable {f:Int→aa} {keys:List Int} {G G':List (List Int)} {g h:List Int} {x:Int}
theorem wk: ∀ {g:List Int},g≠[]→ ∃ a∈g,∀ b∈g,(f a).Lo≤(f b).Lo
 |[],h=>absurd rfl h
 |[a],_=>⟨a,sm,fun b hb=>by simp at hb; subst hb; omega⟩
 |a::b::g,_=>by
  obtain ⟨c,hc,hm⟩:=wk (g:=b::g) sm
  rcases Int.le_total (f a).Lo (f c).Lo with q|q
  ·refine ⟨a,sm,fun d hd=>?_⟩
   rcases List.mem_cons.1 hd with rfl|hd
   ·omega
   ·have:=hm d hd; omega
  ·refine ⟨c,cT _ hc,fun d hd=>?_⟩
   rcases List.mem_cons.1 hd with rfl|hd
   ·exact q
   ·exact hm d hd
/-- the first group is what no cut parts from the least -/
theorem qO (hf: ∀ i∈keys,(f i).Lo≤(f i).Hi) (h:hZ f keys (g::G)) {a:Int} (ha:a∈keys) (hm: ∀ b∈keys,(f a).Lo≤(f b).Lo) {b:Int} (hb:b∈keys):b∈g↔ ∀ t,(f a).Lo<t→t≤(f b).Lo→ ∃ c∈keys,(f c).Lo<t∧t≤(f c).Hi:=by
 have hk: ∀ x,x∈keys↔x∈g∨x∈G.flatten:=fun x=>by rw [← h.perm.mem_iff,List.flatten_cons,kH]
 have A:=List.pairwise_cons.1 h.apart
 have B:a∈g:=by
  rcases (hk a).1 ha with q|q
  ·exact q
  ·obtain ⟨y,hy⟩:=List.exists_mem_of_ne_nil _ (h.some_ g cj)
   obtain ⟨g',hg',hag'⟩:=List.mem_flatten.1 q
   have F:=A.1 g' hg' y hy a hag'
   have H:=hm y ((hk y).2 (.inl hy))
   have E:=hf y ((hk y).2 (.inl hy))
   omega
 constructor
 ·intro AA t F H
  obtain ⟨c,hc,E⟩:=h.tight g cj t ⟨a,B,F⟩ ⟨b,AA,H⟩
  exact ⟨c,(hk c).2 (.inl hc),E⟩
 ·intro C
  rcases (hk b).1 hb with q|q
  ·exact q
  ·exfalso
   obtain ⟨d,hd,D⟩:=wk (f:=f) (g:=G.flatten) (fun e=>by rw [e] at q; cases q)
   obtain ⟨g',hg',hdg'⟩:=List.mem_flatten.1 hd
   have F:=A.1 g' hg' a B d hdg'
   have H:=hf a ha
   have E:=D b q
   obtain ⟨c,hc,K,L⟩:=C (f d).Lo om E
   rcases (hk c).1 hc with J|J
   ·have:=A.1 g' hg' c J d hdg'; omega
   ·have:=D c J; omega
theorem uR (h:hZ f keys (g::G)):hZ f G.flatten G:=
 ⟨List.Perm.refl _,fun x hx=>h.some_ x (cT _ hx),(List.pairwise_cons.1 h.apart).2,fun x hx=>h.tight x (cT _ hx)⟩
theorem p6 {k2:List Int} (h:hZ f keys G) (p:keys.Perm k2):hZ f k2 G:=⟨h.perm.trans p,h.some_,h.apart,h.tight⟩
theorem rl: ∀ {G G':List (List Int)} {keys:List Int},keys.Nodup→(∀ i∈keys,(f i).Lo≤(f i).Hi)→hZ f keys G→hZ f keys G'→BG G→BG G'→G=G'
 |[],[],keys,_,_,_,_,_,_=>rfl
 |[],g'::G',keys,_,_,h,h',_,_=>by
  exfalso
  have F:keys=[]:=List.Perm.eq_nil (by simpa using h.perm.symm)
  subst F
  have:=h'.perm.eq_nil
  simp at this
  exact h'.some_ g' cj this.1
 |g::G,[],keys,_,_,h,h',_,_=>by
  exfalso
  have F:keys=[]:=List.Perm.eq_nil (by simpa using h'.perm.symm)
  subst F
  have:=h.perm.eq_nil
  simp at this
  exact h.some_ g cj this.1
 |g::G,g'::G',keys,hn,hf,h,h',ha,ha'=>by
  have H:keys≠[]:=fun e=>by
   subst e
   have:=h.perm.eq_nil
   simp at this
   exact h.some_ g cj this.1
  obtain ⟨a,A,B⟩:=wk (f:=f) H
  have D:=h.perm.nodup_iff.2 hn
  have E:=h'.perm.nodup_iff.2 hn
  rw [List.flatten_cons,List.nodup_append] at D E
  have zT: ∀ b∈g,b∈keys:=fun b hb=>h.perm.mem_iff.1 (by rw [List.flatten_cons]; exact List.mem_append_left _ hb)
  have C: ∀ b∈g',b∈keys:=fun b hb=>h'.perm.mem_iff.1 (by rw [List.flatten_cons]; exact List.mem_append_left _ hb)
  have e:g=g':=by
   refine qJ (ha g cj) (ha' g' cj) D.1 E.1 fun b=>?_
   constructor
   ·intro hb
    exact (qO hf h' A B (zT b hb)).2 ((qO hf h A B (zT b hb)).1 hb)
   ·intro hb
    exact (qO hf h A B (C b hb)).2 ((qO hf h' A B (C b hb)).1 hb)
  subst e
  have p:G.flatten.Perm G'.flatten:=by
   have:=h.perm.trans h'.perm.symm
   rw [List.flatten_cons,List.flatten_cons] at this
   exact (List.perm_append_left_iff g).1 this
  rw [rl (G:=G) (G':=G') D.2.1 (fun i hi=>hf i (h.perm.mem_iff.1 (by rw [List.flatten_cons]; exact List.mem_append_right _ hi))) (uR h) (p6 (uR h') p.symm) (fun x hx=>ha x (cT _ hx)) (fun x hx=>ha' x (cT _ hx))]
/-- groups, each one put in order -/
theorem uG (h:hZ f keys G):hZ f keys (G.map di)∧BG (G.map di):=by
 have hp: ∀ G:List (List Int),(G.map di).flatten.Perm G.flatten:=fun G=>by
  induction G with
  |nil=>simp
  |cons g G ih=>simp only [List.map_cons,List.flatten_cons]; exact fE.append ih
 have hm: ∀ {g:List Int} {x:Int},x∈di g↔x∈g:=fE.mem_iff
 refine ⟨⟨(hp G).trans h.perm,fun g hg=>?_,?_,fun g hg=>?_⟩,fun g hg=>?_⟩
 ·obtain ⟨y,hy,rfl⟩:=List.mem_map.1 hg
  intro e
  have:=(fE (l:=y)).symm
  rw [e] at this
  exact h.some_ y hy this.eq_nil
 ·rw [List.pairwise_map]
  exact h.apart.imp fun q a ha b hb=>q a (hm.1 ha) b (hm.1 hb)
 ·obtain ⟨y,hy,rfl⟩:=List.mem_map.1 hg
  rintro t ⟨a,ha,A⟩ ⟨b,hb,B⟩
  obtain ⟨c,hc,C⟩:=h.tight y hy t ⟨a,hm.1 ha,A⟩ ⟨b,hm.1 hb,B⟩
  exact ⟨c,hm.2 hc,C⟩
 ·obtain ⟨y,hy,rfl⟩:=List.mem_map.1 hg
  exact kZ
end
/-- so far: groups, and the greatest of all -/
structure l7 (f:Int→aa) (p:List Int) (G:List (List Int)) (last:Int):Prop where
 ok:hZ f p G
 P3: ∀ a∈p,(f a).Hi≤last
 at_:p=[]∧last= -1∨ ∃ a∈p,(f a).Hi=last
section
variable {f:Int→aa} {p:List Int} {G:List (List Int)} {g:List Int} {x last:Int}
theorem Ft:l7 f [] [] (-1):=⟨⟨sm,fun g hg=>(by cases hg),List.Pairwise.nil,fun g hg=>by cases hg⟩,fun a ha=>(by cases ha),.inl ⟨rfl,rfl⟩⟩
theorem GZ:Jo f [x]:=by
 rintro t ⟨a,ha,A⟩ ⟨b,hb,B⟩
 simp at ha hb; subst ha hb; omega
theorem qP (h0: -1≤(f x).Hi) (h:l7 f p G last):(∀ a∈p++[x],(f a).Hi≤max last (f x).Hi)∧((p++[x])=[]∧max last (f x).Hi= -1∨ ∃ a∈p++[x],(f a).Hi=max last (f x).Hi):=by
 refine ⟨fun a ha=>?_,.inr ?_⟩
 ·rcases List.mem_append.1 ha with ha|ha
  ·have:=h.P3 a ha; omega
  ·rw [bW] at ha; subst ha; omega
 ·rcases Int.le_total last (f x).Hi with q|q
  ·exact ⟨x,sm,om⟩
  ·rcases h.at_ with ⟨rfl,e⟩|⟨a,ha,e⟩
   ·exact ⟨x,sm,om⟩
   ·exact ⟨a,List.mem_append_left _ ha,om⟩
theorem L9 (h0: -1≤(f x).Hi) (h:l7 f p G last) (hl:last<(f x).Lo):l7 f (p++[x]) (G++[[x]]) (max last (f x).Hi):=by
 have A: ∀ y∈G,∀ a∈y,a∈p:=fun y hy a ha=>h.ok.perm.mem_iff.1 (List.mem_flatten.2 ⟨y,hy,ha⟩)
 refine ⟨⟨?_,fun y hy=>?_,?_,fun y hy=>?_⟩,(qP h0 h).1,(qP h0 h).2⟩
 ·rw [List.flatten_append]
  exact h.ok.perm.append sm
 ·rcases List.mem_append.1 hy with hy|hy
  ·exact h.ok.some_ y hy
  ·rw [bW] at hy; subst hy; simp
 ·rw [List.pairwise_append]
  refine ⟨h.ok.apart,List.pairwise_singleton _ _,fun y hy z hz a ha b hb=>?_⟩
  rw [bW] at hz; subst hz
  rw [bW] at hb; subst hb
  have:=h.P3 a (A y hy a ha); omega
 ·rcases List.mem_append.1 hy with hy|hy
  ·exact h.ok.tight y hy
  ·rw [bW] at hy; subst hy; exact GZ
theorem LG (h0: -1≤(f x).Hi) (hf: ∀ i∈p,(f i).Lo≤(f i).Hi) (hx: ∀ a∈p,(f a).Lo≤(f x).Lo) (h:l7 f p (G++[g]) last) (hl: ¬ last<(f x).Lo):l7 f (p++[x]) (G++[g++[x]]) (max last (f x).Hi):=by
 have A: ∀ y∈G++[g],∀ a∈y,a∈p:=fun y hy a ha=>h.ok.perm.mem_iff.1 (List.mem_flatten.2 ⟨y,hy,ha⟩)
 have C:=List.pairwise_append.1 h.ok.apart
 have B:=h.ok.some_ g sm
 refine ⟨⟨?_,fun y hy=>?_,?_,fun y hy=>?_⟩,(qP h0 h).1,(qP h0 h).2⟩
 ·have:=h.ok.perm
  rw [List.flatten_append] at this ⊢
  simp only [List.flatten_cons,List.flatten_nil,List.append_nil] at this ⊢
  rw [← List.append_assoc]
  exact this.append_right _
 ·rcases List.mem_append.1 hy with hy|hy
  ·exact h.ok.some_ y (List.mem_append_left _ hy)
  ·rw [bW] at hy; subst hy; simp
 ·rw [List.pairwise_append]
  refine ⟨C.1,List.pairwise_singleton _ _,fun y hy z hz a ha b hb=>?_⟩
  rw [bW] at hz; subst hz
  rcases List.mem_append.1 hb with hb|hb
  ·exact C.2.2 y hy g sm a ha b hb
  ·rw [bW] at hb; subst hb
   obtain ⟨c,hc⟩:=List.exists_mem_of_ne_nil _ B
   have K:=C.2.2 y hy g sm a ha c hc
   have H:=hx c (A g sm c hc)
   omega
 ·rcases List.mem_append.1 hy with hy|hy
  ·exact h.ok.tight y (List.mem_append_left _ hy)
  ·rw [bW] at hy; subst hy
   rintro t ⟨a,ha,K⟩ ⟨b,hb,H⟩
   by_cases D: ∃ b∈g,t≤(f b).Lo
   ·obtain ⟨b',hb',L⟩:=D
    have AA:a∈g:=by
     rcases List.mem_append.1 ha with q|q
     ·exact q
     ·rw [bW] at q; subst q
      have:=hx b' (A g sm b' hb'); omega
    obtain ⟨c,hc,M⟩:=h.ok.tight g sm t ⟨a,AA,K⟩ ⟨b',hb',L⟩
    exact ⟨c,List.mem_append_left _ hc,M⟩
   ·have J: ∀ c∈g,(f c).Lo<t:=fun c hc=>by
     refine Classical.byContradiction fun q=>D ⟨c,hc,om⟩
    have N:t≤(f x).Lo:=by
     rcases List.mem_append.1 hb with q|q
     ·exact absurd ⟨b,q,H⟩ D
     ·rw [bW] at q; subst q; exact H
    rcases h.at_ with ⟨e,_⟩|⟨c,hc,e⟩
    ·exfalso
     obtain ⟨c,hc⟩:=List.exists_mem_of_ne_nil _ B
     have:=A g sm c hc
     rw [e] at this; cases this
    ·have E:c∈g:=by
      obtain ⟨y,hy,F⟩:=List.mem_flatten.1 (h.ok.perm.mem_iff.2 hc)
      rcases List.mem_append.1 hy with hy|hy
      ·exfalso
       obtain ⟨d,hd⟩:=List.exists_mem_of_ne_nil _ B
       have L:=C.2.2 y hy g sm c F d hd
       have M:=hf d (A g sm d hd)
       have O:=h.P3 d (A g sm d hd)
       omega
      ·rw [bW] at hy; subst hy; exact F
     exact ⟨c,List.mem_append_left _ E,J c E,om⟩
theorem Jj (h:l7 f p G last) (hp:p≠[]):G≠[]:=fun e=>by
 subst e
 exact hp (by simpa using h.ok.perm.symm.eq_nil)
end
end
section
open Go.RowKit
/-- a map, or nil -/
def oC (o:Option Nat):List Value:=[Value.map o]
theorem Am {α:Type}: ∀ {ms:List α} {asl:List Nat},ms.length=asl.length→List.zipWith gD ms asl=(asl.map some).map oC
 |[],[],_=>rfl
 |[],_::_,h=>by simp at h
 |_::_,[],h=>by simp at h
 |x::ms,y::asl,h=>by simp only [List.zipWith_cons_cons,List.map_cons,Am (ms:=ms) (asl:=asl) (by simpa using h)]; rfl
/-- what stands for all but one -/
def fx {M A:Type} (f:M→A→List av) (ms:List M) (asl:List A) (k:Nat):List av:=aS f (ms.take k) (asl.take k)++aS f (ms.drop (k+1)) (asl.drop (k+1))
theorem kQ {M A:Type} {f:M→A→List av}: ∀ {ms:List M} {asl:List A} {k:Nat} {m:M} {a:A},ms[k]? =some m→asl[k]? =some a→(aS f ms asl).Perm (f m a++fx f ms asl k)
 |[],_,k,m,a,h,_=>by simp at h
 |_::_,[],k,m,a,_,h=>by simp at h
 |x::ms,y::asl,0,m,a,h,h2=>by
  simp at h h2; subst h h2
  simp [fx,aS]
 |x::ms,y::asl,k+1,m,a,h,h2=>by
  have ih:=kQ (f:=f) (ms:=ms) (asl:=asl) (k:=k) (by simpa using h) (by simpa using h2)
  show (f x y++aS f ms asl).Perm (f m a++fx f (x::ms) (y::asl) (k+1))
  have e:fx f (x::ms) (y::asl) (k+1)=f x y++fx f ms asl k:=by simp [fx,aS,List.append_assoc]
  rw [e]
  refine (ih.append_left (f x y)).trans ?_
  rw [← List.append_assoc,← List.append_assoc]
  exact List.perm_append_comm.append_right _
theorem Hx {M A:Type} {f:M→A→List av} {ms:List M} {asl:List A} {k:Nat} {m':M}:fx f (ms.set k m') asl k=fx f ms asl k:=by
 unfold fx
 rw [List.take_set_of_le (Nat.le_refl k),List.drop_set_of_lt (Nat.lt_succ_self k)]
theorem kP {S:BS} {w0 w:World} {C X Y:List av} (hp:X.Perm Y) (h:St S w0 (bq X::C) w):St S w0 (bq Y::C) w:=by
 have A:St S w0 (X++C) w:=h.hO
 exact (A.perm (hp.append_right C)).tied
theorem St.out {M A:Type} {f:M→A→List av} {S:BS} {w0 w:World} {C:List av} {ms:List M} {asl:List A} {k:Nat} {m:M} {a:A} {X:av} (hm:ms[k]? =some m) (ha:asl[k]? =some a) (hf:f m a=[X]) (h:St S w0 (bq (aS f ms asl)::C) w):St S w0 (X::bq (fx f ms asl k)::C) w:=by
 have B:=(kP (kQ hm ha) h).hO
 rw [hf] at B
 have D:St S w0 (fx f ms asl k++(X::C)) w:=B.perm (List.perm_middle (a:=X) (l₁:=fx f ms asl k) (l₂:=C)).symm
 exact D.tied.perm (List.Perm.swap _ _ _)
theorem St.back {M A:Type} {f:M→A→List av} {S:BS} {w0 w:World} {C:List av} {ms:List M} {asl:List A} {k:Nat} {m':M} {a:A} {X:av} (hk:k<ms.length) (ha:asl[k]? =some a) (hf:f m' a=[X]) (h:St S w0 (X::bq (fx f ms asl k)::C) w):St S w0 (bq (aS f (ms.set k m') asl)::C) w:=by
 have B:St S w0 (bq (fx f ms asl k)::X::C) w:=h.perm (List.Perm.swap _ _ _)
 have D:=B.hO
 have E:St S w0 ((f m' a++fx f (ms.set k m') asl k)++C) w:=by
  rw [hf,Hx]
  exact D.perm (List.perm_middle (a:=X) (l₁:=fx f ms asl k) (l₂:=C))
 exact kP (kQ (List.getElem?_set_self hk) ha).symm E.tied
section
variable {E:fg} {ops:Array Oper} {Q:c_} {rest:List Oper} {D:List Deferred} {L:List (Nat×Value)} {C C1:List av}
variable {M A:Type} {f:M→A→List av} {ms:List M} {asl:List A} {k:Nat} {m:M} {a:A} {X:av}
theorem FW {c:Code} (i:Nat) (hm:ms[k]? =some m) (ha:asl[k]? =some a) (hf:f m a=[X]) (hn:decide (i::(List.range C.length).filter fun k=>k != i).Nodup=true) (hC:kd C (i::(List.range C.length).filter fun k=>k != i)=bq (aS f ms asl)::C1)
 (h:WJ E c Q D L (X::bq (fx f ms asl k)::C1)):WJ E c Q D L C:=fun a w hf' hs=>h a w hf' (St.out hm ha hf (St.kd _ hn hC hs))
theorem I7 {K:Act→World→Prop} (i j:Nat) (hk:k<ms.length) (ha:asl[k]? =some a) (hf:f m a=[X]) (hn:decide (j::i::(List.range C.length).filter fun k=>k != i&&k != j).Nodup=true) (hC:kd C (j::i::(List.range C.length).filter fun k=>k != i&&k != j)=X::bq (fx f ms asl k)::C1)
 (h:KJ E K D L (bq (aS f (ms.set k m) asl)::C1)):KJ E K D L C:=fun a w hf' hs=>h a w hf' (St.back hk ha hf (St.kd _ hn hC hs))
end
end
section
open Go.RowKit
def j5 (l:List Int) (a:RA):List Value:=[vS a.1 l.length a.2]
def QB (l:List Int) (a:RA):List av:=[rd a.1 l.length 1 (l.map iC)]
def nk (l:List Int) (a:RA):List av:=[own a.1 a.2 Rv 1 (l.map iC)]
theorem E3: ∀ (m:List Int) (a:RA) (w:World),(∀ X∈nk m a,X.holds w)→ ∀ X∈QB m a,X.holds w:=fun m a w h X hX=>by
 simp only [QB,bW] at hX
 subst hX
 have:=mZ (h _ (List.mem_singleton.2 rfl))
 simpa using this
theorem IS {l:List (List Int)} {bz:List RA}:(bq (aS nk l bz)).wr=true:=by
 show (aS nk l bz).all (·.wr)=true
 rw [e_]
 intro X hX
 obtain ⟨k,m,a,_,_,h⟩:=jH hX
 simp only [nk,bW] at h
 subst h; rfl
theorem k6 {ls:List (List Int)} {az:List RA} (h:az.length=ls.length):(List.zipWith j5 ls az).length=ls.length:=by simp [h]
theorem L6 (l:List (List Int)) (az:List RA): ∀ v∈(List.zipWith j5 l az).flatten,v.oneCell'=true:=by
 induction l generalizing az with
 |nil=>intro v hv; simp at hv
 |cons x l ih=>
  cases az with
  |nil=>intro v hv; simp at hv
  |cons a az=>
   intro v hv
   rw [List.zipWith_cons_cons,List.flatten_cons,kH] at hv
   rcases hv with hv|hv
   ·simp [j5] at hv; subst hv; rfl
   ·exact ih az v hv
section
variable {M A:Type} {f:M→A→List av} {ms:List M} {asl:List A} {k:Nat} {m:M} {a:A} {X:av}
theorem rH:fx f (ms.set k m) (asl.set k a) k=fx f ms asl k:=by
 unfold fx
 rw [List.take_set_of_le (Nat.le_refl k),List.drop_set_of_lt (Nat.lt_succ_self k),List.take_set_of_le (Nat.le_refl k),List.drop_set_of_lt (Nat.lt_succ_self k)]
theorem St.Q_ {S:BS} {w0 w:World} {C:List av} (hk:k<ms.length) (hk2:k<asl.length) (hf:f m a=[X]) (h:St S w0 (X::bq (fx f ms asl k)::C) w):St S w0 (bq (aS f (ms.set k m) (asl.set k a))::C) w:=by
 have A:St S w0 (bq (fx f ms asl k)::X::C) w:=h.perm (List.Perm.swap _ _ _)
 have B:=A.hO
 have D:St S w0 ((f m a++fx f (ms.set k m) (asl.set k a) k)++C) w:=by
  rw [hf,rH]
  exact B.perm (List.perm_middle (a:=X) (l₁:=fx f ms asl k) (l₂:=C))
 exact kP (kQ (List.getElem?_set_self hk) (List.getElem?_set_self hk2)).symm D.tied
theorem qt {β:Type} {c:M→A→β}:(List.zipWith c ms asl).set k (c m a)=List.zipWith c (ms.set k m) (asl.set k a):=by
 apply List.ext_getElem?
 intro j
 rw [List.getElem?_set]
 by_cases e:k=j
 ·subst e
  rw [if_pos rfl,List.length_zipWith,List.getElem?_zipWith,List.getElem?_set,List.getElem?_set,if_pos rfl,if_pos rfl]
  by_cases B:k<ms.length
  ·by_cases C:k<asl.length
   ·rw [if_pos om,if_pos B,if_pos C]
   ·rw [if_neg om,if_pos B,if_neg C]
  ·rw [if_neg om,if_neg B]
 ·rw [if_neg e,List.getElem?_zipWith,List.getElem?_zipWith,List.getElem?_set_ne e,List.getElem?_set_ne e]
variable {E:fg} {ops:Array Oper} {Q:c_} {rest:List Oper} {D:List Deferred} {L:List (Nat×Value)} {C C1:List av}
abbrev AZ (C:List av) (i j:Nat):List Nat:=j::i::(List.range C.length).filter fun k=>k != i&&k != j
abbrev Ge (C:List av) (i:Nat):List Nat:=i::(List.range C.length).filter fun k=>k != i
theorem Fa (i j:Nat) (hk:k<ms.length) (hk2:k<asl.length) (hf:f m a=[X]) (hn:decide (AZ C i j).Nodup=true) (hC:oW C (AZ C i j)=some (X::bq (fx f ms asl k)::C1))
 (h:RJ E ops Q rest D L (bq (aS f (ms.set k m) (asl.set k a))::C1)):RJ E ops Q rest D L C:=fun a w hf' hs=>h a w hf' (St.Q_ hk hk2 hf (St.kd _ hn (jy hC) hs))
theorem Dd {c:Code} (i:Nat) (hm:ms[k]? =some m) (ha:asl[k]? =some a) (hf:f m a=[X]) (hn:decide (Ge C i).Nodup=true) (hC:oW C (Ge C i)=some (bq (aS f ms asl)::C1))
 (h:WJ E c Q D L (X::bq (fx f ms asl k)::C1)):WJ E c Q D L C:=fun a w hf' hs=>h a w hf' (St.out hm ha hf (St.kd _ hn (jy hC) hs))
theorem MI {K:Act→World→Prop} (i j:Nat) (hk:k<ms.length) (ha:asl[k]? =some a) (hf:f m a=[X]) (hn:decide (AZ C i j).Nodup=true) (hC:oW C (AZ C i j)=some (X::bq (fx f ms asl k)::C1))
 (h:KJ E K D L (bq (aS f (ms.set k m) asl)::C1)):KJ E K D L C:=fun a w hf' hs=>h a w hf' (St.back hk ha hf (St.kd _ hn (jy hC) hs))
theorem P6 {Y Y':List av} (i j:Nat) (hn:decide (AZ C i j).Nodup=true) (hC:oW C (AZ C i j)=some (X::bq Y::C1)) (e:Y++[X]=Y') (h:RJ E ops Q rest D L (bq Y'::C1)):RJ E ops Q rest D L C:=fun a w hf hs=>h a w hf ((St.kd _ hn (jy hC) hs).tie e)
theorem Ii {K:Act→World→Prop} {Y Y':List av} (i j:Nat) (hn:decide (AZ C i j).Nodup=true) (hC:oW C (AZ C i j)=some (X::bq Y::C1)) (e:Y++[X]=Y') (h:KJ E K D L (bq Y'::C1)):KJ E K D L C:=fun a w hf hs=>h a w hf ((St.kd _ hn (jy hC) hs).tie e)
end
theorem Dl {M A:Type} {f:M→A→List av} {ms:List M} {asl:List A} {m:M} {a:A} {X:av} (h:ms.length=asl.length) (hf:f m a=[X]):aS f ms asl++[X]=aS f (ms++[m]) (asl++[a]):=by
 rw [jD h]; simp [aS,hf]
theorem HC {M A β:Type} {f:M→A→β} {ms:List M} {asl:List A} {m:M} {a:A} (h:ms.length=asl.length):List.zipWith f ms asl++List.zipWith f [m] [a]=List.zipWith f (ms++[m]) (asl++[a]):=(List.zipWith_append h).symm
theorem rW {r:cm} {k:Nat}:((eI r k).map (·.1)).Nodup:=by
 unfold eI
 rw [List.map_filterMap]
 refine List.Pairwise.filterMap _ ?_ (List.nodup_range (n:=r.aJ.length))
 intro a b A x hx y hy e
 subst e
 simp only [Option.map_map,Option.map_eq_some_iff,Function.comp] at hx hy
 obtain ⟨_,_,rfl⟩:=hx
 obtain ⟨_,_,h⟩:=hy
 exact A om
noncomputable def bD (r:cm):List (List Int):=if bX r=0 then Classical.epsilon (fun G=>hZ (aB (aF r)) ((aF r).map (·.1)) G∧BG G) else []
theorem Bk {r:cm} (h: ¬ bX r=0):bD r=[]:=if_neg h
theorem sU {r:cm} {G:List (List Int)} (he:bX r=0) (h1:hZ (aB (aF r)) ((aF r).map (·.1)) G) (h2:BG G):G=bD r:=by
 unfold bD
 rw [if_pos he]
 have A:=Classical.epsilon_spec (p:=fun G=>hZ (aB (aF r)) ((aF r).map (·.1)) G∧BG G) ⟨G,h1,h2⟩
 exact rl rW (fun i hi=>(gL (m_ he)).2.1) h1 A.1 h2 A.2
section
variable {f:Int→aa} {L:List Int} {G:List (List Int)} {g:List Int} {x last:Int} {i j:Nat}
theorem zN (h:l7 f (L.take i) G last) (hg:g∈G):g.length≤L.length:=by
 have A:=h.ok.perm.length_eq
 have B:g.length≤G.flatten.length:=(List.sublist_flatten_of_mem hg).length_le
 rw [List.length_take] at A; omega
theorem FE (h:l7 f (L.take i) G last):G.length≤L.length:=by
 have A:=h.ok.perm.length_eq
 have B: ∀ G:List (List Int),(∀ g∈G,g≠[])→G.length≤G.flatten.length:=fun G=>by
  induction G with
  |nil=>intro _; simp
  |cons g G ih=>
   intro hG
   have C:=ih fun y hy=>hG y (cT _ hy)
   have D:=List.length_pos_iff.2 (hG g cj)
   simp only [List.flatten_cons,List.length_cons,List.length_append]; omega
 have C:=B G h.ok.some_
 rw [List.length_take] at A; omega
theorem o7 (h0: -1≤(f x).Hi) (hx:L[i]? =some x) (hg:(G++[[]])[(G++[([]:List Int)]).length-1]? =some g) (h:l7 f (L.take i) G last) (hl:last<(f x).Lo):l7 f (L.take (i+1)) ((G++[[]]).set ((G++[([]:List Int)]).length-1) (g++[x])) (max last (f x).Hi):=by
 have A:(G++[([]:List Int)]).length-1=G.length:=by simp
 rw [A] at hg ⊢
 simp at hg
 subst hg
 rw [lu hx]
 have B:(G++[([]:List Int)]).set G.length ([]++[x])=G++[[x]]:=by simp
 rw [B]
 exact L9 h0 h hl
theorem oc (h0: -1≤(f x).Hi) (hf: ∀ i∈L,(f i).Lo≤(f i).Hi) (hup:Dt (fun u=>(f u).Lo) L) (hx:L[i]? =some x) (hg:G[G.length-1]? =some g) (h:l7 f (L.take i) G last) (hl: ¬ last<(f x).Lo):l7 f (L.take (i+1)) (G.set (G.length-1) (g++[x])) (max last (f x).Hi):=by
 obtain ⟨A,F⟩:=List.getElem?_eq_some_iff.1 hg
 obtain ⟨G',y,rfl⟩: ∃ G' y,G=G'++[y]:=⟨G.dropLast,G.getLast (by intro e; subst e; simp at A),(List.dropLast_concat_getLast _).symm⟩
 have D:(G'++[y]).length-1=G'.length:=by simp
 simp only [D] at hg ⊢
 simp at hg
 subst hg
 have E:(G'++[y]).set G'.length (y++[x])=G'++[y++[x]]:=by simp
 rw [lu hx,E]
 refine LG h0 (fun i hi=>hf i (List.mem_of_mem_take hi)) (fun a ha=>?_) h hl
 obtain ⟨C,B⟩:=List.getElem?_eq_some_iff.1 hx
 obtain ⟨q,hq,rfl⟩:=List.mem_iff_getElem.1 ha
 rw [List.length_take] at hq
 rw [List.getElem_take]
 have:=List.pairwise_iff_getElem.1 hup q i om C om
 rw [B] at this
 exact this
theorem Ff (hlo:0≤(f x).Lo) (h:l7 f (L.take i) G last) (hl: ¬ last<(f x).Lo):1≤G.length:=by
 rcases h.at_ with ⟨_,e⟩|⟨a,ha,_⟩
 ·omega
 ·exact List.length_pos_iff.2 (Jj h (fun e=>by rw [e] at ha; cases ha))
/-- the first groups are in order -/
def nB (G:List (List Int)) (j:Nat):List (List Int):=(G.take j).map di++G.drop j
theorem DZ (h:G.length≤j):nB G j=G.map di:=by unfold nB; rw [List.take_of_length_le h,List.drop_eq_nil_of_le h,List.append_nil]
theorem Ep:(nB G j).length=G.length:=by unfold nB; rw [List.length_append,List.length_map,List.length_take,List.length_drop]; omega
theorem Gx (h:G[j]? =some g):(nB G j)[j]? =some g:=by
 have hj:=(List.getElem?_eq_some_iff.1 h).1
 unfold nB
 rw [List.getElem?_append_right (by rw [List.length_map,List.length_take]; omega),List.length_map,List.length_take,Nat.min_eq_left om,Nat.sub_self,List.getElem?_drop]
 simpa using h
theorem Dy (h:G[j]? =some g):(nB G j).set j (di g)=nB G (j+1):=by
 have hj:=(List.getElem?_eq_some_iff.1 h).1
 unfold nB
 rw [List.set_append_right _ _ (by rw [List.length_map,List.length_take]; omega),List.length_map,List.length_take,Nat.min_eq_left om,Nat.sub_self,List.drop_eq_getElem_cons hj,List.set_cons_zero,List.take_add_one,h]
 simp
theorem Ie {gz:List RA}:List.zipWith j5 (G.map di) gz=List.zipWith j5 G gz:=by
 induction G generalizing gz with
 |nil=>rfl
 |cons g G ih=>
  cases gz with
  |nil=>rfl
  |cons a gz=>simp only [List.map_cons,List.zipWith_cons_cons,ih]; simp [j5]
end
end
section
open Go.RowKit
theorem EB (l:List au) (az:List RA): ∀ v∈(List.zipWith au.cells l az).flatten,v.oneCell'=true:=by
 induction l generalizing az with
 |nil=>intro v hv; simp at hv
 |cons x l ih=>
  cases az with
  |nil=>intro v hv; simp at hv
  |cons a az=>
   intro v hv
   rw [List.zipWith_cons_cons,List.flatten_cons,kH] at hv
   rcases hv with hv|hv
   ·simp [au.cells,du.cells] at hv
    rcases hv with rfl|rfl<;>rfl
   ·exact ih az v hv
theorem gX {l:List au} {az:List RA} (h:az.length=l.length):(List.zipWith au.cells l az).length=l.length:=by simp [h]
theorem gk {l:List au} {bz:List RA}:(bq (aS au.owns l bz)).wr=true:=by
 show (aS au.owns l bz).all (·.wr)=true
 rw [e_]
 intro X hX
 obtain ⟨k,m,a,_,_,h⟩:=jH hX
 simp only [au.owns,bW] at h
 subst h; rfl
/-- what is known of new rows -/
def rv (l:List au) (bz:List RA):Prop:= ∀ (k:Nat) m (a:RA),l[k]? =some m→bz[k]? =some a→m.bw.length≤a.2
theorem Kp {l:List au} {bz:List RA} {i:Nat} {x:au} {nw:RA} (h:rv l bz) (hb:bz.length=i) (hx:l[i]? =some x) (hc:x.bw.length≤nw.2):rv l (bz++[nw]):=fun k m a hm ha=>by
 by_cases e:k<bz.length
 ·rw [List.getElem?_append_left e] at ha
  exact h k m a hm ha
 ·rw [List.getElem?_append_right om] at ha
  have hk:k-bz.length=0:=by
   rcases Nat.eq_zero_or_pos (k-bz.length) with A|A
   ·exact A
   ·rw [List.getElem?_eq_none (by simp; omega)] at ha; cases ha
  rw [hk] at ha
  simp at ha
  have:k=i:=by omega
  subst this
  rw [hx] at hm; cases hm
  subst ha; exact hc
theorem iM: ∀ (m:au) (a:RA) (w:World),(∀ X∈au.owns m a,X.holds w)→ ∀ X∈au.gW m a,X.holds w:=fun m a w h X hX=>by
 simp only [au.gW,bW] at hX
 subst hX
 have:=mZ (h _ (List.mem_singleton.2 rfl))
 simpa using this
theorem eB.PD {l:bf} {az bz:List RA} (h:eB l az) (hb:bz.length=l.ai.length) (hc:rv l.ai bz):eB l bz:=⟨h.sf,h.side,h.sh,hb,h.se,fun k m a hm ha=>⟨hc k m a hm ha,by
 obtain ⟨A,B⟩: ∃ A,az[k]? =some A:=⟨az[k]'(by rw [h.oq]; exact (List.getElem?_eq_some_iff.1 hm).1),e8 _⟩
 exact (h.Qy k m A hm B).2⟩⟩
section
variable {E:fg} {ops:Array Oper} {Q:c_} {rest:List Oper} {D:List Deferred} {L:List (Nat×Value)} {C:List av}
end
end
section
open Go.RowKit
def oe (m:ax) (a:RA):List av:=[own a.1 a.2 Ok 2 (m.cz.ak.map aO.cells)]
def gP (m:List ax) (a:cS):List av:=own a.1.1 a.1.2 Cw 7 (List.zipWith ax.cells m a.2)::aS oe m a.2
theorem Pu: ∀ (m:ax) (a:RA) (w:World),(∀ X∈oe m a,X.holds w)→ ∀ X∈ax.gW m a,X.holds w:=fun m a w h X hX=>by
 simp only [ax.gW,bW] at hX
 subst hX
 have:=mZ (h _ (List.mem_singleton.2 rfl))
 simpa using this
theorem qd {m:List ax} {asl:List RA} (h:asl.length=m.length):(List.zipWith ax.cells m asl).length=m.length:=by simp [h]
theorem fr {m:List (List ax)} {asl:List cS} (h:asl.length=m.length):(List.zipWith cJ m asl).length=m.length:=by simp [h]
theorem Ns {m:List ax} {asl:List RA}:(aS oe m asl).all (·.wr)=true:=by
 rw [e_]
 intro X hX
 obtain ⟨k,d,a,_,_,h⟩:=jH hX
 simp only [oe,bW] at h
 subst h; rfl
theorem ko {m:List (List ax)} {asl:List cS}:(bq (aS gP m asl)).wr=true:=by
 show (aS gP m asl).all (·.wr)=true
 rw [e_]
 intro X hX
 obtain ⟨k,d,a,_,_,h⟩:=jH hX
 rcases List.mem_cons.1 h with rfl|h
 ·rfl
 ·exact List.all_eq_true.1 Ns X h
theorem Me (l:List ax) (az:List RA): ∀ v∈(List.zipWith ax.cells l az).flatten,v.oneCell'=true:=by
 induction l generalizing az with
 |nil=>intro v hv; simp at hv
 |cons x l ih=>
  cases az with
  |nil=>intro v hv; simp at hv
  |cons a az=>
   intro v hv
   rw [List.zipWith_cons_cons,List.flatten_cons,kH] at hv
   rcases hv with hv|hv
   ·simp [ax.cells,bu.cells,eG.cells,aa.cells] at hv
    rcases hv with rfl|rfl|rfl|rfl|rfl|rfl|rfl<;>rfl
   ·exact ih az v hv
theorem Hk (l:List (List ax)) (az:List cS): ∀ v∈(List.zipWith cJ l az).flatten,v.oneCell'=true:=by
 induction l generalizing az with
 |nil=>intro v hv; simp at hv
 |cons x l ih=>
  cases az with
  |nil=>intro v hv; simp at hv
  |cons a az=>
   intro v hv
   rw [List.zipWith_cons_cons,List.flatten_cons,kH] at hv
   rcases hv with hv|hv
   ·simp [cJ] at hv; subst hv; rfl
   ·exact ih az v hv
/-- every heat has as many places as descents -/
def sO (H:List (List ax)) (hz:List cS):Prop:=hz.length=H.length∧ ∀ (k:Nat) h (a:cS),H[k]? =some h→hz[k]? =some a→a.2.length=h.length
theorem N0 {a:OA} {c e sz n:Nat} {es:List (List Value)} {w:World} (h:(own a c e sz es).holds w) (hn:es.length=n):(rd a n sz es).holds w:=by subst hn; exact mZ h
theorem g7 {C:List av} {H:List (List ax)} {hz:List cS} (i:Nat) (hC:C[i]? =some (bq (aS gP H hz))) (hh:sO H hz):iU C (e9 (aS iu H hz)).holds:=fun w hw X hX=>by
 have hb:=hw _ (aU hC)
 obtain ⟨k,m,a,A,B,D⟩:=jH hX
 rcases List.mem_cons.1 D with rfl|D
 ·exact N0 (hb.1 _ (b_ A B cj)) (qd (hh.2 k m a A B))
 ·obtain ⟨q,d,b,E,F,G⟩:=jH D
  exact Pu d b w (fun Y hY=>hb.1 Y (b_ A B (cT _ (b_ E F hY)))) X G
section
variable {α:Type}
def ks (bz az:List α) (i:Nat):List α:=bz++az.drop i
variable {bz az:List α} {i:Nat} {a b:α}
theorem iB (hb:bz.length=i) (hi:i≤az.length):(ks bz az i).length=az.length:=by simp [ks,hb]; omega
theorem wg (h:az.length≤i):ks bz az i=bz:=by unfold ks; rw [List.drop_eq_nil_of_le h,List.append_nil]
theorem Ax (hb:bz.length=i) (h:az[i]? =some a):(ks bz az i)[i]? =some a:=by
 unfold ks
 rw [List.getElem?_append_right om,hb,Nat.sub_self,List.getElem?_drop]
 simpa using h
theorem LB (hb:bz.length=i):(ks (bz++[b]) az (i+1))[i]? =some b:=by
 unfold ks
 rw [List.getElem?_append_left (by simp; omega),List.getElem?_append_right om,hb,Nat.sub_self]; rfl
theorem Ib (hb:bz.length=i) (h:az[i]? =some a):(ks bz az i).set i b=ks (bz++[b]) az (i+1):=by
 unfold ks
 have hi:=(List.getElem?_eq_some_iff.1 h).1
 rw [List.set_append_right _ _ om,hb,Nat.sub_self,List.drop_eq_getElem_cons hi,List.set_cons_zero]
 simp
theorem wR {M β:Type} {c:M→α→β} {l:List M} {x:M} (hx:l[i]? =some x) (hb:bz.length=i) (h:az[i]? =some a):(List.zipWith c l (ks bz az i)).set i (c x b)=List.zipWith c l (ks (bz++[b]) az (i+1)):=by
 rw [qt,Ib hb h]
 congr 1
 obtain ⟨hi,rfl⟩:=List.getElem?_eq_some_iff.1 hx
 exact List.set_getElem_self hi
theorem rz {M:Type} {f:M→α→List av} {l:List M} {x:M} (hx:l[i]? =some x) (hb:bz.length=i):aS f (l.take i) bz++f x b=aS f (l.take (i+1)) (bz++[b]):=by
 have hi:=(List.getElem?_eq_some_iff.1 hx).1
 rw [List.take_add_one,hx,Option.toList_some,jD (by rw [List.length_take,hb]; omega)]
 simp [aS]
end
theorem Bo: ∀ {l:List (List ax)} {u v:List cS},u.map (·.1)=v.map (·.1)→List.zipWith cJ l u=List.zipWith cJ l v
 |[],u,v,_=>by simp
 |x::l,[],[],_=>rfl
 |x::l,[],b::v,h=>by simp at h
 |x::l,a::u,[],h=>by simp at h
 |x::l,a::u,b::v,h=>by
  simp only [List.map_cons,List.cons.injEq] at h
  rw [List.zipWith_cons_cons,List.zipWith_cons_cons,Bo h.2]
  have e:cJ x a=cJ x b:=by simp only [cJ,h.1]
  rw [e]
theorem KZ {l:List (List ax)} {hz ha:List cS} {p:RA} {x y:List RA} {i:Nat}:List.zipWith cJ l (ks (hz++[(p,x)]) ha i)=List.zipWith cJ l (ks (hz++[(p,y)]) ha i):=Bo (by simp [ks])
theorem MZ {H:List (List ax)} {hz:List cS} {i:Nat} {x:List ax} {b:cS} (hx:H[i]? =some x) (h: ∀ (k:Nat) y (a:cS),H[k]? =some y→hz[k]? =some a→a.2.length=y.length) (hb:hz.length=i) (hl:b.2.length=x.length): ∀ (k:Nat) y (a:cS),H[k]? =some y→(hz++[b])[k]? =some a→a.2.length=y.length:=fun k y a hy ha=>by
 by_cases e:k<hz.length
 ·rw [List.getElem?_append_left e] at ha
  exact h k y a hy ha
 ·rw [List.getElem?_append_right om] at ha
  have hk:k-hz.length=0:=by
   rcases Nat.eq_zero_or_pos (k-hz.length) with A|A
   ·exact A
   ·rw [List.getElem?_eq_none (by simp; omega)] at ha; cases ha
  rw [hk] at ha
  simp at ha
  have:k=i:=by omega
  subst this
  rw [hx] at hy; cases hy
  subst ha; exact hl
theorem Fb {S:BS} {w0 w:World} {C:List av} {A:av} {Y Z:List av} (h:St S w0 (A::bq Y::bq Z::C) w):St S w0 (bq (Z++A::Y)::C) w:=by
 have D:St S w0 (bq Y::A::bq Z::C) w:=h.perm (List.Perm.swap _ _ _)
 have E:St S w0 (Y++(A::bq Z::C)) w:=D.hO
 have F:St S w0 (bq Z::(A::Y)++C) w:=E.perm (by
  have B:(Y++(A::bq Z::C)).Perm ((A::bq Z::C)++Y):=List.perm_append_comm
  refine B.trans ?_
  show (A::bq Z::(C++Y)).Perm (bq Z::A::(Y++C))
  exact (List.Perm.swap _ _ _).trans (((List.perm_append_comm (l₁:=C) (l₂:=Y)).cons A).cons _))
 have G:St S w0 (Z++((A::Y)++C)) w:=F.hO
 have H:St S w0 ((Z++A::Y)++C) w:=by simpa using G
 exact H.tied
theorem HA {S:BS} {w0 w:World} {C:List av} {A:av} {Y Z:List av} (h:St S w0 (bq (A::Y++Z)::C) w):St S w0 (A::bq Y::bq Z::C) w:=by
 have D:St S w0 ((A::Y++Z)++C) w:=h.hO
 have E:St S w0 (Z++(A::(Y++C))) w:=D.perm (by
  show (A::(Y++Z)++C).Perm (Z++(A::(Y++C)))
  have B:(A::(Y++Z)++C).Perm (A::(Z++(Y++C))):=by
   show (A::((Y++Z)++C)).Perm _
   refine List.Perm.cons A ?_
   rw [← List.append_assoc]
   exact List.perm_append_comm.append_right C
  exact B.trans (List.perm_middle (a:=A) (l₁:=Z) (l₂:=Y++C)).symm)
 have F:=E.tied
 have G:St S w0 (Y++(A::bq Z::C)) w:=F.perm (by
  show (bq Z::A::(Y++C)).Perm (Y++(A::bq Z::C))
  have B:(Y++(A::bq Z::C)).Perm (A::bq Z::(Y++C)):=by
   have:=List.perm_append_comm (l₁:=Y) (l₂:=A::bq Z::C)
   refine this.trans ?_
   show (A::bq Z::(C++Y)).Perm _
   exact (List.perm_append_comm.cons _).cons _
  exact (B.trans (List.Perm.swap _ _ _)).symm)
 have H:=G.tied
 exact H.perm (List.Perm.swap _ _ _)
theorem wQ {H:List (List ax)} {hz:List cS} {k:Nat} {h:List ax} {a:cS} (hh:H[k]? =some h) (ha:hz[k]? =some a):(aS gP H hz).Perm (own a.1.1 a.1.2 Cw 7 (List.zipWith ax.cells h a.2)::aS oe h a.2++fx gP H hz k):=kQ hh ha
theorem PM {E:fg} {K:Act→World→Prop} {D:List Deferred} {L:List (Nat×Value)} {C:List av} {a:OA} {c e sz:Nat} {es:List (List Value)} (i:Nat) (hC:C[i]? =some (own a c e sz es)) (k:es.length≤c→KJ E K D L C):KJ E K D L C:=fun act w hf hs=>k (FZ (hs.holds _ (aU hC))) act w hf hs
abbrev NL (C:List av) (i j k:Nat):List Nat:=k::j::i::(List.range C.length).filter fun q=>q != i&&q != j&&q != k
section
variable {E:fg} {ops:Array Oper} {Q:c_} {rest:List Oper} {D:List Deferred} {L:List (Nat×Value)} {C C1:List av} {K:Act→World→Prop}
variable {H:List (List ax)} {hz:List cS} {h h':List ax} {a a':cS} {k:Nat} {X:av} {Y Z Z':List av}
/-- i: the others, j: what hangs on the row, q: the row -/
theorem Py (i j q:Nat) (hn:decide (NL C i j q).Nodup=true) (hC:oW C (NL C i j q)=some (X::bq Y::bq Z::C1)) (e:Z++X::Y=Z') (hk:KJ E K D L (bq Z'::C1)):KJ E K D L C:=fun a w hf hs=>by
 subst e; exact hk a w hf (Fb (St.kd _ hn (jy hC) hs))
theorem PL {c:Code} (i:Nat) (hh:H[k]? =some h) (ha:hz[k]? =some a) (hn:decide (Ge C i).Nodup=true) (hC:oW C (Ge C i)=some (bq (aS gP H hz)::C1))
 (hk:WJ E c Q D L (own a.1.1 a.1.2 Cw 7 (List.zipWith ax.cells h a.2)::bq (aS oe h a.2)::bq (fx gP H hz k)::C1)):WJ E c Q D L C:=fun act w hf hs=>
 hk act w hf (HA (kP (wQ hh ha) (St.kd _ hn (jy hC) hs)))
theorem Ld {S:BS} {w0 w:World} (hk:k<H.length) (hk2:k<hz.length) (hs:St S w0 (own a'.1.1 a'.1.2 Cw 7 (List.zipWith ax.cells h' a'.2)::bq (aS oe h' a'.2)::bq (fx gP H hz k)::C) w):St S w0 (bq (aS gP (H.set k h') (hz.set k a'))::C) w:=by
 have B:=Fb hs
 refine kP ?_ B
 have A:=wQ (H:=H.set k h') (hz:=hz.set k a') (List.getElem?_set_self hk) (List.getElem?_set_self hk2)
 rw [rH] at A
 exact (List.perm_append_comm).trans A.symm
end
theorem Gv {H:List (List ax)} {hz:List cS} {k:Nat} {h h':List ax} {a:cS} {bs:List RA} (hh:H[k]? =some h) (ha:hz[k]? =some a) (hl:h'.length=h.length):List.zipWith cJ (H.set k h') (hz.set k (a.1,bs))=List.zipWith cJ H hz:=by
 rw [← qt]
 have e:cJ h' (a.1,bs)=cJ h a:=by simp only [cJ,hl]
 rw [e]
 have hz':=dT (f:=cJ) hh ha
 obtain ⟨hi,A⟩:=List.getElem?_eq_some_iff.1 hz'
 rw [← A]
 exact List.set_getElem_self hi
theorem My {S:BS} {w0 w:World} {C:List av} {h:List ax} {bs:List RA} {i:Nat} {d:ax} {b:RA} {d':ax} (hd:h[i]? =some d) (hb:bs[i]? =some b) (hs':d'.cz.ak=[]) (hs:St S w0 (bq (aS oe h bs)::C) w):St S w0 (bq (aS oe (h.set i d') (bs.set i (none,0)))::C) w:=by
 have A:=(kP (kQ hd hb) hs).hO
 have B:St S w0 (fx oe h bs i++C) w:=St.take (by simpa using A) (List.sublist_append_right (oe d b) (fx oe h bs i++C))
 have D:=B.q6 Ok 2
 have E:St S w0 ((oe d' (none,0)++fx oe (h.set i d') (bs.set i (none,0)) i)++C) w:=by
  rw [rH]
  simpa [oe,hs'] using D
 exact kP (kQ (List.getElem?_set_self (List.getElem?_eq_some_iff.1 hd).1) (List.getElem?_set_self (List.getElem?_eq_some_iff.1 hb).1)).symm E.tied
theorem fm.PD {r:cm} {az bz:List RA} {ha hz:List cS} (h:fm r az ha) (hb:bz.length=r.ah.ai.length) (hc:rv r.ah.ai bz) (hh:sO r.ar hz):fm r bz hz:=⟨h.line.PD hb hc,h.iP,h.draw,h.iQ,hh.1,fun k x a hx ha'=>by
 obtain ⟨A,C⟩: ∃ A,ha[k]? =some A:=⟨ha[k]'(by rw [h.has]; exact (List.getElem?_eq_some_iff.1 hx).1),e8 _⟩
 have B:=h.oz k x A hx C
 exact ⟨B.len,hh.2 k x a hx ha',B.sig⟩⟩
end
section
open Go.RowKit
def ky (t:aa):ax:=⟨false,true,t,⟨0,0,[]⟩⟩
def dF (H:List (List ax)) (h i:Int) (t:aa):List (List ax):=H.set h.toNat ((H[h.toNat]?.getD []).set i.toNat (ky t))
def jt (r:cm) (h i:Int) (t:aa):cm:=⟨r.ah,r.aJ,r.bB,r.dW,dF r.ar h i t⟩
@[simp] theorem QA {r:cm} {h i:Int} {t:aa}:(jt r h i t).ah=r.ah:=rfl
@[simp] theorem Qu {r:cm} {h i:Int} {t:aa}:(jt r h i t).aJ=r.aJ:=rfl
@[simp] theorem QC {r:cm} {h i:Int} {t:aa}:(jt r h i t).bB=r.bB:=rfl
theorem we {m:g3} {i:Int} {s:aa}:(db m i s).length≤m.length:=by
 unfold db
 refine Nat.le_trans (List.length_filter_le _ _) ?_
 rw [List.length_map,List.length_range]; exact Nat.le_refl _
noncomputable def qb (r:cm) (h i:Int) (t:aa):Int:=if ((0≤h∧h≤(r.ar.length:Int)-1)∧pQ r i)∧iE t then (if ((r.ar[h.toNat]?).bind (·[i.toNat]?)).any (·.Out)=true then 8 else 0) else 2
noncomputable def dK (r:cm) (h i:Int) (t:aa):Int:=if bX r=0 then qb r h i t else bX r
noncomputable def cw (r:cm) (h i:Int) (t:aa):List Int:=if dK r h i t=0 then (di ((aF r).map (·.1))).filter (fun k=> !decide (db (aF r) k (aB (aF r) k)=db (aF (jt r h i t)) k (aB (aF (jt r h i t)) k))) else []
section
variable {r:cm} {h i:Int} {t:aa} {ht:List ax} {d:ax}
theorem vp {H:List (List ax)} (hh:H[h.toNat]? =some ht):dF H h i t=H.set h.toNat (ht.set i.toNat (ky t)):=by unfold dF; rw [hh]; rfl
theorem iT {H:List (List ax)}:(dF H h i t).length=H.length:=by unfold dF; rw [List.length_set]
theorem mm (q: ¬ (((0≤h∧h≤(r.ar.length:Int)-1)∧0≤i∧i≤(r.aJ.length:Int)-1)∧iE t)):qb r h i t=2:=if_neg q
theorem FX (q:((0≤h∧h≤(r.ar.length:Int)-1)∧0≤i∧i≤(r.aJ.length:Int)-1)∧iE t) (h1:r.ar[h.toNat]? =some ht) (h2:ht[i.toNat]? =some d):qb r h i t=if d.Out=true then 8 else 0:=by
 unfold qb
 rw [if_pos (show ((0≤h∧h≤(r.ar.length:Int)-1)∧pQ r i)∧iE t from q),h1,Option.bind_some,h2,Option.any_some]
theorem sj (q:((0≤h∧h≤(r.ar.length:Int)-1)∧0≤i∧i≤(r.aJ.length:Int)-1)∧iE t) (h1:r.ar[h.toNat]? =some ht) (h2:ht[i.toNat]? =some d) (ho:d.Out=true):qb r h i t=8:=by rw [FX q h1 h2,if_pos ho]
theorem Nz (q:((0≤h∧h≤(r.ar.length:Int)-1)∧0≤i∧i≤(r.aJ.length:Int)-1)∧iE t) (h1:r.ar[h.toNat]? =some ht) (h2:ht[i.toNat]? =some d) (ho:d.Out=false):qb r h i t=0:=by rw [FX q h1 h2,if_neg (by rw [ho]; decide)]
/-- what it means that there is no error -/
theorem yQ (e:qb r h i t=0):((0≤h∧h≤(r.ar.length:Int)-1)∧pQ r i)∧iE t∧((r.ar[h.toNat]?).bind (·[i.toNat]?)).any (·.Out)=false:=by
 unfold qb at e
 split at e
 ·rename_i q
  split at e
  ·cases e
  ·rename_i A; exact ⟨q.1,q.2,by simpa using A⟩
 ·cases e
theorem B0 (e:dK r h i t=0):bX r=0∧qb r h i t=0:=by
 unfold dK at e
 split at e
 ·exact ⟨asm,e⟩
 ·exact absurd e asm
theorem rT (e: ¬ bX r=0):dK r h i t=bX r:=if_neg e
theorem oP (e:bX r=0):dK r h i t=qb r h i t:=if_pos e
theorem AX {H:List (List ax)} {k:Nat} {y:List ax} (hy:(dF H h i t)[k]? =some y): ∃ x,H[k]? =some x∧y.length=x.length∧ ∀ d∈y,d∈x∨d=ky t:=by
 unfold dF at hy
 rw [List.getElem?_set] at hy
 split at hy
 ·rename_i e
  split at hy
  ·rename_i hl
   have A:H[h.toNat]? =some H[h.toNat]:=e8 hl
   rw [A] at hy
   simp only [Option.getD_some,Option.some.injEq] at hy
   subst hy
   refine ⟨H[h.toNat],by rw [← e]; exact A,by rw [List.length_set],fun d hd=>?_⟩
   exact List.mem_or_eq_of_mem_set hd
  ·cases hy
 ·exact ⟨y,hy,U,fun d hd=> .inl hd⟩
theorem Dv (hr:eV r) (ht:iE t):eV (jt r h i t):=⟨hr.num,hr.wm,by
 have:=hr.nh
 show 1≤((dF r.ar h i t).length:Int)∧((dF r.ar h i t).length:Int)≤3
 rw [iT]; exact this,hr.ids,hr.draw,fun y hy=>by
 obtain ⟨k,hk⟩:=List.mem_iff_getElem?.1 hy
 obtain ⟨x,hx,hl,hm⟩:=AX hk
 have A:=hr.oz x (aU hx)
 refine ⟨hl.trans A.1,fun d hd=>?_⟩
 rcases hm d hd with q|rfl
 ·exact A.2 d q
 ·unfold hU
  rw [if_neg (by simp [ky]),if_pos (by rfl)]
  exact ⟨ht,by simp [l9,ky]⟩⟩
theorem yJ (e:dK r h i t=0):bX (jt r h i t)=0:=by
 obtain ⟨A,B⟩:=B0 e
 obtain ⟨C,D⟩:=jk A
 unfold bX
 rw [if_pos (show dx (jt r h i t).ah=0 from C),if_pos (Dv D (yQ B).2.1)]
theorem fm.rep {az bz:List RA} {ha hz:List cS} (hin:fm r az ha) (hb:bz.length=r.ah.ai.length) (hc:rv r.ah.ai bz) (hh:sO (dF r.ar h i t) hz):fm (jt r h i t) bz hz:=⟨hin.line.PD hb hc,hin.iP,hin.draw,by
 show (dF r.ar h i t).length≤1000000
 rw [iT]; exact hin.iQ,hh.1,fun k y a hy ha'=>by
 obtain ⟨x,hx,hl,hm⟩:=AX hy
 obtain ⟨b,hb⟩: ∃ b,ha[k]? =some b:=⟨ha[k]'(by rw [hin.has]; exact (List.getElem?_eq_some_iff.1 hx).1),e8 _⟩
 have A:=hin.oz k x b hx hb
 refine ⟨by rw [hl]; exact A.len,hh.2 k y a hy ha',fun d hd=>?_⟩
 rcases hm d hd with q|rfl
 ·exact A.sig d q
 ·simp [ky]⟩
theorem IU {H:List (List ax)} {k q:Nat}:((dF H h i t)[k]?).bind (·[q]?)=(H[k]?).bind (·[q]?)∨(k=h.toNat∧q=i.toNat∧(∃ d,(H[k]?).bind (·[q]?)=some d)∧((dF H h i t)[k]?).bind (·[q]?)=some (ky t)):=by
 by_cases e:h.toNat=k
 ·cases hk:H[k]? with
  |none=>
   left
   have:(dF H h i t)[k]? =none:=by rw [List.getElem?_eq_none_iff,iT]; exact List.getElem?_eq_none_iff.1 hk
   rw [this]
  |some x=>
   have B:(dF H h i t)[k]? =some (x.set i.toNat (ky t)):=by
    subst e
    rw [vp hk]
    exact List.getElem?_set_self (List.getElem?_eq_some_iff.1 hk).1
   rw [B,Option.bind_some,Option.bind_some]
   by_cases A:i.toNat=q
   ·cases hq:x[q]? with
    |none=>
     left
     rw [List.getElem?_eq_none_iff,List.length_set]; exact List.getElem?_eq_none_iff.1 hq
    |some d=>
     right
     subst A
     exact ⟨e.symm,U,⟨d,U⟩,List.getElem?_set_self (List.getElem?_eq_some_iff.1 hq).1⟩
   ·left; rw [List.getElem?_set_ne A]
 ·left
  unfold dF
  rw [List.getElem?_set_ne e]
theorem yl {l:bf} {H:List (List ax)} {q:Nat} (ho:((H[h.toNat]?).bind (·[i.toNat]?)).any (·.Out)=false): ∀ n,(gI l (dF H h i t) q n).isSome=(gI l H q n).isSome
 |0=>rfl
 |n+1=>by
  have ih:=yl (l:=l) (q:=q) ho n
  unfold gI
  rcases IU (H:=H) (h:=h) (i:=i) (t:=t) (k:=n) (q:=q) with e|⟨rfl,rfl,⟨d,hd⟩,e⟩
  ·rw [e]
   cases e1:gI l (dF H h i t) q n<;>cases e2:gI l H q n<;>simp_all
   cases (H[n]?).bind (·[q]?) with
   |none=>rfl
   |some d=>by_cases c:d.Out=true<;>simp [c]
  ·rw [e,hd]
   have A:d.Out=false:=by rw [hd] at ho; simpa using ho
   cases e1:gI l (dF H h i t) i.toNat h.toNat<;>cases e2:gI l H i.toNat h.toNat<;>simp_all [ky]
theorem Oj {r:cm} {k:Nat} {x:Int}:(eI r k).lookup x=if 0≤x∧x<(r.aJ.length:Int) then gI r.ah r.ar x.toNat k else none:=by
 by_cases c:0≤x∧x<(r.aJ.length:Int)
 ·rw [if_pos c]
  have:=qL (f:=fun q=>gI r.ah r.ar q k) r.aJ.length x.toNat
  rw [if_pos om,show (x.toNat:Int)=x by omega] at this
  exact this
 ·rw [if_neg c]
  cases e:(eI r k).lookup x with
  |none=>rfl
  |some v=>
   exfalso
   obtain ⟨q,hq,A,_⟩:=yi ((wJ rW).2 e)
   simp only at A
   omega
theorem Kf (e:qb r h i t=0) (k:Int):((aF (jt r h i t)).lookup k).isSome=((aF r).lookup k).isSome:=by
 obtain ⟨_,_,ho⟩:=yQ e
 unfold aF
 rw [Oj,Oj]
 show (if 0≤k∧k<(r.aJ.length:Int) then gI r.ah (dF r.ar h i t) k.toNat (dF r.ar h i t).length else none).isSome=_
 rw [iT]
 split
 ·exact yl ho _
 ·rfl
theorem By {m:g3} {k:Int} (h:k∈di (m.map (·.1))):m.lookup k≠none:=by
 obtain ⟨p,hp,rfl⟩:=List.mem_map.1 (fE.mem_iff.1 h)
 intro e
 exact absurd (List.lookup_eq_none_iff.1 e p hp) sm
theorem Pv {hz:List cS} {hza:cS} (hh:sO r.ar hz) (h1:r.ar[h.toNat]? =some ht) (h2:hz[h.toNat]? =some hza):sO (dF r.ar h i t) (hz.set h.toNat (hza.1,hza.2.set i.toNat (none,0))):=by
 refine ⟨by rw [List.length_set,iT]; exact hh.1,fun k y a hy ha=>?_⟩
 rw [vp h1] at hy
 rw [List.getElem?_set] at hy ha
 by_cases e:h.toNat=k
 ·rw [if_pos e,if_pos (List.getElem?_eq_some_iff.1 h1).1] at hy
  rw [if_pos e,if_pos (List.getElem?_eq_some_iff.1 h2).1] at ha
  cases hy; cases ha
  simp only [List.length_set]
  exact hh.2 _ _ _ h1 h2
 ·rw [if_neg e] at hy ha
  exact hh.2 k y a hy ha
theorem vX (e: ¬ dK r h i t=0):cw r h i t=[]:=if_neg e
theorem Eb (e:dK r h i t=0):cw r h i t=(di ((aF r).map (·.1))).filter (fun k=> !decide (db (aF r) k (aB (aF r) k)=db (aF (jt r h i t)) k (aB (aF (jt r h i t)) k))):=if_pos e
end
section
variable {E:fg} {Q:c_} {D:List Deferred} {L:List (Nat×Value)} {C C1:List av} {c:Code}
variable {H:List (List ax)} {hz:List cS} {h h':List ax} {a a':cS} {k:Nat} {bs:List RA} {i:Nat} {d d':ax} {b:RA}
theorem PF (j:Nat) (hd:h[i]? =some d) (hb:bs[i]? =some b) (hs':d'.cz.ak=[]) (hn:decide (Ge C j).Nodup=true) (hC:oW C (Ge C j)=some (bq (aS oe h bs)::C1))
 (hk:WJ E c Q D L (bq (aS oe (h.set i d') (bs.set i (none,0)))::C1)):WJ E c Q D L C:=fun act w hf hs=>hk act w hf (My hd hb hs' (St.kd _ hn (jy hC) hs))
theorem ND (i j q:Nat) (hk:k<H.length) (hk2:k<hz.length) (hn:decide (NL C i j q).Nodup=true) (hC:oW C (NL C i j q)=some (own a'.1.1 a'.1.2 Cw 7 (List.zipWith ax.cells h' a'.2)::bq (aS oe h' a'.2)::bq (fx gP H hz k)::C1))
 (hr:WJ E c Q D L (bq (aS gP (H.set k h') (hz.set k a'))::C1)):WJ E c Q D L C:=fun act w hf hs=>hr act w hf (Ld hk hk2 (St.kd _ hn (jy hC) hs))
end
end
section
set_option maxRecDepth 20000
def Bf (x y:Int):ax:=ky ⟨x,y⟩
def ab:cm:=⟨mH,[4,7,9],[2,0,1],2,[[⟨false,false,dA,mw⟩,Bf 2600 2600,Bf 2580 2609],[Bf 2555 2559,Bf 2540 2549,Bf 2570 2575]]⟩
theorem z8 {l:bf} {x y:Int} (h:iE ⟨x,y⟩):hU l (Bf x y):=by rw [sT ⟨rfl,rfl⟩]; exact ⟨h,rfl,rfl,rfl⟩
theorem Qq:eV ab:=by
 refine ⟨dc,dc,dc,fun i x hx=>?_,dc,fun h hh=>?_⟩
 ·match i with
  |0=>simp [ab] at hx; subst hx; exact ⟨dc,fun y h=>absurd h dc⟩
  |1=>simp [ab] at hx; subst hx; exact ⟨dc,fun y _ h=>by simp [ab] at h; omega⟩
  |2=>simp [ab] at hx; subst hx; exact ⟨dc,fun y _ h=>by simp [ab] at h; omega⟩
  |n+3=>simp [ab] at hx
 ·simp only [ab,er,List.not_mem_nil,or_false] at hh
  rcases hh with rfl|rfl
  ·refine ⟨U,fun d hd=>?_⟩
   simp only [er,List.not_mem_nil,or_false] at hd
   rcases hd with rfl|rfl|rfl
   ·rw [tn ⟨rfl,rfl⟩]; exact ⟨DK.1,rfl⟩
   ·exact z8 dc
   ·exact z8 dc
  ·refine ⟨U,fun d hd=>?_⟩
   simp only [er,List.not_mem_nil,or_false] at hd
   rcases hd with rfl|rfl|rfl<;>exact z8 dc
theorem p_:bX ab=0:=by unfold bX; rw [if_pos (show dx ab.ah=0 from ON),if_pos Qq]
theorem Ob:gT ab 0 0=0∧eZ ab 0 0=⟨2596,2602⟩:=by
 have h:gT ab 0 0=0:=by unfold gT; rw [if_pos p_]; decide
 refine ⟨h,?_⟩
 unfold eZ
 rw [if_pos h]
 show dC mH ⟨false,false,dA,mw⟩=_
 rw [vz ⟨rfl,rfl⟩]; exact DK.2
/-- the sums of a race of three sleds and two heats, all of which run -/
theorem I2 {l:bf} {ids dr:List Int} {t:Int} {H:List (List ax)} {a b c d e f:ax} (hH:H=[[a,b,c],[d,e,f]]) (hi:ids.length=3) (hoa: ∀ x∈[a,b,c,d,e,f],x.Out=false):
 aF ⟨l,ids,dr,t,H⟩=[(0,⟨(dC l a).Lo/10+(dC l d).Lo/10,(dC l a).Hi/10+(dC l d).Hi/10⟩),(1,⟨(dC l b).Lo/10+(dC l e).Lo/10,(dC l b).Hi/10+(dC l e).Hi/10⟩),(2,⟨(dC l c).Lo/10+(dC l f).Lo/10,(dC l c).Hi/10+(dC l f).Hi/10⟩)]∧
 eI ⟨l,ids,dr,t,H⟩ 1=[(0,⟨(dC l a).Lo/10,(dC l a).Hi/10⟩),(1,⟨(dC l b).Lo/10,(dC l b).Hi/10⟩),(2,⟨(dC l c).Lo/10,(dC l c).Hi/10⟩)]:=by
 subst hH
 simp only [er,List.not_mem_nil,or_false,forall_eq_or_imp,forall_eq] at hoa
 obtain ⟨A,B,C,D,E,F⟩:=hoa
 simp [aF,eI,hi,List.range_succ,gI,A,B,C,D,E,F]
def NW:g3:=[(0,⟨514,515⟩),(1,⟨514,514⟩),(2,⟨515,517⟩)]
def NK:g3:=[(0,⟨514,515⟩),(1,⟨514,514⟩),(2,⟨516,516⟩)]
def RY:g3:=[(0,⟨259,260⟩),(1,⟨260,260⟩),(2,⟨258,260⟩)]
theorem Ab:dC mH ⟨false,false,dA,mw⟩=⟨2596,2602⟩:=by rw [vz ⟨rfl,rfl⟩]; exact DK.2
theorem pH {l:bf} {x y:Int}:dC l (Bf x y)=⟨x,y⟩:=zF ⟨rfl,rfl⟩
theorem uS:aF ab=NW∧eI ab 1=RY:=by
 obtain ⟨A,B⟩:=I2 (l:=mH) (ids:=[4,7,9]) (dr:=[2,0,1]) (t:=2) (H:=ab.ar) rfl rfl dc
 refine ⟨A.trans ?_,B.trans ?_⟩
 ·rw [Ab,pH,pH,pH,pH,pH]; rfl
 ·rw [Ab,pH,pH]; rfl
def eU:cm:=jt ab 0 2 ⟨2590,2599⟩
theorem CF:dK ab 0 2 ⟨2590,2599⟩=0:=by unfold dK; rw [if_pos p_]; unfold qb; decide
theorem wc:bX eU=0:=yJ CF
theorem Kc:aF eU=NK:=by
 obtain ⟨A,B⟩:=I2 (l:=mH) (ids:=[4,7,9]) (dr:=[2,0,1]) (t:=2) (H:=eU.ar) (a:=⟨false,false,dA,mw⟩) (b:=Bf 2600 2600) (c:=Bf 2590 2599) (d:=Bf 2555 2559) (e:=Bf 2540 2549) (f:=Bf 2570 2575) rfl rfl dc
 refine A.trans ?_
 rw [Ab,pH,pH,pH,pH,pH]; rfl
/-- ranks, as they can be reckoned -/
def Ez (m:g3) (i:Int) (own:aa):List Int:=((List.range m.length).map fun (k:Nat)=>(k:Int)+1).filter fun k=>(jx m i own).any fun n=>decide ((gH m i n:Int)+1≤k∧k≤(jo m i n:Int)+1)
theorem E_ {m:g3} {i:Int} {own:aa}:db m i own=Ez m i own:=by
 unfold db Ez
 congr 1
 funext k
 rw [Bool.eq_iff_iff,decide_eq_true_eq,List.any_eq_true]
 simp only [decide_eq_true_eq,rZ]
theorem Ah {r:cm} {m:g3} {i:Int} {s:aa} (he:bX r=0) (hm:aF r=m) (hi:pQ r i) (hl:m.lookup i=some s):kG r i=0∧pP r i=s∧cH r i=Ez m i s:=by
 have h:kG r i=0:=by unfold kG; rw [if_pos he,if_pos hi,hm,hl]; rfl
 refine ⟨h,?_,?_⟩
 ·unfold pP aB; rw [if_pos h,hm,hl]; rfl
 ·unfold cH aB; rw [if_pos h,hm,hl,E_]; rfl
theorem FQ {r:cm} {m:g3} {a b:Int} {s t:aa} (he:bX r=0) (hm:aF r=m) (hi:pQ r a∧pQ r b∧a≠b) (hs:m.lookup a=some s) (ht:m.lookup b=some t):j_ r a b=0∧pS r a b=wv s t∧l6 r a b=nA s t:=by
 have h:j_ r a b=0:=by unfold j_; rw [if_pos he,if_pos hi,hm,hs,ht]; simp
 refine ⟨h,?_,?_⟩
 ·unfold pS aB; rw [if_pos h,hm,hs,ht]; rfl
 ·unfold l6 aB; rw [if_pos h,hm,hs,ht]; rfl
theorem l4:kG ab 0=0∧pP ab 0=⟨514,515⟩∧cH ab 0=[1,2]:=by have h:=Ah (i:=0) (s:=⟨514,515⟩) p_ uS.1 dc rfl; exact ⟨h.1,h.2.1,h.2.2.trans dc⟩
theorem Bu:kG ab 2=0∧pP ab 2=⟨515,517⟩∧cH ab 2=[2,3]:=by have h:=Ah (i:=2) (s:=⟨515,517⟩) p_ uS.1 dc rfl; exact ⟨h.1,h.2.1,h.2.2.trans dc⟩
theorem Kb:kG eU 2=0∧pP eU 2=⟨516,516⟩:=by have h:=Ah (i:=2) (s:=⟨516,516⟩) wc Kc dc rfl; exact ⟨h.1,h.2.1⟩
theorem Ad:j_ ab 1 2=0∧pS ab 1 2=2∧l6 ab 1 2=0:=by have h:=FQ (a:=1) (b:=2) (s:=⟨514,514⟩) (t:=⟨515,517⟩) p_ uS.1 dc rfl rfl; exact ⟨h.1,h.2.1.trans dc,h.2.2.trans dc⟩
theorem zK:j_ ab 0 1=0∧pS ab 0 1=0∧l6 ab 0 1=1:=by have h:=FQ (a:=0) (b:=1) (s:=⟨514,515⟩) (t:=⟨514,514⟩) p_ uS.1 dc rfl rfl; exact ⟨h.1,h.2.1.trans dc,h.2.2.trans dc⟩
theorem Jp:iF ab 1=0∧gY ab 1=[0,2,1]:=by
 have h:iF ab 1=0:=by unfold iF; rw [if_pos p_]; decide
 refine ⟨h,?_⟩
 unfold gY
 rw [if_pos h,if_neg dc]
 unfold uo
 rw [show eI ab (1:Int).toNat=RY from uS.2]
 decide
theorem Lt:iF ab 2=0∧gY ab 2=[0,1,2]:=by
 have h:iF ab 2=0:=by unfold iF; rw [if_pos p_]; decide
 refine ⟨h,?_⟩
 unfold gY
 rw [if_pos h,if_neg dc]
 unfold uo
 rw [show eI ab (2:Int).toNat=NW from uS.1]
 decide
theorem Mx:bD ab=[[0,1,2]]:=by
 refine (sU p_ ?_ ?_).symm
 ·rw [uS.1]
  refine ⟨dc,dc,sm,fun g hg t A B=>?_⟩
  rw [List.mem_singleton.1 hg] at A B ⊢
  simp [NW,aB,List.lookup] at A B ⊢
  omega
 ·intro g hg; rw [List.mem_singleton.1 hg]; decide
theorem H4:bD eU=[[0,1],[2]]:=by
 refine (sU wc ?_ ?_).symm
 ·rw [Kc]
  refine ⟨dc,dc,?_,fun g hg t A B=>?_⟩
  ·simp [HU,NK,aB,List.lookup]
  ·simp only [er,List.not_mem_nil,or_false] at hg
   rcases hg with rfl|rfl<;>(simp [NK,aB,List.lookup] at A B ⊢; omega)
 ·intro g hg; simp only [er,List.not_mem_nil,or_false] at hg; rcases hg with rfl|rfl<;>decide
theorem MG:cw ab 0 2 ⟨2590,2599⟩=[2]:=by
 unfold cw
 rw [if_pos CF,uS.1,show aF (jt ab 0 2 ⟨2590,2599⟩)=NK from Kc]
 simp only [E_]
 rw [show di (NW.map (·.1))=[0,1,2] from u6 (n:=3) dc]
 decide
end
section
open Go.RowKit
section
variable {E:fg} {ops:Array Oper} {Q:c_} {rest:List Oper} {D:List Deferred} {L:List (Nat×Value)} {C C1:List av}
theorem wq (X:List av) (ix:List Nat) (hn:decide ix.Nodup=true) (hC:oW C ix=some (X++C1)) (h:RJ E ops Q rest D L (bq X::C1)):RJ E ops Q rest D L C:=fun a w hf hs=>h a w hf (St.tied (St.kd _ hn (jy hC) hs))
end
theorem pW {E:fg} {ops:Array Oper} {Q:c_} {rest:List Oper} {D:List Deferred} {L:List (Nat×Value)} {C C1:List av} (ix:List Nat) (hn:decide ix.Nodup=true) (hC:oW C ix=some C1) (h:RJ E ops Q rest D L C1):RJ E ops Q rest D L C:=fun a w hf hs=>h a w hf (St.kd _ hn (jy hC) hs)
theorem oT {M A B:Type} {f:M→A→List B} {n:Nat} (h: ∀ m a,(f m a).length=n): ∀ {ms:List M} {asl:List A},∀ x∈List.zipWith f ms asl,x.length=n
 |[],asl,x,hx=>by simp at hx
 |m::ms,[],x,hx=>by simp at hx
 |m::ms,a::asl,x,hx=>by
  rw [List.zipWith_cons_cons] at hx
  rcases List.mem_cons.1 hx with rfl|hx
  ·exact h m a
  ·exact oT h x hx
theorem FV (m:ax) (a:RA):(ax.cells m a).length=7:=rfl
theorem Lh (m:List ax) (a:cS):(cJ m a).length=1:=rfl
theorem IP (m:List Int) (a:RA):(j5 m a).length=1:=rfl
def SM:List ax:=[⟨false,false,dA,mw⟩,Bf 2600 2600,Bf 2580 2609]
def Sm:List ax:=[Bf 2555 2559,Bf 2540 2549,Bf 2570 2575]
theorem H8 {p q s t u v x y:RA}:sO ab.ar [(p,[s,t,u]),(q,[v,x,y])]:=⟨rfl,fun k h a hk ha=>by
 match k with
 |0=>simp [ab] at hk ha; subst hk; subst ha; rfl
 |1=>simp [ab] at hk ha; subst hk; subst ha; rfl
 |n+2=>simp at ha⟩
theorem Pb {bz:List RA} {hz:List cS} (h:eB mH bz) (hh:sO ab.ar hz):fm ab bz hz:=⟨h,dc,dc,dc,hh.1,fun k x a hx ha=>by
 have hm:=aU hx
 have hs:=hh.2 k x a hx ha
 simp only [ab,er,List.not_mem_nil,or_false] at hm
 rcases hm with rfl|rfl
 ·exact ⟨dc,hs,dc⟩
 ·exact ⟨dc,hs,dc⟩⟩
end
section
open Go.RowKit
def pB (b:Bool):List Value:=[.bool b]
@[simp] theorem An (b:Bool):(pB b).length=1:=rfl
theorem F8 (l:List Bool): ∀ v∈(l.map pB).flatten,v.oneCell'=true:=lZ (fun s=>rfl) l
end
section
def lz (r:cm) (i:Nat):Prop:= ∀ (j:Nat) x,j<i→r.ar[j]? =some x→ ¬ oH x
def mN (x:List ax) (i:Nat):Prop:= ∀ (j:Nat) d,j<i→x[j]? =some d→ ¬ 15<(d.cz.ak.length:Int)
section
variable {r:cm} {i:Nat} {x:List ax} {d:ax}
theorem B4:lz r 0:=fun j x hj=>absurd hj (Nat.not_lt_zero _)
theorem BQ (h:lz r i) (hx:r.ar[i]? =some x) (ho: ¬ oH x):lz r (i+1):=fun j y hj hy=>by
 rcases Nat.lt_or_ge j i with q|q
 ·exact h j y q hy
 ·obtain rfl:j=i:=by omega
  rw [hx] at hy; cases hy; exact ho
theorem B6:mN x 0:=fun j x hj=>absurd hj (Nat.not_lt_zero _)
theorem CJ (h:mN x i) (hx:x[i]? =some d) (ho: ¬ 15<(d.cz.ak.length:Int)):mN x (i+1):=fun j y hj hy=>by
 rcases Nat.lt_or_ge j i with q|q
 ·exact h j y q hy
 ·obtain rfl:j=i:=by omega
  rw [hx] at hy; cases hy; exact ho
theorem El (hl: ¬ 8<(x.length:Int)) (h:mN x i) (hi:x.length≤i): ¬ oH x:=by
 rintro (q|⟨d,hd,q⟩)
 ·exact hl q
 ·obtain ⟨j,hj⟩:=List.getElem?_of_mem hd
  exact h j d (by have:=(List.getElem?_eq_some_iff.1 hj).1; omega) hj q
theorem HH (h1: ¬ my r.ah) (h2: ¬ 8<(r.aJ.length:Int)∧ ¬ 8<(r.bB.length:Int)∧ ¬ 5<(r.ar.length:Int)) (h:lz r i) (hi:r.ar.length≤i): ¬ oo r:=by
 rintro ((q|q)|⟨x,hx,q⟩)
 ·exact h1 q
 ·omega
 ·obtain ⟨j,hj⟩:=List.getElem?_of_mem hx
  exact h j x (by have:=(List.getElem?_eq_some_iff.1 hj).1; omega) hj q
theorem pd (h:my r.ah∨8<(r.aJ.length:Int)∨8<(r.bB.length:Int)∨5<(r.ar.length:Int)):oo r:= .inl h
theorem Bg (hx:r.ar[i]? =some x) (h:8<(x.length:Int)):oo r:= .inr ⟨x,aU hx,.inl h⟩
theorem Ei {j:Nat} (hx:r.ar[i]? =some x) (hd:x[j]? =some d) (h:15<(d.cz.ak.length:Int)):oo r:= .inr ⟨x,aU hx,.inr ⟨d,aU hd,h⟩⟩
end
noncomputable def oU (l:bf) (d:ax):aa:=if d.Out=true then dA else dC l d
theorem IK {l:bf} {d:ax} (h:hU l d):oU l d=dC l d:=by
 unfold oU
 split
 ·rename_i q
  rw [Fj q]
  rw [qy q] at h
  exact h.2.1.symm
 ·rfl
theorem zu {l:bf} {d:ax} (h:d.Out=true):oU l d=dA:=if_pos h
theorem E9 {l:bf} {d:ax} (h:d.Out=false∧d.eK=true):oU l d=d.Time:=by unfold oU; rw [if_neg (by rw [h.1]; decide),zF h]
theorem FL {l:bf} {d:ax} (h:d.Out=false∧d.eK=false):oU l d=zY l d.cz:=by unfold oU; rw [if_neg (by rw [h.1]; decide),vz h]
def QZ (r:cm) (j:Nat):Prop:= ∀ x,r.aJ[j]? =some x→(0≤x∧x≤9999)∧ ∀ y,0<j→r.aJ[j-1]? =some y→y<x
def It (r:cm) (j:Nat):Prop:= ∀ x,r.bB[j]? =some x→(0≤x∧x≤(r.aJ.length:Int)-1)∧ ∀ (k:Nat) y,k<j→r.bB[k]? =some y→y≠x
def wN (r:cm) (i:Nat):Prop:= ∀ j,j<i→QZ r j∧It r j
section
variable {r:cm} {i k:Nat} {x:Int}
theorem KC:wN r 0:=fun j hj=>absurd hj (Nat.not_lt_zero _)
theorem Bb (h:wN r i) (h1:QZ r i) (h2:It r i):wN r (i+1):=fun j hj=>by
 rcases Nat.lt_or_ge j i with q|q
 ·exact h j q
 ·obtain rfl:j=i:=by omega
  exact ⟨h1,h2⟩
theorem xb {l:List Int} {u v:Int} (h: ∀ (q:Nat) y,q<k→l[q]? =some y→y≠v) (hx:l[k]? =some u) (hne: ¬ u=v): ∀ (q:Nat) y,q<k+1→l[q]? =some y→y≠v:=fun q y hq hy=>by
 rcases Nat.lt_or_ge q k with c|c
 ·exact h q y c hy
 ·obtain rfl:q=k:=by omega
  rw [hx] at hy; cases hy; exact hne
theorem Jy (hl:r.bB.length=r.aJ.length) (h:wN r r.aJ.length):r.bB.Perm (GW r.aJ.length):=by
 have nd:r.bB.Nodup:=by
  rw [List.nodup_iff_pairwise_ne,nY]
  intro a b ha hb A
  exact ((h b om).2 _ (e8 hb)).2 a _ A (e8 ha)
 have hm: ∀ x∈r.bB,x∈GW r.aJ.length:=fun x hx=>by
  obtain ⟨j,hj⟩:=List.getElem?_of_mem hx
  have:=((h j (by have:=(List.getElem?_eq_some_iff.1 hj).1; omega)).2 x hj).1
  exact List.mem_map.2 ⟨x.toNat,List.mem_range.2 om,om⟩
 have ndu:(GW r.aJ.length).Nodup:=by
  unfold GW
  rw [List.nodup_iff_pairwise_ne,List.pairwise_map]
  exact List.pairwise_lt_range.imp fun h=>by omega
 have e:di r.bB=(GW r.aJ.length).filter fun x=>decide (x∈r.bB):=by
  refine qJ kZ ((vQ _).filter _) (fE.nodup_iff.2 nd) (ndu.filter _) fun x=>?_
  rw [fE.mem_iff,List.mem_filter,decide_eq_true_eq]
  exact ⟨fun q=>⟨hm x q,q⟩,fun q=>q.2⟩
 have B:=congrArg List.length e
 rw [gp,hl] at B
 have C:(GW r.aJ.length).filter (fun x=>decide (x∈r.bB))=GW r.aJ.length:=List.filter_sublist.eq_of_length (by rw [← B]; simp)
 rw [C] at e
 rw [← e]; exact fE.symm
theorem HJ {n:Nat} (h1:1≤(r.aJ.length:Int)∧(r.aJ.length:Int)≤5) (h2:r.bB.length=r.aJ.length) (h3:0≤r.dW∧r.dW≤5) (h4:1≤(r.ar.length:Int)∧(r.ar.length:Int)≤3)
 (hn:n=r.aJ.length) (h6:wN r n) (h7:jX r i) (hi:r.ar.length≤i):eV r:=by
 subst hn
 refine ⟨h1,h3,h4,fun k x hx=>(h6 k (List.getElem?_eq_some_iff.1 hx).1).1 x hx,Jy h2 h6,fun h hh=>?_⟩
 obtain ⟨j,hj⟩:=List.getElem?_of_mem hh
 exact h7 j h (by have:=(List.getElem?_eq_some_iff.1 hj).1; omega) hj
theorem eV.K7 (h:eV r) (hx:r.bB[i]? =some x):0≤x∧x≤(r.aJ.length:Int)-1:=by
 obtain ⟨k,hk,rfl⟩:=List.mem_map.1 (h.draw.mem_iff.1 (aU hx))
 have:=List.mem_range.1 hk
 omega
theorem eV.PE (h:eV r):r.bB.Nodup:=by
 refine h.draw.nodup_iff.2 ?_
 rw [List.nodup_iff_pairwise_ne,List.pairwise_map]
 exact List.pairwise_lt_range.imp fun h=>by omega
theorem eV.Ps (h:eV r) {u v:Int} (hki:k<i) (hu:r.bB[k]? =some u) (hv:r.bB[i]? =some v): ¬ u=v:=by
 have A:=h.PE
 rw [List.nodup_iff_pairwise_ne,nY] at A
 obtain ⟨a,ea⟩:=List.getElem?_eq_some_iff.1 hu
 obtain ⟨b,eb⟩:=List.getElem?_eq_some_iff.1 hv
 subst ea eb
 exact A k i a b hki
end
section
variable {r:cm} {i k n:Nat} {s:aa} {l:bf} {hs:List (List ax)}
end
section
variable {r:cm} {i x:Int} {own s:aa} {k:Nat} {ys zs:List Int}
end
section
variable {B:List Bool} {P Q:Int→Prop} {k x:Nat} {m:g3} {i y a b:Int} {ys:List Int}
end
theorem mU {r:cm} {i:Int}:(cH r i).length≤r.aJ.length:=by
 unfold cH
 split
 ·unfold db
  refine Nat.le_trans (List.length_filter_le _ _) ?_
  rw [List.length_map,List.length_range]
  exact tD
 ·simp
end
section
theorem D1 {α:Type} {P Q:α→Bool}: ∀ {m:List α} {x:α},(∀ p∈m,P p=true→Q p=true)→x∈m→Q x=true→P x=false→m.countP P+1≤m.countP Q
 |[],x,h,hx,_,_=>by cases hx
 |y::m,x,h,hx,hq,hp=>by
  have hy:=h y cj
  have hm:=fun p q=>h p (cT _ q)
  rw [List.countP_cons,List.countP_cons]
  rcases List.mem_cons.1 hx with rfl|hx
  ·rw [if_pos hq,if_neg (by rw [hp]; decide)]
   have:=List.countP_mono_left (l:=m) (p:=P) (q:=Q) hm
   omega
  ·have:=D1 hm hx hq hp
   split
   ·rw [if_pos (hy asm)]; omega
   ·split<;>omega
theorem vE: ∀ {m:g3} {a:Int} {s:aa},m.lookup a=some s→(a,s)∈m
 |[],a,s,h=>by cases h
 |(b,u)::m,a,s,h=>by
  by_cases e:a=b
  ·subst e
   simp [List.lookup] at h; subst h; exact cj
  ·have:(a==b)=false:=by simpa using e
   simp only [List.lookup,this] at h
   exact cT _ (vE h)
theorem FJ: ∀ {m:g3} {a:Int} {s:aa},(m.map (·.1)).Nodup→(a,s)∈m→m.lookup a=some s
 |[],a,s,_,h=>by cases h
 |(b,u)::m,a,s,hn,h=>by
  rw [List.map_cons,List.nodup_cons] at hn
  rcases List.mem_cons.1 h with e|h
  ·cases e; simp [List.lookup]
  ·have e:a≠b:=fun e=>hn.1 (by rw [← e]; exact List.mem_map_of_mem (f:=(·.1)) h)
   have:(a==b)=false:=by simpa using e
   simp only [List.lookup,this]
   exact FJ hn.2 h
/-- sums, each of another sled -/
structure j7 (m:g3):Prop where
 nd:(m.map (·.1)).Nodup
 le: ∀ p∈m,p.2.Lo≤p.2.Hi
theorem No {r:cm} (h:bX r=0):j7 (aF r):=⟨rW,fun p hp=>(m_ h p hp).2.1⟩
section
variable {m:g3} {a b i n:Int} {s t own:aa}
theorem j7.at (h:j7 m) (hs:m.lookup a=some s):s.Lo≤s.Hi:=h.le _ (vE hs)
theorem j7.one (h:j7 m) (hs:m.lookup a=some s) {p:Int×aa} (hp:p∈m) (e:p.1=a):p.2=s:=by
 obtain ⟨x,y⟩:=p
 cases e
 have:=FJ h.nd hp
 rw [hs] at this; cases this; rfl
theorem j7.sm (h:j7 m):gH m i n≤jo m i n:=by
 rw [kR,mY]
 refine List.countP_mono_left fun p hp q=>?_
 have:=h.le p hp
 simp only [cP,decide_eq_true_eq] at q ⊢
 exact ⟨om,q.2⟩
theorem Cj:(db m i own).Pairwise (· < ·):=by
 unfold db
 refine List.Pairwise.filter _ ?_
 rw [List.pairwise_map]
 exact List.pairwise_lt_range.imp fun h=>by omega
theorem u0 (h:j7 m) (hs:m.lookup i=some s):(gH m i s.Lo:Int)+1∈db m i s:=by
 have A:=h.at hs
 have B:=h.sm (i:=i) (n:=s.Lo)
 exact (qD (by rw [hs]; simp)).2 ((qv A).2 ⟨s.Lo,Int.le_refl _,A,Int.le_refl _,om⟩)
theorem Dx (h:j7 m) (hs:m.lookup i=some s):(jo m i s.Hi:Int)+1∈db m i s:=by
 have A:=h.at hs
 have B:=h.sm (i:=i) (n:=s.Hi)
 exact (qD (by rw [hs]; simp)).2 ((qv A).2 ⟨s.Hi,A,Int.le_refl _,om,Int.le_refl _⟩)
theorem xp (h:j7 m) (hs:m.lookup i=some s):db m i s≠[]:=fun e=>by have:=u0 h hs; rw [e] at this; cases this
theorem BR (h:j7 m) (hs:m.lookup i=some s) {x:Int} (hx:x∈db m i s):(gH m i s.Lo:Int)+1≤x∧x≤(jo m i s.Hi:Int)+1:=by
 obtain ⟨y,A,B,C,D⟩:=(qv (h.at hs)).1 ((qD (by rw [hs]; simp)).1 hx)
 have:=F5 (m:=m) (i:=i) A
 have:=H7 (m:=m) (i:=i) B
 omega
theorem Jt {l:List Int} {x y:Int} (h:l.Pairwise (· < ·)) (hx:l[0]? =some x) (hy:y∈l):x≤y:=by
 cases l with
 |nil=>cases hy
 |cons z l=>
  simp at hx; subst hx
  rcases List.mem_cons.1 hy with rfl|hy
  ·exact Int.le_refl _
  ·exact Int.le_of_lt ((List.pairwise_cons.1 h).1 y hy)
theorem MO {l:List Int} {x y:Int} (h:l.Pairwise (· < ·)) (hx:l[l.length-1]? =some x) (hy:y∈l):y≤x:=by
 obtain ⟨k,hk,rfl⟩:=List.mem_iff_getElem.1 hy
 obtain ⟨hl,rfl⟩:=List.getElem?_eq_some_iff.1 hx
 rcases Nat.lt_or_ge k (l.length-1) with c|c
 ·exact Int.le_of_lt (List.pairwise_iff_getElem.1 h k (l.length-1) hk hl c)
 ·have:k=l.length-1:=by omega
  subst this; exact Int.le_refl _
theorem xz (h:j7 m) (hs:m.lookup i=some s) {x:Int} (hx:(db m i s)[0]? =some x):x=(gH m i s.Lo:Int)+1:=by
 have A:=Jt Cj hx (u0 h hs)
 have B:=(BR h hs (aU hx)).1
 omega
theorem yE (h:j7 m) (hs:m.lookup i=some s) {x:Int} (hx:(db m i s)[(db m i s).length-1]? =some x):x=(jo m i s.Hi:Int)+1:=by
 have A:=MO Cj hx (Dx h hs)
 have B:=(BR h hs (aU hx)).2
 omega
/-- who is surely before has a lesser rank, at the least and at the most -/
theorem CB (h:j7 m) (hs:m.lookup a=some s) (ht:m.lookup b=some t) (hab:a≠b) (hl:s.Hi<t.Lo):gH m a s.Lo+1≤gH m b t.Lo∧jo m a s.Hi+1≤jo m b t.Hi:=by
 have A:=h.at hs
 have B:=h.at ht
 constructor
 ·rw [kR,kR]
  refine D1 (x:=(a,s)) (fun p hp q=>?_) (vE hs) ?_ ?_
  ·simp only [cP,decide_eq_true_eq,Bool.not_eq_true',decide_eq_false_iff_not] at q ⊢
   exact ⟨om,fun e=>by have:=h.one ht hp e; rw [this] at q; omega⟩
  ·simp only [cP,decide_eq_true_eq,Bool.not_eq_true',decide_eq_false_iff_not]; exact ⟨hl,hab⟩
  ·simp
 ·rw [mY,mY]
  refine D1 (x:=(a,s)) (fun p hp q=>?_) (vE hs) ?_ ?_
  ·simp only [cP,decide_eq_true_eq,Bool.not_eq_true',decide_eq_false_iff_not] at q ⊢
   exact ⟨om,fun e=>by have:=h.one ht hp e; rw [this] at q; omega⟩
  ·simp only [cP,decide_eq_true_eq,Bool.not_eq_true',decide_eq_false_iff_not]; exact ⟨om,hab⟩
  ·simp
/-- who is surely tied has the same ranks -/
theorem Hl (h:j7 m) (hs:m.lookup a=some s) (ht:m.lookup b=some s) (he:s.Lo=s.Hi):db m a s=db m b s:=by
 have C:gH m a s.Lo=gH m b s.Lo:=by
  rw [kR,kR]
  apply List.countP_congr
  intro p hp
  simp only [cP,decide_eq_true_eq,Bool.not_eq_true',decide_eq_false_iff_not]
  exact ⟨fun q=>⟨q.1,fun e=>by have:=h.one ht hp e; rw [this] at q; omega⟩,fun q=>⟨q.1,fun e=>by have:=h.one hs hp e; rw [this] at q; omega⟩⟩
 have D:jo m a s.Lo=jo m b s.Lo:=by
  rw [mY,mY]
  apply List.countP_congr
  intro p hp
  simp only [cP,decide_eq_true_eq,Bool.not_eq_true',decide_eq_false_iff_not]
  exact ⟨fun q=>⟨q.1,fun e=>by have:=h.one ht hp e; rw [this] at q; omega⟩,fun q=>⟨q.1,fun e=>by have:=h.one hs hp e; rw [this] at q; omega⟩⟩
 unfold db
 congr 1
 funext k
 rw [QI,qv (h.at hs),qv (h.at hs)]
 constructor<;>rintro ⟨x,A,B,E,F⟩<;>(have:x=s.Lo:=by omega)<;>subst this<;>exact ⟨s.Lo,A,B,om,om⟩
end
section
variable {r:cm} {a b i:Int} {s t:aa}
theorem tv:j_ r a b=j_ r b a:=by
 unfold j_
 by_cases h:bX r=0
 ·rw [if_pos h,if_pos h]
  by_cases c:pQ r a∧pQ r b∧a≠b
  ·rw [if_pos c,if_pos (show pQ r b∧pQ r a∧b≠a from ⟨c.2.1,c.1,fun e=>c.2.2 e.symm⟩)]
   by_cases d:(aF r).lookup a=none∨(aF r).lookup b=none
   ·rw [if_pos d,if_pos d.symm]
   ·rw [if_neg d,if_neg fun q=>d q.symm]
  ·rw [if_neg c,if_neg fun q=>c ⟨q.2.1,q.1,fun e=>q.2.2 e.symm⟩]
 ·rw [if_neg h,if_neg h]
theorem C9:nA s t=nA t s:=by
 unfold nA
 by_cases e:s=t
 ·subst e; rfl
 ·rw [if_neg (fun q:s=t∧s.Lo=s.Hi=>e q.1),if_neg (fun q:t=s∧t.Lo=t.Hi=>e q.1.symm)]
  by_cases c:s.Lo≤t.Hi∧t.Lo≤s.Hi
  ·rw [if_pos c,if_pos ⟨c.2,c.1⟩]
  ·rw [if_neg c,if_neg fun q=>c ⟨q.2,q.1⟩]
theorem Gp:l6 r a b=l6 r b a:=by unfold l6; rw [tv (a:=a),C9]
theorem KI (h:bX r=0):j_ r a a=2:=by unfold j_; rw [if_pos h,if_neg fun q=>q.2.2 rfl]
theorem ib (h:bX r=0) (ha:pQ r a) (hb:pQ r b):j_ r a b=0∨(j_ r a b=2∧a=b)∨j_ r a b=6:=by
 unfold j_
 rw [if_pos h]
 by_cases c:a=b
 ·rw [if_neg fun q=>q.2.2 c]; exact .inr (.inl ⟨rfl,c⟩)
 ·rw [if_pos ⟨ha,hb,c⟩]; split
  ·exact .inr (.inr U)
  ·exact .inl U
/-- what is known of two sleds that have sums -/
structure sV (r:cm) (a b:Int) (s t:aa):Prop where
 ne:a≠b
 sS:j7 (aF r)
 sa:(aF r).lookup a=some s
 sb:(aF r).lookup b=some t
 ea:kG r a=0
 eb:kG r b=0
 va:pP r a=s
 vb:pP r b=t
 ra:cH r a=db (aF r) a s
 rb:cH r b=db (aF r) b t
 Uo:pS r a b=wv s t
 Oi:pS r b a=wv t s
 tied:l6 r a b=nA s t
theorem EY (he:bX r=0) (hi:pQ r i) (hl:(aF r).lookup i=some s):kG r i=0∧pP r i=s∧cH r i=db (aF r) i s:=by
 have h:kG r i=0:=by unfold kG; rw [if_pos he,if_pos hi,hl]; rfl
 have A:aB (aF r) i=s:=by unfold aB; rw [hl]; rfl
 exact ⟨h,by unfold pP; rw [if_pos h,A],by rw [yp h,A]⟩
theorem P2 (h:j_ r a b=0): ∃ s t,sV r a b s t:=by
 obtain ⟨he,⟨ha,hb,hn⟩,E,F⟩:=tS h
 obtain ⟨s,hs⟩:=Option.ne_none_iff_exists'.1 E
 obtain ⟨t,ht⟩:=Option.ne_none_iff_exists'.1 F
 have A:=EY he ha hs
 have B:=EY he hb ht
 have C:aB (aF r) a=s:=by unfold aB; rw [hs]; rfl
 have D:aB (aF r) b=t:=by unfold aB; rw [ht]; rfl
 exact ⟨s,t,hn,No he,hs,ht,A.1,B.1,A.2.1,B.2.1,A.2.2,B.2.2,by unfold pS; rw [if_pos h,C,D],by unfold pS; rw [if_pos (tv.trans h),C,D],by unfold l6; rw [if_pos h,C,D]⟩
theorem sV.full (h:sV r a b s t):cH r a≠[]∧cH r b≠[]:=⟨by rw [h.ra]; exact xp h.sS h.sa,by rw [h.rb]; exact xp h.sS h.sb⟩
theorem sV.tie (h:sV r a b s t) (e:l6 r a b=2):s=t∧s.Lo=s.Hi∧cH r a=cH r b∧pS r a b=0∧pS r b a=0:=by
 rw [h.tied] at e
 unfold nA at e
 split at e
 ·rename_i q
  obtain ⟨rfl,q⟩:=q
  have hb:wv s s=0:=by unfold wv; rw [if_neg om,if_neg om]
  exact ⟨U,q,by rw [h.ra,h.rb,Hl h.sS h.sa h.sb q],h.Uo.trans hb,h.Oi.trans hb⟩
 ·split at e<;>cases e
theorem sV.before (h:sV r a b s t) (e:pS r a b=2):pS r b a=0∧l6 r a b=0∧(∀ x y,(cH r a)[0]? =some x→(cH r b)[0]? =some y→x<y)∧ ∀ x y,(cH r a)[(cH r a).length-1]? =some x→(cH r b)[(cH r b).length-1]? =some y→x<y:=by
 have A:=h.sS.at h.sa
 have B:=h.sS.at h.sb
 rw [h.Uo] at e
 have hl:s.Hi<t.Lo:=by
  unfold wv at e
  split at e
  ·assumption
  ·split at e<;>cases e
 have hc:=CB h.sS h.sa h.sb h.ne hl
 refine ⟨h.Oi.trans (by unfold wv; rw [if_neg om,if_neg om]),h.tied.trans (by unfold nA; rw [if_neg fun q=>by have:=q.1; subst this; omega,if_neg om]),fun x y hx hy=>?_,fun x y hx hy=>?_⟩
 ·rw [h.ra] at hx; rw [h.rb] at hy
  have:=xz h.sS h.sa hx
  have:=xz h.sS h.sb hy
  omega
 ·rw [h.ra] at hx; rw [h.rb] at hy
  have:=yE h.sS h.sa hx
  have:=yE h.sS h.sb hy
  omega
theorem sV.even (h:sV r a b s t) (e1:pS r a b=0) (e2:pS r b a=0):l6 r a b=2:=by
 have A:=h.sS.at h.sa
 have B:=h.sS.at h.sb
 rw [h.Uo] at e1; rw [h.Oi] at e2; rw [h.tied]
 unfold wv at e1 e2
 split at e1
 ·cases e1
 ·split at e1
  ·cases e1
  ·split at e2
   ·cases e2
   ·split at e2
    ·cases e2
    ·unfold nA
     exact if_pos ⟨aa.ext om om,om⟩
end
end
section
open Go.RowKit
section
variable {P:Program} {t:TypeId} {x y:Operand}
theorem p5 {e:TypeId} {a:OA} {n c:Nat} (ht:P.underlying t=some (.slice e)):g9 P .eql t x y (.slice a n c) (.slice none 0 0) (.bool (decide (a=none))):=fun w=>by
 have A:(Op.equal t (.slice a n c) (.slice none 0 0)).run P w= .ok (decide (a=none)) w:=by
  unfold Op.equal
  show (Op.equalIn (9999+1) t (.slice a n c) (.slice none 0 0)).run P w=_
  unfold Op.equalIn
  cases a<;>simp [run_underlying ht]
 have B:eqGuard .eql t x y (.slice a n c) (.slice none 0 0)=pure ():=rfl
 rw [B]
 show (Sem.run P (do let b ← Op.equal t (.slice a n c) (.slice none 0 0); pure (vB b)) w)=_
 simp [A]
end
section
variable {E:fg} {ops:Array Oper} {Q:c_} {rest:List Oper} {D:List Deferred} {L:List (Nat×Value)} {C:List av}
variable {dst:Option Tmp} {d:Nat} {ty:TypeId} {ps:String} {af:Array Edge} {g:Option (Nat×Bool)}
/-- a row that lies nowhere is empty -/
theorem lX {a:OA} {n sz:Nat} {es:List (List Value)} (hR:iU C (rd a n sz es).holds) (ha:a=none) (hz:0<sz) (k:es=[]→RJ E ops Q rest D L C):RJ E ops Q rest D L C:=fun act w hf hs=>by
 refine k ?_ act w hf hs
 obtain ⟨F,G,B⟩:=hs.has hR
 rcases Nat.eq_zero_or_pos (n*sz) with h|h
 ·have:n=0:=by
   rcases Nat.mul_eq_zero.1 h with h|h
   ·exact h
   ·omega
  exact jv om
 ·obtain ⟨ad,A,_⟩:=B h
  rw [ha] at A; cases A
theorem Ig {a:OA} {c e sz:Nat} {es:List (List Value)} (i:Nat) (hC:C[i]? =some (own a c e sz es)) (k:es.length≤c→RJ E ops Q rest D L C):RJ E ops Q rest D L C:=fun act w hf hs=>
 k (FZ (hs.holds _ (aU hC))) act w hf hs
theorem kU {A:av} (i:Nat) (h:C[i]? =some A.ro):iU C A.holds:=fun w hw=>by
 have B:=hw A.ro (aU h)
 exact B
/-- the end of a row is set to zero: it is no more of it -/
theorem NF {x:Operand} {t e sz by_ k n c c':Nat} {z:Value} {a:OA} {es:List (List Value)} (i:Nat) (hg:jq ops L g=true) (hx:ev L x=some (.slice (zT a c k sz) (n-k) c')) (ht:tA E.P t=some (e,sz,by_,z)) (hz1: ∀ v∈z.cells.toList,v.oneCell'=true)
 (hC:C[i]? =some (own a c e sz es)) (hn:n=es.length) (hk:k≤n) (K:RJ E ops Q rest D L (C.set i (own a c e sz (es.take k)))):
 RJ E ops Q (⟨none,.call {callee:= .builtin .clear,args:= #[x],argTypes:= #[t]},ty,ps,af,g⟩::rest) D L C:=by
 intro act w A F
 obtain ⟨inf,hu,hi,f,h3,h4,s⟩:=Ek ht
 unfold re
 rw [if_pos (dU A hg)]
 subst hn
 obtain ⟨W,N⟩:(own a c e sz es).holds w:=F.holds _ (aU hC)
 have B: ∀ y∈es.take k,y.length=sz:=fun y hy=>W y (List.mem_of_mem_take hy)
 have V:(es.take k).flatten=es.flatten.take (k*sz):=by
  have h:=List.take_append_drop k es
  have l:es.flatten=(es.take k).flatten++(es.drop k).flatten:=by rw [← List.flatten_append,h]
  have m:(es.take k).flatten.length=k*sz:=by rw [iq B,List.length_take]; congr 1; omega
  rw [l,← m,List.take_left]
 by_cases r:es.length-k=0
 ·have AC:es.take k=es:=List.take_of_length_le om
  refine gM sm (w':=w) (v:= .tuple #[]) ?_ ?_
  ·rw [r] at hx
   cases hs:zT a c k sz with
   |none=>rw [hs] at hx; simp [execOp,resolve,invoke,builtin,Builtin.clear_,A.ev hx,run_underlying hu]
   |some q=>rw [hs] at hx; simp [execOp,resolve,invoke,builtin,Builtin.clear_,A.ev hx,run_underlying hu]
  ·rw [AC] at K
   exact K _ _ A (by
    have:C.set i (own a c e sz es)=C:=by
     apply List.ext_getElem?
     intro q
     rw [List.getElem?_set]
     by_cases j:i=q
     ·subst j; rw [if_pos rfl,if_pos (List.getElem?_eq_some_iff.1 hC).1,hC]
     ·rw [if_neg j]
    rw [this]; exact F)
 ·rcases N.2 with ⟨l,m⟩|⟨gg,cap,cur,hv,AA,M,Y,T,J,G⟩
  ·omega
  ·injection hv with Z AB d
   subst Z d
   have R:zT (some (⟨gg,0,none⟩:Addr)) c k sz=some ⟨gg,k*sz,none⟩:=by
    unfold zT; rw [if_neg om]; simp [Addr.add_lit]
   rw [R] at hx
   have H:(Builtin.zeroCells z.cells (es.length-k)).toList.length=(es.length-k)*sz:=by
    rw [Array.length_toList,size_zeroCells,s]
   have p:k*sz+(es.length-k)*sz=es.length*sz:=by rw [← Nat.add_mul]; congr 1; omega
   have o:es.length*sz≤cur.size:=by rw [J]; exact Nat.mul_le_mul_right _ Y
   have h1': ∀ v∈(Builtin.zeroCells z.cells (es.length-k)).toList,v.oneCell'=true:=fun v hv=>by
    refine hz1 v ?_
    simp [Builtin.zeroCells] at hv
    obtain ⟨q,hq,hv⟩:=hv
    have O:0<z.cells.size:=by
     rcases Nat.eq_zero_or_pos z.cells.size with AD|AD
     ·rw [AD] at hq; simp at hq
     ·exact AD
    have X:q % z.cells.size<z.cells.size:=Nat.mod_lt _ O
    rw [getElem!_pos z.cells _ X] at hv
    rw [← hv]; simp
   have hst':=run_storeCells_at E.P gg (k*sz) e (Builtin.zeroCells z.cells (es.length-k)).toList 0 cur w M (by rw [H]; omega) h1'
   simp only [Nat.add_zero] at hst'
   obtain ⟨q,hq⟩: ∃ q,es.length-k=q+1:=⟨es.length-k-1,om⟩
   refine gM sm (w':=w.setRow gg (cur.toList.take (k*sz)++(Builtin.zeroCells z.cells (es.length-k)).toList++cur.toList.drop (k*sz+(Builtin.zeroCells z.cells (es.length-k)).toList.length)).toArray) (v:= .tuple #[]) ?_ ?_
   ·rw [hq] at hx hst' ⊢
    simp [execOp,resolve,invoke,builtin,Builtin.clear_,A.ev hx,run_underlying hu,zeroValue,typeInfo,hi,f,hst']
   ·refine K _ _ A ?_
    refine F.move i hC (row:=some gg) (fun b hb=>by cases hb; exact ⟨_,rfl,rfl⟩) rfl ⟨rfl,rfl,rfl,sm,fun k' _ hk'=>setRow_other w gg k' _ (fun e=>hk' (by simp [e]))⟩ (fun y hy=>by
     obtain ⟨ad,AD,rfl⟩:=hy
     cases AD; exact .inl rfl) ?_
    refine ⟨B,?_,.inr ⟨gg,c,_,U,Nat.zero_le _,setRow_heap w gg cur _ e _ M,?_,T,?_,?_⟩⟩
    ·exact iq B
    ·rw [List.length_take]; omega
    ·simp only [List.size_toArray,List.length_append,List.length_take,List.length_drop,Array.length_toList,H]
     have:=J
     simp only [Array.length_toList] at H
     omega
    ·have u:(es.take k).length*sz=k*sz:=by rw [List.length_take]; congr 1; omega
     have S:(cur.toList.take (k*sz)).length=k*sz:=by rw [List.length_take,Array.length_toList]; omega
     rw [u,V,← G,List.take_take,Nat.min_eq_left om]
     show List.take (k*sz) (_++_++_)=_
     rw [List.append_assoc,List.take_left' S]
end
end
section
open Go.RowKit
theorem oJ (n lo hi:Int):
 eg Tryz.prog 130 [(vI n),(vI lo),(vI hi)] [] (vB (decide (lo≤n∧n≤hi))):=by
 refine bI kr Tryz.func130 U U fun D Q hQ hN=>?_
 try dsimp only
 refine WS fun _ B=>bo 1 U<|RK B<|WS fun _ A=>rP 4 [] I ?_
 refine ct (t:=10) U (aP fun C=>?_) (aR fun C=>?_)
 ·refine rP 5 [] I ?_
  refine RK A<|aq<|Q1 hQ U U U ?_
  exact cB (decide_eq_decide.2 om)
 refine rP 5 [] I ?_
 refine RK A<|aq<|Q1 hQ U U U ?_
 exact cB (cq om).symm
theorem o1 (s:aa) (lo hi:Int):
 eg Tryz.prog 131 [(vA (aa.cells s)),(vI lo),(vI hi)] [] (vB (decide (s.Lo≤s.Hi∧lo≤s.Lo∧s.Hi≤hi))):=by
 refine bI kr Tryz.func131 U U fun E Q hQ hN=>?_
 try dsimp only
 refine WS fun _ B=>fR U fun D=>bo 1 U<|RK B<|WS fun _ A=>fD 5 [] (mc 0 U I) U<|rS (CL (oJ s.Lo lo s.Hi) (aK) U)<|rP 1 [] I ?_
 refine ck (t:=13) U (aR fun C=>?_) (aP fun C=>?_)
 ·refine rP 6 [] I ?_
  refine RK A<|aq<|Q1 hQ U U U ?_
  exact cB (cq om).symm
 refine rP 6 [] (mc 0 U I) ?_
 refine RK A<|aq<|Q1 hQ U U U ?_
 exact cB (decide_eq_decide.2 om)
theorem Mm (t:List an) (tA:OA) (tC:Nat):
 eg Tryz.prog 71 [(vA (aZ.cells (aZ.mk (aN.mk tA t.length tC))))] [(rd tA t.length 9 (t.map an.cells))] (vB (decide (20<(t.length:Int)))):=by
 refine bI kr Tryz.func71 U U fun D Q hQ hN=>?_
 try dsimp only
 refine WS fun _ A=>fR U fun C=>bo 1 U<|RK A<|WS fun _ B=>rP 5 [] (mc 0 U I) ?_
 refine RK B<|aq ?_
 exact Q1 hQ U U U U
theorem NV (l:List Int) (lA:OA) (lC:Nat) (f:Value) (p:Int→Bool) (X:av) (hf: ∀ x0,x0∈l→D9 Tryz.prog f [.int .i64 x0] [X] (.bool (p x0))) (hlen:l.length≤1000000):
 eg Tryz.prog 80 [(vS lA l.length lC),f] [(rd lA l.length 1 (l.map iC)),X] (vI (sw p l)):=by
 refine bI kr Tryz.func80 U U fun R Q hQ hN=>?_
 try dsimp only
 refine WS fun _ G=>bo 1 U<|RK G<|al fun _ H=>WS fun _ AA=>rP 3 [] I ?_
 refine RK AA<|ay ?_
 have B:(0≤l.length)∧((l.take 0).any p=false):=by simp
 refine bS (ι:={z:Nat // (z≤l.length)∧((l.take z).any p=false)}) [0,1,7] [0,1] U U (fun z=>[(8,(vI (z.1:Int)))]) (fun z=>[]) (fun _=>rfl) (fun _=>rfl) (fun z=>l.length-z.1) ⟨0,B⟩ (aV U) (aL [0,1]) ?_
 clear B
 rintro ⟨i,⟨N,A⟩⟩ J4 F
 try dsimp only
 refine WS fun _ J=>rP 1 [] I ?_
 refine RK J<|al fun _ K=>bV U (aR fun P=>?_) (aP fun P=>?_)
 ·refine bE<|ag<|ag<|aA<|KK H<|WS fun _ E=>rP 1 [] I ?_
  refine RK E<|aq<|Q1 hQ U U U ?_
  exact cI (rM om A).symm
 refine WK K<|al fun _ L=>ay<|WS fun _ M=>bo 2 U<|RK M<|WS fun _ C=>rP 3 [] I ?_
 obtain ⟨x,hx⟩:=aM l i om
 have O:=bL iC hx
 refine rS (IA i U (aD 0 U) cx dc om om)<|rS (fY i 0 (vI x) U cd (aD 0 U) O U dc U)<|rS (SX (rF U U U (hf x (aU hx)) (bp [1])) U U)<|RK C<|cO U (fun hp=>?_) (fun hp=>?_)
 ·refine WS fun _ D=>rP 2 [] I ?_
  refine RK D<|aq<|Q1 hQ U U U ?_
  exact cI (xq hx hp A).symm
 refine cp<|aH<|KK L<|ao<|rP 2 [] I ?_
 refine aG ?_
 refine aW (F ⟨(i+1),⟨om,vO hx A hp⟩⟩ _ _ _ U os (aV U) (aL [0,1]))
theorem rY (l:List Int) (lA:OA) (lC:Nat) (f:Value) (p:Int→Bool) (X:av) (hf: ∀ x0,x0∈l→D9 Tryz.prog f [.int .i64 x0] [X] (.bool (p x0))) (hlen:l.length≤1000000):
 eg Tryz.prog 54 [(vS lA l.length lC),f] [(rd lA l.length 1 (l.map iC)),X] (vB (l.any p)):=by
 refine bI kr Tryz.func54 U U fun C Q hQ hN=>?_
 try dsimp only
 refine WS fun _ A=>bo 1 U<|RK A<|WS fun _ B=>bo 2 U<|rS (CL (NV l lA lC f p X (by exact hf) hlen) (bp [0,1]) U)<|rP 2 [] I ?_
 refine RK B<|aq<|Q1 hQ U U U ?_
 exact cB tx
theorem GM (n lo hi:Int) (g1 g2:Nat):
 eg Tryz.prog 139 [(vI n),(vP g1),(vP g2)] [(bY g1 3 [(vI lo)]),(bY g2 3 [(vI hi)])] (vB (decide (n<lo∨hi<n))):=by
 refine bI kr Tryz.func139 U U fun D Q hQ hN=>?_
 try dsimp only
 refine WS fun _ B=>bo 1 U<|RK B<|WS fun _ A=>rP 4 [] (mr 0 U I) ?_
 refine ct (t:=8) U (aP fun C=>?_) (aR fun C=>?_)
 ·refine rP 5 [] I ?_
  refine RK A<|aq<|Q1 hQ U U U ?_
  exact cB (dw om).symm
 refine rP 5 [] (mr 1 U I) ?_
 refine RK A<|aq<|Q1 hQ U U U ?_
 exact cB (decide_eq_decide.2 om)
theorem oL (lo hi:Int) (l:List Int) (lA:OA) (lC:Nat) (hlen:l.length≤1000000):
 eg Tryz.prog 108 [(vI lo),(vI hi),(vS lA l.length lC)] [(rd lA l.length 1 (l.map iC))] (vB (pC lo hi l)):=by
 refine bI kr Tryz.func108 U U fun F Q hQ hN=>?_
 try dsimp only
 refine WS fun _ D=>uh U U fun A=>uh U U fun B=>bo 1 U<|RK D<|WS fun _ E=>rP 1 [] I ?_
 refine rS (FU U) ?_
 refine rS (CL (rY l lA lC (Value.func (.func 139) [].toArray [(vP A),(vP B)].toArray) (fun C=>(decide (C<lo∨hi<C))) (e9 [(bY A 3 [(vI lo)]),(bY B 3 [(vI hi)])]) (by intro C _; exact ny (fi:=[]) (ca:=[(vP A),(vP B)]) (lU (GM C lo hi A B) (bp [0,1]))) hlen) (fG 2 U U<|aw (lW (bp [1,0]))<|aK) U) ?_
 refine rP 2 [] I ?_
 refine RK E<|aq ?_
 exact Q1 hQ U U U U
theorem vx (s:aa) (lo hi:Int):
 eg Tryz.prog 109 [(vA (aa.cells s)),(vI lo),(vI hi)] [] (vB (decide (s.Lo≤s.Hi∧lo≤s.Lo∧s.Hi≤hi))):=by
 refine bI kr Tryz.func109 U U fun F Q hQ hN=>?_
 try dsimp only
 refine WS fun _ B=>fR U fun E=>bo 1 U<|RK B<|WS fun _ A=>rP 6 [] (mc 0 U I) ?_
 refine cZ (xs:=[.tmp 10,.tmp 12]) (cs:=[(vI s.Lo),(vI s.Hi)]) U cx i_ U U U U (by simp [Value.cells]) U U fun C=>?_
 refine rS (CL (eg.eq (oL lo hi ([s.Lo,s.Hi]) (some ⟨C,0,none⟩) 2 (by (simp; done))) qN) (aw (a_ 0 U U (by simp [bK]) U)<|aK) U) ?_
 refine rP 1 [] I ?_
 refine ck (t:=15) U (aR fun D=>?_) (aP fun D=>?_)
 ·refine rP 7 [] I ?_
  refine RK A<|aq<|Q1 hQ U U U ?_
  exact cB (cq om).symm
 refine rP 7 [] (mc 1 U I) ?_
 refine RK A<|aq<|Q1 hQ U U U ?_
 exact cB (decide_eq_decide.2 om)
theorem vD (ts:List an) (tsA:OA) (tsC:Nat) (hlen:ts.length≤1000000):
 eg Tryz.prog 104 [(vA (aZ.cells (aZ.mk (aN.mk tsA ts.length tsC))))] [(rd tsA ts.length 9 (ts.map an.cells))] (vB (cV ts)):=by
 refine bI kr Tryz.func104 U U fun w0 Q hQ hN=>?_
 try dsimp only
 refine WS fun _ AZ=>fR U fun b2=>bo 1 U<|RK AZ<|al fun _ Aa=>WS fun _ Ab=>fD 3 [] (mc 0 U I) U<|rS (CL (oJ (ts.length:Int) 1 12) (aK) U)<|rP 1 [] I ?_
 refine RK Ab<|cO U (bh fun h5=>?_) (bg fun h5=>?_)
 ·refine WS fun _ Ac=>rP 1 [] I ?_
  refine RK Ac<|aq<|Q1 hQ U U U ?_
  exact cB (nW om).symm
 refine WK Aa<|al fun _ Ad=>WS fun _ Ae=>rP 1 [] I ?_
 refine RK Ae<|ay ?_
 have E:(0≤ts.length)∧(eM (-1) ts=eM (fX ts 0) (ts.drop 0))∧(-1≤fX ts 0):=by (refine ⟨om,rfl,by simp [fX]⟩)
 refine bS (ι:={z:Nat // (z≤ts.length)∧(eM (-1) ts=eM (fX ts z) (ts.drop z))∧(-1≤fX ts z)}) [1] [0,1] U U (fun z=>[(3,(vI (z.1:Int)))]) (fun z=>[]) (fun _=>rfl) (fun _=>rfl) (fun z=>ts.length-z.1) ⟨0,E⟩ (aV U) (aL [0,1]) ?_
 clear E
 rintro ⟨i,⟨Af,A,Ag⟩⟩ J9 D
 try dsimp only
 have hz:i=0→fX ts i= -1:=BV
 refine al fun _ K=>WS fun _ L=>rP 5 [] (mc 0 U I) ?_
 refine RK L<|bV U (aR fun v=>?_) (aP fun v=>?_)
 ·refine bE<|ag<|ag<|aA<|KK Ad<|WS fun _ u=>rP 1 [] I ?_
  refine RK u<|aq<|Q1 hQ U U U ?_
  exact cB (u7 A om om).symm
 refine WK K<|al fun _ C=>ay<|WS fun _ M=>rP 3 [] (mc 0 U I) ?_
 obtain ⟨x,hx⟩:=aM ts i om
 have Ah:=bL an.cells hx
 refine rS (IA i U (aD 1 U) xX dc om om)<|rS (ot i 0 (an.cells x) U cd (aD 1 U) Ah U dc U U)<|AL U Fx fun Aj=>fQ U HT U<|RK M<|al fun _ F=>al fun _ B=>dq cy 38 kr<|mu 2 [] (mc 0 U I) U<|dS (CL (oJ x.Id 0 9999) (aK) U)<|dP 2 [] I ?_
 refine gJ (t:=26) U (bh fun w=>?_) (bg fun w=>?_)
 ·refine km 11 U<|km 22 U<|cL<|RK B<|aQ U<|WS fun _ N=>rP 1 [] I ?_
  refine RK N<|aq<|Q1 hQ U U U ?_
  exact cB (dI A hx (by simp only [bP,dN]; omega)).symm
 refine dP 3 [] I ?_
 refine iw (t:=29) U (aR fun AA=>?_) (aP fun AA=>?_)
 ·refine km 8 U<|km 6 U<|dS (LP (aa.cells x.kj) 0 U cd U U U)<|dS (CL (o1 x.kj 1 30000) (aK) U)<|dP 3 [] I ?_
  refine gJ (t:=48) U (bh fun AO=>?_) (bg fun AO=>?_)
  ·refine km 11 U<|cL<|RK B<|aQ U<|WS fun _ e=>rP 1 [] I ?_
   refine RK e<|aq<|Q1 hQ U U U ?_
   exact cB (dI A hx (by simp only [bP,dN]; omega)).symm
  refine km 1 U<|dS (LP (aa.cells x.lJ) 0 U cd U U U)<|dS (CL (o1 x.lJ 0 5000) (aK) U)<|dP 3 [] I ?_
  refine gJ (t:=54) U (bh fun AP=>?_) (bg fun AP=>?_)
  ·refine km 5 U<|cL<|RK B<|aQ U<|WS fun _ f=>rP 1 [] I ?_
   refine RK f<|aq<|Q1 hQ U U U ?_
   exact cB (dI A hx (by simp only [bP,dN]; omega)).symm
  refine mu 2 [] (mc 0 U I) U<|dS (CL (oJ x.Au 0 5000) (aK) U)<|dP 2 [] I ?_
  refine cL<|RK B<|cO U (bh fun AQ=>?_) (bg fun AQ=>?_)
  ·refine WS fun _ g=>rP 1 [] I ?_
   refine RK g<|aq<|Q1 hQ U U U ?_
   exact cB (dI A hx (by simp only [bP,dN]; omega)).symm
  refine WK F<|WS fun _ h=>fD 2 [] (mc 0 U I) U<|RK h<|ay<|WS fun _ j=>rS (BI U jA)<|rP 1 [] I ?_
  refine RK j<|cO U (aP fun AR=>?_) (aR fun AR=>?_)
  ·refine WS fun _ Am=>rP 5 [] (mc 0 U I) ?_
   refine ct (t:=68) U (bh fun AS=>?_) (bg fun AS=>?_)
   ·refine bo 5 U<|RK Am<|aQ U<|WS fun _ k=>rP 1 [] I ?_
    refine RK k<|aq<|Q1 hQ U U U ?_
    exact cB (dI A hx (by simp only [bP,dN]; omega)).symm
   refine rP 5 [] (mc 0 U I) ?_
   refine RK Am<|bV U (bg fun AT=>?_) (bh fun AT=>?_)
   ·refine cp<|aH<|aH<|KK C<|ao<|rP 3 [] I ?_
    refine aG ?_
    refine aW (D ⟨(i+1),⟨om,gK A hx (by simp only [bP,dN]; omega),by rw [fV hx]; omega⟩⟩ _ _ _ U os (aV U) (aL [1,2]))
   refine WS fun _ l=>rP 1 [] I ?_
   refine RK l<|aq<|Q1 hQ U U U ?_
   exact cB (dI A hx (by simp only [bP,dN]; omega)).symm
  refine al fun _ J=>WS fun _ m=>rS (BI U jA)<|rP 1 [] I ?_
  refine RK m<|cO U (aP fun AU=>?_) (aR fun AU=>?_)
  ·refine WK J<|bV U (aR fun AV=>?_) (aP fun AV=>?_)
   ·refine WS fun _ p=>rP 1 [] I ?_
    refine RK p<|aq<|Q1 hQ U U U ?_
    exact cB (nW om).symm
   refine WS fun _ n=>bo 1 U<|rS (LP (aa.cells x.eH) 0 U cd U U U)<|rS (CL (o1 x.eH 500 20000) (aK) U)<|rP 1 [] I ?_
   refine RK n<|bV U (bg fun AW=>?_) (bh fun AW=>?_)
   ·refine cp<|aH<|aH<|KK C<|ao<|rP 3 [] I ?_
    refine aG ?_
    refine aW (D ⟨(i+1),⟨om,gK A hx (by simp only [bP,dN]; omega),by rw [fV hx]; omega⟩⟩ _ _ _ U os (aV U) (aL [1,2]))
   refine WS fun _ o=>rP 1 [] I ?_
   refine RK o<|aq<|Q1 hQ U U U ?_
   exact cB (dI A hx (by simp only [bP,dN]; omega)).symm
  refine ao<|rS (BI U jA)<|rP 1 [] I ?_
  refine RK J<|bV U (aR fun AX=>?_) (aP fun AX=>?_)
  ·refine WS fun _ s=>rP 1 [] I ?_
   refine RK s<|aq<|Q1 hQ U U U ?_
   exact cB (dI A hx (by simp only [bP,dN]; omega)).symm
  refine WS fun _ q=>bo 1 U<|rS (LP (aa.cells x.eH) 0 U cd U U U)<|rS (CL (o1 x.eH 500 20000) (aK) U)<|rP 1 [] I ?_
  refine RK q<|bV U (bg fun AY=>?_) (bh fun AY=>?_)
  ·refine cp<|aH<|aH<|KK C<|ao<|rP 3 [] I ?_
   refine aG ?_
   refine aW (D ⟨(i+1),⟨om,gK A hx (by simp only [bP,dN]; omega),by rw [fV hx]; omega⟩⟩ _ _ _ U os (aV U) (aL [1,2]))
  refine WS fun _ r=>rP 1 [] I ?_
  refine RK r<|aq<|Q1 hQ U U U ?_
  exact cB (dI A hx (by simp only [bP,dN]; omega)).symm
 refine dP 6 [0,1] (mc 0 U (mc 1 U I)) ?_
 obtain ⟨y,hy⟩:=aM ts (i-1) om
 have Ai:=bL an.cells hy
 refine dS (IA (i-1) U (aD 2 U) xX dc om om)<|dS (nH ((i-1)*9) U (aD 2 U) (Nat.mul_pos om dc) fB U) ?_
 have Al:=Et om hy
 refine dS (fY (i-1) 0 (vI y.Id) U cd (aD 2 U) Ai U dc U)<|dP 4 [] I ?_
 refine gJ (t:=42) U (aP fun AB=>?_) (aR fun AB=>?_)
 ·refine km 17 U<|cL<|RK B<|aQ U<|WS fun _ O=>rP 1 [] I ?_
  refine RK O<|aq<|Q1 hQ U U U ?_
  exact cB (dI A hx (by simp only [bP,dN]; omega)).symm
 refine km 1 U<|dS (LP (aa.cells x.kj) 0 U cd U U U)<|dS (CL (o1 x.kj 1 30000) (aK) U)<|dP 3 [] I ?_
 refine gJ (t:=48) U (bh fun AC=>?_) (bg fun AC=>?_)
 ·refine km 11 U<|cL<|RK B<|aQ U<|WS fun _ P=>rP 1 [] I ?_
  refine RK P<|aq<|Q1 hQ U U U ?_
  exact cB (dI A hx (by simp only [bP,dN]; omega)).symm
 refine km 1 U<|dS (LP (aa.cells x.lJ) 0 U cd U U U)<|dS (CL (o1 x.lJ 0 5000) (aK) U)<|dP 3 [] I ?_
 refine gJ (t:=54) U (bh fun AD=>?_) (bg fun AD=>?_)
 ·refine km 5 U<|cL<|RK B<|aQ U<|WS fun _ R=>rP 1 [] I ?_
  refine RK R<|aq<|Q1 hQ U U U ?_
  exact cB (dI A hx (by simp only [bP,dN]; omega)).symm
 refine mu 2 [] (mc 0 U I) U<|dS (CL (oJ x.Au 0 5000) (aK) U)<|dP 2 [] I ?_
 refine cL<|RK B<|cO U (bh fun AE=>?_) (bg fun AE=>?_)
 ·refine WS fun _ S=>rP 1 [] I ?_
  refine RK S<|aq<|Q1 hQ U U U ?_
  exact cB (dI A hx (by simp only [bP,dN]; omega)).symm
 refine WK F<|WS fun _ T=>fD 2 [] (mc 0 U I) U<|RK T<|ay<|WS fun _ Ak=>rS (BI U jA)<|rP 1 [] I ?_
 refine RK Ak<|cO U (aP fun AF=>?_) (aR fun AF=>?_)
 ·refine WS fun _ G=>rP 5 [] (mc 0 U I) ?_
  refine ct (t:=68) U (bh fun AG=>?_) (bg fun AG=>?_)
  ·refine bo 5 U<|RK G<|aQ U<|WS fun _ V=>rP 1 [] I ?_
   refine RK V<|aq<|Q1 hQ U U U ?_
   exact cB (dI A hx (by simp only [bP,dN]; omega)).symm
  refine rP 5 [] (mc 0 U I) ?_
  refine RK G<|bV U (bg fun AH=>?_) (bh fun AH=>?_)
  ·refine cp<|aH<|aH<|KK C<|ao<|rP 3 [] I ?_
   refine aG ?_
   refine aW (D ⟨(i+1),⟨om,gK A hx (by simp only [bP,dN]; omega),by rw [fV hx]; omega⟩⟩ _ _ _ U os (aV U) (aL [1,2]))
  refine WS fun _ W=>rP 1 [] I ?_
  refine RK W<|aq<|Q1 hQ U U U ?_
  exact cB (dI A hx (by simp only [bP,dN]; omega)).symm
 refine al fun _ H=>WS fun _ X=>rS (BI U jA)<|rP 1 [] I ?_
 refine RK X<|cO U (aP fun AI=>?_) (aR fun AI=>?_)
 ·refine WK H<|bV U (aR fun AJ=>?_) (aP fun AJ=>?_)
  ·refine WS fun _ a=>rP 1 [] I ?_
   refine RK a<|aq<|Q1 hQ U U U ?_
   exact cB (nW om).symm
  refine WS fun _ Y=>bo 1 U<|rS (LP (aa.cells x.eH) 0 U cd U U U)<|rS (CL (o1 x.eH 500 20000) (aK) U)<|rP 1 [] I ?_
  refine RK Y<|bV U (bg fun AK=>?_) (bh fun AK=>?_)
  ·refine cp<|aH<|aH<|KK C<|ao<|rP 3 [] I ?_
   refine aG ?_
   refine aW (D ⟨(i+1),⟨om,gK A hx (by simp only [bP,dN]; omega),by rw [fV hx]; omega⟩⟩ _ _ _ U os (aV U) (aL [1,2]))
  refine WS fun _ Z=>rP 1 [] I ?_
  refine RK Z<|aq<|Q1 hQ U U U ?_
  exact cB (dI A hx (by simp only [bP,dN]; omega)).symm
 refine ao<|rS (BI U jA)<|rP 1 [] I ?_
 refine RK H<|bV U (aR fun AM=>?_) (aP fun AM=>?_)
 ·refine WS fun _ d=>rP 1 [] I ?_
  refine RK d<|aq<|Q1 hQ U U U ?_
  exact cB (dI A hx (by simp only [bP,dN]; omega)).symm
 refine WS fun _ b=>bo 1 U<|rS (LP (aa.cells x.eH) 0 U cd U U U)<|rS (CL (o1 x.eH 500 20000) (aK) U)<|rP 1 [] I ?_
 refine RK b<|bV U (bg fun AN=>?_) (bh fun AN=>?_)
 ·refine cp<|aH<|aH<|KK C<|ao<|rP 3 [] I ?_
  refine aG ?_
  refine aW (D ⟨(i+1),⟨om,gK A hx (by simp only [bP,dN]; omega),by rw [fV hx]; omega⟩⟩ _ _ _ U os (aV U) (aL [1,2]))
 refine WS fun _ c=>rP 1 [] I ?_
 refine RK c<|aq<|Q1 hQ U U U ?_
 exact cB (dI A hx (by simp only [bP,dN]; omega)).symm
theorem AH (ts:List an) (tsA:OA) (tsC:Nat) (hlen:ts.length≤1000000) (hside: ∀ x∈ts,0≤x.iN∧x.iN≤255):
 eg Tryz.prog 74 [(vA (aZ.cells (aZ.mk (aN.mk tsA ts.length tsC))))] [(rd tsA ts.length 9 (ts.map an.cells))] (vI (if cV ts=true then 0 else 10)):=by
 refine bI kr Tryz.func74 U U fun w0 Q hQ hN=>?_
 try dsimp only
 refine WS fun _ v=>fR U fun b2=>bo 1 U<|RK v<|zB U<|al fun _ w=>WS fun _ y=>rP 3 [] (mc 0 U I) ?_
 refine cZ (xs:=[.tmp 11]) (cs:=[(vI (ts.length:Int))]) U cx i_ U U U U (by simp [Value.cells]) U U fun b5=>?_
 refine rS (CL (eg.eq (oL 1 12 ([(ts.length:Int)]) (some ⟨b5,0,none⟩) 1 (by (simp; done))) cU) (aw (a_ 0 U U (by simp [bK]) U)<|aK) U) ?_
 refine rP 1 [] I ?_
 refine RK y<|cO U (bh fun h6=>?_) (bg fun h6=>?_)
 ·refine WS fun _ AA=>rP 1 [] I ?_
  refine RK AA<|aq<|Q1 hQ U U U ?_
  exact cI (if_neg (by rw [nW om]; decide)).symm
 refine WK w<|WS fun _ AB=>bo 1 U<|RK AB<|WS fun _ AC=>bo 1 U<|RK AC<|al fun _ J=>Af<|KK J<|al fun _ B=>WS fun _ K=>rP 4 [] (mc 1 U I) ?_
 refine RK K<|ay ?_
 have D:(0≤ts.length)∧(eM (-1) ts=eM (fX ts 0) (ts.drop 0))∧(-1≤fX ts 0)∧(fX ts 0≤9999):=by (refine ⟨om,rfl,by simp [fX],by simp [fX]⟩)
 refine bS (ι:={z:Nat // (z≤ts.length)∧(eM (-1) ts=eM (fX ts z) (ts.drop z))∧(-1≤fX ts z)∧(fX ts z≤9999)}) [1,4,16,17] [1,2] U U (fun z=>[(3,(vI (fX ts z.1))),(18,(vI (z.1:Int)))]) (fun z=>[]) (fun _=>rfl) (fun _=>rfl) (fun z=>ts.length-z.1) ⟨0,D⟩ (aV U) (aL [1,2]) ?_
 clear D
 rintro ⟨i,⟨AD,A,AE,AF⟩⟩ J13 E
 try dsimp only
 refine WS fun _ L=>rP 1 [] I ?_
 refine RK L<|al fun _ M=>bV U (aR fun k=>?_) (aP fun k=>?_)
 ·refine bE<|ag<|ag<|aA<|KK B<|WS fun _ O=>rP 2 [] I ?_
  refine RK O<|aq<|Q1 hQ U U U ?_
  exact cI (if_pos (u7 A om om)).symm
 refine WK M<|al fun _ F=>ay<|WS fun _ N=>?_
 obtain ⟨x,hx⟩:=aM ts i om
 have AG:=bL an.cells hx
 refine rS (IA i U (aD 1 U) xX dc om om) ?_
 have AM:=hside x (aU hx)
 refine rS (ot i 0 (an.cells x) U cd (aD 1 U) AG U dc U U)<|AL U Fx fun AI=>fQ U HT U<|RK N ?_
 refine mI (ι:=Unit) [1,3,4,6,16,17,18] [0,1,2] U U (fun z=>[(7,(vB (decide (x.iN=0∧x.eH.Lo=0∧x.eH.Hi=0))))]) (fun z=>[]) (fun _=>rfl) (fun _=>rfl) ?_ fun K20 G=>?_
 ·intro _
  try dsimp only
  refine mI (ι:=Unit) [1,3,4,6,7,16,17,18] [0,1,2] U U (fun z=>[(8,(vB (decide ((1≤x.iN∧x.iN≤2)∧x.eH.Lo≤x.eH.Hi∧500≤x.eH.Lo∧x.eH.Hi≤20000))))]) (fun z=>[]) (fun _=>rfl) (fun _=>rfl) ?_ fun K21 H=>?_
  ·intro _
   try dsimp only
   refine al fun _ AK=>WS fun _ C=>rP 4 [] (mc 0 U I) ?_
   refine cZ (xs:=[.tmp 44]) (cs:=[(vI x.Id)]) U cx i_ U U U U (by simp [Value.cells]) U U fun h=>?_
   refine rS (CL (eg.eq (oL ((fX ts i)+1) 9999 ([x.Id]) (some ⟨h,0,none⟩) 1 (by (simp; done))) cU) (aw (a_ 0 U U (by simp [bK]) U)<|aK) U) ?_
   refine rP 2 [] I ?_
   refine ct (t:=48) U (bh fun o=>?_) (bg fun o=>?_)
   ·refine bo 26 U<|RK C<|aQ U<|WS fun _ P=>bo 1 U<|RK P<|bE<|ag<|iv U<|ag<|ag<|aA<|KK B<|WS fun _ R=>rP 2 [] I ?_
    refine RK R<|aq<|Q1 hQ U U U ?_
    exact cI (if_neg (by rw [dI A hx (by simp only [bP,dN]; omega)]; decide)).symm
   refine bo 1 U<|rS (LP (aa.cells x.kj) 1 U cd U U U)<|rS (CL (vx x.kj 1 30000) (aK) U)<|rP 3 [] I ?_
   refine ct (t:=54) U (bh fun p=>?_) (bg fun p=>?_)
   ·refine bo 20 U<|RK C<|aQ U<|WS fun _ S=>bo 1 U<|RK S<|bE<|ag<|iv U<|ag<|ag<|aA<|KK B<|WS fun _ T=>rP 2 [] I ?_
    refine RK T<|aq<|Q1 hQ U U U ?_
    exact cI (if_neg (by rw [dI A hx (by simp only [bP,dN]; omega)]; decide)).symm
   refine bo 1 U<|rS (LP (aa.cells x.lJ) 1 U cd U U U)<|rS (CL (vx x.lJ 0 5000) (aK) U)<|rP 3 [] I ?_
   refine ct (t:=60) U (bh fun q=>?_) (bg fun q=>?_)
   ·refine bo 14 U<|RK C<|aQ U<|WS fun _ AJ=>bo 1 U<|RK AJ<|bE<|ag<|iv U<|ag<|ag<|aA<|KK B<|WS fun _ V=>rP 2 [] I ?_
    refine RK V<|aq<|Q1 hQ U U U ?_
    exact cI (if_neg (by rw [dI A hx (by simp only [bP,dN]; omega)]; decide)).symm
   refine rP 2 [] (mc 1 U I) ?_
   refine cZ (xs:=[.tmp 62]) (cs:=[(vI x.Au)]) U cx i_ U U U U (by simp [Value.cells]) U U fun j=>?_
   refine rS (CL (eg.eq (oL 0 5000 ([x.Au]) (some ⟨j,0,none⟩) 1 (by (simp; done))) cU) (aw (a_ 0 U U (by simp [bK]) U)<|aK) U) ?_
   refine rP 3 [] I ?_
   refine ct (t:=67) U (bh fun r=>?_) (bg fun r=>?_)
   ·refine bo 7 U<|RK C<|aQ U<|WS fun _ W=>bo 1 U<|RK W<|bE<|ag<|iv U<|ag<|ag<|aA<|KK B<|WS fun _ X=>rP 2 [] I ?_
    refine RK X<|aq<|Q1 hQ U U U ?_
    exact cI (if_neg (by rw [dI A hx (by simp only [bP,dN]; omega)]; decide)).symm
   refine rP 3 [] I ?_
   refine ck (t:=70) U (bg fun s=>?_) (bh fun s=>?_)
   ·refine bo 4 U<|RK C<|aX U<|WK AK<|ao<|fD 3 [] (mc 2 U I) U<|aG<|aH<|KK F<|ao<|rP 2 [] I ?_
    refine aG ?_
    have f:(vI (fX ts (i+1)))=(vI x.Id):=by rw [fV hx]
    refine aW (E ⟨(i+1),⟨om,gK A hx (by simp only [bP,dN]; omega),by rw [fV hx]; omega,by rw [fV hx]; omega⟩⟩ _ _ _ U os (cW 4<|bx U f<|aV U) (aL [3,4]))
   refine rP 4 [] I ?_
   refine RK C<|bV U (bg fun u=>?_) (bh fun u=>?_)
   ·refine WK AK<|ao<|fD 3 [] (mc 2 U I) U<|aG<|aH<|KK F<|ao<|rP 2 [] I ?_
    refine aG ?_
    have e:(vI (fX ts (i+1)))=(vI x.Id):=by rw [fV hx]
    refine aW (E ⟨(i+1),⟨om,gK A hx (by simp only [bP,dN]; omega),by rw [fV hx]; omega,by rw [fV hx]; omega⟩⟩ _ _ _ U os (cW 4<|bx U e<|aV U) (aL [3,4]))
   refine WS fun _ Y=>bo 1 U<|RK Y<|bE<|ag<|iv U<|ag<|ag<|aA<|KK B<|WS fun _ Z=>rP 2 [] I ?_
   refine RK Z<|aq<|Q1 hQ U U U ?_
   exact cI (if_neg (by rw [dI A hx (by simp only [bP,dN]; omega)]; decide)).symm
  refine ao<|rP 2 [] (mc 0 U I) ?_
  refine rS (SX (qZ (m:=x.iN) U U Od pK (nZ (by first|assumption|omega))) U U)<|cZ (xs:=[.tmp 33]) (cs:=[(vI x.iN)]) U cx i_ U U U U (by simp [Value.cells]) U U fun g=>?_
  refine rS (CL (eg.eq (oL 1 2 ([x.iN]) (some ⟨g,0,none⟩) 1 (by (simp; done))) cU) (aw (a_ 0 U U (by simp [bK]) U)<|aK) U) ?_
  refine rP 1 [] I ?_
  refine ck (t:=36) U (aR fun n=>?_) (aP fun n=>?_)
  ·refine rP 5 [] I ?_
   refine aG ?_
   have d:(decide ((1≤x.iN∧x.iN≤2)∧x.eH.Lo≤x.eH.Hi∧500≤x.eH.Lo∧x.eH.Hi≤20000))=false:=cq om
   refine aW (iZ (cW 8<|np U d<|dB.nil _) (aL [1,2,3]) (H ()))
  refine bo 1 U<|rS (LP (aa.cells x.eH) 1 U cd U U U)<|rS (CL (vx x.eH 500 20000) (aK) U)<|rP 2 [] I ?_
  refine aG ?_
  have c:(decide ((1≤x.iN∧x.iN≤2)∧x.eH.Lo≤x.eH.Hi∧500≤x.eH.Lo∧x.eH.Hi≤20000))=(decide (x.eH.Lo≤x.eH.Hi∧500≤x.eH.Lo∧x.eH.Hi≤20000)):=decide_eq_decide.2 om
  refine aW (iZ (cW 8<|np U c<|dB.nil _) (aL [1,2,3]) (H ()))
 refine ao<|fD 2 [] (mc 0 U I) U<|rS (BI U jA)<|rP 1 [] I ?_
 refine ck (t:=25) U (aR fun l=>?_) (aP fun l=>?_)
 ·refine rP 6 [] I ?_
  refine aG ?_
  have b:(decide (x.iN=0∧x.eH.Lo=0∧x.eH.Hi=0))=false:=cq om
  refine aW (iZ (cW 7<|np U b<|dB.nil _) (aL [0,1,2]) (G ()))
 refine bo 1 U<|rS (LP (aa.cells x.eH) 0 U cd U U U)<|rS (SX (bj (xs:=[]) (cs:=(aa.cells (aa.mk 0 0))) U U (bk gj U)) U U)<|rS (BI U (sv _ _ x.eH (aa.mk 0 0)))<|rP 2 [] I ?_
 refine aG ?_
 have a:(decide (x.iN=0∧x.eH.Lo=0∧x.eH.Hi=0))=(decide (x.eH=(aa.mk 0 0))):=decide_eq_decide.2 (by (simp only [aa.ext_iff] at *; omega))
 refine aW (iZ (cW 7<|np U a<|dB.nil _) (aL [0,1,2]) (G ()))
end
section
open Go.RowKit
theorem Kr (n lo hi:Int) (g1 g2:Nat):
 eg Tryz.prog 55 [(vI n),(vP g1),(vP g2)] [(bY g1 3 [(vI lo)]),(bY g2 3 [(vI hi)])] (vB (decide (n<lo∨hi<n))):=by
 refine bI kr Tryz.func55 U U fun D Q hQ hN=>?_
 try dsimp only
 refine WS fun _ B=>bo 1 U<|RK B<|WS fun _ A=>rP 4 [] (mr 0 U I) ?_
 refine ct (t:=8) U (aP fun C=>?_) (aR fun C=>?_)
 ·refine rP 5 [] I ?_
  refine RK A<|aq<|Q1 hQ U U U ?_
  exact cB (dw om).symm
 refine rP 5 [] (mr 1 U I) ?_
 refine RK A<|aq<|Q1 hQ U U U ?_
 exact cB (decide_eq_decide.2 om)
theorem j0 (lo hi:Int) (l:List Int) (lA:OA) (lC:Nat) (hlen:l.length≤1000000):
 eg Tryz.prog 32 [(vI lo),(vI hi),(vS lA l.length lC)] [(rd lA l.length 1 (l.map iC))] (vB (pC lo hi l)):=by
 refine bI kr Tryz.func32 U U fun F Q hQ hN=>?_
 try dsimp only
 refine WS fun _ D=>uh U U fun A=>uh U U fun B=>bo 1 U<|RK D<|WS fun _ E=>rP 1 [] I ?_
 refine rS (FU U) ?_
 refine rS (CL (rY l lA lC (Value.func (.func 55) [].toArray [(vP A),(vP B)].toArray) (fun C=>(decide (C<lo∨hi<C))) (e9 [(bY A 3 [(vI lo)]),(bY B 3 [(vI hi)])]) (by intro C _; exact ny (fi:=[]) (ca:=[(vP A),(vP B)]) (lU (Kr C lo hi A B) (bp [0,1]))) hlen) (fG 2 U U<|aw (lW (bp [1,0]))<|aK) U) ?_
 refine rP 2 [] I ?_
 refine RK E<|aq ?_
 exact Q1 hQ U U U U
theorem E8 (s:aa):
 eg Tryz.prog 67 [(vA (aa.cells s))] [] (vB (decide (iE s))):=by
 refine bI kr Tryz.func67 U U fun F Q hQ hN=>?_
 try dsimp only
 refine WS fun _ B=>fR U fun E=>bo 1 U<|RK B<|WS fun _ A=>rP 4 [] (mc 0 U I) ?_
 refine cZ (xs:=[.tmp 4,.tmp 6]) (cs:=[(vI s.Lo),(vI s.Hi)]) U cx i_ U U U U (by simp [Value.cells]) U U fun C=>?_
 refine rS (CL (eg.eq (j0 1 600000 ([s.Lo,s.Hi]) (some ⟨C,0,none⟩) 2 (by (simp; done))) qN) (aw (a_ 0 U U (by simp [bK]) U)<|aK) U) ?_
 refine rP 1 [] I ?_
 refine ck (t:=9) U (aR fun D=>?_) (aP fun D=>?_)
 ·refine rP 7 [] I ?_
  refine RK A<|aq<|Q1 hQ U U U ?_
  simp only [iE]
  exact cB (cq om).symm
 refine rP 7 [] (mc 1 U I) ?_
 refine RK A<|aq<|Q1 hQ U U U ?_
 simp only [iE]
 exact cB (decide_eq_decide.2 om)
theorem Lw (d:ax) (sgA:OA) (sgC:Nat):
 eg Tryz.prog 190 [(vA (bu.cells (bu.mk d.Out d.eK d.Time (mo d.cz sgA sgC))))] [(rd sgA d.cz.ak.length 2 (d.cz.ak.map aO.cells))] (vB (decide (l9 d.cz))):=by
 refine bI kr Tryz.func190 U U fun F Q hQ hN=>?_
 try dsimp only
 refine WS fun _ B=>fR U fun E=>bo 1 U<|RK B<|WS fun _ A=>rP 5 [] (mc 0 U I) ?_
 refine ck (t:=7) U (aR fun C=>?_) (aP fun C=>?_)
 ·refine rP 13 [] I ?_
  refine RK A<|aq<|Q1 hQ U U U ?_
  simp only [l9]
  exact cB (cq om).symm
 refine rP 6 [] (mc 0 U I) ?_
 refine ck (t:=13) U (aR fun D=>?_) (aP fun D=>?_)
 ·refine rP 7 [] I ?_
  refine RK A<|aq<|Q1 hQ U U U ?_
  simp only [l9]
  exact cB (cq om).symm
 refine rP 7 [] (mc 0 U I) ?_
 refine RK A<|aq<|Q1 hQ U U U ?_
 simp only [l9]
 exact cB (decide_eq_decide.2 om)
theorem SG (d:ax) (sgA:OA) (sgC:Nat):
 eg Tryz.prog 188 [(vA (bu.cells (bu.mk d.Out d.eK d.Time (mo d.cz sgA sgC))))] [(rd sgA d.cz.ak.length 2 (d.cz.ak.map aO.cells))] (vB d.Out):=by
 refine bI kr Tryz.func188 U U fun D Q hQ hN=>?_
 try dsimp only
 refine WS fun _ A=>fR U fun C=>bo 1 U<|RK A<|WS fun _ B=>rP 3 [] (mc 0 U I) ?_
 refine RK B<|aq<|Q1 hQ U U U ?_
 rfl
theorem RR (d:ax) (sgA:OA) (sgC:Nat):
 eg Tryz.prog 191 [(vA (bu.cells (bu.mk d.Out d.eK d.Time (mo d.cz sgA sgC))))] [(rd sgA d.cz.ak.length 2 (d.cz.ak.map aO.cells))] (vB d.eK):=by
 refine bI kr Tryz.func191 U U fun D Q hQ hN=>?_
 try dsimp only
 refine WS fun _ A=>fR U fun C=>bo 1 U<|RK A<|WS fun _ B=>rP 3 [] (mc 0 U I) ?_
 refine RK B<|aq<|Q1 hQ U U U ?_
 rfl
theorem Rc (d:ax) (sgA:OA) (sgC:Nat):
 eg Tryz.prog 193 [(vA (bu.cells (bu.mk d.Out d.eK d.Time (mo d.cz sgA sgC))))] [(rd sgA d.cz.ak.length 2 (d.cz.ak.map aO.cells))] (vB true):=by
 refine bI kr Tryz.func193 U U fun D Q hQ hN=>?_
 try dsimp only
 refine WS fun _ A=>fR U fun C=>bo 1 U<|RK A<|WS fun _ B=>rP 1 [] I ?_
 refine RK B<|aq<|Q1 hQ U U U ?_
 rfl
end
section
open Go.RowKit
theorem Aw (r:cm) (kA:OA) (kC:Nat) (az:List RA) (cA:OA) (cC:Nat) (bA:OA) (bC:Nat) (slA:OA) (slC:Nat) (drA:OA) (drC:Nat) (ha:List cS) (heA:OA) (heC:Nat) (tz:List RA) (tA:OA) (tC:Nat) (ms:Value) (gw:Nat) (l:List Int) (lA:OA) (lC:Nat) (hin:fm r az ha) (hlen:l.length≤1000000):
 eg Tryz.prog 33 [(vP gw),(vS lA l.length lC)] [(rd kA r.ah.aI.length 9 (r.ah.aI.map an.cells)),(rd cA r.ah.ai.length 2 (List.zipWith au.cells r.ah.ai az)),(e9 (aS au.gW r.ah.ai az)),(rd bA r.ah.ae.length 4 (r.ah.ae.map bG.cells)),(rd slA r.aJ.length 1 (r.aJ.map iC)),(rd drA r.bB.length 1 (r.bB.map iC)),(rd heA r.ar.length 1 (List.zipWith cJ r.ar ha)),(e9 (aS iu r.ar ha)),(rd tA ((cR r).length) 1 (List.zipWith DD (cR r) tz)),(e9 (aS LY (cR r) tz)),(bY gw 88 (fO.cells (fO.mk (oE r kA kC cA cC bA bC slA slC drA drC heA heC) (aN.mk tA ((cR r).length) tC) ms))),(rd lA l.length 1 (l.map iC))] (vB (pC 0 ((r.aJ.length:Int)-1) l)):=by
 have C:=hin.line
 have G:=hin.iQ
 have H:=hin.has
 have E:=hin.iP
 have D:=hin.draw
 have F:=dG (r:=r)
 refine bI kr Tryz.func33 U U fun AA Q hQ hN=>?_
 try dsimp only
 refine WS fun _ A=>bo 1 U<|RK A<|WS fun _ B=>bo 1 U<|rS (SX (bO U U) U U)<|fD 6 [] (mr 10 U I) U<|rS (CL (j0 0 ((r.aJ.length:Int)-1) l lA lC hlen) (bp [11]) U)<|rP 1 [] I ?_
 refine RK B<|aq ?_
 exact Q1 hQ U U U U
theorem wH (a b:Bool):
 eg Tryz.prog 35 [(vB a),(vB b)] [] (Value.int .u8 (if a=true then 2 else if b=true then 1 else 0)):=by
 refine bI kr Tryz.func35 U U fun J Q hQ hN=>?_
 try dsimp only
 refine WS fun _ C=>bo 1 U<|RK C<|al fun _ D=>ay<|WS fun _ E=>rP 2 [] I ?_
 refine RK E<|cO U (fun A=>?_) (fun A=>?_)
 ·refine WS fun _ F=>rP 1 [] I ?_
  refine RK F<|aq<|Q1 hQ U U U ?_
  rw [if_pos A]
 refine WS fun _ G=>rP 2 [] I ?_
 refine RK G<|cO U (fun B=>?_) (fun B=>?_)
 ·refine WS fun _ H=>rP 1 [] I ?_
  refine RK H<|aq<|Q1 hQ U U U ?_
  (rw [if_neg (by rw [A]; decide),if_pos B])
 refine cp<|aH<|KK D<|WS fun _ AA=>rP 1 [] I ?_
 refine RK AA<|aq<|Q1 hQ U U U ?_
 (rw [if_neg (by rw [A]; decide),if_neg (by rw [B]; decide)])
end
section
open Go.RowKit
theorem Pw {P:Program} {t:TypeId} {x y:Operand} {k e:TypeId} {p:Option Nat} (h:P.underlying t=some (.map k e)):g9 P .eql t x y (.map p) (.map none) (.bool p.isNone):=fun w=>by
 have A:(Op.equal t (.map p) (.map none)).run P w= .ok p.isNone w:=by
  unfold Op.equal
  show (Op.equalIn (9999+1) t (.map p) (.map none)).run P w=_
  unfold Op.equalIn
  cases p<;>simp [run_underlying h]
 have B:eqGuard .eql t x y (.map p) (.map none)=pure ():=rfl
 rw [B]
 show (Sem.run P (do let b ← Op.equal t (.map p) (.map none); pure (vB b)) w)=_
 simp [A]
theorem EH {P:Program} {r:Nat} {es:Array MapEntry} {clock:Nat} {w:World} (t:TypeId) (hb:w.heap[r]? =some (.map es clock)):
 (Extern.MapsClone.clone #[.iface t (.map (some r))]).run P w= .ok (.iface t (.map (some w.heap.size))) (w.alloc (.map es clock)):=by
 have e:Extern.MapsClone.clone #[.iface t (.map (some r))]=(getObj r >>= fun o=>match o with
  | .map entries clock=>(newObj (.map entries clock) >>= fun n=>pure (.iface t (.map (some n))))
  |_=>stuck "maps.clone: a map expected"):=rfl
 rw [e]
 simp [MapKept.run_getObj_map hb,Result.andThen,go_sem]
theorem BK {P:Program} {xt t k e:TypeId} {v:Value} {w:World} (h:P.underlying t=some (.map k e)):(Instr.typeAssert (.iface t v) xt t false).run P w= .ok v w:=by
 simp [Instr.typeAssert,run_underlying h,go_sem,Result.andThen]
theorem nX {C:List av} {g t:Nat} {cs:List Value} {n sz:Nat} {es:List (List Value)} (i:Nat) (hC:C[i]? =some (bY g t cs).ro) (h1:es.length=n) (h2: ∀ e∈es,e.length=sz) (h3:es.flatten=cs):iU C (rd (some ⟨g,0,none⟩) n sz es).holds:=fun w hw=>
 ue (show (bY g t cs).holds w from hw (bY g t cs).ro (aU hC)) h1 h2 ⟨[],by simp [h3]⟩
section
variable {E:fg} {ops:Array Oper} {Q:c_} {rest:List Oper} {D:List Deferred} {L:List (Nat×Value)} {C:List av}
variable {dst:Option Nat} {d:Nat} {ty:TypeId} {ps:String} {af:Array Edge} {g:Option (Nat×Bool)}
theorem Iq {P:Program} {t k e:TypeId} {v:Value} {w:World} (h:P.underlying t=some (.map k e)):(Instr.makeInterface t v).run P w= .ok (.iface t v) w:=by
 simp [Instr.makeInterface,run_underlying h,Result.andThen]
theorem M4 {t k e:TypeId} {x:Operand} {v:Value} (hg:jq ops L g=true) (hx:ev L x=some v) (ht:E.P.underlying t=some (.map k e)):SD E ops ⟨dst,.makeInterface t x,ty,ps,af,g⟩ D L C (.iface t v):=
 dE hg sm fun a w hf _=>by
  have e:=hf.ev hx
  simp only [execOp,e]
  rw [Sem.run_bind,Iq ht]
  simp
theorem Rr {xt t kt et:TypeId} {x:Operand} {v:Value} (hg:jq ops L g=true) (hx:ev L x=some (.iface t v)) (ht:E.P.underlying t=some (.map kt et)):SD E ops ⟨dst,.typeAssert x xt t false,ty,ps,af,g⟩ D L C v:=
 dE hg sm fun a w hf _=>by
  have e:=hf.ev hx
  simp only [execOp,e]
  rw [Sem.run_bind,BK ht]
  simp
theorem Kt {K:Type} [DecidableEq K] {kV:K→Value} {x:Operand} {ts:Array TypeId} {f:FuncId} {fn:Func} {t b:Nat} {m:List (K×Value)} (hg:jq ops L g=true) (hx:ev L x=some (.iface t (.map (some b)))) (hf:E.P.funcs[f]? =some fn) (hname:(fn.name=="runtime.NumGoroutine")=false)
 (hb:fn.body.isNone=true) (hn:Extern.findNext fn=none) (he:Extern.find fn=some Extern.MapsClone.clone) (hC:iU C (ik kV b m).holds) (hd:Nat.blt d E.n=true) (k: ∀ b',RJ E ops Q rest D ((d,.iface t (.map (some b')))::L) (ik kV b' m::C)):
 RJ E ops Q (⟨some d,.call {callee:= .value (.func f),args:= #[x],argTypes:=ts},ty,ps,af,g⟩::rest) D L C:=by
 intro a w B hs
 have hd':d<E.n:=by rw [← Nat.blt_eq]; exact hd
 obtain ⟨es,c,F,hi⟩:=hC w hs.holds
 unfold re
 rw [if_pos (dU B hg)]
 refine gM (v:= .iface t (.map (some w.heap.size))) (w':=w.alloc (.map es c)) sm ?_ ?_
 ·have e:=B.ev hx
  have G:a.eval (.func f)= .func (.func f) #[] #[]:=rfl
  simp [execOp,resolve,e,G,Deferred.ofValue,invoke,run_callFunc_extern hf hname hb hn he,EH t F]
 ·refine k _ _ _ (B.put hd' _) (hs.grow (dQ.alloc no w _) (N:=[ik kV w.heap.size m]) ⟨fun A hA=>?_,fun A hA b hb=>?_,List.pairwise_singleton _ _⟩)
  ·simp at hA; subst hA; exact ⟨es,c,heap_alloc_new w _,hi⟩
  ·simp at hA; subst hA; exact Nat.le_of_eq (Eq.symm hb)
end
end
section
open Go.RowKit
theorem wS (lA:OA) (lN lC:Nat):
 lE Tryz.prog 51 [(vS lA lN lC)] [] (fun (x:Nat)=>(Value.func (.func 76) [].toArray [(vP x)].toArray)) (fun (x:Nat)=>True) (fun (x:Nat)=>[(bY x 29 [(vS lA lN lC)])]):=by
 refine dv kr Tryz.func51 U U fun D Q hQ hN=>?_
 try dsimp only
 refine WS fun _ A=>uh U U fun C=>bo 1 U<|RK A<|WS fun _ B=>rS (FU U)<|rP 1 [] I ?_
 refine RK B<|aq<|LX hQ C [0] [] I U U U U ?_
 trivial
theorem K1 (nl:List Int) (nlA:OA) (nlC g1:Nat) (hlen:nl.length≤12):
 Nx Tryz.prog 76 [] [(vP g1)] [(rd nlA nl.length 1 (nl.map iC)),(bY g1 29 [(vS nlA nl.length nlC)])] (qi nl):=by
 refine E4 kr Tryz.func76 U U fun l J Z A0 T Q hY K AB hQ hN=>?_
 try dsimp only
 refine WS fun _ M=>rP 3 [] (mr 2 U I) ?_
 refine RK M<|ay ?_
 have F:(0≤nl.length)∧(J 0 A0)∧(Fo A0 T A0):=by exact ⟨Nat.zero_le _,K,AB⟩
 refine bS (ι:={z:Nat×av // (z.1≤nl.length)∧(J z.1 z.2)∧(Fo A0 T z.2)}) [0,1,5,6] [1] U U (fun z=>[(7,(vI (z.1.1:Int)))]) (fun z=>[z.1.2]) (fun _=>rfl) (fun _=>rfl) (fun z=>nl.length-z.1.1) ⟨(0,A0),F⟩ (aV U) (aL [1,0]) ?_
 clear F
 rintro ⟨⟨i,A⟩,⟨G,B,C⟩⟩ J2 L
 try dsimp only at G B C
 try dsimp only
 refine WS fun _ N=>rP 1 [] I ?_
 refine RK N<|al fun _ O=>bV U (aR fun AA=>?_) (aP fun AA=>?_)
 ·refine bE<|ag<|ag<|aA ?_
  refine hN _ _ _ (gV (vs:=[]) trivial fun w hs=>SY 1 U (by rw [sP]; have e:nl.length=i:=om; rw [e]; exact B) C hs)
 refine WK O<|al fun _ P=>ay<|WS fun _ R=>?_
 obtain ⟨x,hx⟩:=aM nl i om
 have S:=bL iC hx
 refine rS (IA i U (aD 0 U) cx dc om om)<|rS (fY i 0 (vI x) U cd (aD 0 U) S U dc U)<|bo 1 U<|RK R<|WS fun _ H=>rP 2 [] I ?_
 refine Fk 1 hY B C U U U (Hf hx) U U (fun B9 E D=>?_) (fun B9 E D=>?_)
 rotate_left 1
 ·refine rP 1 [] I ?_
  refine RK H<|aQ U<|aq ?_
  refine hQ _ _ _ (gV (vs:=[]) trivial fun w hs=>Ol 1 U E D hs)
 refine bo 1 U<|RK H<|aX U<|cp<|aH<|KK P<|ao<|rP 2 [] I ?_
 refine aG ?_
 refine aW (L ⟨((i+1),B9),⟨om,E,D⟩⟩ _ _ _ U os (aV U) (aL [0,1]))
end
section
open Go.RowKit
theorem NU (x:Int):
 eg Tryz.prog 129 [(vI x)] [] (vB false):=by
 refine bI kr Tryz.func129 U U fun C Q hQ hN=>?_
 try dsimp only
 refine WS fun _ A=>bo 1 U<|RK A<|WS fun _ B=>rP 4 [] I ?_
 refine RK B<|aq<|Q1 hQ U U U ?_
 simp
theorem NP (x y:Int):
 eg Tryz.prog 92 [(vI x),(vI y)] [] (vB (decide (x<y))):=by
 refine bI kr Tryz.func92 U U fun C Q hQ hN=>?_
 try dsimp only
 refine WS fun _ A=>bo 1 U<|RK A<|WS fun _ B=>bo 1 U<|rS (CL (NU x) (aK) U)<|rP 11 [] I ?_
 refine RK B<|aq<|Q1 hQ U U U ?_
 exact cB (decide_eq_decide.2 om)
theorem GG (l:List Int) (lA:OA) (lC:Nat) (hlen:l.length≤1000000):
 CT Tryz.prog 86 [(vS lA l.length lC),(vI 0),(vI (l.length:Int))] [] (own lA lC 3 1 (l.map iC)) (fun (x:(List Int))=>(vT [])) (fun (x:(List Int))=>x.Perm l∧x.Pairwise (· ≤ ·)) (fun (x:(List Int))=>(own lA lC 3 1 (x.map iC))):=by
 refine mx kr Tryz.func86 U U fun g Q hQ hN=>?_
 try dsimp only
 refine WS fun _ X=>bo 1 U<|rS (SX (bZ (r:= .int .i64 1) U U U (g8 ⟨dc,dc⟩)) U U)<|rP 1 [] I ?_
 refine RK X<|ay ?_
 have A:(1≤1∧(1≤l.length∨1=1))∧(l.length=l.length)∧(l.Perm l)∧(Pk l 1):=by exact ⟨om,rfl,List.Perm.refl _,N8⟩
 refine bS (ι:={z:Nat×(List Int) // (1≤z.1∧(z.1≤l.length∨z.1=1))∧(z.2.length=l.length)∧(z.2.Perm l)∧(Pk z.2 z.1)}) [0,1,2] [] U U (fun z=>[(6,(vI (z.1.1:Int)))]) (fun z=>[(own lA lC 3 1 (z.1.2.map iC))]) (fun _=>rfl) (fun _=>rfl) (fun z=>l.length-z.1.1) ⟨(1,l),A⟩ (aV U) (aL [0]) ?_
 clear A
 rintro ⟨⟨i,m⟩,⟨K,AB,E,F⟩⟩ J2 M
 try dsimp only at K AB E F
 try dsimp only
 refine al fun _ Y=>WS fun _ Z=>rP 3 [] I ?_
 refine RK Z<|bV U (aR fun e=>?_) (aP fun e=>?_)
 ·refine bE<|ag<|ag<|aA<|LM hN m 0 [] I U U U U ?_
  exact ⟨E,Mn F om⟩
 refine WK Y<|al fun _ O=>ay<|WS fun _ b=>rP 2 [] I ?_
 refine RK b<|ay ?_
 have A:(i≤i)∧(m.length=l.length)∧(m.Perm l)∧(PB m i i):=by exact ⟨Nat.le_refl _,AB,E,HL F om⟩
 refine bS (ι:={z:Nat×(List Int) // (z.1≤i)∧(z.2.length=l.length)∧(z.2.Perm l)∧(PB z.2 i z.1)}) [0,1,2,6] [] U U (fun z=>[(7,(vI (z.1.1:Int)))]) (fun z=>[(own lA lC 3 1 (z.1.2.map iC))]) (fun _=>rfl) (fun _=>rfl) (fun z=>z.1.1) ⟨(i,m),A⟩ (aV U) (aL [0]) ?_
 clear A
 rintro ⟨⟨j,q⟩,⟨G,B,C,D⟩⟩ J8 W
 try dsimp only at G B C D
 try dsimp only
 refine al fun _ c=>al fun _ J=>dq cy 15 kr<|dP 4 [] I ?_
 refine iw (t:=19) U (aR fun hj=>?_) (aP fun hj=>?_)
 ·refine km 11 U<|cL<|RK J<|aX U<|bE<|ag<|ag<|aA<|aH<|KK O<|ao<|rP 3 [] I ?_
  refine aG ?_
  refine aW (M ⟨((i+1),q),⟨om,B,C,by exact Jb om D⟩⟩ _ _ _ U (by simp only []; omega) (aV U) (aL [0]))
 refine dP 2 [] I ?_
 obtain ⟨x,hx⟩:=aM q j om
 have L:=bL iC hx
 refine dS (IA j U (aj (n:=l.length) 0 U sq) cx dc om om) ?_
 refine dS (fY j 0 (vI x) U cd (aj (n:=q.length) 0 U sm) L U dc U)<|dP 3 [] I ?_
 obtain ⟨y,hy⟩:=aM q (j-1) om
 have V:=bL iC hy
 refine dS (IA (j-1) U (aj (n:=l.length) 0 U sq) cx dc om om) ?_
 refine dS (fY (j-1) 0 (vI y) U cd (aj (n:=q.length) 0 U sm) V U dc U)<|dS (CL (NP x y) (aK) U)<|dP 1 [] I ?_
 refine cL<|RK J<|bV U (aR fun H=>?_) (aP fun H=>?_)
 ·refine bE<|ag<|ag<|aA<|aH<|KK O<|ao<|rP 3 [] I ?_
  refine aG ?_
  refine aW (M ⟨((i+1),q),⟨om,B,C,by exact IE hx hy om G H D⟩⟩ _ _ _ U (by simp only []; omega) (aV U) (aL [0]))
 refine WK c<|al fun _ N=>ay<|dL cy [15,16,17] [8,9,12,13,14] [] [] [0] U U U U U<|eS U (MV U)<|eS U (MV U)<|eS U (MV U)<|eS U (MV U)<|eS U (BI U (ru ⟨om,om⟩))<|eS U (MV U)<|eS U (MV U)<|eS U (BI U (ru ⟨om,om⟩)) ?_
 refine fS U (IA (j-1) U (aj (n:=l.length) 0 U sq) cx dc om om) ?_
 refine fS U (fY (j-1) 0 (vI y) U cd (aj (n:=q.length) 0 U sm) V U dc U)<|eS U (MV U)<|eS U (MV U) ?_
 refine fS U (IA j U (aj (n:=l.length) 0 U sq) cx dc om om) ?_
 refine fS U (fY j 0 (vI x) U cd (aj (n:=q.length) 0 U sm) L U dc U) ?_
 refine fS U (IA j U (aj (n:=l.length) 0 U sq) cx dc om om) ?_
 refine e7 U<|cf U fun T12 P=>eD (k:=j) (o:=0) (vs:=[(vI y)]) (es':=(List.map iC (q.set j y))) (C':=[(own lA lC 3 1 (List.map iC (q.set j y)))]) 0 U U U AE U U U U L U dc (by exact (List.map_set (f:=iC) (l:=q) (i:=j) (a:=y)).symm) U<|aG (P _ _ (aL []) ?_)
 refine cf U fun T13 R=>?_
 obtain ⟨d,AA⟩:=aM (q.set j y) (j-1) os
 have hx15m:(List.map iC (q.set j y))[(j-1)]? =some (iC d):=by rw [fy,AA]; rfl
 refine rS (IA (j-1) U (aj (n:=l.length) 0 U sq) cx dc om om) ?_
 refine aG (R _ _ (aL []) ?_)
 refine cf U fun T16 S=>eD (k:=(j-1)) (o:=0) (vs:=[(vI x)]) (es':=(List.map iC ((q.set j y).set (j-1) x))) (C':=[(own lA lC 3 1 (List.map iC ((q.set j y).set (j-1) x)))]) 0 U U U AE U U U U hx15m U dc (by exact (List.map_set (f:=iC) (l:=(q.set j y)) (i:=(j-1)) (a:=x)).symm) U<|aG (S _ _ (aL []) ?_)
 refine fK U<|aH<|KK N<|ao<|rP 3 [] I ?_
 refine aG ?_
 have T:(vI (((j-1):Nat):Int))=(vI ((j:Int)-1)):=by exact cI om
 refine aW (W ⟨((j-1),((q.set j y).set (j-1) x)),⟨om,by simp; exact B,(HM hx hy).trans C,Kx hx hy om G H D⟩⟩ _ _ _ U (by simp only []; omega) (cW 4<|bx U T<|dB.nil _) (aL [0]))
theorem Ni (x:Int) (hx:0≤x∧x≤100):
 lE Tryz.prog 96 [(Value.int .u64 x)] [] (fun (x:Int)=>(vI x)) (fun (x:Int)=>True) (fun (x:Int)=>[]):=by
 refine dv kr Tryz.func96 U U fun N Q hQ hN=>?_
 try dsimp only
 refine WS fun _ D=>bo 1 U<|RK D<|al fun _ E=>WS fun _ F=>rP 1 [] I ?_
 refine rS (BI U EN)<|RK F<|cO U (aP fun L=>?_) (aR fun L=>?_)
 ·exfalso; omega
 refine WK E<|al fun _ G=>WS fun _ H=>rP 1 [] I ?_
 refine rS (BI U EN)<|RK H<|cO U (aP fun M=>?_) (aR fun M=>?_)
 ·exfalso; omega
 refine WK G<|al fun _ AA=>WS fun _ J=>rP 1 [] I ?_
 refine rS (BI U EN)<|RK J<|cO U (aP fun C=>?_) (aR fun C=>?_)
 ·exfalso; omega
 refine WK AA<|WS fun _ B=>bo 2 U<|rS (SX (qZ (m:=x) U U Su Od (BJ (by first|assumption|omega))) U U)<|PY (k:=(x).toNat) U U U U_ om (Nat.lt_of_lt_of_le (m:=200) om (of_decide_eq_true kr)) U fun A K=>rS (SX (qZ (m:=A) U U Od pK (nZ (by first|assumption|omega))) U U)<|rP 2 [] I ?_
 refine RK B<|aq<|LX hQ (0+A) [] [] I U U U U ?_
 trivial
theorem PN (x:Int) (hx:0≤x∧x≤100):
 lE Tryz.prog 66 [(Value.int .u64 x)] [] (fun (x:Int)=>(vI x)) (fun (x:Int)=>True) (fun (x:Int)=>[]):=by
 refine dv kr Tryz.func66 U U fun F Q hQ hN=>?_
 try dsimp only
 refine WS fun _ A=>bo 1 U<|RK A<|al fun _ B=>aX U<|WK B<|WS fun _ C=>rP 1 [] I ?_
 refine cX (Ni x hx) (aK) U fun E D=>?_
 try dsimp only
 refine rP 1 [] I ?_
 refine RK C<|aq<|LX hQ E [] [] I U U U U ?_
 trivial
theorem Sy (l:List Int) (lA:OA) (lC:Nat) (u:Int) (hlen:l.length≤12):
 CT Tryz.prog 65 [(vS lA l.length lC),(vI 0),(vI (l.length:Int)),(vI u)] [] (own lA lC 3 1 (l.map iC)) (fun (x:(List Int))=>(vT [])) (fun (x:(List Int))=>x.Perm l∧x.Pairwise (· ≤ ·)) (fun (x:(List Int))=>(own lA lC 3 1 (x.map iC))):=by
 refine mx kr Tryz.func65 U U fun K Q hQ hN=>?_
 try dsimp only
 refine WS fun _ A=>bo 1 U<|RK A<|WS fun _ B=>bo 1 U<|RK B<|ay<|jI 1<|eo fun R3 AA=>ay<|WS fun _ C=>bo 4 U<|RK C<|al fun _ H=>WS fun _ D=>rP 2 [] I ?_
 refine RK D<|bV U (aR fun G=>?_) (aP fun G=>?_)
 ·exfalso; omega
 refine WS fun _ E=>rP 3 [] I ?_
 refine iI 0 U U U U (GG l lA lC om) U kb U (fun J F=>?_)
 try dsimp only
 refine RK E<|aq<|LM hQ J 0 [] I U U U U ?_
 assumption
theorem zU (l:List Int) (lA:OA) (lC:Nat) (hlen:l.length≤12):
 CT Tryz.prog 44 [(vS lA l.length lC)] [] (own lA lC 3 1 (l.map iC)) (fun (x:(List Int))=>(vT [])) (fun (x:(List Int))=>x.Perm l∧x.Pairwise (· ≤ ·)) (fun (x:(List Int))=>(own lA lC 3 1 (x.map iC))):=by
 refine mx kr Tryz.func44 U U fun F Q hQ hN=>?_
 try dsimp only
 refine WS fun _ A=>bo 3 U<|RK A<|ao<|rP 3 [] I ?_
 refine rS (SX (qZ (m:=(l.length:Int)) U U pK SU (Aa (by first|assumption|omega))) U U)<|cX (PN (l.length:Int) om) (aK) U fun E B=>?_
 try dsimp only
 refine iI 0 U U U U (Sy l lA lC E hlen) U kb U (fun D C=>?_)
 try dsimp only
 refine aG<|LM hN D 0 [] I U U U U ?_
 assumption
end
section
open Go.RowKit
theorem Ko (nl:List Int) (nlA:OA) (nlC g1:Nat) (hlen:nl.length≤12):
 lE Tryz.prog 85 [(vS none 0 0),(Value.func (.func 76) [].toArray [(vP g1)].toArray)] [(rd nlA nl.length 1 (nl.map iC)),(bY g1 29 [(vS nlA nl.length nlC)])] (fun (x:(OA)×Nat)=>(vS x.1 nl.length x.2)) (fun (x:(OA)×Nat)=>True) (fun (x:(OA)×Nat)=>[(own x.1 x.2 3 1 (nl.map iC))]):=by
 refine dv kr Tryz.func85 U U fun R Q hQ hN=>?_
 try dsimp only
 refine WS fun _ D=>uh U U fun J=>bo 1 U<|RK D<|al fun _ E=>WS fun _ G=>rP 1 [] I ?_
 refine RK G<|ay<|kp 1 U (by exact fun _ h=>h)<|kp 3 U (by exact fun _ h=>h)<|fT 3 1 ?_
 refine FG (L0:=[(2,(vP J))]) (F:=[(rd nlA nl.length 1 (nl.map iC)).ro,(bY g1 29 [(vS nlA nl.length nlC)]).ro]) (xs:=(qi nl)) (fun k (y:(OA)×Nat)=>True) (fun k y=>[(own y.1 y.2 3 1 ((nl.take k).map iC)),(bY J 29 [(vS y.1 ((nl.take k).length) y.2)]),(rd nlA nl.length 1 (nl.map iC)).ro]) (fun _ (_:Unit)=>False) (fun _ _=>[]) [0,3,4] [2,1] (none,0) U U (K1 nl nlA nlC g1 (by first|assumption|omega|(simp; done))) U U U (by trivial) (by simp only [List.forall_mem_cons,List.not_mem_nil,false_imp_iff,implies_true,and_true]; exact ⟨⟨_,sm,(dD (bQ _))⟩,⟨_,sm,(dD (bQ _))⟩⟩) (by exact DY) U (aV U) ?_ ?_ (fun _ _ _ h=>h.elim) (fun _ _ h=>h.elim)
 rotate_left 1
 ·rintro O ⟨a,c⟩ AA
  try dsimp only
  rw [x8]
  refine aH<|KK E<|WS fun _ A=>rP 2 [] (mc 4 U I) ?_
  refine RK A<|aq<|hQ _ _ _ (oi 0 U U<|gV (vs:=[(vS a nl.length c)]) ⟨U,trivial⟩ fun w hs=>Ly (a,c) [3] ?_ ?_ U U U hs)
  ·rfl
  ·trivial
 rintro k x ⟨a,c⟩ l ra rb S T K5 Qr6 hx K H B L M
 obtain ⟨y,hy,rfl⟩:=Hv hx
 try dsimp only
 refine ao<|rP 1 [] I ?_
 refine aG<|aW (H _ _ ?_)
 refine ay<|ao<|rP 2 [] (mc 2 U I) ?_
 refine cZ (xs:=[.tmp 9]) (cs:=[(vI y)]) U cx i_ U U U U (by simp [Value.cells]) U U fun P=>?_
 refine df (es2:=(List.map iC (nl.take (k+1)))) (m':=(nl.take (k+1)).length) 2 U U U pO U U sm (a_ (es:=List.map iC [y]) 0 U U (by simp [bK]) U) (j9 _) (by simp; omega) (by simp [maxLen]; omega) (by rw [lu hy]; simp) sm U fun N C=>?_
 try dsimp only
 refine TR U zX U U<|aG<|aH ?_
 exact B (N,C) _ _ (by trivial) (aL [1,2,3,4])
theorem Hs (nl:List Int) (nlA:OA) (nlC g1:Nat) (hlen:nl.length≤12):
 lE Tryz.prog 63 [(Value.func (.func 76) [].toArray [(vP g1)].toArray)] [(rd nlA nl.length 1 (nl.map iC)),(bY g1 29 [(vS nlA nl.length nlC)])] (fun (x:(OA)×Nat)=>(vS x.1 nl.length x.2)) (fun (x:(OA)×Nat)=>True) (fun (x:(OA)×Nat)=>[(own x.1 x.2 3 1 (nl.map iC))]):=by
 refine dv kr Tryz.func63 U U fun G Q hQ hN=>?_
 try dsimp only
 refine WS fun _ A=>bo 1 U<|RK A<|WS fun _ B=>rP 1 [] I ?_
 refine cX (Ko nl nlA nlC g1 hlen) (bp [0,1]) U fun F E=>?_
 obtain ⟨C,D⟩:=F
 try dsimp only
 refine rP 1 [] I ?_
 refine RK B<|aq<|LX hQ (C,D) [0] [] I U U U U ?_
 trivial
theorem xy (nl:List Int) (nlA:OA) (nlC g1:Nat) (hlen:nl.length≤12):
 lE Tryz.prog 41 [(Value.func (.func 76) [].toArray [(vP g1)].toArray)] [(rd nlA nl.length 1 (nl.map iC)),(bY g1 29 [(vS nlA nl.length nlC)])] (fun (x:(OA)×Nat)=>(vS x.1 nl.length x.2)) (fun (x:(OA)×Nat)=>True) (fun (x:(OA)×Nat)=>[(own x.1 x.2 3 1 ((di nl).map iC))]):=by
 refine dv kr Tryz.func41 U U fun J Q hQ hN=>?_
 try dsimp only
 refine WS fun _ B=>bo 1 U<|RK B<|WS fun _ C=>rP 1 [] I ?_
 refine cX (Hs nl nlA nlC g1 hlen) (bp [0,1]) U fun AA H=>?_
 obtain ⟨F,G⟩:=AA
 try dsimp only
 refine bo 1 U<|RK C<|WS fun _ D=>rP 1 [] I ?_
 refine iI 0 U U U U (zU nl F G hlen) U kb U (fun m A=>?_)
 try dsimp only
 refine RK D<|WS fun _ E=>?_
 obtain rfl:=pV A.1 A.2
 skip
 refine rP 2 [] I ?_
 refine RK E<|aq<|LX hQ (F,G) [0] [] I U U U U ?_
 trivial
end
section
open Go.RowKit
section
variable {K:Type} [DecidableEq K] {kV:K→Value}
variable {E:fg} {ops:Array Oper} {Q:c_} {rest:List Oper} {D:List Deferred} {L:List (Nat×Value)} {C:List av}
variable {ty:TypeId} {ps:String} {af:Array Edge} {g:Option (Nat×Bool)}
theorem o8 {t kt et:TypeId} {xm xk:Operand} {ts:Array TypeId} {b:Nat} {x:K} {m m':List (K×Value)} {C':List av} (i:Nat) (hg:jq ops L g=true) (hm:ev L xm=some (.map (some b))) (hk:ev L xk=some (kV x)) (hts:ts[0]? =some t)
 (ht:E.P.underlying t=some (.map kt et)) (hkt:tW E.P kt kV) (hC:C[i]? =some (ik kV b m)) (hm':cD m x=m') (hC':C.set i (ik kV b m')=C') (k:RJ E ops Q rest D L C'):
 RJ E ops Q (⟨none,.call {callee:= .builtin .delete,args:= #[xm,xk],argTypes:=ts},ty,ps,af,g⟩::rest) D L C:=by
 subst hm' hC'
 intro a w A hs
 unfold re
 rw [if_pos (dU A hg)]
 obtain ⟨es,c,he,hi⟩:=hs.holds _ (aU hC)
 have B:(getObj b).run E.P w= .ok (.map es c) w:=MapKept.run_getObj_map he
 rcases oD (P:=E.P) (w:=w) (x:=x) hkt hi with ⟨F,G⟩|⟨j,AA,F,G,H⟩
 ·refine gM (v:= .tuple #[]) (w':={w with heap:=w.heap.setIfInBounds b (.map es c)}) sm ?_ ?_
  ·simp [execOp,resolve,invoke,builtin,A.ev hm,A.ev hk,Builtin.delete_,hts,run_underlying ht,B,iD hkt,F,MapKept.run_setObj_map _ he]
  ·refine k _ _ ⟨A.defers,A.size,A.at_⟩ (hs.CU (b:=b) i hC U U (mM _) (fun _ h=>h) ⟨_,_,oY he,?_⟩)
   rw [DG G]; exact hi
 ·refine gM (v:= .tuple #[]) (w':={w with heap:=w.heap.setIfInBounds b (.map (es.eraseIdxIfInBounds j) c)}) sm ?_ ?_
  ·simp [execOp,resolve,invoke,builtin,A.ev hm,A.ev hk,Builtin.delete_,hts,run_underlying ht,B,iD hkt,F,MapKept.run_setObj_map _ he]
  ·exact k _ _ ⟨A.defers,A.size,A.at_⟩ (hs.CU (b:=b) i hC U U (mM _) (fun _ h=>h) ⟨_,_,oY he,hi.del G⟩)
end
end
section
open Go.RowKit
theorem KB (n lo hi:Int) (g1 g2:Nat):
 eg Tryz.prog 140 [(vI n),(vP g1),(vP g2)] [(bY g1 3 [(vI lo)]),(bY g2 3 [(vI hi)])] (vB (decide (n<lo∨hi<n))):=by
 refine bI kr Tryz.func140 U U fun D Q hQ hN=>?_
 try dsimp only
 refine WS fun _ B=>bo 1 U<|RK B<|WS fun _ A=>rP 4 [] (mr 0 U I) ?_
 refine ct (t:=8) U (aP fun C=>?_) (aR fun C=>?_)
 ·refine rP 5 [] I ?_
  refine RK A<|aq<|Q1 hQ U U U ?_
  exact cB (dw om).symm
 refine rP 5 [] (mr 1 U I) ?_
 refine RK A<|aq<|Q1 hQ U U U ?_
 exact cB (decide_eq_decide.2 om)
theorem iH (lo hi:Int) (l:List Int) (lA:OA) (lC:Nat) (hlen:l.length≤1000000):
 eg Tryz.prog 111 [(vI lo),(vI hi),(vS lA l.length lC)] [(rd lA l.length 1 (l.map iC))] (vB (pC lo hi l)):=by
 refine bI kr Tryz.func111 U U fun F Q hQ hN=>?_
 try dsimp only
 refine WS fun _ D=>uh U U fun A=>uh U U fun B=>bo 1 U<|RK D<|WS fun _ E=>rP 1 [] I ?_
 refine rS (FU U) ?_
 refine rS (CL (rY l lA lC (Value.func (.func 140) [].toArray [(vP A),(vP B)].toArray) (fun C=>(decide (C<lo∨hi<C))) (e9 [(bY A 3 [(vI lo)]),(bY B 3 [(vI hi)])]) (by intro C _; exact ny (fi:=[]) (ca:=[(vP A),(vP B)]) (lU (KB C lo hi A B) (bp [0,1]))) hlen) (fG 2 U U<|aw (lW (bp [1,0]))<|aK) U) ?_
 refine rP 2 [] I ?_
 refine RK E<|aq ?_
 exact Q1 hQ U U U U
theorem Ud (n d:Int) (hd:2≤d):
 eg Tryz.prog 142 [(vI n),(vI d)] [] (vI (Rq n d)):=by
 refine bI kr Tryz.func142 U U fun C Q hQ hN=>?_
 try dsimp only
 refine WS fun _ A=>bo 1 U<|RK A<|WS fun _ B=>bo 2 U<|rS (BI U PW)<|rS (BI U JT)<|bo 1 U<|rS (BI U (Qt om (Pq (SP _) hd)))<|rP 1 [] I ?_
 refine RK B<|aq ?_
 exact Q1 hQ U U U U
theorem OL (n d:Int) (hd:1≤d∧d≤1000000) (hn:0≤n∧n≤1000000000000000):
 eg Tryz.prog 142 [(vI n),(vI d)] [] (vI (oZ n d)):=by
 refine bI kr Tryz.func142 U U fun C Q hQ hN=>?_
 try dsimp only
 refine WS fun _ A=>bo 1 U<|RK A<|WS fun _ B=>bo 5 U<|rS (BI U (si om om om))<|rP 1 [] I ?_
 refine RK B<|aq ?_
 exact Q1 hQ U U U U
theorem FP (c:au) (sA:OA) (sC:Nat) (at_:Int) (hc:eX c) (ha:0≤at_∧at_≤90000000):
 eg Tryz.prog 210 [(vA (du.cells (du.mk c.dh (aN.mk sA c.bw.length sC)))),(vI at_)] [(rd sA c.bw.length 3 (c.bw.map cG.cells))] (vA (aa.cells (hP c at_))):=by
 have X:=hc.len
 have J:=hc.ry
 refine bI kr Tryz.func210 U U fun e Q hQ hN=>?_
 try dsimp only
 refine WS fun _ M=>fR U fun b=>AL U dg fun d=>RK M<|WS fun _ N=>rS (SX (bj (xs:=[(0,.const (vI (-1099511627776))),(1,.const (vI 1099511627776))]) (cs:=(aa.cells (aa.mk (-1099511627776) 1099511627776))) U U (bk gj U)) U U)<|AL U dg fun W=>fQ U cu U<|RK N<|al fun _ O=>al fun _ P=>?_
 have R:(aa.cells (aa.mk (-1099511627776) 1099511627776))=(aa.cells (gn c at_ 0)):=by rfl
 rw [R]
 refine ao<|rP 4 [] (mc 2 U I) ?_
 refine RK P<|ay ?_
 have A:(0≤c.bw.length):=by exact Nat.zero_le _
 refine bS (ι:={z:Nat // (z≤c.bw.length)}) [1,2,4,5,11,12] [1,2,3] U U (fun z=>[(13,(vI (z.1:Int)))]) (fun z=>[(bY W 38 (aa.cells (gn c at_ z.1)))]) (fun _=>rfl) (fun _=>rfl) (fun z=>c.bw.length-z.1) ⟨0,A⟩ (aV U) (aL [1,2,3,0]) ?_
 clear A
 rintro ⟨i,S⟩ J9 L
 try dsimp only
 refine WS fun _ B=>rP 1 [] I ?_
 refine RK B<|al fun _ C=>bV U (aR fun K=>?_) (aP fun K=>?_)
 ·refine bE<|ag<|ag<|aA<|KK O<|WS fun _ G=>rP 1 [] (mc 3 U I) ?_
  refine fQ U cu U<|RK G<|aq<|HO hQ [0] (mc 0 U I) U ?_
  rw [nu (show c.bw.length≤i by omega)]
 refine WK C<|al fun _ D=>ay<|WS fun _ E=>?_
 obtain ⟨x,hx⟩:=aM c.bw i om
 have AA:=bL cG.cells hx
 refine rS (IA i U (aD 2 U) p7 dc om om)<|rS (ot i 0 (cG.cells x) U cd (aD 2 U) AA U dc U U)<|AL U rh fun V=>fQ U sW U<|RK E<|WS fun _ F=>rP 5 [0,1] (mc 2 U (mc 0 U I)) ?_
 have T:=hc.tO hx
 have Z:=Cr hc ha i
 have Y:=E6 J ha (show 0≤x.At∧x.At≤90000000 by omega)
 refine fD 5 [] (mc 0 U I) U<|rS (MX U)<|rS (BI U (Fi ⟨om,om⟩))<|rS (CL (OL (c.dh*(max (at_-x.At) (x.At-at_))) 1000000 om om) (aK) U)<|bo 1 U<|RK F<|ao<|rP 6 [0,1] (mc 4 U (mc 0 U I)) ?_
 have a:0≤oZ (c.dh*max (at_-x.At) (x.At-at_)) 1000000∧oZ (c.dh*max (at_-x.At) (x.At-at_)) 1000000≤90001:=uf J ha T.1
 refine bo 1 U<|rS (MX U)<|rP 7 [0,1] (mc 4 U (mc 0 U I)) ?_
 refine rS (MN U)<|rS (SX (bj (xs:=[(0,.tmp 37),(1,.tmp 45)]) (cs:=(aa.cells (aa.mk (max ((gn c at_ i).Lo) (x.ew.Lo-(oZ (c.dh*(max (at_-x.At) (x.At-at_))) 1000000))) (min ((gn c at_ i).Hi) (x.ew.Hi+(oZ (c.dh*(max (at_-x.At) (x.At-at_))) 1000000)))))) U U (bk gj U)) U U)<|Oy U cu U<|aG<|aH<|KK D ?_
 have H:(aa.cells (aa.mk (max ((gn c at_ i).Lo) (x.ew.Lo-(oZ (c.dh*(max (at_-x.At) (x.At-at_))) 1000000))) (min ((gn c at_ i).Hi) (x.ew.Hi+(oZ (c.dh*(max (at_-x.At) (x.At-at_))) 1000000)))))=(aa.cells (gn c at_ (i+1))):=by rw [jN hx]; rfl
 rw [H]
 refine ao<|rP 2 [] I ?_
 refine aG ?_
 have AB:(vI (((i+1):Nat):Int))=(vI ((i:Int)+1)):=by exact cI om
 refine aW (L ⟨(i+1),(by first|omega|(simp only []; omega))⟩ _ _ _ U os (cW 6<|bx U AB<|dB.nil _) (aL [1,2,3,4]))
theorem Pc (c:au) (sA:OA) (sC:Nat) (hlen:c.bw.length≤1000000) (hcap:c.bw.length≤sC):
 eg Tryz.prog 115 [(vA (du.cells (du.mk c.dh (aN.mk sA c.bw.length sC))))] [(rd sA c.bw.length 3 (c.bw.map cG.cells))] (vB (decide (eX c))):=by
 refine bI kr Tryz.func115 U U fun w0 Q hQ hN=>?_
 try dsimp only
 refine WS fun _ AP=>fR U fun b2=>bo 1 U<|RK AP<|zB U<|al fun _ AQ=>WS fun _ q=>rP 2 [] (mc 0 U I) ?_
 refine cZ (xs:=[.tmp 11]) (cs:=[(vI c.dh)]) U cx i_ U U U U (by simp [Value.cells]) U U fun b5=>?_
 refine rS (CL (eg.eq (iH 0 1000 ([c.dh]) (some ⟨b5,0,none⟩) 1 (by (simp; done))) cU) (aw (a_ 0 U U (by simp [bK]) U)<|aK) U) ?_
 refine rP 2 [] I ?_
 refine ct (t:=15) U (bh fun AZ=>?_) (bg fun AZ=>?_)
 ·refine bo 7 U<|RK q<|aQ U<|WS fun _ AR=>rP 1 [] I ?_
  refine RK AR<|aq<|Q1 hQ U U U ?_
  exact cB (cq fun h=>AZ h.ry).symm
 refine rP 3 [] (mc 1 U I) ?_
 refine cZ (xs:=[.tmp 18]) (cs:=[(vI (c.bw.length:Int))]) U cx i_ U U U U (by simp [Value.cells]) U U fun b7=>?_
 refine rS (CL (eg.eq (iH 1 5 ([(c.bw.length:Int)]) (some ⟨b7,0,none⟩) 1 (by (simp; done))) cU) (aw (a_ 0 U U (by simp [bK]) U)<|aK) U) ?_
 refine rP 2 [] I ?_
 refine RK q<|cO U (bh fun O=>?_) (bg fun O=>?_)
 ·refine WS fun _ AS=>rP 1 [] I ?_
  refine RK AS<|aq<|Q1 hQ U U U ?_
  exact cB (cq fun h=>O (by have:=h.len; omega)).symm
 refine WK AQ<|WS fun _ AT=>bo 1 U<|RK AT<|WS fun _ R=>bo 1 U<|RK R<|al fun _ S=>Af<|KK S<|al fun _ K=>WS fun _ T=>rP 4 [] (mc 2 U I) ?_
 refine RK T<|ay ?_
 have B:(0≤c.bw.length)∧(rV c 0):=by exact ⟨Nat.zero_le _,GD⟩
 have r:(vI (j6 c 0))=(vI (-1)):=by rw [gr rfl]
 refine bS (ι:={z:Nat // (z≤c.bw.length)∧(rV c z)}) [1,2,4,24,25] [2,3] U U (fun z=>[(3,(vI (j6 c z.1))),(26,(vI (z.1:Int)))]) (fun z=>[]) (fun _=>rfl) (fun _=>rfl) (fun z=>c.bw.length-z.1) ⟨0,B⟩ (bx U r<|aV U) (aL [2,3]) ?_
 clear B
 rintro ⟨i,⟨L,C⟩⟩ J15 P
 try dsimp only
 have Ab: -1≤j6 c i∧j6 c i≤86400000:=Pj L C
 refine WS fun _ AK=>rP 1 [] I ?_
 refine RK AK<|al fun _ V=>bV U (aR fun AJ=>?_) (aP fun AJ=>?_)
 ·refine bE<|ag<|ag<|aA<|KK K<|WS fun _ f=>rP 2 [] I ?_
  refine RK f<|aq<|Q1 hQ U U U ?_
  exact cB (dw (HF AZ om (by have e:i=c.bw.length:=om; rw [← e]; exact C))).symm
 refine WK V<|al fun _ W=>ay<|WS fun _ X=>rP 1 [] I ?_
 obtain ⟨x,hx⟩:=aM c.bw i om
 have AW:=bL cG.cells hx
 refine rS (IA i U (aD 1 U) p7 dc om om)<|rS (ot i 0 (cG.cells x) U cd (aD 1 U) AW U dc U U)<|AL U rh fun AX=>rP 1 [] I ?_
 refine fQ U sW U<|RK X ?_
 refine mI (ι:=Unit) [1,2,3,5,6,24,25,26] [0,1,2] U U (fun z=>[(4,(vB (decide (fp c i x))))]) (fun z=>[]) (fun _=>rfl) (fun _=>rfl) ?_ fun K22 G=>?_
 ·intro _
  try dsimp only
  refine al fun _ Y=>WS fun _ Z=>fD 3 [] (mc 1 U I) U<|rS (UN i U p7 om om)<|rP 2 [] I ?_
  refine RK Z<|ay ?_
  have B:(0≤i)∧((decide (fp c i x))=(decide (lT c i x 0))):=by exact ⟨Nat.zero_le _,decide_eq_decide.2 Dc.symm⟩
  refine bS (ι:={z:Nat×Bool // (z.1≤i)∧(z.2=(decide (lT c i x z.1)))}) [1,2,3,5,6,24,25,26,59,60] [0,1,2] U U (fun z=>[(4,(vB z.1.2)),(61,(vI (z.1.1:Int)))]) (fun z=>[]) (fun _=>rfl) (fun _=>rfl) (fun z=>i-z.1.1) ⟨(0,(decide (fp c i x))),B⟩ (aV U) (aL [0,1,2]) ?_
  clear B
  rintro ⟨⟨k,b⟩,⟨M,A⟩⟩ J25 F
  try dsimp only at M A
  try dsimp only
  refine WS fun _ a=>rP 1 [] I ?_
  refine RK a<|al fun _ d=>bV U (aR fun AM=>?_) (aP fun AM=>?_)
  ·refine bE<|ag<|ag<|aA<|KK Y<|al fun _ m=>WS fun _ n=>rP 2 [] I ?_
   refine RK n<|cO U (fun D=>?_) (fun D=>?_)
   ·rw [Bool.not_eq_true'] at D
    refine bE<|ag<|iv U<|ag<|ag<|aA<|KK K<|WS fun _ p=>rP 2 [] I ?_
    refine RK p<|aq<|Q1 hQ U U U ?_
    exact cB (by have e:k=i:=om; rw [e] at A; rw [D] at A ⊢; exact (cq (IH hx (of_decide_eq_false A.symm))).symm)
   rw [Bool.not_eq_false'] at D
   refine WK m<|ao<|fD 3 [] (mc 0 U I) U<|aG<|aH<|KK W<|ao<|rP 2 [] I ?_
   refine aG ?_
   have AD:(vB true)=(vB b):=by exact cB D.symm
   have AE:(vI (j6 c (i+1)))=(vI x.At):=by rw [nQ hx]
   have AF:(vI (((i+1):Nat):Int))=(vI ((i:Int)+1)):=by exact cI om
   refine aW (P ⟨(i+1),⟨om,HG C hx (by have e:k=i:=om; rw [e] at A; exact of_decide_eq_true (A.symm.trans D))⟩⟩ _ _ _ U os (dB.cons U<|dB.cons U<|bx U AD<|dB.cons U<|dB.cons U<|bx U AE<|bx U AF<|dB.nil _) (aL [1,2]))
  refine WK d<|al fun _ H=>ay<|WS fun _ g=>?_
  obtain ⟨o,ho⟩:=aM c.bw k om
  have AU:=bL cG.cells ho
  refine rS (QQ k U (aD 2 U) p7 dc om om om)<|rS (ot k 0 (cG.cells o) U cd (aD 2 U) AU U dc U U)<|AL U rh fun AY=>fQ U sW U<|RK g<|WS fun _ l=>fD 6 [0,1,2] (mc 2 U (mc 1 U (mc 0 U I))) U<|rS (BI U JT)<|rS (BI U PX)<|rS (CL (Ud (AA (c.dh*(AA (x.At-o.At)))) 1000000 om) (aK) U)<|bo 1 U<|RK l<|ao<|rP 2 [] I ?_
  refine ck (t:=75) U (fun J=>?_) (fun J=>?_)
  ·refine bo 6 U<|bo 16 U<|aG<|aH<|KK H<|ao<|rP 2 [] I ?_
   refine aG ?_
   have AC:(vI (((k+1):Nat):Int))=(vI ((k:Int)+1)):=by exact cI om
   refine aW (F ⟨((k+1),false),⟨om,by exact (cq fun h=>by have h2:=((rR ho).1 h).1; rw [A] at J; exact absurd (dw h2) (by rw [J]; decide)).symm⟩⟩ _ _ _ U os (cW 11<|bx U AC<|dB.nil _) (aL [1,2,3]))
  refine rP 6 [0,1] (mc 1 U (mc 0 U I)) ?_
  have AG:lT c i x k:=of_decide_eq_true (A.symm.trans J)
  obtain ⟨AV,Ac,Ad⟩:=tM (fun j y hj hy=>(C j y hj hy).1) hx AG.1 om ho
  have N:=Mi AZ AV
  refine rP 5 [] I ?_
  refine ck (t:=86) U (aR fun E=>?_) (aP fun E=>?_)
  ·refine bo 11 U<|aG<|aH<|KK H<|ao<|rP 2 [] I ?_
   refine aG ?_
   have AB:(vI (((k+1):Nat):Int))=(vI ((k:Int)+1)):=by exact cI om
   refine aW (F ⟨((k+1),false),⟨om,by exact (cq fun h=>by have h2:=((rR ho).1 h).2; rw [N] at E; exact E h2.1).symm⟩⟩ _ _ _ U os (cW 11<|bx U AB<|dB.nil _) (aL [1,2,3]))
  refine fD 11 [0,1] (mc 0 U (mc 1 U I)) U<|aG<|aH<|KK H<|ao<|rP 2 [] I ?_
  refine aG ?_
  have w:(vI (((k+1):Nat):Int))=(vI ((k:Int)+1)):=by exact cI om
  refine aW (F ⟨((k+1),(decide ((o.ew.Lo-x.ew.Hi)≤(Rq (AA (c.dh*(AA (x.At-o.At)))) 1000000)))),⟨om,by exact decide_eq_decide.2 (by rw [rR ho,N]; rw [N] at E; exact ⟨fun h=>⟨AG,E,h⟩,fun h=>h.2.2⟩)⟩⟩ _ _ _ U os (cW 11<|bx U w<|dB.nil _) (aL [1,2,3]))
 refine ao<|rP 4 [] (mc 0 U I) ?_
 refine cZ (xs:=[.tmp 34]) (cs:=[(vI x.At)]) U cx i_ U U U U (by simp [Value.cells]) U U fun AH=>?_
 refine rS (CL (eg.eq (iH ((j6 c i)+1) 86400000 ([x.At]) (some ⟨AH,0,none⟩) 1 (by (simp; done))) cU) (aw (a_ 0 U U (by simp [bK]) U)<|aK) U) ?_
 refine rP 1 [] I ?_
 refine ck (t:=37) U (aR fun AN=>?_) (aP fun AN=>?_)
 ·refine rP 19 [] I ?_
  refine aG ?_
  have v:(decide (fp c i x))=false:=cq (by unfold fp; omega)
  refine aW (iZ (cW 8<|np U v<|dB.nil _) (aL [1,2,3]) (G ()))
 refine rP 6 [] (mc 1 U I) ?_
 refine cZ (xs:=[.tmp 40,.tmp 43]) (cs:=[(vI x.ew.Lo),(vI x.ew.Hi)]) U cx i_ U U U U (by simp [Value.cells]) U U fun AI=>?_
 refine rS (CL (eg.eq (iH (-10000) 10000 ([x.ew.Lo,x.ew.Hi]) (some ⟨AI,0,none⟩) 2 (by (simp; done))) qN) (aw (a_ 0 U U (by simp [bK]) U)<|aK) U) ?_
 refine rP 2 [] I ?_
 refine ck (t:=47) U (aR fun AO=>?_) (aP fun AO=>?_)
 ·refine rP 9 [] I ?_
  refine aG ?_
  have u:(decide (fp c i x))=false:=cq (by unfold fp; omega)
  refine aW (iZ (cW 8<|np U u<|dB.nil _) (aL [2,3,4]) (G ()))
 refine rP 9 [] (mc 2 U I) ?_
 refine aG ?_
 have s:(decide (fp c i x))=(decide (x.ew.Lo≤x.ew.Hi)):=decide_eq_decide.2 (by unfold fp; omega)
 refine aW (iZ (cW 8<|np U s<|dB.nil _) (aL [2,3,4]) (G ()))
theorem Ra (ms:List au) (az:List RA) (k:Nat) (m:au) (a:RA) (hm:ms[k]? =some m) (ha:az[k]? =some a) (hc:m.bw.length≤a.2∧m.bw.length≤1000000):
 eg Tryz.prog 114 [(vA (du.cells (du.mk m.dh (aN.mk a.1 m.bw.length a.2))))] [(e9 (aS au.gW ms az))] (vB (!(decide (eX m)))):=by
 obtain ⟨C,D⟩:=hc
 refine bI kr Tryz.func114 U U fun F Q hQ hN=>?_
 try dsimp only
 refine WS fun _ A=>fR U fun E=>bo 1 U<|RK A<|WS fun _ B=>fD 1 [] (mc 0 U I) U<|rS (CL (Pc m a.1 a.2 asm asm) (aw (show iU _ (rd a.1 m.bw.length 3 (m.bw.map cG.cells)).holds from (dy 1 U (b_ hm ha (by simp [au.gW]))))<|aK) U)<|rP 2 [] I ?_
 refine RK B<|aq ?_
 exact Q1 hQ U U U U
theorem Ha (l:List au) (az:List RA) (lA:OA) (lC:Nat) (f:Value) (p:au→Bool) (X:av) (hf: ∀ (k:Nat) m a,l[k]? =some m→az[k]? =some a→D9 Tryz.prog f [.agg (au.cells m a).toArray] [X] (.bool (p m))) (hlen:l.length≤1000000) (has:az.length=l.length):
 eg Tryz.prog 141 [(vS lA l.length lC),f] [(rd lA l.length 2 (List.zipWith au.cells l az)),(e9 (aS au.gW l az)),X] (vI (sw p l)):=by
 refine bI kr Tryz.func141 U U fun T Q hQ hN=>?_
 try dsimp only
 refine WS fun _ AA=>bo 1 U<|RK AA<|al fun _ J=>WS fun _ K=>rP 3 [] I ?_
 refine RK K<|ay ?_
 have B:(0≤l.length)∧((l.take 0).any p=false):=by simp
 refine bS (ι:={z:Nat // (z≤l.length)∧((l.take z).any p=false)}) [0,1,7] [0,1,2] U U (fun z=>[(8,(vI (z.1:Int)))]) (fun z=>[]) (fun _=>rfl) (fun _=>rfl) (fun z=>l.length-z.1) ⟨0,B⟩ (aV U) (aL [0,1,2]) ?_
 clear B
 rintro ⟨i,⟨P,A⟩⟩ J4 H
 try dsimp only
 refine WS fun _ L=>rP 1 [] I ?_
 refine RK L<|al fun _ M=>bV U (aR fun S=>?_) (aP fun S=>?_)
 ·refine bE<|ag<|ag<|aA<|KK J<|WS fun _ E=>rP 1 [] I ?_
  refine RK E<|aq<|Q1 hQ U U U ?_
  exact cI (rM om A).symm
 refine WK M<|al fun _ N=>ay<|WS fun _ O=>bo 2 U<|RK O<|WS fun _ C=>rP 3 [] I ?_
 obtain ⟨x,hx⟩:=aM l i om
 obtain ⟨xa,G⟩:=aM az i om
 have R:(List.zipWith au.cells l az)[i]? =some (au.cells x xa):=dT hx G
 refine rS (IA i U (aD 0 U) Ak dc om om)<|rS (ot i 0 (du.cells (du.mk x.dh (aN.mk xa.1 x.bw.length xa.2))) U cd (aD 0 U) R U dc U U)<|rS (SX (rF U U U (hf i x xa hx G) (bp [2])) U U)<|RK C<|cO U (fun hp=>?_) (fun hp=>?_)
 ·refine WS fun _ D=>rP 2 [] I ?_
  refine RK D<|aq<|Q1 hQ U U U ?_
  exact cI (xq hx hp A).symm
 refine cp<|aH<|KK N<|ao<|rP 2 [] I ?_
 refine aG ?_
 have F:(vI (((i+1):Nat):Int))=(vI ((i:Int)+1)):=by exact cI om
 refine aW (H ⟨(i+1),⟨om,vO hx A hp⟩⟩ _ _ _ U os (cW 3<|bx U F<|dB.nil _) (aL [0,1,2]))
theorem zZ (l:List au) (az:List RA) (lA:OA) (lC:Nat) (f:Value) (p:au→Bool) (X:av) (hf: ∀ (k:Nat) m a,l[k]? =some m→az[k]? =some a→D9 Tryz.prog f [.agg (au.cells m a).toArray] [X] (.bool (p m))) (hlen:l.length≤1000000) (has:az.length=l.length):
 eg Tryz.prog 113 [(vS lA l.length lC),f] [(rd lA l.length 2 (List.zipWith au.cells l az)),(e9 (aS au.gW l az)),X] (vB (l.any p)):=by
 refine bI kr Tryz.func113 U U fun C Q hQ hN=>?_
 try dsimp only
 refine WS fun _ A=>bo 1 U<|RK A<|WS fun _ B=>bo 2 U<|rS (CL (Ha l az lA lC f p X (by exact hf) hlen has) (NZ 0 1 2 U U U U U U) U)<|rP 2 [] I ?_
 refine RK B<|aq<|Q1 hQ U U U ?_
 exact cB tx
theorem Hj (l:List bG) (lA:OA) (lC:Nat) (f:Value) (p:bG→Bool) (X:av) (hf: ∀ x0,x0∈l→D9 Tryz.prog f [.agg (bG.cells x0).toArray] [X] (.bool (p x0))) (hlen:l.length≤1000000):
 eg Tryz.prog 143 [(vS lA l.length lC),f] [(rd lA l.length 4 (l.map bG.cells)),X] (vI (sw p l)):=by
 refine bI kr Tryz.func143 U U fun S Q hQ hN=>?_
 try dsimp only
 refine WS fun _ H=>bo 1 U<|RK H<|al fun _ AA=>WS fun _ J=>rP 3 [] I ?_
 refine RK J<|ay ?_
 have B:(0≤l.length)∧((l.take 0).any p=false):=by simp
 refine bS (ι:={z:Nat // (z≤l.length)∧((l.take z).any p=false)}) [0,1,7] [0,1] U U (fun z=>[(8,(vI (z.1:Int)))]) (fun z=>[]) (fun _=>rfl) (fun _=>rfl) (fun z=>l.length-z.1) ⟨0,B⟩ (aV U) (aL [0,1]) ?_
 clear B
 rintro ⟨i,⟨O,A⟩⟩ J4 G
 try dsimp only
 refine WS fun _ K=>rP 1 [] I ?_
 refine RK K<|al fun _ L=>bV U (aR fun R=>?_) (aP fun R=>?_)
 ·refine bE<|ag<|ag<|aA<|KK AA<|WS fun _ E=>rP 1 [] I ?_
  refine RK E<|aq<|Q1 hQ U U U ?_
  exact cI (rM om A).symm
 refine WK L<|al fun _ M=>ay<|WS fun _ N=>bo 2 U<|RK N<|WS fun _ C=>rP 3 [] I ?_
 obtain ⟨x,hx⟩:=aM l i om
 have P:=bL bG.cells hx
 refine rS (IA i U (aD 0 U) vh dc om om)<|rS (ot i 0 (bG.cells x) U cd (aD 0 U) P U dc U U)<|rS (SX (rF U U U (hf x (aU hx)) (bp [1])) U U)<|RK C<|cO U (fun hp=>?_) (fun hp=>?_)
 ·refine WS fun _ D=>rP 2 [] I ?_
  refine RK D<|aq<|Q1 hQ U U U ?_
  exact cI (xq hx hp A).symm
 refine cp<|aH<|KK M<|ao<|rP 2 [] I ?_
 refine aG ?_
 have F:(vI (((i+1):Nat):Int))=(vI ((i:Int)+1)):=by exact cI om
 refine aW (G ⟨(i+1),⟨om,vO hx A hp⟩⟩ _ _ _ U os (cW 3<|bx U F<|dB.nil _) (aL [0,1]))
theorem As (l:List bG) (lA:OA) (lC:Nat) (f:Value) (p:bG→Bool) (X:av) (hf: ∀ x0,x0∈l→D9 Tryz.prog f [.agg (bG.cells x0).toArray] [X] (.bool (p x0))) (hlen:l.length≤1000000):
 eg Tryz.prog 117 [(vS lA l.length lC),f] [(rd lA l.length 4 (l.map bG.cells)),X] (vB (l.any p)):=by
 refine bI kr Tryz.func117 U U fun C Q hQ hN=>?_
 try dsimp only
 refine WS fun _ A=>bo 1 U<|RK A<|WS fun _ B=>bo 2 U<|rS (CL (Hj l lA lC f p X (by exact hf) hlen) (bp [0,1]) U)<|rP 2 [] I ?_
 refine RK B<|aq<|Q1 hQ U U U ?_
 exact cB tx
end
section
open Go.RowKit
theorem px (a:aa) (l:List aa) (lA:OA) (lC:Nat) (ha:lj a) (hl: ∀ z∈l,lj z) (hlen:l.length≤4):
 eg Tryz.prog 147 [(vA (aa.cells a)),(vS lA l.length lC)] [(rd lA l.length 2 (l.map aa.cells))] (vA (aa.cells (ku a l))):=by
 refine bI kr Tryz.func147 U U fun AA Q hQ hN=>?_
 try dsimp only
 refine WS fun _ AB=>fR U fun R=>AL U dg fun T=>RK AB<|al fun _ J=>WS fun _ K=>rP 3 [] I ?_
 refine RK K<|ay ?_
 have A:(0≤l.length):=by exact Nat.zero_le _
 refine bS (ι:={z:Nat // (z≤l.length)}) [2,4,7,8] [0,2] U U (fun z=>[(9,(vI (z.1:Int)))]) (fun z=>[(bY R 38 (aa.cells (ku a (l.take z.1))))]) (fun _=>rfl) (fun _=>rfl) (fun z=>l.length-z.1) ⟨0,A⟩ (aV U) (aL [0,2,1]) ?_
 clear A
 rintro ⟨i,N⟩ J6 H
 try dsimp only
 refine WS fun _ L=>rP 1 [] I ?_
 refine RK L<|al fun _ M=>bV U (aR fun S=>?_) (aP fun S=>?_)
 ·refine bE<|ag<|ag<|aA<|KK J<|al fun _ D=>?_
  have G:(aa.cells (ku a (l.take i)))=(aa.cells (ku a l)):=by rw [H0 om]
  rw [G]
  refine ao<|rP 1 [] (mc 2 U I) ?_
  refine fQ U cu U<|RK D<|aq ?_
  exact HO hQ [0] (mc 0 U I) U U
 refine WK M<|al fun _ B=>ay<|WS fun _ C=>?_
 obtain ⟨x,hx⟩:=aM l i om
 have O:=bL aa.cells hx
 refine rS (IA i U (aD 1 U) jG dc om om)<|rS (ot i 0 (aa.cells x) U cd (aD 1 U) O U dc U U)<|AL U dg fun P=>fQ U cu U<|RK C<|ao ?_
 have hb:=Qo ha hl i
 have hz:=hl x (aU hx)
 unfold lj at hz
 refine rP 10 [0,1,0,1] (mc 3 U (mc 0 U I)) ?_
 refine rS (SX (bj (xs:=[(0,.tmp 17),(1,.tmp 22)]) (cs:=(aa.cells (aa.mk (((ku a (l.take i)).Lo)+x.Lo) (((ku a (l.take i)).Hi)+x.Hi)))) U U (bk gj U)) U U)<|Tf U cu U<|aG<|aH<|KK B ?_
 have E:(aa.cells (aa.mk (((ku a (l.take i)).Lo)+x.Lo) (((ku a (l.take i)).Hi)+x.Hi)))=(aa.cells (ku a (l.take (i+1)))):=by rw [yS hx]; rfl
 rw [E]
 refine ao<|rP 2 [] I ?_
 refine aG ?_
 have F:(vI ((i+1):Int))=(vI ((i:Int)+1)):=by exact cI om
 refine aW (H ⟨(i+1),(by first|omega|(simp only []; omega))⟩ _ _ _ U os (cW 4<|bx U F<|dB.nil _) (aL [1,2,3]))
theorem Fv (ts:List an) (tsA:OA) (tsC:Nat) (hlen:ts.length≤1000000) (hside: ∀ x∈ts,0≤x.iN∧x.iN≤255):
 eg Tryz.prog 144 [(vA (aZ.cells (aZ.mk (aN.mk tsA ts.length tsC))))] [(rd tsA ts.length 9 (ts.map an.cells))] (vT [(vA (ep.cells (ep.mk (aZ.mk (aN.mk tsA ts.length tsC))))),(vI (if cV ts=true then 0 else 10))]):=by
 refine bI kr Tryz.func144 U U fun E Q hQ hN=>?_
 try dsimp only
 refine WS fun _ A=>fR U fun C=>AL U IC fun D=>bo 1 U<|RK A<|al fun _ B=>dq cy 4 kr<|mu 1 [] (mc 1 U I) U<|dS (SX (bj (xs:=[(0,.tmp 4)]) (cs:=(ep.cells (ep.mk (aZ.mk (aN.mk tsA ts.length tsC))))) U U (bk RV U)) U U)<|mu 1 [] (mc 1 U I) U<|dS (CL (AH ts tsA tsC hlen hside) (bp [2]) U)<|cL<|fQ U JC U<|rP 1 [] I ?_
 refine RK B<|aq ?_
 exact lg hQ [0] (mc 0 U I) U U
theorem MK (f:Int) (tsA:OA) (tsN tsC:Nat):
 lE Tryz.prog 158 [(vA (ep.cells (ep.mk (aZ.mk (aN.mk tsA tsN tsC))))),(vI f)] [] (fun (x:Nat×Nat)=>(Value.func (.func 166) [].toArray [(Value.pointer (some ⟨x.1,0,none⟩)),(Value.pointer (some ⟨x.2,0,none⟩))].toArray)) (fun (x:Nat×Nat)=>True) (fun (x:Nat×Nat)=>[(bY x.1 3 [(vI f)]),(bY x.2 203 (ep.cells (ep.mk (aZ.mk (aN.mk tsA tsN tsC)))))]):=by
 refine dv kr Tryz.func158 U U fun E Q hQ hN=>?_
 try dsimp only
 refine WS fun _ A=>fR U fun C=>uh U U fun D=>bo 1 U<|RK A<|WS fun _ B=>rS (FU U)<|rP 1 [] I ?_
 refine RK B<|aq<|LX hQ (D,C) [0,1] [] I U U U U ?_
 trivial
theorem HK (ts:List an) (tsA:OA) (tsC:Nat) (f:Int) (g1 g2:Nat) (hst: ∀ x∈ts,bP x) (hlen:ts.length≤12) (hf:0≤f∧f≤ts.length):
 Nx Tryz.prog 166 [] [(vP g1),(vP g2)] [(rd tsA ts.length 9 (ts.map an.cells)),(bY g1 3 [(vI f)]),(bY g2 203 (ep.cells (ep.mk (aZ.mk (aN.mk tsA ts.length tsC)))))] (s7 ts f.toNat):=by
 refine E4 kr Tryz.func166 U U fun l J Z A0 p Q hY g d hQ hN=>?_
 try dsimp only
 refine WS fun _ h=>AL U dg fun n=>AL U dg fun o=>RK h<|WS fun _ i=>rP 2 [] (mr 4 U I) ?_
 refine RK i<|ay ?_
 have P:(0≤ts.length-f.toNat)∧(J 0 A0)∧(Fo A0 p A0):=by exact ⟨Nat.zero_le _,g,d⟩
 have m:(vI (f+(0:Int)))=(vI f):=by exact cI om
 refine bS (ι:={z:Nat×av // (z.1≤ts.length-f.toNat)∧(J z.1 z.2)∧(Fo A0 p z.2)}) [0,1,2,4,5] [3,4,5] U U (fun z=>[(6,(vI (f+(z.1.1:Int))))]) (fun z=>[(bY o 38 (aa.cells (gd ts f.toNat z.1.1))),(bY n 38 (aa.cells (eE ts f.toNat z.1.1))),z.1.2]) (fun _=>rfl) (fun _=>rfl) (fun z=>ts.length-f.toNat-z.1.1) ⟨(0,A0),P⟩ (bx U m<|dB.nil _) (aL [3,4,5,0,1,2]) ?_
 clear P
 rintro ⟨⟨k,A⟩,⟨W,R,S⟩⟩ J6 V
 try dsimp only at W R S
 try dsimp only
 refine al fun _ j=>WS fun _ X=>rP 3 [0,1] (mc 4 U (mc 3 U I)) ?_
 refine Fk 5 hY R S U U U (yK om) U U (fun B9 C B=>?_) (fun B9 C B=>?_)
 rotate_left 1
 ·refine rP 8 [] I ?_
  refine RK X<|aX U<|bE<|ag<|ag<|aA ?_
  refine hN _ _ _ (gV (vs:=[]) trivial fun w hs=>Ol 5 U C B hs)
 refine rP 8 [] (mr 2 U I) ?_
 refine RK X<|bV U (aR fun c=>?_) (aP fun c=>?_)
 ·refine bE<|ag<|ag<|aA ?_
  refine hN _ _ _ (gV (vs:=[]) trivial fun w hs=>SY 5 U (by rw [te]; have e:ts.length-f.toNat+1=k+1:=om; rw [e]; exact C) B hs)
 refine WK j<|al fun _ M=>ay<|pw cy [0,1,2,3,4,5,6,7,10,11,12,13,14,15,16,17] [8,9,18,19,20,21] [true,false,false,false,false,false,false,false,true,false,false,false,false,false,false,false] [8,9,18] [(rd tsA ts.length 9 (ts.map an.cells)).ro,(bY g1 3 [(vI f)]).ro,(bY g2 203 (ep.cells (ep.mk (aZ.mk (aN.mk tsA ts.length tsC))))).ro,B9] [(rd tsA ts.length 9 (ts.map an.cells)).ro,(bY g1 3 [(vI f)]).ro,(bY g2 203 (ep.cells (ep.mk (aZ.mk (aN.mk tsA ts.length tsC))))).ro,(bY o 38 (aa.cells (gd ts f.toNat k))),(bY n 38 (aa.cells (eE ts f.toNat k))),B9] kr (aL [0,1,2,5]) (aL [0,1,2,3,4,5])<|fS U (LW 4 U cd U U)<|eS U (FA 0 U fB U)<|eS U (FA 0 U fB U)<|eS U (HN (vS tsA ts.length tsC) 2 U cd U U)<|eS U (MV U) ?_
 obtain ⟨x,hx⟩:=aM ts (f.toNat+k) om
 have a:=bL an.cells hx
 refine eS U (IA (f.toNat+k) U (aD 0 U) xX dc om om) ?_
 have L:=hst x (aU hx)
 refine eS U (nH (((f.toNat+k)*9)+1) U (aD 0 U) (Nat.mul_pos om dc) fB U)<|eS U (ot (f.toNat+k) 1 (aa.cells x.kj) U cd (aD 0 U) a U dc U U)<|fS U (LW 3 U cd U U)<|eS U (FA 0 U fB U)<|eS U (FA 0 U fB U)<|eS U (HN (vS tsA ts.length tsC) 2 U cd U U)<|eS U (MV U)<|eS U (IA (f.toNat+k) U (aD 0 U) xX dc om om)<|eS U (nH (((f.toNat+k)*9)+3) U (aD 0 U) (Nat.mul_pos om dc) fB U)<|eS U (ot (f.toNat+k) 3 (aa.cells x.lJ) U cd (aD 0 U) a U dc U U)<|e7 U<|iR [8,18] kr (eJ ?_<|eJ ?_<|kI)
 rotate_left 1
 ·refine uU (rem':=[8,9,19,20,21]) U kr fun T14 N=>cZ (xs:=[.tmp 39]) (cs:=(aa.cells x.lJ)) U jG dg U U U U (by simp [Value.cells,aa.aT]) U U fun T=>aG (N _ _ (aL [1,2,3,6]) (aL [1,2,3,4,5,6]) ?_)
  refine N1 8<|uU (rem':=[9,19,20,21]) U kr fun T16 D=>cZ (xs:=[.tmp 29]) (cs:=(aa.cells x.kj)) U jG dg U U U U (by simp [Value.cells,aa.aT]) U U fun AA=>aG (D _ _ (aL [2,3,4,7]) (aL [2,3,4,5,6,7]) ?_)
  refine N1 9<|uU (rem':=[19,20,21]) U kr fun T18 O=>?_
  refine rS (CL (eg.eq (px (eE ts f.toNat k) ([x.kj]) (some ⟨AA,0,none⟩) 1 (by exact p8 hst om) (by intro z hz; simp only [bW] at hz; subst hz; exact uv L) sm) nm) (aw (a_ 0 rfl rfl (by simp [aa.aT]) rfl)<|aK) rfl) ?_
  refine aG (O _ _ (aL [2,3,4,7]) (aL [2,3,4,5,6,7]) ?_)
  refine N1 19<|NO U U [20,21] fun T19 E=>?_
  refine rS (CL (eg.eq (px (gd ts f.toNat k) ([x.lJ]) (some ⟨T,0,none⟩) 1 (by exact wi hst om) (by intro z hz; simp only [bW] at hz; subst hz; exact ug L) sm) nm) (aw (a_ 1 rfl rfl (by simp [aa.aT]) rfl)<|aK) rfl) ?_
  refine aG (E _ _ (aL [2,3,4,7]) ?_)
  refine N1 20<|NO U U [21] fun T20 F=>Oc U cu U<|aG (F _ _ (aL [2,3,4,7]) ?_)
  refine N1 21<|NO U U [] fun T21 G=>HP U cu U<|aG (G _ _ (aL [2,3,4,7]) ?_)
  refine pG<|aH<|KK M ?_
  have H:(aa.cells (l_ (eE ts f.toNat k) x.kj))=(aa.cells (eE ts f.toNat (k+1))):=by rw [pc hx]
  rw [H]
  have AB:(aa.cells (l_ (gd ts f.toNat k) x.lJ))=(aa.cells (gd ts f.toNat (k+1))):=by rw [po hx]
  rw [AB]
  refine ao<|rP 3 [] I ?_
  refine aG ?_
  have K:(vI (f+(((k+1):Nat):Int)))=(vI ((f+(k:Int))+1)):=by exact cI om
  refine aW (V ⟨((k+1),B9),⟨om,C,B⟩⟩ _ _ _ U os (cW 5<|bx U K<|dB.nil _) (aL [2,3,4,5,6,7]))
 refine uU (rem':=[9,18,19,20,21]) U kr fun T14 N=>cZ (xs:=[.tmp 29]) (cs:=(aa.cells x.kj)) U jG dg U U U U (by simp [Value.cells,aa.aT]) U U fun T=>aG (N _ _ (aL [1,2,3,6]) (aL [1,2,3,4,5,6]) ?_)
 refine iR [9,18] kr (eJ ?_<|eJ ?_<|kI)
 rotate_left 1
 ·refine uU (rem':=[9,19,20,21]) U kr fun T16 D=>cZ (xs:=[.tmp 39]) (cs:=(aa.cells x.lJ)) U jG dg U U U U (by simp [Value.cells,aa.aT]) U U fun AA=>aG (D _ _ (aL [2,3,4,7]) (aL [2,3,4,5,6,7]) ?_)
  refine N1 9<|uU (rem':=[19,20,21]) U kr fun T18 O=>?_
  refine rS (CL (eg.eq (px (eE ts f.toNat k) ([x.kj]) (some ⟨T,0,none⟩) 1 (by exact p8 hst om) (by intro z hz; simp only [bW] at hz; subst hz; exact uv L) sm) nm) (aw (a_ 1 rfl rfl (by simp [aa.aT]) rfl)<|aK) rfl) ?_
  refine aG (O _ _ (aL [2,3,4,7]) (aL [2,3,4,5,6,7]) ?_)
  refine N1 19<|NO U U [20,21] fun T19 E=>?_
  refine rS (CL (eg.eq (px (gd ts f.toNat k) ([x.lJ]) (some ⟨AA,0,none⟩) 1 (by exact wi hst om) (by intro z hz; simp only [bW] at hz; subst hz; exact ug L) sm) nm) (aw (a_ 0 rfl rfl (by simp [aa.aT]) rfl)<|aK) rfl) ?_
  refine aG (E _ _ (aL [2,3,4,7]) ?_)
  refine N1 20<|NO U U [21] fun T20 F=>Oc U cu U<|aG (F _ _ (aL [2,3,4,7]) ?_)
  refine N1 21<|NO U U [] fun T21 G=>HP U cu U<|aG (G _ _ (aL [2,3,4,7]) ?_)
  refine pG<|aH<|KK M ?_
  have H:(aa.cells (l_ (eE ts f.toNat k) x.kj))=(aa.cells (eE ts f.toNat (k+1))):=by rw [pc hx]
  rw [H]
  have AB:(aa.cells (l_ (gd ts f.toNat k) x.lJ))=(aa.cells (gd ts f.toNat (k+1))):=by rw [po hx]
  rw [AB]
  refine ao<|rP 3 [] I ?_
  refine aG ?_
  have K:(vI (f+(((k+1):Nat):Int)))=(vI ((f+(k:Int))+1)):=by exact cI om
  refine aW (V ⟨((k+1),B9),⟨om,C,B⟩⟩ _ _ _ U os (cW 5<|bx U K<|dB.nil _) (aL [2,3,4,5,6,7]))
 refine uU (rem':=[18,19,20,21]) U kr fun T16 D=>?_
 refine rS (CL (eg.eq (px (eE ts f.toNat k) ([x.kj]) (some ⟨T,0,none⟩) 1 (by exact p8 hst om) (by intro z hz; simp only [bW] at hz; subst hz; exact uv L) sm) nm) (aw (a_ 0 rfl rfl (by simp [aa.aT]) rfl)<|aK) rfl) ?_
 refine aG (D _ _ (aL [1,2,3,6]) (aL [1,2,3,4,5,6]) ?_)
 refine N1 18<|uU (rem':=[19,20,21]) U kr fun T17 Y=>cZ (xs:=[.tmp 39]) (cs:=(aa.cells x.lJ)) U jG dg U U U U (by simp [Value.cells,aa.aT]) U U fun b=>aG (Y _ _ (aL [2,3,4,7]) (aL [2,3,4,5,6,7]) ?_)
 refine N1 19<|NO U U [20,21] fun T19 E=>?_
 refine rS (CL (eg.eq (px (gd ts f.toNat k) ([x.lJ]) (some ⟨b,0,none⟩) 1 (by exact wi hst om) (by intro z hz; simp only [bW] at hz; subst hz; exact ug L) sm) nm) (aw (a_ 0 rfl rfl (by simp [aa.aT]) rfl)<|aK) rfl) ?_
 refine aG (E _ _ (aL [2,3,4,7]) ?_)
 refine N1 20<|NO U U [21] fun T20 F=>Oc U cu U<|aG (F _ _ (aL [2,3,4,7]) ?_)
 refine N1 21<|NO U U [] fun T21 G=>HP U cu U<|aG (G _ _ (aL [2,3,4,7]) ?_)
 refine pG<|aH<|KK M ?_
 have H:(aa.cells (l_ (eE ts f.toNat k) x.kj))=(aa.cells (eE ts f.toNat (k+1))):=by rw [pc hx]
 rw [H]
 have AB:(aa.cells (l_ (gd ts f.toNat k) x.lJ))=(aa.cells (gd ts f.toNat (k+1))):=by rw [po hx]
 rw [AB]
 refine ao<|rP 3 [] I ?_
 refine aG ?_
 have K:(vI (f+(((k+1):Nat):Int)))=(vI ((f+(k:Int))+1)):=by exact cI om
 refine aW (V ⟨((k+1),B9),⟨om,C,B⟩⟩ _ _ _ U os (cW 5<|bx U K<|dB.nil _) (aL [2,3,4,5,6,7]))
theorem J1 (ts:List an) (tsA:OA) (tsC:Nat) (f t:Int) (hst: ∀ x∈ts,bP x) (hlen:ts.length≤12) (hf:0≤f∧f≤t∧t≤ts.length):
 eg Tryz.prog 146 [(vA (ep.cells (ep.mk (aZ.mk (aN.mk tsA ts.length tsC))))),(vI f),(vI t)] [(rd tsA ts.length 9 (ts.map an.cells))] (vT [(vA (aa.cells (eE ts f.toNat (t-f).toNat))),(vA (aa.cells (gd ts f.toNat (t-f).toNat)))]):=by
 refine bI kr Tryz.func146 U U fun w0 Q hQ hN=>?_
 try dsimp only
 refine WS fun _ M=>fR U fun a=>uh U U fun b=>uh U U fun d=>AL U dg fun e=>AL U dg fun g=>RK M<|al fun _ AA=>WS fun _ V=>rP 2 [0,1] (mc 4 U (mc 3 U I)) ?_
 refine cX (MK f tsA ts.length tsC) (aK) U fun u n=>?_
 obtain ⟨B,C⟩:=u
 try dsimp only
 refine RK V<|ay<|kp 7 U (by exact fun _ h=>h) ?_
 refine FG (L0:=[(3,(vP a)),(4,(vP b)),(5,(vP d)),(6,(vP e)),(7,(vP g))]) (F:=[(rd tsA ts.length 9 (ts.map an.cells)).ro,(bY B 3 [(vI f)]),(bY C 203 (ep.cells (ep.mk (aZ.mk (aN.mk tsA ts.length tsC)))))]) (xs:=(s7 ts f.toNat)) (fun k (y:aa×aa×Int)=>(k≤(t-f).toNat)∧(y.2.2=f+(k:Int))) (fun k y=>[(bY g 38 (aa.cells y.2.1)),(bY e 38 (aa.cells y.1)),(bY d 3 [(vI t)]),(bY b 3 [(vI y.2.2)]),(bY a 203 (ep.cells (ep.mk (aZ.mk (aN.mk tsA ts.length tsC))))),(rd tsA ts.length 9 (ts.map an.cells)).ro]) (fun c (z:Unit)=>(c= .exit 0)) (fun _ z=>[(bY g 38 (aa.cells (gd ts f.toNat (t-f).toNat))),(bY e 38 (aa.cells (eE ts f.toNat (t-f).toNat))),(bY d 3 [(vI t)]),(bY b 3 [(vI t)]),(bY a 203 (ep.cells (ep.mk (aZ.mk (aN.mk tsA ts.length tsC))))),(rd tsA ts.length 9 (ts.map an.cells)).ro]) [3,4,5,6,7,8] [0,1,2] (dA,dA,f) U U (HK ts tsA tsC f B C (by first|assumption|omega|(simp; done)) (by first|assumption|omega|(simp; done)) om) U U U (by exact ⟨Nat.zero_le _,sm⟩) (by simp only [List.forall_mem_cons,List.not_mem_nil,false_imp_iff,implies_true,and_true]; exact ⟨⟨_,sm,(dD (bQ _))⟩,⟨_,sm,(bQ _)⟩,⟨_,sm,(bQ _)⟩⟩) (by exact C5) U (aV U) ?_ ?_ ?_ ?_
 rotate_left 1
 ·rintro q ⟨v,z2,m⟩ J
  obtain ⟨A,K⟩:=J
  try dsimp only at A K
  try dsimp only
  exfalso; rw [te] at A; omega
 ·rintro r id _ Y
  have hc:=Y
  cases hc
  try dsimp only
  refine aA<|KK AA<|al fun _ D=>dL cy [2,3] [] [] [0,1,2,3,4,5,6,7,8,9] [] U U U U U<|eS U (LW 5 U cd U U)<|eS U (LW 4 U cd U U)<|e7 U<|cf U fun T30 E=>HP U cu U<|aG (E _ _ (aL [0,1,2,3,4,5,6,7,8,9]) ?_)
  refine cf U fun T31 G=>Oy U cu U<|aG (G _ _ (aL [0,1,2,3,4,5,6,7,8,9]) ?_)
  refine fK U<|KK D<|aq<|hQ _ _ _ (oi 0 U U<|gV (vs:=[(vA (aa.cells (eE ts f.toNat (t-f).toNat))),(vA (aa.cells (gd ts f.toNat (t-f).toNat)))]) ⟨⟨_,U,.inl ⟨_,_,cd,pz (vs:=(aa.cells (eE ts f.toNat (t-f).toNat))) 5 U U,U,U⟩⟩,⟨_,U,.inl ⟨_,_,cd,pz (vs:=(aa.cells (gd ts f.toNat (t-f).toNat))) 4 U U,U,U⟩⟩,trivial⟩ fun w hs=>Eo ?_ hs)
  show (vT [(vA (aa.cells (eE ts f.toNat (t-f).toNat))),(vA (aa.cells (gd ts f.toNat (t-f).toNat)))])=(vT [(vA (aa.cells (eE ts f.toNat (t-f).toNat))),(vA (aa.cells (gd ts f.toNat (t-f).toNat)))])
  clear hs w hQ hN G T31 E T30 D V AA M
  rfl
 ·rintro s _ Z
  cases Z
 rintro k x ⟨v,z2,m⟩ l ra rb S w1 K13 Qr14 hx AB N H L j
 obtain ⟨hk,rfl⟩:=Gt hx
 obtain ⟨A,K⟩:=AB
 try dsimp only at A K
 try dsimp only
 refine WS fun _ O=>AL U dg fun o=>fQ U cu U<|RK O<|ao<|AL U dg fun p=>fQ U cu U<|aG<|iZ (fun _ _ h=>h) (aL [2,0,1,3,4,5,6,7,8])<|aW (N _ _ ?_)
 refine ay<|al fun _ P=>al fun _ R=>dL cy [2,3] [] [] [0,1,2,5,6,7,8] [] U U U U U<|eS U (LW 2 U cd U U)<|eS U (LW 1 U cd U U)<|e7 U<|cf U fun T21 W=>Oy U cu U<|aG (W _ _ (aL [0,1,2,5,6,7,8]) ?_)
 refine cf U fun T22 X=>Tf U cu U<|aG (X _ _ (aL [0,1,2,5,6,7,8]) ?_)
 refine fK U<|KK R<|WS fun _ T=>rP 3 [0,1] (mc 6 U (mc 5 U I)) ?_
 refine RK T<|cO U (aP fun i=>?_) (aR fun i=>?_)
 ·refine bE<|ag<|iv U ?_
  rw [show m=t from by omega]
  obtain rfl:k=(t-f).toNat:=by omega
  exact L _ () _ _ (by exact U) (aL [0,3,4,5,6,7,8])
 refine WK P<|ao<|rP 2 [] (mc 6 U I) ?_
 refine U8 U AE U U<|aG<|aH ?_
 exact H ((eE ts f.toNat k),(gd ts f.toNat k),(m+1)) _ _ (by refine ⟨om,?_⟩; dsimp only; omega) (aL [0,3,4,5,6,7,8])
end
section
open Go.RowKit
theorem Hc (i:Int) (s:cM) (ts:List an) (tsA:OA) (tsC g1:Nat) (hst: ∀ x∈ts,bP x) (hlen:ts.length≤12):
 eg Tryz.prog 157 [(vI i),(vA (cM.cells s)),(vP g1)] [(rd tsA ts.length 9 (ts.map an.cells)),(bY g1 203 (ep.cells (ep.mk (aZ.mk (aN.mk tsA ts.length tsC)))))] (vB (!(decide (fq ts s)))):=by
 refine bI kr Tryz.func157 U U fun AA Q hQ hN=>?_
 try dsimp only
 refine WS fun _ C=>fR U fun G=>rP 1 [] I ?_
 refine RK C<|al fun _ A=>pw cy [0,1,2,3,4,5,6] [7,8,9,10,11,12,13,14,15,16,17,18,19,20,21,22,23,24,25,26] [false,false,false,false,false,false,false] [] [(bY G 119 (cM.cells s)),(rd tsA ts.length 9 (ts.map an.cells)).ro,(bY g1 203 (ep.cells (ep.mk (aZ.mk (aN.mk tsA ts.length tsC))))).ro] [] kr (aL [0,1,2]) (aL [])<|eS U (FA 0 U fB U)<|eS U (FA 0 U fB U)<|eS U (HN (vS tsA ts.length tsC) 2 U cd U U)<|eS U (LN U P9)<|eS U (BI U (ru ⟨om,om⟩))<|eS U (FA 0 U fB U)<|eS U (L1 (vI s.aY) 0 U cd U U)<|e7 U<|N1 7<|NO U U [8,9,10,11,12,13,14,15,16,17,18,19,20,21,22,23,24,25,26] fun T4 D=>cZ (xs:=[.tmp 12]) (cs:=[(vI s.aY)]) U cx i_ U U U U (by simp [Value.cells]) U U fun H=>RD D 1 U<|KY [14,15,16,17,18,19,20,21,22,23,24,25,26,27,28,29,30,31,5] kr kr U _ U U (aL [1,2,3]) ?_
 refine dS (CL (eg.eq (oL 0 ((ts.length:Int)-1) ([s.aY]) (some ⟨H,0,none⟩) 1 (by (simp; done))) cU) (aw (a_ 0 U U (by simp [bK]) U)<|aK) U) ?_
 refine dP 2 [] I ?_
 refine gJ (t:=16) U (bh fun B=>?_) (bg fun B=>?_)
 ·refine km 9 U<|dP 7 [] I ?_
  refine cL<|RK A<|aq<|Q1 hQ U U U ?_
  (refine cB ?_; rw [cq (B1 om)]; rfl)
 refine km 1 U<|dS (LP (aa.cells s.mq) 1 U cd U U U)<|dP 5 [0,1] (mr 3 U (mc 1 U I)) ?_
 obtain ⟨x,hx⟩:=aM ts ((s.aY).toNat) om
 have E:=bL an.cells hx
 refine dS (IA ((s.aY).toNat) U (aD 2 U) xX dc om om)<|dS (nH ((((s.aY).toNat)*9)+1) U (aD 2 U) (Nat.mul_pos om dc) fB U) ?_
 have F:=(hst x (aU hx)).2.1
 simp only [dN] at F
 refine dS (nH ((((s.aY).toNat)*9)+1) U (aD 2 U) (Nat.mul_pos om dc) fB U)<|dS (fY ((s.aY).toNat) 1 (vI x.kj.Lo) U cd (aD 2 U) E U dc U)<|km 1 U<|dS (CL (vx s.mq 0 (x.kj.Lo-1)) (aK) U)<|dP 3 [] I ?_
 refine cL<|RK A<|aq<|Q1 hQ U U U ?_
 exact congrArg (fun b=>vB (!b)) (decide_eq_decide.2 (BW om hx).symm)
theorem Eu (l:List cM) (lA:OA) (lC:Nat) (f:Value) (p:Int→cM→Bool) (X:av) (hf: ∀ x0 x1,(∃ k:Nat,x0=(k:Int)∧l[k]? =some x1)→D9 Tryz.prog f [.int .i64 x0,.agg (cM.cells x1).toArray] [X] (.bool (p x0 x1))) (hlen:l.length≤1000000):
 lE Tryz.prog 156 [(vS lA l.length lC),f] [(rd lA l.length 3 (l.map cM.cells)),X] (fun (x:(OA)×Nat)=>(vS x.1 ((Jr (fun jj yy=>p (jj:Int) yy) l).length) x.2)) (fun (x:(OA)×Nat)=>True) (fun (x:(OA)×Nat)=>[(own x.1 x.2 3 1 ((Jr (fun jj yy=>p (jj:Int) yy) l).map iC))]):=by
 refine dv kr Tryz.func156 U U fun W Q hQ hN=>?_
 try dsimp only
 refine WS fun _ L=>bo 1 U<|RK L<|WS fun _ M=>bo 1 U<|RK M<|al fun _ N=>WS fun _ O=>rP 3 [] I ?_
 refine RK O<|ay<|fT 3 1 ?_
 have A:(0≤l.length):=by exact Nat.zero_le _
 refine bS (ι:={z:Nat×(OA)×Nat // (z.1≤l.length)}) [0,1,8,9] [1,2] U U (fun z=>[(5,(vS z.1.2.1 ((rL (fun jj yy=>p (jj:Int) yy) l z.1.1).length) z.1.2.2)),(10,(vI (z.1.1:Int)))]) (fun z=>[(own z.1.2.1 z.1.2.2 3 1 ((rL (fun jj yy=>p (jj:Int) yy) l z.1.1).map iC))]) (fun _=>rfl) (fun _=>rfl) (fun z=>l.length-z.1.1) ⟨(0,none,0),A⟩ (aV U) (aL [1,2,0]) ?_
 clear A
 rintro ⟨⟨i,a,c⟩,B⟩ J5 C
 try dsimp only at B
 try dsimp only
 refine WS fun _ P=>rP 1 [] I ?_
 refine RK P<|al fun _ R=>bV U (aR fun V=>?_) (aP fun V=>?_)
 ·refine bE<|ag<|ag<|aA<|KK N<|WS fun _ F=>?_
  rw [Ml (p:=fun (i:Nat) x=>p (i:Int) x) (show i=l.length by omega)]
  refine rP 2 [] I ?_
  refine RK F<|aq<|LX hQ (a,c) [2] [] I U U U U ?_
  trivial
 refine WK R<|al fun _ G=>ay<|WS fun _ D=>rP 1 [] I ?_
 obtain ⟨x,hx⟩:=aM l i om
 have S:=bL cM.cells hx
 refine rS (IA i U (aD 0 U) JI dc om om)<|rS (ot i 0 (cM.cells x) U cd (aD 0 U) S U dc U U)<|AL U CK fun T=>bo 1 U<|fQ U Kw U<|RK D<|WS fun _ E=>rP 3 [] (mc 0 U I) ?_
 refine rS (SX (rF U U U (hf (i:Int) x ⟨i,U,hx⟩) (bp [2])) U U)<|RK E<|bV U (fun hp=>?_) (fun hp=>?_)
 ·refine cp<|aH<|KK G<|ao ?_
  rw [← NR (p:=fun (i:Nat) x=>p (i:Int) x) hx hp]
  refine rP 2 [] I ?_
  refine aG ?_
  have AB:(vI (((i+1):Nat):Int))=(vI ((i:Int)+1)):=by exact cI om
  refine aW (C ⟨((i+1),a,c),(by first|omega|(simp only []; omega))⟩ _ _ _ U os (cW 5<|bx U AB<|dB.nil _) (aL [1,2,3]))
 refine ao<|rP 2 [] I ?_
 refine cZ (xs:=[.tmp 20]) (cs:=[(vI (i:Int))]) U cx i_ U U U U (by simp [Value.cells]) U U fun AA=>?_
 refine df (es2:=(List.map iC (rL (fun jj yy=>p (jj:Int) yy) l (i+1)))) (m':=(rL (fun jj yy=>p (jj:Int) yy) l (i+1)).length) 4 U U U pO U U sm (a_ (es:=List.map iC [(i:Int)]) 0 U U (by simp [bK]) U) (j9 _) (by have:=AF (p:=fun (i:Nat) x=>p (i:Int) x) (l:=l) (n:=i); simp; omega) (by have:=AF (p:=fun (i:Nat) x=>p (i:Int) x) (l:=l) (n:=i); simp only [maxLen]; omega) (by rw [Ip hx hp]; simp) sm U fun J K=>?_
 try dsimp only
 refine bo 1 U<|aG<|aH<|KK G<|ao<|rP 2 [] I ?_
 refine aG ?_
 have H:(vI (((i+1):Nat):Int))=(vI ((i:Int)+1)):=by exact cI om
 refine aW (C ⟨((i+1),J,K),(by first|omega|(simp only []; omega))⟩ _ _ _ U os (cW 5<|bx U H<|dB.nil _) (aL [2,3,4]))
theorem BZ (ts:List an) (tsA:OA) (tsC:Nat) (l:List cM) (lA:OA) (lC:Nat) (hst: ∀ x∈ts,bP x) (hlen:ts.length≤12) (hl:l.length≤4):
 eg Tryz.prog 145 [(vA (ep.cells (ep.mk (aZ.mk (aN.mk tsA ts.length tsC))))),(vS lA l.length lC)] [(rd tsA ts.length 9 (ts.map an.cells)),(rd lA l.length 3 (l.map cM.cells))] (vB (decide (∀ s∈l,fq ts s))):=by
 refine bI kr Tryz.func145 U U fun J Q hQ hN=>?_
 try dsimp only
 refine WS fun _ B=>fR U fun A=>bo 1 U<|RK B<|WS fun _ C=>rP 1 [] I ?_
 refine rS (FU U) ?_
 refine cX (Eu l lA lC (Value.func (.func 157) [].toArray [(vP A)].toArray) (fun E D=>(!(decide (fq ts D)))) (e9 [(rd tsA ts.length 9 (ts.map an.cells)),(bY A 203 (ep.cells (ep.mk (aZ.mk (aN.mk tsA ts.length tsC)))))]) (by intro E D _; exact ny (fi:=[]) (ca:=[(vP A)]) (lU (Hc E D ts tsA tsC A (by first|assumption|omega) (by first|assumption|omega)) (bp [0,1]))) om) (fG 2 U U<|aw (lW (bp [1,0]))<|aK) U fun G F=>?_
 obtain ⟨H,AA⟩:=G
 try dsimp only
 refine rP 3 [] I ?_
 refine RK C<|aq<|Q1 hQ U U U ?_
 exact congrArg Value.bool (decide_eq_decide.2 (by rw [show ∀ n:Nat,((n:Int)=0)↔n=0 from fun n=>by omega,F_]; simp only [Bool.not_eq_false',decide_eq_true_eq]; exact ⟨fun h s hs=>by obtain ⟨k,hk⟩:=List.getElem?_of_mem hs; exact h k s hk,fun h k s hk=>h s (List.mem_of_getElem? hk)⟩))
theorem C6 (z:aa) (hz:lj z):
 eg Tryz.prog 159 [(vA (aa.cells z))] [] (vA (aa.cells (nT z))):=by
 unfold lj at hz
 refine bI kr Tryz.func159 U U fun E Q hQ hN=>?_
 try dsimp only
 refine WS fun _ A=>fR U fun C=>AL U dg fun D=>RK A<|WS fun _ B=>fD 2 [] (mc 1 U I) U<|rS (NG U ⟨om,om⟩)<|rP 2 [] (mc 1 U I) ?_
 refine rS (NG U ⟨om,om⟩)<|rS (SX (bj (xs:=[(0,.tmp 5),(1,.tmp 8)]) (cs:=(aa.cells (aa.mk (-z.Hi) (-z.Lo)))) U U (bk gj U)) U U)<|fQ U cu U<|RK B<|aq ?_
 exact HO hQ [0] (mc 0 U I) U U
theorem Rh (ts:List an) (tsA:OA) (tsC:Nat) (s:cM) (hlen:ts.length≤1000000) (hside: ∀ x∈ts,0≤x.iN∧x.iN≤255):
 eg Tryz.prog 119 [(vA (aZ.cells (aZ.mk (aN.mk tsA ts.length tsC)))),(vA (cM.cells s))] [(rd tsA ts.length 9 (ts.map an.cells))] (vT [(vA (aa.cells (Qf ts s))),(vI (Fq ts s))]):=by
 refine bI kr Tryz.func119 U U fun Z Q hQ hN=>?_
 try dsimp only
 refine WS fun _ K=>fR U fun V=>fR U fun W=>AL U dg fun X=>bo 1 U<|RK K<|WS fun _ L=>fD 1 [] (mc 2 U I) U<|rS (CL (Fv ts tsA tsC hlen hside) (bp [3]) U)<|bo 3 U<|AL U IC fun Y=>fQ U JC U<|bo 1 U<|RK L<|al fun _ M=>WS fun _ N=>rP 2 [] I ?_
 refine RK N<|cO U (bh fun he=>?_) (bg fun he=>?_)
 ·refine WS fun _ O=>rS (SX (bj (xs:=[]) (cs:=(aa.cells (aa.mk 0 0))) U U (bk gj U)) U U)<|bo 1 U<|tw U cu U<|rP 1 [] I ?_
  refine RK O<|aq<|lg hQ [0] (mc 1 U I) U ?_
  (have e:=KM (s:=s) (za he).1; rw [e.1,e.2,(za he).2]<;>rfl)
 refine WK M<|al fun _ C=>WS fun _ D=>?_
 have B:=D_ he
 have H:=jJ B
 have R:=kx B
 refine rP 2 [0,1] (mc 0 U (mc 2 U I)) ?_
 refine cZ (xs:=[.tmp 20]) (cs:=(cM.cells s)) U JI CK U U U U (by simp [Value.cells,cM.aT]) U U fun AB=>?_
 refine rS (CL (eg.eq (BZ ts tsA tsC ([s]) (some ⟨AB,0,none⟩) 1 asm asm (by (simp; done))) C7) (fG 5 U U<|aw (a_ 0 U U (by simp [cM.aT]) U)<|aK) U) ?_
 refine rP 1 [] I ?_
 refine RK D<|cO U (bh fun A=>?_) (bg fun A=>?_)
 ·refine WS fun _ E=>rS (SX (bj (xs:=[]) (cs:=(aa.cells (aa.mk 0 0))) U U (bk gj U)) U U)<|Gl U cu U<|rP 1 [] I ?_
  refine RK E<|aq<|lg hQ [0] (mc 2 U I) U ?_
  (have e:=Js B A; rw [e.1,e.2]<;>rfl)
 refine WK C<|WS fun _ F=>?_
 have AA:=A.1
 have P:=qx H A
 refine fD 3 [0,1] (mc 1 U (mc 3 U I)) U<|rS (CL (J1 ts tsA tsC 0 s.aY asm asm om) (bp [5]) U)<|bo 3 U<|AL U dg fun S=>AL U dg fun T=>tw U cu U<|fQ U cu U<|RK F<|WS fun _ G=>rP 2 [] (mc 1 U I) ?_
 refine rS (LP (aa.cells s.mq) 5 U cd U U U)<|cZ (xs:=[.tmp 34]) (cs:=(aa.cells s.mq)) U jG dg U U U U (by simp [Value.cells,aa.aT]) U U fun J=>?_
 refine rS (CL (eg.eq (px (eE ts (0:Int).toNat (s.aY-0).toNat) ([s.mq]) (some ⟨J,0,none⟩) 1 (by exact p8 H om) (by intro z hz; simp only [bW] at hz; subst hz; exact P) sm) nm) (aw (a_ 0 rfl rfl (by simp [aa.aT]) rfl)<|aK) rfl) ?_
 refine HP U cu U<|rP 1 [] I ?_
 refine RK G<|aq<|lg hQ [0] (mc 5 U I) U ?_
 (have e:=vY B A; rw [e.1,e.2]; unfold LU; rw [show (s.aY-0).toNat=s.aY.toNat by rw [Int.sub_zero]]<;>rfl)
theorem Nu (ts:List an) (tsA:OA) (tsC:Nat) (p:cM) (q:cM) (hlen:ts.length≤1000000) (hside: ∀ x∈ts,0≤x.iN∧x.iN≤255):
 eg Tryz.prog 148 [(vA (aZ.cells (aZ.mk (aN.mk tsA ts.length tsC)))),(vA (cM.cells p)),(vA (cM.cells q))] [(rd tsA ts.length 9 (ts.map an.cells))] (vT [(vA (aa.cells (kE ts p q))),(vI (lI ts p q))]):=by
 refine bI kr Tryz.func148 U U fun w Q hQ hN=>?_
 try dsimp only
 refine WS fun _ c=>fR U fun r=>fR U fun s=>fR U fun t=>AL U dg fun u=>bo 1 U<|RK c<|WS fun _ d=>fD 1 [] (mc 3 U I) U<|rS (CL (Fv ts tsA tsC hlen hside) (bp [4]) U)<|bo 3 U<|AL U IC fun v=>fQ U JC U<|bo 1 U<|RK d<|al fun _ g=>WS fun _ h=>rP 2 [] I ?_
 refine RK h<|cO U (bh fun he=>?_) (bg fun he=>?_)
 ·refine WS fun _ G=>rS (SX (bj (xs:=[]) (cs:=(aa.cells (aa.mk 0 0))) U U (bk gj U)) U U)<|bo 1 U<|tw U cu U<|rP 1 [] I ?_
  refine RK G<|aq<|lg hQ [0] (mc 1 U I) U ?_
  (have e:=tQ (a:=p) (b:=q) (za he).1; rw [e.1,e.2,(za he).2]<;>rfl)
 refine WK g<|al fun _ H=>WS fun _ AB=>?_
 have A:=D_ he
 have F:=jJ A
 have j:=kx A
 refine rP 3 [0,1,2] (mc 0 U (mc 3 U (mc 2 U I))) ?_
 refine cZ (xs:=[.tmp 22,.tmp 23]) (cs:=((cM.cells p)++(cM.cells q))) U JI CK U U U U (by simp [Value.cells,cM.aT]) U U fun X=>?_
 refine rS (CL (eg.eq (BZ ts tsA tsC ([p,q]) (some ⟨X,0,none⟩) 2 asm asm (by (simp; done))) De) (fG 6 U U<|aw (a_ 0 U U (by simp [cM.aT]) U)<|aK) U) ?_
 refine rP 1 [] I ?_
 refine RK AB<|cO U (bh fun D=>?_) (bg fun D=>?_)
 ·refine WS fun _ J=>rS (SX (bj (xs:=[]) (cs:=(aa.cells (aa.mk 0 0))) U U (bk gj U)) U U)<|Gl U cu U<|rP 1 [] I ?_
  refine RK J<|aq<|lg hQ [0] (mc 2 U I) U ?_
  (have e:=oR A D; rw [e.1,e.2]<;>rfl)
 refine WK H<|WS fun _ K=>?_
 obtain ⟨hp,hq⟩:=D
 have n:=hp.1
 have o:=hq.1
 have i:=qx F hp
 have W:=qx F hq
 have V:=z9 i
 have B:=p8 F (f:=(min p.aY q.aY).toNat) (k:=(max p.aY q.aY-min p.aY q.aY).toNat) om
 refine fD 5 [0,1,2] (mc 1 U (mc 4 U (mc 3 U I))) U<|rS (MN U)<|fD 4 [0,1] (mc 4 U (mc 3 U I)) U<|rS (MX U)<|rS (CL (J1 ts tsA tsC (min p.aY q.aY) (max p.aY q.aY) asm asm om) (bp [6]) U)<|bo 3 U<|AL U dg fun l=>AL U dg fun m=>tw U cu U<|fQ U cu U<|RK K<|al fun _ C=>WS fun _ L=>rP 5 [0,1] (mc 5 U (mc 6 U I)) ?_
 refine RK L<|bV U (aR fun E=>?_) (aP fun E=>?_)
 ·refine WK C<|al fun _ N=>dL cy [6,7,8] [] [] [0,1,2,3,5,6,7,8] [] U U U U U<|eS U (LW 1 U cd U U)<|eS U (FA 1 U fB U)<|eS U (LP (aa.cells q.mq) 4 U cd U U U)<|eS U (FA 1 U fB U)<|eS U (LP (aa.cells p.mq) 5 U cd U U U)<|eS U (CL (C6 p.mq asm) (aK) U)<|eS U (AG U)<|e7 U<|cf U fun T26 S=>cZ (xs:=[.tmp 52,.tmp 55]) (cs:=((aa.cells q.mq)++(aa.cells (nT p.mq)))) U jG dg U U U U (by simp [Value.cells,aa.aT]) U U fun Z=>aG (S _ _ (aL [1,2,3,4,6,7,8,9]) ?_)
  refine cf U fun T28 T=>?_
  refine rS (CL (eg.eq (px (eE ts (min p.aY q.aY).toNat ((max p.aY q.aY)-(min p.aY q.aY)).toNat) ([q.mq,(nT p.mq)]) (some ⟨Z,0,none⟩) 2 (by first|exact B|exact z9 B) (by intro z hz; simp only [er,List.not_mem_nil,or_false] at hz; rcases hz with rfl|rfl; exact W; exact V) sm) Cf) (aw (a_ 0 rfl rfl (by simp [aa.aT]) rfl)<|aK) rfl) ?_
  refine aG (T _ _ (aL [1,2,3,4,6,7,8,9]) ?_)
  refine cf U fun T29 AA=>HP U cu U<|aG (AA _ _ (aL [1,2,3,4,6,7,8,9]) ?_)
  refine fK U<|KK N<|aq<|lg hQ [0] (mc 5 U I) U ?_
  (have e:=kT A ⟨hp,hq⟩; rw [e.1,e.2]; unfold jK wM; rw [if_neg E]<;>rfl)
 refine ao<|rP 1 [] (mc 1 U I) ?_
 refine rS (CL (C6 (eE ts (min p.aY q.aY).toNat ((max p.aY q.aY)-(min p.aY q.aY)).toNat) asm) (aK) U)<|tw U cu U<|RK C<|al fun _ M=>dL cy [6,7,8] [] [] [0,1,2,3,5,6,7,8] [] U U U U U<|eS U (LW 1 U cd U U)<|eS U (FA 1 U fB U)<|eS U (LP (aa.cells q.mq) 4 U cd U U U)<|eS U (FA 1 U fB U)<|eS U (LP (aa.cells p.mq) 5 U cd U U U)<|eS U (CL (C6 p.mq asm) (aK) U)<|eS U (AG U)<|e7 U<|cf U fun T21 O=>cZ (xs:=[.tmp 52,.tmp 55]) (cs:=((aa.cells q.mq)++(aa.cells (nT p.mq)))) U jG dg U U U U (by simp [Value.cells,aa.aT]) U U fun Y=>aG (O _ _ (aL [1,2,3,4,6,7,8,9]) ?_)
 refine cf U fun T23 P=>?_
 refine rS (CL (eg.eq (px (nT (eE ts (min p.aY q.aY).toNat ((max p.aY q.aY)-(min p.aY q.aY)).toNat)) ([q.mq,(nT p.mq)]) (some ⟨Y,0,none⟩) 2 (by first|exact B|exact z9 B) (by intro z hz; simp only [er,List.not_mem_nil,or_false] at hz; rcases hz with rfl|rfl; exact W; exact V) sm) Cf) (aw (a_ 0 rfl rfl (by simp [aa.aT]) rfl)<|aK) rfl) ?_
 refine aG (P _ _ (aL [1,2,3,4,6,7,8,9]) ?_)
 refine cf U fun T24 R=>HP U cu U<|aG (R _ _ (aL [1,2,3,4,6,7,8,9]) ?_)
 refine fK U<|KK M<|aq<|lg hQ [0] (mc 5 U I) U ?_
 (have e:=kT A ⟨hp,hq⟩; rw [e.1,e.2]; unfold jK wM; rw [if_pos E]<;>rfl)
theorem qE (ts:List an) (tsA:OA) (tsC:Nat) (s:cM) (hst: ∀ x∈ts,bP x) (hlen:ts.length≤12):
 eg Tryz.prog 134 [(vA (aZ.cells (aZ.mk (aN.mk tsA ts.length tsC)))),(vA (cM.cells s))] [(rd tsA ts.length 9 (ts.map an.cells))] (vB (decide (fq ts s))):=by
 refine bI kr Tryz.func134 U U fun H Q hQ hN=>?_
 try dsimp only
 refine WS fun _ C=>fR U fun F=>fR U fun G=>bo 1 U<|RK C<|al fun _ A=>dq cy 22 kr<|mu 6 [0,1] (mc 0 U (mc 1 U I)) U<|dS (CL (oJ s.aY 0 ((ts.length:Int)-1)) (aK) U)<|dP 1 [] I ?_
 refine iw (t:=12) U (aR fun B=>?_) (aP fun B=>?_)
 ·refine km 8 U<|dP 6 [] I ?_
  refine cL<|RK A<|aq<|Q1 hQ U U U ?_
  (refine cB ?_; rw [cq (B1 om)])
 refine km 1 U<|dS (LP (aa.cells s.mq) 0 U cd U U U)<|dP 4 [0,1] (mc 1 U (mc 0 U I)) ?_
 obtain ⟨x,hx⟩:=aM ts ((s.aY).toNat) om
 have D:=bL an.cells hx
 refine dS (IA ((s.aY).toNat) U (aD 2 U) xX dc om om)<|dS (nH ((((s.aY).toNat)*9)+1) U (aD 2 U) (Nat.mul_pos om dc) fB U) ?_
 have E:=(hst x (aU hx)).2.1
 simp only [dN] at E
 refine dS (nH ((((s.aY).toNat)*9)+1) U (aD 2 U) (Nat.mul_pos om dc) fB U)<|dS (fY ((s.aY).toNat) 1 (vI x.kj.Lo) U cd (aD 2 U) D U dc U)<|km 1 U<|dS (CL (o1 s.mq 0 (x.kj.Lo-1)) (aK) U)<|dP 2 [] I ?_
 refine cL<|RK A<|aq<|Q1 hQ U U U ?_
 exact cB (decide_eq_decide.2 (BW om hx).symm)
theorem zR (ts:List an) (tsA:OA) (tsC:Nat) (f t:Int) (hst: ∀ x∈ts,bP x) (hlen:ts.length≤12) (hf:0≤f∧f≤t∧t≤ts.length):
 eg Tryz.prog 162 [(vA (aZ.cells (aZ.mk (aN.mk tsA ts.length tsC)))),(vI f),(vI t)] [(rd tsA ts.length 9 (ts.map an.cells))] (vT [(vA (aa.cells (eE ts f.toNat (t-f).toNat))),(vA (aa.cells (gd ts f.toNat (t-f).toNat)))]):=by
 refine bI kr Tryz.func162 U U fun i Q hQ hN=>?_
 try dsimp only
 refine WS fun _ R=>fR U fun e=>AL U dg fun g=>AL U dg fun h=>RK R<|WS fun _ S=>AL U dg fun a=>AL U dg fun b=>RK S<|al fun _ T=>WS fun _ AA=>rP 2 [] I ?_
 refine RK AA<|ay ?_
 have A:(0≤(t-f).toNat):=by exact Nat.zero_le _
 have K:(vI (f+(0:Int)))=(vI f):=by exact cI om
 refine bS (ι:={z:Nat // (z≤(t-f).toNat)}) [1,2,3,6,7,8,9] [2,3,4,5] U U (fun z=>[(10,(vI (f+(z.1:Int))))]) (fun z=>[(bY b 38 (aa.cells (gd ts f.toNat z.1))),(bY a 38 (aa.cells (eE ts f.toNat z.1)))]) (fun _=>rfl) (fun _=>rfl) (fun z=>(t-f).toNat-z.1) ⟨0,A⟩ (bx U K<|dB.nil _) (aL [2,3,4,5,0,1]) ?_
 clear A
 rintro ⟨k,V⟩ J11 B
 try dsimp only
 refine al fun _ C=>WS fun _ D=>rP 3 [] I ?_
 refine RK D<|bV U (aR fun P=>?_) (aP fun P=>?_)
 ·refine bE<|ag<|ag<|aA<|KK T<|al fun _ H=>dL cy [2,3] [] [] [2,3,4,5] [] U U U U U<|eS U (LW 3 U cd U U)<|eS U (LW 2 U cd U U)<|e7 U<|cf U fun T23 AB=>tw U cu U<|aG (AB _ _ (aL [2,3,4,5]) ?_)
  refine cf U fun T24 J=>fQ U cu U<|aG (J _ _ (aL [2,3,4,5]) ?_)
  refine fK U<|KK H<|aq<|lg hQ [0,1] (mc 1 U (mc 0 U I)) U ?_
  obtain rfl:k=(t-f).toNat:=om; rfl
 refine WK C<|al fun _ E=>ay<|WS fun _ F=>rP 3 [] (mc 2 U I) ?_
 obtain ⟨x,hx⟩:=aM ts (f.toNat+k) om
 have Y:=bL an.cells hx
 refine rS (IA (f.toNat+k) U (aD 3 U) xX dc om om)<|rS (ot (f.toNat+k) 0 (an.cells x) U cd (aD 3 U) Y U dc U U)<|AL U Fx fun Z=>fQ U HT U<|RK F<|WS fun _ G=>?_
 have O:=hst x (aU hx)
 have d:=lS hst f.toNat k
 have c:=ET hst f.toNat k
 have W:=O.2.1
 have X:=O.2.2.1
 simp only [dN] at W X
 refine fD 12 [0,1,0,1] (mc 6 U (mc 0 U I)) U<|rS (SX (bj (xs:=[(0,.tmp 28),(1,.tmp 34)]) (cs:=(aa.cells (aa.mk (((eE ts f.toNat k).Lo)+x.kj.Lo) (((eE ts f.toNat k).Hi)+x.kj.Hi)))) U U (bk gj U)) U U)<|Oc U cu U<|RK G<|ao<|rP 12 [0,1,0,1] (mc 5 U (mc 0 U I)) ?_
 refine rS (SX (bj (xs:=[(0,.tmp 41),(1,.tmp 47)]) (cs:=(aa.cells (aa.mk (((gd ts f.toNat k).Lo)+x.lJ.Lo) (((gd ts f.toNat k).Hi)+x.lJ.Hi)))) U U (bk gj U)) U U)<|HP U cu U<|aG<|aH<|KK E ?_
 have L:(aa.cells (aa.mk (((eE ts f.toNat k).Lo)+x.kj.Lo) (((eE ts f.toNat k).Hi)+x.kj.Hi)))=(aa.cells (eE ts f.toNat (k+1))):=by rw [pc hx]; rfl
 rw [L]
 have M:(aa.cells (aa.mk (((gd ts f.toNat k).Lo)+x.lJ.Lo) (((gd ts f.toNat k).Hi)+x.lJ.Hi)))=(aa.cells (gd ts f.toNat (k+1))):=by rw [po hx]; rfl
 rw [M]
 refine ao<|rP 3 [] I ?_
 refine aG ?_
 have N:(vI (f+(((k+1):Nat):Int)))=(vI ((f+(k:Int))+1)):=by exact cI om
 refine aW (B ⟨(k+1),(by first|omega|(simp only []; omega))⟩ _ _ _ U os (cW 7<|bx U N<|dB.nil _) (aL [1,2,3,4,5,6]))
end
section
open Go.RowKit
theorem PQ (l:bf) (kA:OA) (kC:Nat) (az:List RA) (cA:OA) (cC:Nat) (bA:OA) (bC:Nat) (hin:eB l az):
 eg Tryz.prog 110 [(vA (bJ.cells (lh l kA kC cA cC bA bC)))] [(rd kA l.aI.length 9 (l.aI.map an.cells)),(rd cA l.ai.length 2 (List.zipWith au.cells l.ai az)),(e9 (aS au.gW l.ai az)),(rd bA l.ae.length 4 (l.ae.map bG.cells))] (vB (decide (gi l))):=by
 have R:=hin.sf
 have P:=hin.sh
 have N:=hin.oq
 have O:=hin.se
 refine bI kr Tryz.func110 U U fun T Q hQ hN=>?_
 try dsimp only
 refine WS fun _ G=>fR U fun S=>bo 1 U<|RK G<|WS fun _ A=>rP 2 [] (mc 0 U I) ?_
 refine cZ (xs:=[.tmp 4]) (cs:=[(vI l.dJ)]) U cx i_ U U U U (by simp [Value.cells]) U U fun H=>?_
 refine rS (CL (eg.eq (iH 1 5000 ([l.dJ]) (some ⟨H,0,none⟩) 1 (by (simp; done))) cU) (aw (a_ 0 U U (by simp [bK]) U)<|aK) U) ?_
 refine rP 1 [] I ?_
 refine ck (t:=7) U (aR fun K=>?_) (aP fun K=>?_)
 ·refine rP 36 [] I ?_
  refine RK A<|aq<|Q1 hQ U U U ?_
  exact cB (cq (by unfold gi; omega)).symm
 refine rP 3 [] (mc 1 U I) ?_
 refine cZ (xs:=[.tmp 10]) (cs:=[(vI (l.ai.length:Int))]) U cx i_ U U U U (by simp [Value.cells]) U U fun AA=>?_
 refine rS (CL (eg.eq (iH 1 4 ([(l.ai.length:Int)]) (some ⟨AA,0,none⟩) 1 (by (simp; done))) cU) (aw (a_ 0 U U (by simp [bK]) U)<|aK) U) ?_
 refine rP 2 [] I ?_
 refine ck (t:=14) U (aR fun L=>?_) (aP fun L=>?_)
 ·refine rP 29 [] I ?_
  refine RK A<|aq<|Q1 hQ U U U ?_
  exact cB (cq (by unfold gi; omega)).symm
 refine rP 3 [] (mc 2 U I) ?_
 refine cZ (xs:=[.tmp 17]) (cs:=[(vI (l.ae.length:Int))]) U cx i_ U U U U (by simp [Value.cells]) U U fun J=>?_
 refine rS (CL (eg.eq (iH 1 6 ([(l.ae.length:Int)]) (some ⟨J,0,none⟩) 1 (by (simp; done))) cU) (aw (a_ 0 U U (by simp [bK]) U)<|aK) U) ?_
 refine rP 2 [] I ?_
 refine ck (t:=21) U (aR fun M=>?_) (aP fun M=>?_)
 ·refine rP 22 [] I ?_
  refine RK A<|aq<|Q1 hQ U U U ?_
  exact cB (cq (by unfold gi; omega)).symm
 refine rP 6 [] (mc 3 U I) ?_
 refine cZ (xs:=[.tmp 27]) (cs:=[(vI l.bH)]) U cx i_ U U U U (by simp [Value.cells]) U U fun B=>?_
 refine rS (CL (eg.eq (iH 0 ((l.ae.length:Int)-1) ([l.bH]) (some ⟨B,0,none⟩) 1 (by (simp; done))) cU) (aw (a_ 0 U U (by simp [bK]) U)<|aK) U) ?_
 refine rP 2 [] I ?_
 refine ck (t:=31) U (aR fun E=>?_) (aP fun E=>?_)
 ·refine rP 12 [] I ?_
  refine RK A<|aq<|Q1 hQ U U U ?_
  exact cB (cq (by unfold gi; omega)).symm
 refine rP 2 [] (mc 4 U I) ?_
 refine cZ (xs:=[.tmp 33]) (cs:=[(vI l.cv)]) U cx i_ U U U U (by simp [Value.cells]) U U fun C=>?_
 refine rS (CL (eg.eq (iH 0 3 ([l.cv]) (some ⟨C,0,none⟩) 1 (by (simp; done))) cU) (aw (a_ 0 U U (by simp [bK]) U)<|aK) U) ?_
 refine rP 2 [] I ?_
 refine ck (t:=37) U (aR fun F=>?_) (aP fun F=>?_)
 ·refine rP 6 [] I ?_
  refine RK A<|aq<|Q1 hQ U U U ?_
  exact cB (cq (by unfold gi; omega)).symm
 refine rP 2 [] (mc 5 U I) ?_
 refine cZ (xs:=[.tmp 39]) (cs:=[(vI l.bM)]) U cx i_ U U U U (by simp [Value.cells]) U U fun D=>?_
 refine rS (CL (eg.eq (iH 0 3 ([l.bM]) (some ⟨D,0,none⟩) 1 (by (simp; done))) cU) (aw (a_ 0 U U (by simp [bK]) U)<|aK) U) ?_
 refine rP 2 [] I ?_
 refine RK A<|aq<|Q1 hQ U U U ?_
 exact cB (decide_eq_decide.2 (by unfold gi; omega))
theorem P0 (l:bf) (kA:OA) (kC:Nat) (az:List RA) (cA:OA) (cC:Nat) (bA:OA) (bC:Nat) (hin:eB l az):
 eg Tryz.prog 112 [(vA (bJ.cells (lh l kA kC cA cC bA bC)))] [(rd kA l.aI.length 9 (l.aI.map an.cells)),(rd cA l.ai.length 2 (List.zipWith au.cells l.ai az)),(e9 (aS au.gW l.ai az)),(rd bA l.ae.length 4 (l.ae.map bG.cells))] (vB (decide (∀ c∈l.ai,eX c))):=by
 have H:=hin.sf
 have G:=hin.sh
 have E:=hin.oq
 have F:=hin.se
 refine bI kr Tryz.func112 U U fun K Q hQ hN=>?_
 try dsimp only
 refine WS fun _ C=>fR U fun J=>bo 1 U<|RK C<|WS fun _ D=>rP 2 [] (mc 0 U I) ?_
 refine rS (CL (zZ l.ai az cA cC (Value.func (.func 114) [].toArray [].toArray) (fun m=>(!(decide (eX m)))) (e9 (aS au.gW l.ai az)) (by intro AA m a B A; exact ny (fi:=[]) (ca:=[]) (Ra l.ai az AA m a (by exact B) (by exact A) (by exact hin.Qy _ _ _ B A))) asm asm) (NZ 2 3 3 U U U U U U) U) ?_
 refine rP 2 [] I ?_
 refine RK D<|aq<|Q1 hQ U U U ?_
 exact cB (by rw [Bool.eq_iff_iff,decide_eq_true_eq]; exact Df)
theorem Pp (b:bG) (l:bf) (kA:OA) (kC:Nat) (az:List RA) (cA:OA) (cC:Nat) (bA:OA) (bC g1:Nat) (hin:eB l az) (htr:cV l.aI=true):
 eg Tryz.prog 118 [(vA (bG.cells b)),(vP g1)] [(rd kA l.aI.length 9 (l.aI.map an.cells)),(rd cA l.ai.length 2 (List.zipWith au.cells l.ai az)),(e9 (aS au.gW l.ai az)),(rd bA l.ae.length 4 (l.ae.map bG.cells)),(bY g1 28 (bJ.cells (lh l kA kC cA cC bA bC)))] (vB (!(decide (jE l b)))):=by
 have J:=hin.sf
 have H:=hin.sh
 have F:=hin.oq
 have G:=hin.se
 have AA:=hin.side
 refine bI kr Tryz.func118 U U fun M Q hQ hN=>?_
 try dsimp only
 refine WS fun _ C=>fR U fun K=>bo 1 U<|RK C<|WS fun _ D=>bo 1 U<|rS (U0 (aZ.cells (aZ.mk (aN.mk kA l.aI.length kC))) 5 U cd U U U)<|bo 1 U<|rS (LP (cM.cells b.mz) 0 U cd U U U)<|rS (CL (Rh l.aI kA kC b.mz asm asm) (bp [1]) U)<|bo 3 U<|AL U dg fun L=>fQ U cu U<|bo 1 U<|RK D<|WS fun _ B=>rP 3 [] I ?_
 refine ct (t:=16) U (bh fun A=>?_) (bg fun A=>?_)
 ·refine rP 11 [] I ?_
  refine RK B<|aq<|Q1 hQ U U U ?_
  (refine cB ?_; rw [cq (fun h:jE l b=>A ((Fy htr).2 h.1))]; rfl)
 refine rP 6 [0,1] (mr 6 U (mc 1 U I)) ?_
 refine cZ (xs:=[.tmp 22]) (cs:=[(vI b.jF)]) U cx i_ U U U U (by simp [Value.cells]) U U fun E=>?_
 refine rS (CL (eg.eq (iH 0 ((l.ai.length:Int)-1) ([b.jF]) (some ⟨E,0,none⟩) 1 (by (simp; done))) cU) (aw (a_ 0 U U (by simp [bK]) U)<|aK) U) ?_
 refine rP 3 [] I ?_
 refine RK B<|aq<|Q1 hQ U U U ?_
 (refine cB ?_; refine congrArg Bool.not (decide_eq_decide.2 ⟨fun h=>⟨(Fy htr).1 A,om,om⟩,fun h=>by have:=h.2; omega⟩))
theorem Qi (l:bf) (kA:OA) (kC:Nat) (az:List RA) (cA:OA) (cC:Nat) (bA:OA) (bC:Nat) (hin:eB l az) (htr:cV l.aI=true):
 eg Tryz.prog 116 [(vA (bJ.cells (lh l kA kC cA cC bA bC)))] [(rd kA l.aI.length 9 (l.aI.map an.cells)),(rd cA l.ai.length 2 (List.zipWith au.cells l.ai az)),(e9 (aS au.gW l.ai az)),(rd bA l.ae.length 4 (l.ae.map bG.cells))] (vB (decide (∀ b∈l.ae,jE l b))):=by
 have H:=hin.sf
 have G:=hin.sh
 have E:=hin.oq
 have F:=hin.se
 refine bI kr Tryz.func116 U U fun AA Q hQ hN=>?_
 try dsimp only
 refine WS fun _ B=>fR U fun A=>bo 1 U<|RK B<|WS fun _ C=>rP 2 [] (mc 0 U I) ?_
 refine rS (FU U) ?_
 refine rS (CL (As l.ae bA bC (Value.func (.func 118) [].toArray [(vP A)].toArray) (fun D=>(!(decide (jE l D)))) (e9 [(rd kA l.aI.length 9 (l.aI.map an.cells)),(rd cA l.ai.length 2 (List.zipWith au.cells l.ai az)),(e9 (aS au.gW l.ai az)),(rd bA l.ae.length 4 (l.ae.map bG.cells)),(bY A 28 (bJ.cells (lh l kA kC cA cC bA bC)))]) (by intro D _; exact ny (fi:=[]) (ca:=[(vP A)]) (lU (Pp D l kA kC az cA cC bA bC A (by first|assumption|omega) (by first|assumption|omega)) (bp [0,1,2,3,4]))) asm) (fG 4 U U<|aw (lW (bp [1,2,3,4,0]))<|aK) U) ?_
 refine rP 2 [] I ?_
 refine RK C<|aq<|Q1 hQ U U U ?_
 exact cB (by rw [Bool.eq_iff_iff,decide_eq_true_eq]; exact Hu)
theorem OC (l:bf) (kA:OA) (kC:Nat) (az:List RA) (cA:OA) (cC:Nat) (bA:OA) (bC:Nat) (n:Int) (hin:eB l az) (htr:cV l.aI=true) (hbk: ∀ b∈l.ae,jE l b) (hn:0≤n∧n<(l.ae.length:Int)):
 eg Tryz.prog 121 [(vA (bJ.cells (lh l kA kC cA cC bA bC))),(vI n)] [(rd kA l.aI.length 9 (l.aI.map an.cells)),(rd cA l.ai.length 2 (List.zipWith au.cells l.ai az)),(e9 (aS au.gW l.ai az)),(rd bA l.ae.length 4 (l.ae.map bG.cells))] (vI (lQ l n.toNat)):=by
 have P:=hin.sf
 have N:=hin.sh
 have L:=hin.oq
 have M:=hin.se
 have O:=hin.side
 refine bI kr Tryz.func121 U U fun AA Q hQ hN=>?_
 try dsimp only
 refine WS fun _ E=>fR U fun R=>bo 1 U<|RK E<|WS fun _ F=>rP 3 [] (mc 0 U I) ?_
 obtain ⟨x,hx⟩:=aM l.ae ((n).toNat) om
 have J:=bL bG.cells hx
 refine rS (IA ((n).toNat) U (aD 4 U) vh dc om om)<|rS (nH (((n).toNat)*4) U (aD 4 U) (Nat.mul_pos om dc) fB U)<|rS (ot ((n).toNat) 0 (cM.cells x.mz) U cd (aD 4 U) J U dc U U)<|AL U CK fun S=>fQ U Kw U<|RK F<|WS fun _ G=>bo 1 U<|rS (LP (aZ.cells (aZ.mk (aN.mk kA l.aI.length kC))) 1 U cd U U U)<|fD 1 [] (mc 0 U I) U<|rS (CL (Rh l.aI kA kC x.mz asm asm) (bp [2]) U)<|bo 3 U<|AL U dg fun T=>fQ U cu U<|bo 1 U<|RK G<|al fun _ C=>WS fun _ H=>rP 2 [] I ?_
 refine RK H<|bV U (aR fun D=>?_) (aP fun D=>?_)
 ·refine WK C<|WS fun _ B=>rP 3 [] (mc 0 U I) ?_
  refine RK B<|aq<|Q1 hQ U U U ?_
  (refine congrArg (Value.int .i64) ?_; rw [show n.toNat=0 by omega] at hx ⊢; rw [zi hx,(vY htr (hbk _ (List.mem_of_getElem? hx)).1).2])
 refine dL cy [14] [] [] [1,2,3,4,5,6] [] U U U U U<|eS U (FA 0 U fB U)<|eS U (LP (aZ.cells (aZ.mk (aN.mk kA l.aI.length kC))) 1 U cd U U U)<|eS U (FA 3 U fB U)<|eS U (L1 (vS bA l.ae.length bC) 1 U cd U U)<|eS U (MV U)<|eS U (BI U (ru ⟨om,om⟩)) ?_
 obtain ⟨y,hy⟩:=aM l.ae (((n-1)).toNat) om
 have K:=bL bG.cells hy
 refine eS U (IA (((n-1)).toNat) U (aD 5 U) vh dc om om)<|eS U (nH ((((n-1)).toNat)*4) U (aD 5 U) (Nat.mul_pos om dc) fB U)<|eS U (ot (((n-1)).toNat) 0 (cM.cells y.mz) U cd (aD 5 U) K U dc U U)<|eS U (LW 0 U cd U U)<|eS U (CL (Nu l.aI kA kC y.mz x.mz asm asm) (bp [2]) U)<|eS U (MV U)<|eS U (EX U)<|eS U (EX U)<|e7 U<|cf U fun T9 AB=>fQ U cu U<|aG (AB _ _ (aL [1,2,3,4,5,6]) ?_)
 refine fK U<|KK C<|WS fun _ A=>rP 3 [] (mc 0 U I) ?_
 refine RK A<|aq<|Q1 hQ U U U ?_
 (refine congrArg (Value.int .i64) ?_; rw [Bw om hx (by rw [show n.toNat-1=(n-1).toNat by omega]; exact hy),(kT htr ⟨(hbk _ (List.mem_of_getElem? hy)).1,(hbk _ (List.mem_of_getElem? hx)).1⟩).2])
theorem O6 (l:bf) (kA:OA) (kC:Nat) (az:List RA) (cA:OA) (cC:Nat) (bA:OA) (bC:Nat) (hin:eB l az) (htr:cV l.aI=true) (hbk: ∀ b∈l.ae,jE l b):
 eg Tryz.prog 120 [(vA (bJ.cells (lh l kA kC cA cC bA bC)))] [(rd kA l.aI.length 9 (l.aI.map an.cells)),(rd cA l.ai.length 2 (List.zipWith au.cells l.ai az)),(e9 (aS au.gW l.ai az)),(rd bA l.ae.length 4 (l.ae.map bG.cells))] (vB (decide (∀ i,i<l.ae.length→1≤lQ l i))):=by
 have V:=hin.sf
 have AA:=hin.sh
 have S:=hin.oq
 have T:=hin.se
 refine bI kr Tryz.func120 U U fun X Q hQ hN=>?_
 try dsimp only
 refine WS fun _ J=>fR U fun W=>bo 1 U<|RK J<|al fun _ K=>WS fun _ L=>rP 4 [] (mc 0 U I) ?_
 refine RK L<|ay ?_
 have A:(0≤l.ae.length)∧(∀ j,j<0→1≤lQ l j):=by exact ⟨Nat.zero_le _,fun j hj=>absurd hj (Nat.not_lt_zero _)⟩
 refine bS (ι:={z:Nat // (z≤l.ae.length)∧(∀ j,j<z→1≤lQ l j)}) [1,6] [0,1,2,3,4] U U (fun z=>[(7,(vI (z.1:Int)))]) (fun z=>[]) (fun _=>rfl) (fun _=>rfl) (fun z=>l.ae.length-z.1) ⟨0,A⟩ (aV U) (aL [0,1,2,3,4]) ?_
 clear A
 rintro ⟨i,⟨P,B⟩⟩ J5 AB
 try dsimp only
 refine WS fun _ M=>rP 1 [] I ?_
 refine RK M<|al fun _ N=>bV U (aR fun R=>?_) (aP fun R=>?_)
 ·refine bE<|ag<|ag<|aA<|KK K<|WS fun _ G=>rP 1 [] I ?_
  refine RK G<|aq<|Q1 hQ U U U ?_
  exact cB (dw (fun j hj=>B j om)).symm
 refine WK N<|al fun _ O=>ay<|WS fun _ D=>bo 2 U<|RK D<|WS fun _ E=>fD 2 [] (mc 0 U I) U<|rS (CL (OC l kA kC az cA cC bA bC (i:Int) hin htr hbk om) (bp [1,2,3,4]) U)<|rP 1 [] I ?_
 refine RK E<|cO U (aP fun C=>?_) (aR fun C=>?_)
 ·refine WS fun _ F=>rP 1 [] I ?_
  refine RK F<|aq<|Q1 hQ U U U ?_
  exact cB (cq (fun h=>by have:=h i om; simp only [Int.toNat_natCast] at C; omega)).symm
 refine cp<|aH<|KK O<|ao<|rP 2 [] I ?_
 refine aG ?_
 have H:(vI (((i+1):Nat):Int))=(vI ((i:Int)+1)):=by exact cI om
 refine aW (AB ⟨(i+1),⟨om,fun j hj=>by rcases Nat.lt_or_ge j i with q|q; exact B j q; (obtain rfl:j=i:=by omega); simp only [Int.toNat_natCast] at C; omega⟩⟩ _ _ _ rfl os (dB.cons rfl<|dB.cons rfl<|bx rfl H<|dB.nil _) (aL [0,1,2,3,4]))
end
section
open Go.RowKit
theorem PV:
 eg Tryz.prog 75 [] [] (vA ((gG.cells (gG.mk (Value.func (.func 110) [].toArray [].toArray)))++(gG.cells (gG.mk (Value.func (.func 112) [].toArray [].toArray)))++(gG.cells (gG.mk (Value.func (.func 116) [].toArray [].toArray)))++(gG.cells (gG.mk (Value.func (.func 120) [].toArray [].toArray))))):=by
 refine bI kr Tryz.func75 U U fun D Q hQ hN=>?_
 try dsimp only
 refine WS fun _ A=>AL U RI fun C=>RK A<|WS fun _ B=>rS (SX (bj (xs:=[(0,.func 110)]) (cs:=(gG.cells (gG.mk (Value.func (.func 110) [].toArray [].toArray)))) U U (bk F2 U)) U U)<|rS (SX (bj (xs:=[(0,.func 112)]) (cs:=(gG.cells (gG.mk (Value.func (.func 112) [].toArray [].toArray)))) U U (bk F2 U)) U U)<|rS (SX (bj (xs:=[(0,.func 116)]) (cs:=(gG.cells (gG.mk (Value.func (.func 116) [].toArray [].toArray)))) U U (bk F2 U)) U U)<|rS (SX (bj (xs:=[(0,.func 120)]) (cs:=(gG.cells (gG.mk (Value.func (.func 120) [].toArray [].toArray)))) U U (bk F2 U)) U U)<|rS (SX (bj (xs:=[(0,.tmp 1),(1,.tmp 2),(2,.tmp 3),(3,.tmp 4)]) (cs:=((gG.cells (gG.mk (Value.func (.func 110) [].toArray [].toArray)))++(gG.cells (gG.mk (Value.func (.func 112) [].toArray [].toArray)))++(gG.cells (gG.mk (Value.func (.func 116) [].toArray [].toArray)))++(gG.cells (gG.mk (Value.func (.func 120) [].toArray [].toArray))))) U U (bk QK U)) U U)<|fQ U Sk U<|RK B<|aq ?_
 exact HO hQ [0] (mc 0 U I) U U
theorem AS (l:bf) (kA:OA) (kC:Nat) (az:List RA) (cA:OA) (cC:Nat) (bA:OA) (bC:Nat) (hin:eB l az):
 eg Tryz.prog 50 [(vA (bJ.cells (lh l kA kC cA cC bA bC)))] [(rd kA l.aI.length 9 (l.aI.map an.cells)),(rd cA l.ai.length 2 (List.zipWith au.cells l.ai az)),(e9 (aS au.gW l.ai az)),(rd bA l.ae.length 4 (l.ae.map bG.cells))] (vI (dx l)):=by
 have AF:=hin.sf
 have AD:=hin.sh
 have AB:=hin.oq
 have AC:=hin.se
 have AE:=hin.side
 refine bI kr Tryz.func50 U U fun w0 Q hQ hN=>?_
 try dsimp only
 refine WS fun _ m=>fR U fun b2=>bo 1 U<|RK m<|al fun _ n=>WS fun _ o=>bo 1 U<|rS (LP (aZ.cells (aZ.mk (aN.mk kA l.aI.length kC))) 0 U cd U U U)<|rS (CL (AH l.aI kA kC asm asm) (bp [1]) U)<|bo 1 U<|RK o<|WS fun _ p=>rP 2 [] I ?_
 refine RK p<|cO U (bh fun B=>?_) (bg fun B=>?_)
 ·refine WS fun _ q=>rP 2 [] I ?_
  refine RK q<|aq<|Q1 hQ U U U ?_
  (refine cI ?_; rw [(za B).2,zj (za B).1])
 refine WK n<|al fun _ s=>WS fun _ t=>?_
 have A:=D_ B
 refine rS (CL PV (aK) U)<|bo 1 U<|RK t<|ay<|jI 5<|eo fun R9 u=>WS fun _ C=>rS (SX (bZ (r:= .bool true) U U U gO) U U)<|RK C<|al fun _ D=>aQ U<|WK D<|al fun _ E=>ay<|WS fun _ F=>rS (SX (sR (vs:=(gG.cells (gG.mk (Value.func (.func 110) [].toArray [].toArray)))) 0 U U U E1 cd U dc U) U U)<|AL U FY fun x=>fQ U FH U<|RK F<|WS fun _ G=>fD 3 [0,1] (mc 0 U (mc 1 U I)) U<|rS (CL (PQ l kA kC az cA cC bA bC hin) (bp [2,3,4,5]) U)<|rP 1 [] I ?_
 refine RK G<|cO U (bh fun g=>?_) (bg fun g=>?_)
 ·refine WS fun _ H=>rP 1 [] I ?_
  refine RK H<|aq<|Q1 hQ U U U ?_
  exact cI (ql A fun h=>absurd h.head asm).symm
 refine cp<|aH<|KK E<|ao<|rS (SX (bZ (r:= .int .i64 1) U U U (g8 ⟨dc,dc⟩)) U U)<|bo 1 U<|RK u<|eo fun R18 d=>WS fun _ AI=>rS (SX (bZ (r:= .bool true) U U U gO) U U)<|RK AI<|al fun _ J=>aQ U<|WK J<|al fun _ K=>ay<|WS fun _ L=>rS (SX (sR (vs:=(gG.cells (gG.mk (Value.func (.func 112) [].toArray [].toArray)))) 1 U U U E1 cd U dc U) U U)<|AL U FY fun y=>fQ U FH U<|RK L<|WS fun _ M=>fD 3 [0,1] (mc 0 U (mc 2 U I)) U<|rS (CL (P0 l kA kC az cA cC bA bC hin) (bp [3,4,5,6]) U)<|rP 1 [] I ?_
 refine RK M<|cO U (bh fun i=>?_) (bg fun i=>?_)
 ·refine WS fun _ N=>rP 1 [] I ?_
  refine RK N<|aq<|Q1 hQ U U U ?_
  exact cI (ql A fun h=>absurd h.clock asm).symm
 refine cp<|aH<|KK K<|ao<|rS (SX (bZ (r:= .int .i64 2) U U U (g8 ⟨dc,dc⟩)) U U)<|bo 1 U<|RK d<|eo fun R27 e=>WS fun _ O=>rS (SX (bZ (r:= .bool true) U U U gO) U U)<|RK O<|al fun _ P=>aQ U<|WK P<|al fun _ R=>ay<|WS fun _ S=>rS (SX (sR (vs:=(gG.cells (gG.mk (Value.func (.func 116) [].toArray [].toArray)))) 2 U U U E1 cd U dc U) U U)<|AL U FY fun z=>fQ U FH U<|RK S<|WS fun _ T=>fD 3 [0,1] (mc 0 U (mc 3 U I)) U<|rS (CL (Qi l kA kC az cA cC bA bC hin asm) (bp [4,5,6,7]) U)<|rP 1 [] I ?_
 refine RK T<|cO U (bh fun j=>?_) (bg fun j=>?_)
 ·refine WS fun _ AG=>rP 1 [] I ?_
  refine RK AG<|aq<|Q1 hQ U U U ?_
  exact cI (ql A fun h=>absurd h.vi asm).symm
 refine cp<|aH<|KK R<|ao<|rS (SX (bZ (r:= .int .i64 3) U U U (g8 ⟨dc,dc⟩)) U U)<|bo 1 U<|RK e<|eo fun R36 f=>WS fun _ V=>rS (SX (bZ (r:= .bool true) U U U gO) U U)<|RK V<|al fun _ W=>aQ U<|WK W<|al fun _ X=>ay<|WS fun _ Y=>rS (SX (sR (vs:=(gG.cells (gG.mk (Value.func (.func 120) [].toArray [].toArray)))) 3 U U U E1 cd U dc U) U U)<|AL U FY fun AA=>fQ U FH U<|RK Y<|WS fun _ Z=>fD 3 [0,1] (mc 0 U (mc 4 U I)) U<|rS (CL (O6 l kA kC az cA cC bA bC hin asm asm) (bp [5,6,7,8]) U)<|rP 1 [] I ?_
 refine RK Z<|cO U (bh fun k=>?_) (bg fun k=>?_)
 ·refine WS fun _ a=>rP 1 [] I ?_
  refine RK a<|aq<|Q1 hQ U U U ?_
  exact cI (ql A fun h=>absurd h.Qx asm).symm
 refine cp<|aH<|KK X<|ao<|rS (SX (bZ (r:= .int .i64 4) U U U (g8 ⟨dc,dc⟩)) U U)<|bo 1 U<|RK f<|eo fun R45 w=>WS fun _ b=>rS (SX (bZ (r:= .bool false) U U U gO) U U)<|RK b<|al fun _ v=>aX U<|bE<|ag<|ag<|aA<|KK s<|WS fun _ c=>rP 1 [] I ?_
 refine RK c<|aq<|Q1 hQ U U U ?_
 exact cI (xJ A (yH asm asm asm asm)).symm
theorem B5 (lo hi:Int) (f:Value) (p:Int→Bool) (X:av) (r:Int) (hf: ∀ x0,0≤x0∧x0<hi→D9 Tryz.prog f [.int .i64 x0] [X] (.bool (p x0))) (hb:0≤lo∧lo≤r∧r≤hi∧hi≤100000000) (hno: ∀ x,lo≤x→x<r→p x=false) (hyes: ∀ x,r≤x→x<hi→p x=true):
 eg Tryz.prog 208 [(vI lo),(vI hi),f] [X] (vI r):=by
 refine bI kr Tryz.func208 U U fun N Q hQ hN=>?_
 try dsimp only
 refine WS fun _ F=>rP 1 [] I ?_
 refine RK F<|al fun _ G=>ay ?_
 have A:(lo≤lo∧lo≤r)∧(r≤hi∧hi≤hi):=by omega
 refine bS (ι:={z:Int×Int // (lo≤z.1∧z.1≤r)∧(r≤z.2∧z.2≤hi)}) [2] [0] U U (fun z=>[(0,(vI z.1.1)),(1,(vI z.1.2))]) (fun z=>[]) (fun _=>rfl) (fun _=>rfl) (fun z=>(z.1.2-z.1.1).toNat) ⟨(lo,hi),A⟩ (aV U) (aL [0]) ?_
 clear A
 rintro ⟨⟨a,b⟩,⟨B,C⟩⟩ J3 D
 try dsimp only at B C
 try dsimp only
 refine al fun _ H=>WS fun _ AA=>rP 3 [] I ?_
 refine RK AA<|bV U (aR fun M=>?_) (aP fun M=>?_)
 ·refine bE<|ag<|ag<|aA<|KK G<|WS fun _ L=>rP 2 [] I ?_
  refine RK L<|aq<|Q1 hQ U U U ?_
  exact cI om
 refine WK H<|ay<|WS fun _ J=>bo 4 U<|rS (BI U (si om om om))<|bo 2 U<|RK J<|WS fun _ K=>rP 2 [] I ?_
 refine rS (SX (rF U U U (hf (a+((b-a)/2)) om) (bp [0])) U U)<|RK K<|cO U (fun hp=>?_) (fun hp=>?_)
 ·refine ao<|rP 2 [] I ?_
  refine aG<|aH ?_
  refine aW (D ⟨(a,(a+((b-a)/2))),(by dsimp only; rcases Int.lt_or_le (a+(b-a)/2) r with q|q; (have E:=hno _ om q; (rw [E] at hp; cases hp)); (have E:=hyes _ q om; (refine ⟨⟨om,om⟩,om,om⟩)))⟩ _ _ _ rfl (by simp only []; omega) (aV rfl) (aL [0]))
 refine ao<|rP 3 [] I ?_
 refine aG<|aH ?_
 refine aW (D ⟨(((a+((b-a)/2))+1),b),(by dsimp only; rcases Int.lt_or_le (a+(b-a)/2) r with q|q; (have E:=hno _ om q; (refine ⟨⟨om,om⟩,om,om⟩)); (have E:=hyes _ q om; (rw [E] at hp; cases hp)))⟩ _ _ _ rfl (by simp only []; omega) (aV rfl) (aL [0]))
theorem I1 (u:Int) (c:au) (sA:OA) (sC g1:Nat) (s:aO) (g2:Nat) (hc:eX c) (hu:0≤u∧u≤90000000):
 eg Tryz.prog 209 [(vI u),(vP g1),(vP g2)] [(rd sA c.bw.length 3 (c.bw.map cG.cells)),(bY g1 127 (du.cells (du.mk c.dh (aN.mk sA c.bw.length sC)))),(bY g2 131 (aO.cells s))] (vB (decide (s.Read≤u+(hP c u).Hi))):=by
 have C:=qk hc hu
 refine bI kr Tryz.func209 U U fun D Q hQ hN=>?_
 try dsimp only
 refine WS fun _ A=>bo 1 U<|RK A<|al fun _ B=>dq cy 10 kr<|mu 3 [] (mr 1 U I) U<|dS (CL (FP c sA sC u hc hu) (bp [0]) U)<|dS (SX (kK (v:=(vI ((hP c u).Hi))) U U fB zQ U) U U)<|dP 5 [] (mr 2 U I) ?_
 refine cL<|RK B<|aq ?_
 exact Q1 hQ U U U U
theorem LD (u:Int) (c:au) (sA:OA) (sC g1:Nat) (s:aO) (g2:Nat) (hc:eX c) (hu:0≤u∧u≤90000000):
 eg Tryz.prog 211 [(vI u),(vP g1),(vP g2)] [(rd sA c.bw.length 3 (c.bw.map cG.cells)),(bY g1 127 (du.cells (du.mk c.dh (aN.mk sA c.bw.length sC)))),(bY g2 131 (aO.cells s))] (vB (decide (s.Read<u+(hP c u).Lo))):=by
 have C:=qk hc hu
 refine bI kr Tryz.func211 U U fun D Q hQ hN=>?_
 try dsimp only
 refine WS fun _ A=>bo 1 U<|RK A<|al fun _ B=>dq cy 10 kr<|mu 3 [] (mr 1 U I) U<|dS (CL (FP c sA sC u hc hu) (bp [0]) U)<|dS (SX (kK (v:=(vI ((hP c u).Lo))) U U fB zE U) U U)<|dP 5 [] (mr 2 U I) ?_
 refine cL<|RK B<|aq ?_
 exact Q1 hQ U U U U
theorem Kv (l:bf) (kA:OA) (kC:Nat) (az:List RA) (cA:OA) (cC:Nat) (bA:OA) (bC:Nat) (s:aO) (hin:eB l az) (hok:kS l) (hs:(0≤s.gh∧s.gh≤(l.ae.length:Int)-1)∧0≤s.Read∧s.Read≤86400000):
 eg Tryz.prog 200 [(vA (bJ.cells (lh l kA kC cA cC bA bC))),(vA (aO.cells s))] [(rd kA l.aI.length 9 (l.aI.map an.cells)),(rd cA l.ai.length 2 (List.zipWith au.cells l.ai az)),(e9 (aS au.gW l.ai az)),(rd bA l.ae.length 4 (l.ae.map bG.cells))] (vA (aa.cells (cK l s))):=by
 have V:=hin.sf
 have S:=hin.sh
 have P:=hin.oq
 have R:=hin.se
 refine bI kr Tryz.func200 U U fun Z Q hQ hN=>?_
 try dsimp only
 refine WS fun _ AB=>fR U fun X=>fR U fun D=>AL U dg fun Y=>RK AB<|al fun _ J=>dL cy [11,12] [] [] [0,1,2,3,4,5,6] [] U U U U U<|eS U (FA 2 U fB U)<|eS U (L1 (vS cA l.ai.length cC) 2 U cd U U)<|eS U (FA 3 U fB U)<|eS U (L1 (vS bA l.ae.length bC) 2 U cd U U)<|eS U (FA 0 U fB U)<|eS U (L1 (vI s.gh) 1 U cd U U) ?_
 obtain ⟨y,hy⟩:=aM l.ae ((s.gh).toNat) om
 have O:=bL bG.cells hy
 refine eS U (IA ((s.gh).toNat) U (aD 6 U) vh dc om om)<|eS U (nH ((((s.gh).toNat)*4)+3) U (aD 6 U) (Nat.mul_pos om dc) fB U)<|eS U (fY ((s.gh).toNat) 3 (vI y.jF) U cd (aD 6 U) O U dc U) ?_
 have W:=(hok.vi _ (aU hy)).2
 obtain ⟨x,hx⟩:=aM l.ai ((y.jF).toNat) om
 obtain ⟨xa,F⟩:=aM az ((y.jF).toNat) om
 have N:(List.zipWith au.cells l.ai az)[(y.jF).toNat]? =some (au.cells x xa):=dT hx F
 refine eS U (IA ((y.jF).toNat) U (aD 4 U) Ak dc om om)<|eS U (ot ((y.jF).toNat) 0 (du.cells (du.mk x.dh (aN.mk xa.1 x.bw.length xa.2))) U cd (aD 4 U) N U dc U U)<|e7 U<|cf U fun T6 L=>AL U H_ fun E=>aG (L _ _ (aL [1,2,3,4,5,6,7]) ?_)
 refine cf U fun T8 M=>fQ U OZ U<|aG (M _ _ (aL [1,2,3,4,5,6,7]) ?_)
 refine fK U<|KK J<|WS fun _ K=>?_
 have A:=hok.clock _ (aU hx)
 have AA:=g_ (p:=f_ x s.Read) (n:=86400001)
 have T:=g_ (p:=fZ x s.Read) (n:=86400001)
 refine rS (FU U) ?_
 refine rS (CL (B5 0 86400001 (Value.func (.func 209) [].toArray [(vP E),(vP D)].toArray) (fun B=>(decide (s.Read≤B+(hP x B).Hi))) (e9 [(rd xa.1 x.bw.length 3 (x.bw.map cG.cells)),(bY E 127 (du.cells (du.mk x.dh (aN.mk xa.1 x.bw.length xa.2)))),(bY D 131 (aO.cells s))]) (fj (f_ x s.Read) 86400001) (by intro B _; exact ny (fi:=[]) (ca:=[(vP E),(vP D)]) (lU (I1 B x xa.1 xa.2 E s D (by first|assumption|omega) (by first|assumption|omega)) (NZ 0 1 2 U U U U U U))) om (by intro z G hz; exact (kJ A G om).1 hz) (by intro z hz H; exact (kJ A om H).2.1 hz)) (aw (lW (aw (show iU _ (rd xa.1 x.bw.length 3 (x.bw.map cG.cells)).holds from (dy 6 U (b_ hx F (by simp [au.gW]))))<|fG 0 U U<|fG 2 U U<|aK))<|aK) U) ?_
 refine rS (FU U) ?_
 refine rS (CL (B5 0 86400001 (Value.func (.func 211) [].toArray [(vP E),(vP D)].toArray) (fun C=>(decide (s.Read<C+(hP x C).Lo))) (e9 [(rd xa.1 x.bw.length 3 (x.bw.map cG.cells)),(bY E 127 (du.cells (du.mk x.dh (aN.mk xa.1 x.bw.length xa.2)))),(bY D 131 (aO.cells s))]) (fj (fZ x s.Read) 86400001) (by intro C _; exact ny (fi:=[]) (ca:=[(vP E),(vP D)]) (lU (LD C x xa.1 xa.2 E s D (by first|assumption|omega) (by first|assumption|omega)) (NZ 0 1 2 U U U U U U))) om (by intro z G hz; exact (kJ A G om).2.2.1 hz) (by intro z hz H; exact (kJ A om H).2.2.2 hz)) (aw (lW (aw (show iU _ (rd xa.1 x.bw.length 3 (x.bw.map cG.cells)).holds from (dy 6 U (b_ hx F (by simp [au.gW]))))<|fG 0 U U<|fG 2 U U<|aK))<|aK) U) ?_
 refine rP 1 [] I ?_
 refine rS (SX (bj (xs:=[(0,.tmp 18),(1,.tmp 21)]) (cs:=(aa.cells (aa.mk (fj (f_ x s.Read) 86400001) ((fj (fZ x s.Read) 86400001)-1)))) U U (bk gj U)) U U)<|tw U cu U<|RK K<|aq<|HO hQ [0] (mc 1 U I) U ?_
 unfold cK qa; rw [xg hy hx]
end
section
open Go.RowKit
structure KP (S:BS) (w0:World) (X:av) (C0:List av) (w:World) (S':BS):Prop where
 st:St S w0 (X::C0) w
 w_: ∀ b,S'.w b↔ ∃ A∈C0,A.wf b
theorem Eh {A B:av} (h:CX A B):CX A.ro B:=fun b C D=>⟨fun h=>h,(h b C D).2⟩
theorem B8 {E:fg} {c:Code} {Q:c_} {D:List Deferred} {L:List (Nat×Value)} {C C0:List av} {X:av} (i:Nat) (hn:decide (i::(List.range C.length).filter fun k=>k != i).Nodup=true) (hC:kd C (i::(List.range C.length).filter fun k=>k != i)=X::C0)
 (h: ∀ w S',KP E.S E.w0 X C0 w S'→WJ ⟨E.P,E.r,E.n,S',w⟩ c Q D L (X.ro::C0)):WJ E c Q D L C:=fun a w hf hs=>by
 have F:=St.kd _ hn hC hs
 obtain ⟨G,H⟩:=List.pairwise_cons.1 F.sep
 refine h w ⟨fun b=> ∃ A∈C0,A.wf b,fun _=>True⟩ ⟨F,fun b=>Iff.rfl⟩ a w hf ⟨dQ.refl _ _,fun A hA=>?_,List.Pairwise.cons (fun B hB=>Eh (G B hB)) H,fun A hA b hb=>?_,fun A hA b hb=> .inr trivial⟩
 ·rcases List.mem_cons.1 hA with rfl|hA
  ·exact F.holds X (cj ..)
  ·exact F.holds A (cT _ hA)
 ·rcases List.mem_cons.1 hA with rfl|hA
  ·exact hb.elim
  ·exact .inr ⟨A,hA,hb⟩
theorem zD {E:fg} {S':BS} {w:World} {K:Act→World→Prop} {D:List Deferred} {L:List (Nat×Value)} {C0 C1 C2:List av} {X:av} (hz:KP E.S E.w0 X C0 w S') (is:List Nat) (hn:decide is.Nodup=true) (hC:kd C2 is=C1) (hwr:C1.all (·.wr)=true)
 (h:KJ E K D L (X::C1)):KJ ⟨E.P,E.r,E.n,S',w⟩ K D L C2:=fun a w' hf hs=>by
 have F:=St.kd is hn hC hs
 have C:=hz.st
 obtain ⟨J,M⟩:=List.pairwise_cons.1 C.sep
 have AA: ∀ b,X.fw b→ ¬ S'.w b:=fun b hb hw=>by
  obtain ⟨A,hA,hw⟩:=(hz.w_ b).1 hw
  exact (J A hA b hb (A.ki b hw)).2 hw
 have G: ∀ b,S'.w b→E.w0.heap.size≤b∨E.S.w b:=fun b hb=>by
  obtain ⟨A,hA,hw⟩:=(hz.w_ b).1 hb
  exact C.own A (cT _ hA) b hw
 have H: ∀ A∈C1,∀ b,A.fw b→w.heap.size≤b∨S'.w b:=fun A hA b hb=>F.own A hA b (A.whole (List.all_eq_true.1 hwr A hA) b hb)
 refine h a w' hf ⟨?_,fun A hA=>?_,List.Pairwise.cons (fun B hB b hb hb'=>?_) F.sep,fun A hA b hb=>?_,fun A hA b hb=>?_⟩
 ·refine ⟨F.keeps.os.trans C.keeps.os,F.keeps.tape.trans C.keeps.tape,F.keeps.output.trans C.keeps.output,Nat.le_trans C.keeps.size F.keeps.size,fun k hk hn'=>?_⟩
  refine (F.keeps.block k (Nat.lt_of_lt_of_le hk C.keeps.size) fun hw=>?_).trans (C.keeps.block k hk hn')
  rcases G k hw with q|q
  ·omega
  ·exact hn' q
 ·rcases List.mem_cons.1 hA with rfl|hA
  ·have hh:=C.holds A (cj ..)
   exact A.oj w w' (fun b hb=>F.keeps.block b (A.lt w hh b hb) (AA b hb)) hh
  ·exact F.holds A hA
 ·exfalso
  have hl:=X.lt w (C.holds X (cj ..)) b hb
  rcases H B hB b hb' with q|q
  ·omega
  ·exact AA b hb q
 ·rcases List.mem_cons.1 hA with rfl|hA
  ·exact C.own A (cj ..) b hb
  ·rcases F.own A hA b hb with q|q
   ·exact .inl (Nat.le_trans C.keeps.size q)
   ·exact G b q
 ·rcases List.mem_cons.1 hA with rfl|hA
  ·exact C.seen A (cj ..) b hb
  ·rcases H A hA b hb with q|q
   ·exact .inl (Nat.le_trans C.keeps.size q)
   ·obtain ⟨B,hB,hw⟩:=(hz.w_ b).1 q
    exact C.seen B (cT _ hB) b (B.ki b hw)
/-- put back, as it was -/
theorem HE {M A:Type} {f:M→A→List av} {S:BS} {w0 w:World} {C:List av} {ms:List M} {asl:List A} {k:Nat} {m:M} {a:A} {X:av} (hm:ms[k]? =some m) (ha:asl[k]? =some a) (hf:f m a=[X]) (h:St S w0 (X::bq (fx f ms asl k)::C) w):St S w0 (bq (aS f ms asl)::C) w:=by
 have B:St S w0 (bq (fx f ms asl k)::X::C) w:=h.perm (List.Perm.swap _ _ _)
 have D:St S w0 ((f m a++fx f ms asl k)++C) w:=by
  rw [hf]
  exact B.hO.perm (List.perm_middle (a:=X) (l₁:=fx f ms asl k) (l₂:=C))
 exact kP (kQ hm ha).symm D.tied
theorem Jv {E:fg} {K:Act→World→Prop} {D:List Deferred} {L:List (Nat×Value)} {C C1:List av} {M A:Type} {f:M→A→List av} {ms:List M} {asl:List A} {k:Nat} {m:M} {a:A} {X:av} (i j:Nat) (hm:ms[k]? =some m) (ha:asl[k]? =some a) (hf:f m a=[X])
 (hn:decide (j::i::(List.range C.length).filter fun k=>k != i&&k != j).Nodup=true) (hC:kd C (j::i::(List.range C.length).filter fun k=>k != i&&k != j)=X::bq (fx f ms asl k)::C1)
 (h:KJ E K D L (bq (aS f ms asl)::C1)):KJ E K D L C:=fun a w hf' hs=>h a w hf' (HE hm ha hf (St.kd _ hn hC hs))
theorem yu {M A:Type} {f:M→A→List av} {ms:List M} {asl:List A} {m:M} {a:A} {X:av} (hl:ms.length=asl.length) (hf:f m a=[X]):aS f ms asl++[X]=aS f (ms++[m]) (asl++[a]):=by
 rw [jD hl,← hf]; simp [aS]
theorem yC {E:fg} {K:Act→World→Prop} {D:List Deferred} {L:List (Nat×Value)} {C C1:List av} {M A:Type} {f:M→A→List av} {ms:List M} {asl:List A} {m:M} {a:A} {X:av} (i j:Nat) (hf:f m a=[X])
 (hn:decide (j::i::(List.range C.length).filter fun k=>k != i&&k != j).Nodup=true) (hC:kd C (j::i::(List.range C.length).filter fun k=>k != i&&k != j)=X::bq (aS f ms asl)::C1)
 (h:KJ E K D L (bq (aS f (m::ms) (a::asl))::C1)):KJ E K D L C:=fun b w hf' hs=>by
 have B:=St.kd _ hn hC hs
 have F:St E.S E.w0 (bq (aS f ms asl)::X::C1) w:=B.perm (List.Perm.swap _ _ _)
 have G:St E.S E.w0 (aS f (m::ms) (a::asl)++C1) w:=by
  show St E.S E.w0 ((f m a++aS f ms asl)++C1) w
  rw [hf]
  exact F.hO.perm (List.perm_middle (a:=X) (l₁:=aS f ms asl) (l₂:=C1))
 exact h b w hf' G.tied
end
section
open Go.RowKit
abbrev lP (r:Nat):av:=ld r (.deferred (some []))
theorem Mj (rs:List Nat):(bq (rs.map lP)).wr=true:=by
 show (rs.map lP).all (·.wr)=true
 rw [e_]
 intro X hX
 obtain ⟨r,_,rfl⟩:=List.mem_map.1 hX
 rfl
theorem vq {E:fg} {c:Code} {Q:c_} {D:List Deferred} {L:List (Nat×Value)} {C:List av} {ι:Type} (Di:ι→List Deferred) (Li:ι→List (Nat×Value)) (Ci:ι→List av) (μ:ι→Nat) (x0:ι)
 (hD:D=Di x0) (h0:dB L (Li x0)) (hC: ∀ w,St E.S E.w0 C w→St E.S E.w0 (Ci x0) w)
 (round: ∀ x (J:Act→World→Prop),(∀ y D' L' C',D'=Di y→μ y<μ x→dB L' (Li y)→(∀ w,St E.S E.w0 C' w→St E.S E.w0 (Ci y) w)→KJ E J D' L' C')→WJ E c (Exit.then J Q) (Di x) (Li x) (Ci x)):WJ E (.loop c) Q D L C:=by
 intro a w hf hs
 subst hD
 have H: ∃ x,Fr E.n (Di x) (Li x) a∧St E.S E.w0 (Ci x) w:=⟨x0,hf.sub h0,hC w hs⟩
 clear hf hs
 have key: ∀ (m:Nat) (a:Act) (w:World),(∃ x,μ x=m∧Fr E.n (Di x) (Li x) a∧St E.S E.w0 (Ci x) w)→(Code.loop c).wpIn (Fw E.r) 0 E.P Q a w:=by
  intro m a w hx
  refine wpIn_loop (fun a w=> ∃ x,Fr E.n (Di x) (Li x) a∧St E.S E.w0 (Ci x) w) (fun a w=>leastOf fun k=> ∃ x,μ x=k∧Fr E.n (Di x) (Li x) a∧St E.S E.w0 (Ci x) w) (by obtain ⟨x,_,h⟩:=hx; exact ⟨x,h⟩) ?_
  intro a w hx
  have F: ∃ k,∃ x,μ x=k∧Fr E.n (Di x) (Li x) a∧St E.S E.w0 (Ci x) w:=by obtain ⟨x,h⟩:=hx; exact ⟨_,x,rfl,h⟩
  obtain ⟨x,K,AA,M⟩:=(leastOf_spec F).1
  refine round x _ ?_ a w AA M
  intro y D' L' C' hD G A B a' w' hf' hs'
  subst hD
  refine ⟨⟨y,hf'.sub A,B _ hs'⟩,?_⟩
  rw [← K]
  exact Nat.lt_of_le_of_lt ((leastOf_spec ⟨_,y,U,hf'.sub A,B _ hs'⟩).2 _ ⟨y,U,hf'.sub A,B _ hs'⟩) G
 obtain ⟨x,h⟩:=H
 exact key _ a w ⟨x,U,h⟩
theorem St.UU {S:BS} {w0 w:World} {C X:List av} {A:av} (h:St S w0 (A::bq X::C) w):St S w0 (bq (A::X)::C) w:=by
 have B:St S w0 (bq X::A::C) w:=h.perm (List.Perm.swap _ _ _)
 have D:St S w0 ((A::X)++C) w:=B.hO.perm (List.perm_middle (a:=A) (l₁:=X) (l₂:=C))
 exact D.tied
theorem Ih {E:fg} {K:Act→World→Prop} {D:List Deferred} {L:List (Nat×Value)} {C C1 X:List av} {A:av} (i j:Nat) (hn:decide (j::i::(List.range C.length).filter fun k=>k != i&&k != j).Nodup=true) (hC:kd C (j::i::(List.range C.length).filter fun k=>k != i&&k != j)=A::bq X::C1)
 (h:KJ E K D L (bq (A::X)::C1)):KJ E K D L C:=fun a w hf hs=>h a w hf ((St.kd _ hn hC hs).UU)
theorem DN {E:fg} {K:Act→World→Prop} {D:List Deferred} {L:List (Nat×Value)} {C:List av} (h:KJ E K D L (bq []::C)):KJ E K D L C:=fun a w hf hs=>h a w hf hs.O_
theorem Qs {E:fg} {K:Act→World→Prop} {D:List Deferred} {L:List (Nat×Value)} (C1 C2:List av) (h:KJ E K D L (bq C1::C2)):KJ E K D L (C1++C2):=fun a w hf hs=>h a w hf (St.tied hs)
theorem MU {E:fg} {fn:Func} {R:Ending→World→Prop} {D:List Deferred} {L:List (Nat×Value)} {C C1:List av} {rs:List Nat} (i:Nat) (hn:decide (i::(List.range C.length).filter fun k=>k != i).Nodup=true) (hC:kd C (i::(List.range C.length).filter fun k=>k != i)=bq (rs.map lP)::C1)
 (h:LJ E fn R D L C1):LJ E fn R (rs.map lk++D) L C:=by
 have key: ∀ rs:List Nat,LJ E fn R (rs.map lk++D) L (bq (rs.map lP)::C1):=by
  intro rs
  induction rs with
  |nil=>exact fun a w hf hs=>h a w hf (hs.take (List.sublist_cons_self _ _))
  |cons r rs ih=>
   have A:LJ E fn R (lk r::(rs.map lk++D)) L (lP r::bq (rs.map lP)::C1):=oi 0 rfl rfl (fun a w hf hs=>ih a w hf (hs.take (List.sublist_cons_self _ _)))
   intro a w hf hs
   refine A a w hf ?_
   have B:St E.S E.w0 ((lP r::rs.map lP)++C1) w:=St.hO (C1:=lP r::rs.map lP) hs
   have F:St E.S E.w0 (rs.map lP++(lP r::C1)) w:=B.perm (List.perm_middle (a:=lP r) (l₁:=rs.map lP) (l₂:=C1)).symm
   exact F.tied.perm (List.Perm.swap _ _ _)
 exact fun a w hf hs=>key rs a w hf (St.kd _ hn hC hs)
theorem JP {E:fg} {fn:Func} {R:Ending→World→Prop} {L:List (Nat×Value)} {C C1:List av} {rs:List Nat} (i:Nat) (hn:decide (i::(List.range C.length).filter fun k=>k != i).Nodup=true) (hC:kd C (i::(List.range C.length).filter fun k=>k != i)=bq (rs.map lP)::C1)
 (h:LJ E fn R [] L C1):LJ E fn R (rs.map lk) L C:=by
 have:=MU (D:=[]) i hn hC h
 rwa [List.append_nil] at this
end
section
open Go.RowKit
theorem Lq (fs:List FM) (fb:List Nat):(bq (aS nG fs fb)).wr=true:=by
 show (aS nG fs fb).all (·.wr)=true
 rw [e_]
 intro X hX
 obtain ⟨k,m,a,_,_,h⟩:=jH hX
 simp only [nG,bW] at h
 subst h; rfl
theorem RQ (fs:List TM) (fb:List Nat):(bq (aS q8 fs fb)).wr=true:=by
 show (aS q8 fs fb).all (·.wr)=true
 rw [e_]
 intro X hX
 obtain ⟨k,m,a,_,_,h⟩:=jH hX
 simp only [q8,bW] at h
 subst h; rfl
end
section
def eu (bl:List Nat) (n:Nat):List (Option Nat):=bl.map some++List.replicate (n-bl.length) none
def gU (bl:List Nat) (n:Nat):List (Option Nat):=List.replicate (n-bl.length) none++bl.map some
theorem qF {bl:List Nat} {n:Nat} (h:bl.length≤n):(eu bl n).length=n:=by simp [eu]; omega
theorem yh {bl:List Nat} {n:Nat} (h:bl.length≤n):(gU bl n).length=n:=by simp [gU]; omega
theorem zf {n:Nat}:List.replicate n none=eu [] n:=by simp [eu]
theorem Hb {n:Nat}:List.replicate n none=gU [] n:=by simp [gU]
theorem yL {bl:List Nat} {n:Nat} (h:bl.length=n):eu bl n=bl.map some:=by simp [eu,h]
theorem HB {bl:List Nat} {n:Nat} (h:bl.length=n):gU bl n=bl.map some:=by simp [gU,h]
theorem oy {bl:List Nat} {n k g:Nat} (h:bl[k]? =some g):(eu bl n)[k]? =some (some g):=by
 have hk:=(List.getElem?_eq_some_iff.1 h).1
 unfold eu
 rw [List.getElem?_append_left (by simpa using hk),fy,h]; rfl
theorem sr {bl:List Nat} {n k i g:Nat} (h:bl[i]? =some g) (hk:k=n-bl.length+i):(gU bl n)[k]? =some (some g):=by
 subst hk
 unfold gU
 rw [List.getElem?_append_right sm,fy,List.length_replicate,Nat.add_sub_cancel_left,h]; rfl
theorem uC {bl:List Nat} {n k g:Nat} (hk:k=bl.length) (h:bl.length<n):(eu bl n).set k (some g)=eu (bl++[g]) n:=by
 subst hk
 unfold eu
 rw [List.set_append_right _ _ sm]
 have e:n-bl.length=(n-(bl++[g]).length)+1:=by simp; omega
 rw [e,List.replicate_succ]
 simp
theorem GS {bl:List Nat} {n k g:Nat} (hk:k+1+bl.length=n):(gU bl n).set k (some g)=gU (g::bl) n:=by
 unfold gU
 have e:n-bl.length=k+1:=by omega
 have A:n-(g::bl).length=k:=by simp; omega
 rw [e,A,List.set_append_left _ _ sm,List.replicate_succ',List.set_append_right _ _ sm]
 simp
theorem rf {l:List (Option Nat)} {k g:Nat} (h:l[k]? =some (some g)):(l.map oC)[k]? =some (oC (some g)):=by rw [fy,h]; rfl
theorem zG {α:Type} {l:List α} {x:α} {k:Nat} (h:k=l.length):(l++[x])[k]? =some x:=by subst h; simp
theorem Jc {α:Type} {l:List α} {x y:α} {k:Nat} (h:l[k]? =some y):(l++[x])[k]? =some y:=by rw [List.getElem?_append_left (List.getElem?_eq_some_iff.1 h).1]; exact h
structure pD (w:bR) (fs:List FM):Prop where
 all: ∀ (b:Nat) m,fs[b]? =some m→sM m (fwd w b)∧(m.map (·.1)).Nodup
structure g0 (w:bR) (k:Nat) (bs:List FM):Prop where
 all: ∀ (i:Nat) m,bs[i]? =some m→uE m (back w (k+i))∧(m.map (·.1)).Nodup
variable {w:bR} {b:Nat} {mb m left:List (aC×Int)} {o:Int×aa} {os:List (Int×aa)} {p:aC×Int}
theorem pD.first:pD w [[(⟨0,0⟩,w.Start)]]:=⟨fun b m h=>by
 match b with
 |0=>simp at h; subst h; exact ⟨GV,sm⟩
 |n+1=>simp at h⟩
theorem pD.add {fs:List FM} (h:pD w fs) (hl:fs.length=b+1) (hmb:fs[b]? =some mb) (hm:wo w b m) (hd:jO w b mb m left) (h0:left=[]):pD w (fs++[m]):=⟨fun i x hx=>by
 rcases Nat.lt_or_ge i fs.length with q|q
 ·rw [List.getElem?_append_left q] at hx; exact h.all i x hx
 ·rw [List.getElem?_append_right q] at hx
  have hi:i-fs.length=0:=by
   rcases Nat.eq_zero_or_pos (i-fs.length) with z|z
   ·exact z
   ·rw [List.getElem?_eq_none (by simp; omega)] at hx; cases hx
  rw [hi] at hx
  simp at hx; subst hx
  obtain rfl:i=b+1:=by omega
  have A:=h.all b mb hmb
  exact ⟨KO A.2 A.1 hm.snd (hd.fin h0),hm.keys⟩⟩
theorem pD.ok {fs:List FM} (h:pD w fs) (hl:fs.length=w.n+1):vR w fs:=⟨hl,fun b m hm=>(h.all b m hm).1,fun b m hm=>(h.all b m hm).2⟩
theorem g0.none_:g0 w b []:=⟨fun i m h=>by simp at h⟩
theorem g0.last (hb:w.n≤b):g0 w b [[(⟨0,0⟩,w.gf)]]:=⟨fun i m h=>by
 match i with
 |0=>simp at h; subst h; exact ⟨Jk om,sm⟩
 |n+1=>simp at h⟩
theorem g0.add {bs:List FM} (h:g0 w (b+1) bs) (hb:b<w.n) (hmb:bs[0]? =some mb) (hm:vc w b m) (hd:js w b mb m left) (h0:left=[]):g0 w b (m::bs):=⟨fun i x hx=>by
 match i with
 |0=>
  simp at hx; subst hx
  have A:=h.all 0 mb hmb
  exact ⟨Io hb A.2 A.1 hm.snd hm.zero (hd.fin h0),hm.keys⟩
 |n+1=>
  have:=h.all n x (by simpa using hx)
  rw [show b+1+n=b+(n+1) by omega] at this
  exact this⟩
theorem g0.ok {bs:List FM} (h:g0 w 0 bs) (hl:bs.length=w.n+1):uc w bs:=⟨hl,fun b m hm=>by have:=(h.all b m hm).1; rwa [Nat.zero_add] at this,fun b m hm=>(h.all b m hm).2⟩
/-- on the way through one entry's options -/
structure m6 (w:bR) (b:Nat) (mb left m:List (aC×Int)) (p:aC×Int) (os:List (Int×aa)):Prop where
 on:wo w b m
 sY:jO w b mb m left
 done:iS w b m p os
structure mW (w:bR) (b:Nat) (mb left m:List (aC×Int)) (p:aC×Int) (os:List (Int×aa)):Prop where
 on:vc w b m
 sY:js w b mb m left
 done:iL w b m p os
theorem m6.start (h:wo w b m) (h2:jO w b mb m left):m6 w b mb left m p []:=⟨h,h2,fun o ho=>by cases ho⟩
theorem mW.start (h:vc w b m) (h2:js w b mb m left):mW w b mb left m p []:=⟨h,h2,fun o ho=>by cases ho⟩
theorem GH {q:aC×Int} (h:(m.lookup q.1).isSome=false∨q.2<(m.lookup q.1).getD 0):oV m q=eT m q.1 q.2:=by
 unfold oV
 cases e:m.lookup q.1 with
 |none=>rfl
 |some v=>rw [e] at h; simp at h; simp only; rw [if_pos h]
theorem DQ {q:aC×Int} (h:(m.lookup q.1).isSome=true) (h2: ¬ q.2<(m.lookup q.1).getD 0):oV m q=m:=by
 unfold oV
 cases e:m.lookup q.1 with
 |none=>rw [e] at h; cases h
 |some v=>rw [e] at h2; simp only [Option.getD_some] at h2; simp only; rw [if_neg h2]
theorem G8 {q:aC×Int} (h:(m.lookup q.1).isSome=false∨(m.lookup q.1).getD 0<q.2):oF m q=eT m q.1 q.2:=by
 unfold oF
 cases e:m.lookup q.1 with
 |none=>rfl
 |some v=>rw [e] at h; simp at h; simp only; rw [if_pos h]
theorem Du {q:aC×Int} (h:(m.lookup q.1).isSome=true) (h2: ¬ (m.lookup q.1).getD 0<q.2):oF m q=m:=by
 unfold oF
 cases e:m.lookup q.1 with
 |none=>rw [e] at h; cases h
 |some v=>rw [e] at h2; simp only [Option.getD_some] at h2; simp only; rw [if_neg h2]
theorem z6 {t:aC} {v y:Int} (hy:w.pE[b]? =some y) (h:max (v+y) o.2.Lo≤min o.2.Hi w.gf):kF w b (t,v) o=some (dk t (fh o.1),max (v+y) o.2.Lo):=by
 have e:=m7 hy
 subst e
 exact IG h
theorem Ju {t:aC} {v y:Int} (hy:w.pE[b]? =some y) (h: ¬ max (v+y) o.2.Lo≤min o.2.Hi w.gf):kF w b (t,v) o=none:=by
 have e:=m7 hy
 subst e
 exact Mh h
theorem Ac {t:aC} {v y:Int} (hy:w.pE[b]? =some y) (h:o.2.Lo≤min v o.2.Hi):nJ w b (t,v) o=some (dk t (fh o.1),min v o.2.Hi-y):=by
 have e:=m7 hy
 subst e
 exact K2 h
theorem m6.set {q:aC×Int} (h:m6 w b mb left m p os) (hp:p∈fwd w b) (ho:o∈ic w b) (he:kF w b p o=some q) (hs:(m.lookup q.1).isSome=false∨q.2<(m.lookup q.1).getD 0):m6 w b mb left (eT m q.1 q.2) p (os++[o]):=by
 rw [← GH hs]
 exact ⟨h.on.add hp ho he,h.sY.lower uY,h.done.Jg he⟩
theorem m6.oj {q:aC×Int} (h:m6 w b mb left m p os) (he:kF w b p o=some q) (hs:(m.lookup q.1).isSome=true) (h2: ¬ q.2<(m.lookup q.1).getD 0):m6 w b mb left m p (os++[o]):=by
 have:=h.done.Jg he
 rw [DQ hs h2] at this
 exact ⟨h.on,h.sY,this⟩
theorem m6.skip (h:m6 w b mb left m p os) (he:kF w b p o=none):m6 w b mb left m p (os++[o]):=⟨h.on,h.sY,h.done.none_ he⟩
theorem mW.set {q:aC×Int} (hb:b<w.n) (h:mW w b mb left m p os) (hp:p∈back w (b+1)) (ho:o∈ic w b) (he:nJ w b p o=some q) (hs:(m.lookup q.1).isSome=false∨(m.lookup q.1).getD 0<q.2):mW w b mb left (eT m q.1 q.2) p (os++[o]):=by
 rw [← G8 hs]
 exact ⟨h.on.add hb hp ho he,h.sY.upper pU,h.done.Jg he⟩
theorem mW.oj {q:aC×Int} (h:mW w b mb left m p os) (he:nJ w b p o=some q) (hs:(m.lookup q.1).isSome=true) (h2: ¬ (m.lookup q.1).getD 0<q.2):mW w b mb left m p (os++[o]):=by
 have:=h.done.Jg he
 rw [Du hs h2] at this
 exact ⟨h.on,h.sY,this⟩
theorem mW.skip (h:mW w b mb left m p os) (he:nJ w b p o=none):mW w b mb left m p (os++[o]):=⟨h.on,h.sY,h.done.none_ he⟩
theorem m6.next {t:aC} {v:Int} (hn:(left.map (·.1)).Nodup) (hm:(t,v)∈left) (h:m6 w b mb left m (t,v) os) (ho: ∀ o∈ic w b,o∈os):jO w b mb m (cD left t):=h.sY.next hn hm h.done ho
theorem mW.next {t:aC} {v:Int} (hn:(left.map (·.1)).Nodup) (hm:(t,v)∈left) (h:mW w b mb left m (t,v) os) (ho: ∀ o∈ic w b,o∈os):js w b mb m (cD left t):=h.sY.next hn hm h.done ho
theorem pD.mem {fs:List FM} (h:pD w fs) (hm:fs[b]? =some mb) (hp:p∈mb):p∈fwd w b:=(h.all b mb hm).1.1 _ _ ((fu (h.all b mb hm).2).1 hp)
theorem g0.UE {bs:List FM} {k:Nat} (h:g0 w k bs) (hk:k=b+1) (hm:bs[0]? =some mb) (hp:p∈mb):p∈back w (b+1):=by
 subst hk
 exact (h.all 0 mb hm).1.1 _ _ ((fu (h.all 0 mb hm).2).1 hp)
theorem g0.end_ {bs:List FM} {k j:Nat} (h:g0 w k bs) (hj:bs.length=0) (hk:j=b) (hb:w.n≤b):g0 w j ([(⟨0,0⟩,w.gf)]::bs):=by
 subst hk
 rw [jv hj]
 exact g0.last hb
theorem g0.more {bs:List FM} {k j:Nat} (h:g0 w k bs) (hk:k=b+1) (hj:j=b) (hb:b<w.n) (hmb:bs[0]? =some mb) (hm:vc w b m) (hd:js w b mb m left) (h0:left=[]):g0 w j (m::bs):=by
 subst hk hj
 exact h.add hb hmb hm hd h0
end
section
open Go.RowKit
theorem j1 {a:OA} {c e sz n:Nat} {es:List (List Value)} (h:es.length=n):LV (own a c e sz es) (rd a n sz es):=by subst h; exact ME
theorem s8 {L:List av}:LV (bq L) (e9 L):=⟨fun w h=>h.1,fun b h=>h⟩
theorem NB {b:Nat} {fb:List Nat} {g:Nat} (h:fb.length=b):aS q8 (List.replicate b ([]:TM)) fb++[ik iV g (bT dV [])]=aS q8 (List.replicate (b+1) ([]:TM)) (fb++[g]):=by
 rw [List.replicate_succ']
 exact yu (by rw [List.length_replicate]; exact h.symm) U
theorem Tv {α:Type} {ms:List α} {fb:List Nat} {n:Nat} (h:fb.length=n) (h2:ms.length=n):List.map oC (eu fb n)=List.zipWith gD ms fb:=by
 rw [yL h]; exact (Am om).symm
theorem vr {l:bf} {r:cE} {i:Nat} {x:aO} (hx:r.ak[i]? =some x) (h: ¬ j2 l r.ak i x): ¬ ff l r:=fun q=>h (q.sig i x hx)
end
section
open Go.RowKit
theorem rN (ln:bJ) (ri:eG) (e:List Int) (tms:List TM) (e_A:OA) (e_C:Nat) (tb:List Nat) (t_A:OA) (t_C:Nat) (fA:OA) (fN fC:Nat) (bA:OA) (bN bC:Nat) (gw b:Nat) (g1 g2:Nat) (hb:b<tms.length) (htb:tb.length=tms.length):
 Ds Tryz.prog 212 [] [(vP g1),(vP g2)] [(rd e_A e.length 1 (e.map iC)),(rd t_A tms.length 1 (List.zipWith gD tms tb)),(e9 (aS q8 tms tb)),(bY gw 270 (cb.cells (cb.mk ln ri (aN.mk e_A e.length e_C) (aN.mk t_A tms.length t_C) (aN.mk fA fN fC) (aN.mk bA bN bC)))),(bY g1 259 [(vP gw)]),(bY g2 3 [(vI (b:Int))])] ([]:List (Int×aa)) (fun ys x ys'=> ∃ o,o∈ic (cN ln ri e tms) b∧x=On o∧ys'=ys++[o]) (fun ys=> ∀ o∈ic (cN ln ri e tms) b,o∈ys):=by
 refine sK kr Tryz.func212 U U fun l J Z A0 d Q hY V AA hQ hN=>?_
 try dsimp only
 refine al fun _ X=>al fun _ R=>dq cy 12 kr<|mu 2 [] (mr 5 U I) U<|dS (SX (bO U U) U U)<|mu 4 [0,1] (mr 4 U (mr 5 U I)) U<|dS (SX (bO U U) U U)<|dP 3 [] (mr 4 U I) ?_
 refine dS (SX (bj (xs:=[(0,.tmp 11),(1,.tmp 16)]) (cs:=(aa.cells (aa.mk ri.Start ri.gf))) U U (bk gj U)) U U)<|cL<|kf (k:=([]:List (Int×aa))) (k':=(([]:List (Int×aa))++[((-1),(aa.mk ri.Start ri.gf))])) 0 (by first|exact hsz|exact Nat.le_refl _) hY V AA U U U (by exact ⟨(-1,⟨ri.Start,ri.gf⟩),cj ..,U,U⟩) U U (fun B3 N M=>?_) (fun B3 N M=>?_)
 rotate_left 1
 ·refine rP 1 [] I ?_
  refine RK R<|aQ U<|aq ?_
  refine hQ _ _ _ (gV (vs:=[]) trivial fun w hs=>rn 0 U N M hs)
 refine bo 1 U<|RK R<|aX U<|WK X<|al fun _ Y=>dq cy 7 kr<|mu 1 [] (mr 5 U I) U<|dS (SX (bO U U) U U)<|dP 3 [0,1] (mr 4 U (mr 6 U I)) ?_
 obtain ⟨x,hx⟩:=aM tms b om
 obtain ⟨xa,L⟩:=aM tb b om
 have a:(List.zipWith gD tms tb)[b]? =some (gD x xa):=dT hx L
 refine dS (IA b U (aD 2 U) FT dc om om)<|dS (fY b 0 (Value.map (some xa)) U cd (aD 2 U) a U dc U)<|cL<|jL (kV:=iV) (m:=bT dV x) 3 U U nK U ⟨⟨(ik iV xa (bT dV x)),(b_ hx L (by simp [q8])),U⟩,fun h=>h⟩ (show iU _ (ik iV xa (bT dV x)).holds from dy 3 U (b_ hx L (by simp [q8]))) U fun j=>?_
 try dsimp only
 refine RK Y<|ay ?_
 have G:(∀ o∈x,o∈x∨o∈(([]:List (Int×aa))++[((-1),(aa.mk ri.Start ri.gf))]))∧(∀ o∈x,o∈x)∧(J (([]:List (Int×aa))++[((-1),(aa.mk ri.Start ri.gf))]) B3)∧(Fo A0 d B3)∧((-1,(⟨ri.Start,ri.gf⟩:aa))∈(([]:List (Int×aa))++[((-1),(aa.mk ri.Start ri.gf))])):=by exact ⟨fun o ho=> .inl ho,fun o ho=>ho,asm,asm,sm⟩
 refine bS (ι:={z:TM×(List (Int×aa))×av // (∀ o∈x,o∈z.1∨o∈z.2.1)∧(∀ o∈z.1,o∈x)∧(J z.2.1 z.2.2)∧(Fo A0 d z.2.2)∧((-1,(⟨ri.Start,ri.gf⟩:aa))∈z.2.1)}) [0,1,2,27] [2,3,4,6,7] U U (fun z=>[]) (fun z=>[(yx iV j xa (bT dV x) (bT dV z.1.1) none),z.1.2.2]) (fun _=>rfl) (fun _=>rfl) (fun z=>z.1.1.length) ⟨(x,(([]:List (Int×aa))++[((-1),(aa.mk ri.Start ri.gf))]),B3),G⟩ (dB.nil _) (aL [2,3,4,6,7,0,1]) ?_
 clear G
 rintro ⟨⟨left,ys,A⟩,⟨B,C,D,E,F⟩⟩ J8 W
 try dsimp only at B C D E F
 try dsimp only
 refine WS fun _ S=>iW (eL pK).inj (f:=dV) 5 U U U U (fun T=>?_) (fun i z hm hn=>?_)
 ·refine rP 1 [] I ?_
  refine RK S<|al fun _ c=>aX U<|bE<|ag<|ag<|aA ?_
  refine hN _ _ _ (gV (vs:=[]) trivial fun w hs=>Kn 6 U (by exact G1 hx B T F) D E hs)
 try dsimp only
 refine bo 1 U<|RK S<|al fun _ O=>aQ U<|WK O<|ay<|WS fun _ P=>rS (SX (ja 5 U U U) U U)<|bo 2 U<|AL U dg fun g=>bo 1 U<|fQ U cu U<|RK P<|WS fun _ K=>rP 3 [] (mc 0 U I) ?_
 refine kf (k:=ys) (k':=(ys++[(i,z)])) 7 (by first|exact hsz|exact Nat.le_refl _) hY D E U U U (by exact ⟨(i,z),(wU hx).2 (.inr (C _ hm)),U,U⟩) U U (fun B15 AB H=>?_) (fun B15 AB H=>?_)
 rotate_left 1
 ·refine rP 1 [] I ?_
  refine RK K<|aQ U<|aq ?_
  refine hQ _ _ _ (gV (vs:=[]) trivial fun w hs=>rn 7 U AB H hs)
 refine rP 1 [] I ?_
 refine RK K<|aX U<|cp<|aH<|gQ 6 U fz U ?_
 refine aW (W ⟨((cD left i),(ys++[(i,z)]),B15),⟨Hy hn hm B,mj C,asm,asm,by simp [F]⟩⟩ _ _ _ U (eW hm) (aV U) (aL [1,2,3,4,5,6,7]))
theorem ux (gw b:Nat):
 lE Tryz.prog 204 [(vP gw),(vI (b:Int))] [] (fun (x:Nat×Nat)=>(Value.func (.func 212) [].toArray [(Value.pointer (some ⟨x.1,0,none⟩)),(Value.pointer (some ⟨x.2,0,none⟩))].toArray)) (fun (x:Nat×Nat)=>True) (fun (x:Nat×Nat)=>[(bY x.1 259 [(vP gw)]),(bY x.2 3 [(vI (b:Int))])]):=by
 refine dv kr Tryz.func204 U U fun E Q hQ hN=>?_
 try dsimp only
 refine WS fun _ A=>uh U U fun C=>uh U U fun D=>bo 1 U<|RK A<|WS fun _ B=>rS (FU U)<|rP 1 [] I ?_
 refine RK B<|aq<|LX hQ (C,D) [1,0] [] I U U U U ?_
 trivial
theorem ID (gw b:Nat):
 lE Tryz.prog 199 [(vP gw),(vI (b:Int))] [] (fun (x:Nat×Nat)=>(Value.func (.func 203) [].toArray [(Value.pointer (some ⟨x.1,0,none⟩)),(Value.pointer (some ⟨x.2,0,none⟩))].toArray)) (fun (x:Nat×Nat)=>True) (fun (x:Nat×Nat)=>[(bY x.1 259 [(vP gw)]),(bY x.2 3 [(vI (b:Int))])]):=by
 refine dv kr Tryz.func199 U U fun E Q hQ hN=>?_
 try dsimp only
 refine WS fun _ A=>uh U U fun C=>uh U U fun D=>bo 1 U<|RK A<|WS fun _ B=>rS (FU U)<|rP 1 [] I ?_
 refine RK B<|aq<|LX hQ (C,D) [1,0] [] I U U U U ?_
 trivial
end
section
open Go.RowKit
theorem ou:tW Tryz.prog 276 ei:=Nn OY (fun x y w=>Qk 9998 x y w) (fun x y h=>by cases x; cases y; simp [aC.cells] at h; simp [h]) (fun x=>by simp [aC.cells,Instr.sameBits]) (fun x w=>⟨_,rfl,fun p hp=>by
 simp only [er,List.not_mem_nil,or_false] at hp
 rcases hp with rfl|rfl
 ·exact ⟨⟨_,jC cd U w⟩,_,pK⟩
 ·exact ⟨⟨_,jC cd U w⟩,_,pK⟩⟩)
theorem IX (s:Int):
 eg Tryz.prog 207 [(vI s)] [] (vA (aC.cells (fh s))):=by
 refine bI kr Tryz.func207 U U fun H Q hQ hN=>?_
 try dsimp only
 refine WS fun _ B=>AL U sI fun G=>RK B<|al fun _ C=>WS fun _ D=>rP 2 [] I ?_
 refine RK D<|cO U (aP fun A=>?_) (aR fun A=>?_)
 ·refine WS fun _ E=>rS (SX (bj (xs:=[(1,.const (vI 1))]) (cs:=(aC.cells (aC.mk 0 1))) U U (bk BT U)) U U)<|fQ U rj U<|RK E<|aq<|HO hQ [0] (mc 0 U I) U ?_
  unfold fh; first|rw [if_pos A]|rw [if_neg A]
 refine WK C<|WS fun _ F=>rS (SX (bj (xs:=[(0,.const (vI 1))]) (cs:=(aC.cells (aC.mk 1 0))) U U (bk BT U)) U U)<|fQ U rj U<|RK F<|aq<|HO hQ [0] (mc 0 U I) U ?_
 unfold fh; first|rw [if_pos A]|rw [if_neg A]
theorem vy (x:aC) (y:aC) (hx:(0≤x.right∧x.right≤1000)∧0≤x.eP∧x.eP≤1000) (hy:(0≤y.right∧y.right≤1000)∧0≤y.eP∧y.eP≤1000):
 eg Tryz.prog 206 [(vA (aC.cells x)),(vA (aC.cells y))] [] (vA (aC.cells (dk x y))):=by
 refine bI kr Tryz.func206 U U fun F Q hQ hN=>?_
 try dsimp only
 refine WS fun _ A=>fR U fun C=>fR U fun D=>AL U sI fun E=>RK A<|WS fun _ B=>rP 10 [0,1,0,1] (mc 2 U (mc 1 U I)) ?_
 refine rS (SX (bj (xs:=[(0,.tmp 9),(1,.tmp 14)]) (cs:=(aC.cells (aC.mk (x.right+y.right) (x.eP+y.eP)))) U U (bk BT U)) U U)<|fQ U rj U<|RK B<|aq ?_
 exact HO hQ [0] (mc 0 U I) U U
theorem Oh (ln:bJ) (ri:eG) (e:List Int) (tms:List TM) (e_A:OA) (e_C:Nat) (tb:List Nat) (t_A:OA) (t_C:Nat) (fs:List FM) (bs:List FM) (fb:List Nat) (f_A:OA) (f_C:Nat) (bb:List Nat) (b_A:OA) (b_C gw:Nat) (x:aC) (hx:(0≤x.right∧x.right≤1000)∧0≤x.eP∧x.eP≤1000) (hn:ri.ak.n≤1000):
 eg Tryz.prog 205 [(vP gw),(vA (aC.cells x))] [(rd e_A e.length 1 (e.map iC)),(rd t_A tms.length 1 (List.zipWith gD tms tb)),(e9 (aS q8 tms tb)),(rd f_A fs.length 1 (List.zipWith gD fs fb)),(e9 (aS nG fs fb)),(rd b_A bs.length 1 (List.zipWith gD bs bb)),(e9 (aS nG bs bb)),(bY gw 270 (cb.cells (cb.mk ln ri (aN.mk e_A e.length e_C) (aN.mk t_A tms.length t_C) (aN.mk f_A fs.length f_C) (aN.mk b_A bs.length b_C))))] (vB (kh (cN ln ri e tms) x)):=by
 refine bI kr Tryz.func205 U U fun E Q hQ hN=>?_
 try dsimp only
 refine WS fun _ C=>fR U fun D=>bo 1 U<|RK C<|al fun _ B=>dq cy 26 kr<|mu 3 [] (mc 0 U I) U<|dS (SX (bO U U) U U)<|dP 5 [] (mr 8 U I) ?_
 refine iw (t:=13) U (aR fun A=>?_) (aP fun A=>?_)
 ·refine dP 17 [] I ?_
  refine cL<|RK B<|aq<|Q1 hQ U U U ?_
  exact cB (cq (fun h=>A h.1)).symm
 refine km 1 U<|dS (SX (bO U U) U U)<|mu 8 [0,1] (mr 8 U (mc 0 U I)) U<|dS (SX (bO U U) U U)<|dP 6 [] (mr 8 U I) ?_
 refine cL<|RK B<|aq<|Q1 hQ U U U ?_
 exact cB (decide_eq_decide.2 ⟨fun h=>⟨A,h⟩,fun h=>h.2⟩)
end
end Go.Proofs.YtdllkkdchkhimaaGreatDoor
