/-
 The statement raceLater_said, part 5 of 8: RaceV, RankP, OrdX, TabP, NestS, Grp, Twin, Fresh, Rep, Ex6, Win6, BoolC, RaceR, Tied6, Sel6, WLe, Ends5, Can, False, Sim, Told, Later, Nar6, Later7, Lat7, Lat8, MapD, Rep6, Bits, B1, Rc1, Rs5, CloneM, Rs1, S2, Rs2, B4, B2, B3.
 Conditions: none.
-/
import Derived.Test.YtlajhejcfcoddaaGreatDoorTv1
import Derived.Test.YtlajhejcfcoddaaGreatDoorTv2
import Derived.Test.YtlajhejcfcoddaaGreatDoorTv3
import Derived.Test.YtlajhejcfcoddaaGreatDoorTv4
import Derived.KernelRfl
import Derived.MapKept
import Derived.Laws.Externs
namespace Go.Proofs.YtlajhejcfcoddaaGreatDoor
set_option maxRecDepth 100000
set_option maxHeartbeats 4000000
set_option linter.unusedVariables false
section
def aD (m:g8) (i:Int):aa:=(m.lookup i).getD dL
def ux (r:cj) (i:Int):Prop:=0≤i∧i≤(r.aM.length:Int)-1
instance (r:cj) (i:Int):Decidable (ux r i):=by unfold ux; infer_instance
noncomputable def kM (r:cj) (i:Int):Int:=if cG r=0 then (if ux r i then (if (aG r).lookup i=none then 6 else 0) else 2) else cG r
noncomputable def uj (r:cj) (i:Int):aa:=if kM r i=0 then aD (aG r) i else dL
noncomputable def nP (r:cj) (a b:Int):Int:=if cG r=0 then (if ux r a∧ux r b∧a≠b then (if (aG r).lookup a=none∨(aG r).lookup b=none then 6 else 0) else 2) else cG r
def Co (s t:aa):Int:=if s.Hi<t.Lo then 2 else if s.Lo<t.Hi then 1 else 0
def sD (s t:aa):Int:=if s=t∧s.Lo=s.Hi then 2 else if s.Lo≤t.Hi∧t.Lo≤s.Hi then 1 else 0
noncomputable def wg (r:cj) (a b:Int):Int:=if nP r a b=0 then Co (aD (aG r) a) (aD (aG r) b) else 0
noncomputable def qF (r:cj) (a b:Int):Int:=if nP r a b=0 then sD (aD (aG r) a) (aD (aG r) b) else 0
noncomputable def gS (r:cj) (i:Int):List Int:=if kM r i=0 then d_ (aG r) i (aD (aG r) i) else []
noncomputable def kE (r:cj) (h i:Int):Int:=if cG r=0 then (if (0≤h∧h≤(r.ao.length:Int)-1)∧ux r i then (if ((r.ao[h.toNat]?).bind (·[i.toNat]?)).any (·.Out)=true then 6 else 0) else 2) else cG r
noncomputable def gY (r:cj) (h i:Int):aa:=if kE r h i=0 then ((((r.ao[h.toNat]?).bind (·[i.toNat]?)).map (dq r.an)).getD dL) else dL
noncomputable def tp (r:cj) (h:Nat):List Int:=let l:=eM (fun i=>(aD (eL r h) i).Hi) (r.bL.filter fun i=>((eL r h).lookup i).isSome); sL (min r.im.toNat l.length) l
noncomputable def hO (r:cj) (h:Int):Int:=if cG r=0 then (if 0≤h∧h≤(r.ao.length:Int) then 0 else 2) else cG r
noncomputable def gj (r:cj) (h:Int):List Int:=if hO r h=0 then (if h=0 then r.bL else tp r h.toNat) else []
section
variable {r:cj} {i a b:Int}
theorem vi {m:g8} {i:Int} (h:(m.lookup i).isSome=true): ¬ m.lookup i=none:=fun e=>by rw [e] at h; cases h
theorem u9 {m:g8} {i:Int} (h:(m.lookup i).isSome=false):m.lookup i=none:=by cases e:m.lookup i with |none=>rfl|some v=>rw [e] at h; cases h
theorem zT (h:kM r i=0):cG r=0∧ux r i∧(aG r).lookup i≠none:=by
 unfold kM at h
 split at h
 ·split at h
  ·split at h
   ·cases h
   ·exact ⟨asm,asm,asm⟩
  ·cases h
 ·exact absurd h asm
theorem zw (h:nP r a b=0):cG r=0∧(ux r a∧ux r b∧a≠b)∧(aG r).lookup a≠none∧(aG r).lookup b≠none:=by
 unfold nP at h
 split at h
 ·split at h
  ·split at h
   ·cases h
   ·rename_i _ _ q
    exact ⟨asm,asm,fun e=>q (.inl e),fun e=>q (.inr e)⟩
  ·cases h
 ·exact absurd h asm
theorem z_ {k:Nat} {p:Int×aa} (h:p∈eL r k): ∃ q:Nat,q<r.aM.length∧p.1=(q:Int)∧gv r.an r.ao q k=some p.2:=by
 unfold eL at h
 obtain ⟨q,hq,e⟩:=List.mem_filterMap.1 h
 obtain ⟨s,hs,rfl⟩:=Option.map_eq_some_iff.1 e
 exact ⟨q,List.mem_range.1 hq,U,hs⟩
theorem G4 {k:Nat} (h:cG r=0) (hk:k≤r.ao.length): ∀ p∈eL r k,0≤p.2.Lo∧p.2.Lo≤p.2.Hi∧p.2.Hi≤30000000:=fun p hp=>by
 obtain ⟨q,_,_,hs⟩:=z_ hp
 have A:=As (gX h).2.Bg hk hs
 have B:=(gX h).2.nh
 omega
theorem oZ (h:cG r=0): ∀ p∈aG r,0≤p.2.Lo∧p.2.Lo≤p.2.Hi∧p.2.Hi≤30000000:=G4 h (Nat.le_refl _)
theorem vn {k:Nat}:(eL r k).length≤r.aM.length:=by
 unfold eL
 refine Nat.le_trans (List.length_filterMap_le _ _) ?_
 rw [List.length_range]; exact Nat.le_refl _
theorem pD (h:cG r=0):(aG r).length≤5:=by
 have A:=vn (r:=r) (k:=r.ao.length)
 have B:=(gX h).2.num
 unfold aG; omega
theorem OP {s t:aa}:(if decide (s.Hi<t.Lo)=true then (2:Int) else if decide (s.Lo<t.Hi)=true then 1 else 0)=Co s t:=by simp only [decide_eq_true_eq]; rfl
theorem LK {s t:aa} (h:s=t):(if decide (max s.Lo t.Lo=min s.Hi t.Hi)=true then (2:Int) else if decide (max s.Lo t.Lo≤min s.Hi t.Hi)=true then 1 else 0)=sD s t:=by
 subst h
 simp only [decide_eq_true_eq,sD,Int.max_self,Int.min_self,true_and,and_self]
theorem Pq {s t:aa} (hs:s.Lo≤s.Hi) (ht:t.Lo≤t.Hi) (h: ¬ s=t):(if false=true then (2:Int) else if decide (max s.Lo t.Lo≤min s.Hi t.Hi)=true then 1 else 0)=sD s t:=by
 unfold sD
 rw [if_neg dc,if_neg (fun q:s=t∧s.Lo=s.Hi=>h q.1)]
 by_cases c:s.Lo≤t.Hi∧t.Lo≤s.Hi
 ·rw [if_pos c,if_pos (gF I)]
 ·rw [if_neg c,if_neg (by rw [decide_eq_true_eq]; omega)]
theorem K6 (h: ¬ cG r=0):kM r i=cG r:=if_neg h
theorem Lu (h:cG r=0) (hi: ¬ (0≤i∧i≤(r.aM.length:Int)-1)):kM r i=2:=by unfold kM; rw [if_pos h,if_neg (show ¬ ux r i from hi)]
theorem HF (h:cG r=0) (hi:0≤i∧i≤(r.aM.length:Int)-1) (hl:((aG r).lookup i).isSome=false):kM r i=6:=by unfold kM; rw [if_pos h,if_pos (show ux r i from hi),if_pos (u9 hl)]
theorem NZ (h:cG r=0) (hi:0≤i∧i≤(r.aM.length:Int)-1) (hl:((aG r).lookup i).isSome=true):kM r i=0:=by unfold kM; rw [if_pos h,if_pos (show ux r i from hi),if_neg (vi hl)]
theorem LD (h: ¬ cG r=0):nP r a b=cG r:=if_neg h
theorem CE (h:cG r=0) (hi: ¬ ((0≤a∧a≤(r.aM.length:Int)-1)∧(0≤b∧b≤(r.aM.length:Int)-1)∧a≠b)):nP r a b=2:=by unfold nP; rw [if_pos h,if_neg (show ¬ (ux r a∧ux r b∧a≠b) from hi)]
theorem zo (h:cG r=0) (hi:(0≤a∧a≤(r.aM.length:Int)-1)∧(0≤b∧b≤(r.aM.length:Int)-1)∧a≠b) (hl:((aG r).lookup a).isSome=false∨((aG r).lookup b).isSome=false):nP r a b=6:=by
 unfold nP; rw [if_pos h,if_pos (show ux r a∧ux r b∧a≠b from hi),if_pos (hl.imp u9 u9)]
theorem Pf (h:cG r=0) (hi:(0≤a∧a≤(r.aM.length:Int)-1)∧(0≤b∧b≤(r.aM.length:Int)-1)∧a≠b) (h1:((aG r).lookup a).isSome=true) (h2:((aG r).lookup b).isSome=true):nP r a b=0:=by
 unfold nP; rw [if_pos h,if_pos (show ux r a∧ux r b∧a≠b from hi),if_neg (fun q=>q.elim (vi h1) (vi h2))]
end
end
section
abbrev qW:=List (Int×Bool)
def ju (m:qW) (P:Int→Prop):Prop:=(m.map (·.1)).Nodup∧ ∀ k,k∈m.map (·.1)↔P k
section
variable {m:qW} {P Q:Int→Prop} {k:Int}
theorem ju.yX (h:ju m P) (e: ∀ k,P k↔Q k):ju m Q:=⟨h.1,fun k=>(h.2 k).trans (e k)⟩
theorem M9 (h: ∀ k,¬ P k):ju [] P:=⟨List.Pairwise.nil,fun k=>⟨fun q=>by simp at q,fun q=>absurd q (h k)⟩⟩
theorem Iz:k∈m.map (·.1)↔(m.lookup k).isSome=true:=by
 induction m with
 |nil=>simp
 |cons p m ih=>
  obtain ⟨a,b⟩:=p
  by_cases e:k=a
  ·subst e; simp [List.lookup]
  ·have:(k==a)=false:=by simpa using e
   simp only [List.map_cons,bx,e,false_or,List.lookup,this]
   exact ih
theorem Kp {b:Bool} (h:ju m P) (hk: ¬ P k):ju (e_ m k b) fun q=>P q∨q=k:=by
 have hn:(m.lookup k).isSome=false:=by
  rw [Bool.eq_false_iff]
  exact fun q=>hk ((h.2 k).1 (Iz.2 q))
 unfold e_
 rw [hn]
 simp only [Bool.false_eq_true,if_false]
 refine ⟨?_,fun q=>?_⟩
 ·rw [List.map_append]
  refine List.nodup_append.2 ⟨h.1,sm,fun a ha b hb e=>?_⟩
  simp at hb
  subst hb; subst e
  exact hk ((h.2 _).1 ha)
 ·rw [List.map_append,dN,h.2 q]
  simp
theorem CN (h:ju m P):ju (cH m k) fun q=>P q∧q≠k:=by
 have hs:((cH m k).map (·.1)).Sublist (m.map (·.1)):=List.Sublist.map _ List.filter_sublist
 refine ⟨h.1.sublist hs,fun q=>?_⟩
 constructor
 ·intro hq
  obtain ⟨p,hp,rfl⟩:=bZ.1 hq
  obtain ⟨A,B⟩:=kx.1 hp
  exact ⟨(h.2 _).1 (List.mem_map_of_mem A),B⟩
 ·rintro ⟨A,B⟩
  obtain ⟨p,hp,rfl⟩:=bZ.1 ((h.2 q).2 A)
  exact List.mem_map_of_mem (kx.2 ⟨hp,B⟩)
end
/-- two rows that go up and have the same numbers, each once -/
theorem rI {a b:List Int} (ha:a.Pairwise (· ≤ ·)) (hb:b.Pairwise (· ≤ ·)) (na:a.Nodup) (nb:b.Nodup) (h: ∀ x,x∈a↔x∈b):a=b:=
 sO ((List.perm_ext_iff_of_nodup na nb).2 h) ha hb
def JK (l:List Int):Nat:=if l.length=2∧l[1]? =l[0]? then 1 else l.length
theorem zt {l:List Int} {x y:Int} (h:l.length=2) (h0:l[0]? =some y) (h1:l[1]? =some x) (e:x=y):JK l=1:=if_pos ⟨h,by rw [h0,h1,e]⟩
theorem CY {l:List Int} {x y:Int} (h:l.length=2) (h0:l[0]? =some y) (h1:l[1]? =some x) (e: ¬ x=y):JK l=l.length:=if_neg fun q=>e (by have:=q.2; rw [h0,h1] at this; exact Option.some.inj this)
theorem Mh (a b:Int):(a=b∧JK (dE [a,b])=1)∨(¬ a=b∧JK (dE [a,b])=2):=by
 have hl:(dE [a,b]).length=2:=by simp
 have hp:(dE [a,b]).Perm [a,b]:=fT
 match hs:dE [a,b],hl with
 |[x,y],_=>
  rw [hs] at hp
  by_cases e:a=b
  ·subst e
   left
   refine ⟨U,zt U U U ?_⟩
   have A:x∈[a,a]:=hp.mem_iff.1 sm
   have B:y∈[a,a]:=hp.mem_iff.1 sm
   simp at A B; omega
  ·right
   refine ⟨e,(CY (x:=y) (y:=x) U U U fun q=>?_).trans U⟩
   subst q
   have A:=hp.nodup_iff.2 (show [a,b].Nodup by simp [e])
   simp at A
section
variable {m left:g8} {i n x:Int} {y:aa}
theorem l7 {p:Int×aa→Bool} (hn:(left.map (·.1)).Nodup) (hm:(x,y)∈left):left.countP p=(cH left x).countP p+(if p (x,y)=true then 1 else 0):=by
 induction left with
 |nil=>cases hm
 |cons q left ih=>
  obtain ⟨a,b⟩:=q
  simp only [List.map_cons,List.nodup_cons] at hn
  rcases bx.1 hm with e|hm
  ·cases e
   have A:cH ((x,y)::left) x=left:=by
    unfold cH
    rw [List.filter_cons_of_neg sm]
    exact List.filter_eq_self.2 fun q hq=>by
     have:q.1≠x:=fun e=>hn.1 (e▸List.mem_map_of_mem hq)
     simpa using this
   rw [A,List.countP_cons]
  ·have B:a≠x:=fun e=>hn.1 (e▸List.mem_map_of_mem (f:=fun z:Int×aa=>z.1) hm)
   have A:cH ((a,b)::left) x=(a,b)::cH left x:=by
    unfold cH
    rw [List.filter_cons_of_pos (by simpa using B)]
   rw [A,List.countP_cons,List.countP_cons,ih hn.2 hm]
   omega
theorem oM:ji left i n=left.countP fun p=>decide (p.2.Hi<n)&& !decide (p.1=i):=by unfold ji ni; rw [List.countP_filter]
theorem pS:kG left i n=left.countP fun p=>decide (p.2.Lo<n)&& !decide (p.1=i):=by unfold kG ni; rw [List.countP_filter]
theorem IT (hn:(left.map (·.1)).Nodup) (hm:(x,y)∈left) (h:x=i):ji left i n=ji (cH left x) i n:=by
 rw [oM,oM,l7 hn hm]; simp [h]
theorem Ka (hn:(left.map (·.1)).Nodup) (hm:(x,y)∈left) (h:x=i):kG left i n=kG (cH left x) i n:=by
 rw [pS,pS,l7 hn hm]; simp [h]
theorem zh (hn:(left.map (·.1)).Nodup) (hm:(x,y)∈left) (h: ¬ x=i) (hy:y.Hi<n):ji left i n=ji (cH left x) i n+1:=by
 rw [oM,oM,l7 hn hm]; simp [h,hy]
theorem C_ (hn:(left.map (·.1)).Nodup) (hm:(x,y)∈left) (h: ¬ x=i) (hy: ¬ y.Hi<n):ji left i n=ji (cH left x) i n:=by
 rw [oM,oM,l7 hn hm]; simp [h,hy]
theorem Du (hn:(left.map (·.1)).Nodup) (hm:(x,y)∈left) (h: ¬ x=i) (hy:y.Lo<n):kG left i n=kG (cH left x) i n+1:=by
 rw [pS,pS,l7 hn hm]; simp [h,hy]
theorem F_ (hn:(left.map (·.1)).Nodup) (hm:(x,y)∈left) (h: ¬ x=i) (hy: ¬ y.Lo<n):kG left i n=kG (cH left x) i n:=by
 rw [pS,pS,l7 hn hm]; simp [h,hy]
theorem zg:ji [] i n=0:=rfl
theorem B0:kG [] i n=0:=rfl
theorem GU:ji m i n≤m.length:=by unfold ji ni; exact Nat.le_trans List.countP_le_length (List.length_filter_le _ _)
theorem JB:kG m i n≤m.length:=by unfold kG ni; exact Nat.le_trans List.countP_le_length (List.length_filter_le _ _)
end
def o1 {β:Type} (m left:List (Int×β)) (ys:List Int):Prop:=(ys++left.map (·.1)).Perm (m.map (·.1))
theorem v8 {β:Type} {m:List (Int×β)}:o1 m m []:=List.Perm.refl _
theorem yi {β:Type} {m:List (Int×β)} {ys:List Int} (h:o1 m [] ys):ys.Perm (m.map (·.1)):=by simpa [o1] using h
theorem JD {β:Type} {left:List (Int×β)} {x:Int} {y:β} (hn:(left.map (·.1)).Nodup) (hm:(x,y)∈left):(left.map (·.1)).Perm (x::(cH left x).map (·.1)):=by
 induction left with
 |nil=>cases hm
 |cons q left ih=>
  obtain ⟨a,b⟩:=q
  simp only [List.map_cons,List.nodup_cons] at hn
  rcases bx.1 hm with e|hm
  ·cases e
   have A:cH ((x,y)::left) x=left:=by
    unfold cH
    rw [List.filter_cons_of_neg sm]
    exact List.filter_eq_self.2 fun q hq=>by
     have:q.1≠x:=fun e=>hn.1 (e▸List.mem_map_of_mem hq)
     simpa using this
   rw [A]; exact List.Perm.refl _
  ·have B:a≠x:=fun e=>hn.1 (e▸List.mem_map_of_mem (f:=fun z:Int×β=>z.1) hm)
   have A:cH ((a,b)::left) x=(a,b)::cH left x:=by
    unfold cH
    rw [List.filter_cons_of_pos (by simpa using B)]
   rw [A,List.map_cons,List.map_cons]
   exact ((ih hn.2 hm).cons a).trans (List.Perm.swap _ _ _)
theorem oK {β:Type} {m left:List (Int×β)} {ys:List Int} {x:Int} {y:β} (hn:(left.map (·.1)).Nodup) (hm:(x,y)∈left) (h:o1 m left ys):o1 m (cH left x) (ys++[x]):=by
 unfold o1 at h ⊢
 refine List.Perm.trans ?_ h
 rw [List.append_assoc]
 exact (JD hn hm).symm.append_left ys
theorem gp {β:Type} {m left:List (Int×β)} {x:Int} (h: ∀ p∈left,p∈m): ∀ p∈cH left x,p∈m:=fun p hp=>h p (kx.1 hp).1
theorem g_ {m:g8} {i:Int} (h: ∀ p∈m,0≤p.2.Lo∧p.2.Lo≤p.2.Hi∧p.2.Hi≤30000000):0≤(aD m i).Lo∧(aD m i).Lo≤(aD m i).Hi∧(aD m i).Hi≤30000000:=by
 unfold aD
 cases e:m.lookup i with
 |none=>simp [dL]
 |some v=>
  have hm:(i,v)∈m:=by
   clear h
   induction m with
   |nil=>cases e
   |cons p m ih=>
    obtain ⟨a,b⟩:=p
    by_cases c:i=a
    ·subst c; simp [List.lookup] at e; subst e; exact cv
    ·have:(i==a)=false:=by simpa using c
     simp only [List.lookup,this] at e
     exact cY _ (ih e)
  simpa using h _ hm
/-- not reached by the numbers so far -/
def vr (m:g8) (i:Int) (ys:List Int) (k:Int):Prop:=(1≤k∧k≤(m.length:Int))∧ ∀ n∈ys,¬ ((ji m i n:Int)+1≤k∧k≤(kG m i n:Int)+1)
section
variable {m:g8} {i:Int} {own:aa} {ys:List Int} {nev ranks:qW} {n a b:Int}
theorem Mn (h:ju nev fun k=>1≤k∧k≤(m.length:Int)):ju nev (vr m i []):=h.yX fun k=>⟨fun h=>⟨h,fun n hn=>by cases hn⟩,fun h=>h.1⟩
theorem Jf (ha:a=(ji m i n:Int)+1) (hb:b=(kG m i n:Int)+1) (h:ju nev fun q=>vr m i ys q∧ ¬ (a≤q∧q≤b)):ju nev (vr m i (ys++[n])):=by
 subst ha hb
 refine h.yX fun k=>?_
 unfold vr
 constructor
 ·rintro ⟨⟨B,A⟩,C⟩
  refine ⟨B,fun x hx=>?_⟩
  rcases dN.1 hx with hx|hx
  ·exact A x hx
  ·rw [bI] at hx; subst hx; exact C
 ·rintro ⟨B,A⟩
  exact ⟨⟨B,fun x hx=>A x (List.mem_append_left _ hx)⟩,A n sm⟩
theorem Em {P:Int→Prop} {k:Int} (hk:a≤k) (h:ju nev fun q=>P q∧ ¬ (a≤q∧q<k)):ju (cH nev k) fun q=>P q∧ ¬ (a≤q∧q<k+1):=
 (CN (k:=k) h).yX fun q=>by
  constructor
  ·rintro ⟨⟨B,A⟩,E⟩; exact ⟨B,fun ⟨C,D⟩=>A ⟨C,I⟩⟩
  ·rintro ⟨B,A⟩; exact ⟨⟨B,fun ⟨C,D⟩=>A ⟨C,I⟩⟩,fun e=>A ⟨I,I⟩⟩
theorem F0 (hall: ∀ n,n∈ys↔n∈j0 m i own) {k:Int} (hk:1≤k∧k≤(m.length:Int)): ¬ vr m i ys k↔tj m i own k:=by
 unfold vr tj
 constructor
 ·intro h
  refine Classical.byContradiction fun q=>h ⟨hk,fun n hn hc=>q ⟨n,(hall n).1 hn,hc.1,hc.2⟩⟩
 ·rintro ⟨n,hn,A,B⟩ h
  exact h.2 n ((hall n).2 hn) ⟨A,B⟩
/-- the ranks, from what is left of the map -/
theorem Fl (hi:m.lookup i≠none) (hall: ∀ n,n∈ys↔n∈j0 m i own) (h:ju ranks fun k=>(1≤k∧k≤(m.length:Int))∧ ¬ vr m i ys k):dE (ranks.map (·.1))=d_ m i own:=by
 refine rI lM ?_ ((fT (l:=ranks.map (·.1))).nodup_iff.2 h.1) ?_ fun k=>?_
 ·unfold d_
  refine List.Pairwise.filter _ ?_
  rw [List.pairwise_map]
  exact List.pairwise_lt_range.imp fun h=>by omega
 ·unfold d_
  refine List.Pairwise.filter _ ?_
  rw [List.pairwise_map]
  exact List.pairwise_lt_range.imp fun h=>by omega
 ·rw [(fT (l:=ranks.map (·.1))).mem_iff,h.2 k,Io hi]
  constructor
  ·rintro ⟨A,B⟩; exact (F0 hall A).1 B
  ·intro A
   have hk:1≤k∧k≤(m.length:Int):=by
    obtain ⟨n,_,B,C⟩:=A
    have:=Ki hi (x:=n)
    omega
   exact ⟨hk,(F0 hall hk).2 A⟩
end
section
variable {nw left rk:qW} {N R:Int→Prop} {u:Int} {v:Bool}
theorem Ns (hl: ∀ p∈left,p∈nw) (hk:ju nw N) (hm:(u,v)∈left) (h:ju rk fun w=>R w∧ ¬ (N w∧w ∉ left.map (·.1))):ju (cH rk u) fun w=>R w∧ ¬ (N w∧w ∉ (cH left u).map (·.1)):=
 (CN (k:=u) h).yX fun w=>by
  have hd:w∈(cH left u).map (·.1)↔w∈left.map (·.1)∧w≠u:=by
   constructor
   ·intro q
    obtain ⟨p,hp,rfl⟩:=bZ.1 q
    exact ⟨List.mem_map_of_mem (kx.1 hp).1,(kx.1 hp).2⟩
   ·rintro ⟨D,E⟩
    obtain ⟨p,hp,rfl⟩:=bZ.1 D
    exact List.mem_map_of_mem (kx.2 ⟨hp,E⟩)
  constructor
  ·rintro ⟨⟨B,A⟩,C⟩
   exact ⟨B,fun q=>A ⟨q.1,fun z=>q.2 (hd.2 ⟨z,C⟩)⟩⟩
  ·rintro ⟨B,A⟩
   refine ⟨⟨B,fun q=>A ⟨q.1,fun z=>q.2 (hd.1 z).1⟩⟩,fun e=>A ⟨?_,fun z=>(hd.1 z).2 e⟩⟩
   subst e
   exact (hk.2 _).1 (List.mem_map_of_mem (f:=fun z:Int×Bool=>z.1) (hl _ hm))
theorem Mf {n:Nat} (h:ju rk R) (hR: ∀ k,R k→1≤k∧k≤(n:Int)):rk.length≤n:=by
 have hp:((List.range n).map fun (k:Nat)=>(k:Int)+1).Pairwise (· < ·):=by
  rw [List.pairwise_map]
  exact List.pairwise_lt_range.imp fun h=>by omega
 have e:dE (rk.map (·.1))=((List.range n).map fun (k:Nat)=>(k:Int)+1).filter fun k=>decide (k∈rk.map (·.1)):=by
  refine rI lM ((hp.filter _).imp fun h=>by omega) ((fT (l:=rk.map (·.1))).nodup_iff.2 h.1) ((hp.filter _).imp fun h=>by omega) fun k=>?_
  rw [(fT (l:=rk.map (·.1))).mem_iff,List.mem_filter,decide_eq_true_eq]
  refine ⟨fun q=>⟨?_,q⟩,fun q=>q.2⟩
  have:=hR k ((h.2 k).1 q)
  exact bZ.2 ⟨(k-1).toNat,List.mem_range.2 I,I⟩
 have A:=congrArg List.length e
 have B:=List.length_filter_le (fun k=>decide (k∈rk.map (·.1))) ((List.range n).map fun (k:Nat)=>(k:Int)+1)
 rw [gL,List.length_map] at A
 rw [List.length_map,List.length_range] at B
 omega
end
section
variable {m left:g8} {i x n:Int} {own y:aa} {ys:List Int}
/-- what was told so far: all of those who are not left -/
def zL (m:g8) (i:Int) (own:aa) (left:g8) (ys:List Int):Prop:=(∀ n∈ys,n∈j0 m i own)∧own.Lo∈ys∧ ∀ p∈m,p.1≠i→p ∉ left→ ∀ n∈[p.2.Lo+1,p.2.Hi+1],own.Lo≤n∧n≤own.Hi→n∈ys
theorem nz {p:Int×aa} (hp:p∈m) (hi:p.1≠i) (hn:n=p.2.Lo+1∨n=p.2.Hi+1) (hb:own.Lo≤n∧n≤own.Hi):n∈j0 m i own:=
 cY _ (List.mem_filter.2 ⟨List.mem_flatMap.2 ⟨p,List.mem_filter.2 ⟨hp,by simpa using hi⟩,by simpa using hn⟩,gF hb⟩)
theorem JP:zL m i own m [own.Lo]:=⟨fun n hn=>by rw [bI] at hn; subst hn; exact cv,sm,fun p hp _ hl=>absurd hp hl⟩
theorem NK (h:zL m i own [] ys) (n:Int):n∈ys↔n∈j0 m i own:=by
 refine ⟨h.1 n,fun hn=>?_⟩
 rcases bx.1 hn with rfl|hn
 ·exact h.2.1
 ·obtain ⟨C,D⟩:=List.mem_filter.1 hn
  obtain ⟨p,hp,hx⟩:=List.mem_flatMap.1 C
  obtain ⟨A,B⟩:=List.mem_filter.1 hp
  exact h.2.2 p A (by simpa using B) sm n hx (of_decide_eq_true D)
theorem lE {ys':List Int} (hm:(left.map (·.1)).Nodup) (hx:(x,y)∈left) (hl: ∀ p∈left,p∈m) (h:zL m i own left ys) (hs: ∀ n∈ys,n∈ys') (hn: ∀ n∈ys',n∈ys∨n∈j0 m i own)
 (hy:x≠i→ ∀ n∈[y.Lo+1,y.Hi+1],own.Lo≤n∧n≤own.Hi→n∈ys'):zL m i own (cH left x) ys':=by
 refine ⟨fun n A=>?_,hs _ h.2.1,fun p hp hi B n A hb=>?_⟩
 ·rcases hn n A with q|q
  ·exact h.1 n q
  ·exact q
 ·by_cases e:p∈left
  ·have C:p.1=x:=by
    refine Classical.byContradiction fun q=>B (kx.2 ⟨e,q⟩)
   have E:p=(x,y):=by
    obtain ⟨G,H⟩:=p
    simp only at C; subst C
    have F:=(j7 hm).1 e
    have D:=(j7 hm).1 hx
    rw [F] at D; cases D; rfl
   subst E
   exact hy hi n A hb
  ·exact hs n (h.2.2 p hp hi e n A hb)
end
section
variable {r:cj} {h i:Int} {ht:List au} {d:au}
theorem pz (he: ¬ cG r=0):kE r h i=cG r:=if_neg he
theorem pa (he:cG r=0) (hi: ¬ ((0≤h∧h≤(r.ao.length:Int)-1)∧0≤i∧i≤(r.aM.length:Int)-1)):kE r h i=2:=by
 unfold kE; rw [if_pos he,if_neg (show ¬ ((0≤h∧h≤(r.ao.length:Int)-1)∧ux r i) from hi)]
theorem De (he:cG r=0) (hi:(0≤h∧h≤(r.ao.length:Int)-1)∧0≤i∧i≤(r.aM.length:Int)-1) (h1:r.ao[h.toNat]? =some ht) (h2:ht[i.toNat]? =some d):kE r h i=if d.Out=true then 6 else 0:=by
 unfold kE; rw [if_pos he,if_pos (show (0≤h∧h≤(r.ao.length:Int)-1)∧ux r i from hi),h1]
 simp [h2]
theorem n9 (he:cG r=0) (hi:(0≤h∧h≤(r.ao.length:Int)-1)∧0≤i∧i≤(r.aM.length:Int)-1) (h1:r.ao[h.toNat]? =some ht) (h2:ht[i.toNat]? =some d) (ho:d.Out=true):kE r h i=6:=by rw [De he hi h1 h2,if_pos ho]
theorem rn (he:cG r=0) (hi:(0≤h∧h≤(r.ao.length:Int)-1)∧0≤i∧i≤(r.aM.length:Int)-1) (h1:r.ao[h.toNat]? =some ht) (h2:ht[i.toNat]? =some d) (ho:d.Out=false):kE r h i=0∧gY r h i=dq r.an d:=by
 have e:kE r h i=0:=by rw [De he hi h1 h2,if_neg (by rw [ho]; decide)]
 refine ⟨e,?_⟩
 unfold gY
 rw [if_pos e,h1]
 simp [h2]
end
theorem Af {r:cj} {i:Int} (h: ¬ kM r i=0):gS r i=[]:=if_neg h
theorem Hd {r:cj} {i:Int} (h:kM r i=0):gS r i=d_ (aG r) i (aD (aG r) i):=if_pos h
end
section
open Go.RowKit
section
variable {key:Int→Int} {l q m:List Int} {i j:Nat} {x y:Int}
theorem Ih:1=1∧l=[]∨tI key l 1 l:=by
 cases l with
 |nil=>exact .inl ⟨rfl,rfl⟩
 |cons a l=>exact .inr (L5 sm)
theorem Ok (h:i<l.length) (hd:i=1∧l=[]∨tI key l i m):tI key l i m:=by
 rcases hd with ⟨_,rfl⟩|hd
 ·simp at h
 ·exact hd
theorem Jb (hi: ¬ i<l.length) (hl:m.length=l.length) (hd:i=1∧l=[]∨tI key l i m):m=eM key l:=by
 rcases hd with ⟨_,rfl⟩|hd
 ·exact j1 hl
 ·exact LL I hd
theorem Jp (hx:q[j]? =some x) (hy:q[j-1]? =some y) (h: ∀ z∈q,z∈l): ∀ z∈(q.set j y).set (j-1) x,z∈l:=fun z hz=>by
 rcases List.mem_or_eq_of_mem_set hz with hz|rfl
 ·rcases List.mem_or_eq_of_mem_set hz with hz|rfl
  ·exact h z hz
  ·exact h _ (aS hy)
 ·exact h _ (aS hx)
theorem xJ {p:Int→Bool} (hx:l[i]? =some x) (h:p x=true):(l.take (i+1)).filter p=(l.take i).filter p++[x]:=by
 rw [mA hx,List.filter_append]; simp [h]
theorem F8 {p:Int→Bool} (hx:l[i]? =some x) (h:p x=false):(l.take (i+1)).filter p=(l.take i).filter p:=by
 rw [mA hx,List.filter_append]; simp [h]
end
section
variable {r:cj} {h:Int} {n:Nat}
theorem FD (e: ¬ cG r=0):hO r h=cG r:=if_neg e
theorem FB (e:cG r=0) (q: ¬ (0≤h∧h≤(r.ao.length:Int))):hO r h=2:=by unfold hO; rw [if_pos e,if_neg q]
theorem rD (e:cG r=0) (q:0≤h∧h≤(r.ao.length:Int)):hO r h=0:=by unfold hO; rw [if_pos e,if_pos q]
theorem sP (hd:r.bL.length≤12):(gj r h).length≤12:=by
 unfold gj
 split
 ·split
  ·exact hd
  ·unfold tp
   simp only [kB,kZ]
   exact Nat.le_trans (List.length_filter_le _ _) hd
 ·simp
theorem zU (e: ¬ hO r h=0):gj r h=[]:=if_neg e
theorem vK (e:hO r h=0) (q:h=0):gj r h=r.bL:=by unfold gj; rw [if_pos e,if_pos q]
theorem wb (e:hO r (n:Int)=0) (q: ¬ (n:Int)=0):gj r (n:Int)=tp r n:=by unfold gj; rw [if_pos e,if_neg q,Int.toNat_natCast]
theorem z3 {k:Nat} {l:List Int} (hl:l=eM (fun i=>(aD (eL r n) i).Hi) (r.bL.filter fun i=>((eL r n).lookup i).isSome)) (hk:k=min r.im.toNat l.length):sL k l=tp r n:=by subst hl; subst hk; rfl
theorem Uc {m:g8} {l:List Int} (hb: ∀ p∈m,0≤p.2.Lo∧p.2.Lo≤p.2.Hi∧p.2.Hi≤30000000): ∀ x∈l,0≤(aD m x).Hi∧(aD m x).Hi≤30000000:=fun x _=>by have:=g_ (i:=x) hb; omega
theorem SH {m:g8} {l:List Int} (hb: ∀ p∈m,0≤p.2.Lo∧p.2.Lo≤p.2.Hi∧p.2.Hi≤30000000): ∀ x∈l,0≤(aD m x).Lo∧(aD m x).Lo≤30000000:=fun x _=>by have:=g_ (i:=x) hb; omega
end
end
section
def MQ (f:Int→aa) (g:List Int):Prop:= ∀ t,(∃ a∈g,(f a).Lo<t)→(∃ b∈g,t≤(f b).Lo)→ ∃ c∈g,(f c).Lo<t∧t≤(f c).Hi
def JW (f:Int→aa) (g h:List Int):Prop:= ∀ a∈g,∀ b∈h,(f a).Hi<(f b).Lo
structure iJ (f:Int→aa) (keys:List Int) (G:List (List Int)):Prop where
 perm:G.flatten.Perm keys
 some_: ∀ g∈G,g≠[]
 apart:G.Pairwise (JW f)
 tight: ∀ g∈G,MQ f g
def Cu (G:List (List Int)):Prop:= ∀ g∈G,g.Pairwise (· ≤ ·)
section
variable {f:Int→aa} {keys:List Int} {G G':List (List Int)} {g h:List Int} {x:Int}
theorem yD: ∀ {g:List Int},g≠[]→ ∃ a∈g,∀ b∈g,(f a).Lo≤(f b).Lo
 |[],h=>absurd rfl h
 |[a],_=>⟨a,sm,fun b hb=>by simp at hb; subst hb; omega⟩
 |a::b::g,_=>by
  obtain ⟨c,hc,hm⟩:=yD (g:=b::g) sm
  rcases Int.le_total (f a).Lo (f c).Lo with q|q
  ·refine ⟨a,sm,fun d hd=>?_⟩
   rcases bx.1 hd with rfl|hd
   ·omega
   ·have:=hm d hd; omega
  ·refine ⟨c,cY _ hc,fun d hd=>?_⟩
   rcases bx.1 hd with rfl|hd
   ·exact q
   ·exact hm d hd
/-- the first group is what no cut parts from the least -/
theorem se (hf: ∀ i∈keys,(f i).Lo≤(f i).Hi) (h:iJ f keys (g::G)) {a:Int} (ha:a∈keys) (hm: ∀ b∈keys,(f a).Lo≤(f b).Lo) {b:Int} (hb:b∈keys):b∈g↔ ∀ t,(f a).Lo<t→t≤(f b).Lo→ ∃ c∈keys,(f c).Lo<t∧t≤(f c).Hi:=by
 have hk: ∀ x,x∈keys↔x∈g∨x∈G.flatten:=fun x=>by rw [← h.perm.mem_iff,List.flatten_cons,dN]
 have A:=List.pairwise_cons.1 h.apart
 have B:a∈g:=by
  rcases (hk a).1 ha with q|q
  ·exact q
  ·obtain ⟨y,hy⟩:=List.exists_mem_of_ne_nil _ (h.some_ g cv)
   obtain ⟨g',hg',hag'⟩:=List.mem_flatten.1 q
   have F:=A.1 g' hg' y hy a hag'
   have H:=hm y ((hk y).2 (.inl hy))
   have E:=hf y ((hk y).2 (.inl hy))
   omega
 constructor
 ·intro AA t F H
  obtain ⟨c,hc,E⟩:=h.tight g cv t ⟨a,B,F⟩ ⟨b,AA,H⟩
  exact ⟨c,(hk c).2 (.inl hc),E⟩
 ·intro C
  rcases (hk b).1 hb with q|q
  ·exact q
  ·exfalso
   obtain ⟨d,hd,D⟩:=yD (f:=f) (g:=G.flatten) (fun e=>by rw [e] at q; cases q)
   obtain ⟨g',hg',hdg'⟩:=List.mem_flatten.1 hd
   have F:=A.1 g' hg' a B d hdg'
   have H:=hf a ha
   have E:=D b q
   obtain ⟨c,hc,K,L⟩:=C (f d).Lo I E
   rcases (hk c).1 hc with J|J
   ·have:=A.1 g' hg' c J d hdg'; omega
   ·have:=D c J; omega
theorem v_ (h:iJ f keys (g::G)):iJ f G.flatten G:=
 ⟨List.Perm.refl _,fun x hx=>h.some_ x (cY _ hx),(List.pairwise_cons.1 h.apart).2,fun x hx=>h.tight x (cY _ hx)⟩
theorem qI {k2:List Int} (h:iJ f keys G) (p:keys.Perm k2):iJ f k2 G:=⟨h.perm.trans p,h.some_,h.apart,h.tight⟩
theorem sG: ∀ {G G':List (List Int)} {keys:List Int},keys.Nodup→(∀ i∈keys,(f i).Lo≤(f i).Hi)→iJ f keys G→iJ f keys G'→Cu G→Cu G'→G=G'
 |[],[],keys,_,_,_,_,_,_=>rfl
 |[],g'::G',keys,_,_,h,h',_,_=>by
  exfalso
  have F:keys=[]:=List.Perm.eq_nil (by simpa using h.perm.symm)
  subst F
  have:=h'.perm.eq_nil
  simp at this
  exact h'.some_ g' cv this.1
 |g::G,[],keys,_,_,h,h',_,_=>by
  exfalso
  have F:keys=[]:=List.Perm.eq_nil (by simpa using h'.perm.symm)
  subst F
  have:=h.perm.eq_nil
  simp at this
  exact h.some_ g cv this.1
 |g::G,g'::G',keys,hn,hf,h,h',ha,ha'=>by
  have H:keys≠[]:=fun e=>by
   subst e
   have:=h.perm.eq_nil
   simp at this
   exact h.some_ g cv this.1
  obtain ⟨a,A,B⟩:=yD (f:=f) H
  have D:=h.perm.nodup_iff.2 hn
  have E:=h'.perm.nodup_iff.2 hn
  rw [List.flatten_cons,List.nodup_append] at D E
  have Bi: ∀ b∈g,b∈keys:=fun b hb=>h.perm.mem_iff.1 (by rw [List.flatten_cons]; exact List.mem_append_left _ hb)
  have C: ∀ b∈g',b∈keys:=fun b hb=>h'.perm.mem_iff.1 (by rw [List.flatten_cons]; exact List.mem_append_left _ hb)
  have e:g=g':=by
   refine rI (ha g cv) (ha' g' cv) D.1 E.1 fun b=>?_
   constructor
   ·intro hb
    exact (se hf h' A B (Bi b hb)).2 ((se hf h A B (Bi b hb)).1 hb)
   ·intro hb
    exact (se hf h A B (C b hb)).2 ((se hf h' A B (C b hb)).1 hb)
  subst e
  have p:G.flatten.Perm G'.flatten:=by
   have:=h.perm.trans h'.perm.symm
   rw [List.flatten_cons,List.flatten_cons] at this
   exact (List.perm_append_left_iff g).1 this
  rw [sG (G:=G) (G':=G') D.2.1 (fun i hi=>hf i (h.perm.mem_iff.1 (by rw [List.flatten_cons]; exact List.mem_append_right _ hi))) (v_ h) (qI (v_ h') p.symm) (fun x hx=>ha x (cY _ hx)) (fun x hx=>ha' x (cY _ hx))]
/-- groups, each one put in order -/
theorem vR (h:iJ f keys G):iJ f keys (G.map dE)∧Cu (G.map dE):=by
 have hp: ∀ G:List (List Int),(G.map dE).flatten.Perm G.flatten:=fun G=>by
  induction G with
  |nil=>simp
  |cons g G ih=>simp only [List.map_cons,List.flatten_cons]; exact fT.append ih
 have hm: ∀ {g:List Int} {x:Int},x∈dE g↔x∈g:=fT.mem_iff
 refine ⟨⟨(hp G).trans h.perm,fun g hg=>?_,?_,fun g hg=>?_⟩,fun g hg=>?_⟩
 ·obtain ⟨y,hy,rfl⟩:=bZ.1 hg
  intro e
  have:=(fT (l:=y)).symm
  rw [e] at this
  exact h.some_ y hy this.eq_nil
 ·rw [List.pairwise_map]
  exact h.apart.imp fun q a ha b hb=>q a (hm.1 ha) b (hm.1 hb)
 ·obtain ⟨y,hy,rfl⟩:=bZ.1 hg
  rintro t ⟨a,ha,A⟩ ⟨b,hb,B⟩
  obtain ⟨c,hc,C⟩:=h.tight y hy t ⟨a,hm.1 ha,A⟩ ⟨b,hm.1 hb,B⟩
  exact ⟨c,hm.2 hc,C⟩
 ·obtain ⟨y,hy,rfl⟩:=bZ.1 hg
  exact lM
end
/-- so far: groups, and the greatest of all -/
structure mQ (f:Int→aa) (p:List Int) (G:List (List Int)) (last:Int):Prop where
 ok:iJ f p G
 Qu: ∀ a∈p,(f a).Hi≤last
 at_:p=[]∧last= -1∨ ∃ a∈p,(f a).Hi=last
section
variable {f:Int→aa} {p:List Int} {G:List (List Int)} {g:List Int} {x last:Int}
theorem Gz:mQ f [] [] (-1):=⟨⟨sm,fun g hg=>(by cases hg),List.Pairwise.nil,fun g hg=>by cases hg⟩,fun a ha=>(by cases ha),.inl ⟨rfl,rfl⟩⟩
theorem Iw:MQ f [x]:=by
 rintro t ⟨a,ha,A⟩ ⟨b,hb,B⟩
 simp at ha hb; subst ha hb; omega
theorem r8 (h0: -1≤(f x).Hi) (h:mQ f p G last):(∀ a∈p++[x],(f a).Hi≤max last (f x).Hi)∧((p++[x])=[]∧max last (f x).Hi= -1∨ ∃ a∈p++[x],(f a).Hi=max last (f x).Hi):=by
 refine ⟨fun a ha=>?_,.inr ?_⟩
 ·rcases dN.1 ha with ha|ha
  ·have:=h.Qu a ha; omega
  ·rw [bI] at ha; subst ha; omega
 ·rcases Int.le_total last (f x).Hi with q|q
  ·exact ⟨x,sm,I⟩
  ·rcases h.at_ with ⟨rfl,e⟩|⟨a,ha,e⟩
   ·exact ⟨x,sm,I⟩
   ·exact ⟨a,List.mem_append_left _ ha,I⟩
theorem Np (h0: -1≤(f x).Hi) (h:mQ f p G last) (hl:last<(f x).Lo):mQ f (p++[x]) (G++[[x]]) (max last (f x).Hi):=by
 have A: ∀ y∈G,∀ a∈y,a∈p:=fun y hy a ha=>h.ok.perm.mem_iff.1 (List.mem_flatten.2 ⟨y,hy,ha⟩)
 refine ⟨⟨?_,fun y hy=>?_,?_,fun y hy=>?_⟩,(r8 h0 h).1,(r8 h0 h).2⟩
 ·rw [List.flatten_append]
  exact h.ok.perm.append sm
 ·rcases dN.1 hy with hy|hy
  ·exact h.ok.some_ y hy
  ·rw [bI] at hy; subst hy; simp
 ·rw [List.pairwise_append]
  refine ⟨h.ok.apart,List.pairwise_singleton _ _,fun y hy z hz a ha b hb=>?_⟩
  rw [bI] at hz; subst hz
  rw [bI] at hb; subst hb
  have:=h.Qu a (A y hy a ha); omega
 ·rcases dN.1 hy with hy|hy
  ·exact h.ok.tight y hy
  ·rw [bI] at hy; subst hy; exact Iw
theorem Lx (h0: -1≤(f x).Hi) (hf: ∀ i∈p,(f i).Lo≤(f i).Hi) (hx: ∀ a∈p,(f a).Lo≤(f x).Lo) (h:mQ f p (G++[g]) last) (hl: ¬ last<(f x).Lo):mQ f (p++[x]) (G++[g++[x]]) (max last (f x).Hi):=by
 have A: ∀ y∈G++[g],∀ a∈y,a∈p:=fun y hy a ha=>h.ok.perm.mem_iff.1 (List.mem_flatten.2 ⟨y,hy,ha⟩)
 have C:=List.pairwise_append.1 h.ok.apart
 have B:=h.ok.some_ g sm
 refine ⟨⟨?_,fun y hy=>?_,?_,fun y hy=>?_⟩,(r8 h0 h).1,(r8 h0 h).2⟩
 ·have:=h.ok.perm
  rw [List.flatten_append] at this ⊢
  simp only [List.flatten_cons,List.flatten_nil,List.append_nil] at this ⊢
  rw [← List.append_assoc]
  exact this.append_right _
 ·rcases dN.1 hy with hy|hy
  ·exact h.ok.some_ y (List.mem_append_left _ hy)
  ·rw [bI] at hy; subst hy; simp
 ·rw [List.pairwise_append]
  refine ⟨C.1,List.pairwise_singleton _ _,fun y hy z hz a ha b hb=>?_⟩
  rw [bI] at hz; subst hz
  rcases dN.1 hb with hb|hb
  ·exact C.2.2 y hy g sm a ha b hb
  ·rw [bI] at hb; subst hb
   obtain ⟨c,hc⟩:=List.exists_mem_of_ne_nil _ B
   have K:=C.2.2 y hy g sm a ha c hc
   have H:=hx c (A g sm c hc)
   omega
 ·rcases dN.1 hy with hy|hy
  ·exact h.ok.tight y (List.mem_append_left _ hy)
  ·rw [bI] at hy; subst hy
   rintro t ⟨a,ha,K⟩ ⟨b,hb,H⟩
   by_cases D: ∃ b∈g,t≤(f b).Lo
   ·obtain ⟨b',hb',L⟩:=D
    have AA:a∈g:=by
     rcases dN.1 ha with q|q
     ·exact q
     ·rw [bI] at q; subst q
      have:=hx b' (A g sm b' hb'); omega
    obtain ⟨c,hc,M⟩:=h.ok.tight g sm t ⟨a,AA,K⟩ ⟨b',hb',L⟩
    exact ⟨c,List.mem_append_left _ hc,M⟩
   ·have J: ∀ c∈g,(f c).Lo<t:=fun c hc=>by
     refine Classical.byContradiction fun q=>D ⟨c,hc,I⟩
    have N:t≤(f x).Lo:=by
     rcases dN.1 hb with q|q
     ·exact absurd ⟨b,q,H⟩ D
     ·rw [bI] at q; subst q; exact H
    rcases h.at_ with ⟨e,_⟩|⟨c,hc,e⟩
    ·exfalso
     obtain ⟨c,hc⟩:=List.exists_mem_of_ne_nil _ B
     have:=A g sm c hc
     rw [e] at this; cases this
    ·have E:c∈g:=by
      obtain ⟨y,hy,F⟩:=List.mem_flatten.1 (h.ok.perm.mem_iff.2 hc)
      rcases dN.1 hy with hy|hy
      ·exfalso
       obtain ⟨d,hd⟩:=List.exists_mem_of_ne_nil _ B
       have L:=C.2.2 y hy g sm c F d hd
       have M:=hf d (A g sm d hd)
       have O:=h.Qu d (A g sm d hd)
       omega
      ·rw [bI] at hy; subst hy; exact F
     exact ⟨c,List.mem_append_left _ E,J c E,I⟩
theorem Mz (h:mQ f p G last) (hp:p≠[]):G≠[]:=fun e=>by
 subst e
 exact hp (by simpa using h.ok.perm.symm.eq_nil)
end
end
section
open Go.RowKit
/-- a map, or nil -/
def oC (o:Option Nat):List Value:=[Value.map o]
theorem AQ {α:Type}: ∀ {ms:List α} {asl:List Nat},ms.length=asl.length→List.zipWith gV ms asl=(asl.map some).map oC
 |[],[],_=>rfl
 |[],_::_,h=>by simp at h
 |_::_,[],h=>by simp at h
 |x::ms,y::asl,h=>by simp only [List.zipWith_cons_cons,List.map_cons,AQ (ms:=ms) (asl:=asl) (by simpa using h)]; rfl
/-- what stands for all but one -/
def ff {M A:Type} (f:M→A→List aw) (ms:List M) (asl:List A) (k:Nat):List aw:=aR f (ms.take k) (asl.take k)++aR f (ms.drop (k+1)) (asl.drop (k+1))
theorem jU {M A:Type} {f:M→A→List aw}: ∀ {ms:List M} {asl:List A} {k:Nat} {m:M} {a:A},ms[k]? =some m→asl[k]? =some a→(aR f ms asl).Perm (f m a++ff f ms asl k)
 |[],_,k,m,a,h,_=>by simp at h
 |_::_,[],k,m,a,_,h=>by simp at h
 |x::ms,y::asl,0,m,a,h,h2=>by
  simp at h h2; subst h h2
  simp [ff,aR]
 |x::ms,y::asl,k+1,m,a,h,h2=>by
  have ih:=jU (f:=f) (ms:=ms) (asl:=asl) (k:=k) (by simpa using h) (by simpa using h2)
  show (f x y++aR f ms asl).Perm (f m a++ff f (x::ms) (y::asl) (k+1))
  have e:ff f (x::ms) (y::asl) (k+1)=f x y++ff f ms asl k:=by simp [ff,aR,List.append_assoc]
  rw [e]
  refine (ih.append_left (f x y)).trans ?_
  rw [← List.append_assoc,← List.append_assoc]
  exact List.perm_append_comm.append_right _
theorem HD {M A:Type} {f:M→A→List aw} {ms:List M} {asl:List A} {k:Nat} {m':M}:ff f (ms.set k m') asl k=ff f ms asl k:=by
 unfold ff
 rw [List.take_set_of_le (Nat.le_refl k),List.drop_set_of_lt (Nat.lt_succ_self k)]
theorem jT {S:BS} {w0 w:World} {C X Y:List aw} (hp:X.Perm Y) (h:St S w0 (br X::C) w):St S w0 (br Y::C) w:=by
 have A:St S w0 (X++C) w:=h.iw
 exact (A.perm (hp.append_right C)).tied
theorem St.out {M A:Type} {f:M→A→List aw} {S:BS} {w0 w:World} {C:List aw} {ms:List M} {asl:List A} {k:Nat} {m:M} {a:A} {X:aw} (hm:ms[k]? =some m) (ha:asl[k]? =some a) (hf:f m a=[X]) (h:St S w0 (br (aR f ms asl)::C) w):St S w0 (X::br (ff f ms asl k)::C) w:=by
 have B:=(jT (jU hm ha) h).iw
 rw [hf] at B
 have D:St S w0 (ff f ms asl k++(X::C)) w:=B.perm (List.perm_middle (a:=X) (l₁:=ff f ms asl k) (l₂:=C)).symm
 exact D.tied.perm (List.Perm.swap _ _ _)
theorem St.back {M A:Type} {f:M→A→List aw} {S:BS} {w0 w:World} {C:List aw} {ms:List M} {asl:List A} {k:Nat} {m':M} {a:A} {X:aw} (hk:k<ms.length) (ha:asl[k]? =some a) (hf:f m' a=[X]) (h:St S w0 (X::br (ff f ms asl k)::C) w):St S w0 (br (aR f (ms.set k m') asl)::C) w:=by
 have B:St S w0 (br (ff f ms asl k)::X::C) w:=h.perm (List.Perm.swap _ _ _)
 have D:=B.iw
 have E:St S w0 ((f m' a++ff f (ms.set k m') asl k)++C) w:=by
  rw [hf,HD]
  exact D.perm (List.perm_middle (a:=X) (l₁:=ff f ms asl k) (l₂:=C))
 exact jT (jU (List.getElem?_set_self hk) ha).symm E.tied
section
variable {E:fr} {ops:Array Oper} {Q:db} {rest:List Oper} {D:List Deferred} {L:List (Nat×Value)} {C C1:List aw}
variable {M A:Type} {f:M→A→List aw} {ms:List M} {asl:List A} {k:Nat} {m:M} {a:A} {X:aw}
theorem DU {c:Code} (i:Nat) (hm:ms[k]? =some m) (ha:asl[k]? =some a) (hf:f m a=[X]) (hn:decide (i::(List.range C.length).filter fun k=>k != i).Nodup=true) (hC:kD C (i::(List.range C.length).filter fun k=>k != i)=br (aR f ms asl)::C1)
 (h:WJ E c Q D L (X::br (ff f ms asl k)::C1)):WJ E c Q D L C:=fun a w hf' hs=>h a w hf' (St.out hm ha hf (St.kD _ hn hC hs))
theorem E_ {K:Act→World→Prop} (i j:Nat) (hk:k<ms.length) (ha:asl[k]? =some a) (hf:f m a=[X]) (hn:decide (j::i::(List.range C.length).filter fun k=>k != i&&k != j).Nodup=true) (hC:kD C (j::i::(List.range C.length).filter fun k=>k != i&&k != j)=X::br (ff f ms asl k)::C1)
 (h:KJ E K D L (br (aR f (ms.set k m) asl)::C1)):KJ E K D L C:=fun a w hf' hs=>h a w hf' (St.back hk ha hf (St.kD _ hn hC hs))
end
end
section
open Go.RowKit
def nI (l:List Int) (a:RA):List Value:=[vS a.1 l.length a.2]
def RS (l:List Int) (a:RA):List aw:=[rd a.1 l.length 1 (l.map iC)]
def tx (l:List Int) (a:RA):List aw:=[own a.1 a.2 Ul 1 (l.map iC)]
theorem zP: ∀ (m:List Int) (a:RA) (w:World),(∀ X∈tx m a,X.holds w)→ ∀ X∈RS m a,X.holds w:=fun m a w h X hX=>by
 simp only [RS,bI] at hX
 subst hX
 have:=oe (h _ (bI.2 rfl))
 simpa using this
theorem JL {l:List (List Int)} {bz:List RA}:(br (aR tx l bz)).wr=true:=by
 show (aR tx l bz).all (·.wr)=true
 rw [cV]
 intro X hX
 obtain ⟨k,m,a,_,_,h⟩:=j_ hX
 simp only [tx,bI] at h
 subst h; rfl
theorem kv {ls:List (List Int)} {az:List RA} (h:az.length=ls.length):(List.zipWith nI ls az).length=ls.length:=by simp [h]
theorem O4 (l:List (List Int)) (az:List RA): ∀ v∈(List.zipWith nI l az).flatten,v.oneCell'=true:=by
 induction l generalizing az with
 |nil=>intro v hv; simp at hv
 |cons x l ih=>
  cases az with
  |nil=>intro v hv; simp at hv
  |cons a az=>
   intro v hv
   rw [List.zipWith_cons_cons,List.flatten_cons,dN] at hv
   rcases hv with hv|hv
   ·simp [nI] at hv; subst hv; rfl
   ·exact ih az v hv
section
variable {M A:Type} {f:M→A→List aw} {ms:List M} {asl:List A} {k:Nat} {m:M} {a:A} {X:aw}
theorem pO:ff f (ms.set k m) (asl.set k a) k=ff f ms asl k:=by
 unfold ff
 rw [List.take_set_of_le (Nat.le_refl k),List.drop_set_of_lt (Nat.lt_succ_self k),List.take_set_of_le (Nat.le_refl k),List.drop_set_of_lt (Nat.lt_succ_self k)]
theorem St.TV {S:BS} {w0 w:World} {C:List aw} (hk:k<ms.length) (hk2:k<asl.length) (hf:f m a=[X]) (h:St S w0 (X::br (ff f ms asl k)::C) w):St S w0 (br (aR f (ms.set k m) (asl.set k a))::C) w:=by
 have A:St S w0 (br (ff f ms asl k)::X::C) w:=h.perm (List.Perm.swap _ _ _)
 have B:=A.iw
 have D:St S w0 ((f m a++ff f (ms.set k m) (asl.set k a) k)++C) w:=by
  rw [hf,pO]
  exact B.perm (List.perm_middle (a:=X) (l₁:=ff f ms asl k) (l₂:=C))
 exact jT (jU (List.getElem?_set_self hk) (List.getElem?_set_self hk2)).symm D.tied
theorem pj {β:Type} {c:M→A→β}:(List.zipWith c ms asl).set k (c m a)=List.zipWith c (ms.set k m) (asl.set k a):=by
 apply List.ext_getElem?
 intro j
 rw [List.getElem?_set]
 by_cases e:k=j
 ·subst e
  rw [if_pos rfl,List.length_zipWith,List.getElem?_zipWith,List.getElem?_set,List.getElem?_set,if_pos rfl,if_pos rfl]
  by_cases B:k<ms.length
  ·by_cases C:k<asl.length
   ·rw [if_pos I,if_pos B,if_pos C]
   ·rw [if_neg I,if_pos B,if_neg C]
  ·rw [if_neg I,if_neg B]
 ·rw [if_neg e,List.getElem?_zipWith,List.getElem?_zipWith,List.getElem?_set_ne e,List.getElem?_set_ne e]
variable {E:fr} {ops:Array Oper} {Q:db} {rest:List Oper} {D:List Deferred} {L:List (Nat×Value)} {C C1:List aw}
abbrev zc (C:List aw) (i j:Nat):List Nat:=j::i::(List.range C.length).filter fun k=>k != i&&k != j
abbrev Ic (C:List aw) (i:Nat):List Nat:=i::(List.range C.length).filter fun k=>k != i
theorem Gh (i j:Nat) (hk:k<ms.length) (hk2:k<asl.length) (hf:f m a=[X]) (hn:decide (zc C i j).Nodup=true) (hC:lP C (zc C i j)=some (X::br (ff f ms asl k)::C1))
 (h:RJ E ops Q rest D L (br (aR f (ms.set k m) (asl.set k a))::C1)):RJ E ops Q rest D L C:=fun a w hf' hs=>h a w hf' (St.TV hk hk2 hf (St.kD _ hn (jl hC) hs))
theorem Ef {c:Code} (i:Nat) (hm:ms[k]? =some m) (ha:asl[k]? =some a) (hf:f m a=[X]) (hn:decide (Ic C i).Nodup=true) (hC:lP C (Ic C i)=some (br (aR f ms asl)::C1))
 (h:WJ E c Q D L (X::br (ff f ms asl k)::C1)):WJ E c Q D L C:=fun a w hf' hs=>h a w hf' (St.out hm ha hf (St.kD _ hn (jl hC) hs))
theorem Ox {K:Act→World→Prop} (i j:Nat) (hk:k<ms.length) (ha:asl[k]? =some a) (hf:f m a=[X]) (hn:decide (zc C i j).Nodup=true) (hC:lP C (zc C i j)=some (X::br (ff f ms asl k)::C1))
 (h:KJ E K D L (br (aR f (ms.set k m) asl)::C1)):KJ E K D L C:=fun a w hf' hs=>h a w hf' (St.back hk ha hf (St.kD _ hn (jl hC) hs))
theorem Rs {Y Y':List aw} (i j:Nat) (hn:decide (zc C i j).Nodup=true) (hC:lP C (zc C i j)=some (X::br Y::C1)) (e:Y++[X]=Y') (h:RJ E ops Q rest D L (br Y'::C1)):RJ E ops Q rest D L C:=fun a w hf hs=>h a w hf ((St.kD _ hn (jl hC) hs).tie e)
theorem Ew {K:Act→World→Prop} {Y Y':List aw} (i j:Nat) (hn:decide (zc C i j).Nodup=true) (hC:lP C (zc C i j)=some (X::br Y::C1)) (e:Y++[X]=Y') (h:KJ E K D L (br Y'::C1)):KJ E K D L C:=fun a w hf hs=>h a w hf ((St.kD _ hn (jl hC) hs).tie e)
end
theorem Fy {M A:Type} {f:M→A→List aw} {ms:List M} {asl:List A} {m:M} {a:A} {X:aw} (h:ms.length=asl.length) (hf:f m a=[X]):aR f ms asl++[X]=aR f (ms++[m]) (asl++[a]):=by
 rw [jy h]; simp [aR,hf]
theorem Ie {M A β:Type} {f:M→A→β} {ms:List M} {asl:List A} {m:M} {a:A} (h:ms.length=asl.length):List.zipWith f ms asl++List.zipWith f [m] [a]=List.zipWith f (ms++[m]) (asl++[a]):=(List.zipWith_append h).symm
theorem xd {r:cj} {k:Nat}:((eL r k).map (·.1)).Nodup:=by
 unfold eL
 rw [List.map_filterMap]
 refine List.Pairwise.filterMap _ ?_ (List.nodup_range (n:=r.aM.length))
 intro a b A x hx y hy e
 subst e
 simp only [Option.map_map,Option.map_eq_some_iff,Function.comp] at hx hy
 obtain ⟨_,_,rfl⟩:=hx
 obtain ⟨_,_,h⟩:=hy
 exact A I
noncomputable def dy (r:cj):List (List Int):=if cG r=0 then Classical.epsilon (fun G=>iJ (aD (aG r)) ((aG r).map (·.1)) G∧Cu G) else []
theorem DS {r:cj} (h: ¬ cG r=0):dy r=[]:=if_neg h
theorem uE {r:cj} {G:List (List Int)} (he:cG r=0) (h1:iJ (aD (aG r)) ((aG r).map (·.1)) G) (h2:Cu G):G=dy r:=by
 unfold dy
 rw [if_pos he]
 have A:=Classical.epsilon_spec (p:=fun G=>iJ (aD (aG r)) ((aG r).map (·.1)) G∧Cu G) ⟨G,h1,h2⟩
 exact sG xd (fun i hi=>(g_ (oZ he)).2.1) h1 A.1 h2 A.2
section
variable {f:Int→aa} {L:List Int} {G:List (List Int)} {g:List Int} {x last:Int} {i j:Nat}
theorem AP (h:mQ f (L.take i) G last) (hg:g∈G):g.length≤L.length:=by
 have A:=h.ok.perm.length_eq
 have B:g.length≤G.flatten.length:=(List.sublist_flatten_of_mem hg).length_le
 rw [List.length_take] at A; omega
theorem Gw (h:mQ f (L.take i) G last):G.length≤L.length:=by
 have A:=h.ok.perm.length_eq
 have B: ∀ G:List (List Int),(∀ g∈G,g≠[])→G.length≤G.flatten.length:=fun G=>by
  induction G with
  |nil=>intro _; simp
  |cons g G ih=>
   intro hG
   have C:=ih fun y hy=>hG y (cY _ hy)
   have D:=List.length_pos_iff.2 (hG g cv)
   simp only [List.flatten_cons,List.length_cons,List.length_append]; omega
 have C:=B G h.ok.some_
 rw [List.length_take] at A; omega
theorem pV (h0: -1≤(f x).Hi) (hx:L[i]? =some x) (hg:(G++[[]])[(G++[([]:List Int)]).length-1]? =some g) (h:mQ f (L.take i) G last) (hl:last<(f x).Lo):mQ f (L.take (i+1)) ((G++[[]]).set ((G++[([]:List Int)]).length-1) (g++[x])) (max last (f x).Hi):=by
 have A:(G++[([]:List Int)]).length-1=G.length:=by simp
 rw [A] at hg ⊢
 simp at hg
 subst hg
 rw [mA hx]
 have B:(G++[([]:List Int)]).set G.length ([]++[x])=G++[[x]]:=by simp
 rw [B]
 exact Np h0 h hl
theorem o0 (h0: -1≤(f x).Hi) (hf: ∀ i∈L,(f i).Lo≤(f i).Hi) (hup:Ec (fun u=>(f u).Lo) L) (hx:L[i]? =some x) (hg:G[G.length-1]? =some g) (h:mQ f (L.take i) G last) (hl: ¬ last<(f x).Lo):mQ f (L.take (i+1)) (G.set (G.length-1) (g++[x])) (max last (f x).Hi):=by
 obtain ⟨A,F⟩:=aV.1 hg
 obtain ⟨G',y,rfl⟩: ∃ G' y,G=G'++[y]:=⟨G.dropLast,G.getLast (by intro e; subst e; simp at A),(List.dropLast_concat_getLast _).symm⟩
 have D:(G'++[y]).length-1=G'.length:=by simp
 simp only [D] at hg ⊢
 simp at hg
 subst hg
 have E:(G'++[y]).set G'.length (y++[x])=G'++[y++[x]]:=by simp
 rw [mA hx,E]
 refine Lx h0 (fun i hi=>hf i (List.mem_of_mem_take hi)) (fun a ha=>?_) h hl
 obtain ⟨C,B⟩:=aV.1 hx
 obtain ⟨q,hq,rfl⟩:=List.mem_iff_getElem.1 ha
 rw [List.length_take] at hq
 rw [List.getElem_take]
 have:=eV.1 hup q i I C I
 rw [B] at this
 exact this
theorem F3 (hlo:0≤(f x).Lo) (h:mQ f (L.take i) G last) (hl: ¬ last<(f x).Lo):1≤G.length:=by
 rcases h.at_ with ⟨_,e⟩|⟨a,ha,_⟩
 ·omega
 ·exact List.length_pos_iff.2 (Mz h (fun e=>by rw [e] at ha; cases ha))
/-- the first groups are in order -/
def nY (G:List (List Int)) (j:Nat):List (List Int):=(G.take j).map dE++G.drop j
theorem Fk (h:G.length≤j):nY G j=G.map dE:=by unfold nY; rw [List.take_of_length_le h,List.drop_eq_nil_of_le h,List.append_nil]
theorem EO:(nY G j).length=G.length:=by unfold nY; rw [List.length_append,List.length_map,List.length_take,List.length_drop]; omega
theorem Hv (h:G[j]? =some g):(nY G j)[j]? =some g:=by
 have hj:=(aV.1 h).1
 unfold nY
 rw [List.getElem?_append_right (by rw [List.length_map,List.length_take]; omega),List.length_map,List.length_take,Nat.min_eq_left I,Nat.sub_self,List.getElem?_drop]
 simpa using h
theorem E0 (h:G[j]? =some g):(nY G j).set j (dE g)=nY G (j+1):=by
 have hj:=(aV.1 h).1
 unfold nY
 rw [List.set_append_right _ _ (by rw [List.length_map,List.length_take]; omega),List.length_map,List.length_take,Nat.min_eq_left I,Nat.sub_self,List.drop_eq_getElem_cons hj,List.set_cons_zero,List.take_add_one,h]
 simp
theorem MD {gz:List RA}:List.zipWith nI (G.map dE) gz=List.zipWith nI G gz:=by
 induction G generalizing gz with
 |nil=>rfl
 |cons g G ih=>
  cases gz with
  |nil=>rfl
  |cons a gz=>simp only [List.map_cons,List.zipWith_cons_cons,ih]; simp [nI]
end
end
section
open Go.RowKit
theorem xZ (l:List ar) (az:List RA): ∀ v∈(List.zipWith ar.cells l az).flatten,v.oneCell'=true:=by
 induction l generalizing az with
 |nil=>intro v hv; simp at hv
 |cons x l ih=>
  cases az with
  |nil=>intro v hv; simp at hv
  |cons a az=>
   intro v hv
   rw [List.zipWith_cons_cons,List.flatten_cons,dN] at hv
   rcases hv with hv|hv
   ·simp [ar.cells,dD.cells] at hv
    rcases hv with rfl|rfl<;>rfl
   ·exact ih az v hv
theorem ei {l:List ar} {az:List RA} (h:az.length=l.length):(List.zipWith ar.cells l az).length=l.length:=by simp [h]
/-- addresses, of which some are new -/
def sh (bz az:List RA) (i:Nat):List RA:=bz++az.drop i
theorem qQ {bz az:List RA} {i:Nat} (hb:bz.length=i) (hi:i≤az.length):(sh bz az i).length=az.length:=by simp [sh,hb]; omega
theorem LZ {bz az:List RA} {i:Nat} (h:az.length≤i):sh bz az i=bz:=by unfold sh; rw [List.drop_eq_nil_of_le h,List.append_nil]
theorem Gv {bz az:List RA} {i:Nat} {a:RA} (hb:bz.length=i) (h:az[i]? =some a):(sh bz az i)[i]? =some a:=by
 unfold sh
 rw [List.getElem?_append_right I,hb,Nat.sub_self,List.getElem?_drop]
 simpa using h
theorem Jo {bz az:List RA} {i:Nat} {a b:RA} (hb:bz.length=i) (h:az[i]? =some a):(sh bz az i).set i b=sh (bz++[b]) az (i+1):=by
 unfold sh
 have hi:=(aV.1 h).1
 rw [List.set_append_right _ _ I,hb,Nat.sub_self,List.drop_eq_getElem_cons hi,List.set_cons_zero]
 simp
theorem Pp {l:List ar} {bz az:List RA} {i:Nat} {x:ar} {xa nw:RA} (hx:l[i]? =some x) (hb:bz.length=i) (ha:az[i]? =some xa):
 (List.zipWith ar.cells l (sh bz az i)).set i (ar.cells x nw)=List.zipWith ar.cells l (sh (bz++[nw]) az (i+1)):=by
 rw [← Jo hb ha]
 apply List.ext_getElem?
 intro k
 rw [List.getElem?_set]
 by_cases e:i=k
 ·subst e
  have A:=Gv hb ha
  have B:=(aV.1 A).1
  have C:=(aV.1 hx).1
  rw [if_pos rfl,List.getElem?_zipWith,hx,List.getElem?_set_self B,if_pos (by simp; omega)]
 ·rw [if_neg e,List.getElem?_zipWith,List.getElem?_zipWith,List.getElem?_set_ne e]
theorem HR {l:List ar} {bz:List RA} {i:Nat} {x:ar} {nw:RA} (hx:l[i]? =some x) (hb:bz.length=i):aR ar.owns (l.take i) bz++ar.owns x nw=aR ar.owns (l.take (i+1)) (bz++[nw]):=by
 have hi:=(aV.1 hx).1
 rw [List.take_add_one,hx,Option.toList_some,jy (by rw [List.length_take,hb]; omega)]
 simp [aR]
theorem fK {l:List ar} {bz:List RA}:(br (aR ar.owns l bz)).wr=true:=by
 show (aR ar.owns l bz).all (·.wr)=true
 rw [cV]
 intro X hX
 obtain ⟨k,m,a,_,_,h⟩:=j_ hX
 simp only [ar.owns,bI] at h
 subst h; rfl
/-- what is known of new rows -/
def oG (l:List ar) (bz:List RA):Prop:= ∀ (k:Nat) m (a:RA),l[k]? =some m→bz[k]? =some a→m.aX.length≤a.2
theorem C5 {l:List ar} {bz:List RA} {i:Nat} {x:ar} {nw:RA} (h:oG l bz) (hb:bz.length=i) (hx:l[i]? =some x) (hc:x.aX.length≤nw.2):oG l (bz++[nw]):=fun k m a hm ha=>by
 by_cases e:k<bz.length
 ·rw [List.getElem?_append_left e] at ha
  exact h k m a hm ha
 ·rw [List.getElem?_append_right I] at ha
  have hk:k-bz.length=0:=by
   rcases Nat.eq_zero_or_pos (k-bz.length) with A|A
   ·exact A
   ·rw [List.getElem?_eq_none (by simp; omega)] at ha; cases ha
  rw [hk] at ha
  simp at ha
  have:k=i:=by omega
  subst this
  rw [hx] at hm; cases hm
  subst ha; exact hc
theorem gU: ∀ (m:ar) (a:RA) (w:World),(∀ X∈ar.owns m a,X.holds w)→ ∀ X∈ar.ia m a,X.holds w:=fun m a w h X hX=>by
 simp only [ar.ia,bI] at hX
 subst hX
 have:=oe (h _ (bI.2 rfl))
 simpa using this
theorem eA.OK {l:aY} {az bz:List RA} (h:eA l az) (hb:bz.length=l.ai.length) (hc:oG l.ai bz):eA l bz:=⟨h.si,h.side,h.rr,hb,h.su,fun k m a hm ha=>⟨hc k m a hm ha,by
 obtain ⟨A,B⟩: ∃ A,az[k]? =some A:=⟨az[k]'(by rw [h.nD]; exact (aV.1 hm).1),eN _⟩
 exact (h.Px k m A hm B).2⟩⟩
section
variable {E:fr} {ops:Array Oper} {Q:db} {rest:List Oper} {D:List Deferred} {L:List (Nat×Value)} {C:List aw}
theorem Su {a:OA} {c e sz:Nat} {es:List (List Value)} (i:Nat) (hC:C[i]? =some (own a c e sz es)) (k:es.length≤c→RJ E ops Q rest D L C):RJ E ops Q rest D L C:=fun act w hf hs=>
 k (Br (hs.holds _ (aS hC))) act w hf hs
end
end
section
open Go.RowKit
def jO (m:au) (a:RA):List aw:=[own a.1 a.2 zz 2 (m.bX.ah.map aH.cells)]
def gZ (m:List au) (a:cb):List aw:=own a.1.1 a.1.2 zS 7 (List.zipWith au.cells m a.2)::aR jO m a.2
theorem K_: ∀ (m:au) (a:RA) (w:World),(∀ X∈jO m a,X.holds w)→ ∀ X∈au.ia m a,X.holds w:=fun m a w h X hX=>by
 simp only [au.ia,bI] at hX
 subst hX
 have:=oe (h _ (bI.2 rfl))
 simpa using this
theorem j8 {m:List au} {asl:List RA} (h:asl.length=m.length):(List.zipWith au.cells m asl).length=m.length:=by simp [h]
theorem cS {m:List (List au)} {asl:List cb} (h:asl.length=m.length):(List.zipWith cw m asl).length=m.length:=by simp [h]
theorem O0 {m:List au} {asl:List RA}:(aR jO m asl).all (·.wr)=true:=by
 rw [cV]
 intro X hX
 obtain ⟨k,d,a,_,_,h⟩:=j_ hX
 simp only [jO,bI] at h
 subst h; rfl
theorem j6 {m:List (List au)} {asl:List cb}:(br (aR gZ m asl)).wr=true:=by
 show (aR gZ m asl).all (·.wr)=true
 rw [cV]
 intro X hX
 obtain ⟨k,d,a,_,_,h⟩:=j_ hX
 rcases bx.1 h with rfl|h
 ·rfl
 ·exact cV.1 O0 X h
theorem GQ (l:List au) (az:List RA): ∀ v∈(List.zipWith au.cells l az).flatten,v.oneCell'=true:=by
 induction l generalizing az with
 |nil=>intro v hv; simp at hv
 |cons x l ih=>
  cases az with
  |nil=>intro v hv; simp at hv
  |cons a az=>
   intro v hv
   rw [List.zipWith_cons_cons,List.flatten_cons,dN] at hv
   rcases hv with hv|hv
   ·simp [au.cells,bq.cells,dp.cells,aa.cells] at hv
    rcases hv with rfl|rfl|rfl|rfl|rfl|rfl|rfl<;>rfl
   ·exact ih az v hv
theorem An (l:List (List au)) (az:List cb): ∀ v∈(List.zipWith cw l az).flatten,v.oneCell'=true:=by
 induction l generalizing az with
 |nil=>intro v hv; simp at hv
 |cons x l ih=>
  cases az with
  |nil=>intro v hv; simp at hv
  |cons a az=>
   intro v hv
   rw [List.zipWith_cons_cons,List.flatten_cons,dN] at hv
   rcases hv with hv|hv
   ·simp [cw] at hv; subst hv; rfl
   ·exact ih az v hv
/-- every heat has as many places as descents -/
def pJ (H:List (List au)) (hz:List cb):Prop:=hz.length=H.length∧ ∀ (k:Nat) h (a:cb),H[k]? =some h→hz[k]? =some a→a.2.length=h.length
theorem NY {a:OA} {c e sz n:Nat} {es:List (List Value)} {w:World} (h:(own a c e sz es).holds w) (hn:es.length=n):(rd a n sz es).holds w:=by subst hn; exact oe h
theorem fY {C:List aw} {H:List (List au)} {hz:List cb} (i:Nat) (hC:C[i]? =some (br (aR gZ H hz))) (hh:pJ H hz):jh C (fp (aR iI H hz)).holds:=fun w hw X hX=>by
 have hb:=hw _ (aS hC)
 obtain ⟨k,m,a,A,B,D⟩:=j_ hX
 rcases bx.1 D with rfl|D
 ·exact NY (hb.1 _ (bY A B cv)) (j8 (hh.2 k m a A B))
 ·obtain ⟨q,d,b,E,F,G⟩:=j_ D
  exact K_ d b w (fun Y hY=>hb.1 Y (bY A B (cY _ (bY E F hY)))) X G
section
variable {α:Type}
def f_ (bz az:List α) (i:Nat):List α:=bz++az.drop i
variable {bz az:List α} {i:Nat} {a b:α}
theorem uJ:f_ [] az 0=az:=rfl
theorem dR (hb:bz.length=i) (hi:i≤az.length):(f_ bz az i).length=az.length:=by simp [f_,hb]; omega
theorem nR (h:az.length≤i):f_ bz az i=bz:=by unfold f_; rw [List.drop_eq_nil_of_le h,List.append_nil]
theorem mF (hb:bz.length=i) (h:az[i]? =some a):(f_ bz az i)[i]? =some a:=by
 unfold f_
 rw [List.getElem?_append_right I,hb,Nat.sub_self,List.getElem?_drop]
 simpa using h
theorem CT (hb:bz.length=i):(f_ (bz++[b]) az (i+1))[i]? =some b:=by
 unfold f_
 rw [List.getElem?_append_left (by simp; omega),List.getElem?_append_right I,hb,Nat.sub_self]; rfl
theorem uo (hb:bz.length=i) (h:az[i]? =some a):(f_ bz az i).set i b=f_ (bz++[b]) az (i+1):=by
 unfold f_
 have hi:=(aV.1 h).1
 rw [List.set_append_right _ _ I,hb,Nat.sub_self,List.drop_eq_getElem_cons hi,List.set_cons_zero]
 simp
theorem rp {M β:Type} {c:M→α→β} {l:List M} {x:M} (hx:l[i]? =some x) (hb:bz.length=i) (h:az[i]? =some a):(List.zipWith c l (f_ bz az i)).set i (c x b)=List.zipWith c l (f_ (bz++[b]) az (i+1)):=by
 rw [pj,uo hb h]
 congr 1
 obtain ⟨hi,rfl⟩:=aV.1 hx
 exact List.set_getElem_self hi
theorem nS {M:Type} {f:M→α→List aw} {l:List M} {x:M} (hx:l[i]? =some x) (hb:bz.length=i):aR f (l.take i) bz++f x b=aR f (l.take (i+1)) (bz++[b]):=by
 have hi:=(aV.1 hx).1
 rw [List.take_add_one,hx,Option.toList_some,jy (by rw [List.length_take,hb]; omega)]
 simp [aR]
end
theorem yb: ∀ {l:List (List au)} {u v:List cb},u.map (·.1)=v.map (·.1)→List.zipWith cw l u=List.zipWith cw l v
 |[],u,v,_=>by simp
 |x::l,[],[],_=>rfl
 |x::l,[],b::v,h=>by simp at h
 |x::l,a::u,[],h=>by simp at h
 |x::l,a::u,b::v,h=>by
  simp only [List.map_cons,List.cons.injEq] at h
  rw [List.zipWith_cons_cons,List.zipWith_cons_cons,yb h.2]
  have e:cw x a=cw x b:=by simp only [cw,h.1]
  rw [e]
theorem DP {l:List (List au)} {hz ha:List cb} {p:RA} {x y:List RA} {i:Nat}:List.zipWith cw l (f_ (hz++[(p,x)]) ha i)=List.zipWith cw l (f_ (hz++[(p,y)]) ha i):=yb (by simp [f_])
theorem BH {H:List (List au)} {hz:List cb} {i:Nat} {x:List au} {b:cb} (hx:H[i]? =some x) (h: ∀ (k:Nat) y (a:cb),H[k]? =some y→hz[k]? =some a→a.2.length=y.length) (hb:hz.length=i) (hl:b.2.length=x.length): ∀ (k:Nat) y (a:cb),H[k]? =some y→(hz++[b])[k]? =some a→a.2.length=y.length:=fun k y a hy ha=>by
 by_cases e:k<hz.length
 ·rw [List.getElem?_append_left e] at ha
  exact h k y a hy ha
 ·rw [List.getElem?_append_right I] at ha
  have hk:k-hz.length=0:=by
   rcases Nat.eq_zero_or_pos (k-hz.length) with A|A
   ·exact A
   ·rw [List.getElem?_eq_none (by simp; omega)] at ha; cases ha
  rw [hk] at ha
  simp at ha
  have:k=i:=by omega
  subst this
  rw [hx] at hy; cases hy
  subst ha; exact hl
theorem GS {S:BS} {w0 w:World} {C:List aw} {A:aw} {Y Z:List aw} (h:St S w0 (A::br Y::br Z::C) w):St S w0 (br (Z++A::Y)::C) w:=by
 have D:St S w0 (br Y::A::br Z::C) w:=h.perm (List.Perm.swap _ _ _)
 have E:St S w0 (Y++(A::br Z::C)) w:=D.iw
 have F:St S w0 (br Z::(A::Y)++C) w:=E.perm (by
  have B:(Y++(A::br Z::C)).Perm ((A::br Z::C)++Y):=List.perm_append_comm
  refine B.trans ?_
  show (A::br Z::(C++Y)).Perm (br Z::A::(Y++C))
  exact (List.Perm.swap _ _ _).trans (((List.perm_append_comm (l₁:=C) (l₂:=Y)).cons A).cons _))
 have G:St S w0 (Z++((A::Y)++C)) w:=F.iw
 have H:St S w0 ((Z++A::Y)++C) w:=by simpa using G
 exact H.tied
theorem H2 {S:BS} {w0 w:World} {C:List aw} {A:aw} {Y Z:List aw} (h:St S w0 (br (A::Y++Z)::C) w):St S w0 (A::br Y::br Z::C) w:=by
 have D:St S w0 ((A::Y++Z)++C) w:=h.iw
 have E:St S w0 (Z++(A::(Y++C))) w:=D.perm (by
  show (A::(Y++Z)++C).Perm (Z++(A::(Y++C)))
  have B:(A::(Y++Z)++C).Perm (A::(Z++(Y++C))):=by
   show (A::((Y++Z)++C)).Perm _
   refine List.Perm.cons A ?_
   rw [← List.append_assoc]
   exact List.perm_append_comm.append_right C
  exact B.trans (List.perm_middle (a:=A) (l₁:=Z) (l₂:=Y++C)).symm)
 have F:=E.tied
 have G:St S w0 (Y++(A::br Z::C)) w:=F.perm (by
  show (br Z::A::(Y++C)).Perm (Y++(A::br Z::C))
  have B:(Y++(A::br Z::C)).Perm (A::br Z::(Y++C)):=by
   have:=List.perm_append_comm (l₁:=Y) (l₂:=A::br Z::C)
   refine this.trans ?_
   show (A::br Z::(C++Y)).Perm _
   exact (List.perm_append_comm.cons _).cons _
  exact (B.trans (List.Perm.swap _ _ _)).symm)
 have H:=G.tied
 exact H.perm (List.Perm.swap _ _ _)
theorem xQ {H:List (List au)} {hz:List cb} {k:Nat} {h:List au} {a:cb} (hh:H[k]? =some h) (ha:hz[k]? =some a):(aR gZ H hz).Perm (own a.1.1 a.1.2 zS 7 (List.zipWith au.cells h a.2)::aR jO h a.2++ff gZ H hz k):=jU hh ha
theorem Qv {E:fr} {K:Act→World→Prop} {D:g5} {L:dk} {C:List aw} {a:OA} {c e sz:Nat} {es:List (List Value)} (i:Nat) (hC:C[i]? =some (own a c e sz es)) (k:es.length≤c→KJ E K D L C):KJ E K D L C:=fun act w hf hs=>k (Br (hs.holds _ (aS hC))) act w hf hs
abbrev HE (C:List aw) (i j k:Nat):List Nat:=k::j::i::(List.range C.length).filter fun q=>q != i&&q != j&&q != k
section
variable {E:fr} {ops:Array Oper} {Q:db} {rest:List Oper} {D:List Deferred} {L:List (Nat×Value)} {C C1:List aw} {K:Act→World→Prop}
variable {H:List (List au)} {hz:List cb} {h h':List au} {a a':cb} {k:Nat} {X:aw} {Y Z Z':List aw}
/-- i: the others, j: what hangs on the row, q: the row -/
theorem Lb (i j q:Nat) (hn:decide (HE C i j q).Nodup=true) (hC:lP C (HE C i j q)=some (X::br Y::br Z::C1)) (e:Z++X::Y=Z') (hk:KJ E K D L (br Z'::C1)):KJ E K D L C:=fun a w hf hs=>by
 subst e; exact hk a w hf (GS (St.kD _ hn (jl hC) hs))
theorem Mx {c:Code} (i:Nat) (hh:H[k]? =some h) (ha:hz[k]? =some a) (hn:decide (Ic C i).Nodup=true) (hC:lP C (Ic C i)=some (br (aR gZ H hz)::C1))
 (hk:WJ E c Q D L (own a.1.1 a.1.2 zS 7 (List.zipWith au.cells h a.2)::br (aR jO h a.2)::br (ff gZ H hz k)::C1)):WJ E c Q D L C:=fun act w hf hs=>
 hk act w hf (H2 (jT (xQ hh ha) (St.kD _ hn (jl hC) hs)))
theorem Cj {S:BS} {w0 w:World} (hk:k<H.length) (hk2:k<hz.length) (hs:St S w0 (own a'.1.1 a'.1.2 zS 7 (List.zipWith au.cells h' a'.2)::br (aR jO h' a'.2)::br (ff gZ H hz k)::C) w):St S w0 (br (aR gZ (H.set k h') (hz.set k a'))::C) w:=by
 have B:=GS hs
 refine jT ?_ B
 have A:=xQ (H:=H.set k h') (hz:=hz.set k a') (List.getElem?_set_self hk) (List.getElem?_set_self hk2)
 rw [pO] at A
 exact (List.perm_append_comm).trans A.symm
end
theorem IP {H:List (List au)} {hz:List cb} {k:Nat} {h h':List au} {a:cb} {bs:List RA} (hh:H[k]? =some h) (ha:hz[k]? =some a) (hl:h'.length=h.length):List.zipWith cw (H.set k h') (hz.set k (a.1,bs))=List.zipWith cw H hz:=by
 rw [← pj]
 have e:cw h' (a.1,bs)=cw h a:=by simp only [cw,hl]
 rw [e]
 have hz':=dB (f:=cw) hh ha
 obtain ⟨hi,A⟩:=aV.1 hz'
 rw [← A]
 exact List.set_getElem_self hi
theorem Nt {S:BS} {w0 w:World} {C:List aw} {h:List au} {bs:List RA} {i:Nat} {d:au} {b:RA} {d':au} (hd:h[i]? =some d) (hb:bs[i]? =some b) (hs':d'.bX.ah=[]) (hs:St S w0 (br (aR jO h bs)::C) w):St S w0 (br (aR jO (h.set i d') (bs.set i (none,0)))::C) w:=by
 have A:=(jT (jU hd hb) hs).iw
 have B:St S w0 (ff jO h bs i++C) w:=St.take (by simpa using A) (List.sublist_append_right (jO d b) (ff jO h bs i++C))
 have D:=B.rv zz 2
 have E:St S w0 ((jO d' (none,0)++ff jO (h.set i d') (bs.set i (none,0)) i)++C) w:=by
  rw [pO]
  simpa [jO,hs'] using D
 exact jT (jU (List.getElem?_set_self (aV.1 hd).1) (List.getElem?_set_self (aV.1 hb).1)).symm E.tied
theorem fw.OK {r:cj} {az bz:List RA} {ha hz:List cb} (h:fw r az ha) (hb:bz.length=r.an.ai.length) (hc:oG r.an.ai bz) (hh:pJ r.ao hz):fw r bz hz:=⟨h.line.OK hb hc,h.iY,h.draw,h.iU,hh.1,fun k x a hx ha'=>by
 obtain ⟨A,C⟩: ∃ A,ha[k]? =some A:=⟨ha[k]'(by rw [h.has]; exact (aV.1 hx).1),eN _⟩
 have B:=h.nu k x A hx C
 exact ⟨B.len,hh.2 k x a hx ha',B.sig⟩⟩
end
section
open Go.RowKit
def k9 (t:aa):au:=⟨false,true,t,⟨0,0,[]⟩⟩
def g4 (H:List (List au)) (h i:Int) (t:aa):List (List au):=H.set h.toNat ((H[h.toNat]?.getD []).set i.toNat (k9 t))
def jW (r:cj) (h i:Int) (t:aa):cj:=⟨r.an,r.aM,r.bL,r.im,g4 r.ao h i t⟩
@[simp] theorem RQ {r:cj} {h i:Int} {t:aa}:(jW r h i t).an=r.an:=rfl
@[simp] theorem QV {r:cj} {h i:Int} {t:aa}:(jW r h i t).aM=r.aM:=rfl
@[simp] theorem RP {r:cj} {h i:Int} {t:aa}:(jW r h i t).bL=r.bL:=rfl
theorem xC {m:g8} {i:Int} {s:aa}:(d_ m i s).length≤m.length:=by
 unfold d_
 refine Nat.le_trans (List.length_filter_le _ _) ?_
 rw [List.length_map,List.length_range]; exact Nat.le_refl _
noncomputable def qS (r:cj) (h i:Int) (t:aa):Int:=if ((0≤h∧h≤(r.ao.length:Int)-1)∧ux r i)∧jf t then (if ((r.ao[h.toNat]?).bind (·[i.toNat]?)).any (·.Out)=true then 8 else 0) else 2
noncomputable def g3 (r:cj) (h i:Int) (t:aa):Int:=if cG r=0 then qS r h i t else cG r
noncomputable def fg (r:cj) (h i:Int) (t:aa):List Int:=if g3 r h i t=0 then (dE ((aG r).map (·.1))).filter (fun k=> !decide (d_ (aG r) k (aD (aG r) k)=d_ (aG (jW r h i t)) k (aD (aG (jW r h i t)) k))) else []
section
variable {r:cj} {h i:Int} {t:aa} {ht:List au} {d:au}
theorem wI {H:List (List au)} (hh:H[h.toNat]? =some ht):g4 H h i t=H.set h.toNat (ht.set i.toNat (k9 t)):=by unfold g4; rw [hh]; rfl
theorem jx {H:List (List au)}:(g4 H h i t).length=H.length:=by unfold g4; rw [List.length_set]
theorem mK (q: ¬ (((0≤h∧h≤(r.ao.length:Int)-1)∧0≤i∧i≤(r.aM.length:Int)-1)∧jf t)):qS r h i t=2:=if_neg q
theorem GM (q:((0≤h∧h≤(r.ao.length:Int)-1)∧0≤i∧i≤(r.aM.length:Int)-1)∧jf t) (h1:r.ao[h.toNat]? =some ht) (h2:ht[i.toNat]? =some d):qS r h i t=if d.Out=true then 8 else 0:=by
 unfold qS
 rw [if_pos (show ((0≤h∧h≤(r.ao.length:Int)-1)∧ux r i)∧jf t from q),h1,Option.bind_some,h2,Option.any_some]
theorem tO (q:((0≤h∧h≤(r.ao.length:Int)-1)∧0≤i∧i≤(r.aM.length:Int)-1)∧jf t) (h1:r.ao[h.toNat]? =some ht) (h2:ht[i.toNat]? =some d) (ho:d.Out=true):qS r h i t=8:=by rw [GM q h1 h2,if_pos ho]
theorem Ob (q:((0≤h∧h≤(r.ao.length:Int)-1)∧0≤i∧i≤(r.aM.length:Int)-1)∧jf t) (h1:r.ao[h.toNat]? =some ht) (h2:ht[i.toNat]? =some d) (ho:d.Out=false):qS r h i t=0:=by rw [GM q h1 h2,if_neg (by rw [ho]; decide)]
/-- what it means that there is no error -/
theorem zC (e:qS r h i t=0):((0≤h∧h≤(r.ao.length:Int)-1)∧ux r i)∧jf t∧((r.ao[h.toNat]?).bind (·[i.toNat]?)).any (·.Out)=false:=by
 unfold qS at e
 split at e
 ·rename_i q
  split at e
  ·cases e
  ·rename_i A; exact ⟨q.1,q.2,by simpa using A⟩
 ·cases e
theorem DZ (e:g3 r h i t=0):cG r=0∧qS r h i t=0:=by
 unfold g3 at e
 split at e
 ·exact ⟨asm,e⟩
 ·exact absurd e asm
theorem sR (e: ¬ cG r=0):g3 r h i t=cG r:=if_neg e
theorem ph (e:cG r=0):g3 r h i t=qS r h i t:=if_pos e
theorem BR {H:List (List au)} {k:Nat} {y:List au} (hy:(g4 H h i t)[k]? =some y): ∃ x,H[k]? =some x∧y.length=x.length∧ ∀ d∈y,d∈x∨d=k9 t:=by
 unfold g4 at hy
 rw [List.getElem?_set] at hy
 split at hy
 ·rename_i e
  split at hy
  ·rename_i hl
   have A:H[h.toNat]? =some H[h.toNat]:=eN hl
   rw [A] at hy
   simp only [Option.getD_some,Option.some.injEq] at hy
   subst hy
   refine ⟨H[h.toNat],by rw [← e]; exact A,by rw [List.length_set],fun d hd=>?_⟩
   exact List.mem_or_eq_of_mem_set hd
  ·cases hy
 ·exact ⟨y,hy,U,fun d hd=> .inl hd⟩
theorem FI (hr:fj r) (ht:jf t):fj (jW r h i t):=⟨hr.num,hr.x7,by
 have:=hr.nh
 show 1≤((g4 r.ao h i t).length:Int)∧((g4 r.ao h i t).length:Int)≤3
 rw [jx]; exact this,hr.ids,hr.draw,fun y hy=>by
 obtain ⟨k,hk⟩:=List.mem_iff_getElem?.1 hy
 obtain ⟨x,hx,hl,hm⟩:=BR hk
 have A:=hr.nu x (aS hx)
 refine ⟨hl.trans A.1,fun d hd=>?_⟩
 rcases hm d hd with q|rfl
 ·exact A.2 d q
 ·unfold hE
  rw [if_neg (by simp [k9]),if_pos (by rfl)]
  exact ⟨ht,by simp [iF,k9]⟩⟩
theorem z4 (e:g3 r h i t=0):cG (jW r h i t)=0:=by
 obtain ⟨A,B⟩:=DZ e
 obtain ⟨C,D⟩:=gX A
 unfold cG
 rw [if_pos (show c_ (jW r h i t).an=0 from C),if_pos (FI D (zC B).2.1)]
theorem fw.rep {az bz:List RA} {ha hz:List cb} (hin:fw r az ha) (hb:bz.length=r.an.ai.length) (hc:oG r.an.ai bz) (hh:pJ (g4 r.ao h i t) hz):fw (jW r h i t) bz hz:=⟨hin.line.OK hb hc,hin.iY,hin.draw,by
 show (g4 r.ao h i t).length≤1000000
 rw [jx]; exact hin.iU,hh.1,fun k y a hy ha'=>by
 obtain ⟨x,hx,hl,hm⟩:=BR hy
 obtain ⟨b,hb⟩: ∃ b,ha[k]? =some b:=⟨ha[k]'(by rw [hin.has]; exact (aV.1 hx).1),eN _⟩
 have A:=hin.nu k x b hx hb
 refine ⟨by rw [hl]; exact A.len,hh.2 k y a hy ha',fun d hd=>?_⟩
 rcases hm d hd with q|rfl
 ·exact A.sig d q
 ·simp [k9]⟩
theorem K1 {H:List (List au)} {k q:Nat}:((g4 H h i t)[k]?).bind (·[q]?)=(H[k]?).bind (·[q]?)∨(k=h.toNat∧q=i.toNat∧(∃ d,(H[k]?).bind (·[q]?)=some d)∧((g4 H h i t)[k]?).bind (·[q]?)=some (k9 t)):=by
 by_cases e:h.toNat=k
 ·cases hk:H[k]? with
  |none=>
   left
   have:(g4 H h i t)[k]? =none:=by rw [List.getElem?_eq_none_iff,jx]; exact List.getElem?_eq_none_iff.1 hk
   rw [this]
  |some x=>
   have B:(g4 H h i t)[k]? =some (x.set i.toNat (k9 t)):=by
    subst e
    rw [wI hk]
    exact List.getElem?_set_self (aV.1 hk).1
   rw [B,Option.bind_some,Option.bind_some]
   by_cases A:i.toNat=q
   ·cases hq:x[q]? with
    |none=>
     left
     rw [List.getElem?_eq_none_iff,List.length_set]; exact List.getElem?_eq_none_iff.1 hq
    |some d=>
     right
     subst A
     exact ⟨e.symm,U,⟨d,U⟩,List.getElem?_set_self (aV.1 hq).1⟩
   ·left; rw [List.getElem?_set_ne A]
 ·left
  unfold g4
  rw [List.getElem?_set_ne e]
theorem zf {l:aY} {H:List (List au)} {q:Nat} (ho:((H[h.toNat]?).bind (·[i.toNat]?)).any (·.Out)=false): ∀ n,(gv l (g4 H h i t) q n).isSome=(gv l H q n).isSome
 |0=>rfl
 |n+1=>by
  have ih:=zf (l:=l) (q:=q) ho n
  unfold gv
  rcases K1 (H:=H) (h:=h) (i:=i) (t:=t) (k:=n) (q:=q) with e|⟨rfl,rfl,⟨d,hd⟩,e⟩
  ·rw [e]
   cases e1:gv l (g4 H h i t) q n<;>cases e2:gv l H q n<;>simp_all
   cases (H[n]?).bind (·[q]?) with
   |none=>rfl
   |some d=>by_cases c:d.Out=true<;>simp [c]
  ·rw [e,hd]
   have A:d.Out=false:=by rw [hd] at ho; simpa using ho
   cases e1:gv l (g4 H h i t) i.toNat h.toNat<;>cases e2:gv l H i.toNat h.toNat<;>simp_all [k9]
theorem Pz {r:cj} {k:Nat} {x:Int}:(eL r k).lookup x=if 0≤x∧x<(r.aM.length:Int) then gv r.an r.ao x.toNat k else none:=by
 by_cases c:0≤x∧x<(r.aM.length:Int)
 ·rw [if_pos c]
  have:=rX (f:=fun q=>gv r.an r.ao q k) r.aM.length x.toNat
  rw [if_pos I,show (x.toNat:Int)=x by omega] at this
  exact this
 ·rw [if_neg c]
  cases e:(eL r k).lookup x with
  |none=>rfl
  |some v=>
   exfalso
   obtain ⟨q,hq,A,_⟩:=z_ ((xY xd).2 e)
   simp only at A
   omega
theorem MA (e:qS r h i t=0) (k:Int):((aG (jW r h i t)).lookup k).isSome=((aG r).lookup k).isSome:=by
 obtain ⟨_,_,ho⟩:=zC e
 unfold aG
 rw [Pz,Pz]
 show (if 0≤k∧k<(r.aM.length:Int) then gv r.an (g4 r.ao h i t) k.toNat (g4 r.ao h i t).length else none).isSome=_
 rw [jx]
 split
 ·exact zf ho _
 ·rfl
theorem CZ {m:g8} {k:Int} (h:k∈dE (m.map (·.1))):m.lookup k≠none:=by
 obtain ⟨p,hp,rfl⟩:=bZ.1 (fT.mem_iff.1 h)
 intro e
 exact absurd (List.lookup_eq_none_iff.1 e p hp) sm
theorem Rz {hz:List cb} {hza:cb} (hh:pJ r.ao hz) (h1:r.ao[h.toNat]? =some ht) (h2:hz[h.toNat]? =some hza):pJ (g4 r.ao h i t) (hz.set h.toNat (hza.1,hza.2.set i.toNat (none,0))):=by
 refine ⟨by rw [List.length_set,jx]; exact hh.1,fun k y a hy ha=>?_⟩
 rw [wI h1] at hy
 rw [List.getElem?_set] at hy ha
 by_cases e:h.toNat=k
 ·rw [if_pos e,if_pos (aV.1 h1).1] at hy
  rw [if_pos e,if_pos (aV.1 h2).1] at ha
  cases hy; cases ha
  simp only [List.length_set]
  exact hh.2 _ _ _ h1 h2
 ·rw [if_neg e] at hy ha
  exact hh.2 k y a hy ha
theorem xM (e: ¬ g3 r h i t=0):fg r h i t=[]:=if_neg e
theorem EN (e:g3 r h i t=0):fg r h i t=(dE ((aG r).map (·.1))).filter (fun k=> !decide (d_ (aG r) k (aD (aG r) k)=d_ (aG (jW r h i t)) k (aD (aG (jW r h i t)) k))):=if_pos e
end
section
variable {E:fr} {Q:db} {D:List Deferred} {L:List (Nat×Value)} {C C1:List aw} {c:Code}
variable {H:List (List au)} {hz:List cb} {h h':List au} {a a':cb} {k:Nat} {bs:List RA} {i:Nat} {d d':au} {b:RA}
theorem QZ (j:Nat) (hd:h[i]? =some d) (hb:bs[i]? =some b) (hs':d'.bX.ah=[]) (hn:decide (Ic C j).Nodup=true) (hC:lP C (Ic C j)=some (br (aR jO h bs)::C1))
 (hk:WJ E c Q D L (br (aR jO (h.set i d') (bs.set i (none,0)))::C1)):WJ E c Q D L C:=fun act w hf hs=>hk act w hf (Nt hd hb hs' (St.kD _ hn (jl hC) hs))
theorem Oo (i j q:Nat) (hk:k<H.length) (hk2:k<hz.length) (hn:decide (HE C i j q).Nodup=true) (hC:lP C (HE C i j q)=some (own a'.1.1 a'.1.2 zS 7 (List.zipWith au.cells h' a'.2)::br (aR jO h' a'.2)::br (ff gZ H hz k)::C1))
 (hr:WJ E c Q D L (br (aR gZ (H.set k h') (hz.set k a'))::C1)):WJ E c Q D L C:=fun act w hf hs=>hr act w hf (Cj hk hk2 (St.kD _ hn (jl hC) hs))
end
end
section
set_option maxRecDepth 20000
def Dr (x y:Int):au:=k9 ⟨x,y⟩
def aP:cj:=⟨nc,[4,7,9],[2,0,1],2,[[⟨false,false,dL,m6⟩,Dr 2600 2600,Dr 2580 2609],[Dr 2555 2559,Dr 2540 2549,Dr 2570 2575]]⟩
theorem Bv {l:aY} {x y:Int} (h:jf ⟨x,y⟩):hE l (Dr x y):=by rw [qO ⟨rfl,rfl⟩]; exact ⟨h,rfl,rfl,rfl⟩
theorem Rm:fj aP:=by
 refine ⟨dc,dc,dc,fun i x hx=>?_,dc,fun h hh=>?_⟩
 ·match i with
  |0=>simp [aP] at hx; subst hx; exact ⟨dc,fun y h=>absurd h dc⟩
  |1=>simp [aP] at hx; subst hx; exact ⟨dc,fun y _ h=>by simp [aP] at h; omega⟩
  |2=>simp [aP] at hx; subst hx; exact ⟨dc,fun y _ h=>by simp [aP] at h; omega⟩
  |n+3=>simp [aP] at hx
 ·simp only [aP,bx,List.not_mem_nil,or_false] at hh
  rcases hh with rfl|rfl
  ·refine ⟨U,fun d hd=>?_⟩
   simp only [bx,List.not_mem_nil,or_false] at hd
   rcases hd with rfl|rfl|rfl
   ·rw [oq ⟨rfl,rfl⟩]; exact ⟨FR.1,rfl⟩
   ·exact Bv dc
   ·exact Bv dc
  ·refine ⟨U,fun d hd=>?_⟩
   simp only [bx,List.not_mem_nil,or_false] at hd
   rcases hd with rfl|rfl|rfl<;>exact Bv dc
theorem rf:cG aP=0:=by unfold cG; rw [if_pos (show c_ aP.an=0 from PT),if_pos Rm]
theorem P8:kE aP 0 0=0∧gY aP 0 0=⟨2596,2602⟩:=by
 have h:kE aP 0 0=0:=by unfold kE; rw [if_pos rf]; decide
 refine ⟨h,?_⟩
 unfold gY
 rw [if_pos h]
 show dq nc ⟨false,false,dL,m6⟩=_
 rw [rE ⟨rfl,rfl⟩]; exact FR.2
/-- the sums of a race of three sleds and two heats, all of which run -/
theorem Ky {l:aY} {ids dr:List Int} {t:Int} {H:List (List au)} {a b c d e f:au} (hH:H=[[a,b,c],[d,e,f]]) (hi:ids.length=3) (hoa: ∀ x∈[a,b,c,d,e,f],x.Out=false):
 aG ⟨l,ids,dr,t,H⟩=[(0,⟨(dq l a).Lo/10+(dq l d).Lo/10,(dq l a).Hi/10+(dq l d).Hi/10⟩),(1,⟨(dq l b).Lo/10+(dq l e).Lo/10,(dq l b).Hi/10+(dq l e).Hi/10⟩),(2,⟨(dq l c).Lo/10+(dq l f).Lo/10,(dq l c).Hi/10+(dq l f).Hi/10⟩)]∧
 eL ⟨l,ids,dr,t,H⟩ 1=[(0,⟨(dq l a).Lo/10,(dq l a).Hi/10⟩),(1,⟨(dq l b).Lo/10,(dq l b).Hi/10⟩),(2,⟨(dq l c).Lo/10,(dq l c).Hi/10⟩)]:=by
 subst hH
 simp only [bx,List.not_mem_nil,or_false,forall_eq_or_imp,forall_eq] at hoa
 obtain ⟨A,B,C,D,E,F⟩:=hoa
 simp [aG,eL,hi,List.range_succ,gv,A,B,C,D,E,F]
def Po:g8:=[(0,⟨514,515⟩),(1,⟨514,514⟩),(2,⟨515,517⟩)]
def NW:g8:=[(0,⟨514,515⟩),(1,⟨514,514⟩),(2,⟨516,516⟩)]
def TA:g8:=[(0,⟨259,260⟩),(1,⟨260,260⟩),(2,⟨258,260⟩)]
theorem AA:dq nc ⟨false,false,dL,m6⟩=⟨2596,2602⟩:=by rw [rE ⟨rfl,rfl⟩]; exact FR.2
theorem ql {l:aY} {x y:Int}:dq l (Dr x y)=⟨x,y⟩:=uc ⟨rfl,rfl⟩
theorem vD:aG aP=Po∧eL aP 1=TA:=by
 obtain ⟨A,B⟩:=Ky (l:=nc) (ids:=[4,7,9]) (dr:=[2,0,1]) (t:=2) (H:=aP.ao) rfl rfl dc
 refine ⟨A.trans ?_,B.trans ?_⟩
 ·rw [AA,ql,ql,ql,ql,ql]; rfl
 ·rw [AA,ql,ql]; rfl
def lG:cj:=jW aP 0 2 ⟨2590,2599⟩
theorem DB:g3 aP 0 2 ⟨2590,2599⟩=0:=by unfold g3; rw [if_pos rf]; unfold qS; decide
theorem x9:cG lG=0:=z4 DB
theorem Lq:aG lG=NW:=by
 obtain ⟨A,B⟩:=Ky (l:=nc) (ids:=[4,7,9]) (dr:=[2,0,1]) (t:=2) (H:=lG.ao) (a:=⟨false,false,dL,m6⟩) (b:=Dr 2600 2600) (c:=Dr 2590 2599) (d:=Dr 2555 2559) (e:=Dr 2540 2549) (f:=Dr 2570 2575) rfl rfl dc
 refine A.trans ?_
 rw [AA,ql,ql,ql,ql,ql]; rfl
/-- ranks, as they can be reckoned -/
def Fa (m:g8) (i:Int) (own:aa):List Int:=((List.range m.length).map fun (k:Nat)=>(k:Int)+1).filter fun k=>(j0 m i own).any fun n=>decide ((ji m i n:Int)+1≤k∧k≤(kG m i n:Int)+1)
theorem GY {m:g8} {i:Int} {own:aa}:d_ m i own=Fa m i own:=by
 unfold d_ Fa
 congr 1
 funext k
 rw [Bool.eq_iff_iff,decide_eq_true_eq,List.any_eq_true]
 simp only [decide_eq_true_eq,tj]
theorem Bz {r:cj} {m:g8} {i:Int} {s:aa} (he:cG r=0) (hm:aG r=m) (hi:ux r i) (hl:m.lookup i=some s):kM r i=0∧uj r i=s∧gS r i=Fa m i s:=by
 have h:kM r i=0:=by unfold kM; rw [if_pos he,if_pos hi,hm,hl]; rfl
 refine ⟨h,?_,?_⟩
 ·unfold uj aD; rw [if_pos h,hm,hl]; rfl
 ·unfold gS aD; rw [if_pos h,hm,hl,GY]; rfl
theorem Ge {r:cj} {m:g8} {a b:Int} {s t:aa} (he:cG r=0) (hm:aG r=m) (hi:ux r a∧ux r b∧a≠b) (hs:m.lookup a=some s) (ht:m.lookup b=some t):nP r a b=0∧wg r a b=Co s t∧qF r a b=sD s t:=by
 have h:nP r a b=0:=by unfold nP; rw [if_pos he,if_pos hi,hm,hs,ht]; simp
 refine ⟨h,?_,?_⟩
 ·unfold wg aD; rw [if_pos h,hm,hs,ht]; rfl
 ·unfold qF aD; rw [if_pos h,hm,hs,ht]; rfl
theorem mP:kM aP 0=0∧uj aP 0=⟨514,515⟩∧gS aP 0=[1,2]:=by have h:=Bz (i:=0) (s:=⟨514,515⟩) rf vD.1 dc rfl; exact ⟨h.1,h.2.1,h.2.2.trans dc⟩
theorem BO:kM aP 2=0∧uj aP 2=⟨515,517⟩∧gS aP 2=[2,3]:=by have h:=Bz (i:=2) (s:=⟨515,517⟩) rf vD.1 dc rfl; exact ⟨h.1,h.2.1,h.2.2.trans dc⟩
theorem KW:kM lG 2=0∧uj lG 2=⟨516,516⟩:=by have h:=Bz (i:=2) (s:=⟨516,516⟩) x9 Lq dc rfl; exact ⟨h.1,h.2.1⟩
theorem Bh:nP aP 1 2=0∧wg aP 1 2=2∧qF aP 1 2=0:=by have h:=Ge (a:=1) (b:=2) (s:=⟨514,514⟩) (t:=⟨515,517⟩) rf vD.1 dc rfl rfl; exact ⟨h.1,h.2.1.trans dc,h.2.2.trans dc⟩
theorem AT:nP aP 0 1=0∧wg aP 0 1=0∧qF aP 0 1=1:=by have h:=Ge (a:=0) (b:=1) (s:=⟨514,515⟩) (t:=⟨514,514⟩) rf vD.1 dc rfl rfl; exact ⟨h.1,h.2.1.trans dc,h.2.2.trans dc⟩
theorem LQ:hO aP 1=0∧gj aP 1=[0,2,1]:=by
 have h:hO aP 1=0:=by unfold hO; rw [if_pos rf]; decide
 refine ⟨h,?_⟩
 unfold gj
 rw [if_pos h,if_neg dc]
 unfold tp
 rw [show eL aP (1:Int).toNat=TA from vD.2]
 decide
theorem KV:hO aP 2=0∧gj aP 2=[0,1,2]:=by
 have h:hO aP 2=0:=by unfold hO; rw [if_pos rf]; decide
 refine ⟨h,?_⟩
 unfold gj
 rw [if_pos h,if_neg dc]
 unfold tp
 rw [show eL aP (2:Int).toNat=Po from vD.1]
 decide
theorem Nx:dy aP=[[0,1,2]]:=by
 refine (uE rf ?_ ?_).symm
 ·rw [vD.1]
  refine ⟨dc,dc,sm,fun g hg t A B=>?_⟩
  rw [bI.1 hg] at A B ⊢
  simp [Po,aD,List.lookup] at A B ⊢
  omega
 ·intro g hg; rw [bI.1 hg]; decide
theorem JR:dy lG=[[0,1],[2]]:=by
 refine (uE x9 ?_ ?_).symm
 ·rw [Lq]
  refine ⟨dc,dc,?_,fun g hg t A B=>?_⟩
  ·simp [JW,NW,aD,List.lookup]
  ·simp only [bx,List.not_mem_nil,or_false] at hg
   rcases hg with rfl|rfl<;>(simp [NW,aD,List.lookup] at A B ⊢; omega)
 ·intro g hg; simp only [bx,List.not_mem_nil,or_false] at hg; rcases hg with rfl|rfl<;>decide
theorem OM:fg aP 0 2 ⟨2590,2599⟩=[2]:=by
 unfold fg
 rw [if_pos DB,vD.1,show aG (jW aP 0 2 ⟨2590,2599⟩)=NW from Lq]
 simp only [GY]
 rw [show dE (Po.map (·.1))=[0,1,2] from vz (n:=3) dc]
 decide
end
section
open Go.RowKit
section
variable {E:fr} {ops:Array Oper} {Q:db} {rest:List Oper} {D:List Deferred} {L:List (Nat×Value)} {C C1:List aw}
end
theorem C8 {C:List aw}: ∀ {a b:List Nat} {X Y:List aw},lP C a=some X→lP C b=some Y→lP C (a++b)=some (X++Y)
 |[],b,X,Y,h,h2=>by cases h; exact h2
 |i::a,b,X,Y,h,h2=>by
  unfold lP at h
  split at h
  ·rename_i A hA
   split at h
   ·rename_i l hl
    cases h
    have ih:=C8 hl h2
    show (match C[i]? with
     |some A=>match lP C (a++b) with
      |some l=>some (A::l)
      |none=>none
     |none=>none)=_
    rw [hA,ih]; rfl
   ·cases h
  ·cases h
theorem uS {E:fr} {ops:Array Oper} {Q:db} {rest:List Oper} {D:g5} {L:dk} {C C1:List aw} (X:List aw) (i1 i2:List Nat) (h1:lP C i1=some X) (h2:lP C i2=some C1) (h:RJ E ops Q rest D L (br X::C1)) (hn:decide (i1++i2).Nodup=true:=by rfl):RJ E ops Q rest D L C:=fun a w hf hs=>h a w hf (St.tied (St.kD _ hn (jl (C8 h1 h2)) hs))
theorem qL {E:fr} {ops:Array Oper} {Q:db} {rest:List Oper} {D:g5} {L:dk} {C C1:List aw} (ix:List Nat) (hn:decide ix.Nodup=true) (hC:lP C ix=some C1) (h:RJ E ops Q rest D L C1):RJ E ops Q rest D L C:=fun a w hf hs=>h a w hf (St.kD _ hn (jl hC) hs)
theorem o6 {M A B:Type} {f:M→A→List B} {n:Nat} (h: ∀ m a,(f m a).length=n): ∀ {ms:List M} {asl:List A},∀ x∈List.zipWith f ms asl,x.length=n
 |[],asl,x,hx=>by simp at hx
 |m::ms,[],x,hx=>by simp at hx
 |m::ms,a::asl,x,hx=>by
  rw [List.zipWith_cons_cons] at hx
  rcases bx.1 hx with rfl|hx
  ·exact h m a
  ·exact o6 h x hx
theorem GL (m:au) (a:RA):(au.cells m a).length=7:=rfl
theorem KA (m:List au) (a:cb):(cw m a).length=1:=rfl
theorem KP (m:List Int) (a:RA):(nI m a).length=1:=rfl
def UG:List au:=[⟨false,false,dL,m6⟩,Dr 2600 2600,Dr 2580 2609]
def Ut:List au:=[Dr 2555 2559,Dr 2540 2549,Dr 2570 2575]
theorem Lc {p q s t u v x y:RA}:pJ aP.ao [(p,[s,t,u]),(q,[v,x,y])]:=⟨rfl,fun k h a hk ha=>by
 match k with
 |0=>simp [aP] at hk ha; subst hk; subst ha; rfl
 |1=>simp [aP] at hk ha; subst hk; subst ha; rfl
 |n+2=>simp at ha⟩
theorem Rn {bz:List RA} {hz:List cb} (h:eA nc bz) (hh:pJ aP.ao hz):fw aP bz hz:=⟨h,dc,dc,dc,hh.1,fun k x a hx ha=>by
 have hm:=aS hx
 have hs:=hh.2 k x a hx ha
 simp only [aP,bx,List.not_mem_nil,or_false] at hm
 rcases hm with rfl|rfl
 ·exact ⟨dc,hs,dc⟩
 ·exact ⟨dc,hs,dc⟩⟩
end
section
open Go.RowKit
def qw (b:Bool):List Value:=[.bool b]
@[simp] theorem Az (b:Bool):(qw b).length=1:=rfl
theorem HX (l:List Bool): ∀ v∈(l.map qw).flatten,v.oneCell'=true:=mM (fun s=>rfl) l
end
section
def mz (r:cj) (i:Nat):Prop:= ∀ (j:Nat) x,j<i→r.ao[j]? =some x→ ¬ pn x
def nB (x:List au) (i:Nat):Prop:= ∀ (j:Nat) d,j<i→x[j]? =some d→ ¬ 15<(d.bX.ah.length:Int)
section
variable {r:cj} {i:Nat} {x:List au} {d:au}
theorem BW:mz r 0:=fun j x hj=>absurd hj (Nat.not_lt_zero _)
theorem Dg (h:mz r i) (hx:r.ao[i]? =some x) (ho: ¬ pn x):mz r (i+1):=fun j y hj hy=>by
 rcases Nat.lt_or_ge j i with q|q
 ·exact h j y q hy
 ·obtain rfl:j=i:=by omega
  rw [hx] at hy; cases hy; exact ho
theorem B1:nB x 0:=fun j x hj=>absurd hj (Nat.not_lt_zero _)
theorem Cg (h:nB x i) (hx:x[i]? =some d) (ho: ¬ 15<(d.bX.ah.length:Int)):nB x (i+1):=fun j y hj hy=>by
 rcases Nat.lt_or_ge j i with q|q
 ·exact h j y q hy
 ·obtain rfl:j=i:=by omega
  rw [hx] at hy; cases hy; exact ho
theorem Er (hl: ¬ 8<(x.length:Int)) (h:nB x i) (hi:x.length≤i): ¬ pn x:=by
 rintro (q|⟨d,hd,q⟩)
 ·exact hl q
 ·obtain ⟨j,hj⟩:=List.getElem?_of_mem hd
  exact h j d (by have:=(aV.1 hj).1; omega) hj q
theorem Hz (h1: ¬ l8 r.an) (h2: ¬ 8<(r.aM.length:Int)∧ ¬ 8<(r.bL.length:Int)∧ ¬ 5<(r.ao.length:Int)) (h:mz r i) (hi:r.ao.length≤i): ¬ ou r:=by
 rintro ((q|q)|⟨x,hx,q⟩)
 ·exact h1 q
 ·omega
 ·obtain ⟨j,hj⟩:=List.getElem?_of_mem hx
  exact h j x (by have:=(aV.1 hj).1; omega) hj q
theorem pQ (h:l8 r.an∨8<(r.aM.length:Int)∨8<(r.bL.length:Int)∨5<(r.ao.length:Int)):ou r:= .inl h
theorem Dm (hx:r.ao[i]? =some x) (h:8<(x.length:Int)):ou r:= .inr ⟨x,aS hx,.inl h⟩
theorem Ee {j:Nat} (hx:r.ao[i]? =some x) (hd:x[j]? =some d) (h:15<(d.bX.ah.length:Int)):ou r:= .inr ⟨x,aS hx,.inr ⟨d,aS hd,h⟩⟩
end
noncomputable def pd (l:aY) (d:au):aa:=if d.Out=true then dL else dq l d
theorem LO {l:aY} {d:au} (h:hE l d):pd l d=dq l d:=by
 unfold pd
 split
 ·rename_i q
  rw [wK q]
  rw [px q] at h
  exact h.2.1.symm
 ·rfl
theorem AN {l:aY} {d:au} (h:d.Out=true):pd l d=dL:=if_pos h
theorem Gc {l:aY} {d:au} (h:d.Out=false∧d.ed=true):pd l d=d.Time:=by unfold pd; rw [if_neg (by rw [h.1]; decide),uc h]
theorem GV {l:aY} {d:au} (h:d.Out=false∧d.ed=false):pd l d=t_ l d.bX:=by unfold pd; rw [if_neg (by rw [h.1]; decide),rE h]
def Un (r:cj) (j:Nat):Prop:= ∀ x,r.aM[j]? =some x→(0≤x∧x≤9999)∧ ∀ y,0<j→r.aM[j-1]? =some y→y<x
def Mp (r:cj) (j:Nat):Prop:= ∀ x,r.bL[j]? =some x→(0≤x∧x≤(r.aM.length:Int)-1)∧ ∀ (k:Nat) y,k<j→r.bL[k]? =some y→y≠x
def xe (r:cj) (i:Nat):Prop:= ∀ j,j<i→Un r j∧Mp r j
section
variable {r:cj} {i k:Nat} {x:Int}
theorem KM:xe r 0:=fun j hj=>absurd hj (Nat.not_lt_zero _)
theorem Dz (h:xe r i) (h1:Un r i) (h2:Mp r i):xe r (i+1):=fun j hj=>by
 rcases Nat.lt_or_ge j i with q|q
 ·exact h j q
 ·obtain rfl:j=i:=by omega
  exact ⟨h1,h2⟩
theorem yr {l:List Int} {u v:Int} (h: ∀ (q:Nat) y,q<k→l[q]? =some y→y≠v) (hx:l[k]? =some u) (hne: ¬ u=v): ∀ (q:Nat) y,q<k+1→l[q]? =some y→y≠v:=fun q y hq hy=>by
 rcases Nat.lt_or_ge q k with c|c
 ·exact h q y c hy
 ·obtain rfl:q=k:=by omega
  rw [hx] at hy; cases hy; exact hne
theorem L4 (hl:r.bL.length=r.aM.length) (h:xe r r.aM.length):r.bL.Perm (Ir r.aM.length):=by
 have nd:r.bL.Nodup:=by
  rw [List.nodup_iff_pairwise_ne,eV]
  intro a b ha hb A
  exact ((h b I).2 _ (eN hb)).2 a _ A (eN ha)
 have hm: ∀ x∈r.bL,x∈Ir r.aM.length:=fun x hx=>by
  obtain ⟨j,hj⟩:=List.getElem?_of_mem hx
  have:=((h j (by have:=(aV.1 hj).1; omega)).2 x hj).1
  exact bZ.2 ⟨x.toNat,List.mem_range.2 I,I⟩
 have ndu:(Ir r.aM.length).Nodup:=by
  unfold Ir
  rw [List.nodup_iff_pairwise_ne,List.pairwise_map]
  exact List.pairwise_lt_range.imp fun h=>by omega
 have e:dE r.bL=(Ir r.aM.length).filter fun x=>decide (x∈r.bL):=by
  refine rI lM ((yE _).filter _) (fT.nodup_iff.2 nd) (ndu.filter _) fun x=>?_
  rw [fT.mem_iff,List.mem_filter,decide_eq_true_eq]
  exact ⟨fun q=>⟨hm x q,q⟩,fun q=>q.2⟩
 have B:=congrArg List.length e
 rw [gL,hl] at B
 have C:(Ir r.aM.length).filter (fun x=>decide (x∈r.bL))=Ir r.aM.length:=List.filter_sublist.eq_of_length (by rw [← B]; simp)
 rw [C] at e
 rw [← e]; exact fT.symm
theorem HB {n:Nat} (h1:1≤(r.aM.length:Int)∧(r.aM.length:Int)≤5) (h2:r.bL.length=r.aM.length) (h3:0≤r.im∧r.im≤5) (h4:1≤(r.ao.length:Int)∧(r.ao.length:Int)≤3)
 (hn:n=r.aM.length) (h6:xe r n) (h7:kq r i) (hi:r.ao.length≤i):fj r:=by
 subst hn
 refine ⟨h1,h3,h4,fun k x hx=>(h6 k (aV.1 hx).1).1 x hx,L4 h2 h6,fun h hh=>?_⟩
 obtain ⟨j,hj⟩:=List.getElem?_of_mem hh
 exact h7 j h (by have:=(aV.1 hj).1; omega) hj
theorem fj.KS (h:fj r) (hx:r.bL[i]? =some x):0≤x∧x≤(r.aM.length:Int)-1:=by
 obtain ⟨k,hk,rfl⟩:=bZ.1 (h.draw.mem_iff.1 (aS hx))
 have:=List.mem_range.1 hk
 omega
theorem fj.Rc (h:fj r):r.bL.Nodup:=by
 refine h.draw.nodup_iff.2 ?_
 rw [List.nodup_iff_pairwise_ne,List.pairwise_map]
 exact List.pairwise_lt_range.imp fun h=>by omega
theorem fj.QU (h:fj r) {u v:Int} (hki:k<i) (hu:r.bL[k]? =some u) (hv:r.bL[i]? =some v): ¬ u=v:=by
 have A:=h.Rc
 rw [List.nodup_iff_pairwise_ne,eV] at A
 obtain ⟨a,ea⟩:=aV.1 hu
 obtain ⟨b,eb⟩:=aV.1 hv
 subst ea eb
 exact A k i a b hki
end
section
variable {r:cj} {i k n:Nat} {s:aa} {l:aY} {hs:List (List au)}
end
section
variable {r:cj} {i x:Int} {own s:aa} {k:Nat} {ys zs:List Int}
end
section
variable {B:List Bool} {P Q:Int→Prop} {k x:Nat} {m:g8} {i y a b:Int} {ys:List Int}
end
theorem sW {r:cj} {i:Int}:(gS r i).length≤r.aM.length:=by
 unfold gS
 split
 ·unfold d_
  refine Nat.le_trans (List.length_filter_le _ _) ?_
  rw [List.length_map,List.length_range]
  exact vn
 ·simp
end
section
theorem wG: ∀ {m:g8} {a:Int} {s:aa},m.lookup a=some s→(a,s)∈m
 |[],a,s,h=>by cases h
 |(b,u)::m,a,s,h=>by
  by_cases e:a=b
  ·subst e
   simp [List.lookup] at h; subst h; exact cv
  ·have:(a==b)=false:=by simpa using e
   simp only [List.lookup,this] at h
   exact cY _ (wG h)
theorem AW: ∀ {m:g8} {a:Int} {s:aa},(m.map (·.1)).Nodup→(a,s)∈m→m.lookup a=some s
 |[],a,s,_,h=>by cases h
 |(b,u)::m,a,s,hn,h=>by
  rw [List.map_cons,List.nodup_cons] at hn
  rcases bx.1 h with e|h
  ·cases e; simp [List.lookup]
  ·have e:a≠b:=fun e=>hn.1 (by rw [← e]; exact List.mem_map_of_mem (f:=(·.1)) h)
   have:(a==b)=false:=by simpa using e
   simp only [List.lookup,this]
   exact AW hn.2 h
/-- sums, each of another sled -/
structure pZ (m:g8):Prop where
 nd:(m.map (·.1)).Nodup
 le: ∀ p∈m,p.2.Lo≤p.2.Hi
section
variable {m:g8} {a b i n:Int} {s t own:aa}
theorem pZ.at (h:pZ m) (hs:m.lookup a=some s):s.Lo≤s.Hi:=h.le _ (wG hs)
theorem pZ.one (h:pZ m) (hs:m.lookup a=some s) {p:Int×aa} (hp:p∈m) (e:p.1=a):p.2=s:=by
 obtain ⟨x,y⟩:=p
 cases e
 have:=AW h.nd hp
 rw [hs] at this; cases this; rfl
/-- who is surely tied has the same ranks -/
theorem Hn (h:pZ m) (hs:m.lookup a=some s) (ht:m.lookup b=some s) (he:s.Lo=s.Hi):d_ m a s=d_ m b s:=by
 have C:ji m a s.Lo=ji m b s.Lo:=by
  rw [oM,oM]
  apply List.countP_congr
  intro p hp
  simp only [cU,decide_eq_true_eq,Bool.not_eq_true',decide_eq_false_iff_not]
  exact ⟨fun q=>⟨q.1,fun e=>by have:=h.one ht hp e; rw [this] at q; omega⟩,fun q=>⟨q.1,fun e=>by have:=h.one hs hp e; rw [this] at q; omega⟩⟩
 have D:kG m a s.Lo=kG m b s.Lo:=by
  rw [pS,pS]
  apply List.countP_congr
  intro p hp
  simp only [cU,decide_eq_true_eq,Bool.not_eq_true',decide_eq_false_iff_not]
  exact ⟨fun q=>⟨q.1,fun e=>by have:=h.one ht hp e; rw [this] at q; omega⟩,fun q=>⟨q.1,fun e=>by have:=h.one hs hp e; rw [this] at q; omega⟩⟩
 unfold d_
 congr 1
 funext k
 rw [gN,Ce (h.at hs),Ce (h.at hs)]
 constructor<;>rintro ⟨x,A,B,E,F⟩<;>(have:x=s.Lo:=by omega)<;>subst this<;>exact ⟨s.Lo,A,B,I,I⟩
end
section
variable {r:cj} {a b i:Int} {s t:aa}
/-- what is known of two sleds that have sums -/
structure PY (r:cj) (a b:Int) (s t:aa):Prop where
 ne:a≠b
 QH:pZ (aG r)
 sa:(aG r).lookup a=some s
 sb:(aG r).lookup b=some t
 ea:kM r a=0
 eb:kM r b=0
 va:uj r a=s
 vb:uj r b=t
 ra:gS r a=d_ (aG r) a s
 rb:gS r b=d_ (aG r) b t
 Ww:wg r a b=Co s t
 JO:wg r b a=Co t s
 tied:qF r a b=sD s t
theorem PY.tie (h:PY r a b s t) (e:qF r a b=2):s=t∧s.Lo=s.Hi∧gS r a=gS r b∧wg r a b=0∧wg r b a=0:=by
 rw [h.tied] at e
 unfold sD at e
 split at e
 ·rename_i q
  obtain ⟨rfl,q⟩:=q
  have hb:Co s s=0:=by unfold Co; rw [if_neg I,if_neg I]
  exact ⟨U,q,by rw [h.ra,h.rb,Hn h.QH h.sa h.sb q],h.Ww.trans hb,h.JO.trans hb⟩
 ·split at e<;>cases e
end
end
section
section
variable {r:cj} {h i:Nat} {ht:List au} {d:au} {bl:List Int} {n:Int} {out:Bool}
structure JF (r:cj) (h i:Nat) (d:au):Prop where
 off:d.Out=true→kE r ↑h ↑i=6
 on:d.Out=false→kE r ↑h ↑i=0∧gY r ↑h ↑i=dq r.an d
 b:0≤(gY r ↑h ↑i).Lo∧(gY r ↑h ↑i).Lo≤(gY r ↑h ↑i).Hi∧(gY r ↑h ↑i).Hi≤86400000
 at_:(r.ao[h]?).bind (·[i]?)=some d
theorem JF.same (q:JF r h i d):d.Out=decide (kE r ↑h ↑i=6):=by
 cases ho:d.Out with
 |true=>rw [q.off ho]; rfl
 |false=>rw [(q.on ho).1]; rfl
end
section
variable {r:cj} {i:Nat} {k:Int}
end
end
section
structure DG (w w':bT):Prop where
 start:w'.Start=w.Start
 now:w.fE≤w'.fE
 n:w'.n=w.n
 least: ∀ b,bM w' b≤bM w b
 times:w'.vU=w.vU
 Qb:w.cM≤w'.cM
 Tp:w.eg≤w'.eg
 sigs:w'.M7=w.M7
variable {w w':bT}
theorem DG.opt (h:DG w w') {b:Nat} {o:Int×aa} (ho:o∈iN w b): ∃ o'∈iN w' b,o'.1=o.1∧o'.2.Lo≤o.2.Lo∧o.2.Hi≤o'.2.Hi:=by
 unfold iN at ho
 rcases bx.1 ho with rfl|ho
 ·exact ⟨(-1,⟨w'.Start,w'.fE⟩),cv ..,U,by simp only [h.start]; omega,h.now⟩
 ·refine ⟨o,cY _ ?_,U,Int.le_refl _,Int.le_refl _⟩
  unfold ui at ho ⊢; rw [h.times]; exact ho
theorem DG.may (h:DG w w') {t:aC} (ht:kI w t=true):kI w' t=true:=by
 unfold kI at ht ⊢
 have:=of_decide_eq_true ht
 have A:=h.Qb
 have B:=h.Tp
 have C:=h.sigs
 exact gF I
theorem DG.fwd (h:DG w w'): ∀ (b:Nat) (p:aC×Int),p∈fwd w b→ ∃ p'∈Go.Proofs.YtlajhejcfcoddaaGreatDoor.fwd w' b,p'.1=p.1∧p'.2≤p.2:=by
 intro b
 induction b with
 |zero=>
  intro p hp
  simp only [Go.Proofs.YtlajhejcfcoddaaGreatDoor.fwd,bI] at hp ⊢
  subst hp
  exact ⟨_,U,U,by simp only [h.start]; omega⟩
 |succ b ih=>
  intro q hq
  obtain ⟨p,hp,o,ho,e⟩:=gf.1 hq
  obtain ⟨p',hp',A,D⟩:=ih p hp
  obtain ⟨o',ho',B,E,F⟩:=h.opt ho
  have hl:=h.least b
  have hn:=h.now
  unfold lj at e
  split at e
  ·rename_i C
   simp only [Option.some.injEq] at e
   subst e
   refine ⟨(dF p'.1 (fD o'.1),max (p'.2+bM w' b) o'.2.Lo),gf.2 ⟨p',hp',o',ho',by unfold lj; rw [if_pos I]⟩,by simp only [A,B],by simp only; omega⟩
  ·cases e
theorem DG.bwd (h:DG w w'): ∀ (k:Nat) (p:aC×Int),p∈bwd w k→ ∃ p'∈Go.Proofs.YtlajhejcfcoddaaGreatDoor.bwd w' k,p'.1=p.1∧p.2≤p'.2:=by
 intro k
 induction k with
 |zero=>
  intro p hp
  simp only [Go.Proofs.YtlajhejcfcoddaaGreatDoor.bwd,bI] at hp ⊢
  subst hp
  exact ⟨_,U,U,h.now⟩
 |succ k ih=>
  intro q hq
  simp only [Go.Proofs.YtlajhejcfcoddaaGreatDoor.bwd,bx,List.mem_flatMap,List.mem_filterMap] at hq ⊢
  rcases hq with rfl|⟨p,hp,o,ho,e⟩
  ·exact ⟨_,.inl U,U,h.now⟩
  ·obtain ⟨p',hp',A,D⟩:=ih p hp
   obtain ⟨o',ho',B,E,F⟩:=h.opt ho
   have hl:=h.least (w.n-(k+1))
   rw [h.n]
   unfold oz at e
   split at e
   ·rename_i C
    simp only [Option.some.injEq] at e
    subst e
    exact ⟨(dF p'.1 (fD o'.1),min p'.2 o'.2.Hi-bM w' (w.n-(k+1))),.inr ⟨p',hp',o',ho',by unfold oz; rw [if_pos I]⟩,by simp only [A,B],by simp only; omega⟩
   ·cases e
theorem DG.back (h:DG w w') {b:Nat} {p:aC×Int} (hp:p∈back w b): ∃ p'∈Go.Proofs.YtlajhejcfcoddaaGreatDoor.back w' b,p'.1=p.1∧p.2≤p'.2:=by
 unfold Go.Proofs.YtlajhejcfcoddaaGreatDoor.back at hp ⊢
 rw [h.n]
 exact h.bwd _ p hp
theorem DG.pass (h:DG w w') {b:Nat} {q:Int×aa} (hq:q∈fM w b): ∃ q'∈fM w' b,q'.1=q.1∧q'.2.Lo≤q.2.Lo∧q.2.Hi≤q'.2.Hi:=by
 obtain ⟨o,ho,p,hp,u,hu,e⟩:=iB.1 hq
 obtain ⟨D,E,rfl⟩:=jG.1 e
 obtain ⟨o',ho',A,F,G⟩:=h.opt ho
 obtain ⟨p',hp',B,H⟩:=h.fwd _ p hp
 obtain ⟨u',hu',C,AA⟩:=h.back hu
 have hl:=h.least b
 simp only [jP] at D
 refine ⟨(o'.1,jP w' b p' u' o'),iB.2 ⟨o',ho',p',hp',u',hu',jG.2 ⟨?_,?_,U⟩⟩,A,?_,?_⟩
 ·simp only [jP]; omega
 ·have:=h.may E
  unfold yj at this ⊢
  rw [A,B,C]; exact this
 ·simp only [jP]; omega
 ·simp only [jP]; omega
theorem py {k:Int}:k∈jZ w↔ ∃ i:Nat,k=(i:Int)∧i≤w.n∧jH w (fwd w i)=true:=by
 unfold jZ kK
 simp only [bZ,List.mem_filter,List.mem_range]
 constructor
 ·rintro ⟨i,⟨B,A⟩,rfl⟩; exact ⟨i,rfl,I,A⟩
 ·rintro ⟨i,rfl,B,A⟩; exact ⟨i,⟨I,A⟩,rfl⟩
theorem DG.Hy (h:DG w w') {k:Int} (hk:k∈jZ w):k∈jZ w':=by
 obtain ⟨i,rfl,C,A⟩:=py.1 hk
 refine py.2 ⟨i,U,by rw [h.n]; exact C,?_⟩
 unfold jH at A ⊢
 obtain ⟨p,hp,D⟩:=List.any_eq_true.1 A
 obtain ⟨p',hp',B,_⟩:=h.fwd _ p hp
 exact List.any_eq_true.2 ⟨p',hp',by rw [B]; exact h.may D⟩
theorem zi {l:List (Int×aa)} (hl: ∀ q∈l,q.2.Lo≤q.2.Hi) (h:iS l≠jk):mZ l (iS l):=by
 rcases qC hl with ⟨_,e⟩|h'
 ·exact absurd e h
 ·exact h'
theorem Bj {l:List (Int×aa)} (hl: ∀ q∈l,q.2.Lo≤q.2.Hi) {q:Int×aa} (hq:q∈l):mZ l (iS l):=by
 rcases qC hl with ⟨e,_⟩|h'
 ·rw [e] at hq; cases hq
 ·exact h'
theorem DG.VN (h:DG w w') {b:Nat} (hn:iS (fM w b)≠jk):iS (fM w' b)≠jk∧(iS (fM w' b)).Lo≤(iS (fM w b)).Lo∧(iS (fM w b)).Hi≤(iS (fM w' b)).Hi:=by
 have B:=zi (l:=fM w b) (fun q hq=>iR hq) hn
 obtain ⟨x,hx,ex⟩:=B.lo
 obtain ⟨y,hy,ey⟩:=B.hi
 obtain ⟨x',hx',_,C,D⟩:=h.pass hx
 obtain ⟨y',hy',_,E,F⟩:=h.pass hy
 have A:=Bj (l:=fM w' b) (fun q hq=>iR hq) hx'
 have G:=A.all x' hx'
 have H:=A.all y' hy'
 exact ⟨A.ne,I,I⟩
/-- two rides, of two lines, of which one allows more -/
structure RN (l:aY) (r:cx) (l':aY) (r':cx):Prop where
 line:c_ l=0
 line':c_ l'=0
 yV:eX l r
 ride':eX l' r'
 w:DG (bV l r) (bV l' r')
 Jc:l'.ag.length=l.ag.length
variable {l l':aY} {r r':cx}
theorem RN.ok (h:RN l r l' r') (he:dU l r 0=0):dU l' r' 0=0:=by
 refine l6 h.line' h.ride' U fun e=>?_
 obtain ⟨k,hk⟩:=List.exists_mem_of_ne_nil _ (jM he).2.2.2
 have:=h.w.Hy hk
 rw [e] at this; cases this
theorem RN.Bb (h:RN l r l' r') {k:Int} (hk:k∈lK l r):k∈lK l' r':=by
 by_cases he:dU l r 0=0
 ·rw [l_ he] at hk
  rw [l_ (h.ok he)]
  exact h.w.Hy hk
 ·rw [uM he] at hk; cases hk
theorem rz {b:Nat} (hb:b<l.ag.length):dU l r (ik l b)=dU l r 0:=by rw [xx I]
theorem RN.BF (h:RN l r l' r') {b:Nat} (hb:b<l.ag.length) (he:dw l r b=0):dw l' r' b=0∧(dJ l' r' b).Lo≤(dJ l r b).Lo∧(dJ l r b).Hi≤(dJ l' r' b).Hi:=by
 have ho:dU l r (ik l b)=0:=by
  by_cases e:dU l r (ik l b)=0
  ·exact e
  ·rw [(jJ e).1] at he; exact absurd he e
 have ho':dU l' r' (ik l' b)=0:=by
  rw [rz (by rw [h.Jc]; exact hb)]
  rw [rz hb] at ho
  exact h.ok ho
 have hn:kP l r b≠jk:=fun e=>by rw [(lp ho e).1] at he; omega
 obtain ⟨C,D,E⟩:=h.w.VN hn
 have B:=iW ho hn
 have A:=iW ho' C
 rw [B.2,A.2]
 exact ⟨A.1,D,E⟩
theorem rJ {b:Nat}:bM (bV l r) b=if b<l.ag.length then ej l b else 0:=by
 unfold bM bV cJ
 split
 ·rename_i h
  simp [h]
 ·rename_i h
  simp [h]
theorem I1 {sg:List aH} {i:Nat} (h:i=0):m7 sg i=⟨-1,0⟩:=by subst h; rfl
theorem rQ {sg:List aH} {i:Nat} {y:aH} (h:0<i) (hy:sg[i-1]? =some y):m7 sg i=y:=by unfold m7; rw [if_neg I,hy]; rfl
def QF (l:aY):Prop:= ¬ l8 l∧c_ l=0
noncomputable instance (l:aY):Decidable (QF l):=Classical.propDecidable _
end
section
/-- where a sled may be after k beams more -/
def gk (w:bT):Nat→Nat→aC×Int→List (aC×Int)
 |0,_,p=>[p]
 |k+1,b,p=>(iN w b).flatMap fun o=>match lj w b p o with
  |some q=>gk w k (b+1) q
  |none=>[]
variable {w:bT}
theorem iD {k b:Nat} {p q:aC×Int}:q∈gk w (k+1) b p↔ ∃ o∈iN w b,∃ p',lj w b p o=some p'∧q∈gk w k (b+1) p':=by
 simp only [gk,List.mem_flatMap]
 constructor
 ·rintro ⟨o,ho,h⟩
  cases e:lj w b p o with
  |none=>rw [e] at h; cases h
  |some p'=>rw [e] at h; exact ⟨o,ho,p',e,h⟩
 ·rintro ⟨o,ho,p',e,h⟩
  exact ⟨o,ho,by rw [e]; exact h⟩
theorem rW: ∀ (k b:Nat) (q:aC×Int),q∈fwd w (b+k)↔ ∃ p∈fwd w b,q∈gk w k b p:=by
 intro k
 induction k with
 |zero=>
  intro b q
  simp only [Nat.add_zero,gk,bI]
  exact ⟨fun h=>⟨q,h,rfl⟩,fun ⟨p,hp,e⟩=>e▸hp⟩
 |succ k ih=>
  intro b q
  rw [show b+(k+1)=(b+1)+k by omega,ih]
  constructor
  ·rintro ⟨p',hp',h⟩
   obtain ⟨p,hp,o,ho,e⟩:=gf.1 hp'
   exact ⟨p,hp,iD.2 ⟨o,ho,p',e,h⟩⟩
  ·rintro ⟨p,hp,h⟩
   obtain ⟨o,ho,p',e,h'⟩:=iD.1 h
   exact ⟨p',gf.2 ⟨p,hp,o,ho,e⟩,h'⟩
theorem gW {b:Nat} {p q:aC×Int} {o:Int×aa}:lj w b p o=some q↔max (p.2+bM w b) o.2.Lo≤min o.2.Hi w.fE∧q=(dF p.1 (fD o.1),max (p.2+bM w b) o.2.Lo):=by
 unfold lj
 split
 ·rename_i h
  constructor
  ·intro e; cases e; exact ⟨h,rfl⟩
  ·rintro ⟨_,rfl⟩; rfl
 ·rename_i h
  constructor
  ·intro e; cases e
  ·rintro ⟨h',_⟩; exact absurd h' h
theorem uT {b:Nat} {p q:aC×Int} {o:Int×aa}:oz w b p o=some q↔o.2.Lo≤min p.2 o.2.Hi∧q=(dF p.1 (fD o.1),min p.2 o.2.Hi-bM w b):=by
 unfold oz
 split
 ·rename_i h
  constructor
  ·intro e; cases e; exact ⟨h,rfl⟩
  ·rintro ⟨_,rfl⟩; rfl
 ·rename_i h
  constructor
  ·intro e; cases e
  ·rintro ⟨h',_⟩; exact absurd h' h
theorem Hq {b:Nat} (hb:b≤w.n):((⟨0,0⟩:aC),w.fE)∈back w b:=by
 rcases Nat.lt_or_ge b w.n with h|h
 ·exact (pb h).2 (.inl U)
 ·rw [vw h]; simp
theorem nE (t:aC):dF t ⟨0,0⟩=t:=by cases t; simp [dF]
theorem Am (a o u:aC):dF (dF a o) u=dF a (dF u o):=by simp only [dF,aC.mk.injEq]; omega
theorem Gq (hl: ∀ b,0≤bM w b): ∀ (k:Nat) (u:aC×Int),u∈bwd w k→u.2≤w.fE:=by
 intro k
 induction k with
 |zero=>intro u hu; simp only [bwd,bI] at hu; subst hu; exact Int.le_refl _
 |succ k ih=>
  intro u hu
  simp only [bwd,bx,List.mem_flatMap,List.mem_filterMap] at hu
  rcases hu with rfl|⟨p,hp,o,ho,e⟩
  ·exact Int.le_refl _
  ·obtain ⟨_,rfl⟩:=uT.1 e
   have:=ih p hp
   have:=hl (w.n-(k+1))
   simp only; omega
/-- what follows a passing is told by the way back -/
theorem O8: ∀ (k b:Nat) (p q:aC×Int),b+k≤w.n→p.2≤w.fE→q∈gk w k b p→ ∃ u∈back w b,p.2≤u.2∧q.1=dF p.1 u.1:=by
 intro k
 induction k with
 |zero=>
  intro b p q hb hp hq
  simp only [gk,bI] at hq
  subst hq
  exact ⟨_,Hq I,hp,(nE _).symm⟩
 |succ k ih=>
  intro b p q hb hp hq
  obtain ⟨o,ho,p',e,h⟩:=iD.1 hq
  obtain ⟨C,rfl⟩:=gW.1 e
  obtain ⟨u',hu',B,A⟩:=ih (b+1) _ q I (by simp only; omega) h
  simp only at B A
  refine ⟨(dF u'.1 (fD o.1),min u'.2 o.2.Hi-bM w b),(pb I).2 (.inr ⟨u',hu',o,ho,uT.2 ⟨I,U⟩⟩),by simp only; omega,?_⟩
  rw [A,Am]
theorem MU (hl: ∀ b,0≤bM w b): ∀ (d b:Nat) (p u:aC×Int),w.n=b+d→p.2≤u.2→u∈back w b→ ∃ k,b+k≤w.n∧ ∃ q∈gk w k b p,q.1=dF p.1 u.1:=by
 intro d
 induction d with
 |zero=>
  intro b p u hd hp hu
  rw [vw I] at hu
  simp only [bI] at hu
  subst hu
  exact ⟨0,I,p,by simp [gk],(nE _).symm⟩
 |succ d ih=>
  intro b p u hd hp hu
  rcases (pb I).1 hu with rfl|⟨u',hu',o,ho,e⟩
  ·exact ⟨0,I,p,by simp [gk],(nE _).symm⟩
  ·obtain ⟨B,rfl⟩:=uT.1 e
   have hn:u'.2≤w.fE:=Gq hl _ _ hu'
   simp only at hp
   obtain ⟨k,hk,q,hq,A⟩:=ih (b+1) (dF p.1 (fD o.1),max (p.2+bM w b) o.2.Lo) u' I (by simp only; omega) hu'
   refine ⟨k+1,I,q,iD.2 ⟨o,ho,_,gW.2 ⟨I,U⟩,hq⟩,?_⟩
   rw [A]; simp only; rw [Am]
end
section
section
variable {l:aY} {r:cx} {one at_:Int} {d:Nat} {f g m:Int} {rec:Int→Int→Int→Bool} {i:Int}
end
theorem nZ {l:aY} {r:cx} {d:Nat} (hd:d<l.ag.length) {o:Int×aa}:o∈iN (bV l r) d↔o=(-1,⟨r.Start,r.fE⟩)∨ ∃ k,k<r.ah.length∧ ∃ s,r.ah[k]? =some s∧(s.fR=(d:Int)∧(cD l s).Lo≤(cD l s).Hi)∧o=((k:Int),cD l s):=by
 unfold iN ui
 show o∈(-1,(⟨r.Start,r.fE⟩:aa))::((ew l r.ah r.ah.length)[d]?).getD []↔_
 rw [pC hd,Option.getD_some,bx,sY]
theorem p_ {l:aY} {r:cx} {d:Nat} (hd:d<l.ag.length):bM (bV l r) d=ej l d:=by rw [rJ,if_pos hd]
theorem vj {l:aY} {n d:Nat} {y:Int} (h:(cJ l n)[d]? =some y):y=ej l d:=by
 unfold cJ at h
 rw [eT] at h
 have hd:d<n:=by
  rcases Nat.lt_or_ge d n with q|q
  ·exact q
  ·rw [List.getElem?_eq_none (by simpa using q)] at h; cases h
 rw [List.getElem?_range hd] at h
 exact (Option.some.inj h).symm
end
section
def Qp (w:bT) (b:Nat) (i:Int):Prop:= ∃ b',b'<b∧ ∃ q∈fM w b',q.1=i
noncomputable instance (w:bT) (b:Nat) (i:Int):Decidable (Qp w b i):=Classical.propDecidable _
def wE (w:bT) (b:Nat):Bool:=(fM w b).any fun q=>decide (0≤q.1)
def Ay (w:bT) (k:Nat):List Int:=((List.range k).filter fun b=> !wE w b).map fun (b:Nat)=>(b:Int)
noncomputable def wu (l:aY) (r:cx):List Int:=if dU l r 0=0 then Ay (bV l r) (yz (lK l r)).toNat else []
theorem x3 {l:aY} {r:cx} (h:dU l r 0=0):wu l r=Ay (bV l r) (yz (lK l r)).toNat:=if_pos h
theorem yB {l:aY} {r:cx} (h: ¬ dU l r 0=0):wu l r=[]:=if_neg h
theorem SZ {l:aY} {r:cx} (h:dU l r 0=0):0≤yz (lK l r)∧yz (lK l r)≤(l.ag.length:Int):=by
 have A:=(G9 (uV h)).1
 rw [l_ h] at A ⊢
 obtain ⟨i,e,hi,_⟩:=py.1 A
 have hn:(bV l r).n=l.ag.length:=dH
 omega
end
section
/-- a truth goes on from here -/
def sU (w:bT) (b:Nat) (p:aC×Int):Prop:= ∃ k,b+k≤w.n∧ ∃ q∈gk w k b p,kI w q.1=true
/-- a truth may have come here, or earlier -/
def D3 (w:bT) (b:Nat) (p:aC×Int):Prop:= ∃ v,(p.1,v)∈fwd w b∧v≤p.2
def JI (n:Int) (p:aC×Int):aC×Int:=(p.1,p.2+n)
section
variable {w:bT}
theorem IW: ∀ (k j b:Nat) (p q z:aC×Int),q∈gk w k b p→z∈gk w j (b+k) q→z∈gk w (k+j) b p:=by
 intro k
 induction k with
 |zero=>
  intro j b p q z A B
  simp only [gk,bI] at A
  subst A
  rw [Nat.zero_add]; exact B
 |succ k ih=>
  intro j b p q z A B
  obtain ⟨o,ho,p',e,h⟩:=iD.1 A
  rw [show k+1+j=(k+j)+1 by omega]
  exact iD.2 ⟨o,ho,p',e,ih j (b+1) p' q z h (by rw [show b+1+k=b+(k+1) by omega]; exact B)⟩
theorem C4: ∀ (k b:Nat) (t:aC) (x y:Int) (q:aC×Int),y≤x→q∈gk w k b (t,x)→ ∃ q'∈gk w k b (t,y),q'.1=q.1∧q'.2≤q.2:=by
 intro k
 induction k with
 |zero=>
  intro b t x y q A hq
  simp only [gk,bI] at hq ⊢
  subst hq
  exact ⟨_,U,U,A⟩
 |succ k ih=>
  intro b t x y q A hq
  obtain ⟨o,ho,p',e,h⟩:=iD.1 hq
  obtain ⟨B,rfl⟩:=gW.1 e
  simp only at B h
  obtain ⟨q',hq',C,D⟩:=ih (b+1) _ _ (max (y+bM w b) o.2.Lo) q I h
  exact ⟨q',iD.2 ⟨o,ho,_,gW.2 ⟨by simp only; omega,U⟩,hq'⟩,C,D⟩
theorem xD {b:Nat} {t:aC} {x y:Int} (h:sU w b (t,x)) (hy:y≤x):sU w b (t,y):=by
 obtain ⟨k,hk,q,hq,hm⟩:=h
 obtain ⟨q',hq',e,_⟩:=C4 k b t x y q hy hq
 exact ⟨k,hk,q',hq',by rw [e]; exact hm⟩
theorem vo {k b:Nat} {p q:aC×Int} (h:q∈gk w k b p) (hv:sU w (b+k) q):sU w b p:=by
 obtain ⟨j,hj,z,hz,hm⟩:=hv
 exact ⟨k+j,I,z,IW k j b p q z h hz,hm⟩
theorem H4 {b:Nat} {p q:aC×Int} {o:Int×aa} (h:D3 w b p) (ho:o∈iN w b) (e:lj w b p o=some q):D3 w (b+1) q:=by
 obtain ⟨v,hv,A⟩:=h
 obtain ⟨B,rfl⟩:=gW.1 e
 exact ⟨max (v+bM w b) o.2.Lo,gf.2 ⟨_,hv,o,ho,gW.2 ⟨by simp only; omega,U⟩⟩,by simp only; omega⟩
theorem B4 {b:Nat} {p:aC×Int} (h:p∈fwd w b):D3 w b p:=⟨p.2,h,Int.le_refl _⟩
theorem vc (hl: ∀ b,0≤bM w b): ∀ (b:Nat) (p:aC×Int),p∈fwd w b→w.Start≤p.2:=by
 intro b
 induction b with
 |zero=>intro p hp; simp only [fwd,bI] at hp; subst hp; exact Int.le_refl _
 |succ b ih=>
  intro q hq
  obtain ⟨p,hp,o,ho,e⟩:=gf.1 hq
  obtain ⟨_,rfl⟩:=gW.1 e
  have:=ih p hp
  have:=hl b
  simp only; omega
/-- a beam is passed at a time, by a signal -/
def yg (w:bT) (b:Nat) (s t:Int):Prop:= ∃ p∈fwd w b,∃ o∈iN w b,o.1=s∧(max (p.2+bM w b) o.2.Lo≤t∧t≤min o.2.Hi w.fE)∧sU w (b+1) (dF p.1 (fD o.1),t)
theorem nq (hl: ∀ b,0≤bM w b) {b:Nat} (hb:b<w.n) {s t:Int}:(∃ q∈fM w b,q.1=s∧q.2.Lo≤t∧t≤q.2.Hi)↔yg w b s t:=by
 constructor
 ·rintro ⟨q,hq,hs,C,D⟩
  obtain ⟨o,ho,p,hp,u,hu,e⟩:=iB.1 hq
  obtain ⟨B,A,rfl⟩:=jG.1 e
  simp only [jP] at C D B
  have hn:u.2≤w.fE:=Gq hl _ _ hu
  obtain ⟨k,hk,q,hq',E⟩:=MU hl (w.n-(b+1)) (b+1) (dF p.1 (fD o.1),t) u I (by simp only; omega) hu
  refine ⟨p,hp,o,ho,hs,⟨I,I⟩,k,hk,q,hq',?_⟩
  rw [E]
  unfold yj at A
  rw [show dF (dF p.1 (fD o.1)) u.1=dF (dF p.1 u.1) (fD o.1) by simp only [dF,aC.mk.injEq]; omega]
  exact A
 ·rintro ⟨p,hp,o,ho,hs,⟨C,D⟩,k,hk,q,hq,hm⟩
  obtain ⟨u,hu,B,A⟩:=O8 k (b+1) _ q hk (by simp only; omega) hq
  simp only at B A
  refine ⟨(o.1,jP w b p u o),iB.2 ⟨o,ho,p,hp,u,hu,jG.2 ⟨by simp only [jP]; omega,?_,U⟩⟩,hs,by simp only [jP]; omega,by simp only [jP]; omega⟩
  unfold yj
  rw [A] at hm
  rw [show dF (dF p.1 u.1) (fD o.1)=dF (dF p.1 (fD o.1)) u.1 by simp only [dF,aC.mk.injEq]; omega]
  exact hm
end
structure vY (w w':bT) (n:Int) (f:Int→Int):Prop where
 start:w'.Start=w.Start+n
 now:w'.fE=w.fE+n
 wn:w'.n=w.n
 low: ∀ b,0≤bM w b
 least: ∀ b,bM w' b=bM w b
 may: ∀ t,kI w t=true→kI w' t=true
 Vc: ∀ s,0≤f s↔0≤s
 opt: ∀ (b:Nat) (p:aC×Int) (o:Int×aa),b<w.n→w.Start≤p.2→D3 w b p→o∈iN w b→max (p.2+bM w b) o.2.Lo≤min o.2.Hi w.fE→sU w (b+1) (dF p.1 (fD o.1),max (p.2+bM w b) o.2.Lo)→
  ∃ o'∈iN w' b,o'.1=f o.1∧ ∀ t,w.Start≤t→t≤w.fE→((o.2.Lo≤t∧t≤o.2.Hi)↔(o'.2.Lo≤t+n∧t+n≤o'.2.Hi))
section
variable {w w':bT} {n:Int} {f g:Int→Int}
theorem vY.one (h:vY w w' n f) (s:Int):fD (f s)=fD s:=by
 unfold fD
 have:=h.Vc s
 by_cases q:s<0
 ·rw [if_pos q,if_pos I]
 ·rw [if_neg q,if_neg I]
theorem vY.step (h:vY w w' n f) {b:Nat} {p q:aC×Int} {o:Int×aa} (hb:b<w.n) (hs:w.Start≤p.2) (hl:D3 w b p) (ho:o∈iN w b) (e:lj w b p o=some q) (hv:sU w (b+1) q):
 ∃ o'∈iN w' b,lj w' b (JI n p) o'=some (JI n q):=by
 obtain ⟨E,rfl⟩:=gW.1 e
 obtain ⟨o',ho',D,A⟩:=h.opt b p o hb hs hl ho E hv
 have F:=h.low b
 have B:=A (max (p.2+bM w b) o.2.Lo) I I
 have C:=A (max (p.2+n+bM w b) o'.2.Lo-n) I
 refine ⟨o',ho',gW.2 ?_⟩
 simp only [JI,h.least,h.now]
 rw [D,h.one]
 have G:=B.1 I
 have H:=(C I).2 I
 refine ⟨I,?_⟩
 simp only [Prod.mk.injEq,true_and]
 omega
theorem vY.reach (h:vY w w' n f): ∀ (k b:Nat) (p q:aC×Int),b+k≤w.n→w.Start≤p.2→D3 w b p→q∈gk w k b p→sU w (b+k) q→JI n q∈gk w' k b (JI n p):=by
 intro k
 induction k with
 |zero=>
  intro b p q _ _ _ hq _
  simp only [gk,bI] at hq ⊢
  rw [hq]
 |succ k ih=>
  intro b p q hb hs hl hq hv
  obtain ⟨o,ho,p',e,hq'⟩:=iD.1 hq
  have hv':sU w (b+1) p':=vo hq' (by rw [show b+1+k=b+(k+1) by omega]; exact hv)
  obtain ⟨o',ho',e'⟩:=h.step I hs hl ho e hv'
  have A:=gW.1 e
  have B:=h.low b
  exact iD.2 ⟨o',ho',_,e',ih (b+1) p' q I (by rw [A.2]; simp only; omega) (H4 hl ho e) hq' (by rw [show b+1+k=b+(k+1) by omega]; exact hv)⟩
theorem vY.RG (h:vY w w' n f) {b:Nat} {p:aC×Int} (hs:w.Start≤p.2) (hl:D3 w b p) (hv:sU w b p):sU w' b (JI n p):=by
 obtain ⟨k,hk,q,hq,hm⟩:=hv
 exact ⟨k,by rw [h.wn]; exact hk,_,h.reach k b p q hk hs hl hq ⟨0,I,q,by simp [gk],hm⟩,h.may _ hm⟩
theorem vY.fwd (h:vY w w' n f) {b:Nat} {q:aC×Int} (hb:b≤w.n) (hq:q∈fwd w b) (hv:sU w b q):JI n q∈Go.Proofs.YtlajhejcfcoddaaGreatDoor.fwd w' b:=by
 obtain ⟨p,hp,hr⟩:=(rW b 0 q).1 (by rw [Nat.zero_add]; exact hq)
 have hr':=h.reach b 0 p q I (vc h.low 0 p hp) (B4 hp) hr (by rw [Nat.zero_add]; exact hv)
 have:JI n p∈Go.Proofs.YtlajhejcfcoddaaGreatDoor.fwd w' 0:=by
  simp only [Go.Proofs.YtlajhejcfcoddaaGreatDoor.fwd,bI] at hp ⊢
  subst hp
  rw [h.start]; rfl
 have A:=(rW b 0 (JI n q)).2 ⟨_,this,hr'⟩
 rwa [Nat.zero_add] at A
theorem vY.any (h:vY w w' n f) {b:Nat} (hb:b≤w.n) (hm:jH w (Go.Proofs.YtlajhejcfcoddaaGreatDoor.fwd w b)=true):jH w' (Go.Proofs.YtlajhejcfcoddaaGreatDoor.fwd w' b)=true:=by
 unfold jH at hm ⊢
 obtain ⟨p,hp,A⟩:=List.any_eq_true.1 hm
 exact List.any_eq_true.2 ⟨_,h.fwd hb hp ⟨0,I,p,by simp [gk],A⟩,h.may _ A⟩
theorem vY.pass (h:vY w w' n f) {b:Nat} (hb:b<w.n) {s t:Int} (hp:yg w b s t):yg w' b (f s) (t+n):=by
 obtain ⟨p,hp,o,ho,rfl,⟨D,G⟩,hv⟩:=hp
 have hs:=vc h.low b p hp
 have hl:=h.low b
 have A:sU w (b+1) (dF p.1 (fD o.1),max (p.2+bM w b) o.2.Lo):=xD hv D
 have e:lj w b p o=some (dF p.1 (fD o.1),max (p.2+bM w b) o.2.Lo):=gW.2 ⟨I,rfl⟩
 have B:sU w b p:=vo (k:=1) (iD.2 ⟨o,ho,_,e,by simp [gk]⟩) A
 obtain ⟨o',ho',C,E⟩:=h.opt b p o hb hs (B4 hp) ho I A
 have c:=(E t I I).1 I
 refine ⟨JI n p,h.fwd I hp B,o',ho',C,?_,?_⟩
 ·simp only [JI,h.least,h.now]; omega
 ·have F:=h.RG (b:=b+1) (p:=(dF p.1 (fD o.1),t)) (by simp only; omega) ⟨_,gf.2 ⟨p,hp,o,ho,e⟩,D⟩ hv
  rw [C,h.one]; exact F
theorem MZ (h:vY w w' n f) (h':vY w' w (-n) g):jZ w'=jZ w:=by
 unfold jZ
 rw [h.wn]
 unfold kK
 congr 1
 refine List.filter_congr fun b hb=>?_
 have hb:=List.mem_range.1 hb
 rw [Bool.eq_iff_iff]
 exact ⟨h'.any (by rw [h.wn]; omega),h.any I⟩
theorem Ac (h:vY w w' n f) (h':vY w' w (-n) g) {b:Nat} (hb:b<w.n) {t:Int}:(∃ q∈fM w b,q.2.Lo≤t∧t≤q.2.Hi)↔ ∃ q∈fM w' b,q.2.Lo≤t+n∧t+n≤q.2.Hi:=by
 constructor
 ·rintro ⟨q,hq,A,B⟩
  obtain ⟨q',hq',_,C⟩:=(nq h'.low (by rw [h.wn]; exact hb)).2 (h.pass hb ((nq h.low hb).1 ⟨q,hq,rfl,A,B⟩))
  exact ⟨q',hq',C⟩
 ·rintro ⟨q,hq,A,B⟩
  obtain ⟨q',hq',_,C⟩:=(nq h.low hb).2 (h'.pass (by rw [h.wn]; exact hb) ((nq h'.low (by rw [h.wn]; exact hb)).1 ⟨q,hq,rfl,A,B⟩))
  exact ⟨q',hq',I,I⟩
theorem B_ (h:vY w w' n f) (hl': ∀ b,0≤bM w' b) {b:Nat} (hb:b<w.n) {s:Int} (hq: ∃ q∈fM w b,q.1=s): ∃ q∈fM w' b,q.1=f s:=by
 obtain ⟨q,hq,e⟩:=hq
 have A:q.2.Lo≤q.2.Hi:=iR hq
 obtain ⟨q',hq',e',_⟩:=(nq hl' (by rw [h.wn]; exact hb)).2 (h.pass hb ((nq h.low hb).1 ⟨q,hq,e,Int.le_refl _,A⟩))
 exact ⟨q',hq',e'⟩
theorem KL (h:vY w w' n f) (h':vY w' w (-n) g) {b:Nat} (hb:b<w.n):(iS (fM w b)=jk↔iS (fM w' b)=jk)∧(iS (fM w b)≠jk→iS (fM w' b)=⟨(iS (fM w b)).Lo+n,(iS (fM w b)).Hi+n⟩):=by
 have key: ∀ {u v:bT} {m:Int},(∀ t,(∃ q∈fM u b,q.2.Lo≤t∧t≤q.2.Hi)→ ∃ q∈fM v b,q.2.Lo≤t+m∧t+m≤q.2.Hi)→iS (fM u b)≠jk→iS (fM v b)≠jk∧(iS (fM v b)).Lo≤(iS (fM u b)).Lo+m∧(iS (fM u b)).Hi+m≤(iS (fM v b)).Hi:=by
  intro u v m ht hn
  have A:=zi (l:=fM u b) (fun q hq=>iR hq) hn
  obtain ⟨x,hx,ex⟩:=A.lo
  obtain ⟨y,hy,ey⟩:=A.hi
  have C:x.2.Lo≤x.2.Hi:=iR hx
  have D:y.2.Lo≤y.2.Hi:=iR hy
  obtain ⟨x',hx',G,H⟩:=ht x.2.Lo ⟨x,hx,Int.le_refl _,C⟩
  obtain ⟨y',hy',AA,J⟩:=ht y.2.Hi ⟨y,hy,D,Int.le_refl _⟩
  have B:=Bj (l:=fM v b) (fun q hq=>iR hq) hx'
  have K:=B.all x' hx'
  have L:=B.all y' hy'
  exact ⟨B.ne,I,I⟩
 have E:=key (u:=w) (v:=w') (m:=n) fun t=>(Ac h h' hb).1
 have F:=key (u:=w') (v:=w) (m:= -n) fun t hq=>(Ac h h' hb).2 (by rw [show t+ -n+n=t by omega]; exact hq)
 refine ⟨⟨fun e=>Classical.byContradiction fun q=>(F q).1 e,fun e=>Classical.byContradiction fun q=>(E q).1 e⟩,fun q=>?_⟩
 have A:=E q
 have B:=F A.1
 rw [aa.ext_iff]
 simp only
 omega
theorem Ik (h:vY w w' n f) (h':vY w' w (-n) g) {b:Nat} (hb:b<w.n):wE w' b=wE w b:=by
 rw [Bool.eq_iff_iff]
 unfold wE
 simp only [List.any_eq_true,decide_eq_true_eq]
 constructor
 ·rintro ⟨q,hq,A⟩
  obtain ⟨q',hq',e⟩:=B_ h' h.low (by rw [h.wn]; exact hb) ⟨q,hq,rfl⟩
  exact ⟨q',hq',by rw [e]; exact (h'.Vc _).2 A⟩
 ·rintro ⟨q,hq,A⟩
  obtain ⟨q',hq',e⟩:=B_ h h'.low hb ⟨q,hq,rfl⟩
  exact ⟨q',hq',by rw [e]; exact (h.Vc _).2 A⟩
end
section
variable {l l':aY} {r r':cx} {n:Int} {f g:Int→Int}
structure qR (l:aY) (r:cx) (l':aY) (r':cx) (n:Int) (f g:Int→Int):Prop where
 line:c_ l=0
 line':c_ l'=0
 yV:eX l r
 ride':eX l' r'
 Jc:l'.ag.length=l.ag.length
 to:vY (bV l r) (bV l' r') n f
 Wa:vY (bV l' r') (bV l r) (-n) g
theorem qR.Hy (h:qR l r l' r' n f g):jZ (bV l' r')=jZ (bV l r):=MZ h.to h.Wa
theorem qR.e (h:qR l r l' r' n f g) {me:Int}:dU l' r' me=dU l r me:=by
 by_cases hm:me=0
 ·by_cases q:jZ (bV l r)=[]
  ·rw [p7 h.line h.yV hm q,p7 h.line' h.ride' hm (h.Hy.trans q)]
  ·rw [l6 h.line h.yV hm q,l6 h.line' h.ride' hm (by rw [h.Hy]; exact q)]
 ·rw [qX h.line h.yV hm,qX h.line' h.ride' hm]
theorem qR.Bb (h:qR l r l' r' n f g):lK l' r'=lK l r:=by
 by_cases q:dU l r 0=0
 ·rw [l_ q,l_ (h.e.trans q),h.Hy]
 ·rw [uM q,uM (by rw [h.e]; exact q)]
theorem qR.sk (h:qR l r l' r' n f g) {b:Int}:ik l' b=ik l b:=by unfold ik; rw [h.Jc]
theorem qR.bn (h:qR l r l' r' n f g):(bV l r).n=l.ag.length:=dH
theorem qR.BF (h:qR l r l' r' n f g) {b:Nat} (hb:b<l.ag.length):dw l' r' b=dw l r b∧(dw l r b=0→dJ l' r' b=⟨(dJ l r b).Lo+n,(dJ l r b).Hi+n⟩)∧(¬ dw l r b=0→dJ l' r' b=dJ l r b):=by
 have hh:=KL h.to h.Wa (b:=b) (by rw [h.bn]; exact hb)
 by_cases ho:dU l r (ik l b)=0
 ·have ho':dU l' r' (ik l' b)=0:=by rw [h.sk,h.e]; exact ho
  by_cases e:kP l r b=jk
  ·have A:=lp ho e
   have B:=lp ho' (hh.1.1 e)
   exact ⟨B.1.trans A.1.symm,fun q=>by rw [A.1] at q; omega,fun _=>B.2.trans A.2.symm⟩
  ·have A:=iW ho e
   have B:=iW ho' (fun q=>e (hh.1.2 q))
   refine ⟨B.1.trans A.1.symm,fun _=>?_,fun q=>absurd A.1 q⟩
   rw [B.2,A.2]; exact hh.2 e
 ·have A:=jJ ho
  have B:=jJ (l:=l') (r:=r') (b:=(b:Int)) (by rw [h.sk,h.e]; exact ho)
  rw [h.sk,h.e] at B
  exact ⟨B.1.trans A.1.symm,fun q=>absurd (A.1.symm.trans q) ho,fun _=>B.2.trans A.2.symm⟩
theorem qR.e9 (h:qR l r l' r' n f g):wu l' r'=wu l r:=by
 by_cases q:dU l r 0=0
 ·rw [x3 q,x3 (h.e.trans q),h.Bb]
  have hb:=SZ q
  unfold Ay
  congr 1
  refine List.filter_congr fun b A=>?_
  have A:=List.mem_range.1 A
  rw [Ik h.to h.Wa (by rw [h.bn]; omega)]
 ·rw [yB q,yB (by rw [h.e]; exact q)]
end
end
section
theorem B5 {c:ar} (h:eJ c) {rd t:Int} (ht:0≤t∧t≤86400000):((gQ c t).Lo≤rd-t∧rd-t≤(gQ c t).Hi)↔((lX c rd).Lo≤t∧t≤(lX c rd).Hi):=by
 obtain ⟨C,D,E,F⟩:=km h (r:=rd) ht.1 I
 unfold lX
 simp only
 constructor
 ·rintro ⟨a,b⟩
  refine ⟨?_,?_⟩
  ·rcases Int.lt_or_le t (fu (fU c rd) 86400001) with q|q
   ·have:=C q
    unfold fU at this
    have:=of_decide_eq_false this
    omega
   ·exact q
  ·rcases Int.lt_or_le t (fu (fV c rd) 86400001) with q|q
   ·omega
   ·have:=F q
    unfold fV at this
    have:=of_decide_eq_true this
    omega
 ·rintro ⟨a,b⟩
  have A:=D a
  have B:=E I
  unfold fU at A
  unfold fV at B
  have A:=of_decide_eq_true A
  have B:=of_decide_eq_false B
  omega
theorem UD (a b:Int) (ha:0≤a) (hb:0<b):0≤a % b∧a % b<b:=⟨Int.emod_nonneg _ (Int.ne_of_gt hb),Int.emod_lt_of_pos _ hb⟩
theorem nK {l:aY} (ht:de l.aL=true) (h:lJ l) {i:Nat} (hi:i<l.ag.length):1≤ej l i∧ej l i≤500000000:=by
 have A:=h.RM i hi
 have B:=GB ht h.sk i
 have hf:=h.head.1
 unfold ej pI
 refine ⟨(Int.le_ediv_iff_mul_le I).2 I,?_⟩
 have:(1000*mB l i+l.gK-1)/l.gK≤1000*mB l i+l.gK-1:=Int.ediv_le_self _ I
 omega
end
section
def iQ (n:Int) (x:cr):cr:=⟨x.At+n,x.er⟩
def gi (n:Int) (c:ar):ar:=⟨c.dv,c.aX.map (iQ n)⟩
def iv (n:Int) (l:aY):aY:=⟨l.aL,l.gK,l.ai.map (gi n),l.ag,l.bS,l.eg,l.cM⟩
def gD (n:Int) (s:aH):aH:=⟨s.fR,s.Read+n⟩
def g9 (n:Int) (r:cx):cx:=⟨r.Start+n,r.fE+n,r.ah.map (gD n)⟩
section
variable {n t rd:Int} {c:ar} {l:aY} {r:cx} {s:aH}
theorem DI:gQ (gi n c) (t+n)=gQ c t:=by
 unfold gQ gi
 simp only
 rw [List.foldl_map]
 congr 1
 funext s x
 unfold ly sj iQ
 simp only
 rw [show t+n-(x.At+n)=t-x.At by omega,show x.At+n-(t+n)=x.At-t by omega]
theorem E6 (h:eJ c) (h':eJ (gi n c)) (ht:0≤t∧t≤86400000) (ht':0≤t+n∧t+n≤86400000):
 ((lX c rd).Lo≤t∧t≤(lX c rd).Hi)↔((lX (gi n c) (rd+n)).Lo≤t+n∧t+n≤(lX (gi n c) (rd+n)).Hi):=by
 rw [← B5 h ht,← B5 h' ht',DI,show rd+n-(t+n)=rd-t by omega]
theorem vL:lQ (iv n l) (gD n s)=gi n (lQ l s):=by
 unfold lQ iv gD
 simp only
 cases l.ag[s.fR.toNat]? with
 |none=>rfl
 |some b=>
  simp only [Option.bind_some,eT]
  cases l.ai[b.jC.toNat]? with
  |none=>rfl
  |some c=>rfl
theorem w7 (hl:c_ l=0) (hs:lz l s):eJ (lQ l s):=by
 obtain ⟨_,A⟩:=fy hl
 have B:=hs.1
 have hy:l.ag[s.fR.toNat]? =some (l.ag[s.fR.toNat]'I):=eN _
 have hb:=(A.sk _ (aS hy)).2
 have hc:l.ai[(l.ag[s.fR.toNat]'I).jC.toNat]? =some (l.ai[(l.ag[s.fR.toNat]'I).jC.toNat]'I):=eN _
 rw [sQ hy hc]
 exact A.clock _ (aS hc)
theorem zp (hl:c_ l=0) (hl':c_ (iv n l)=0) (hr:eX l r) (hr':eX (iv n l) (g9 n r)):vY (bV l r) (bV (iv n l) (g9 n r)) n id:=by
 obtain ⟨ht,F⟩:=fy hl
 have hw:=mT ht F hr
 have M:(bV l r).n=l.ag.length:=dH
 have N:=hr.time
 have AA:=hr'.time
 refine ⟨U,U,?_,fun b=>(hw.bM b).1,fun b=>?_,fun t C=>?_,fun s=>Iff.rfl,?_⟩
 ·show (cJ _ _).length=(cJ _ _).length
  rw [dH,dH]; rfl
 ·rw [rJ,rJ]; rfl
 ·unfold kI at C ⊢
  have e:(bV (iv n l) (g9 n r)).M7=(bV l r).M7:=by
   show ((r.ah.map (gD n)).length:Int)=(r.ah.length:Int)
   rw [List.length_map]
  rw [e]; exact C
 ·intro b p o hb hs L ho B hv
  have hb':b<l.ag.length:=by omega
  have K:=(hw.bM b).1
  have O:(bV l r).Start=r.Start:=rfl
  have P:(bV l r).fE=r.fE:=rfl
  rcases (nZ hb').1 ho with rfl|⟨k,hk,s,A,⟨D,J⟩,rfl⟩
  ·refine ⟨(-1,⟨(g9 n r).Start,(g9 n r).fE⟩),(nZ (l:=iv n l) (r:=g9 n r) hb').2 (.inl U),U,fun t _ _=>?_⟩
   simp only [g9]; omega
  ·have E:=(hr.sig k s A).1
   have hks':(g9 n r).ah[k]? =some (gD n s):=by
    show (r.ah.map (gD n))[k]? =_
    rw [eT,A]; rfl
   have hin':=(hr'.sig k _ hks').1
   have hc:=w7 hl E
   have hc':=w7 hl' hin'
   rw [vL] at hc'
   have key: ∀ t,r.Start≤t→t≤r.fE→(((cD l s).Lo≤t∧t≤(cD l s).Hi)↔((cD (iv n l) (gD n s)).Lo≤t+n∧t+n≤(cD (iv n l) (gD n s)).Hi)):=fun t G H=>by
    unfold cD
    rw [vL]
    simp only [g9] at AA
    exact E6 hc hc' I I
   have Q:=(key (max (p.2+bM (bV l r) b) (cD l s).Lo) I (by simp only at B; omega)).1 (by simp only at B; omega)
   refine ⟨((k:Int),cD (iv n l) (gD n s)),(nZ (l:=iv n l) (r:=g9 n r) hb').2 (.inr ⟨k,by show k<(r.ah.map (gD n)).length; rw [List.length_map]; exact hk,gD n s,hks',⟨D,I⟩,U⟩),U,fun t G H=>key t G H⟩
theorem tf:iv (-n) (iv n l)=l:=by
 unfold iv
 simp only [List.map_map]
 have:l.ai.map (gi (-n)∘gi n)=l.ai:=by
  conv=>rhs; rw [← List.map_id l.ai]
  refine List.map_congr_left fun c _=>?_
  unfold gi
  simp only [Function.comp,List.map_map,id]
  have A:c.aX.map (iQ (-n)∘iQ n)=c.aX:=by
   conv=>rhs; rw [← List.map_id c.aX]
   refine List.map_congr_left fun x _=>?_
   unfold iQ
   simp only [Function.comp,id]
   rw [show x.At+n+ -n=x.At by omega]
  exact congrArg (ar.mk c.dv) A
 rw [this]
theorem vO:g9 (-n) (g9 n r)=r:=by
 unfold g9
 simp only [List.map_map]
 have:r.ah.map (gD (-n)∘gD n)=r.ah:=by
  conv=>rhs; rw [← List.map_id r.ah]
  refine List.map_congr_left fun x _=>?_
  unfold gD
  simp only [Function.comp,id]
  rw [show x.Read+n+ -n=x.Read by omega]
 rw [this,show r.Start+n+ -n=r.Start by omega,show r.fE+n+ -n=r.fE by omega]
theorem HK (hl:c_ l=0) (hl':c_ (iv n l)=0) (hr:eX l r) (hr':eX (iv n l) (g9 n r)):qR l r (iv n l) (g9 n r) n id id:=by
 refine ⟨hl,hl',hr,hr',U,zp hl hl' hr hr',?_⟩
 have h:=zp (n:= -n) hl' (by rw [tf]; exact hl) hr' (by rw [tf,vO]; exact hr)
 rw [tf,vO] at h
 exact h
end
def fO {α:Type} (f:α→α) (k:Nat) (l:List α):List α:=(l.take k).map f++l.drop k
section
variable {α:Type} {f:α→α} {k:Nat} {l:List α} {x:α}
@[simp] theorem nQ:(fO f k l).length=l.length:=by unfold fO; rw [List.length_append,List.length_map,List.length_take,List.length_drop]; omega
theorem oL:(fO f k l)[k]? =l[k]? :=by
 unfold fO
 rcases Nat.lt_or_ge k l.length with c|c
 ·rw [List.getElem?_append_right (by rw [List.length_map,List.length_take]; omega),List.length_map,List.length_take,List.getElem?_drop]
  congr 1
  omega
 ·rw [List.getElem?_eq_none c,List.getElem?_eq_none]
  rw [List.length_append,List.length_map,List.length_take,List.length_drop]; omega
theorem q6 (h:l[k]? =some x):(fO f k l).set k (f x)=fO f (k+1) l:=by
 have hk:=(aV.1 h).1
 unfold fO
 rw [List.set_append_right _ _ (by rw [List.length_map,List.length_take]; omega),List.length_map,List.length_take,show k-min k l.length=0 by omega]
 rw [List.take_add_one,h,List.map_append,List.append_assoc]
 congr 1
 have e:l.drop k=x::l.drop (k+1):=by
  rw [List.drop_eq_getElem_cons hk]
  congr 1
  have:=eN hk
  rw [h] at this
  exact (Option.some.inj this).symm
 rw [e]; rfl
theorem nH:fO f 0 l=l:=by simp [fO]
theorem qZ (h:l.length≤k):fO f k l=l.map f:=by unfold fO; rw [List.take_of_length_le h,List.drop_eq_nil_of_le h,List.append_nil]
end
section
variable {n:Int} {l:aY} {bz:List RA}
theorem Iv {ms:List ar}:List.zipWith ar.cells (ms.map (gi n)) bz=List.zipWith ar.cells ms bz:=by
 rw [List.zipWith_map_left]
 congr 1
 funext m a
 unfold ar.cells gi
 simp only [List.length_map]
theorem Ht (h:eA l bz):qj (iv n l) bz:=by
 have A:qj l bz:=⟨by have:=h.si; omega,h.side,by have:=h.rr; omega,h.nD,by have:=h.su; omega,fun k m a hm ha=>by have:=h.Px k m a hm ha; omega⟩
 refine ⟨A.si,A.side,?_,?_,A.su,fun k m a hm ha=>?_⟩
 ·show (l.ai.map (gi n)).length≤_
  rw [List.length_map]; exact A.rr
 ·show bz.length=(l.ai.map (gi n)).length
  rw [List.length_map]; exact A.nD
 ·change (l.ai.map (gi n))[k]? =some m at hm
  rw [eT] at hm
  obtain ⟨c,hc,rfl⟩:=Option.map_eq_some_iff.1 hm
  have:=A.Px k c a hc ha
  show (c.aX.map (iQ n)).length≤_∧(c.aX.map (iQ n)).length≤_
  rw [List.length_map]; exact this
end
section
variable {l l':aY} {r r':cx} {n:Int} {f g:Int→Int}
theorem qR.Wf (h:qR l r l' r' n f g) (hf:l'.bS=l.bS) (hs:r'.Start=r.Start+n):dw l' r' l'.bS=dw l r l.bS∧t_ l' r'=t_ l r:=by
 obtain ⟨_,A⟩:=fy h.line
 have hh:=A.head.2.2.2.1
 obtain ⟨k,hk⟩: ∃ k:Nat,l.bS=(k:Int):=⟨l.bS.toNat,I⟩
 have hp:=h.BF (b:=k) I
 rw [hf,hk]
 refine ⟨hp.1,?_⟩
 unfold t_
 rw [hf,hk,hp.1]
 by_cases q:dw l r (k:Int)=0
 ·rw [if_pos q,if_pos q,hp.2.1 q,hs,aa.ext_iff]
  simp only
  omega
 ·rw [if_neg q,if_neg q]
end
end
section
def xu (s t:aa):Prop:=s.Lo≤t.Lo∧t.Lo≤t.Hi∧t.Hi≤s.Hi
/-- sums of the same sleds, each within the old one -/
structure Ha (m m':g8):Prop where
 ok:pZ m
 ok':pZ m'
 keys:m'.map (·.1)=m.map (·.1)
 Wl: ∀ (k:Int) s s',m.lookup k=some s→m'.lookup k=some s'→xu s s'
section
variable {m m':g8} {i k n:Int} {s t own:aa}
theorem xz {m:g8} (h:k∈m.map (·.1)): ∃ s,m.lookup k=some s:=by
 obtain ⟨p,hp,rfl⟩:=bZ.1 h
 cases e:m.lookup p.1 with
 |some s=>exact ⟨s,rfl⟩
 |none=>exact absurd rfl ((i_.1 e) p hp)
theorem vk {m:g8} (h:m.lookup k=some s):aD m k=s:=by unfold aD; rw [h]; rfl
theorem CU (h:pZ m):kG m i n=(m.map (·.1)).countP fun k=>decide ((aD m k).Lo<n)&& !decide (k=i):=by
 rw [pS,List.countP_map]
 apply List.countP_congr
 intro p hp
 have:aD m p.1=p.2:=vk (AW h.nd hp)
 simp only [Function.comp,this]
theorem Ha.look (h:Ha m m') (hs:m.lookup k=some s): ∃ s',m'.lookup k=some s'∧xu s s':=by
 obtain ⟨s',e⟩:=xz (m:=m') (k:=k) (by rw [h.keys]; exact bZ.2 ⟨_,wG hs,rfl⟩)
 exact ⟨s',e,h.Wl k s s' hs e⟩
theorem Ha.back (h:Ha m m') (hs:m'.lookup k=some t): ∃ s,m.lookup k=some s∧xu s t:=by
 obtain ⟨s,e⟩:=xz (m:=m) (k:=k) (by rw [← h.keys]; exact bZ.2 ⟨_,wG hs,rfl⟩)
 exact ⟨s,e,h.Wl k s t e hs⟩
theorem Ha.may (h:Ha m m'):kG m' i n≤kG m i n:=by
 rw [CU h.ok,CU h.ok',h.keys]
 refine List.countP_mono_left fun k hk q=>?_
 obtain ⟨s,hs⟩:=xz hk
 obtain ⟨s',hs',hw⟩:=h.look hs
 rw [vk hs'] at q
 rw [vk hs]
 unfold xu at hw
 simp only [cU,decide_eq_true_eq] at q ⊢
 exact ⟨I,q.2⟩
end
def VU (l l':aY) (d d':au):Prop:=d.Out=d'.Out∧(d.Out=false→xu (dq l d) (dq l' d'))
structure U5 (l l':aY) (H H':List (List au)) (q:Nat):Prop where
 len: ∀ k:Nat,((H'[k]?).bind (·[q]?)).isSome=((H[k]?).bind (·[q]?)).isSome
 Wy: ∀ (k:Nat) d d',(H[k]?).bind (·[q]?)=some d→(H'[k]?).bind (·[q]?)=some d'→VU l l' d d'∧0≤(dq l d).Lo
end
section
/-- a ride that passed the finish was under way for some time -/
theorem L6 {l:aY} {r:cx} (h:dw l r l.bS=0):r.Start+1≤r.fE:=by
 have ho:dU l r (ik l l.bS)=0:=by
  by_cases e:dU l r (ik l l.bS)=0
  ·exact e
  ·rw [(jJ e).1] at h; exact absurd h e
 obtain ⟨E,H,B,J⟩:=jM ho
 obtain ⟨ht,A⟩:=fy E
 have hw:=mT ht A H
 have hl: ∀ b,0≤bM (bV l r) b:=fun b=>by
  unfold bM
  cases e:(bV l r).pq[b]? with
  |none=>simp
  |some x=>have:=hw.least x (aS e); simp; omega
 have hb:0≤l.bS∧l.bS≤(l.ag.length:Int)-1:=by
  unfold ik at B
  split at B
  ·assumption
  ·cases B
 have hn:(bV l r).n=l.ag.length:=dH
 have D:fM (bV l r) l.bS.toNat≠[]:=fun e=>by
  unfold dw at h
  rw [if_pos ho,if_pos (show kP l r l.bS.toNat=jk by unfold kP; rw [e]; rfl)] at h
  cases h
 obtain ⟨q,hq⟩:=List.exists_mem_of_ne_nil _ D
 have C:q.2.Lo≤q.2.Hi:=iR hq
 obtain ⟨p,hp,o,AA,_,⟨K,L⟩,_⟩:=(nq hl (w:=bV l r) (b:=l.bS.toNat) I (s:=q.1) (t:=q.2.Lo)).1 ⟨q,hq,rfl,Int.le_refl _,C⟩
 have M:(bV l r).Start≤p.2:=vc hl _ p hp
 have N:bM (bV l r) l.bS.toNat=ej l l.bS.toNat:=by
  unfold bM
  show ((cJ l l.ag.length)[l.bS.toNat]?).getD 0=_
  unfold cJ
  rw [eT,List.getElem?_range I]; rfl
 have O:=(Da ht A (i:=l.bS.toNat) I).1
 have F:(bV l r).Start=r.Start:=rfl
 have G:(bV l r).fE=r.fE:=rfl
 omega
def vv (n:Int) (r:cx):cx:=if iF r then r else g9 n r
def eW (n:Int) (d:au):au:=⟨d.Out,d.ed,d.Time,vv n d.bX⟩
def bK (n:Int) (r:cj):cj:=⟨iv n r.an,r.aM,r.bL,r.im,r.ao.map fun x=>x.map (eW n)⟩
section
variable {n:Int} {l:aY} {r:cj} {d:au} {h i:Int} {k q:Nat}
theorem Ku (hl:c_ l=0) (hl':c_ (iv n l)=0) (h:hE l d) (h':hE (iv n l) (eW n d)):dq (iv n l) (eW n d)=dq l d:=by
 cases eo:d.Out with
 |true=>rw [wK eo,wK (show (eW n d).Out=true from eo)]; rfl
 |false=>
  cases ef:d.ed with
  |true=>rw [uc ⟨eo,ef⟩,uc (show (eW n d).Out=false∧(eW n d).ed=true from ⟨eo,ef⟩)]; rfl
  |false=>
   rw [rE ⟨eo,ef⟩,rE (show (eW n d).Out=false∧(eW n d).ed=false from ⟨eo,ef⟩)]
   rw [oq ⟨eo,ef⟩] at h
   rw [oq (show (eW n d).Out=false∧(eW n d).ed=false from ⟨eo,ef⟩)] at h'
   have hb: ¬ iF d.bX:=fun q=>by
    have:=L6 h.1
    unfold iF at q; omega
   have e:(eW n d).bX=g9 n d.bX:=if_neg hb
   rw [e] at h' ⊢
   exact ((HK hl hl' (mJ h.1) (mJ h'.1)).Wf U U).2
theorem rH:(((bK n r).ao[k]?).bind (·[q]?))=((r.ao[k]?).bind (·[q]?)).map (eW n):=by
 show (((r.ao.map fun x=>x.map (eW n))[k]?).bind (·[q]?))=_
 rw [eT]
 cases r.ao[k]? with
 |none=>rfl
 |some x=>simp
theorem Bu (he:cG r=0) (hd:(r.ao[k]?).bind (·[q]?)=some d):hE r.an d:=by
 cases e:r.ao[k]? with
 |none=>rw [e] at hd; cases hd
 |some x=>
  rw [e] at hd
  exact ((gX he).2.nu x (aS e)).2 d (aS hd)
theorem Gm (he:cG r=0) (he':cG (bK n r)=0) (hd:(r.ao[k]?).bind (·[q]?)=some d):dq (iv n r.an) (eW n d)=dq r.an d:=
 Ku (gX he).1 (gX he').1 (Bu he hd) (Bu he' (by rw [rH,hd]; rfl))
theorem yp (he:cG r=0) (he':cG (bK n r)=0): ∀ k,gv (bK n r).an (bK n r).ao q k=gv r.an r.ao q k
 |0=>rfl
 |k+1=>by
  unfold gv
  rw [yp he he' k,rH]
  cases e:(r.ao[k]?).bind (·[q]?) with
  |none=>rw [Option.map_none]; cases gv r.an r.ao q k<;>rfl
  |some d=>
   cases gv r.an r.ao q k with
   |none=>rfl
   |some s=>
    simp only [Option.map_some]
    rw [show dq (bK n r).an (eW n d)=dq r.an d from Gm he he' e]
    rfl
theorem zx (he:cG r=0) (he':cG (bK n r)=0) (k:Nat):eL (bK n r) k=eL r k:=by
 unfold eL
 apply my
 intro q _
 rw [yp he he']
theorem tn (he:cG r=0) (he':cG (bK n r)=0):aG (bK n r)=aG r:=by
 unfold aG
 rw [zx he he',show (bK n r).ao.length=r.ao.length from List.length_map _]
theorem Ae (he:cG r=0) (he':cG (bK n r)=0):kE (bK n r) h i=kE r h i∧gY (bK n r) h i=gY r h i:=by
 have e:kE (bK n r) h i=kE r h i:=by
  unfold kE
  rw [if_pos he,if_pos he',rH,show (bK n r).ao.length=r.ao.length from List.length_map _]
  have: ∀ o:Option au,(o.map (eW n)).any (·.Out)=o.any (·.Out):=fun o=>by cases o<;>rfl
  rw [this]
  by_cases c:(0≤h∧h≤(r.ao.length:Int)-1)∧ux r i
  ·rw [if_pos c,if_pos (show (0≤h∧h≤(r.ao.length:Int)-1)∧ux (bK n r) i from c)]
  ·rw [if_neg c,if_neg (show ¬ ((0≤h∧h≤(r.ao.length:Int)-1)∧ux (bK n r) i) from c)]
 refine ⟨e,?_⟩
 unfold gY
 rw [e,rH]
 by_cases c:kE r h i=0
 ·rw [if_pos c,if_pos c]
  cases e2:(r.ao[h.toNat]?).bind (·[i.toNat]?) with
  |none=>simp only [Option.map_none]
  |some d=>
   simp only [Option.map_some,Option.getD_some]
   have A:=Gm he he' e2
   have B:(bK n r).an=iv n r.an:=rfl
   rw [B]; exact A
 ·rw [if_neg c,if_neg c]
theorem yo (he:cG r=0) (he':cG (bK n r)=0):kM (bK n r) i=kM r i∧gS (bK n r) i=gS r i:=by
 have e:kM (bK n r) i=kM r i:=by
  unfold kM
  rw [if_pos he,if_pos he',tn he he']; rfl
 refine ⟨e,?_⟩
 unfold gS
 rw [e,tn he he']
theorem EW (he:cG r=0) (he':cG (bK n r)=0):dy (bK n r)=dy r:=by
 unfold dy
 rw [if_pos he,if_pos he',tn he he']
theorem qh (he:cG r=0) (he':cG (bK n r)=0):hO (bK n r) h=hO r h∧gj (bK n r) h=gj r h:=by
 have e:hO (bK n r) h=hO r h:=by
  unfold hO
  rw [if_pos he,if_pos he',show (bK n r).ao.length=r.ao.length from List.length_map _]
 refine ⟨e,?_⟩
 unfold gj
 rw [e]
 unfold tp
 rw [zx he he']; rfl
end
end
section
open Go.RowKit
theorem FH {n:Int} {r:cx}:(vv n r).ah.length=r.ah.length:=by
 unfold vv; split
 ·rfl
 ·exact List.length_map _
theorem M8 {r:cj} {n:Int} {bz:List RA} {hz kz:List cb} (h:fw r bz hz) (hh:pJ (bK n r).ao kz):oJ (bK n r) bz kz:=⟨Ht h.line,Nat.le_trans h.iY dc,Nat.le_trans h.draw dc,by show (r.ao.map _).length≤_; rw [List.length_map]; exact Nat.le_trans h.iU dc,hh.1,fun k x a hx ha=>by
 have hs:=hh.2 k x a hx ha
 have hx:(r.ao.map fun x=>x.map (eW n))[k]? =some x:=hx
 rw [eT] at hx
 cases e:r.ao[k]? with
 |none=>rw [e] at hx; cases hx
 |some y=>
  rw [e] at hx
  simp only [Option.map_some,Option.some.injEq] at hx
  subst hx
  obtain ⟨A,D⟩: ∃ A,hz[k]? =some A:=⟨hz[k]'(by rw [h.has]; exact (aV.1 e).1),eN _⟩
  have q:=h.nu k y A e D
  refine ⟨by rw [List.length_map]; exact Nat.le_trans q.len dc,hs,fun d hd=>?_⟩
  obtain ⟨C,B,rfl⟩:=bZ.1 hd
  show (vv n C.bX).ah.length≤_
  rw [FH]
  exact Nat.le_trans (q.sig C B) dc⟩
theorem Jd {H:List (List au)} {n:Int} {hz:List cb} (h1:hz.length=H.length) (h2: ∀ (k:Nat) x (a:cb),H[k]? =some x→hz[k]? =some a→a.2.length=x.length):pJ (H.map fun x=>x.map (eW n)) hz:=⟨by rw [List.length_map,h1],fun k x a hx ha=>by
 rw [eT] at hx
 cases e:H[k]? with
 |none=>rw [e] at hx; cases hx
 |some y=>
  rw [e] at hx
  simp only [Option.map_some,Option.some.injEq] at hx
  subst hx
  rw [List.length_map]
  exact h2 k y a e ha⟩
/-- a thing in place of another one, with its row -/
theorem N5 {S:BS} {w0 w:World} {C:List aw} {h:List au} {bs:List RA} {i:Nat} {d d':au} {b b':RA} (hd:h[i]? =some d) (hb:bs[i]? =some b) (hs:St S w0 (own b'.1 b'.2 zz 2 (d'.bX.ah.map aH.cells)::br (aR jO h bs)::C) w):St S w0 (br (aR jO (h.set i d') (bs.set i b'))::C) w:=by
 have hs:=hs.perm (List.Perm.swap _ _ _)
 have A:=(jT (jU hd hb) hs).iw
 have B:St S w0 (ff jO h bs i++(own b'.1 b'.2 zz 2 (d'.bX.ah.map aH.cells)::C)) w:=St.take (by simpa using A) (List.sublist_append_right (jO d b) _)
 have D:St S w0 ((own b'.1 b'.2 zz 2 (d'.bX.ah.map aH.cells)::ff jO h bs i)++C) w:=B.perm List.perm_middle
 have E:St S w0 ((jO d' b'++ff jO (h.set i d') (bs.set i b') i)++C) w:=by
  rw [pO]; exact D
 exact jT (jU (List.getElem?_set_self (aV.1 hd).1) (List.getElem?_set_self (aV.1 hb).1)).symm E.tied
section
variable {E:fr} {ops:Array Oper} {Q:db} {rest:List Oper} {D:List Deferred} {L:List (Nat×Value)} {C C1:List aw} {K:Act→World→Prop}
variable {h:List au} {bs:List RA} {k:Nat} {d d':au} {b b':RA}
end
end
section
open Go.RowKit
section
variable {α β γ:Type} {f:α→α} {l:List α} {x y:α} {bz az:List β} {a b:β} {c:α→β→γ} {i:Nat}
theorem Ho (h:l[i]? =some x) (hf:f x=x):fO f (i+1) l=fO f i l:=by
 rw [← q6 h,hf]
 have A:(fO f i l)[i]? =some x:=oL.trans h
 obtain ⟨hi,rfl⟩:=aV.1 A
 exact List.set_getElem_self hi
theorem ID (hb:bz.length=i) (h:az[i]? =some a):f_ (bz++[a]) az (i+1)=f_ bz az i:=by
 rw [← uo hb h]
 have A:=mF hb h
 obtain ⟨hi,rfl⟩:=aV.1 A
 exact List.set_getElem_self hi
theorem Cw (h:l[i]? =some x) (hf:f x=y):(fO f i l).set i y=fO f (i+1) l:=by rw [← hf]; exact q6 h
theorem zV (hx:l[i]? =some x) (hf:f x=y) (hb:bz.length=i) (h:az[i]? =some a):(List.zipWith c (fO f i l) (f_ bz az i)).set i (c y b)=List.zipWith c (fO f (i+1) l) (f_ (bz++[b]) az (i+1)):=by
 rw [pj,Cw hx hf,uo hb h]
theorem yL {g:α→β→List aw} (hx:l[i]? =some x) (hf:f x=y) (hb:bz.length=i) (h:az[i]? =some a):aR g ((fO f i l).set i y) ((f_ bz az i).set i b)=aR g (fO f (i+1) l) (f_ (bz++[b]) az (i+1)):=by
 rw [Cw hx hf,uo hb h]
theorem Df {g:α→β→List aw} (hx:l[i]? =some x) (hf:f x=x) (hb:bz.length=i) (h:az[i]? =some a):aR g (fO f (i+1) l) (f_ (bz++[a]) az (i+1))=aR g (fO f i l) (f_ bz az i):=by
 rw [Ho hx hf,ID hb h]
end
section
variable {n:Int} {r:cj} {d:au} {H:List (List au)} {ht:List au} {k i:Nat} {kz hz:List cb}
theorem vG (h:iF d.bX):eW n d=d:=by
 unfold eW vv; rw [if_pos h]
theorem vy (h: ¬ iF d.bX):eW n d=⟨d.Out,d.ed,d.Time,g9 n d.bX⟩:=by
 unfold eW vv; rw [if_neg h]
/-- of a valid race: what stands in a ride that is none is small -/
theorem ES (he:cG r=0) (hh:r.ao[k]? =some ht) (hd:ht[i]? =some d) (hb: ¬ iF d.bX):(0≤d.bX.Start∧d.bX.Start≤86400000)∧(0≤d.bX.fE∧d.bX.fE≤86400000)∧ ∀ z∈d.bX.ah,0≤z.Read∧z.Read≤86400000:=by
 have ht:=Bu he (k:=k) (q:=i) (by rw [hh]; exact hd)
 cases eo:d.Out with
 |true=>exact absurd (((px eo).mp ht).2.2) hb
 |false=>
  cases ef:d.ed with
  |true=>exact absurd (((qO ⟨eo,ef⟩).mp ht).2) hb
  |false=>
   have hp:=((oq ⟨eo,ef⟩).mp ht).1
   have hr:=mJ hp
   have A:=hr.time
   refine ⟨I,I,fun z hz=>?_⟩
   obtain ⟨q,hq⟩:=List.mem_iff_getElem?.1 hz
   exact (hr.sig q z hq).1.2
/-- the row of heats reads as before -/
theorem HC (hk:kz.map (·.1)=hz.map (·.1)):List.zipWith cw H hz=List.zipWith cw (H.map fun x=>x.map (eW n)) kz:=by
 rw [yb hk.symm]
 clear hk
 induction H generalizing kz with
 |nil=>rfl
 |cons x H ih=>
  cases kz with
  |nil=>rfl
  |cons a kz=>
   rw [List.map_cons,List.zipWith_cons_cons,List.zipWith_cons_cons,ih]
   have e:cw x a=cw (x.map (eW n)) a:=by simp only [cw,List.length_map]
   rw [e]
theorem MY {a b:cb} (hk:kz.map (·.1)=(hz.take i).map (·.1)) (ha:hz[i]? =some a) (hb:b.1=a.1):(kz++[b]).map (·.1)=(hz.take (i+1)).map (·.1):=by
 rw [List.map_append,hk,List.take_add_one,ha,List.map_append]
 simp [hb]
end
section
variable {E:fr} {D:List Deferred} {L:List (Nat×Value)} {C C1:List aw} {K:Act→World→Prop}
variable {h h':List au} {bs:List RA} {k:Nat} {d d':au} {b b':RA} {H:List (List au)} {hz:List cb} {a':cb} {Z:List aw}
theorem Ra (i j:Nat) (hd:h[k]? =some d) (hb:bs[k]? =some b) (hn:decide (zc C i j).Nodup=true) (hC:lP C (zc C i j)=some (own b'.1 b'.2 zz 2 (d'.bX.ah.map aH.cells)::br (aR jO h bs)::C1)) (e:aR jO (h.set k d') (bs.set k b')=Z)
 (hr:KJ E K D L (br Z::C1)):KJ E K D L C:=fun a w hf hs=>by
 subst e; exact hr a w hf (N5 hd hb (St.kD _ hn (jl hC) hs))
theorem OJ (i j q:Nat) (hk:k<H.length) (hk2:k<hz.length) (hn:decide (HE C i j q).Nodup=true) (hC:lP C (HE C i j q)=some (own a'.1.1 a'.1.2 zS 7 (List.zipWith au.cells h' a'.2)::br (aR jO h' a'.2)::br (ff gZ H hz k)::C1)) (e:aR gZ (H.set k h') (hz.set k a')=Z)
 (hr:KJ E K D L (br Z::C1)):KJ E K D L C:=fun act w hf hs=>by
 subst e; exact hr act w hf (Cj hk hk2 (St.kD _ hn (jl hC) hs))
end
end
section
open Go.RowKit
section
variable {K:Type} [DecidableEq K] {kV:K→Value}
variable {E:fr} {ops:Array Oper} {Q:db} {rest:List Oper} {D:List Deferred} {L:List (Nat×Value)} {C:List aw}
variable {ty:TypeId} {ps:String} {af:Array Edge} {g:Option (Nat×Bool)}
theorem qf {t kt et:TypeId} {xm xk:Operand} {ts:Array TypeId} {b:Nat} {x:K} {m m':List (K×Value)} {C':List aw} (i:Nat) (hg:jS ops L g=true) (hm:ev L xm=some (.map (some b))) (hk:ev L xk=some (kV x)) (hts:ts[0]? =some t)
 (ht:E.P.underlying t=some (.map kt et)) (hkt:vh E.P kt kV) (hC:C[i]? =some (iP kV b m)) (hm':cH m x=m') (hC':C.set i (iP kV b m')=C') (k:RJ E ops Q rest D L C'):
 RJ E ops Q (⟨none,.call {callee:= .builtin .delete,args:= #[xm,xk],argTypes:=ts},ty,ps,af,g⟩::rest) D L C:=by
 subst hm' hC'
 intro a w A hs
 unfold sB
 rw [if_pos (ek A hg)]
 obtain ⟨es,c,he,hi⟩:=hs.holds _ (aS hC)
 have B:(getObj b).run E.P w= .ok (.map es c) w:=MapKept.run_getObj_map he
 rcases pg (P:=E.P) (w:=w) (x:=x) hkt hi with ⟨F,G⟩|⟨j,AA,F,G,H⟩
 ·refine g7 (v:= .tuple #[]) (w':={w with heap:=w.heap.setIfInBounds b (.map es c)}) sm ?_ ?_
  ·simp [execOp,resolve,invoke,builtin,A.ev hm,A.ev hk,Builtin.delete_,hts,run_underlying ht,B,jg hkt,F,MapKept.run_setObj_map _ he]
  ·refine k _ _ ⟨A.defers,A.size,A.at_⟩ (hs.D9 (b:=b) i hC U U (nA _) (fun _ h=>h) ⟨_,_,pH he,?_⟩)
   rw [El G]; exact hi
 ·refine g7 (v:= .tuple #[]) (w':={w with heap:=w.heap.setIfInBounds b (.map (es.eraseIdxIfInBounds j) c)}) sm ?_ ?_
  ·simp [execOp,resolve,invoke,builtin,A.ev hm,A.ev hk,Builtin.delete_,hts,run_underlying ht,B,jg hkt,F,MapKept.run_setObj_map _ he]
  ·exact k _ _ ⟨A.defers,A.size,A.at_⟩ (hs.D9 (b:=b) i hC U U (nA _) (fun _ h=>h) ⟨_,_,pH he,hi.del G⟩)
end
end
section
open Go.RowKit
section
variable {r:cj} {h i:Int} {t:aa} {k:Nat}
end
/-- there is a table -/
theorem Bm {r:cj} (he:cG r=0): ∃ G,iJ (aD (aG r)) ((aG r).map (·.1)) G∧Cu G:=by
 have key: ∀ (L:List Int),Ec (fun u=>(aD (aG r) u).Lo) L→ ∀ i,i≤L.length→ ∃ G last,mQ (aD (aG r)) (L.take i) G last:=fun L B i=>by
  induction i with
  |zero=>intro _; exact ⟨[],-1,Gz⟩
  |succ i ih=>
   intro hi
   obtain ⟨G,last,hG⟩:=ih I
   have hx:L[i]? =some (L[i]'I):=eN _
   have C:=g_ (i:=L[i]'I) (oZ he)
   by_cases hl:last<(aD (aG r) (L[i]'I)).Lo
   ·obtain ⟨g,hg⟩: ∃ g,(G++[[]])[(G++[([]:List Int)]).length-1]? =some g:=⟨_,eN sm⟩
    exact ⟨_,_,pV I hx hg hG hl⟩
   ·have hp:=F3 C.1 hG hl
    obtain ⟨g,hg⟩: ∃ g,G[G.length-1]? =some g:=⟨_,eN I⟩
    exact ⟨_,_,o0 I (fun u _=>(g_ (i:=u) (oZ he)).2.1) B hx hg hG hl⟩
 obtain ⟨G,last,hG⟩:=key (eM (fun u=>(aD (aG r) u).Lo) ((aG r).map (·.1))) uN _ (Nat.le_refl _)
 have A:=vR hG.ok
 rw [List.take_length] at A
 exact ⟨_,qI A.1 qG,A.2⟩
theorem oO {r:cj}:(dy r).length≤1000000∧ ∀ l∈dy r,l.length≤1000000:=by
 by_cases he:cG r=0
 ·have E:(aG r).length≤5:=pD he
  have A: ∃ G,iJ (aD (aG r)) ((aG r).map (·.1)) G∧Cu G:=by
   refine Classical.byContradiction fun hn=>?_
   exact hn (Bm he)
  obtain ⟨G,hG,hA⟩:=A
  rw [← uE he hG hA]
  have C:=hG.perm.length_eq
  rw [List.length_map] at C
  have B: ∀ G:List (List Int),(∀ g∈G,g≠[])→G.length≤G.flatten.length:=fun G=>by
   induction G with
   |nil=>intro _; simp
   |cons g G ih=>
    intro hG
    have B:=ih fun y hy=>hG y (cY _ hy)
    have D:=List.length_pos_iff.2 (hG g cv)
    simp only [List.flatten_cons,List.length_cons,List.length_append]; omega
  refine ⟨by have:=B G hG.some_; omega,fun l hl=>?_⟩
  have D:l.length≤G.flatten.length:=(List.sublist_flatten_of_mem hl).length_le
  omega
 ·rw [DS he]; simp
theorem Ds {r:cj} {h i:Int} {t:aa}:(fg r h i t).length≤r.aM.length:=by
 unfold fg
 split
 ·refine Nat.le_trans (List.length_filter_le _ _) ?_
  rw [gL,List.length_map]
  exact vn
 ·simp
end
section
open Go.RowKit
section
variable {P:Program} {t:TypeId} {x y:Operand}
theorem q9 {e:TypeId} {a:OA} {n c:Nat} (ht:P.underlying t=some (.slice e)):iL P .eql t x y (.slice a n c) (.slice none 0 0) (.bool (decide (a=none))):=fun w=>by
 have A:(Op.equal t (.slice a n c) (.slice none 0 0)).run P w= .ok (decide (a=none)) w:=by
  unfold Op.equal
  show (Op.equalIn (9999+1) t (.slice a n c) (.slice none 0 0)).run P w=_
  unfold Op.equalIn
  cases a<;>simp [run_underlying ht]
 have B:eqGuard .eql t x y (.slice a n c) (.slice none 0 0)=pure ():=rfl
 rw [B]
 show (Sem.run P (do let b ← Op.equal t (.slice a n c) (.slice none 0 0); pure (vB b)) w)=_
 simp [A]
end
section
variable {E:fr} {ops:Array Oper} {Q:db} {rest:List Oper} {D:List Deferred} {L:List (Nat×Value)} {C:List aw}
variable {dst:Option Tmp} {d:Nat} {ty:TypeId} {ps:String} {af:Array Edge} {g:Option (Nat×Bool)}
/-- a row that lies nowhere is empty -/
theorem mO {a:OA} {n sz:Nat} {es:List (List Value)} (hR:jh C (rd a n sz es).holds) (ha:a=none) (hz:0<sz) (k:es=[]→RJ E ops Q rest D L C):RJ E ops Q rest D L C:=fun act w hf hs=>by
 refine k ?_ act w hf hs
 obtain ⟨F,G,B⟩:=hs.has hR
 rcases Nat.eq_zero_or_pos (n*sz) with h|h
 ·have:n=0:=by
   rcases Nat.mul_eq_zero.1 h with h|h
   ·exact h
   ·omega
  exact j1 I
 ·obtain ⟨ad,A,_⟩:=B h
  rw [ha] at A; cases A
theorem Jk {a:OA} {c e sz:Nat} {es:List (List Value)} (i:Nat) (hC:C[i]? =some (own a c e sz es)) (k:es.length≤c→RJ E ops Q rest D L C):RJ E ops Q rest D L C:=fun act w hf hs=>
 k (Br (hs.holds _ (aS hC))) act w hf hs
theorem lF {A:aw} (i:Nat) (h:C[i]? =some A.ro):jh C A.holds:=fun w hw=>by
 have B:=hw A.ro (aS h)
 exact B
/-- the end of a row is set to zero: it is no more of it -/
theorem Oe {x:Operand} {t e sz by_ k n c c':Nat} {z:Value} {a:OA} {es:List (List Value)} (i:Nat) (hg:jS ops L g=true) (hx:ev L x=some (.slice (Bi a c k sz) (n-k) c')) (ht:tA E.P t=some (e,sz,by_,z)) (hz1: ∀ v∈z.cells.toList,v.oneCell'=true)
 (hC:C[i]? =some (own a c e sz es)) (hn:n=es.length) (hk:k≤n) (K:RJ E ops Q rest D L (C.set i (own a c e sz (es.take k)))):
 RJ E ops Q (⟨none,.call {callee:= .builtin .clear,args:= #[x],argTypes:= #[t]},ty,ps,af,g⟩::rest) D L C:=by
 intro act w A F
 obtain ⟨inf,hu,hi,f,h3,h4,s⟩:=EK ht
 unfold sB
 rw [if_pos (ek A hg)]
 subst hn
 obtain ⟨W,N⟩:(own a c e sz es).holds w:=F.holds _ (aS hC)
 have B: ∀ y∈es.take k,y.length=sz:=fun y hy=>W y (List.mem_of_mem_take hy)
 have V:(es.take k).flatten=es.flatten.take (k*sz):=by
  have h:=List.take_append_drop k es
  have l:es.flatten=(es.take k).flatten++(es.drop k).flatten:=by rw [← List.flatten_append,h]
  have m:(es.take k).flatten.length=k*sz:=by rw [iX B,List.length_take]; congr 1; omega
  rw [l,← m,List.take_left]
 by_cases r:es.length-k=0
 ·have AA:es.take k=es:=List.take_of_length_le I
  refine g7 sm (w':=w) (v:= .tuple #[]) ?_ ?_
  ·rw [r] at hx
   cases hs:Bi a c k sz with
   |none=>rw [hs] at hx; simp [execOp,resolve,invoke,builtin,Builtin.clear_,A.ev hx,run_underlying hu]
   |some q=>rw [hs] at hx; simp [execOp,resolve,invoke,builtin,Builtin.clear_,A.ev hx,run_underlying hu]
  ·rw [AA] at K
   exact K _ _ A (by
    have:C.set i (own a c e sz es)=C:=by
     apply List.ext_getElem?
     intro q
     rw [List.getElem?_set]
     by_cases j:i=q
     ·subst j; rw [if_pos rfl,if_pos (aV.1 hC).1,hC]
     ·rw [if_neg j]
    rw [this]; exact F)
 ·rcases N.2 with ⟨l,m⟩|⟨gg,cap,cur,hv,AC,M,Y,T,J,G⟩
  ·omega
  ·injection hv with Z AO d
   subst Z d
   have R:Bi (some (⟨gg,0,none⟩:Addr)) c k sz=some ⟨gg,k*sz,none⟩:=by
    unfold Bi; rw [if_neg I]; simp [Addr.add_lit]
   rw [R] at hx
   have H:(Builtin.zeroCells z.cells (es.length-k)).toList.length=(es.length-k)*sz:=by
    rw [Array.length_toList,size_zeroCells,s]
   have p:k*sz+(es.length-k)*sz=es.length*sz:=by rw [← Nat.add_mul]; congr 1; omega
   have o:es.length*sz≤cur.size:=by rw [J]; exact Nat.mul_le_mul_right _ Y
   have h1': ∀ v∈(Builtin.zeroCells z.cells (es.length-k)).toList,v.oneCell'=true:=fun v hv=>by
    refine hz1 v ?_
    simp [Builtin.zeroCells] at hv
    obtain ⟨q,hq,hv⟩:=hv
    have O:0<z.cells.size:=by
     rcases Nat.eq_zero_or_pos z.cells.size with AB|AB
     ·rw [AB] at hq; simp at hq
     ·exact AB
    have X:q % z.cells.size<z.cells.size:=Nat.mod_lt _ O
    rw [getElem!_pos z.cells _ X] at hv
    rw [← hv]; simp
   have hst':=run_storeCells_at E.P gg (k*sz) e (Builtin.zeroCells z.cells (es.length-k)).toList 0 cur w M (by rw [H]; omega) h1'
   simp only [Nat.add_zero] at hst'
   obtain ⟨q,hq⟩: ∃ q,es.length-k=q+1:=⟨es.length-k-1,I⟩
   refine g7 sm (w':=w.setRow gg (cur.toList.take (k*sz)++(Builtin.zeroCells z.cells (es.length-k)).toList++cur.toList.drop (k*sz+(Builtin.zeroCells z.cells (es.length-k)).toList.length)).toArray) (v:= .tuple #[]) ?_ ?_
   ·rw [hq] at hx hst' ⊢
    simp [execOp,resolve,invoke,builtin,Builtin.clear_,A.ev hx,run_underlying hu,zeroValue,typeInfo,hi,f,hst']
   ·refine K _ _ A ?_
    refine F.move i hC (row:=some gg) (fun b hb=>by cases hb; exact ⟨_,rfl,rfl⟩) rfl ⟨rfl,rfl,rfl,sm,fun k' _ hk'=>setRow_other w gg k' _ (fun e=>hk' (by simp [e]))⟩ (fun y hy=>by
     obtain ⟨ad,AB,rfl⟩:=hy
     cases AB; exact .inl rfl) ?_
    refine ⟨B,?_,.inr ⟨gg,c,_,U,Nat.zero_le _,setRow_heap w gg cur _ e _ M,?_,T,?_,?_⟩⟩
    ·exact iX B
    ·rw [List.length_take]; omega
    ·simp only [List.size_toArray,List.length_append,List.length_take,List.length_drop,Array.length_toList,H]
     have:=J
     simp only [Array.length_toList] at H
     omega
    ·have u:(es.take k).length*sz=k*sz:=by rw [List.length_take]; congr 1; omega
     have S:(cur.toList.take (k*sz)).length=k*sz:=by rw [List.length_take,Array.length_toList]; omega
     rw [u,V,← G,List.take_take,Nat.min_eq_left I]
     show List.take (k*sz) (_++_++_)=_
     rw [List.append_assoc,List.take_left' S]
end
end
section
open Go.RowKit
theorem pc (n lo hi:Int):
 eB Tryz.prog 89 [(vI n),(vI lo),(vI hi)] [] (vB (decide (lo≤n∧n≤hi))):=by
 refine bG kr Tryz.func89 U U fun D Q hQ hN=>?_
 try dsimp only
 refine WS fun _ B=>bk 1 U<|RK B<|WS fun _ A=>rP 4 [] mn ?_
 refine dx (t:=10) U (aO fun C=>?_) (aN fun C=>?_)
 ·refine rP 5 [] mn ?_
  refine RK A<|av<|Q1 hQ U U U ?_
  exact cB (gN.2 I)
 refine rP 5 [] mn ?_
 refine RK A<|av<|Q1 hQ U U U ?_
 exact cB (cy I).symm
theorem p5 (s:aa) (lo hi:Int):
 eB Tryz.prog 90 [(vA (aa.cells s)),(vI lo),(vI hi)] [] (vB (decide (s.Lo≤s.Hi∧lo≤s.Lo∧s.Hi≤hi))):=by
 refine bG kr Tryz.func90 U U fun E Q hQ hN=>?_
 try dsimp only
 refine WS fun _ B=>fZ U fun D=>bk 1 U<|RK B<|WS fun _ A=>fP 5 [] (mc 0 U mn) U<|rS (CL (pc s.Lo lo s.Hi) (aJ) U)<|rP 1 [] mn ?_
 refine ck (t:=13) U (aN fun C=>?_) (aO fun C=>?_)
 ·refine rP 6 [] mn ?_
  refine RK A<|av<|Q1 hQ U U U ?_
  exact cB (cy I).symm
 refine rP 6 [] (mc 0 U mn) ?_
 refine RK A<|av<|Q1 hQ U U U ?_
 exact cB (gN.2 I)
theorem Ol (t:List al) (tA:OA) (tC:Nat):
 eB Tryz.prog 55 [(vA (bD.cells (bD.mk (bp.mk tA t.length tC))))] [(rd tA t.length 9 (t.map al.cells))] (vB (decide (20<(t.length:Int)))):=by
 refine bG kr Tryz.func55 U U fun D Q hQ hN=>?_
 try dsimp only
 refine WS fun _ A=>fZ U fun C=>bk 1 U<|RK A<|WS fun _ B=>rP 5 [] (mc 0 U mn) ?_
 refine RK B<|av ?_
 exact Q1 hQ U U U U
theorem N8 (l:List Int) (lA:OA) (lC:Nat) (f:Value) (p:Int→Bool) (X:aw) (hf: ∀ x0,x0∈l→Fb Tryz.prog f [.int .i64 x0] [X] (.bool (p x0))) (hlen:l.length≤1000000):
 eB Tryz.prog 115 [(vS lA l.length lC),f] [(rd lA l.length 1 (l.map iC)),X] (vI (ur p l)):=by
 refine bG kr Tryz.func115 U U fun R Q hQ hN=>?_
 try dsimp only
 refine WS fun _ G=>bk 1 U<|RK G<|aj fun _ H=>WS fun _ AA=>rP 3 [] mn ?_
 refine RK AA<|ax ?_
 have B:(0≤l.length)∧((l.take 0).any p=false):=by simp
 refine bJ (ι:={z:Nat // (z≤l.length)∧((l.take z).any p=false)}) [0,1,7] [0,1] U U (fun z=>[(8,(vI (z.1:Int)))]) (fun z=>[]) (fun _=>rfl) (fun _=>rfl) (fun z=>l.length-z.1) ⟨0,B⟩ (aT U) (aI [0,1]) ?_
 clear B
 rintro ⟨i,⟨N,A⟩⟩ J4 F
 try dsimp only
 refine WS fun _ J=>rP 1 [] mn ?_
 refine RK J<|aj fun _ K=>bR U (aN fun P=>?_) (aO fun P=>?_)
 ·refine bB<|ab<|ab<|ay<|KK H<|WS fun _ E=>rP 1 [] mn ?_
  refine RK E<|av<|Q1 hQ U U U ?_
  exact cI (sX I A).symm
 refine WK K<|aj fun _ L=>ax<|WS fun _ M=>bk 2 U<|RK M<|WS fun _ C=>rP 3 [] mn ?_
 obtain ⟨x,hx⟩:=aK l i I
 have O:=bQ iC hx
 refine rS (IA i U (aA 0 U) cK dc I I)<|rS (gl i 0 (vI x) U cp (aA 0 U) O U dc U)<|rS (SX (s7 U U U (hf x (aS hx)) (bo [1])) U U)<|RK C<|cP U (fun hp=>?_) (fun hp=>?_)
 ·refine WS fun _ D=>rP 2 [] mn ?_
  refine RK D<|av<|Q1 hQ U U U ?_
  exact cI (wW hx hp A).symm
 refine ct<|aF<|KK L<|ak<|rP 2 [] mn ?_
 refine aB ?_
 refine aU (F ⟨(i+1),⟨I,xS hx A hp⟩⟩ _ _ _ U os (aT U) (aI [0,1]))
theorem sZ (l:List Int) (lA:OA) (lC:Nat) (f:Value) (p:Int→Bool) (X:aw) (hf: ∀ x0,x0∈l→Fb Tryz.prog f [.int .i64 x0] [X] (.bool (p x0))) (hlen:l.length≤1000000):
 eB Tryz.prog 76 [(vS lA l.length lC),f] [(rd lA l.length 1 (l.map iC)),X] (vB (l.any p)):=by
 refine bG kr Tryz.func76 U U fun C Q hQ hN=>?_
 try dsimp only
 refine WS fun _ A=>bk 1 U<|RK A<|WS fun _ B=>bk 2 U<|rS (CL (N8 l lA lC f p X (by exact hf) hlen) (bo [0,1]) U)<|rP 2 [] mn ?_
 refine RK B<|av<|Q1 hQ U U U ?_
 exact cB uQ
theorem HL (n lo hi:Int) (g1 g2:Nat):
 eB Tryz.prog 179 [(vI n),(vP g1),(vP g2)] [(cm g1 3 [(vI lo)]),(cm g2 3 [(vI hi)])] (vB (decide (n<lo∨hi<n))):=by
 refine bG kr Tryz.func179 U U fun D Q hQ hN=>?_
 try dsimp only
 refine WS fun _ B=>bk 1 U<|RK B<|WS fun _ A=>rP 4 [] (mr 0 U mn) ?_
 refine dx (t:=8) U (aO fun C=>?_) (aN fun C=>?_)
 ·refine rP 5 [] mn ?_
  refine RK A<|av<|Q1 hQ U U U ?_
  exact cB (gF I).symm
 refine rP 5 [] (mr 1 U mn) ?_
 refine RK A<|av<|Q1 hQ U U U ?_
 exact cB (gN.2 I)
theorem o8 (lo hi:Int) (l:List Int) (lA:OA) (lC:Nat) (hlen:l.length≤1000000):
 eB Tryz.prog 151 [(vI lo),(vI hi),(vS lA l.length lC)] [(rd lA l.length 1 (l.map iC))] (vB (qu lo hi l)):=by
 refine bG kr Tryz.func151 U U fun F Q hQ hN=>?_
 try dsimp only
 refine WS fun _ D=>ve U U fun A=>ve U U fun B=>bk 1 U<|RK D<|WS fun _ E=>rP 1 [] mn ?_
 refine rS (FU U) ?_
 refine rS (CL (sZ l lA lC (Value.func (.func 179) [].toArray [(vP A),(vP B)].toArray) (fun C=>(decide (C<lo∨hi<C))) (fp [(cm A 3 [(vI lo)]),(cm B 3 [(vI hi)])]) (by intro C _; exact od (fi:=[]) (ca:=[(vP A),(vP B)]) (mE (HL C lo hi A B) (bo [0,1]))) hlen) (fB 2 U U<|aq (mH (bo [1,0]))<|aJ) U) ?_
 refine rP 2 [] mn ?_
 refine RK E<|av ?_
 exact Q1 hQ U U U U
theorem wH (s:aa) (lo hi:Int):
 eB Tryz.prog 152 [(vA (aa.cells s)),(vI lo),(vI hi)] [] (vB (decide (s.Lo≤s.Hi∧lo≤s.Lo∧s.Hi≤hi))):=by
 refine bG kr Tryz.func152 U U fun F Q hQ hN=>?_
 try dsimp only
 refine WS fun _ B=>fZ U fun E=>bk 1 U<|RK B<|WS fun _ A=>rP 6 [] (mc 0 U mn) ?_
 refine dj (xs:=[.tmp 10,.tmp 12]) (cs:=[(vI s.Lo),(vI s.Hi)]) U cK jA U U U U (by simp [Value.cells]) U U fun C=>?_
 refine rS (CL (eB.eq (o8 lo hi ([s.Lo,s.Hi]) (some ⟨C,0,none⟩) 2 (by (simp; done))) rM) (aq (bf 0 U U (by simp [bH]) U)<|aJ) U) ?_
 refine rP 1 [] mn ?_
 refine ck (t:=15) U (aN fun D=>?_) (aO fun D=>?_)
 ·refine rP 7 [] mn ?_
  refine RK A<|av<|Q1 hQ U U U ?_
  exact cB (cy I).symm
 refine rP 7 [] (mc 1 U mn) ?_
 refine RK A<|av<|Q1 hQ U U U ?_
 exact cB (gN.2 I)
theorem wB (ts:List al) (tsA:OA) (tsC:Nat) (hlen:ts.length≤1000000):
 eB Tryz.prog 56 [(vA (bD.cells (bD.mk (bp.mk tsA ts.length tsC))))] [(rd tsA ts.length 9 (ts.map al.cells))] (vB (de ts)):=by
 refine bG kr Tryz.func56 U U fun w0 Q hQ hN=>?_
 try dsimp only
 refine WS fun _ C2=>fZ U fun b2=>bk 1 U<|RK C2<|aj fun _ C3=>WS fun _ Di=>fP 3 [] (mc 0 U mn) U<|rS (CL (pc (ts.length:Int) 1 12) (aJ) U)<|rP 1 [] mn ?_
 refine RK Di<|cP U (bw fun h5=>?_) (bu fun h5=>?_)
 ·refine WS fun _ Do=>rP 1 [] mn ?_
  refine RK Do<|av<|Q1 hQ U U U ?_
  exact cB (oN I).symm
 refine WK C3<|aj fun _ D2=>WS fun _ D9=>rP 1 [] mn ?_
 refine RK D9<|ax ?_
 have E:(0≤ts.length)∧(e7 (-1) ts=e7 (gE ts 0) (ts.drop 0))∧(-1≤gE ts 0):=by (refine ⟨I,rfl,by simp [gE]⟩)
 refine bJ (ι:={z:Nat // (z≤ts.length)∧(e7 (-1) ts=e7 (gE ts z) (ts.drop z))∧(-1≤gE ts z)}) [1] [0,1] U U (fun z=>[(3,(vI (z.1:Int)))]) (fun z=>[]) (fun _=>rfl) (fun _=>rfl) (fun z=>ts.length-z.1) ⟨0,E⟩ (aT U) (aI [0,1]) ?_
 clear E
 rintro ⟨i,⟨EQ,A,Eq⟩⟩ J9 D
 try dsimp only
 have hz:i=0→gE ts i= -1:=Cz
 refine aj fun _ K=>WS fun _ L=>rP 5 [] (mc 0 U mn) ?_
 refine RK L<|bR U (aN fun v=>?_) (aO fun v=>?_)
 ·refine bB<|ab<|ab<|ay<|KK D2<|WS fun _ u=>rP 1 [] mn ?_
  refine RK u<|av<|Q1 hQ U U U ?_
  exact cB (vQ A I I).symm
 refine WK K<|aj fun _ C=>ax<|WS fun _ M=>rP 3 [] (mc 0 U mn) ?_
 obtain ⟨x,hx⟩:=aK ts i I
 have FS:=bQ al.cells hx
 refine rS (IA i U (aA 1 U) ym dc I I)<|rS (oE i 0 (al.cells x) U cp (aA 1 U) FS U dc U U)<|AL U G6 fun Fn=>gd U JQ U<|RK M<|aj fun _ F=>aj fun _ B=>dM cE 38 kr<|m_ 2 [] (mc 0 U mn) U<|dS (CL (pc x.Id 0 9999) (aJ) U)<|dP 2 [] mn ?_
 refine jq (t:=26) U (bw fun w=>?_) (bu fun w=>?_)
 ·refine mq 11 U<|mq 22 U<|cR<|RK B<|aQ U<|WS fun _ N=>rP 1 [] mn ?_
  refine RK N<|av<|Q1 hQ U U U ?_
  exact cB (dW A hx (by simp only [bP,dZ]; omega)).symm
 refine dP 3 [] mn ?_
 refine jN (t:=29) U (aN fun AC=>?_) (aO fun AC=>?_)
 ·refine mq 8 U<|mq 6 U<|dS (LP (aa.cells x.kS) 0 U cp U U U)<|dS (CL (p5 x.kS 1 30000) (aJ) U)<|dP 3 [] mn ?_
  refine jq (t:=48) U (bw fun Bb=>?_) (bu fun Bb=>?_)
  ·refine mq 11 U<|cR<|RK B<|aQ U<|WS fun _ e=>rP 1 [] mn ?_
   refine RK e<|av<|Q1 hQ U U U ?_
   exact cB (dW A hx (by simp only [bP,dZ]; omega)).symm
  refine mq 1 U<|dS (LP (aa.cells x.l3) 0 U cp U U U)<|dS (CL (p5 x.l3 0 5000) (aJ) U)<|dP 3 [] mn ?_
  refine jq (t:=54) U (bw fun Bg=>?_) (bu fun Bg=>?_)
  ·refine mq 5 U<|cR<|RK B<|aQ U<|WS fun _ f=>rP 1 [] mn ?_
   refine RK f<|av<|Q1 hQ U U U ?_
   exact cB (dW A hx (by simp only [bP,dZ]; omega)).symm
  refine m_ 2 [] (mc 0 U mn) U<|dS (CL (pc x.Bs 0 5000) (aJ) U)<|dP 2 [] mn ?_
  refine cR<|RK B<|cP U (bw fun B3=>?_) (bu fun B3=>?_)
  ·refine WS fun _ g=>rP 1 [] mn ?_
   refine RK g<|av<|Q1 hQ U U U ?_
   exact cB (dW A hx (by simp only [bP,dZ]; omega)).symm
  refine WK F<|WS fun _ h=>fP 2 [] (mc 0 U mn) U<|RK h<|ax<|WS fun _ j=>rS (BI U mW)<|rP 1 [] mn ?_
  refine RK j<|cP U (aO fun B7=>?_) (aN fun B7=>?_)
  ·refine WS fun _ AB=>rP 5 [] (mc 0 U mn) ?_
   refine dx (t:=68) U (bw fun B9=>?_) (bu fun B9=>?_)
   ·refine bk 5 U<|RK AB<|aQ U<|WS fun _ k=>rP 1 [] mn ?_
    refine RK k<|av<|Q1 hQ U U U ?_
    exact cB (dW A hx (by simp only [bP,dZ]; omega)).symm
   refine rP 5 [] (mc 0 U mn) ?_
   refine RK AB<|bR U (bu fun Ci=>?_) (bw fun Ci=>?_)
   ·refine ct<|aF<|aF<|KK C<|ak<|rP 3 [] mn ?_
    refine aB ?_
    refine aU (D ⟨(i+1),⟨I,hP A hx (by simp only [bP,dZ]; omega),by rw [gn hx]; omega⟩⟩ _ _ _ U os (aT U) (aI [1,2]))
   refine WS fun _ l=>rP 1 [] mn ?_
   refine RK l<|av<|Q1 hQ U U U ?_
   exact cB (dW A hx (by simp only [bP,dZ]; omega)).symm
  refine aj fun _ J=>WS fun _ m=>rS (BI U mW)<|rP 1 [] mn ?_
  refine RK m<|cP U (aO fun Ck=>?_) (aN fun Ck=>?_)
  ·refine WK J<|bR U (aN fun Cp=>?_) (aO fun Cp=>?_)
   ·refine WS fun _ p=>rP 1 [] mn ?_
    refine RK p<|av<|Q1 hQ U U U ?_
    exact cB (oN I).symm
   refine WS fun _ n=>bk 1 U<|rS (LP (aa.cells x.eP) 0 U cp U U U)<|rS (CL (p5 x.eP 500 20000) (aJ) U)<|rP 1 [] mn ?_
   refine RK n<|bR U (bu fun Cx=>?_) (bw fun Cx=>?_)
   ·refine ct<|aF<|aF<|KK C<|ak<|rP 3 [] mn ?_
    refine aB ?_
    refine aU (D ⟨(i+1),⟨I,hP A hx (by simp only [bP,dZ]; omega),by rw [gn hx]; omega⟩⟩ _ _ _ U os (aT U) (aI [1,2]))
   refine WS fun _ o=>rP 1 [] mn ?_
   refine RK o<|av<|Q1 hQ U U U ?_
   exact cB (dW A hx (by simp only [bP,dZ]; omega)).symm
  refine ak<|rS (BI U mW)<|rP 1 [] mn ?_
  refine RK J<|bR U (aN fun C0=>?_) (aO fun C0=>?_)
  ·refine WS fun _ s=>rP 1 [] mn ?_
   refine RK s<|av<|Q1 hQ U U U ?_
   exact cB (dW A hx (by simp only [bP,dZ]; omega)).symm
  refine WS fun _ q=>bk 1 U<|rS (LP (aa.cells x.eP) 0 U cp U U U)<|rS (CL (p5 x.eP 500 20000) (aJ) U)<|rP 1 [] mn ?_
  refine RK q<|bR U (bu fun C1=>?_) (bw fun C1=>?_)
  ·refine ct<|aF<|aF<|KK C<|ak<|rP 3 [] mn ?_
   refine aB ?_
   refine aU (D ⟨(i+1),⟨I,hP A hx (by simp only [bP,dZ]; omega),by rw [gn hx]; omega⟩⟩ _ _ _ U os (aT U) (aI [1,2]))
  refine WS fun _ r=>rP 1 [] mn ?_
  refine RK r<|av<|Q1 hQ U U U ?_
  exact cB (dW A hx (by simp only [bP,dZ]; omega)).symm
 refine dP 6 [0,1] (mc 0 U (mc 1 U mn)) ?_
 obtain ⟨y,hy⟩:=aK ts (i-1) I
 have Fd:=bQ al.cells hy
 refine dS (IA (i-1) U (aA 2 U) ym dc I I)<|dS (lZ ((i-1)*9) U (aA 2 U) (Nat.mul_pos I dc) fc U) ?_
 have GF:=Fe I hy
 refine dS (gl (i-1) 0 (vI y.Id) U cp (aA 2 U) Fd U dc U)<|dP 4 [] mn ?_
 refine jq (t:=42) U (aO fun AO=>?_) (aN fun AO=>?_)
 ·refine mq 17 U<|cR<|RK B<|aQ U<|WS fun _ O=>rP 1 [] mn ?_
  refine RK O<|av<|Q1 hQ U U U ?_
  exact cB (dW A hx (by simp only [bP,dZ]; omega)).symm
 refine mq 1 U<|dS (LP (aa.cells x.kS) 0 U cp U U U)<|dS (CL (p5 x.kS 1 30000) (aJ) U)<|dP 3 [] mn ?_
 refine jq (t:=48) U (bw fun A0=>?_) (bu fun A0=>?_)
 ·refine mq 11 U<|cR<|RK B<|aQ U<|WS fun _ P=>rP 1 [] mn ?_
  refine RK P<|av<|Q1 hQ U U U ?_
  exact cB (dW A hx (by simp only [bP,dZ]; omega)).symm
 refine mq 1 U<|dS (LP (aa.cells x.l3) 0 U cp U U U)<|dS (CL (p5 x.l3 0 5000) (aJ) U)<|dP 3 [] mn ?_
 refine jq (t:=54) U (bw fun A1=>?_) (bu fun A1=>?_)
 ·refine mq 5 U<|cR<|RK B<|aQ U<|WS fun _ R=>rP 1 [] mn ?_
  refine RK R<|av<|Q1 hQ U U U ?_
  exact cB (dW A hx (by simp only [bP,dZ]; omega)).symm
 refine m_ 2 [] (mc 0 U mn) U<|dS (CL (pc x.Bs 0 5000) (aJ) U)<|dP 2 [] mn ?_
 refine cR<|RK B<|cP U (bw fun A2=>?_) (bu fun A2=>?_)
 ·refine WS fun _ S=>rP 1 [] mn ?_
  refine RK S<|av<|Q1 hQ U U U ?_
  exact cB (dW A hx (by simp only [bP,dZ]; omega)).symm
 refine WK F<|WS fun _ T=>fP 2 [] (mc 0 U mn) U<|RK T<|ax<|WS fun _ AA=>rS (BI U mW)<|rP 1 [] mn ?_
 refine RK AA<|cP U (aO fun A3=>?_) (aN fun A3=>?_)
 ·refine WS fun _ G=>rP 5 [] (mc 0 U mn) ?_
  refine dx (t:=68) U (bw fun A4=>?_) (bu fun A4=>?_)
  ·refine bk 5 U<|RK G<|aQ U<|WS fun _ V=>rP 1 [] mn ?_
   refine RK V<|av<|Q1 hQ U U U ?_
   exact cB (dW A hx (by simp only [bP,dZ]; omega)).symm
  refine rP 5 [] (mc 0 U mn) ?_
  refine RK G<|bR U (bu fun A5=>?_) (bw fun A5=>?_)
  ·refine ct<|aF<|aF<|KK C<|ak<|rP 3 [] mn ?_
   refine aB ?_
   refine aU (D ⟨(i+1),⟨I,hP A hx (by simp only [bP,dZ]; omega),by rw [gn hx]; omega⟩⟩ _ _ _ U os (aT U) (aI [1,2]))
  refine WS fun _ W=>rP 1 [] mn ?_
  refine RK W<|av<|Q1 hQ U U U ?_
  exact cB (dW A hx (by simp only [bP,dZ]; omega)).symm
 refine aj fun _ H=>WS fun _ X=>rS (BI U mW)<|rP 1 [] mn ?_
 refine RK X<|cP U (aO fun A6=>?_) (aN fun A6=>?_)
 ·refine WK H<|bR U (aN fun A7=>?_) (aO fun A7=>?_)
  ·refine WS fun _ a=>rP 1 [] mn ?_
   refine RK a<|av<|Q1 hQ U U U ?_
   exact cB (oN I).symm
  refine WS fun _ Y=>bk 1 U<|rS (LP (aa.cells x.eP) 0 U cp U U U)<|rS (CL (p5 x.eP 500 20000) (aJ) U)<|rP 1 [] mn ?_
  refine RK Y<|bR U (bu fun A8=>?_) (bw fun A8=>?_)
  ·refine ct<|aF<|aF<|KK C<|ak<|rP 3 [] mn ?_
   refine aB ?_
   refine aU (D ⟨(i+1),⟨I,hP A hx (by simp only [bP,dZ]; omega),by rw [gn hx]; omega⟩⟩ _ _ _ U os (aT U) (aI [1,2]))
  refine WS fun _ Z=>rP 1 [] mn ?_
  refine RK Z<|av<|Q1 hQ U U U ?_
  exact cB (dW A hx (by simp only [bP,dZ]; omega)).symm
 refine ak<|rS (BI U mW)<|rP 1 [] mn ?_
 refine RK H<|bR U (aN fun A9=>?_) (aO fun A9=>?_)
 ·refine WS fun _ d=>rP 1 [] mn ?_
  refine RK d<|av<|Q1 hQ U U U ?_
  exact cB (dW A hx (by simp only [bP,dZ]; omega)).symm
 refine WS fun _ b=>bk 1 U<|rS (LP (aa.cells x.eP) 0 U cp U U U)<|rS (CL (p5 x.eP 500 20000) (aJ) U)<|rP 1 [] mn ?_
 refine RK b<|bR U (bu fun BF=>?_) (bw fun BF=>?_)
 ·refine ct<|aF<|aF<|KK C<|ak<|rP 3 [] mn ?_
  refine aB ?_
  refine aU (D ⟨(i+1),⟨I,hP A hx (by simp only [bP,dZ]; omega),by rw [gn hx]; omega⟩⟩ _ _ _ U os (aT U) (aI [1,2]))
 refine WS fun _ c=>rP 1 [] mn ?_
 refine RK c<|av<|Q1 hQ U U U ?_
 exact cB (dW A hx (by simp only [bP,dZ]; omega)).symm
theorem Dw (ts:List al) (tsA:OA) (tsC:Nat) (hlen:ts.length≤1000000) (hside: ∀ x∈ts,0≤x.js∧x.js≤255):
 eB Tryz.prog 110 [(vA (bD.cells (bD.mk (bp.mk tsA ts.length tsC))))] [(rd tsA ts.length 9 (ts.map al.cells))] (vI (if de ts=true then 0 else 10)):=by
 refine bG kr Tryz.func110 U U fun w0 Q hQ hN=>?_
 try dsimp only
 refine WS fun _ v=>fZ U fun b2=>bk 1 U<|RK v<|BC U<|aj fun _ w=>WS fun _ y=>rP 3 [] (mc 0 U mn) ?_
 refine dj (xs:=[.tmp 11]) (cs:=[(vI (ts.length:Int))]) U cK jA U U U U (by simp [Value.cells]) U U fun b5=>?_
 refine rS (CL (eB.eq (o8 1 12 ([(ts.length:Int)]) (some ⟨b5,0,none⟩) 1 (by (simp; done))) cZ) (aq (bf 0 U U (by simp [bH]) U)<|aJ) U) ?_
 refine rP 1 [] mn ?_
 refine RK y<|cP U (bw fun h6=>?_) (bu fun h6=>?_)
 ·refine WS fun _ AC=>rP 1 [] mn ?_
  refine RK AC<|av<|Q1 hQ U U U ?_
  exact cI (if_neg (by rw [oN I]; decide)).symm
 refine WK w<|WS fun _ AO=>bk 1 U<|RK AO<|WS fun _ A0=>bk 1 U<|RK A0<|aj fun _ J=>AY<|KK J<|aj fun _ B=>WS fun _ K=>rP 4 [] (mc 1 U mn) ?_
 refine RK K<|ax ?_
 have D:(0≤ts.length)∧(e7 (-1) ts=e7 (gE ts 0) (ts.drop 0))∧(-1≤gE ts 0)∧(gE ts 0≤9999):=by (refine ⟨I,rfl,by simp [gE],by simp [gE]⟩)
 refine bJ (ι:={z:Nat // (z≤ts.length)∧(e7 (-1) ts=e7 (gE ts z) (ts.drop z))∧(-1≤gE ts z)∧(gE ts z≤9999)}) [1,4,16,17] [1,2] U U (fun z=>[(3,(vI (gE ts z.1))),(18,(vI (z.1:Int)))]) (fun z=>[]) (fun _=>rfl) (fun _=>rfl) (fun z=>ts.length-z.1) ⟨0,D⟩ (aT U) (aI [1,2]) ?_
 clear D
 rintro ⟨i,⟨A1,A,A2,A3⟩⟩ J13 E
 try dsimp only
 refine WS fun _ L=>rP 1 [] mn ?_
 refine RK L<|aj fun _ M=>bR U (aN fun k=>?_) (aO fun k=>?_)
 ·refine bB<|ab<|ab<|ay<|KK B<|WS fun _ O=>rP 2 [] mn ?_
  refine RK O<|av<|Q1 hQ U U U ?_
  exact cI (if_pos (vQ A I I)).symm
 refine WK M<|aj fun _ F=>ax<|WS fun _ N=>?_
 obtain ⟨x,hx⟩:=aK ts i I
 have A4:=bQ al.cells hx
 refine rS (IA i U (aA 1 U) ym dc I I) ?_
 have A8:=hside x (aS hx)
 refine rS (oE i 0 (al.cells x) U cp (aA 1 U) A4 U dc U U)<|AL U G6 fun A5=>gd U JQ U<|RK N ?_
 refine np (ι:=Unit) [1,3,4,6,16,17,18] [0,1,2] U U (fun z=>[(7,(vB (decide (x.js=0∧x.eP.Lo=0∧x.eP.Hi=0))))]) (fun z=>[]) (fun _=>rfl) (fun _=>rfl) ?_ fun K20 G=>?_
 ·intro _
  try dsimp only
  refine np (ι:=Unit) [1,3,4,6,7,16,17,18] [0,1,2] U U (fun z=>[(8,(vB (decide ((1≤x.js∧x.js≤2)∧x.eP.Lo≤x.eP.Hi∧500≤x.eP.Lo∧x.eP.Hi≤20000))))]) (fun z=>[]) (fun _=>rfl) (fun _=>rfl) ?_ fun K21 H=>?_
  ·intro _
   try dsimp only
   refine aj fun _ AB=>WS fun _ C=>rP 4 [] (mc 0 U mn) ?_
   refine dj (xs:=[.tmp 44]) (cs:=[(vI x.Id)]) U cK jA U U U U (by simp [Value.cells]) U U fun h=>?_
   refine rS (CL (eB.eq (o8 ((gE ts i)+1) 9999 ([x.Id]) (some ⟨h,0,none⟩) 1 (by (simp; done))) cZ) (aq (bf 0 U U (by simp [bH]) U)<|aJ) U) ?_
   refine rP 2 [] mn ?_
   refine dx (t:=48) U (bw fun o=>?_) (bu fun o=>?_)
   ·refine bk 26 U<|RK C<|aQ U<|WS fun _ P=>bk 1 U<|RK P<|bB<|ab<|iZ U<|ab<|ab<|ay<|KK B<|WS fun _ R=>rP 2 [] mn ?_
    refine RK R<|av<|Q1 hQ U U U ?_
    exact cI (if_neg (by rw [dW A hx (by simp only [bP,dZ]; omega)]; decide)).symm
   refine bk 1 U<|rS (LP (aa.cells x.kS) 1 U cp U U U)<|rS (CL (wH x.kS 1 30000) (aJ) U)<|rP 3 [] mn ?_
   refine dx (t:=54) U (bw fun p=>?_) (bu fun p=>?_)
   ·refine bk 20 U<|RK C<|aQ U<|WS fun _ S=>bk 1 U<|RK S<|bB<|ab<|iZ U<|ab<|ab<|ay<|KK B<|WS fun _ T=>rP 2 [] mn ?_
    refine RK T<|av<|Q1 hQ U U U ?_
    exact cI (if_neg (by rw [dW A hx (by simp only [bP,dZ]; omega)]; decide)).symm
   refine bk 1 U<|rS (LP (aa.cells x.l3) 1 U cp U U U)<|rS (CL (wH x.l3 0 5000) (aJ) U)<|rP 3 [] mn ?_
   refine dx (t:=60) U (bw fun q=>?_) (bu fun q=>?_)
   ·refine bk 14 U<|RK C<|aQ U<|WS fun _ AA=>bk 1 U<|RK AA<|bB<|ab<|iZ U<|ab<|ab<|ay<|KK B<|WS fun _ V=>rP 2 [] mn ?_
    refine RK V<|av<|Q1 hQ U U U ?_
    exact cI (if_neg (by rw [dW A hx (by simp only [bP,dZ]; omega)]; decide)).symm
   refine rP 2 [] (mc 1 U mn) ?_
   refine dj (xs:=[.tmp 62]) (cs:=[(vI x.Bs)]) U cK jA U U U U (by simp [Value.cells]) U U fun j=>?_
   refine rS (CL (eB.eq (o8 0 5000 ([x.Bs]) (some ⟨j,0,none⟩) 1 (by (simp; done))) cZ) (aq (bf 0 U U (by simp [bH]) U)<|aJ) U) ?_
   refine rP 3 [] mn ?_
   refine dx (t:=67) U (bw fun r=>?_) (bu fun r=>?_)
   ·refine bk 7 U<|RK C<|aQ U<|WS fun _ W=>bk 1 U<|RK W<|bB<|ab<|iZ U<|ab<|ab<|ay<|KK B<|WS fun _ X=>rP 2 [] mn ?_
    refine RK X<|av<|Q1 hQ U U U ?_
    exact cI (if_neg (by rw [dW A hx (by simp only [bP,dZ]; omega)]; decide)).symm
   refine rP 3 [] mn ?_
   refine ck (t:=70) U (bu fun s=>?_) (bw fun s=>?_)
   ·refine bk 4 U<|RK C<|aZ U<|WK AB<|ak<|fP 3 [] (mc 2 U mn) U<|aB<|aF<|KK F<|ak<|rP 2 [] mn ?_
    refine aB ?_
    have f:(vI (gE ts (i+1)))=(vI x.Id):=by rw [gn hx]
    refine aU (E ⟨(i+1),⟨I,hP A hx (by simp only [bP,dZ]; omega),by rw [gn hx]; omega,by rw [gn hx]; omega⟩⟩ _ _ _ U os (cQ 4<|bj U f<|aT U) (aI [3,4]))
   refine rP 4 [] mn ?_
   refine RK C<|bR U (bu fun u=>?_) (bw fun u=>?_)
   ·refine WK AB<|ak<|fP 3 [] (mc 2 U mn) U<|aB<|aF<|KK F<|ak<|rP 2 [] mn ?_
    refine aB ?_
    have e:(vI (gE ts (i+1)))=(vI x.Id):=by rw [gn hx]
    refine aU (E ⟨(i+1),⟨I,hP A hx (by simp only [bP,dZ]; omega),by rw [gn hx]; omega,by rw [gn hx]; omega⟩⟩ _ _ _ U os (cQ 4<|bj U e<|aT U) (aI [3,4]))
   refine WS fun _ Y=>bk 1 U<|RK Y<|bB<|ab<|iZ U<|ab<|ab<|ay<|KK B<|WS fun _ Z=>rP 2 [] mn ?_
   refine RK Z<|av<|Q1 hQ U U U ?_
   exact cI (if_neg (by rw [dW A hx (by simp only [bP,dZ]; omega)]; decide)).symm
  refine ak<|rP 2 [] (mc 0 U mn) ?_
  refine rS (SX (uB (m:=x.js) U U UR qy (v7 (by first|assumption|omega))) U U)<|dj (xs:=[.tmp 33]) (cs:=[(vI x.js)]) U cK jA U U U U (by simp [Value.cells]) U U fun g=>?_
  refine rS (CL (eB.eq (o8 1 2 ([x.js]) (some ⟨g,0,none⟩) 1 (by (simp; done))) cZ) (aq (bf 0 U U (by simp [bH]) U)<|aJ) U) ?_
  refine rP 1 [] mn ?_
  refine ck (t:=36) U (aN fun n=>?_) (aO fun n=>?_)
  ·refine rP 5 [] mn ?_
   refine aB ?_
   have d:(decide ((1≤x.js∧x.js≤2)∧x.eP.Lo≤x.eP.Hi∧500≤x.eP.Lo∧x.eP.Hi≤20000))=false:=cy I
   refine aU (jr (cQ 8<|nW U d<|dI.nil _) (aI [1,2,3]) (H ()))
  refine bk 1 U<|rS (LP (aa.cells x.eP) 1 U cp U U U)<|rS (CL (wH x.eP 500 20000) (aJ) U)<|rP 2 [] mn ?_
  refine aB ?_
  have c:(decide ((1≤x.js∧x.js≤2)∧x.eP.Lo≤x.eP.Hi∧500≤x.eP.Lo∧x.eP.Hi≤20000))=(decide (x.eP.Lo≤x.eP.Hi∧500≤x.eP.Lo∧x.eP.Hi≤20000)):=gN.2 I
  refine aU (jr (cQ 8<|nW U c<|dI.nil _) (aI [1,2,3]) (H ()))
 refine ak<|fP 2 [] (mc 0 U mn) U<|rS (BI U mW)<|rP 1 [] mn ?_
 refine ck (t:=25) U (aN fun l=>?_) (aO fun l=>?_)
 ·refine rP 6 [] mn ?_
  refine aB ?_
  have b:(decide (x.js=0∧x.eP.Lo=0∧x.eP.Hi=0))=false:=cy I
  refine aU (jr (cQ 7<|nW U b<|dI.nil _) (aI [0,1,2]) (G ()))
 refine bk 1 U<|rS (LP (aa.cells x.eP) 0 U cp U U U)<|rS (SX (bg (xs:=[]) (cs:=(aa.cells (aa.mk 0 0))) U U (bh gJ U)) U U)<|rS (BI U (uD _ _ x.eP (aa.mk 0 0)))<|rP 2 [] mn ?_
 refine aB ?_
 have a:(decide (x.js=0∧x.eP.Lo=0∧x.eP.Hi=0))=(decide (x.eP=(aa.mk 0 0))):=gN.2 (by (simp only [aa.ext_iff] at *; omega))
 refine aU (jr (cQ 7<|nW U a<|dI.nil _) (aI [0,1,2]) (G ()))
theorem Rk (ts:List al) (tsA:OA) (tsC:Nat) (hlen:ts.length≤1000000):
 lB Tryz.prog 80 [(vA (bD.cells (bD.mk (bp.mk tsA ts.length tsC))))] [(rd tsA ts.length 9 (ts.map al.cells))] (fun (x:(OA)×Nat)=>(vA (bD.cells (bD.mk (bp.mk x.1 ts.length x.2))))) (fun (x:(OA)×Nat)=>True) (fun (x:(OA)×Nat)=>[(own x.1 x.2 153 9 (ts.map al.cells))]):=by
 refine dh kr Tryz.func80 U U fun H Q hQ hN=>?_
 try dsimp only
 refine WS fun _ A=>fZ U fun F=>AL U V8 fun G=>RK A<|WS fun _ B=>lY U ym U fun E=>rP 2 [] (mc 2 U mn) ?_
 refine cW (es:=(List.map al.cells [])) (C':=[own (some ⟨E,0,none⟩) 0 153 9 (List.map al.cells []),_,_,_]) 0 U sm U (by simp [maxLen]) U ?_
 refine cL (es2:=(List.map al.cells ts)) (m':=ts.length) 0 U U U UI U U sm (aA 3 U) (oc _) os (by first|(simp only [maxLen]; omega)|(simp [maxLen]; omega)) sm sm U fun C D=>?_
 try dsimp only
 refine rS (SX (bg (xs:=[(0,.tmp 6)]) (cs:=(bD.cells (bD.mk (bp.mk C ts.length D)))) U U (bh Tf U)) U U)<|te U Ub U<|RK B<|av<|LX hQ (C,D) [0] [0] (mc 1 U mn) U U U U ?_
 trivial
end
section
open Go.RowKit
theorem M6 (n lo hi:Int) (g1 g2:Nat):
 eB Tryz.prog 77 [(vI n),(vP g1),(vP g2)] [(cm g1 3 [(vI lo)]),(cm g2 3 [(vI hi)])] (vB (decide (n<lo∨hi<n))):=by
 refine bG kr Tryz.func77 U U fun D Q hQ hN=>?_
 try dsimp only
 refine WS fun _ B=>bk 1 U<|RK B<|WS fun _ A=>rP 4 [] (mr 0 U mn) ?_
 refine dx (t:=8) U (aO fun C=>?_) (aN fun C=>?_)
 ·refine rP 5 [] mn ?_
  refine RK A<|av<|Q1 hQ U U U ?_
  exact cB (gF I).symm
 refine rP 5 [] (mr 1 U mn) ?_
 refine RK A<|av<|Q1 hQ U U U ?_
 exact cB (gN.2 I)
theorem ko (lo hi:Int) (l:List Int) (lA:OA) (lC:Nat) (hlen:l.length≤1000000):
 eB Tryz.prog 39 [(vI lo),(vI hi),(vS lA l.length lC)] [(rd lA l.length 1 (l.map iC))] (vB (qu lo hi l)):=by
 refine bG kr Tryz.func39 U U fun F Q hQ hN=>?_
 try dsimp only
 refine WS fun _ D=>ve U U fun A=>ve U U fun B=>bk 1 U<|RK D<|WS fun _ E=>rP 1 [] mn ?_
 refine rS (FU U) ?_
 refine rS (CL (sZ l lA lC (Value.func (.func 77) [].toArray [(vP A),(vP B)].toArray) (fun C=>(decide (C<lo∨hi<C))) (fp [(cm A 3 [(vI lo)]),(cm B 3 [(vI hi)])]) (by intro C _; exact od (fi:=[]) (ca:=[(vP A),(vP B)]) (mE (M6 C lo hi A B) (bo [0,1]))) hlen) (fB 2 U U<|aq (mH (bo [1,0]))<|aJ) U) ?_
 refine rP 2 [] mn ?_
 refine RK E<|av ?_
 exact Q1 hQ U U U U
theorem Ga (s:aa):
 eB Tryz.prog 107 [(vA (aa.cells s))] [] (vB (decide (jf s))):=by
 refine bG kr Tryz.func107 U U fun F Q hQ hN=>?_
 try dsimp only
 refine WS fun _ B=>fZ U fun E=>bk 1 U<|RK B<|WS fun _ A=>rP 4 [] (mc 0 U mn) ?_
 refine dj (xs:=[.tmp 4,.tmp 6]) (cs:=[(vI s.Lo),(vI s.Hi)]) U cK jA U U U U (by simp [Value.cells]) U U fun C=>?_
 refine rS (CL (eB.eq (ko 1 600000 ([s.Lo,s.Hi]) (some ⟨C,0,none⟩) 2 (by (simp; done))) rM) (aq (bf 0 U U (by simp [bH]) U)<|aJ) U) ?_
 refine rP 1 [] mn ?_
 refine ck (t:=9) U (aN fun D=>?_) (aO fun D=>?_)
 ·refine rP 7 [] mn ?_
  refine RK A<|av<|Q1 hQ U U U ?_
  simp only [jf]
  exact cB (cy I).symm
 refine rP 7 [] (mc 1 U mn) ?_
 refine RK A<|av<|Q1 hQ U U U ?_
 simp only [jf]
 exact cB (gN.2 I)
theorem Jy (d:au) (sgA:OA) (sgC:Nat):
 eB Tryz.prog 217 [(vA (bq.cells (bq.mk d.Out d.ed d.Time (lT d.bX sgA sgC))))] [(rd sgA d.bX.ah.length 2 (d.bX.ah.map aH.cells))] (vB (decide (iF d.bX))):=by
 refine bG kr Tryz.func217 U U fun F Q hQ hN=>?_
 try dsimp only
 refine WS fun _ B=>fZ U fun E=>bk 1 U<|RK B<|WS fun _ A=>rP 5 [] (mc 0 U mn) ?_
 refine ck (t:=7) U (aN fun C=>?_) (aO fun C=>?_)
 ·refine rP 13 [] mn ?_
  refine RK A<|av<|Q1 hQ U U U ?_
  simp only [iF]
  exact cB (cy I).symm
 refine rP 6 [] (mc 0 U mn) ?_
 refine ck (t:=13) U (aN fun D=>?_) (aO fun D=>?_)
 ·refine rP 7 [] mn ?_
  refine RK A<|av<|Q1 hQ U U U ?_
  simp only [iF]
  exact cB (cy I).symm
 refine rP 7 [] (mc 0 U mn) ?_
 refine RK A<|av<|Q1 hQ U U U ?_
 simp only [iF]
 exact cB (gN.2 I)
theorem SG (d:au) (sgA:OA) (sgC:Nat):
 eB Tryz.prog 215 [(vA (bq.cells (bq.mk d.Out d.ed d.Time (lT d.bX sgA sgC))))] [(rd sgA d.bX.ah.length 2 (d.bX.ah.map aH.cells))] (vB d.Out):=by
 refine bG kr Tryz.func215 U U fun D Q hQ hN=>?_
 try dsimp only
 refine WS fun _ A=>fZ U fun C=>bk 1 U<|RK A<|WS fun _ B=>rP 3 [] (mc 0 U mn) ?_
 refine RK B<|av<|Q1 hQ U U U ?_
 rfl
theorem Sn (d:au) (sgA:OA) (sgC:Nat):
 eB Tryz.prog 218 [(vA (bq.cells (bq.mk d.Out d.ed d.Time (lT d.bX sgA sgC))))] [(rd sgA d.bX.ah.length 2 (d.bX.ah.map aH.cells))] (vB d.ed):=by
 refine bG kr Tryz.func218 U U fun D Q hQ hN=>?_
 try dsimp only
 refine WS fun _ A=>fZ U fun C=>bk 1 U<|RK A<|WS fun _ B=>rP 3 [] (mc 0 U mn) ?_
 refine RK B<|av<|Q1 hQ U U U ?_
 rfl
theorem RW (d:au) (sgA:OA) (sgC:Nat):
 eB Tryz.prog 220 [(vA (bq.cells (bq.mk d.Out d.ed d.Time (lT d.bX sgA sgC))))] [(rd sgA d.bX.ah.length 2 (d.bX.ah.map aH.cells))] (vB true):=by
 refine bG kr Tryz.func220 U U fun D Q hQ hN=>?_
 try dsimp only
 refine WS fun _ A=>fZ U fun C=>bk 1 U<|RK A<|WS fun _ B=>rP 1 [] mn ?_
 refine RK B<|av<|Q1 hQ U U U ?_
 rfl
end
section
open Go.RowKit
theorem Bo (r:cj) (kA:OA) (kC:Nat) (az:List RA) (cA:OA) (cC:Nat) (bA:OA) (bC:Nat) (slA:OA) (slC:Nat) (drA:OA) (drC:Nat) (ha:List cb) (heA:OA) (heC:Nat) (tz:List RA) (tA:OA) (tC:Nat) (ms:Value) (gw:Nat) (l:List Int) (lA:OA) (lC:Nat) (hin:fw r az ha) (hlen:l.length≤1000000):
 eB Tryz.prog 48 [(vP gw),(vS lA l.length lC)] [(rd kA r.an.aL.length 9 (r.an.aL.map al.cells)),(rd cA r.an.ai.length 2 (List.zipWith ar.cells r.an.ai az)),(fp (aR ar.ia r.an.ai az)),(rd bA r.an.ag.length 4 (r.an.ag.map bE.cells)),(rd slA r.aM.length 1 (r.aM.map iC)),(rd drA r.bL.length 1 (r.bL.map iC)),(rd heA r.ao.length 1 (List.zipWith cw r.ao ha)),(fp (aR iI r.ao ha)),(rd tA ((cT r).length) 1 (List.zipWith EM (cT r) tz)),(fp (aR Nh (cT r) tz)),(cm gw 112 (gh.cells (gh.mk (oY r kA kC cA cC bA bC slA slC drA drC heA heC) (bp.mk tA ((cT r).length) tC) ms))),(rd lA l.length 1 (l.map iC))] (vB (qu 0 ((r.aM.length:Int)-1) l)):=by
 have C:=hin.line
 have G:=hin.iU
 have H:=hin.has
 have E:=hin.iY
 have D:=hin.draw
 have F:=dQ (r:=r)
 refine bG kr Tryz.func48 U U fun AA Q hQ hN=>?_
 try dsimp only
 refine WS fun _ A=>bk 1 U<|RK A<|WS fun _ B=>bk 1 U<|rS (SX (bO U U) U U)<|fP 6 [] (mr 10 U mn) U<|rS (CL (ko 0 ((r.aM.length:Int)-1) l lA lC hlen) (bo [11]) U)<|rP 1 [] mn ?_
 refine RK B<|av ?_
 exact Q1 hQ U U U U
theorem xH (a b:Bool):
 eB Tryz.prog 65 [(vB a),(vB b)] [] (Value.int .u8 (if a=true then 2 else if b=true then 1 else 0)):=by
 refine bG kr Tryz.func65 U U fun J Q hQ hN=>?_
 try dsimp only
 refine WS fun _ C=>bk 1 U<|RK C<|aj fun _ D=>ax<|WS fun _ E=>rP 2 [] mn ?_
 refine RK E<|cP U (fun A=>?_) (fun A=>?_)
 ·refine WS fun _ F=>rP 1 [] mn ?_
  refine RK F<|av<|Q1 hQ U U U ?_
  rw [if_pos A]
 refine WS fun _ G=>rP 2 [] mn ?_
 refine RK G<|cP U (fun B=>?_) (fun B=>?_)
 ·refine WS fun _ H=>rP 1 [] mn ?_
  refine RK H<|av<|Q1 hQ U U U ?_
  (rw [if_neg (by rw [A]; decide),if_pos B])
 refine ct<|aF<|KK D<|WS fun _ AA=>rP 1 [] mn ?_
 refine RK AA<|av<|Q1 hQ U U U ?_
 (rw [if_neg (by rw [A]; decide),if_neg (by rw [B]; decide)])
end
section
open Go.RowKit
theorem Rj {P:Program} {t:TypeId} {x y:Operand} {k e:TypeId} {p:Option Nat} (h:P.underlying t=some (.map k e)):iL P .eql t x y (.map p) (.map none) (.bool p.isNone):=fun w=>by
 have A:(Op.equal t (.map p) (.map none)).run P w= .ok p.isNone w:=by
  unfold Op.equal
  show (Op.equalIn (9999+1) t (.map p) (.map none)).run P w=_
  unfold Op.equalIn
  cases p<;>simp [run_underlying h]
 have B:eqGuard .eql t x y (.map p) (.map none)=pure ():=rfl
 rw [B]
 show (Sem.run P (do let b ← Op.equal t (.map p) (.map none); pure (vB b)) w)=_
 simp [A]
theorem FV {P:Program} {r:Nat} {es:Array MapEntry} {clock:Nat} {w:World} (t:TypeId) (hb:w.heap[r]? =some (.map es clock)):
 (Extern.MapsClone.clone #[.iface t (.map (some r))]).run P w= .ok (.iface t (.map (some w.heap.size))) (w.alloc (.map es clock)):=by
 have e:Extern.MapsClone.clone #[.iface t (.map (some r))]=(getObj r >>= fun o=>match o with
  | .map entries clock=>(newObj (.map entries clock) >>= fun n=>pure (.iface t (.map (some n))))
  |_=>stuck "maps.clone: a map expected"):=rfl
 rw [e]
 simp [MapKept.run_getObj_map hb,Result.andThen,go_sem]
theorem CI {P:Program} {xt t k e:TypeId} {v:Value} {w:World} (h:P.underlying t=some (.map k e)):(Instr.typeAssert (.iface t v) xt t false).run P w= .ok v w:=by
 simp [Instr.typeAssert,run_underlying h,go_sem,Result.andThen]
theorem oB {C:List aw} {g t:Nat} {cs:List Value} {n sz:Nat} {es:List (List Value)} (i:Nat) (hC:C[i]? =some (cm g t cs).ro) (h1:es.length=n) (h2: ∀ e∈es,e.length=sz) (h3:es.flatten=cs):jh C (rd (some ⟨g,0,none⟩) n sz es).holds:=fun w hw=>
 uX (show (cm g t cs).holds w from hw (cm g t cs).ro (aS hC)) h1 h2 ⟨[],by simp [h3]⟩
section
variable {E:fr} {ops:Array Oper} {Q:db} {rest:List Oper} {D:List Deferred} {L:List (Nat×Value)} {C:List aw}
variable {dst:Option Nat} {d:Nat} {ty:TypeId} {ps:String} {af:Array Edge} {g:Option (Nat×Bool)}
theorem MC {P:Program} {t k e:TypeId} {v:Value} {w:World} (h:P.underlying t=some (.map k e)):(Instr.makeInterface t v).run P w= .ok (.iface t v) w:=by
 simp [Instr.makeInterface,run_underlying h,Result.andThen]
theorem NA {t k e:TypeId} {x:Operand} {v:Value} (hg:jS ops L g=true) (hx:ev L x=some v) (ht:E.P.underlying t=some (.map k e)):SD E ops ⟨dst,.makeInterface t x,ty,ps,af,g⟩ D L C (.iface t v):=
 dV hg sm fun a w hf _=>by
  have e:=hf.ev hx
  simp only [execOp,e]
  rw [Sem.run_bind,MC ht]
  simp
theorem T_ {xt t kt et:TypeId} {x:Operand} {v:Value} (hg:jS ops L g=true) (hx:ev L x=some (.iface t v)) (ht:E.P.underlying t=some (.map kt et)):SD E ops ⟨dst,.typeAssert x xt t false,ty,ps,af,g⟩ D L C v:=
 dV hg sm fun a w hf _=>by
  have e:=hf.ev hx
  simp only [execOp,e]
  rw [Sem.run_bind,CI ht]
  simp
theorem Je {K:Type} [DecidableEq K] {kV:K→Value} {x:Operand} {ts:Array TypeId} {f:FuncId} {fn:Func} {t b:Nat} {m:List (K×Value)} (hg:jS ops L g=true) (hx:ev L x=some (.iface t (.map (some b)))) (hf:E.P.funcs[f]? =some fn) (hname:(fn.name=="runtime.NumGoroutine")=false)
 (hb:fn.body.isNone=true) (hn:Extern.findNext fn=none) (he:Extern.find fn=some Extern.MapsClone.clone) (hC:jh C (iP kV b m).holds) (hd:Nat.blt d E.n=true) (k: ∀ b',RJ E ops Q rest D ((d,.iface t (.map (some b')))::L) (iP kV b' m::C)):
 RJ E ops Q (⟨some d,.call {callee:= .value (.func f),args:= #[x],argTypes:=ts},ty,ps,af,g⟩::rest) D L C:=by
 intro a w B hs
 have hd':d<E.n:=by rw [← Nat.blt_eq]; exact hd
 obtain ⟨es,c,F,hi⟩:=hC w hs.holds
 unfold sB
 rw [if_pos (ek B hg)]
 refine g7 (v:= .iface t (.map (some w.heap.size))) (w':=w.alloc (.map es c)) sm ?_ ?_
 ·have e:=B.ev hx
  have G:a.eval (.func f)= .func (.func f) #[] #[]:=rfl
  simp [execOp,resolve,e,G,Deferred.ofValue,invoke,run_callFunc_extern hf hname hb hn he,FV t F]
 ·refine k _ _ _ (B.put hd' _) (hs.grow (eh.alloc no w _) (N:=[iP kV w.heap.size m]) ⟨fun A hA=>?_,fun A hA b hb=>?_,List.pairwise_singleton _ _⟩)
  ·simp at hA; subst hA; exact ⟨es,c,heap_alloc_new w _,hi⟩
  ·simp at hA; subst hA; exact Nat.le_of_eq (Eq.symm hb)
end
end
section
open Go.RowKit
theorem xV (lA:OA) (lN lC:Nat):
 lB Tryz.prog 74 [(vS lA lN lC)] [] (fun (x:Nat)=>(Value.func (.func 112) [].toArray [(vP x)].toArray)) (fun (x:Nat)=>True) (fun (x:Nat)=>[(cm x 29 [(vS lA lN lC)])]):=by
 refine dh kr Tryz.func74 U U fun D Q hQ hN=>?_
 try dsimp only
 refine WS fun _ A=>ve U U fun C=>bk 1 U<|RK A<|WS fun _ B=>rS (FU U)<|rP 1 [] mn ?_
 refine RK B<|av<|LX hQ C [0] [] mn U U U U ?_
 trivial
theorem I7 (nl:List Int) (nlA:OA) (nlC g1:Nat) (hlen:nl.length≤12):
 NX Tryz.prog 112 [] [(vP g1)] [(rd nlA nl.length 1 (nl.map iC)),(cm g1 29 [(vS nlA nl.length nlC)])] (qT nl):=by
 refine Gb kr Tryz.func112 U U fun l J Z A0 T Q hY K AB hQ hN=>?_
 try dsimp only
 refine WS fun _ M=>rP 3 [] (mr 2 U mn) ?_
 refine RK M<|ax ?_
 have F:(0≤nl.length)∧(J 0 A0)∧(Fo A0 T A0):=by exact ⟨Nat.zero_le _,K,AB⟩
 refine bJ (ι:={z:Nat×aw // (z.1≤nl.length)∧(J z.1 z.2)∧(Fo A0 T z.2)}) [0,1,5,6] [1] U U (fun z=>[(7,(vI (z.1.1:Int)))]) (fun z=>[z.1.2]) (fun _=>rfl) (fun _=>rfl) (fun z=>nl.length-z.1.1) ⟨(0,A0),F⟩ (aT U) (aI [1,0]) ?_
 clear F
 rintro ⟨⟨i,A⟩,⟨G,B,C⟩⟩ J2 L
 try dsimp only at G B C
 try dsimp only
 refine WS fun _ N=>rP 1 [] mn ?_
 refine RK N<|aj fun _ O=>bR U (aN fun AA=>?_) (aO fun AA=>?_)
 ·refine bB<|ab<|ab<|ay ?_
  refine hN _ _ _ (iu (vs:=[]) trivial fun w hs=>T3 1 U (by rw [ub]; have e:nl.length=i:=I; rw [e]; exact B) C hs)
 refine WK O<|aj fun _ P=>ax<|WS fun _ R=>?_
 obtain ⟨x,hx⟩:=aK nl i I
 have S:=bQ iC hx
 refine rS (IA i U (aA 0 U) cK dc I I)<|rS (gl i 0 (vI x) U cp (aA 0 U) S U dc U)<|bk 1 U<|RK R<|WS fun _ H=>rP 2 [] mn ?_
 refine FW 1 hY B C U U U (IZ hx) U U (fun B9 E D=>?_) (fun B9 E D=>?_)
 rotate_left 1
 ·refine rP 1 [] mn ?_
  refine RK H<|aQ U<|av ?_
  refine hQ _ _ _ (iu (vs:=[]) trivial fun w hs=>P1 1 U E D hs)
 refine bk 1 U<|RK H<|aZ U<|ct<|aF<|KK P<|ak<|rP 2 [] mn ?_
 refine aB ?_
 refine aU (L ⟨((i+1),B9),⟨I,E,D⟩⟩ _ _ _ U os (aT U) (aI [0,1]))
end
section
open Go.RowKit
theorem OV (x:Int):
 eB Tryz.prog 169 [(vI x)] [] (vB false):=by
 refine bG kr Tryz.func169 U U fun C Q hQ hN=>?_
 try dsimp only
 refine WS fun _ A=>bk 1 U<|RK A<|WS fun _ B=>rP 4 [] mn ?_
 refine RK B<|av<|Q1 hQ U U U ?_
 simp
theorem Oh (x y:Int):
 eB Tryz.prog 127 [(vI x),(vI y)] [] (vB (decide (x<y))):=by
 refine bG kr Tryz.func127 U U fun C Q hQ hN=>?_
 try dsimp only
 refine WS fun _ A=>bk 1 U<|RK A<|WS fun _ B=>bk 1 U<|rS (CL (OV x) (aJ) U)<|rP 11 [] mn ?_
 refine RK B<|av<|Q1 hQ U U U ?_
 exact cB (gN.2 I)
theorem H6 (l:List Int) (lA:OA) (lC:Nat) (hlen:l.length≤1000000):
 D_ Tryz.prog 121 [(vS lA l.length lC),(vI 0),(vI (l.length:Int))] [] (own lA lC 3 1 (l.map iC)) (fun (x:(List Int))=>(vT [])) (fun (x:(List Int))=>x.Perm l∧x.Pairwise (· ≤ ·)) (fun (x:(List Int))=>(own lA lC 3 1 (x.map iC))):=by
 refine mY kr Tryz.func121 U U fun g Q hQ hN=>?_
 try dsimp only
 refine WS fun _ X=>bk 1 U<|rS (SX (cd (r:= .int .i64 1) U U U (iq ⟨dc,dc⟩)) U U)<|rP 1 [] mn ?_
 refine RK X<|ax ?_
 have A:(1≤1∧(1≤l.length∨1=1))∧(l.length=l.length)∧(l.Perm l)∧(QG l 1):=by exact ⟨I,rfl,List.Perm.refl _,Pj⟩
 refine bJ (ι:={z:Nat×(List Int) // (1≤z.1∧(z.1≤l.length∨z.1=1))∧(z.2.length=l.length)∧(z.2.Perm l)∧(QG z.2 z.1)}) [0,1,2] [] U U (fun z=>[(6,(vI (z.1.1:Int)))]) (fun z=>[(own lA lC 3 1 (z.1.2.map iC))]) (fun _=>rfl) (fun _=>rfl) (fun z=>l.length-z.1.1) ⟨(1,l),A⟩ (aT U) (aI [0]) ?_
 clear A
 rintro ⟨⟨i,m⟩,⟨K,AB,E,F⟩⟩ J2 M
 try dsimp only at K AB E F
 try dsimp only
 refine aj fun _ Y=>WS fun _ Z=>rP 3 [] mn ?_
 refine RK Z<|bR U (aN fun e=>?_) (aO fun e=>?_)
 ·refine bB<|ab<|ab<|ay<|LM hN m 0 [] mn U U U U ?_
  exact ⟨E,OL F I⟩
 refine WK Y<|aj fun _ O=>ax<|WS fun _ b=>rP 2 [] mn ?_
 refine RK b<|ax ?_
 have A:(i≤i)∧(m.length=l.length)∧(m.Perm l)∧(QT m i i):=by exact ⟨Nat.le_refl _,AB,E,Hb F I⟩
 refine bJ (ι:={z:Nat×(List Int) // (z.1≤i)∧(z.2.length=l.length)∧(z.2.Perm l)∧(QT z.2 i z.1)}) [0,1,2,6] [] U U (fun z=>[(7,(vI (z.1.1:Int)))]) (fun z=>[(own lA lC 3 1 (z.1.2.map iC))]) (fun _=>rfl) (fun _=>rfl) (fun z=>z.1.1) ⟨(i,m),A⟩ (aT U) (aI [0]) ?_
 clear A
 rintro ⟨⟨j,q⟩,⟨G,B,C,D⟩⟩ J8 W
 try dsimp only at G B C D
 try dsimp only
 refine aj fun _ c=>aj fun _ J=>dM cE 15 kr<|dP 4 [] mn ?_
 refine jN (t:=19) U (aN fun hj=>?_) (aO fun hj=>?_)
 ·refine mq 11 U<|cR<|RK J<|aZ U<|bB<|ab<|ab<|ay<|aF<|KK O<|ak<|rP 3 [] mn ?_
  refine aB ?_
  refine aU (M ⟨((i+1),q),⟨I,B,C,by exact Md I D⟩⟩ _ _ _ U (by simp only []; omega) (aT U) (aI [0]))
 refine dP 2 [] mn ?_
 obtain ⟨x,hx⟩:=aK q j I
 have L:=bQ iC hx
 refine dS (IA j U (ae (n:=l.length) 0 U sq) cK dc I I) ?_
 refine dS (gl j 0 (vI x) U cp (ae (n:=q.length) 0 U sm) L U dc U)<|dP 3 [] mn ?_
 obtain ⟨y,hy⟩:=aK q (j-1) I
 have V:=bQ iC hy
 refine dS (IA (j-1) U (ae (n:=l.length) 0 U sq) cK dc I I) ?_
 refine dS (gl (j-1) 0 (vI y) U cp (ae (n:=q.length) 0 U sm) V U dc U)<|dS (CL (Oh x y) (aJ) U)<|dP 1 [] mn ?_
 refine cR<|RK J<|bR U (aN fun H=>?_) (aO fun H=>?_)
 ·refine bB<|ab<|ab<|ay<|aF<|KK O<|ak<|rP 3 [] mn ?_
  refine aB ?_
  refine aU (M ⟨((i+1),q),⟨I,B,C,by exact LB hx hy I G H D⟩⟩ _ _ _ U (by simp only []; omega) (aT U) (aI [0]))
 refine WK c<|aj fun _ N=>ax<|dK cE [15,16,17] [8,9,12,13,14] [] [] [0] U U U U U<|eS U (MV U)<|eS U (MV U)<|eS U (MV U)<|eS U (MV U)<|eS U (BI U (sN ⟨I,I⟩))<|eS U (MV U)<|eS U (MV U)<|eS U (BI U (sN ⟨I,I⟩)) ?_
 refine fS U (IA (j-1) U (ae (n:=l.length) 0 U sq) cK dc I I) ?_
 refine fS U (gl (j-1) 0 (vI y) U cp (ae (n:=q.length) 0 U sm) V U dc U)<|eS U (MV U)<|eS U (MV U) ?_
 refine fS U (IA j U (ae (n:=l.length) 0 U sq) cK dc I I) ?_
 refine fS U (gl j 0 (vI x) U cp (ae (n:=q.length) 0 U sm) L U dc U) ?_
 refine fS U (IA j U (ae (n:=l.length) 0 U sq) cK dc I I) ?_
 refine eU U<|cf U fun T12 P=>df (k:=j) (o:=0) (vs:=[(vI y)]) (es':=(List.map iC (q.set j y))) (C':=[(own lA lC 3 1 (List.map iC (q.set j y)))]) 0 U U U zb U U U U L U dc (by exact (List.map_set (f:=iC) (l:=q) (i:=j) (a:=y)).symm) U<|aB (P _ _ (aI []) ?_)
 refine cf U fun T13 R=>?_
 obtain ⟨d,AA⟩:=aK (q.set j y) (j-1) os
 have hx15m:(List.map iC (q.set j y))[(j-1)]? =some (iC d):=by rw [eT,AA]; rfl
 refine rS (IA (j-1) U (ae (n:=l.length) 0 U sq) cK dc I I) ?_
 refine aB (R _ _ (aI []) ?_)
 refine cf U fun T16 S=>df (k:=(j-1)) (o:=0) (vs:=[(vI x)]) (es':=(List.map iC ((q.set j y).set (j-1) x))) (C':=[(own lA lC 3 1 (List.map iC ((q.set j y).set (j-1) x)))]) 0 U U U zb U U U U hx15m U dc (by exact (List.map_set (f:=iC) (l:=(q.set j y)) (i:=(j-1)) (a:=x)).symm) U<|aB (S _ _ (aI []) ?_)
 refine fF U<|aF<|KK N<|ak<|rP 3 [] mn ?_
 refine aB ?_
 have T:(vI (((j-1):Nat):Int))=(vI ((j:Int)-1)):=by exact cI I
 refine aU (W ⟨((j-1),((q.set j y).set (j-1) x)),⟨I,by simp; exact B,(I2 hx hy).trans C,Kr hx hy I G H D⟩⟩ _ _ _ U (by simp only []; omega) (cQ 4<|bj U T<|dI.nil _) (aI [0]))
theorem Of (x:Int) (hx:0≤x∧x≤100):
 lB Tryz.prog 131 [(Value.int .u64 x)] [] (fun (x:Int)=>(vI x)) (fun (x:Int)=>True) (fun (x:Int)=>[]):=by
 refine dh kr Tryz.func131 U U fun N Q hQ hN=>?_
 try dsimp only
 refine WS fun _ D=>bk 1 U<|RK D<|aj fun _ E=>WS fun _ F=>rP 1 [] mn ?_
 refine rS (BI U Gk)<|RK F<|cP U (aO fun L=>?_) (aN fun L=>?_)
 ·exfalso; omega
 refine WK E<|aj fun _ G=>WS fun _ H=>rP 1 [] mn ?_
 refine rS (BI U Gk)<|RK H<|cP U (aO fun M=>?_) (aN fun M=>?_)
 ·exfalso; omega
 refine WK G<|aj fun _ AA=>WS fun _ J=>rP 1 [] mn ?_
 refine rS (BI U Gk)<|RK J<|cP U (aO fun C=>?_) (aN fun C=>?_)
 ·exfalso; omega
 refine WK AA<|WS fun _ B=>bk 2 U<|rS (SX (uB (m:=x) U U RU UR (CO (by first|assumption|omega))) U U)<|Qn (k:=(x).toNat) U U U Wq I (Nat.lt_of_lt_of_le (m:=200) I (of_decide_eq_true kr)) U fun A K=>rS (SX (uB (m:=A) U U UR qy (v7 (by first|assumption|omega))) U U)<|rP 2 [] mn ?_
 refine RK B<|av<|LX hQ (0+A) [] [] mn U U U U ?_
 trivial
theorem Q9 (x:Int) (hx:0≤x∧x≤100):
 lB Tryz.prog 88 [(Value.int .u64 x)] [] (fun (x:Int)=>(vI x)) (fun (x:Int)=>True) (fun (x:Int)=>[]):=by
 refine dh kr Tryz.func88 U U fun F Q hQ hN=>?_
 try dsimp only
 refine WS fun _ A=>bk 1 U<|RK A<|aj fun _ B=>aZ U<|WK B<|WS fun _ C=>rP 1 [] mn ?_
 refine cX (Of x hx) (aJ) U fun E D=>?_
 try dsimp only
 refine rP 1 [] mn ?_
 refine RK C<|av<|LX hQ E [] [] mn U U U U ?_
 trivial
theorem Uj (l:List Int) (lA:OA) (lC:Nat) (u:Int) (hlen:l.length≤12):
 D_ Tryz.prog 87 [(vS lA l.length lC),(vI 0),(vI (l.length:Int)),(vI u)] [] (own lA lC 3 1 (l.map iC)) (fun (x:(List Int))=>(vT [])) (fun (x:(List Int))=>x.Perm l∧x.Pairwise (· ≤ ·)) (fun (x:(List Int))=>(own lA lC 3 1 (x.map iC))):=by
 refine mY kr Tryz.func87 U U fun K Q hQ hN=>?_
 try dsimp only
 refine WS fun _ A=>bk 1 U<|RK A<|WS fun _ B=>bk 1 U<|RK B<|ax<|ki 1<|eH fun R3 AA=>ax<|WS fun _ C=>bk 4 U<|RK C<|aj fun _ H=>WS fun _ D=>rP 2 [] mn ?_
 refine RK D<|bR U (aN fun G=>?_) (aO fun G=>?_)
 ·exfalso; omega
 refine WS fun _ E=>rP 3 [] mn ?_
 refine jm 0 U U U U (H6 l lA lC I) U kJ U (fun J F=>?_)
 try dsimp only
 refine RK E<|av<|LM hQ J 0 [] mn U U U U ?_
 assumption
theorem Bp (l:List Int) (lA:OA) (lC:Nat) (hlen:l.length≤12):
 D_ Tryz.prog 54 [(vS lA l.length lC)] [] (own lA lC 3 1 (l.map iC)) (fun (x:(List Int))=>(vT [])) (fun (x:(List Int))=>x.Perm l∧x.Pairwise (· ≤ ·)) (fun (x:(List Int))=>(own lA lC 3 1 (x.map iC))):=by
 refine mY kr Tryz.func54 U U fun F Q hQ hN=>?_
 try dsimp only
 refine WS fun _ A=>bk 3 U<|RK A<|ak<|rP 3 [] mn ?_
 refine rS (SX (uB (m:=(l.length:Int)) U U qy Tq (AH (by first|assumption|omega))) U U)<|cX (Q9 (l.length:Int) I) (aJ) U fun E B=>?_
 try dsimp only
 refine jm 0 U U U U (Uj l lA lC E hlen) U kJ U (fun D C=>?_)
 try dsimp only
 refine aB<|LM hN D 0 [] mn U U U U ?_
 assumption
end
section
open Go.RowKit
theorem KX (nl:List Int) (nlA:OA) (nlC g1:Nat) (hlen:nl.length≤12):
 lB Tryz.prog 120 [(vS none 0 0),(Value.func (.func 112) [].toArray [(vP g1)].toArray)] [(rd nlA nl.length 1 (nl.map iC)),(cm g1 29 [(vS nlA nl.length nlC)])] (fun (x:(OA)×Nat)=>(vS x.1 nl.length x.2)) (fun (x:(OA)×Nat)=>True) (fun (x:(OA)×Nat)=>[(own x.1 x.2 3 1 (nl.map iC))]):=by
 refine dh kr Tryz.func120 U U fun R Q hQ hN=>?_
 try dsimp only
 refine WS fun _ D=>ve U U fun J=>bk 1 U<|RK D<|aj fun _ E=>WS fun _ G=>rP 1 [] mn ?_
 refine RK G<|ax<|k6 1 U (by exact fun _ h=>h)<|k6 3 U (by exact fun _ h=>h)<|gu 3 1 ?_
 refine GH (L0:=[(2,(vP J))]) (F:=[(rd nlA nl.length 1 (nl.map iC)).ro,(cm g1 29 [(vS nlA nl.length nlC)]).ro]) (xs:=(qT nl)) (fun k (y:(OA)×Nat)=>True) (fun k y=>[(own y.1 y.2 3 1 ((nl.take k).map iC)),(cm J 29 [(vS y.1 ((nl.take k).length) y.2)]),(rd nlA nl.length 1 (nl.map iC)).ro]) (fun _ (_:Unit)=>False) (fun _ _=>[]) [0,3,4] [2,1] (none,0) U U (I7 nl nlA nlC g1 (by first|assumption|omega|(simp; done))) U U U (by trivial) (by simp only [List.forall_mem_cons,List.not_mem_nil,false_imp_iff,implies_true,and_true]; exact ⟨⟨_,sm,(dT (bU _))⟩,⟨_,sm,(dT (bU _))⟩⟩) (by exact Eg) U (aT U) ?_ ?_ (fun _ _ _ h=>h.elim) (fun _ _ h=>h.elim)
 rotate_left 1
 ·rintro O ⟨a,c⟩ AA
  try dsimp only
  rw [yU]
  refine aF<|KK E<|WS fun _ A=>rP 2 [] (mc 4 U mn) ?_
  refine RK A<|av<|hQ _ _ _ (o4 0 U U<|iu (vs:=[(vS a nl.length c)]) ⟨U,trivial⟩ fun w hs=>Ke (a,c) [3] ?_ ?_ U U U hs)
  ·rfl
  ·trivial
 rintro k x ⟨a,c⟩ l ra rb S T K5 Qr6 hx K H B L M
 obtain ⟨y,hy,rfl⟩:=HT hx
 try dsimp only
 refine ak<|rP 1 [] mn ?_
 refine aB<|aU (H _ _ ?_)
 refine ax<|ak<|rP 2 [] (mc 2 U mn) ?_
 refine dj (xs:=[.tmp 9]) (cs:=[(vI y)]) U cK jA U U U U (by simp [Value.cells]) U U fun P=>?_
 refine cL (es2:=(List.map iC (nl.take (k+1)))) (m':=(nl.take (k+1)).length) 2 U U U o9 U U sm (bf (es:=List.map iC [y]) 0 U U (by simp [bH]) U) (jX _) (by simp; omega) (by simp [maxLen]; omega) (by rw [mA hy]; simp) sm U fun N C=>?_
 try dsimp only
 refine VD U xy U U<|aB<|aF ?_
 exact B (N,C) _ _ (by trivial) (aI [1,2,3,4])
theorem I0 (nl:List Int) (nlA:OA) (nlC g1:Nat) (hlen:nl.length≤12):
 lB Tryz.prog 85 [(Value.func (.func 112) [].toArray [(vP g1)].toArray)] [(rd nlA nl.length 1 (nl.map iC)),(cm g1 29 [(vS nlA nl.length nlC)])] (fun (x:(OA)×Nat)=>(vS x.1 nl.length x.2)) (fun (x:(OA)×Nat)=>True) (fun (x:(OA)×Nat)=>[(own x.1 x.2 3 1 (nl.map iC))]):=by
 refine dh kr Tryz.func85 U U fun G Q hQ hN=>?_
 try dsimp only
 refine WS fun _ A=>bk 1 U<|RK A<|WS fun _ B=>rP 1 [] mn ?_
 refine cX (KX nl nlA nlC g1 hlen) (bo [0,1]) U fun F E=>?_
 obtain ⟨C,D⟩:=F
 try dsimp only
 refine rP 1 [] mn ?_
 refine RK B<|av<|LX hQ (C,D) [0] [] mn U U U U ?_
 trivial
theorem yn (nl:List Int) (nlA:OA) (nlC g1:Nat) (hlen:nl.length≤12):
 lB Tryz.prog 51 [(Value.func (.func 112) [].toArray [(vP g1)].toArray)] [(rd nlA nl.length 1 (nl.map iC)),(cm g1 29 [(vS nlA nl.length nlC)])] (fun (x:(OA)×Nat)=>(vS x.1 nl.length x.2)) (fun (x:(OA)×Nat)=>True) (fun (x:(OA)×Nat)=>[(own x.1 x.2 3 1 ((dE nl).map iC))]):=by
 refine dh kr Tryz.func51 U U fun J Q hQ hN=>?_
 try dsimp only
 refine WS fun _ B=>bk 1 U<|RK B<|WS fun _ C=>rP 1 [] mn ?_
 refine cX (I0 nl nlA nlC g1 hlen) (bo [0,1]) U fun AA H=>?_
 obtain ⟨F,G⟩:=AA
 try dsimp only
 refine bk 1 U<|RK C<|WS fun _ D=>rP 1 [] mn ?_
 refine jm 0 U U U U (Bp nl F G hlen) U kJ U (fun m A=>?_)
 try dsimp only
 refine RK D<|WS fun _ E=>?_
 obtain rfl:=re A.1 A.2
 skip
 refine rP 2 [] mn ?_
 refine RK E<|av<|LX hQ (F,G) [0] [] mn U U U U ?_
 trivial
end
section
open Go.RowKit
theorem Lm (n lo hi:Int) (g1 g2:Nat):
 eB Tryz.prog 100 [(vI n),(vP g1),(vP g2)] [(cm g1 3 [(vI lo)]),(cm g2 3 [(vI hi)])] (vB (decide (n<lo∨hi<n))):=by
 refine bG kr Tryz.func100 U U fun D Q hQ hN=>?_
 try dsimp only
 refine WS fun _ B=>bk 1 U<|RK B<|WS fun _ A=>rP 4 [] (mr 0 U mn) ?_
 refine dx (t:=8) U (aO fun C=>?_) (aN fun C=>?_)
 ·refine rP 5 [] mn ?_
  refine RK A<|av<|Q1 hQ U U U ?_
  exact cB (gF I).symm
 refine rP 5 [] (mr 1 U mn) ?_
 refine RK A<|av<|Q1 hQ U U U ?_
 exact cB (gN.2 I)
theorem jn (lo hi:Int) (l:List Int) (lA:OA) (lC:Nat) (hlen:l.length≤1000000):
 eB Tryz.prog 60 [(vI lo),(vI hi),(vS lA l.length lC)] [(rd lA l.length 1 (l.map iC))] (vB (qu lo hi l)):=by
 refine bG kr Tryz.func60 U U fun F Q hQ hN=>?_
 try dsimp only
 refine WS fun _ D=>ve U U fun A=>ve U U fun B=>bk 1 U<|RK D<|WS fun _ E=>rP 1 [] mn ?_
 refine rS (FU U) ?_
 refine rS (CL (sZ l lA lC (Value.func (.func 100) [].toArray [(vP A),(vP B)].toArray) (fun C=>(decide (C<lo∨hi<C))) (fp [(cm A 3 [(vI lo)]),(cm B 3 [(vI hi)])]) (by intro C _; exact od (fi:=[]) (ca:=[(vP A),(vP B)]) (mE (Lm C lo hi A B) (bo [0,1]))) hlen) (fB 2 U U<|aq (mH (bo [1,0]))<|aJ) U) ?_
 refine rP 2 [] mn ?_
 refine RK E<|av ?_
 exact Q1 hQ U U U U
theorem Wb (n d:Int) (hd:2≤d):
 eB Tryz.prog 95 [(vI n),(vI d)] [] (vI (So n d)):=by
 refine bG kr Tryz.func95 U U fun C Q hQ hN=>?_
 try dsimp only
 refine WS fun _ A=>bk 1 U<|RK A<|WS fun _ B=>bk 2 U<|rS (BI U RH)<|rS (BI U JM)<|bk 1 U<|rS (BI U (QN I (Rf (Sk _) hd)))<|rP 1 [] mn ?_
 refine RK B<|av ?_
 exact Q1 hQ U U U U
theorem Pv (n d:Int) (hd:1≤d∧d≤1000000) (hn:0≤n∧n≤1000000000000000):
 eB Tryz.prog 95 [(vI n),(vI d)] [] (vI (pI n d)):=by
 refine bG kr Tryz.func95 U U fun C Q hQ hN=>?_
 try dsimp only
 refine WS fun _ A=>bk 1 U<|RK A<|WS fun _ B=>bk 5 U<|rS (BI U (uk I I I))<|rP 1 [] mn ?_
 refine RK B<|av ?_
 exact Q1 hQ U U U U
theorem F4 (c:ar) (sA:OA) (sC:Nat) (at_:Int) (hc:eJ c) (ha:0≤at_∧at_≤90000000):
 eB Tryz.prog 139 [(vA (dD.cells (dD.mk c.dv (bp.mk sA c.aX.length sC)))),(vI at_)] [(rd sA c.aX.length 3 (c.aX.map cr.cells))] (vA (aa.cells (gQ c at_))):=by
 have X:=hc.len
 have J:=hc.sM
 refine bG kr Tryz.func139 U U fun e Q hQ hN=>?_
 try dsimp only
 refine WS fun _ M=>fZ U fun b=>AL U dA fun d=>RK M<|WS fun _ N=>rS (SX (bg (xs:=[(0,.const (vI (-1099511627776))),(1,.const (vI 1099511627776))]) (cs:=(aa.cells (aa.mk (-1099511627776) 1099511627776))) U U (bh gJ U)) U U)<|AL U dA fun W=>gd U cz U<|RK N<|aj fun _ O=>aj fun _ P=>?_
 have R:(aa.cells (aa.mk (-1099511627776) 1099511627776))=(aa.cells (gI c at_ 0)):=by rfl
 rw [R]
 refine ak<|rP 4 [] (mc 2 U mn) ?_
 refine RK P<|ax ?_
 have A:(0≤c.aX.length):=by exact Nat.zero_le _
 refine bJ (ι:={z:Nat // (z≤c.aX.length)}) [1,2,4,5,11,12] [1,2,3] U U (fun z=>[(13,(vI (z.1:Int)))]) (fun z=>[(cm W 45 (aa.cells (gI c at_ z.1)))]) (fun _=>rfl) (fun _=>rfl) (fun z=>c.aX.length-z.1) ⟨0,A⟩ (aT U) (aI [1,2,3,0]) ?_
 clear A
 rintro ⟨i,S⟩ J9 L
 try dsimp only
 refine WS fun _ B=>rP 1 [] mn ?_
 refine RK B<|aj fun _ C=>bR U (aN fun K=>?_) (aO fun K=>?_)
 ·refine bB<|ab<|ab<|ay<|KK O<|WS fun _ G=>rP 1 [] (mc 3 U mn) ?_
  refine gd U cz U<|RK G<|av<|I3 hQ [0] (mc 0 U mn) U ?_
  rw [n7 (show c.aX.length≤i by omega)]
 refine WK C<|aj fun _ D=>ax<|WS fun _ E=>?_
 obtain ⟨x,hx⟩:=aK c.aX i I
 have AA:=bQ cr.cells hx
 refine rS (IA i U (aA 2 U) tW dc I I)<|rS (oE i 0 (cr.cells x) U cp (aA 2 U) AA U dc U U)<|AL U yS fun V=>gd U BE U<|RK E<|WS fun _ F=>rP 5 [0,1] (mc 2 U (mc 0 U mn)) ?_
 have T:=hc.sV hx
 have Z:=DA hc ha i
 have Y:=F6 J ha (show 0≤x.At∧x.At≤90000000 by omega)
 refine fP 5 [] (mc 0 U mn) U<|rS (MX U)<|rS (BI U (Gj ⟨I,I⟩))<|rS (CL (Pv (c.dv*(max (at_-x.At) (x.At-at_))) 1000000 I I) (aJ) U)<|bk 1 U<|RK F<|ak<|rP 6 [0,1] (mc 4 U (mc 0 U mn)) ?_
 have a:0≤pI (c.dv*max (at_-x.At) (x.At-at_)) 1000000∧pI (c.dv*max (at_-x.At) (x.At-at_)) 1000000≤90001:=vl J ha T.1
 refine bk 1 U<|rS (MX U)<|rP 7 [0,1] (mc 4 U (mc 0 U mn)) ?_
 refine rS (MN U)<|rS (SX (bg (xs:=[(0,.tmp 37),(1,.tmp 45)]) (cs:=(aa.cells (aa.mk (max ((gI c at_ i).Lo) (x.er.Lo-(pI (c.dv*(max (at_-x.At) (x.At-at_))) 1000000))) (min ((gI c at_ i).Hi) (x.er.Hi+(pI (c.dv*(max (at_-x.At) (x.At-at_))) 1000000)))))) U U (bh gJ U)) U U)<|PU U cz U<|aB<|aF<|KK D ?_
 have H:(aa.cells (aa.mk (max ((gI c at_ i).Lo) (x.er.Lo-(pI (c.dv*(max (at_-x.At) (x.At-at_))) 1000000))) (min ((gI c at_ i).Hi) (x.er.Hi+(pI (c.dv*(max (at_-x.At) (x.At-at_))) 1000000)))))=(aa.cells (gI c at_ (i+1))):=by rw [kf hx]; rfl
 rw [H]
 refine ak<|rP 2 [] mn ?_
 refine aB ?_
 have AB:(vI (((i+1):Nat):Int))=(vI ((i:Int)+1)):=by exact cI I
 refine aU (L ⟨(i+1),(by first|omega|(simp only []; omega))⟩ _ _ _ U os (cQ 6<|bj U AB<|dI.nil _) (aI [1,2,3,4]))
theorem QK (c:ar) (sA:OA) (sC:Nat) (hlen:c.aX.length≤1000000) (hcap:c.aX.length≤sC):
 eB Tryz.prog 157 [(vA (dD.cells (dD.mk c.dv (bp.mk sA c.aX.length sC))))] [(rd sA c.aX.length 3 (c.aX.map cr.cells))] (vB (decide (eJ c))):=by
 refine bG kr Tryz.func157 U U fun w0 Q hQ hN=>?_
 try dsimp only
 refine WS fun _ Bb=>fZ U fun b2=>bk 1 U<|RK Bb<|BC U<|aj fun _ Bg=>WS fun _ q=>rP 2 [] (mc 0 U mn) ?_
 refine dj (xs:=[.tmp 11]) (cs:=[(vI c.dv)]) U cK jA U U U U (by simp [Value.cells]) U U fun b5=>?_
 refine rS (CL (eB.eq (jn 0 1000 ([c.dv]) (some ⟨b5,0,none⟩) 1 (by (simp; done))) cZ) (aq (bf 0 U U (by simp [bH]) U)<|aJ) U) ?_
 refine rP 2 [] mn ?_
 refine dx (t:=15) U (bw fun AB=>?_) (bu fun AB=>?_)
 ·refine bk 7 U<|RK q<|aQ U<|WS fun _ Bs=>rP 1 [] mn ?_
  refine RK Bs<|av<|Q1 hQ U U U ?_
  exact cB (cy fun h=>AB h.sM).symm
 refine rP 3 [] (mc 1 U mn) ?_
 refine dj (xs:=[.tmp 18]) (cs:=[(vI (c.aX.length:Int))]) U cK jA U U U U (by simp [Value.cells]) U U fun b7=>?_
 refine rS (CL (eB.eq (jn 1 5 ([(c.aX.length:Int)]) (some ⟨b7,0,none⟩) 1 (by (simp; done))) cZ) (aq (bf 0 U U (by simp [bH]) U)<|aJ) U) ?_
 refine rP 2 [] mn ?_
 refine RK q<|cP U (bw fun O=>?_) (bu fun O=>?_)
 ·refine WS fun _ B3=>rP 1 [] mn ?_
  refine RK B3<|av<|Q1 hQ U U U ?_
  exact cB (cy fun h=>O (by have:=h.len; omega)).symm
 refine WK Bg<|WS fun _ B7=>bk 1 U<|RK B7<|WS fun _ R=>bk 1 U<|RK R<|aj fun _ S=>AY<|KK S<|aj fun _ K=>WS fun _ T=>rP 4 [] (mc 2 U mn) ?_
 refine RK T<|ax ?_
 have B:(0≤c.aX.length)∧(ti c 0):=by exact ⟨Nat.zero_le _,HA⟩
 have r:(vI (kH c 0))=(vI (-1)):=by rw [gO rfl]
 refine bJ (ι:={z:Nat // (z≤c.aX.length)∧(ti c z)}) [1,2,4,24,25] [2,3] U U (fun z=>[(3,(vI (kH c z.1))),(26,(vI (z.1:Int)))]) (fun z=>[]) (fun _=>rfl) (fun _=>rfl) (fun z=>c.aX.length-z.1) ⟨0,B⟩ (bj U r<|aT U) (aI [2,3]) ?_
 clear B
 rintro ⟨i,⟨L,C⟩⟩ J15 P
 try dsimp only
 have C2: -1≤kH c i∧kH c i≤86400000:=QE L C
 refine WS fun _ AA=>rP 1 [] mn ?_
 refine RK AA<|aj fun _ V=>bR U (aN fun A6=>?_) (aO fun A6=>?_)
 ·refine bB<|ab<|ab<|ay<|KK K<|WS fun _ f=>rP 2 [] mn ?_
  refine RK f<|av<|Q1 hQ U U U ?_
  exact cB (gF (Hf AB I (by have e:i=c.aX.length:=I; rw [← e]; exact C))).symm
 refine WK V<|aj fun _ W=>ax<|WS fun _ X=>rP 1 [] mn ?_
 obtain ⟨x,hx⟩:=aK c.aX i I
 have Ck:=bQ cr.cells hx
 refine rS (IA i U (aA 1 U) tW dc I I)<|rS (oE i 0 (cr.cells x) U cp (aA 1 U) Ck U dc U U)<|AL U yS fun Cp=>rP 1 [] mn ?_
 refine gd U BE U<|RK X ?_
 refine np (ι:=Unit) [1,2,3,5,6,24,25,26] [0,1,2] U U (fun z=>[(4,(vB (decide (fG c i x))))]) (fun z=>[]) (fun _=>rfl) (fun _=>rfl) ?_ fun K22 G=>?_
 ·intro _
  try dsimp only
  refine aj fun _ Y=>WS fun _ Z=>fP 3 [] (mc 1 U mn) U<|rS (VT i U tW I I)<|rP 2 [] mn ?_
  refine RK Z<|ax ?_
  have B:(0≤i)∧((decide (fG c i x))=(decide (mI c i x 0))):=by exact ⟨Nat.zero_le _,gN.2 Fz.symm⟩
  refine bJ (ι:={z:Nat×Bool // (z.1≤i)∧(z.2=(decide (mI c i x z.1)))}) [1,2,3,5,6,24,25,26,59,60] [0,1,2] U U (fun z=>[(4,(vB z.1.2)),(61,(vI (z.1.1:Int)))]) (fun z=>[]) (fun _=>rfl) (fun _=>rfl) (fun z=>i-z.1.1) ⟨(0,(decide (fG c i x))),B⟩ (aT U) (aI [0,1,2]) ?_
  clear B
  rintro ⟨⟨k,b⟩,⟨M,A⟩⟩ J25 F
  try dsimp only at M A
  try dsimp only
  refine WS fun _ a=>rP 1 [] mn ?_
  refine RK a<|aj fun _ d=>bR U (aN fun A8=>?_) (aO fun A8=>?_)
  ·refine bB<|ab<|ab<|ay<|KK Y<|aj fun _ m=>WS fun _ n=>rP 2 [] mn ?_
   refine RK n<|cP U (fun D=>?_) (fun D=>?_)
   ·rw [Bool.not_eq_true'] at D
    refine bB<|ab<|iZ U<|ab<|ab<|ay<|KK K<|WS fun _ p=>rP 2 [] mn ?_
    refine RK p<|av<|Q1 hQ U U U ?_
    exact cB (by have e:k=i:=I; rw [e] at A; rw [D] at A ⊢; exact (cy (Ks hx (of_decide_eq_false A.symm))).symm)
   rw [Bool.not_eq_false'] at D
   refine WK m<|ak<|fP 3 [] (mc 0 U mn) U<|aB<|aF<|KK W<|ak<|rP 2 [] mn ?_
   refine aB ?_
   have A0:(vB true)=(vB b):=by exact cB D.symm
   have A1:(vI (kH c (i+1)))=(vI x.At):=by rw [oH hx]
   have A2:(vI (((i+1):Nat):Int))=(vI ((i:Int)+1)):=by exact cI I
   refine aU (P ⟨(i+1),⟨I,Hh C hx (by have e:k=i:=I; rw [e] at A; exact of_decide_eq_true (A.symm.trans D))⟩⟩ _ _ _ U os (dI.cons U<|dI.cons U<|bj U A0<|dI.cons U<|dI.cons U<|bj U A1<|bj U A2<|dI.nil _) (aI [1,2]))
  refine WK d<|aj fun _ H=>ax<|WS fun _ g=>?_
  obtain ⟨o,ho⟩:=aK c.aX k I
  have B9:=bQ cr.cells ho
  refine rS (SK k U (aA 2 U) tW dc I I I)<|rS (oE k 0 (cr.cells o) U cp (aA 2 U) B9 U dc U U)<|AL U yS fun Cx=>gd U BE U<|RK g<|WS fun _ l=>fP 6 [0,1,2] (mc 2 U (mc 1 U (mc 0 U mn))) U<|rS (BI U JM)<|rS (BI U QA)<|rS (CL (Wb (BK (c.dv*(BK (x.At-o.At)))) 1000000 I) (aJ) U)<|bk 1 U<|RK l<|ak<|rP 2 [] mn ?_
  refine ck (t:=75) U (fun J=>?_) (fun J=>?_)
  ·refine bk 6 U<|bk 16 U<|aB<|aF<|KK H<|ak<|rP 2 [] mn ?_
   refine aB ?_
   have AO:(vI (((k+1):Nat):Int))=(vI ((k:Int)+1)):=by exact cI I
   refine aU (F ⟨((k+1),false),⟨I,by exact (cy fun h=>by have h2:=((tq ho).1 h).1; rw [A] at J; exact absurd (gF h2) (by rw [J]; decide)).symm⟩⟩ _ _ _ U os (cQ 11<|bj U AO<|dI.nil _) (aI [1,2,3]))
  refine rP 6 [0,1] (mc 1 U (mc 0 U mn)) ?_
  have A3:mI c i x k:=of_decide_eq_true (A.symm.trans J)
  obtain ⟨Ci,C3,Di⟩:=uK (fun j y hj hy=>(C j y hj hy).1) hx A3.1 I ho
  have N:=Nq AB Ci
  refine rP 5 [] mn ?_
  refine ck (t:=86) U (aN fun E=>?_) (aO fun E=>?_)
  ·refine bk 11 U<|aB<|aF<|KK H<|ak<|rP 2 [] mn ?_
   refine aB ?_
   have AC:(vI (((k+1):Nat):Int))=(vI ((k:Int)+1)):=by exact cI I
   refine aU (F ⟨((k+1),false),⟨I,by exact (cy fun h=>by have h2:=((tq ho).1 h).2; rw [N] at E; exact E h2.1).symm⟩⟩ _ _ _ U os (cQ 11<|bj U AC<|dI.nil _) (aI [1,2,3]))
  refine fP 11 [0,1] (mc 0 U (mc 1 U mn)) U<|aB<|aF<|KK H<|ak<|rP 2 [] mn ?_
  refine aB ?_
  have w:(vI (((k+1):Nat):Int))=(vI ((k:Int)+1)):=by exact cI I
  refine aU (F ⟨((k+1),(decide ((o.er.Lo-x.er.Hi)≤(So (BK (c.dv*(BK (x.At-o.At)))) 1000000)))),⟨I,by exact gN.2 (by rw [tq ho,N]; rw [N] at E; exact ⟨fun h=>⟨A3,E,h⟩,fun h=>h.2.2⟩)⟩⟩ _ _ _ U os (cQ 11<|bj U w<|dI.nil _) (aI [1,2,3]))
 refine ak<|rP 4 [] (mc 0 U mn) ?_
 refine dj (xs:=[.tmp 34]) (cs:=[(vI x.At)]) U cK jA U U U U (by simp [Value.cells]) U U fun A4=>?_
 refine rS (CL (eB.eq (jn ((kH c i)+1) 86400000 ([x.At]) (some ⟨A4,0,none⟩) 1 (by (simp; done))) cZ) (aq (bf 0 U U (by simp [bH]) U)<|aJ) U) ?_
 refine rP 1 [] mn ?_
 refine ck (t:=37) U (aN fun A9=>?_) (aO fun A9=>?_)
 ·refine rP 19 [] mn ?_
  refine aB ?_
  have v:(decide (fG c i x))=false:=cy (by unfold fG; omega)
  refine aU (jr (cQ 8<|nW U v<|dI.nil _) (aI [1,2,3]) (G ()))
 refine rP 6 [] (mc 1 U mn) ?_
 refine dj (xs:=[.tmp 40,.tmp 43]) (cs:=[(vI x.er.Lo),(vI x.er.Hi)]) U cK jA U U U U (by simp [Value.cells]) U U fun A5=>?_
 refine rS (CL (eB.eq (jn (-10000) 10000 ([x.er.Lo,x.er.Hi]) (some ⟨A5,0,none⟩) 2 (by (simp; done))) rM) (aq (bf 0 U U (by simp [bH]) U)<|aJ) U) ?_
 refine rP 2 [] mn ?_
 refine ck (t:=47) U (aN fun BF=>?_) (aO fun BF=>?_)
 ·refine rP 9 [] mn ?_
  refine aB ?_
  have u:(decide (fG c i x))=false:=cy (by unfold fG; omega)
  refine aU (jr (cQ 8<|nW U u<|dI.nil _) (aI [2,3,4]) (G ()))
 refine rP 9 [] (mc 2 U mn) ?_
 refine aB ?_
 have s:(decide (fG c i x))=(decide (x.er.Lo≤x.er.Hi)):=gN.2 (by unfold fG; omega)
 refine aU (jr (cQ 8<|nW U s<|dI.nil _) (aI [2,3,4]) (G ()))
theorem Sp (ms:List ar) (az:List RA) (k:Nat) (m:ar) (a:RA) (hm:ms[k]? =some m) (ha:az[k]? =some a) (hc:m.aX.length≤a.2∧m.aX.length≤1000000):
 eB Tryz.prog 156 [(vA (dD.cells (dD.mk m.dv (bp.mk a.1 m.aX.length a.2))))] [(fp (aR ar.ia ms az))] (vB (!(decide (eJ m)))):=by
 obtain ⟨C,D⟩:=hc
 refine bG kr Tryz.func156 U U fun F Q hQ hN=>?_
 try dsimp only
 refine WS fun _ A=>fZ U fun E=>bk 1 U<|RK A<|WS fun _ B=>fP 1 [] (mc 0 U mn) U<|rS (CL (QK m a.1 a.2 asm asm) (aq (show jh _ (rd a.1 m.aX.length 3 (m.aX.map cr.cells)).holds from (dC 1 U (bY hm ha (by simp [ar.ia]))))<|aJ) U)<|rP 2 [] mn ?_
 refine RK B<|av ?_
 exact Q1 hQ U U U U
theorem IJ (l:List ar) (az:List RA) (lA:OA) (lC:Nat) (f:Value) (p:ar→Bool) (X:aw) (hf: ∀ (k:Nat) m a,l[k]? =some m→az[k]? =some a→Fb Tryz.prog f [.agg (ar.cells m a).toArray] [X] (.bool (p m))) (hlen:l.length≤1000000) (has:az.length=l.length):
 eB Tryz.prog 180 [(vS lA l.length lC),f] [(rd lA l.length 2 (List.zipWith ar.cells l az)),(fp (aR ar.ia l az)),X] (vI (ur p l)):=by
 refine bG kr Tryz.func180 U U fun T Q hQ hN=>?_
 try dsimp only
 refine WS fun _ AA=>bk 1 U<|RK AA<|aj fun _ J=>WS fun _ K=>rP 3 [] mn ?_
 refine RK K<|ax ?_
 have B:(0≤l.length)∧((l.take 0).any p=false):=by simp
 refine bJ (ι:={z:Nat // (z≤l.length)∧((l.take z).any p=false)}) [0,1,7] [0,1,2] U U (fun z=>[(8,(vI (z.1:Int)))]) (fun z=>[]) (fun _=>rfl) (fun _=>rfl) (fun z=>l.length-z.1) ⟨0,B⟩ (aT U) (aI [0,1,2]) ?_
 clear B
 rintro ⟨i,⟨P,A⟩⟩ J4 H
 try dsimp only
 refine WS fun _ L=>rP 1 [] mn ?_
 refine RK L<|aj fun _ M=>bR U (aN fun S=>?_) (aO fun S=>?_)
 ·refine bB<|ab<|ab<|ay<|KK J<|WS fun _ E=>rP 1 [] mn ?_
  refine RK E<|av<|Q1 hQ U U U ?_
  exact cI (sX I A).symm
 refine WK M<|aj fun _ N=>ax<|WS fun _ O=>bk 2 U<|RK O<|WS fun _ C=>rP 3 [] mn ?_
 obtain ⟨x,hx⟩:=aK l i I
 obtain ⟨xa,G⟩:=aK az i I
 have R:(List.zipWith ar.cells l az)[i]? =some (ar.cells x xa):=dB hx G
 refine rS (IA i U (aA 0 U) uC dc I I)<|rS (oE i 0 (dD.cells (dD.mk x.dv (bp.mk xa.1 x.aX.length xa.2))) U cp (aA 0 U) R U dc U U)<|rS (SX (s7 U U U (hf i x xa hx G) (bo [2])) U U)<|RK C<|cP U (fun hp=>?_) (fun hp=>?_)
 ·refine WS fun _ D=>rP 2 [] mn ?_
  refine RK D<|av<|Q1 hQ U U U ?_
  exact cI (wW hx hp A).symm
 refine ct<|aF<|KK N<|ak<|rP 2 [] mn ?_
 refine aB ?_
 have F:(vI (((i+1):Nat):Int))=(vI ((i:Int)+1)):=by exact cI I
 refine aU (H ⟨(i+1),⟨I,xS hx A hp⟩⟩ _ _ _ U os (cQ 3<|bj U F<|dI.nil _) (aI [0,1,2]))
theorem AK (l:List ar) (az:List RA) (lA:OA) (lC:Nat) (f:Value) (p:ar→Bool) (X:aw) (hf: ∀ (k:Nat) m a,l[k]? =some m→az[k]? =some a→Fb Tryz.prog f [.agg (ar.cells m a).toArray] [X] (.bool (p m))) (hlen:l.length≤1000000) (has:az.length=l.length):
 eB Tryz.prog 155 [(vS lA l.length lC),f] [(rd lA l.length 2 (List.zipWith ar.cells l az)),(fp (aR ar.ia l az)),X] (vB (l.any p)):=by
 refine bG kr Tryz.func155 U U fun C Q hQ hN=>?_
 try dsimp only
 refine WS fun _ A=>bk 1 U<|RK A<|WS fun _ B=>bk 2 U<|rS (CL (IJ l az lA lC f p X (by exact hf) hlen has) (OC 0 1 2 U U U U U U) U)<|rP 2 [] mn ?_
 refine RK B<|av<|Q1 hQ U U U ?_
 exact cB uQ
theorem IL (l:List bE) (lA:OA) (lC:Nat) (f:Value) (p:bE→Bool) (X:aw) (hf: ∀ x0,x0∈l→Fb Tryz.prog f [.agg (bE.cells x0).toArray] [X] (.bool (p x0))) (hlen:l.length≤1000000):
 eB Tryz.prog 181 [(vS lA l.length lC),f] [(rd lA l.length 4 (l.map bE.cells)),X] (vI (ur p l)):=by
 refine bG kr Tryz.func181 U U fun S Q hQ hN=>?_
 try dsimp only
 refine WS fun _ H=>bk 1 U<|RK H<|aj fun _ AA=>WS fun _ J=>rP 3 [] mn ?_
 refine RK J<|ax ?_
 have B:(0≤l.length)∧((l.take 0).any p=false):=by simp
 refine bJ (ι:={z:Nat // (z≤l.length)∧((l.take z).any p=false)}) [0,1,7] [0,1] U U (fun z=>[(8,(vI (z.1:Int)))]) (fun z=>[]) (fun _=>rfl) (fun _=>rfl) (fun z=>l.length-z.1) ⟨0,B⟩ (aT U) (aI [0,1]) ?_
 clear B
 rintro ⟨i,⟨O,A⟩⟩ J4 G
 try dsimp only
 refine WS fun _ K=>rP 1 [] mn ?_
 refine RK K<|aj fun _ L=>bR U (aN fun R=>?_) (aO fun R=>?_)
 ·refine bB<|ab<|ab<|ay<|KK AA<|WS fun _ E=>rP 1 [] mn ?_
  refine RK E<|av<|Q1 hQ U U U ?_
  exact cI (sX I A).symm
 refine WK L<|aj fun _ M=>ax<|WS fun _ N=>bk 2 U<|RK N<|WS fun _ C=>rP 3 [] mn ?_
 obtain ⟨x,hx⟩:=aK l i I
 have P:=bQ bE.cells hx
 refine rS (IA i U (aA 0 U) vx dc I I)<|rS (oE i 0 (bE.cells x) U cp (aA 0 U) P U dc U U)<|rS (SX (s7 U U U (hf x (aS hx)) (bo [1])) U U)<|RK C<|cP U (fun hp=>?_) (fun hp=>?_)
 ·refine WS fun _ D=>rP 2 [] mn ?_
  refine RK D<|av<|Q1 hQ U U U ?_
  exact cI (wW hx hp A).symm
 refine ct<|aF<|KK M<|ak<|rP 2 [] mn ?_
 refine aB ?_
 have F:(vI (((i+1):Nat):Int))=(vI ((i:Int)+1)):=by exact cI I
 refine aU (G ⟨(i+1),⟨I,xS hx A hp⟩⟩ _ _ _ U os (cQ 3<|bj U F<|dI.nil _) (aI [0,1]))
theorem Av (l:List bE) (lA:OA) (lC:Nat) (f:Value) (p:bE→Bool) (X:aw) (hf: ∀ x0,x0∈l→Fb Tryz.prog f [.agg (bE.cells x0).toArray] [X] (.bool (p x0))) (hlen:l.length≤1000000):
 eB Tryz.prog 159 [(vS lA l.length lC),f] [(rd lA l.length 4 (l.map bE.cells)),X] (vB (l.any p)):=by
 refine bG kr Tryz.func159 U U fun C Q hQ hN=>?_
 try dsimp only
 refine WS fun _ A=>bk 1 U<|RK A<|WS fun _ B=>bk 2 U<|rS (CL (IL l lA lC f p X (by exact hf) hlen) (bo [0,1]) U)<|rP 2 [] mn ?_
 refine RK B<|av<|Q1 hQ U U U ?_
 exact cB uQ
end
section
open Go.RowKit
theorem p8 (a:aa) (l:List aa) (lA:OA) (lC:Nat) (ha:lV a) (hl: ∀ z∈l,lV z) (hlen:l.length≤4):
 eB Tryz.prog 175 [(vA (aa.cells a)),(vS lA l.length lC)] [(rd lA l.length 2 (l.map aa.cells))] (vA (aa.cells (kW a l))):=by
 refine bG kr Tryz.func175 U U fun AA Q hQ hN=>?_
 try dsimp only
 refine WS fun _ AB=>fZ U fun R=>AL U dA fun T=>RK AB<|aj fun _ J=>WS fun _ K=>rP 3 [] mn ?_
 refine RK K<|ax ?_
 have A:(0≤l.length):=by exact Nat.zero_le _
 refine bJ (ι:={z:Nat // (z≤l.length)}) [2,4,7,8] [0,2] U U (fun z=>[(9,(vI (z.1:Int)))]) (fun z=>[(cm R 45 (aa.cells (kW a (l.take z.1))))]) (fun _=>rfl) (fun _=>rfl) (fun z=>l.length-z.1) ⟨0,A⟩ (aT U) (aI [0,2,1]) ?_
 clear A
 rintro ⟨i,N⟩ J6 H
 try dsimp only
 refine WS fun _ L=>rP 1 [] mn ?_
 refine RK L<|aj fun _ M=>bR U (aN fun S=>?_) (aO fun S=>?_)
 ·refine bB<|ab<|ab<|ay<|KK J<|aj fun _ D=>?_
  have G:(aa.cells (kW a (l.take i)))=(aa.cells (kW a l)):=by rw [LV I]
  rw [G]
  refine ak<|rP 1 [] (mc 2 U mn) ?_
  refine gd U cz U<|RK D<|av ?_
  exact I3 hQ [0] (mc 0 U mn) U U
 refine WK M<|aj fun _ B=>ax<|WS fun _ C=>?_
 obtain ⟨x,hx⟩:=aK l i I
 have O:=bQ aa.cells hx
 refine rS (IA i U (aA 1 U) hU dc I I)<|rS (oE i 0 (aa.cells x) U cp (aA 1 U) O U dc U U)<|AL U dA fun P=>gd U cz U<|RK C<|ak ?_
 have hb:=Q5 ha hl i
 have hz:=hl x (aS hx)
 unfold lV at hz
 refine rP 10 [0,1,0,1] (mc 3 U (mc 0 U mn)) ?_
 refine rS (SX (bg (xs:=[(0,.tmp 17),(1,.tmp 22)]) (cs:=(aa.cells (aa.mk (((kW a (l.take i)).Lo)+x.Lo) (((kW a (l.take i)).Hi)+x.Hi)))) U U (bh gJ U)) U U)<|UQ U cz U<|aB<|aF<|KK B ?_
 have E:(aa.cells (aa.mk (((kW a (l.take i)).Lo)+x.Lo) (((kW a (l.take i)).Hi)+x.Hi)))=(aa.cells (kW a (l.take (i+1)))):=by rw [zn hx]; rfl
 rw [E]
 refine ak<|rP 2 [] mn ?_
 refine aB ?_
 have F:(vI ((i+1):Int))=(vI ((i:Int)+1)):=by exact cI I
 refine aU (H ⟨(i+1),(by first|omega|(simp only []; omega))⟩ _ _ _ U os (cQ 4<|bj U F<|dI.nil _) (aI [1,2,3]))
theorem F9 (ts:List al) (tsA:OA) (tsC:Nat) (hlen:ts.length≤1000000) (hside: ∀ x∈ts,0≤x.js∧x.js≤255):
 eB Tryz.prog 172 [(vA (bD.cells (bD.mk (bp.mk tsA ts.length tsC))))] [(rd tsA ts.length 9 (ts.map al.cells))] (vT [(vA (eI.cells (eI.mk (bD.mk (bp.mk tsA ts.length tsC))))),(vI (if de ts=true then 0 else 10))]):=by
 refine bG kr Tryz.func172 U U fun E Q hQ hN=>?_
 try dsimp only
 refine WS fun _ A=>fZ U fun C=>AL U My fun D=>bk 1 U<|RK A<|aj fun _ B=>dM cE 4 kr<|m_ 1 [] (mc 1 U mn) U<|dS (SX (bg (xs:=[(0,.tmp 4)]) (cs:=(eI.cells (eI.mk (bD.mk (bp.mk tsA ts.length tsC))))) U U (bh Ta U)) U U)<|m_ 1 [] (mc 1 U mn) U<|dS (CL (Dw ts tsA tsC hlen hside) (bo [2]) U)<|cR<|gd U M5 U<|rP 1 [] mn ?_
 refine RK B<|av ?_
 exact lU hQ [0] (mc 0 U mn) U U
theorem O5 (f:Int) (tsA:OA) (tsN tsC:Nat):
 lB Tryz.prog 186 [(vA (eI.cells (eI.mk (bD.mk (bp.mk tsA tsN tsC))))),(vI f)] [] (fun (x:Nat×Nat)=>(Value.func (.func 190) [].toArray [(Value.pointer (some ⟨x.1,0,none⟩)),(Value.pointer (some ⟨x.2,0,none⟩))].toArray)) (fun (x:Nat×Nat)=>True) (fun (x:Nat×Nat)=>[(cm x.1 3 [(vI f)]),(cm x.2 237 (eI.cells (eI.mk (bD.mk (bp.mk tsA tsN tsC)))))]):=by
 refine dh kr Tryz.func186 U U fun E Q hQ hN=>?_
 try dsimp only
 refine WS fun _ A=>fZ U fun C=>ve U U fun D=>bk 1 U<|RK A<|WS fun _ B=>rS (FU U)<|rP 1 [] mn ?_
 refine RK B<|av<|LX hQ (D,C) [0,1] [] mn U U U U ?_
 trivial
theorem Ib (ts:List al) (tsA:OA) (tsC:Nat) (f:Int) (g1 g2:Nat) (hst: ∀ x∈ts,bP x) (hlen:ts.length≤12) (hf:0≤f∧f≤ts.length):
 NX Tryz.prog 190 [] [(vP g1),(vP g2)] [(rd tsA ts.length 9 (ts.map al.cells)),(cm g1 3 [(vI f)]),(cm g2 237 (eI.cells (eI.mk (bD.mk (bp.mk tsA ts.length tsC)))))] (tD ts f.toNat):=by
 refine Gb kr Tryz.func190 U U fun l J Z A0 p Q hY g d hQ hN=>?_
 try dsimp only
 refine WS fun _ h=>AL U dA fun n=>AL U dA fun o=>RK h<|WS fun _ i=>rP 2 [] (mr 4 U mn) ?_
 refine RK i<|ax ?_
 have P:(0≤ts.length-f.toNat)∧(J 0 A0)∧(Fo A0 p A0):=by exact ⟨Nat.zero_le _,g,d⟩
 have m:(vI (f+(0:Int)))=(vI f):=by exact cI I
 refine bJ (ι:={z:Nat×aw // (z.1≤ts.length-f.toNat)∧(J z.1 z.2)∧(Fo A0 p z.2)}) [0,1,2,4,5] [3,4,5] U U (fun z=>[(6,(vI (f+(z.1.1:Int))))]) (fun z=>[(cm o 45 (aa.cells (gG ts f.toNat z.1.1))),(cm n 45 (aa.cells (eO ts f.toNat z.1.1))),z.1.2]) (fun _=>rfl) (fun _=>rfl) (fun z=>ts.length-f.toNat-z.1.1) ⟨(0,A0),P⟩ (bj U m<|dI.nil _) (aI [3,4,5,0,1,2]) ?_
 clear P
 rintro ⟨⟨k,A⟩,⟨W,R,S⟩⟩ J6 V
 try dsimp only at W R S
 try dsimp only
 refine aj fun _ j=>WS fun _ X=>rP 3 [0,1] (mc 4 U (mc 3 U mn)) ?_
 refine FW 5 hY R S U U U (z8 I) U U (fun B9 C B=>?_) (fun B9 C B=>?_)
 rotate_left 1
 ·refine rP 8 [] mn ?_
  refine RK X<|aZ U<|bB<|ab<|ab<|ay ?_
  refine hN _ _ _ (iu (vs:=[]) trivial fun w hs=>P1 5 U C B hs)
 refine rP 8 [] (mr 2 U mn) ?_
 refine RK X<|bR U (aN fun c=>?_) (aO fun c=>?_)
 ·refine bB<|ab<|ab<|ay ?_
  refine hN _ _ _ (iu (vs:=[]) trivial fun w hs=>T3 5 U (by rw [uy]; have e:ts.length-f.toNat+1=k+1:=I; rw [e]; exact C) B hs)
 refine WK j<|aj fun _ M=>ax<|p9 cE [0,1,2,3,4,5,6,7,10,11,12,13,14,15,16,17] [8,9,18,19,20,21] [true,false,false,false,false,false,false,false,true,false,false,false,false,false,false,false] [8,9,18] [(rd tsA ts.length 9 (ts.map al.cells)).ro,(cm g1 3 [(vI f)]).ro,(cm g2 237 (eI.cells (eI.mk (bD.mk (bp.mk tsA ts.length tsC))))).ro,B9] [(rd tsA ts.length 9 (ts.map al.cells)).ro,(cm g1 3 [(vI f)]).ro,(cm g2 237 (eI.cells (eI.mk (bD.mk (bp.mk tsA ts.length tsC))))).ro,(cm o 45 (aa.cells (gG ts f.toNat k))),(cm n 45 (aa.cells (eO ts f.toNat k))),B9] kr (aI [0,1,2,5]) (aI [0,1,2,3,4,5])<|fS U (LW 4 U cp U U)<|eS U (FA 0 U fc U)<|eS U (FA 0 U fc U)<|eS U (I5 (vS tsA ts.length tsC) 2 U cp U U)<|eS U (MV U) ?_
 obtain ⟨x,hx⟩:=aK ts (f.toNat+k) I
 have a:=bQ al.cells hx
 refine eS U (IA (f.toNat+k) U (aA 0 U) ym dc I I) ?_
 have L:=hst x (aS hx)
 refine eS U (lZ (((f.toNat+k)*9)+1) U (aA 0 U) (Nat.mul_pos I dc) fc U)<|eS U (oE (f.toNat+k) 1 (aa.cells x.kS) U cp (aA 0 U) a U dc U U)<|fS U (LW 3 U cp U U)<|eS U (FA 0 U fc U)<|eS U (FA 0 U fc U)<|eS U (I5 (vS tsA ts.length tsC) 2 U cp U U)<|eS U (MV U)<|eS U (IA (f.toNat+k) U (aA 0 U) ym dc I I)<|eS U (lZ (((f.toNat+k)*9)+3) U (aA 0 U) (Nat.mul_pos I dc) fc U)<|eS U (oE (f.toNat+k) 3 (aa.cells x.l3) U cp (aA 0 U) a U dc U U)<|eU U<|je [8,18] kr (eQ ?_<|eQ ?_<|kX)
 rotate_left 1
 ·refine wa (rem':=[8,9,19,20,21]) U kr fun T14 N=>dj (xs:=[.tmp 39]) (cs:=(aa.cells x.l3)) U hU dA U U U U (by simp [Value.cells,aa.aW]) U U fun T=>aB (N _ _ (aI [1,2,3,6]) (aI [1,2,3,4,5,6]) ?_)
  refine N1 8<|wa (rem':=[9,19,20,21]) U kr fun T16 D=>dj (xs:=[.tmp 29]) (cs:=(aa.cells x.kS)) U hU dA U U U U (by simp [Value.cells,aa.aW]) U U fun AA=>aB (D _ _ (aI [2,3,4,7]) (aI [2,3,4,5,6,7]) ?_)
  refine N1 9<|wa (rem':=[19,20,21]) U kr fun T18 O=>?_
  refine rS (CL (eB.eq (p8 (eO ts f.toNat k) ([x.kS]) (some ⟨AA,0,none⟩) 1 (by exact qM hst I) (by intro z hz; simp only [bI] at hz; subst hz; exact vm L) sm) nM) (aq (bf 0 rfl rfl (by simp [aa.aW]) rfl)<|aJ) rfl) ?_
  refine aB (O _ _ (aI [2,3,4,7]) (aI [2,3,4,5,6,7]) ?_)
  refine N1 19<|NO U U [20,21] fun T19 E=>?_
  refine rS (CL (eB.eq (p8 (gG ts f.toNat k) ([x.l3]) (some ⟨T,0,none⟩) 1 (by exact yq hst I) (by intro z hz; simp only [bI] at hz; subst hz; exact vt L) sm) nM) (aq (bf 1 rfl rfl (by simp [aa.aW]) rfl)<|aJ) rfl) ?_
  refine aB (E _ _ (aI [2,3,4,7]) ?_)
  refine N1 20<|NO U U [21] fun T20 F=>Ow U cz U<|aB (F _ _ (aI [2,3,4,7]) ?_)
  refine N1 21<|NO U U [] fun T21 G=>I4 U cz U<|aB (G _ _ (aI [2,3,4,7]) ?_)
  refine qv<|aF<|KK M ?_
  have H:(aa.cells (mR (eO ts f.toNat k) x.kS))=(aa.cells (eO ts f.toNat (k+1))):=by rw [qe hx]
  rw [H]
  have AB:(aa.cells (mR (gG ts f.toNat k) x.l3))=(aa.cells (gG ts f.toNat (k+1))):=by rw [qc hx]
  rw [AB]
  refine ak<|rP 3 [] mn ?_
  refine aB ?_
  have K:(vI (f+(((k+1):Nat):Int)))=(vI ((f+(k:Int))+1)):=by exact cI I
  refine aU (V ⟨((k+1),B9),⟨I,C,B⟩⟩ _ _ _ U os (cQ 5<|bj U K<|dI.nil _) (aI [2,3,4,5,6,7]))
 refine wa (rem':=[9,18,19,20,21]) U kr fun T14 N=>dj (xs:=[.tmp 29]) (cs:=(aa.cells x.kS)) U hU dA U U U U (by simp [Value.cells,aa.aW]) U U fun T=>aB (N _ _ (aI [1,2,3,6]) (aI [1,2,3,4,5,6]) ?_)
 refine je [9,18] kr (eQ ?_<|eQ ?_<|kX)
 rotate_left 1
 ·refine wa (rem':=[9,19,20,21]) U kr fun T16 D=>dj (xs:=[.tmp 39]) (cs:=(aa.cells x.l3)) U hU dA U U U U (by simp [Value.cells,aa.aW]) U U fun AA=>aB (D _ _ (aI [2,3,4,7]) (aI [2,3,4,5,6,7]) ?_)
  refine N1 9<|wa (rem':=[19,20,21]) U kr fun T18 O=>?_
  refine rS (CL (eB.eq (p8 (eO ts f.toNat k) ([x.kS]) (some ⟨T,0,none⟩) 1 (by exact qM hst I) (by intro z hz; simp only [bI] at hz; subst hz; exact vm L) sm) nM) (aq (bf 1 rfl rfl (by simp [aa.aW]) rfl)<|aJ) rfl) ?_
  refine aB (O _ _ (aI [2,3,4,7]) (aI [2,3,4,5,6,7]) ?_)
  refine N1 19<|NO U U [20,21] fun T19 E=>?_
  refine rS (CL (eB.eq (p8 (gG ts f.toNat k) ([x.l3]) (some ⟨AA,0,none⟩) 1 (by exact yq hst I) (by intro z hz; simp only [bI] at hz; subst hz; exact vt L) sm) nM) (aq (bf 0 rfl rfl (by simp [aa.aW]) rfl)<|aJ) rfl) ?_
  refine aB (E _ _ (aI [2,3,4,7]) ?_)
  refine N1 20<|NO U U [21] fun T20 F=>Ow U cz U<|aB (F _ _ (aI [2,3,4,7]) ?_)
  refine N1 21<|NO U U [] fun T21 G=>I4 U cz U<|aB (G _ _ (aI [2,3,4,7]) ?_)
  refine qv<|aF<|KK M ?_
  have H:(aa.cells (mR (eO ts f.toNat k) x.kS))=(aa.cells (eO ts f.toNat (k+1))):=by rw [qe hx]
  rw [H]
  have AB:(aa.cells (mR (gG ts f.toNat k) x.l3))=(aa.cells (gG ts f.toNat (k+1))):=by rw [qc hx]
  rw [AB]
  refine ak<|rP 3 [] mn ?_
  refine aB ?_
  have K:(vI (f+(((k+1):Nat):Int)))=(vI ((f+(k:Int))+1)):=by exact cI I
  refine aU (V ⟨((k+1),B9),⟨I,C,B⟩⟩ _ _ _ U os (cQ 5<|bj U K<|dI.nil _) (aI [2,3,4,5,6,7]))
 refine wa (rem':=[18,19,20,21]) U kr fun T16 D=>?_
 refine rS (CL (eB.eq (p8 (eO ts f.toNat k) ([x.kS]) (some ⟨T,0,none⟩) 1 (by exact qM hst I) (by intro z hz; simp only [bI] at hz; subst hz; exact vm L) sm) nM) (aq (bf 0 rfl rfl (by simp [aa.aW]) rfl)<|aJ) rfl) ?_
 refine aB (D _ _ (aI [1,2,3,6]) (aI [1,2,3,4,5,6]) ?_)
 refine N1 18<|wa (rem':=[19,20,21]) U kr fun T17 Y=>dj (xs:=[.tmp 39]) (cs:=(aa.cells x.l3)) U hU dA U U U U (by simp [Value.cells,aa.aW]) U U fun b=>aB (Y _ _ (aI [2,3,4,7]) (aI [2,3,4,5,6,7]) ?_)
 refine N1 19<|NO U U [20,21] fun T19 E=>?_
 refine rS (CL (eB.eq (p8 (gG ts f.toNat k) ([x.l3]) (some ⟨b,0,none⟩) 1 (by exact yq hst I) (by intro z hz; simp only [bI] at hz; subst hz; exact vt L) sm) nM) (aq (bf 0 rfl rfl (by simp [aa.aW]) rfl)<|aJ) rfl) ?_
 refine aB (E _ _ (aI [2,3,4,7]) ?_)
 refine N1 20<|NO U U [21] fun T20 F=>Ow U cz U<|aB (F _ _ (aI [2,3,4,7]) ?_)
 refine N1 21<|NO U U [] fun T21 G=>I4 U cz U<|aB (G _ _ (aI [2,3,4,7]) ?_)
 refine qv<|aF<|KK M ?_
 have H:(aa.cells (mR (eO ts f.toNat k) x.kS))=(aa.cells (eO ts f.toNat (k+1))):=by rw [qe hx]
 rw [H]
 have AB:(aa.cells (mR (gG ts f.toNat k) x.l3))=(aa.cells (gG ts f.toNat (k+1))):=by rw [qc hx]
 rw [AB]
 refine ak<|rP 3 [] mn ?_
 refine aB ?_
 have K:(vI (f+(((k+1):Nat):Int)))=(vI ((f+(k:Int))+1)):=by exact cI I
 refine aU (V ⟨((k+1),B9),⟨I,C,B⟩⟩ _ _ _ U os (cQ 5<|bj U K<|dI.nil _) (aI [2,3,4,5,6,7]))
theorem JJ (ts:List al) (tsA:OA) (tsC:Nat) (f t:Int) (hst: ∀ x∈ts,bP x) (hlen:ts.length≤12) (hf:0≤f∧f≤t∧t≤ts.length):
 eB Tryz.prog 174 [(vA (eI.cells (eI.mk (bD.mk (bp.mk tsA ts.length tsC))))),(vI f),(vI t)] [(rd tsA ts.length 9 (ts.map al.cells))] (vT [(vA (aa.cells (eO ts f.toNat (t-f).toNat))),(vA (aa.cells (gG ts f.toNat (t-f).toNat)))]):=by
 refine bG kr Tryz.func174 U U fun w0 Q hQ hN=>?_
 try dsimp only
 refine WS fun _ M=>fZ U fun a=>ve U U fun b=>ve U U fun d=>AL U dA fun e=>AL U dA fun g=>RK M<|aj fun _ AA=>WS fun _ V=>rP 2 [0,1] (mc 4 U (mc 3 U mn)) ?_
 refine cX (O5 f tsA ts.length tsC) (aJ) U fun u n=>?_
 obtain ⟨B,C⟩:=u
 try dsimp only
 refine RK V<|ax<|k6 7 U (by exact fun _ h=>h) ?_
 refine GH (L0:=[(3,(vP a)),(4,(vP b)),(5,(vP d)),(6,(vP e)),(7,(vP g))]) (F:=[(rd tsA ts.length 9 (ts.map al.cells)).ro,(cm B 3 [(vI f)]),(cm C 237 (eI.cells (eI.mk (bD.mk (bp.mk tsA ts.length tsC)))))]) (xs:=(tD ts f.toNat)) (fun k (y:aa×aa×Int)=>(k≤(t-f).toNat)∧(y.2.2=f+(k:Int))) (fun k y=>[(cm g 45 (aa.cells y.2.1)),(cm e 45 (aa.cells y.1)),(cm d 3 [(vI t)]),(cm b 3 [(vI y.2.2)]),(cm a 237 (eI.cells (eI.mk (bD.mk (bp.mk tsA ts.length tsC))))),(rd tsA ts.length 9 (ts.map al.cells)).ro]) (fun c (z:Unit)=>(c= .exit 0)) (fun _ z=>[(cm g 45 (aa.cells (gG ts f.toNat (t-f).toNat))),(cm e 45 (aa.cells (eO ts f.toNat (t-f).toNat))),(cm d 3 [(vI t)]),(cm b 3 [(vI t)]),(cm a 237 (eI.cells (eI.mk (bD.mk (bp.mk tsA ts.length tsC))))),(rd tsA ts.length 9 (ts.map al.cells)).ro]) [3,4,5,6,7,8] [0,1,2] (dL,dL,f) U U (Ib ts tsA tsC f B C (by first|assumption|omega|(simp; done)) (by first|assumption|omega|(simp; done)) I) U U U (by exact ⟨Nat.zero_le _,sm⟩) (by simp only [List.forall_mem_cons,List.not_mem_nil,false_imp_iff,implies_true,and_true]; exact ⟨⟨_,sm,(dT (bU _))⟩,⟨_,sm,(bU _)⟩,⟨_,sm,(bU _)⟩⟩) (by exact EF) U (aT U) ?_ ?_ ?_ ?_
 rotate_left 1
 ·rintro q ⟨v,z2,m⟩ J
  obtain ⟨A,K⟩:=J
  try dsimp only at A K
  try dsimp only
  exfalso; rw [uy] at A; omega
 ·rintro r id _ Y
  have hc:=Y
  cases hc
  try dsimp only
  refine ay<|KK AA<|aj fun _ D=>dK cE [2,3] [] [] [0,1,2,3,4,5,6,7,8,9] [] U U U U U<|eS U (LW 5 U cp U U)<|eS U (LW 4 U cp U U)<|eU U<|cf U fun T30 E=>I4 U cz U<|aB (E _ _ (aI [0,1,2,3,4,5,6,7,8,9]) ?_)
  refine cf U fun T31 G=>PU U cz U<|aB (G _ _ (aI [0,1,2,3,4,5,6,7,8,9]) ?_)
  refine fF U<|KK D<|av<|hQ _ _ _ (o4 0 U U<|iu (vs:=[(vA (aa.cells (eO ts f.toNat (t-f).toNat))),(vA (aa.cells (gG ts f.toNat (t-f).toNat)))]) ⟨⟨_,U,.inl ⟨_,_,cp,qd (vs:=(aa.cells (eO ts f.toNat (t-f).toNat))) 5 U U,U,U⟩⟩,⟨_,U,.inl ⟨_,_,cp,qd (vs:=(aa.cells (gG ts f.toNat (t-f).toNat))) 4 U U,U,U⟩⟩,trivial⟩ fun w hs=>E1 ?_ hs)
  show (vT [(vA (aa.cells (eO ts f.toNat (t-f).toNat))),(vA (aa.cells (gG ts f.toNat (t-f).toNat)))])=(vT [(vA (aa.cells (eO ts f.toNat (t-f).toNat))),(vA (aa.cells (gG ts f.toNat (t-f).toNat)))])
  clear hs w hQ hN G T31 E T30 D V AA M
  rfl
 ·rintro s _ Z
  cases Z
 rintro k x ⟨v,z2,m⟩ l ra rb S w1 K13 Qr14 hx AB N H L j
 obtain ⟨hk,rfl⟩:=H_ hx
 obtain ⟨A,K⟩:=AB
 try dsimp only at A K
 try dsimp only
 refine WS fun _ O=>AL U dA fun o=>gd U cz U<|RK O<|ak<|AL U dA fun p=>gd U cz U<|aB<|jr (fun _ _ h=>h) (aI [2,0,1,3,4,5,6,7,8])<|aU (N _ _ ?_)
 refine ax<|aj fun _ P=>aj fun _ R=>dK cE [2,3] [] [] [0,1,2,5,6,7,8] [] U U U U U<|eS U (LW 2 U cp U U)<|eS U (LW 1 U cp U U)<|eU U<|cf U fun T21 W=>PU U cz U<|aB (W _ _ (aI [0,1,2,5,6,7,8]) ?_)
 refine cf U fun T22 X=>UQ U cz U<|aB (X _ _ (aI [0,1,2,5,6,7,8]) ?_)
 refine fF U<|KK R<|WS fun _ T=>rP 3 [0,1] (mc 6 U (mc 5 U mn)) ?_
 refine RK T<|cP U (aO fun i=>?_) (aN fun i=>?_)
 ·refine bB<|ab<|iZ U ?_
  rw [show m=t from by omega]
  obtain rfl:k=(t-f).toNat:=by omega
  exact L _ () _ _ (by exact U) (aI [0,3,4,5,6,7,8])
 refine WK P<|ak<|rP 2 [] (mc 6 U mn) ?_
 refine Wv U zb U U<|aB<|aF ?_
 exact H ((eO ts f.toNat k),(gG ts f.toNat k),(m+1)) _ _ (by refine ⟨I,?_⟩; dsimp only; omega) (aI [0,3,4,5,6,7,8])
end
section
open Go.RowKit
theorem IQ (i:Int) (s:cN) (ts:List al) (tsA:OA) (tsC g1:Nat) (hst: ∀ x∈ts,bP x) (hlen:ts.length≤12):
 eB Tryz.prog 185 [(vI i),(vA (cN.cells s)),(vP g1)] [(rd tsA ts.length 9 (ts.map al.cells)),(cm g1 237 (eI.cells (eI.mk (bD.mk (bp.mk tsA ts.length tsC)))))] (vB (!(decide (fH ts s)))):=by
 refine bG kr Tryz.func185 U U fun AA Q hQ hN=>?_
 try dsimp only
 refine WS fun _ C=>fZ U fun G=>rP 1 [] mn ?_
 refine RK C<|aj fun _ A=>p9 cE [0,1,2,3,4,5,6] [7,8,9,10,11,12,13,14,15,16,17,18,19,20,21,22,23,24,25,26] [false,false,false,false,false,false,false] [] [(cm G 158 (cN.cells s)),(rd tsA ts.length 9 (ts.map al.cells)).ro,(cm g1 237 (eI.cells (eI.mk (bD.mk (bp.mk tsA ts.length tsC))))).ro] [] kr (aI [0,1,2]) (aI [])<|eS U (FA 0 U fc U)<|eS U (FA 0 U fc U)<|eS U (I5 (vS tsA ts.length tsC) 2 U cp U U)<|eS U (LN U QX)<|eS U (BI U (sN ⟨I,I⟩))<|eS U (FA 0 U fc U)<|eS U (L1 (vI s.a_) 0 U cp U U)<|eU U<|N1 7<|NO U U [8,9,10,11,12,13,14,15,16,17,18,19,20,21,22,23,24,25,26] fun T4 D=>dj (xs:=[.tmp 12]) (cs:=[(vI s.a_)]) U cK jA U U U U (by simp [Value.cells]) U U fun H=>RD D 1 U<|Kd [14,15,16,17,18,19,20,21,22,23,24,25,26,27,28,29,30,31,5] kr kr U _ U U (aI [1,2,3]) ?_
 refine dS (CL (eB.eq (o8 0 ((ts.length:Int)-1) ([s.a_]) (some ⟨H,0,none⟩) 1 (by (simp; done))) cZ) (aq (bf 0 U U (by simp [bH]) U)<|aJ) U) ?_
 refine dP 2 [] mn ?_
 refine jq (t:=16) U (bw fun B=>?_) (bu fun B=>?_)
 ·refine mq 9 U<|dP 7 [] mn ?_
  refine cR<|RK A<|av<|Q1 hQ U U U ?_
  (refine cB ?_; rw [cy (CV I)]; rfl)
 refine mq 1 U<|dS (LP (aa.cells s.mX) 1 U cp U U U)<|dP 5 [0,1] (mr 3 U (mc 1 U mn)) ?_
 obtain ⟨x,hx⟩:=aK ts ((s.a_).toNat) I
 have E:=bQ al.cells hx
 refine dS (IA ((s.a_).toNat) U (aA 2 U) ym dc I I)<|dS (lZ ((((s.a_).toNat)*9)+1) U (aA 2 U) (Nat.mul_pos I dc) fc U) ?_
 have F:=(hst x (aS hx)).2.1
 simp only [dZ] at F
 refine dS (lZ ((((s.a_).toNat)*9)+1) U (aA 2 U) (Nat.mul_pos I dc) fc U)<|dS (gl ((s.a_).toNat) 1 (vI x.kS.Lo) U cp (aA 2 U) E U dc U)<|mq 1 U<|dS (CL (wH s.mX 0 (x.kS.Lo-1)) (aJ) U)<|dP 3 [] mn ?_
 refine cR<|RK A<|av<|Q1 hQ U U U ?_
 exact congrArg (fun b=>vB (!b)) (gN.2 (CR I hx).symm)
theorem Ev (l:List cN) (lA:OA) (lC:Nat) (f:Value) (p:Int→cN→Bool) (X:aw) (hf: ∀ x0 x1,(∃ k:Nat,x0=(k:Int)∧l[k]? =some x1)→Fb Tryz.prog f [.int .i64 x0,.agg (cN.cells x1).toArray] [X] (.bool (p x0 x1))) (hlen:l.length≤1000000):
 lB Tryz.prog 184 [(vS lA l.length lC),f] [(rd lA l.length 3 (l.map cN.cells)),X] (fun (x:(OA)×Nat)=>(vS x.1 ((KE (fun jj yy=>p (jj:Int) yy) l).length) x.2)) (fun (x:(OA)×Nat)=>True) (fun (x:(OA)×Nat)=>[(own x.1 x.2 3 1 ((KE (fun jj yy=>p (jj:Int) yy) l).map iC))]):=by
 refine dh kr Tryz.func184 U U fun W Q hQ hN=>?_
 try dsimp only
 refine WS fun _ L=>bk 1 U<|RK L<|WS fun _ M=>bk 1 U<|RK M<|aj fun _ N=>WS fun _ O=>rP 3 [] mn ?_
 refine RK O<|ax<|gu 3 1 ?_
 have A:(0≤l.length):=by exact Nat.zero_le _
 refine bJ (ι:={z:Nat×(OA)×Nat // (z.1≤l.length)}) [0,1,8,9] [1,2] U U (fun z=>[(5,(vS z.1.2.1 ((sT (fun jj yy=>p (jj:Int) yy) l z.1.1).length) z.1.2.2)),(10,(vI (z.1.1:Int)))]) (fun z=>[(own z.1.2.1 z.1.2.2 3 1 ((sT (fun jj yy=>p (jj:Int) yy) l z.1.1).map iC))]) (fun _=>rfl) (fun _=>rfl) (fun z=>l.length-z.1.1) ⟨(0,none,0),A⟩ (aT U) (aI [1,2,0]) ?_
 clear A
 rintro ⟨⟨i,a,c⟩,B⟩ J5 C
 try dsimp only at B
 try dsimp only
 refine WS fun _ P=>rP 1 [] mn ?_
 refine RK P<|aj fun _ R=>bR U (aN fun V=>?_) (aO fun V=>?_)
 ·refine bB<|ab<|ab<|ay<|KK N<|WS fun _ F=>?_
  rw [NL (p:=fun (i:Nat) x=>p (i:Int) x) (show i=l.length by omega)]
  refine rP 2 [] mn ?_
  refine RK F<|av<|LX hQ (a,c) [2] [] mn U U U U ?_
  trivial
 refine WK R<|aj fun _ G=>ax<|WS fun _ D=>rP 1 [] mn ?_
 obtain ⟨x,hx⟩:=aK l i I
 have S:=bQ cN.cells hx
 refine rS (IA i U (aA 0 U) KQ dc I I)<|rS (oE i 0 (cN.cells x) U cp (aA 0 U) S U dc U U)<|AL U Dd fun T=>bk 1 U<|gd U Mc U<|RK D<|WS fun _ E=>rP 3 [] (mc 0 U mn) ?_
 refine rS (SX (s7 U U U (hf (i:Int) x ⟨i,U,hx⟩) (bo [2])) U U)<|RK E<|bR U (fun hp=>?_) (fun hp=>?_)
 ·refine ct<|aF<|KK G<|ak ?_
  rw [← O9 (p:=fun (i:Nat) x=>p (i:Int) x) hx hp]
  refine rP 2 [] mn ?_
  refine aB ?_
  have AB:(vI (((i+1):Nat):Int))=(vI ((i:Int)+1)):=by exact cI I
  refine aU (C ⟨((i+1),a,c),(by first|omega|(simp only []; omega))⟩ _ _ _ U os (cQ 5<|bj U AB<|dI.nil _) (aI [1,2,3]))
 refine ak<|rP 2 [] mn ?_
 refine dj (xs:=[.tmp 20]) (cs:=[(vI (i:Int))]) U cK jA U U U U (by simp [Value.cells]) U U fun AA=>?_
 refine cL (es2:=(List.map iC (sT (fun jj yy=>p (jj:Int) yy) l (i+1)))) (m':=(sT (fun jj yy=>p (jj:Int) yy) l (i+1)).length) 4 U U U o9 U U sm (bf (es:=List.map iC [(i:Int)]) 0 U U (by simp [bH]) U) (jX _) (by have:=Dv (p:=fun (i:Nat) x=>p (i:Int) x) (l:=l) (n:=i); simp; omega) (by have:=Dv (p:=fun (i:Nat) x=>p (i:Int) x) (l:=l) (n:=i); simp only [maxLen]; omega) (by rw [Lw hx hp]; simp) sm U fun J K=>?_
 try dsimp only
 refine bk 1 U<|aB<|aF<|KK G<|ak<|rP 2 [] mn ?_
 refine aB ?_
 have H:(vI (((i+1):Nat):Int))=(vI ((i:Int)+1)):=by exact cI I
 refine aU (C ⟨((i+1),J,K),(by first|omega|(simp only []; omega))⟩ _ _ _ U os (cQ 5<|bj U H<|dI.nil _) (aI [2,3,4]))
theorem B2 (ts:List al) (tsA:OA) (tsC:Nat) (l:List cN) (lA:OA) (lC:Nat) (hst: ∀ x∈ts,bP x) (hlen:ts.length≤12) (hl:l.length≤4):
 eB Tryz.prog 173 [(vA (eI.cells (eI.mk (bD.mk (bp.mk tsA ts.length tsC))))),(vS lA l.length lC)] [(rd tsA ts.length 9 (ts.map al.cells)),(rd lA l.length 3 (l.map cN.cells))] (vB (decide (∀ s∈l,fH ts s))):=by
 refine bG kr Tryz.func173 U U fun J Q hQ hN=>?_
 try dsimp only
 refine WS fun _ B=>fZ U fun A=>bk 1 U<|RK B<|WS fun _ C=>rP 1 [] mn ?_
 refine rS (FU U) ?_
 refine cX (Ev l lA lC (Value.func (.func 185) [].toArray [(vP A)].toArray) (fun E D=>(!(decide (fH ts D)))) (fp [(rd tsA ts.length 9 (ts.map al.cells)),(cm A 237 (eI.cells (eI.mk (bD.mk (bp.mk tsA ts.length tsC)))))]) (by intro E D _; exact od (fi:=[]) (ca:=[(vP A)]) (mE (IQ E D ts tsA tsC A (by first|assumption|omega) (by first|assumption|omega)) (bo [0,1]))) I) (fB 2 U U<|aq (mH (bo [1,0]))<|aJ) U fun G F=>?_
 obtain ⟨H,AA⟩:=G
 try dsimp only
 refine rP 3 [] mn ?_
 refine RK C<|av<|Q1 hQ U U U ?_
 exact congrArg Value.bool (decide_eq_decide.2 (by rw [show ∀ n:Nat,((n:Int)=0)↔n=0 from fun n=>by omega,G_]; simp only [Bool.not_eq_false',decide_eq_true_eq]; exact ⟨fun h s hs=>by obtain ⟨k,hk⟩:=List.getElem?_of_mem hs; exact h k s hk,fun h k s hk=>h s (List.mem_of_getElem? hk)⟩))
theorem EH (z:aa) (hz:lV z):
 eB Tryz.prog 176 [(vA (aa.cells z))] [] (vA (aa.cells (oD z))):=by
 unfold lV at hz
 refine bG kr Tryz.func176 U U fun E Q hQ hN=>?_
 try dsimp only
 refine WS fun _ A=>fZ U fun C=>AL U dA fun D=>RK A<|WS fun _ B=>fP 2 [] (mc 1 U mn) U<|rS (NG U ⟨I,I⟩)<|rP 2 [] (mc 1 U mn) ?_
 refine rS (NG U ⟨I,I⟩)<|rS (SX (bg (xs:=[(0,.tmp 5),(1,.tmp 8)]) (cs:=(aa.cells (aa.mk (-z.Hi) (-z.Lo)))) U U (bh gJ U)) U U)<|gd U cz U<|RK B<|av ?_
 exact I3 hQ [0] (mc 0 U mn) U U
theorem Sr (ts:List al) (tsA:OA) (tsC:Nat) (s:cN) (hlen:ts.length≤1000000) (hside: ∀ x∈ts,0≤x.js∧x.js≤255):
 eB Tryz.prog 135 [(vA (bD.cells (bD.mk (bp.mk tsA ts.length tsC)))),(vA (cN.cells s))] [(rd tsA ts.length 9 (ts.map al.cells))] (vT [(vA (aa.cells (Qd ts s))),(vI (F7 ts s))]):=by
 refine bG kr Tryz.func135 U U fun Z Q hQ hN=>?_
 try dsimp only
 refine WS fun _ K=>fZ U fun V=>fZ U fun W=>AL U dA fun X=>bk 1 U<|RK K<|WS fun _ L=>fP 1 [] (mc 2 U mn) U<|rS (CL (F9 ts tsA tsC hlen hside) (bo [3]) U)<|bk 3 U<|AL U My fun Y=>gd U M5 U<|bk 1 U<|RK L<|aj fun _ M=>WS fun _ N=>rP 2 [] mn ?_
 refine RK N<|cP U (bw fun he=>?_) (bu fun he=>?_)
 ·refine WS fun _ O=>rS (SX (bg (xs:=[]) (cs:=(aa.cells (aa.mk 0 0))) U U (bh gJ U)) U U)<|bk 1 U<|te U cz U<|rP 1 [] mn ?_
  refine RK O<|av<|lU hQ [0] (mc 1 U mn) U ?_
  (have e:=LI (s:=s) (z5 he).1; rw [e.1,e.2,(z5 he).2]<;>rfl)
 refine WK M<|aj fun _ C=>WS fun _ D=>?_
 have B:=Fu he
 have H:=kg B
 have R:=lh B
 refine rP 2 [0,1] (mc 0 U (mc 2 U mn)) ?_
 refine dj (xs:=[.tmp 20]) (cs:=(cN.cells s)) U KQ Dd U U U U (by simp [Value.cells,cN.aW]) U U fun AB=>?_
 refine rS (CL (eB.eq (B2 ts tsA tsC ([s]) (some ⟨AB,0,none⟩) 1 asm asm (by (simp; done))) E4) (fB 5 U U<|aq (bf 0 U U (by simp [cN.aW]) U)<|aJ) U) ?_
 refine rP 1 [] mn ?_
 refine RK D<|cP U (bw fun A=>?_) (bu fun A=>?_)
 ·refine WS fun _ E=>rS (SX (bg (xs:=[]) (cs:=(aa.cells (aa.mk 0 0))) U U (bh gJ U)) U U)<|G0 U cz U<|rP 1 [] mn ?_
  refine RK E<|av<|lU hQ [0] (mc 2 U mn) U ?_
  (have e:=Ko B A; rw [e.1,e.2]<;>rfl)
 refine WK C<|WS fun _ F=>?_
 have AA:=A.1
 have P:=qD H A
 refine fP 3 [0,1] (mc 1 U (mc 3 U mn)) U<|rS (CL (JJ ts tsA tsC 0 s.a_ asm asm I) (bo [5]) U)<|bk 3 U<|AL U dA fun S=>AL U dA fun T=>te U cz U<|gd U cz U<|RK F<|WS fun _ G=>rP 2 [] (mc 1 U mn) ?_
 refine rS (LP (aa.cells s.mX) 5 U cp U U U)<|dj (xs:=[.tmp 34]) (cs:=(aa.cells s.mX)) U hU dA U U U U (by simp [Value.cells,aa.aW]) U U fun J=>?_
 refine rS (CL (eB.eq (p8 (eO ts (0:Int).toNat (s.a_-0).toNat) ([s.mX]) (some ⟨J,0,none⟩) 1 (by exact qM H I) (by intro z hz; simp only [bI] at hz; subst hz; exact P) sm) nM) (aq (bf 0 rfl rfl (by simp [aa.aW]) rfl)<|aJ) rfl) ?_
 refine I4 U cz U<|rP 1 [] mn ?_
 refine RK G<|av<|lU hQ [0] (mc 5 U mn) U ?_
 (have e:=xB B A; rw [e.1,e.2]; unfold Ni; rw [show (s.a_-0).toNat=s.a_.toNat by rw [Int.sub_zero]]<;>rfl)
theorem NV (ts:List al) (tsA:OA) (tsC:Nat) (p:cN) (q:cN) (hlen:ts.length≤1000000) (hside: ∀ x∈ts,0≤x.js∧x.js≤255):
 eB Tryz.prog 136 [(vA (bD.cells (bD.mk (bp.mk tsA ts.length tsC)))),(vA (cN.cells p)),(vA (cN.cells q))] [(rd tsA ts.length 9 (ts.map al.cells))] (vT [(vA (aa.cells (ld ts p q))),(vI (l5 ts p q))]):=by
 refine bG kr Tryz.func136 U U fun w Q hQ hN=>?_
 try dsimp only
 refine WS fun _ c=>fZ U fun r=>fZ U fun s=>fZ U fun t=>AL U dA fun u=>bk 1 U<|RK c<|WS fun _ d=>fP 1 [] (mc 3 U mn) U<|rS (CL (F9 ts tsA tsC hlen hside) (bo [4]) U)<|bk 3 U<|AL U My fun v=>gd U M5 U<|bk 1 U<|RK d<|aj fun _ g=>WS fun _ h=>rP 2 [] mn ?_
 refine RK h<|cP U (bw fun he=>?_) (bu fun he=>?_)
 ·refine WS fun _ G=>rS (SX (bg (xs:=[]) (cs:=(aa.cells (aa.mk 0 0))) U U (bh gJ U)) U U)<|bk 1 U<|te U cz U<|rP 1 [] mn ?_
  refine RK G<|av<|lU hQ [0] (mc 1 U mn) U ?_
  (have e:=vu (a:=p) (b:=q) (z5 he).1; rw [e.1,e.2,(z5 he).2]<;>rfl)
 refine WK g<|aj fun _ H=>WS fun _ AB=>?_
 have A:=Fu he
 have F:=kg A
 have j:=lh A
 refine rP 3 [0,1,2] (mc 0 U (mc 3 U (mc 2 U mn))) ?_
 refine dj (xs:=[.tmp 22,.tmp 23]) (cs:=((cN.cells p)++(cN.cells q))) U KQ Dd U U U U (by simp [Value.cells,cN.aW]) U U fun X=>?_
 refine rS (CL (eB.eq (B2 ts tsA tsC ([p,q]) (some ⟨X,0,none⟩) 2 asm asm (by (simp; done))) FN) (fB 6 U U<|aq (bf 0 U U (by simp [cN.aW]) U)<|aJ) U) ?_
 refine rP 1 [] mn ?_
 refine RK AB<|cP U (bw fun D=>?_) (bu fun D=>?_)
 ·refine WS fun _ J=>rS (SX (bg (xs:=[]) (cs:=(aa.cells (aa.mk 0 0))) U U (bh gJ U)) U U)<|G0 U cz U<|rP 1 [] mn ?_
  refine RK J<|av<|lU hQ [0] (mc 2 U mn) U ?_
  (have e:=pE A D; rw [e.1,e.2]<;>rfl)
 refine WK H<|WS fun _ K=>?_
 obtain ⟨hp,hq⟩:=D
 have n:=hp.1
 have o:=hq.1
 have i:=qD F hp
 have W:=qD F hq
 have V:=AX i
 have B:=qM F (f:=(min p.a_ q.a_).toNat) (k:=(max p.a_ q.a_-min p.a_ q.a_).toNat) I
 refine fP 5 [0,1,2] (mc 1 U (mc 4 U (mc 3 U mn))) U<|rS (MN U)<|fP 4 [0,1] (mc 4 U (mc 3 U mn)) U<|rS (MX U)<|rS (CL (JJ ts tsA tsC (min p.a_ q.a_) (max p.a_ q.a_) asm asm I) (bo [6]) U)<|bk 3 U<|AL U dA fun l=>AL U dA fun m=>te U cz U<|gd U cz U<|RK K<|aj fun _ C=>WS fun _ L=>rP 5 [0,1] (mc 5 U (mc 6 U mn)) ?_
 refine RK L<|bR U (aN fun E=>?_) (aO fun E=>?_)
 ·refine WK C<|aj fun _ N=>dK cE [6,7,8] [] [] [0,1,2,3,5,6,7,8] [] U U U U U<|eS U (LW 1 U cp U U)<|eS U (FA 1 U fc U)<|eS U (LP (aa.cells q.mX) 4 U cp U U U)<|eS U (FA 1 U fc U)<|eS U (LP (aa.cells p.mX) 5 U cp U U U)<|eS U (CL (EH p.mX asm) (aJ) U)<|eS U (AG U)<|eU U<|cf U fun T26 S=>dj (xs:=[.tmp 52,.tmp 55]) (cs:=((aa.cells q.mX)++(aa.cells (oD p.mX)))) U hU dA U U U U (by simp [Value.cells,aa.aW]) U U fun Z=>aB (S _ _ (aI [1,2,3,4,6,7,8,9]) ?_)
  refine cf U fun T28 T=>?_
  refine rS (CL (eB.eq (p8 (eO ts (min p.a_ q.a_).toNat ((max p.a_ q.a_)-(min p.a_ q.a_)).toNat) ([q.mX,(oD p.mX)]) (some ⟨Z,0,none⟩) 2 (by first|exact B|exact AX B) (by intro z hz; simp only [bx,List.not_mem_nil,or_false] at hz; rcases hz with rfl|rfl; exact W; exact V) sm) D1) (aq (bf 0 rfl rfl (by simp [aa.aW]) rfl)<|aJ) rfl) ?_
  refine aB (T _ _ (aI [1,2,3,4,6,7,8,9]) ?_)
  refine cf U fun T29 AA=>I4 U cz U<|aB (AA _ _ (aI [1,2,3,4,6,7,8,9]) ?_)
  refine fF U<|KK N<|av<|lU hQ [0] (mc 5 U mn) U ?_
  (have e:=lI A ⟨hp,hq⟩; rw [e.1,e.2]; unfold kj x4; rw [if_neg E]<;>rfl)
 refine ak<|rP 1 [] (mc 1 U mn) ?_
 refine rS (CL (EH (eO ts (min p.a_ q.a_).toNat ((max p.a_ q.a_)-(min p.a_ q.a_)).toNat) asm) (aJ) U)<|te U cz U<|RK C<|aj fun _ M=>dK cE [6,7,8] [] [] [0,1,2,3,5,6,7,8] [] U U U U U<|eS U (LW 1 U cp U U)<|eS U (FA 1 U fc U)<|eS U (LP (aa.cells q.mX) 4 U cp U U U)<|eS U (FA 1 U fc U)<|eS U (LP (aa.cells p.mX) 5 U cp U U U)<|eS U (CL (EH p.mX asm) (aJ) U)<|eS U (AG U)<|eU U<|cf U fun T21 O=>dj (xs:=[.tmp 52,.tmp 55]) (cs:=((aa.cells q.mX)++(aa.cells (oD p.mX)))) U hU dA U U U U (by simp [Value.cells,aa.aW]) U U fun Y=>aB (O _ _ (aI [1,2,3,4,6,7,8,9]) ?_)
 refine cf U fun T23 P=>?_
 refine rS (CL (eB.eq (p8 (oD (eO ts (min p.a_ q.a_).toNat ((max p.a_ q.a_)-(min p.a_ q.a_)).toNat)) ([q.mX,(oD p.mX)]) (some ⟨Y,0,none⟩) 2 (by first|exact B|exact AX B) (by intro z hz; simp only [bx,List.not_mem_nil,or_false] at hz; rcases hz with rfl|rfl; exact W; exact V) sm) D1) (aq (bf 0 rfl rfl (by simp [aa.aW]) rfl)<|aJ) rfl) ?_
 refine aB (P _ _ (aI [1,2,3,4,6,7,8,9]) ?_)
 refine cf U fun T24 R=>I4 U cz U<|aB (R _ _ (aI [1,2,3,4,6,7,8,9]) ?_)
 refine fF U<|KK M<|av<|lU hQ [0] (mc 5 U mn) U ?_
 (have e:=lI A ⟨hp,hq⟩; rw [e.1,e.2]; unfold kj x4; rw [if_pos E]<;>rfl)
theorem rG (ts:List al) (tsA:OA) (tsC:Nat) (s:cN) (hst: ∀ x∈ts,bP x) (hlen:ts.length≤12):
 eB Tryz.prog 93 [(vA (bD.cells (bD.mk (bp.mk tsA ts.length tsC)))),(vA (cN.cells s))] [(rd tsA ts.length 9 (ts.map al.cells))] (vB (decide (fH ts s))):=by
 refine bG kr Tryz.func93 U U fun H Q hQ hN=>?_
 try dsimp only
 refine WS fun _ C=>fZ U fun F=>fZ U fun G=>bk 1 U<|RK C<|aj fun _ A=>dM cE 22 kr<|m_ 6 [0,1] (mc 0 U (mc 1 U mn)) U<|dS (CL (pc s.a_ 0 ((ts.length:Int)-1)) (aJ) U)<|dP 1 [] mn ?_
 refine jN (t:=12) U (aN fun B=>?_) (aO fun B=>?_)
 ·refine mq 8 U<|dP 6 [] mn ?_
  refine cR<|RK A<|av<|Q1 hQ U U U ?_
  (refine cB ?_; rw [cy (CV I)])
 refine mq 1 U<|dS (LP (aa.cells s.mX) 0 U cp U U U)<|dP 4 [0,1] (mc 1 U (mc 0 U mn)) ?_
 obtain ⟨x,hx⟩:=aK ts ((s.a_).toNat) I
 have D:=bQ al.cells hx
 refine dS (IA ((s.a_).toNat) U (aA 2 U) ym dc I I)<|dS (lZ ((((s.a_).toNat)*9)+1) U (aA 2 U) (Nat.mul_pos I dc) fc U) ?_
 have E:=(hst x (aS hx)).2.1
 simp only [dZ] at E
 refine dS (lZ ((((s.a_).toNat)*9)+1) U (aA 2 U) (Nat.mul_pos I dc) fc U)<|dS (gl ((s.a_).toNat) 1 (vI x.kS.Lo) U cp (aA 2 U) D U dc U)<|mq 1 U<|dS (CL (p5 s.mX 0 (x.kS.Lo-1)) (aJ) U)<|dP 2 [] mn ?_
 refine cR<|RK A<|av<|Q1 hQ U U U ?_
 exact cB (gN.2 (CR I hx).symm)
theorem BB (ts:List al) (tsA:OA) (tsC:Nat) (f t:Int) (hst: ∀ x∈ts,bP x) (hlen:ts.length≤12) (hf:0≤f∧f≤t∧t≤ts.length):
 eB Tryz.prog 171 [(vA (bD.cells (bD.mk (bp.mk tsA ts.length tsC)))),(vI f),(vI t)] [(rd tsA ts.length 9 (ts.map al.cells))] (vT [(vA (aa.cells (eO ts f.toNat (t-f).toNat))),(vA (aa.cells (gG ts f.toNat (t-f).toNat)))]):=by
 refine bG kr Tryz.func171 U U fun i Q hQ hN=>?_
 try dsimp only
 refine WS fun _ R=>fZ U fun e=>AL U dA fun g=>AL U dA fun h=>RK R<|WS fun _ S=>AL U dA fun a=>AL U dA fun b=>RK S<|aj fun _ T=>WS fun _ AA=>rP 2 [] mn ?_
 refine RK AA<|ax ?_
 have A:(0≤(t-f).toNat):=by exact Nat.zero_le _
 have K:(vI (f+(0:Int)))=(vI f):=by exact cI I
 refine bJ (ι:={z:Nat // (z≤(t-f).toNat)}) [1,2,3,6,7,8,9] [2,3,4,5] U U (fun z=>[(10,(vI (f+(z.1:Int))))]) (fun z=>[(cm b 45 (aa.cells (gG ts f.toNat z.1))),(cm a 45 (aa.cells (eO ts f.toNat z.1)))]) (fun _=>rfl) (fun _=>rfl) (fun z=>(t-f).toNat-z.1) ⟨0,A⟩ (bj U K<|dI.nil _) (aI [2,3,4,5,0,1]) ?_
 clear A
 rintro ⟨k,V⟩ J11 B
 try dsimp only
 refine aj fun _ C=>WS fun _ D=>rP 3 [] mn ?_
 refine RK D<|bR U (aN fun P=>?_) (aO fun P=>?_)
 ·refine bB<|ab<|ab<|ay<|KK T<|aj fun _ H=>dK cE [2,3] [] [] [2,3,4,5] [] U U U U U<|eS U (LW 3 U cp U U)<|eS U (LW 2 U cp U U)<|eU U<|cf U fun T23 AB=>te U cz U<|aB (AB _ _ (aI [2,3,4,5]) ?_)
  refine cf U fun T24 J=>gd U cz U<|aB (J _ _ (aI [2,3,4,5]) ?_)
  refine fF U<|KK H<|av<|lU hQ [0,1] (mc 1 U (mc 0 U mn)) U ?_
  obtain rfl:k=(t-f).toNat:=I; rfl
 refine WK C<|aj fun _ E=>ax<|WS fun _ F=>rP 3 [] (mc 2 U mn) ?_
 obtain ⟨x,hx⟩:=aK ts (f.toNat+k) I
 have Y:=bQ al.cells hx
 refine rS (IA (f.toNat+k) U (aA 3 U) ym dc I I)<|rS (oE (f.toNat+k) 0 (al.cells x) U cp (aA 3 U) Y U dc U U)<|AL U G6 fun Z=>gd U JQ U<|RK F<|WS fun _ G=>?_
 have O:=hst x (aS hx)
 have d:=mD hst f.toNat k
 have c:=Gt hst f.toNat k
 have W:=O.2.1
 have X:=O.2.2.1
 simp only [dZ] at W X
 refine fP 12 [0,1,0,1] (mc 6 U (mc 0 U mn)) U<|rS (SX (bg (xs:=[(0,.tmp 28),(1,.tmp 34)]) (cs:=(aa.cells (aa.mk (((eO ts f.toNat k).Lo)+x.kS.Lo) (((eO ts f.toNat k).Hi)+x.kS.Hi)))) U U (bh gJ U)) U U)<|Ow U cz U<|RK G<|ak<|rP 12 [0,1,0,1] (mc 5 U (mc 0 U mn)) ?_
 refine rS (SX (bg (xs:=[(0,.tmp 41),(1,.tmp 47)]) (cs:=(aa.cells (aa.mk (((gG ts f.toNat k).Lo)+x.l3.Lo) (((gG ts f.toNat k).Hi)+x.l3.Hi)))) U U (bh gJ U)) U U)<|I4 U cz U<|aB<|aF<|KK E ?_
 have L:(aa.cells (aa.mk (((eO ts f.toNat k).Lo)+x.kS.Lo) (((eO ts f.toNat k).Hi)+x.kS.Hi)))=(aa.cells (eO ts f.toNat (k+1))):=by rw [qe hx]; rfl
 rw [L]
 have M:(aa.cells (aa.mk (((gG ts f.toNat k).Lo)+x.l3.Lo) (((gG ts f.toNat k).Hi)+x.l3.Hi)))=(aa.cells (gG ts f.toNat (k+1))):=by rw [qc hx]; rfl
 rw [M]
 refine ak<|rP 3 [] mn ?_
 refine aB ?_
 have N:(vI (f+(((k+1):Nat):Int)))=(vI ((f+(k:Int))+1)):=by exact cI I
 refine aU (B ⟨(k+1),(by first|omega|(simp only []; omega))⟩ _ _ _ U os (cQ 7<|bj U N<|dI.nil _) (aI [1,2,3,4,5,6]))
end
end Go.Proofs.YtlajhejcfcoddaaGreatDoor
