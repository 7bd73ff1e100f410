/-
 The statement raceRide_said, part 5 of 7: RankP, OrdX, TabP, NestS, Grp, Twin, Fresh, Rep, Ex6, Win6, BoolC, RaceR, Tied6, Sel6, WLe, Ends5, False, Sim, Ride7, Rid7, Async, NJoin, MoreL, B1, B2, B3, B7, B8, B9, Frozen, MarkD, Marks, Follow, OpenM, V1, V3, B4.
 Conditions: none.
-/
import Derived.Test.YtlajhejcfcoddaaGreatDoorTz1
import Derived.Test.YtlajhejcfcoddaaGreatDoorTz2
import Derived.Test.YtlajhejcfcoddaaGreatDoorTz3
import Derived.Test.YtlajhejcfcoddaaGreatDoorTz4
import Derived.KernelRfl
namespace Go.Proofs.YtlajhejcfcoddaaGreatDoor
set_option maxRecDepth 100000
set_option maxHeartbeats 4000000
set_option linter.unusedVariables false
section
abbrev oD:=List (Int×Bool)
def hU (m:oD) (P:Int→Prop):Prop:=(m.map (·.1)).Nodup∧ ∀ k,k∈m.map (·.1)↔P k
section
variable {m:oD} {P Q:Int→Prop} {k:Int}
theorem hU.uY (h:hU m P) (e: ∀ k,P k↔Q k):hU m Q:=⟨h.1,fun k=>(h.2 k).trans (e k)⟩
theorem HQ (h: ∀ k,¬ P k):hU [] P:=⟨List.Pairwise.nil,fun k=>⟨fun q=>by simp at q,fun q=>absurd q (h k)⟩⟩
theorem DD:k∈m.map (·.1)↔(m.lookup k).isSome=true:=by
 induction m with
 |nil=>simp
 |cons p m ih=>
  obtain ⟨a,b⟩:=p
  by_cases e:k=a
  ·subst e; simp [List.lookup]
  ·have:(k==a)=false:=by simpa using e
   simp only [List.map_cons,bw,e,false_or,List.lookup,this]
   exact ih
theorem Fp {b:Bool} (h:hU m P) (hk: ¬ P k):hU (dN m k b) fun q=>P q∨q=k:=by
 have hn:(m.lookup k).isSome=false:=by
  rw [Bool.eq_false_iff]
  exact fun q=>hk ((h.2 k).1 (DD.2 q))
 unfold dN
 rw [hn]
 simp only [Bool.false_eq_true,if_false]
 refine ⟨?_,fun q=>?_⟩
 ·rw [List.map_append]
  refine List.nodup_append.2 ⟨h.1,sm,fun a ha b hb e=>?_⟩
  simp at hb
  subst hb; subst e
  exact hk ((h.2 _).1 ha)
 ·rw [List.map_append,dM,h.2 q]
  simp
theorem yK (h:hU m P):hU (bY m k) fun q=>P q∧q≠k:=by
 have hs:((bY m k).map (·.1)).Sublist (m.map (·.1)):=List.Sublist.map _ List.filter_sublist
 refine ⟨h.1.sublist hs,fun q=>?_⟩
 constructor
 ·intro hq
  obtain ⟨p,hp,rfl⟩:=b_.1 hq
  obtain ⟨A,B⟩:=jo.1 hp
  exact ⟨(h.2 _).1 (List.mem_map_of_mem A),B⟩
 ·rintro ⟨A,B⟩
  obtain ⟨p,hp,rfl⟩:=b_.1 ((h.2 q).2 A)
  exact List.mem_map_of_mem (jo.2 ⟨hp,B⟩)
end
/-- two rows that go up and have the same numbers, each once -/
theorem rl {a b:List Int} (ha:a.Pairwise (· ≤ ·)) (hb:b.Pairwise (· ≤ ·)) (na:a.Nodup) (nb:b.Nodup) (h: ∀ x,x∈a↔x∈b):a=b:=
 pG ((List.perm_ext_iff_of_nodup na nb).2 h) ha hb
def E8 (l:List Int):Nat:=if l.length=2∧l[1]? =l[0]? then 1 else l.length
theorem vJ {l:List Int} {x y:Int} (h:l.length=2) (h0:l[0]? =some y) (h1:l[1]? =some x) (e:x=y):E8 l=1:=if_pos ⟨h,by rw [h0,h1,e]⟩
theorem yT {l:List Int} {x y:Int} (h:l.length=2) (h0:l[0]? =some y) (h1:l[1]? =some x) (e: ¬ x=y):E8 l=l.length:=if_neg fun q=>e (by have:=q.2; rw [h0,h1] at this; exact Option.some.inj this)
theorem E1 (a b:Int):(a=b∧E8 (cV [a,b])=1)∨(¬ a=b∧E8 (cV [a,b])=2):=by
 have hl:(cV [a,b]).length=2:=by simp
 have hp:(cV [a,b]).Perm [a,b]:=fJ
 match hs:cV [a,b],hl with
 |[x,y],_=>
  rw [hs] at hp
  by_cases e:a=b
  ·subst e
   left
   refine ⟨U,vJ U U U ?_⟩
   have A:x∈[a,a]:=hp.mem_iff.1 sm
   have B:y∈[a,a]:=hp.mem_iff.1 sm
   simp at A B; omega
  ·right
   refine ⟨e,(yT (x:=y) (y:=x) U U U fun q=>?_).trans U⟩
   subst q
   have A:=hp.nodup_iff.2 (show [a,b].Nodup by simp [e])
   simp at A
section
variable {m left:gG} {i n x:Int} {y:aa}
theorem kJ {p:Int×aa→Bool} (hn:(left.map (·.1)).Nodup) (hm:(x,y)∈left):left.countP p=(bY left x).countP p+(if p (x,y)=true then 1 else 0):=by
 induction left with
 |nil=>cases hm
 |cons q left ih=>
  obtain ⟨a,b⟩:=q
  simp only [List.map_cons,List.nodup_cons] at hn
  rcases bw.1 hm with e|hm
  ·cases e
   have A:bY ((x,y)::left) x=left:=by
    unfold bY
    rw [List.filter_cons_of_neg sm]
    exact List.filter_eq_self.2 fun q hq=>by
     have:q.1≠x:=fun e=>hn.1 (e▸List.mem_map_of_mem hq)
     simpa using this
   rw [A,List.countP_cons]
  ·have B:a≠x:=fun e=>hn.1 (e▸List.mem_map_of_mem (f:=fun z:Int×aa=>z.1) hm)
   have A:bY ((a,b)::left) x=(a,b)::bY left x:=by
    unfold bY
    rw [List.filter_cons_of_pos (by simpa using B)]
   rw [A,List.countP_cons,List.countP_cons,ih hn.2 hm]
   omega
theorem mP:g8 left i n=left.countP fun p=>decide (p.2.Hi<n)&& !decide (p.1=i):=by unfold g8 lF; rw [List.countP_filter]
theorem oN:j3 left i n=left.countP fun p=>decide (p.2.Lo<n)&& !decide (p.1=i):=by unfold j3 lF; rw [List.countP_filter]
theorem CC (hn:(left.map (·.1)).Nodup) (hm:(x,y)∈left) (h:x=i):g8 left i n=g8 (bY left x) i n:=by
 rw [mP,mP,kJ hn hm]; simp [h]
theorem G4 (hn:(left.map (·.1)).Nodup) (hm:(x,y)∈left) (h:x=i):j3 left i n=j3 (bY left x) i n:=by
 rw [oN,oN,kJ hn hm]; simp [h]
theorem vy (hn:(left.map (·.1)).Nodup) (hm:(x,y)∈left) (h: ¬ x=i) (hy:y.Hi<n):g8 left i n=g8 (bY left x) i n+1:=by
 rw [mP,mP,kJ hn hm]; simp [h,hy]
theorem yn (hn:(left.map (·.1)).Nodup) (hm:(x,y)∈left) (h: ¬ x=i) (hy: ¬ y.Hi<n):g8 left i n=g8 (bY left x) i n:=by
 rw [mP,mP,kJ hn hm]; simp [h,hy]
theorem ze (hn:(left.map (·.1)).Nodup) (hm:(x,y)∈left) (h: ¬ x=i) (hy:y.Lo<n):j3 left i n=j3 (bY left x) i n+1:=by
 rw [oN,oN,kJ hn hm]; simp [h,hy]
theorem BL (hn:(left.map (·.1)).Nodup) (hm:(x,y)∈left) (h: ¬ x=i) (hy: ¬ y.Lo<n):j3 left i n=j3 (bY left x) i n:=by
 rw [oN,oN,kJ hn hm]; simp [h,hy]
theorem vZ:g8 [] i n=0:=rfl
theorem xR:j3 [] i n=0:=rfl
theorem BZ:g8 m i n≤m.length:=by unfold g8 lF; exact Nat.le_trans List.countP_le_length (List.length_filter_le _ _)
theorem Ev:j3 m i n≤m.length:=by unfold j3 lF; exact Nat.le_trans List.countP_le_length (List.length_filter_le _ _)
end
def m8 {β:Type} (m left:List (Int×β)) (ys:List Int):Prop:=(ys++left.map (·.1)).Perm (m.map (·.1))
theorem rH {β:Type} {m:List (Int×β)}:m8 m m []:=List.Perm.refl _
theorem tx {β:Type} {m:List (Int×β)} {ys:List Int} (h:m8 m [] ys):ys.Perm (m.map (·.1)):=by simpa [m8] using h
theorem Fl {β:Type} {left:List (Int×β)} {x:Int} {y:β} (hn:(left.map (·.1)).Nodup) (hm:(x,y)∈left):(left.map (·.1)).Perm (x::(bY left x).map (·.1)):=by
 induction left with
 |nil=>cases hm
 |cons q left ih=>
  obtain ⟨a,b⟩:=q
  simp only [List.map_cons,List.nodup_cons] at hn
  rcases bw.1 hm with e|hm
  ·cases e
   have A:bY ((x,y)::left) x=left:=by
    unfold bY
    rw [List.filter_cons_of_neg sm]
    exact List.filter_eq_self.2 fun q hq=>by
     have:q.1≠x:=fun e=>hn.1 (e▸List.mem_map_of_mem hq)
     simpa using this
   rw [A]; exact List.Perm.refl _
  ·have B:a≠x:=fun e=>hn.1 (e▸List.mem_map_of_mem (f:=fun z:Int×β=>z.1) hm)
   have A:bY ((a,b)::left) x=(a,b)::bY left x:=by
    unfold bY
    rw [List.filter_cons_of_pos (by simpa using B)]
   rw [A,List.map_cons,List.map_cons]
   exact ((ih hn.2 hm).cons a).trans (List.Perm.swap _ _ _)
theorem mR {β:Type} {m left:List (Int×β)} {ys:List Int} {x:Int} {y:β} (hn:(left.map (·.1)).Nodup) (hm:(x,y)∈left) (h:m8 m left ys):m8 m (bY left x) (ys++[x]):=by
 unfold m8 at h ⊢
 refine List.Perm.trans ?_ h
 rw [List.append_assoc]
 exact (Fl hn hm).symm.append_left ys
theorem e_ {β:Type} {m left:List (Int×β)} {x:Int} (h: ∀ p∈left,p∈m): ∀ p∈bY left x,p∈m:=fun p hp=>h p (jo.1 hp).1
theorem fZ {m:gG} {i:Int} (h: ∀ p∈m,0≤p.2.Lo∧p.2.Lo≤p.2.Hi∧p.2.Hi≤30000000):0≤(au m i).Lo∧(au m i).Lo≤(au m i).Hi∧(au m i).Hi≤30000000:=by
 unfold au
 cases e:m.lookup i with
 |none=>simp [dC]
 |some v=>
  have hm:(i,v)∈m:=by
   clear h
   induction m with
   |nil=>cases e
   |cons p m ih=>
    obtain ⟨a,b⟩:=p
    by_cases c:i=a
    ·subst c; simp [List.lookup] at e; subst e; exact cq
    ·have:(i==a)=false:=by simpa using c
     simp only [List.lookup,this] at e
     exact df _ (ih e)
  simpa using h _ hm
/-- not reached by the numbers so far -/
def rv (m:gG) (i:Int) (ys:List Int) (k:Int):Prop:=(1≤k∧k≤(m.length:Int))∧ ∀ n∈ys,¬ ((g8 m i n:Int)+1≤k∧k≤(j3 m i n:Int)+1)
section
variable {m:gG} {i:Int} {own:aa} {ys:List Int} {nev ranks:oD} {n a b:Int}
theorem EP (h:hU nev fun k=>1≤k∧k≤(m.length:Int)):hU nev (rv m i []):=h.uY fun k=>⟨fun h=>⟨h,fun n hn=>by cases hn⟩,fun h=>h.1⟩
theorem Ga (ha:a=(g8 m i n:Int)+1) (hb:b=(j3 m i n:Int)+1) (h:hU nev fun q=>rv m i ys q∧ ¬ (a≤q∧q≤b)):hU nev (rv m i (ys++[n])):=by
 subst ha hb
 refine h.uY fun k=>?_
 unfold rv
 constructor
 ·rintro ⟨⟨B,A⟩,C⟩
  refine ⟨B,fun x hx=>?_⟩
  rcases dM.1 hx with hx|hx
  ·exact A x hx
  ·rw [bJ] at hx; subst hx; exact C
 ·rintro ⟨B,A⟩
  exact ⟨⟨B,fun x hx=>A x (List.mem_append_left _ hx)⟩,A n sm⟩
theorem AT {P:Int→Prop} {k:Int} (hk:a≤k) (h:hU nev fun q=>P q∧ ¬ (a≤q∧q<k)):hU (bY nev k) fun q=>P q∧ ¬ (a≤q∧q<k+1):=
 (yK (k:=k) h).uY fun q=>by
  constructor
  ·rintro ⟨⟨B,A⟩,E⟩; exact ⟨B,fun ⟨C,D⟩=>A ⟨C,om⟩⟩
  ·rintro ⟨B,A⟩; exact ⟨⟨B,fun ⟨C,D⟩=>A ⟨C,om⟩⟩,fun e=>A ⟨om,om⟩⟩
theorem Cd (hall: ∀ n,n∈ys↔n∈iT m i own) {k:Int} (hk:1≤k∧k≤(m.length:Int)): ¬ rv m i ys k↔pT m i own k:=by
 unfold rv pT
 constructor
 ·intro h
  refine Classical.byContradiction fun q=>h ⟨hk,fun n hn hc=>q ⟨n,(hall n).1 hn,hc.1,hc.2⟩⟩
 ·rintro ⟨n,hn,A,B⟩ h
  exact h.2 n ((hall n).2 hn) ⟨A,B⟩
/-- the ranks, from what is left of the map -/
theorem zQ (hi:m.lookup i≠none) (hall: ∀ n,n∈ys↔n∈iT m i own) (h:hU ranks fun k=>(1≤k∧k≤(m.length:Int))∧ ¬ rv m i ys k):cV (ranks.map (·.1))=dq m i own:=by
 refine rl lI ?_ ((fJ (l:=ranks.map (·.1))).nodup_iff.2 h.1) ?_ fun k=>?_
 ·unfold dq
  refine List.Pairwise.filter _ ?_
  rw [List.pairwise_map]
  exact List.pairwise_lt_range.imp fun h=>by omega
 ·unfold dq
  refine List.Pairwise.filter _ ?_
  rw [List.pairwise_map]
  exact List.pairwise_lt_range.imp fun h=>by omega
 ·rw [(fJ (l:=ranks.map (·.1))).mem_iff,h.2 k,Ed hi]
  constructor
  ·rintro ⟨A,B⟩; exact (Cd hall A).1 B
  ·intro A
   have hk:1≤k∧k≤(m.length:Int):=by
    obtain ⟨n,_,B,C⟩:=A
    have:=Fc hi (x:=n)
    omega
   exact ⟨hk,(Cd hall hk).2 A⟩
end
section
variable {nw left rk:oD} {N R:Int→Prop} {u:Int} {v:Bool}
theorem H7 (hl: ∀ p∈left,p∈nw) (hk:hU nw N) (hm:(u,v)∈left) (h:hU rk fun w=>R w∧ ¬ (N w∧w ∉ left.map (·.1))):hU (bY rk u) fun w=>R w∧ ¬ (N w∧w ∉ (bY left u).map (·.1)):=
 (yK (k:=u) h).uY fun w=>by
  have hd:w∈(bY left u).map (·.1)↔w∈left.map (·.1)∧w≠u:=by
   constructor
   ·intro q
    obtain ⟨p,hp,rfl⟩:=b_.1 q
    exact ⟨List.mem_map_of_mem (jo.1 hp).1,(jo.1 hp).2⟩
   ·rintro ⟨D,E⟩
    obtain ⟨p,hp,rfl⟩:=b_.1 D
    exact List.mem_map_of_mem (jo.2 ⟨hp,E⟩)
  constructor
  ·rintro ⟨⟨B,A⟩,C⟩
   exact ⟨B,fun q=>A ⟨q.1,fun z=>q.2 (hd.2 ⟨z,C⟩)⟩⟩
  ·rintro ⟨B,A⟩
   refine ⟨⟨B,fun q=>A ⟨q.1,fun z=>q.2 (hd.1 z).1⟩⟩,fun e=>A ⟨?_,fun z=>(hd.1 z).2 e⟩⟩
   subst e
   exact (hk.2 _).1 (List.mem_map_of_mem (f:=fun z:Int×Bool=>z.1) (hl _ hm))
theorem GN {n:Nat} (h:hU rk R) (hR: ∀ k,R k→1≤k∧k≤(n:Int)):rk.length≤n:=by
 have hp:((List.range n).map fun (k:Nat)=>(k:Int)+1).Pairwise (· < ·):=by
  rw [List.pairwise_map]
  exact List.pairwise_lt_range.imp fun h=>by omega
 have e:cV (rk.map (·.1))=((List.range n).map fun (k:Nat)=>(k:Int)+1).filter fun k=>decide (k∈rk.map (·.1)):=by
  refine rl lI ((hp.filter _).imp fun h=>by omega) ((fJ (l:=rk.map (·.1))).nodup_iff.2 h.1) ((hp.filter _).imp fun h=>by omega) fun k=>?_
  rw [(fJ (l:=rk.map (·.1))).mem_iff,List.mem_filter,decide_eq_true_eq]
  refine ⟨fun q=>⟨?_,q⟩,fun q=>q.2⟩
  have:=hR k ((h.2 k).1 q)
  exact b_.2 ⟨(k-1).toNat,List.mem_range.2 om,om⟩
 have A:=congrArg List.length e
 have B:=List.length_filter_le (fun k=>decide (k∈rk.map (·.1))) ((List.range n).map fun (k:Nat)=>(k:Int)+1)
 rw [fO,List.length_map] at A
 rw [List.length_map,List.length_range] at B
 omega
end
section
variable {m left:gG} {i x n:Int} {own y:aa} {ys:List Int}
/-- what was told so far: all of those who are not left -/
def wj (m:gG) (i:Int) (own:aa) (left:gG) (ys:List Int):Prop:=(∀ n∈ys,n∈iT m i own)∧own.Lo∈ys∧ ∀ p∈m,p.1≠i→p ∉ left→ ∀ n∈[p.2.Lo+1,p.2.Hi+1],own.Lo≤n∧n≤own.Hi→n∈ys
theorem lJ {p:Int×aa} (hp:p∈m) (hi:p.1≠i) (hn:n=p.2.Lo+1∨n=p.2.Hi+1) (hb:own.Lo≤n∧n≤own.Hi):n∈iT m i own:=
 df _ (List.mem_filter.2 ⟨List.mem_flatMap.2 ⟨p,List.mem_filter.2 ⟨hp,by simpa using hi⟩,by simpa using hn⟩,dB hb⟩)
theorem EZ:wj m i own m [own.Lo]:=⟨fun n hn=>by rw [bJ] at hn; subst hn; exact cq,sm,fun p hp _ hl=>absurd hp hl⟩
theorem Jk (h:wj m i own [] ys) (n:Int):n∈ys↔n∈iT m i own:=by
 refine ⟨h.1 n,fun hn=>?_⟩
 rcases bw.1 hn with rfl|hn
 ·exact h.2.1
 ·obtain ⟨C,D⟩:=List.mem_filter.1 hn
  obtain ⟨p,hp,hx⟩:=List.mem_flatMap.1 C
  obtain ⟨A,B⟩:=List.mem_filter.1 hp
  exact h.2.2 p A (by simpa using B) sm n hx (of_decide_eq_true D)
theorem j5 {ys':List Int} (hm:(left.map (·.1)).Nodup) (hx:(x,y)∈left) (hl: ∀ p∈left,p∈m) (h:wj m i own left ys) (hs: ∀ n∈ys,n∈ys') (hn: ∀ n∈ys',n∈ys∨n∈iT m i own)
 (hy:x≠i→ ∀ n∈[y.Lo+1,y.Hi+1],own.Lo≤n∧n≤own.Hi→n∈ys'):wj m i own (bY left x) ys':=by
 refine ⟨fun n A=>?_,hs _ h.2.1,fun p hp hi B n A hb=>?_⟩
 ·rcases hn n A with q|q
  ·exact h.1 n q
  ·exact q
 ·by_cases e:p∈left
  ·have C:p.1=x:=by
    refine Classical.byContradiction fun q=>B (jo.2 ⟨e,q⟩)
   have E:p=(x,y):=by
    obtain ⟨G,H⟩:=p
    simp only at C; subst C
    have F:=(jf hm).1 e
    have D:=(jf hm).1 hx
    rw [F] at D; cases D; rfl
   subst E
   exact hy hi n A hb
  ·exact hs n (h.2.2 p hp hi e n A hb)
end
section
variable {r:bX} {h i:Int} {ht:List aw} {d:aw}
theorem lV (he: ¬ cG r=0):kb r h i=cG r:=if_neg he
theorem nq (he:cG r=0) (hi: ¬ ((0≤h∧h≤(r.aB.length:Int)-1)∧0≤i∧i≤(r.aU.length:Int)-1)):kb r h i=2:=by
 unfold kb; rw [if_pos he,if_neg (show ¬ ((0≤h∧h≤(r.aB.length:Int)-1)∧q8 r i) from hi)]
theorem xO (he:cG r=0) (hi:(0≤h∧h≤(r.aB.length:Int)-1)∧0≤i∧i≤(r.aU.length:Int)-1) (h1:r.aB[h.toNat]? =some ht) (h2:ht[i.toNat]? =some d):kb r h i=if d.Out=true then 6 else 0:=by
 unfold kb; rw [if_pos he,if_pos (show (0≤h∧h≤(r.aB.length:Int)-1)∧q8 r i from hi),h1]
 simp [h2]
theorem mh (he:cG r=0) (hi:(0≤h∧h≤(r.aB.length:Int)-1)∧0≤i∧i≤(r.aU.length:Int)-1) (h1:r.aB[h.toNat]? =some ht) (h2:ht[i.toNat]? =some d) (ho:d.Out=true):kb r h i=6:=by rw [xO he hi h1 h2,if_pos ho]
theorem o1 (he:cG r=0) (hi:(0≤h∧h≤(r.aB.length:Int)-1)∧0≤i∧i≤(r.aU.length:Int)-1) (h1:r.aB[h.toNat]? =some ht) (h2:ht[i.toNat]? =some d) (ho:d.Out=false):kb r h i=0∧fy r h i=dA r.ar d:=by
 have e:kb r h i=0:=by rw [xO he hi h1 h2,if_neg (by rw [ho]; decide)]
 refine ⟨e,?_⟩
 unfold fy
 rw [if_pos e,h1]
 simp [h2]
end
theorem vd {r:bX} {i:Int} (h: ¬ km r i=0):iA r i=[]:=if_neg h
theorem CO {r:bX} {i:Int} (h:km r i=0):iA r i=dq (ay r) i (au (ay r) i):=if_pos h
end
section
open Go.RowKit
section
variable {key:Int→Int} {l q m:List Int} {i j:Nat} {x y:Int}
theorem D4:1=1∧l=[]∨qI key l 1 l:=by
 cases l with
 |nil=>exact .inl ⟨rfl,rfl⟩
 |cons a l=>exact .inr (G0 sm)
theorem JF (h:i<l.length) (hd:i=1∧l=[]∨qI key l i m):qI key l i m:=by
 rcases hd with ⟨_,rfl⟩|hd
 ·simp at h
 ·exact hd
theorem GH (hi: ¬ i<l.length) (hl:m.length=l.length) (hd:i=1∧l=[]∨qI key l i m):m=dK key l:=by
 rcases hd with ⟨_,rfl⟩|hd
 ·exact iz hl
 ·exact GG om hd
theorem GC (hx:q[j]? =some x) (hy:q[j-1]? =some y) (h: ∀ z∈q,z∈l): ∀ z∈(q.set j y).set (j-1) x,z∈l:=fun z hz=>by
 rcases List.mem_or_eq_of_mem_set hz with hz|rfl
 ·rcases List.mem_or_eq_of_mem_set hz with hz|rfl
  ·exact h z hz
  ·exact h _ (aT hy)
 ·exact h _ (aT hx)
theorem ti {p:Int→Bool} (hx:l[i]? =some x) (h:p x=true):(l.take (i+1)).filter p=(l.take i).filter p++[x]:=by
 rw [kD hx,List.filter_append]; simp [h]
theorem By {p:Int→Bool} (hx:l[i]? =some x) (h:p x=false):(l.take (i+1)).filter p=(l.take i).filter p:=by
 rw [kD hx,List.filter_append]; simp [h]
end
section
variable {r:bX} {h:Int} {n:Nat}
theorem Aa (e: ¬ cG r=0):g7 r h=cG r:=if_neg e
theorem AX (e:cG r=0) (q: ¬ (0≤h∧h≤(r.aB.length:Int))):g7 r h=2:=by unfold g7; rw [if_pos e,if_neg q]
theorem vr (e:cG r=0) (q:0≤h∧h≤(r.aB.length:Int)):g7 r h=0:=by unfold g7; rw [if_pos e,if_pos q]
theorem AR (hd:r.bV.length≤12):(gv r h).length≤12:=by
 unfold gv
 split
 ·split
  ·exact hd
  ·unfold rn
   simp only [jt,jF]
   exact Nat.le_trans (List.length_filter_le _ _) hd
 ·simp
theorem vk (e: ¬ g7 r h=0):gv r h=[]:=if_neg e
theorem si (e:g7 r h=0) (q:h=0):gv r h=r.bV:=by unfold gv; rw [if_pos e,if_pos q]
theorem rR (e:g7 r (n:Int)=0) (q: ¬ (n:Int)=0):gv r (n:Int)=rn r n:=by unfold gv; rw [if_pos e,if_neg q,Int.toNat_natCast]
theorem vQ {k:Nat} {l:List Int} (hl:l=dK (fun i=>(au (dV r n) i).Hi) (r.bV.filter fun i=>((dV r n).lookup i).isSome)) (hk:k=min r.iP.toNat l.length):pz k l=rn r n:=by subst hl; subst hk; rfl
theorem N5 {m:gG} {l:List Int} (hb: ∀ p∈m,0≤p.2.Lo∧p.2.Lo≤p.2.Hi∧p.2.Hi≤30000000): ∀ x∈l,0≤(au m x).Hi∧(au m x).Hi≤30000000:=fun x _=>by have:=fZ (i:=x) hb; omega
theorem Nw {m:gG} {l:List Int} (hb: ∀ p∈m,0≤p.2.Lo∧p.2.Lo≤p.2.Hi∧p.2.Hi≤30000000): ∀ x∈l,0≤(au m x).Lo∧(au m x).Lo≤30000000:=fun x _=>by have:=fZ (i:=x) hb; omega
end
end
section
def Hb (f:Int→aa) (g:List Int):Prop:= ∀ t,(∃ a∈g,(f a).Lo<t)→(∃ b∈g,t≤(f b).Lo)→ ∃ c∈g,(f c).Lo<t∧t≤(f c).Hi
def GJ (f:Int→aa) (g h:List Int):Prop:= ∀ a∈g,∀ b∈h,(f a).Hi<(f b).Lo
structure gM (f:Int→aa) (keys:List Int) (G:List (List Int)):Prop where
 perm:G.flatten.Perm keys
 some_: ∀ g∈G,g≠[]
 apart:G.Pairwise (GJ f)
 tight: ∀ g∈G,Hb f g
def x9 (G:List (List Int)):Prop:= ∀ g∈G,g.Pairwise (· ≤ ·)
section
variable {f:Int→aa} {keys:List Int} {G G':List (List Int)} {g h:List Int} {x:Int}
theorem uJ: ∀ {g:List Int},g≠[]→ ∃ a∈g,∀ b∈g,(f a).Lo≤(f b).Lo
 |[],h=>absurd rfl h
 |[a],_=>⟨a,sm,fun b hb=>by simp at hb; subst hb; omega⟩
 |a::b::g,_=>by
  obtain ⟨c,hc,hm⟩:=uJ (g:=b::g) sm
  rcases Int.le_total (f a).Lo (f c).Lo with q|q
  ·refine ⟨a,sm,fun d hd=>?_⟩
   rcases bw.1 hd with rfl|hd
   ·omega
   ·have:=hm d hd; omega
  ·refine ⟨c,df _ hc,fun d hd=>?_⟩
   rcases bw.1 hd with rfl|hd
   ·exact q
   ·exact hm d hd
/-- the first group is what no cut parts from the least -/
theorem o5 (hf: ∀ i∈keys,(f i).Lo≤(f i).Hi) (h:gM f keys (g::G)) {a:Int} (ha:a∈keys) (hm: ∀ b∈keys,(f a).Lo≤(f b).Lo) {b:Int} (hb:b∈keys):b∈g↔ ∀ t,(f a).Lo<t→t≤(f b).Lo→ ∃ c∈keys,(f c).Lo<t∧t≤(f c).Hi:=by
 have hk: ∀ x,x∈keys↔x∈g∨x∈G.flatten:=fun x=>by rw [← h.perm.mem_iff,List.flatten_cons,dM]
 have A:=List.pairwise_cons.1 h.apart
 have B:a∈g:=by
  rcases (hk a).1 ha with q|q
  ·exact q
  ·obtain ⟨y,hy⟩:=List.exists_mem_of_ne_nil _ (h.some_ g cq)
   obtain ⟨g',hg',hag'⟩:=List.mem_flatten.1 q
   have F:=A.1 g' hg' y hy a hag'
   have H:=hm y ((hk y).2 (.inl hy))
   have E:=hf y ((hk y).2 (.inl hy))
   omega
 constructor
 ·intro AA t F H
  obtain ⟨c,hc,E⟩:=h.tight g cq t ⟨a,B,F⟩ ⟨b,AA,H⟩
  exact ⟨c,(hk c).2 (.inl hc),E⟩
 ·intro C
  rcases (hk b).1 hb with q|q
  ·exact q
  ·exfalso
   obtain ⟨d,hd,D⟩:=uJ (f:=f) (g:=G.flatten) (fun e=>by rw [e] at q; cases q)
   obtain ⟨g',hg',hdg'⟩:=List.mem_flatten.1 hd
   have F:=A.1 g' hg' a B d hdg'
   have H:=hf a ha
   have E:=D b q
   obtain ⟨c,hc,K,L⟩:=C (f d).Lo om E
   rcases (hk c).1 hc with J|J
   ·have:=A.1 g' hg' c J d hdg'; omega
   ·have:=D c J; omega
theorem sh (h:gM f keys (g::G)):gM f G.flatten G:=
 ⟨List.Perm.refl _,fun x hx=>h.some_ x (df _ hx),(List.pairwise_cons.1 h.apart).2,fun x hx=>h.tight x (df _ hx)⟩
theorem oF {k2:List Int} (h:gM f keys G) (p:keys.Perm k2):gM f k2 G:=⟨h.perm.trans p,h.some_,h.apart,h.tight⟩
theorem pD: ∀ {G G':List (List Int)} {keys:List Int},keys.Nodup→(∀ i∈keys,(f i).Lo≤(f i).Hi)→gM f keys G→gM f keys G'→x9 G→x9 G'→G=G'
 |[],[],keys,_,_,_,_,_,_=>rfl
 |[],g'::G',keys,_,_,h,h',_,_=>by
  exfalso
  have F:keys=[]:=List.Perm.eq_nil (by simpa using h.perm.symm)
  subst F
  have:=h'.perm.eq_nil
  simp at this
  exact h'.some_ g' cq this.1
 |g::G,[],keys,_,_,h,h',_,_=>by
  exfalso
  have F:keys=[]:=List.Perm.eq_nil (by simpa using h'.perm.symm)
  subst F
  have:=h.perm.eq_nil
  simp at this
  exact h.some_ g cq this.1
 |g::G,g'::G',keys,hn,hf,h,h',ha,ha'=>by
  have H:keys≠[]:=fun e=>by
   subst e
   have:=h.perm.eq_nil
   simp at this
   exact h.some_ g cq this.1
  obtain ⟨a,A,B⟩:=uJ (f:=f) H
  have D:=h.perm.nodup_iff.2 hn
  have E:=h'.perm.nodup_iff.2 hn
  rw [List.flatten_cons,List.nodup_append] at D E
  have wo: ∀ b∈g,b∈keys:=fun b hb=>h.perm.mem_iff.1 (by rw [List.flatten_cons]; exact List.mem_append_left _ hb)
  have C: ∀ b∈g',b∈keys:=fun b hb=>h'.perm.mem_iff.1 (by rw [List.flatten_cons]; exact List.mem_append_left _ hb)
  have e:g=g':=by
   refine rl (ha g cq) (ha' g' cq) D.1 E.1 fun b=>?_
   constructor
   ·intro hb
    exact (o5 hf h' A B (wo b hb)).2 ((o5 hf h A B (wo b hb)).1 hb)
   ·intro hb
    exact (o5 hf h A B (C b hb)).2 ((o5 hf h' A B (C b hb)).1 hb)
  subst e
  have p:G.flatten.Perm G'.flatten:=by
   have:=h.perm.trans h'.perm.symm
   rw [List.flatten_cons,List.flatten_cons] at this
   exact (List.perm_append_left_iff g).1 this
  rw [pD (G:=G) (G':=G') D.2.1 (fun i hi=>hf i (h.perm.mem_iff.1 (by rw [List.flatten_cons]; exact List.mem_append_right _ hi))) (sh h) (oF (sh h') p.symm) (fun x hx=>ha x (df _ hx)) (fun x hx=>ha' x (df _ hx))]
/-- groups, each one put in order -/
theorem r9 (h:gM f keys G):gM f keys (G.map cV)∧x9 (G.map cV):=by
 have hp: ∀ G:List (List Int),(G.map cV).flatten.Perm G.flatten:=fun G=>by
  induction G with
  |nil=>simp
  |cons g G ih=>simp only [List.map_cons,List.flatten_cons]; exact fJ.append ih
 have hm: ∀ {g:List Int} {x:Int},x∈cV g↔x∈g:=fJ.mem_iff
 refine ⟨⟨(hp G).trans h.perm,fun g hg=>?_,?_,fun g hg=>?_⟩,fun g hg=>?_⟩
 ·obtain ⟨y,hy,rfl⟩:=b_.1 hg
  intro e
  have:=(fJ (l:=y)).symm
  rw [e] at this
  exact h.some_ y hy this.eq_nil
 ·rw [List.pairwise_map]
  exact h.apart.imp fun q a ha b hb=>q a (hm.1 ha) b (hm.1 hb)
 ·obtain ⟨y,hy,rfl⟩:=b_.1 hg
  rintro t ⟨a,ha,A⟩ ⟨b,hb,B⟩
  obtain ⟨c,hc,C⟩:=h.tight y hy t ⟨a,hm.1 ha,A⟩ ⟨b,hm.1 hb,B⟩
  exact ⟨c,hm.2 hc,C⟩
 ·obtain ⟨y,hy,rfl⟩:=b_.1 hg
  exact lI
end
/-- so far: groups, and the greatest of all -/
structure kS (f:Int→aa) (p:List Int) (G:List (List Int)) (last:Int):Prop where
 ok:gM f p G
 LY: ∀ a∈p,(f a).Hi≤last
 at_:p=[]∧last= -1∨ ∃ a∈p,(f a).Hi=last
section
variable {f:Int→aa} {p:List Int} {G:List (List Int)} {g:List Int} {x last:Int}
theorem Cn:kS f [] [] (-1):=⟨⟨sm,fun g hg=>(by cases hg),List.Pairwise.nil,fun g hg=>by cases hg⟩,fun a ha=>(by cases ha),.inl ⟨rfl,rfl⟩⟩
theorem DX:Hb f [x]:=by
 rintro t ⟨a,ha,A⟩ ⟨b,hb,B⟩
 simp at ha hb; subst ha hb; omega
theorem o9 (h0: -1≤(f x).Hi) (h:kS f p G last):(∀ a∈p++[x],(f a).Hi≤max last (f x).Hi)∧((p++[x])=[]∧max last (f x).Hi= -1∨ ∃ a∈p++[x],(f a).Hi=max last (f x).Hi):=by
 refine ⟨fun a ha=>?_,.inr ?_⟩
 ·rcases dM.1 ha with ha|ha
  ·have:=h.LY a ha; omega
  ·rw [bJ] at ha; subst ha; omega
 ·rcases Int.le_total last (f x).Hi with q|q
  ·exact ⟨x,sm,om⟩
  ·rcases h.at_ with ⟨rfl,e⟩|⟨a,ha,e⟩
   ·exact ⟨x,sm,om⟩
   ·exact ⟨a,List.mem_append_left _ ha,om⟩
theorem Ip (h0: -1≤(f x).Hi) (h:kS f p G last) (hl:last<(f x).Lo):kS f (p++[x]) (G++[[x]]) (max last (f x).Hi):=by
 have A: ∀ y∈G,∀ a∈y,a∈p:=fun y hy a ha=>h.ok.perm.mem_iff.1 (List.mem_flatten.2 ⟨y,hy,ha⟩)
 refine ⟨⟨?_,fun y hy=>?_,?_,fun y hy=>?_⟩,(o9 h0 h).1,(o9 h0 h).2⟩
 ·rw [List.flatten_append]
  exact h.ok.perm.append sm
 ·rcases dM.1 hy with hy|hy
  ·exact h.ok.some_ y hy
  ·rw [bJ] at hy; subst hy; simp
 ·rw [List.pairwise_append]
  refine ⟨h.ok.apart,List.pairwise_singleton _ _,fun y hy z hz a ha b hb=>?_⟩
  rw [bJ] at hz; subst hz
  rw [bJ] at hb; subst hb
  have:=h.LY a (A y hy a ha); omega
 ·rcases dM.1 hy with hy|hy
  ·exact h.ok.tight y hy
  ·rw [bJ] at hy; subst hy; exact DX
theorem FC (h0: -1≤(f x).Hi) (hf: ∀ i∈p,(f i).Lo≤(f i).Hi) (hx: ∀ a∈p,(f a).Lo≤(f x).Lo) (h:kS f p (G++[g]) last) (hl: ¬ last<(f x).Lo):kS f (p++[x]) (G++[g++[x]]) (max last (f x).Hi):=by
 have A: ∀ y∈G++[g],∀ a∈y,a∈p:=fun y hy a ha=>h.ok.perm.mem_iff.1 (List.mem_flatten.2 ⟨y,hy,ha⟩)
 have C:=List.pairwise_append.1 h.ok.apart
 have B:=h.ok.some_ g sm
 refine ⟨⟨?_,fun y hy=>?_,?_,fun y hy=>?_⟩,(o9 h0 h).1,(o9 h0 h).2⟩
 ·have:=h.ok.perm
  rw [List.flatten_append] at this ⊢
  simp only [List.flatten_cons,List.flatten_nil,List.append_nil] at this ⊢
  rw [← List.append_assoc]
  exact this.append_right _
 ·rcases dM.1 hy with hy|hy
  ·exact h.ok.some_ y (List.mem_append_left _ hy)
  ·rw [bJ] at hy; subst hy; simp
 ·rw [List.pairwise_append]
  refine ⟨C.1,List.pairwise_singleton _ _,fun y hy z hz a ha b hb=>?_⟩
  rw [bJ] at hz; subst hz
  rcases dM.1 hb with hb|hb
  ·exact C.2.2 y hy g sm a ha b hb
  ·rw [bJ] at hb; subst hb
   obtain ⟨c,hc⟩:=List.exists_mem_of_ne_nil _ B
   have K:=C.2.2 y hy g sm a ha c hc
   have H:=hx c (A g sm c hc)
   omega
 ·rcases dM.1 hy with hy|hy
  ·exact h.ok.tight y (List.mem_append_left _ hy)
  ·rw [bJ] at hy; subst hy
   rintro t ⟨a,ha,K⟩ ⟨b,hb,H⟩
   by_cases D: ∃ b∈g,t≤(f b).Lo
   ·obtain ⟨b',hb',L⟩:=D
    have AA:a∈g:=by
     rcases dM.1 ha with q|q
     ·exact q
     ·rw [bJ] at q; subst q
      have:=hx b' (A g sm b' hb'); omega
    obtain ⟨c,hc,M⟩:=h.ok.tight g sm t ⟨a,AA,K⟩ ⟨b',hb',L⟩
    exact ⟨c,List.mem_append_left _ hc,M⟩
   ·have J: ∀ c∈g,(f c).Lo<t:=fun c hc=>by
     refine Classical.byContradiction fun q=>D ⟨c,hc,om⟩
    have N:t≤(f x).Lo:=by
     rcases dM.1 hb with q|q
     ·exact absurd ⟨b,q,H⟩ D
     ·rw [bJ] at q; subst q; exact H
    rcases h.at_ with ⟨e,_⟩|⟨c,hc,e⟩
    ·exfalso
     obtain ⟨c,hc⟩:=List.exists_mem_of_ne_nil _ B
     have:=A g sm c hc
     rw [e] at this; cases this
    ·have E:c∈g:=by
      obtain ⟨y,hy,F⟩:=List.mem_flatten.1 (h.ok.perm.mem_iff.2 hc)
      rcases dM.1 hy with hy|hy
      ·exfalso
       obtain ⟨d,hd⟩:=List.exists_mem_of_ne_nil _ B
       have L:=C.2.2 y hy g sm c F d hd
       have M:=hf d (A g sm d hd)
       have O:=h.LY d (A g sm d hd)
       omega
      ·rw [bJ] at hy; subst hy; exact F
     exact ⟨c,List.mem_append_left _ E,J c E,om⟩
theorem GF (h:kS f p G last) (hp:p≠[]):G≠[]:=fun e=>by
 subst e
 exact hp (by simpa using h.ok.perm.symm.eq_nil)
end
end
section
open Go.RowKit
/-- a map, or nil -/
def oC (o:Option Nat):List Value:=[Value.map o]
theorem w5 {α:Type}: ∀ {ms:List α} {asl:List Nat},ms.length=asl.length→List.zipWith e8 ms asl=(asl.map some).map oC
 |[],[],_=>rfl
 |[],_::_,h=>by simp at h
 |_::_,[],h=>by simp at h
 |x::ms,y::asl,h=>by simp only [List.zipWith_cons_cons,List.map_cons,w5 (ms:=ms) (asl:=asl) (by simpa using h)]; rfl
/-- what stands for all but one -/
def eM {M A:Type} (f:M→A→List aq) (ms:List M) (asl:List A) (k:Nat):List aq:=aX f (ms.take k) (asl.take k)++aX f (ms.drop (k+1)) (asl.drop (k+1))
theorem jV {M A:Type} {f:M→A→List aq}: ∀ {ms:List M} {asl:List A} {k:Nat} {m:M} {a:A},ms[k]? =some m→asl[k]? =some a→(aX f ms asl).Perm (f m a++eM f ms asl k)
 |[],_,k,m,a,h,_=>by simp at h
 |_::_,[],k,m,a,_,h=>by simp at h
 |x::ms,y::asl,0,m,a,h,h2=>by
  simp at h h2; subst h h2
  simp [eM,aX]
 |x::ms,y::asl,k+1,m,a,h,h2=>by
  have ih:=jV (f:=f) (ms:=ms) (asl:=asl) (k:=k) (by simpa using h) (by simpa using h2)
  show (f x y++aX f ms asl).Perm (f m a++eM f (x::ms) (y::asl) (k+1))
  have e:eM f (x::ms) (y::asl) (k+1)=f x y++eM f ms asl k:=by simp [eM,aX,List.append_assoc]
  rw [e]
  refine (ih.append_left (f x y)).trans ?_
  rw [← List.append_assoc,← List.append_assoc]
  exact List.perm_append_comm.append_right _
theorem DK {M A:Type} {f:M→A→List aq} {ms:List M} {asl:List A} {k:Nat} {m':M}:eM f (ms.set k m') asl k=eM f ms asl k:=by
 unfold eM
 rw [List.take_set_of_le (Nat.le_refl k),List.drop_set_of_lt (Nat.lt_succ_self k)]
theorem jY {S:BS} {w0 w:World} {C X Y:List aq} (hp:X.Perm Y) (h:St S w0 (bB X::C) w):St S w0 (bB Y::C) w:=by
 have A:St S w0 (X++C) w:=h.jz
 exact (A.perm (hp.append_right C)).tied
theorem St.out {M A:Type} {f:M→A→List aq} {S:BS} {w0 w:World} {C:List aq} {ms:List M} {asl:List A} {k:Nat} {m:M} {a:A} {X:aq} (hm:ms[k]? =some m) (ha:asl[k]? =some a) (hf:f m a=[X]) (h:St S w0 (bB (aX f ms asl)::C) w):St S w0 (X::bB (eM f ms asl k)::C) w:=by
 have B:=(jY (jV hm ha) h).jz
 rw [hf] at B
 have D:St S w0 (eM f ms asl k++(X::C)) w:=B.perm (List.perm_middle (a:=X) (l₁:=eM f ms asl k) (l₂:=C)).symm
 exact D.tied.perm (List.Perm.swap _ _ _)
theorem St.back {M A:Type} {f:M→A→List aq} {S:BS} {w0 w:World} {C:List aq} {ms:List M} {asl:List A} {k:Nat} {m':M} {a:A} {X:aq} (hk:k<ms.length) (ha:asl[k]? =some a) (hf:f m' a=[X]) (h:St S w0 (X::bB (eM f ms asl k)::C) w):St S w0 (bB (aX f (ms.set k m') asl)::C) w:=by
 have B:St S w0 (bB (eM f ms asl k)::X::C) w:=h.perm (List.Perm.swap _ _ _)
 have D:=B.jz
 have E:St S w0 ((f m' a++eM f (ms.set k m') asl k)++C) w:=by
  rw [hf,DK]
  exact D.perm (List.perm_middle (a:=X) (l₁:=eM f ms asl k) (l₂:=C))
 exact jY (jV (List.getElem?_set_self hk) ha).symm E.tied
section
variable {E:eD} {ops:Array Oper} {Q:cP} {rest:List Oper} {D:List Deferred} {L:List (Nat×Value)} {C C1:List aq}
variable {M A:Type} {f:M→A→List aq} {ms:List M} {asl:List A} {k:Nat} {m:M} {a:A} {X:aq}
theorem vW {c:Code} (i:Nat) (hm:ms[k]? =some m) (ha:asl[k]? =some a) (hf:f m a=[X]) (hn:decide (i::(List.range C.length).filter fun k=>k != i).Nodup=true) (hC:kB C (i::(List.range C.length).filter fun k=>k != i)=bB (aX f ms asl)::C1)
 (h:WJ E c Q D L (X::bB (eM f ms asl k)::C1)):WJ E c Q D L C:=fun a w hf' hs=>h a w hf' (St.out hm ha hf (St.kB _ hn hC hs))
theorem wW {K:Act→World→Prop} (i j:Nat) (hk:k<ms.length) (ha:asl[k]? =some a) (hf:f m a=[X]) (hn:decide (j::i::(List.range C.length).filter fun k=>k != i&&k != j).Nodup=true) (hC:kB C (j::i::(List.range C.length).filter fun k=>k != i&&k != j)=X::bB (eM f ms asl k)::C1)
 (h:KJ E K D L (bB (aX f (ms.set k m) asl)::C1)):KJ E K D L C:=fun a w hf' hs=>h a w hf' (St.back hk ha hf (St.kB _ hn hC hs))
end
end
section
open Go.RowKit
def lW (l:List Int) (a:RA):List Value:=[vS a.1 l.length a.2]
def Mg (l:List Int) (a:RA):List aq:=[rd a.1 l.length 1 (l.map iC)]
def qa (l:List Int) (a:RA):List aq:=[own a.1 a.2 MU 1 (l.map iC)]
theorem Cf: ∀ (m:List Int) (a:RA) (w:World),(∀ X∈qa m a,X.holds w)→ ∀ X∈Mg m a,X.holds w:=fun m a w h X hX=>by
 simp only [Mg,bJ] at hX
 subst hX
 have:=oS (h _ (bJ.2 rfl))
 simpa using this
theorem G8 {l:List (List Int)} {bz:List RA}:(bB (aX qa l bz)).wr=true:=by
 show (aX qa l bz).all (·.wr)=true
 rw [cN]
 intro X hX
 obtain ⟨k,m,a,_,_,h⟩:=iU hX
 simp only [qa,bJ] at h
 subst h; rfl
theorem j_ {ls:List (List Int)} {az:List RA} (h:az.length=ls.length):(List.zipWith lW ls az).length=ls.length:=by simp [h]
theorem H2 (l:List (List Int)) (az:List RA): ∀ v∈(List.zipWith lW l az).flatten,v.oneCell'=true:=by
 induction l generalizing az with
 |nil=>intro v hv; simp at hv
 |cons x l ih=>
  cases az with
  |nil=>intro v hv; simp at hv
  |cons a az=>
   intro v hv
   rw [List.zipWith_cons_cons,List.flatten_cons,dM] at hv
   rcases hv with hv|hv
   ·simp [lW] at hv; subst hv; rfl
   ·exact ih az v hv
section
variable {M A:Type} {f:M→A→List aq} {ms:List M} {asl:List A} {k:Nat} {m:M} {a:A} {X:aq}
theorem pY:eM f (ms.set k m) (asl.set k a) k=eM f ms asl k:=by
 unfold eM
 rw [List.take_set_of_le (Nat.le_refl k),List.drop_set_of_lt (Nat.lt_succ_self k),List.take_set_of_le (Nat.le_refl k),List.drop_set_of_lt (Nat.lt_succ_self k)]
theorem St.MA {S:BS} {w0 w:World} {C:List aq} (hk:k<ms.length) (hk2:k<asl.length) (hf:f m a=[X]) (h:St S w0 (X::bB (eM f ms asl k)::C) w):St S w0 (bB (aX f (ms.set k m) (asl.set k a))::C) w:=by
 have A:St S w0 (bB (eM f ms asl k)::X::C) w:=h.perm (List.Perm.swap _ _ _)
 have B:=A.jz
 have D:St S w0 ((f m a++eM f (ms.set k m) (asl.set k a) k)++C) w:=by
  rw [hf,pY]
  exact B.perm (List.perm_middle (a:=X) (l₁:=eM f ms asl k) (l₂:=C))
 exact jY (jV (List.getElem?_set_self hk) (List.getElem?_set_self hk2)).symm D.tied
theorem o0 {β:Type} {c:M→A→β}:(List.zipWith c ms asl).set k (c m a)=List.zipWith c (ms.set k m) (asl.set k a):=by
 apply List.ext_getElem?
 intro j
 rw [List.getElem?_set]
 by_cases e:k=j
 ·subst e
  rw [if_pos rfl,List.length_zipWith,List.getElem?_zipWith,List.getElem?_set,List.getElem?_set,if_pos rfl,if_pos rfl]
  by_cases B:k<ms.length
  ·by_cases C:k<asl.length
   ·rw [if_pos om,if_pos B,if_pos C]
   ·rw [if_neg om,if_pos B,if_neg C]
  ·rw [if_neg om,if_neg B]
 ·rw [if_neg e,List.getElem?_zipWith,List.getElem?_zipWith,List.getElem?_set_ne e,List.getElem?_set_ne e]
variable {E:eD} {ops:Array Oper} {Q:cP} {rest:List Oper} {D:List Deferred} {L:List (Nat×Value)} {C C1:List aq}
abbrev yh (C:List aq) (i j:Nat):List Nat:=j::i::(List.range C.length).filter fun k=>k != i&&k != j
abbrev CK (C:List aq) (i:Nat):List Nat:=i::(List.range C.length).filter fun k=>k != i
theorem BC (i j:Nat) (hk:k<ms.length) (hk2:k<asl.length) (hf:f m a=[X]) (hn:decide (yh C i j).Nodup=true) (hC:kK C (yh C i j)=some (X::bB (eM f ms asl k)::C1))
 (h:RJ E ops Q rest D L (bB (aX f (ms.set k m) (asl.set k a))::C1)):RJ E ops Q rest D L C:=fun a w hf' hs=>h a w hf' (St.MA hk hk2 hf (St.kB _ hn (iR hC) hs))
theorem Aj {c:Code} (i:Nat) (hm:ms[k]? =some m) (ha:asl[k]? =some a) (hf:f m a=[X]) (hn:decide (CK C i).Nodup=true) (hC:kK C (CK C i)=some (bB (aX f ms asl)::C1))
 (h:WJ E c Q D L (X::bB (eM f ms asl k)::C1)):WJ E c Q D L C:=fun a w hf' hs=>h a w hf' (St.out hm ha hf (St.kB _ hn (iR hC) hs))
theorem HX {K:Act→World→Prop} (i j:Nat) (hk:k<ms.length) (ha:asl[k]? =some a) (hf:f m a=[X]) (hn:decide (yh C i j).Nodup=true) (hC:kK C (yh C i j)=some (X::bB (eM f ms asl k)::C1))
 (h:KJ E K D L (bB (aX f (ms.set k m) asl)::C1)):KJ E K D L C:=fun a w hf' hs=>h a w hf' (St.back hk ha hf (St.kB _ hn (iR hC) hs))
theorem K_ {Y Y':List aq} (i j:Nat) (hn:decide (yh C i j).Nodup=true) (hC:kK C (yh C i j)=some (X::bB Y::C1)) (e:Y++[X]=Y') (h:RJ E ops Q rest D L (bB Y'::C1)):RJ E ops Q rest D L C:=fun a w hf hs=>h a w hf ((St.kB _ hn (iR hC) hs).tie e)
theorem GY {K:Act→World→Prop} {Y Y':List aq} (i j:Nat) (hn:decide (yh C i j).Nodup=true) (hC:kK C (yh C i j)=some (X::bB Y::C1)) (e:Y++[X]=Y') (h:KJ E K D L (bB Y'::C1)):KJ E K D L C:=fun a w hf hs=>h a w hf ((St.kB _ hn (iR hC) hs).tie e)
end
theorem AF {M A:Type} {f:M→A→List aq} {ms:List M} {asl:List A} {m:M} {a:A} {X:aq} (h:ms.length=asl.length) (hf:f m a=[X]):aX f ms asl++[X]=aX f (ms++[m]) (asl++[a]):=by
 rw [k6 h]; simp [aX,hf]
theorem DN {M A β:Type} {f:M→A→β} {ms:List M} {asl:List A} {m:M} {a:A} (h:ms.length=asl.length):List.zipWith f ms asl++List.zipWith f [m] [a]=List.zipWith f (ms++[m]) (asl++[a]):=(List.zipWith_append h).symm
theorem uy {r:bX} {k:Nat}:((dV r k).map (·.1)).Nodup:=by
 unfold dV
 rw [List.map_filterMap]
 refine List.Pairwise.filterMap _ ?_ (List.nodup_range (n:=r.aU.length))
 intro a b A x hx y hy e
 subst e
 simp only [Option.map_map,Option.map_eq_some_iff,Function.comp] at hx hy
 obtain ⟨_,_,rfl⟩:=hx
 obtain ⟨_,_,h⟩:=hy
 exact A om
noncomputable def dh (r:bX):List (List Int):=if cG r=0 then Classical.epsilon (fun G=>gM (au (ay r)) ((ay r).map (·.1)) G∧x9 G) else []
theorem yC {r:bX} (h: ¬ cG r=0):dh r=[]:=if_neg h
theorem qG {r:bX} {G:List (List Int)} (he:cG r=0) (h1:gM (au (ay r)) ((ay r).map (·.1)) G) (h2:x9 G):G=dh r:=by
 unfold dh
 rw [if_pos he]
 have A:=Classical.epsilon_spec (p:=fun G=>gM (au (ay r)) ((ay r).map (·.1)) G∧x9 G) ⟨G,h1,h2⟩
 exact pD uy (fun i hi=>(fZ (m0 he)).2.1) h1 A.1 h2 A.2
section
variable {f:Int→aa} {L:List Int} {G:List (List Int)} {g:List Int} {x last:Int} {i j:Nat}
theorem xw (h:kS f (L.take i) G last) (hg:g∈G):g.length≤L.length:=by
 have A:=h.ok.perm.length_eq
 have B:g.length≤G.flatten.length:=(List.sublist_flatten_of_mem hg).length_le
 rw [List.length_take] at A; omega
theorem BJ (h:kS f (L.take i) G last):G.length≤L.length:=by
 have A:=h.ok.perm.length_eq
 have B: ∀ G:List (List Int),(∀ g∈G,g≠[])→G.length≤G.flatten.length:=fun G=>by
  induction G with
  |nil=>intro _; simp
  |cons g G ih=>
   intro hG
   have C:=ih fun y hy=>hG y (df _ hy)
   have D:=List.length_pos_iff.2 (hG g cq)
   simp only [List.flatten_cons,List.length_cons,List.length_append]; omega
 have C:=B G h.ok.some_
 rw [List.length_take] at A; omega
theorem nN (h0: -1≤(f x).Hi) (hx:L[i]? =some x) (hg:(G++[[]])[(G++[([]:List Int)]).length-1]? =some g) (h:kS f (L.take i) G last) (hl:last<(f x).Lo):kS f (L.take (i+1)) ((G++[[]]).set ((G++[([]:List Int)]).length-1) (g++[x])) (max last (f x).Hi):=by
 have A:(G++[([]:List Int)]).length-1=G.length:=by simp
 rw [A] at hg ⊢
 simp at hg
 subst hg
 rw [kD hx]
 have B:(G++[([]:List Int)]).set G.length ([]++[x])=G++[[x]]:=by simp
 rw [B]
 exact Ip h0 h hl
theorem m7 (h0: -1≤(f x).Hi) (hf: ∀ i∈L,(f i).Lo≤(f i).Hi) (hup:Ao (fun u=>(f u).Lo) L) (hx:L[i]? =some x) (hg:G[G.length-1]? =some g) (h:kS f (L.take i) G last) (hl: ¬ last<(f x).Lo):kS f (L.take (i+1)) (G.set (G.length-1) (g++[x])) (max last (f x).Hi):=by
 obtain ⟨A,F⟩:=aY.1 hg
 obtain ⟨G',y,rfl⟩: ∃ G' y,G=G'++[y]:=⟨G.dropLast,G.getLast (by intro e; subst e; simp at A),(List.dropLast_concat_getLast _).symm⟩
 have D:(G'++[y]).length-1=G'.length:=by simp
 simp only [D] at hg ⊢
 simp at hg
 subst hg
 have E:(G'++[y]).set G'.length (y++[x])=G'++[y++[x]]:=by simp
 rw [kD hx,E]
 refine FC h0 (fun i hi=>hf i (List.mem_of_mem_take hi)) (fun a ha=>?_) h hl
 obtain ⟨C,B⟩:=aY.1 hx
 obtain ⟨q,hq,rfl⟩:=List.mem_iff_getElem.1 ha
 rw [List.length_take] at hq
 rw [List.getElem_take]
 have:=fg.1 hup q i om C om
 rw [B] at this
 exact this
theorem B6 (hlo:0≤(f x).Lo) (h:kS f (L.take i) G last) (hl: ¬ last<(f x).Lo):1≤G.length:=by
 rcases h.at_ with ⟨_,e⟩|⟨a,ha,_⟩
 ·omega
 ·exact List.length_pos_iff.2 (GF h (fun e=>by rw [e] at ha; cases ha))
/-- the first groups are in order -/
def mq (G:List (List Int)) (j:Nat):List (List Int):=(G.take j).map cV++G.drop j
theorem AE (h:G.length≤j):mq G j=G.map cV:=by unfold mq; rw [List.take_of_length_le h,List.drop_eq_nil_of_le h,List.append_nil]
theorem zO:(mq G j).length=G.length:=by unfold mq; rw [List.length_append,List.length_map,List.length_take,List.length_drop]; omega
theorem C6 (h:G[j]? =some g):(mq G j)[j]? =some g:=by
 have hj:=(aY.1 h).1
 unfold mq
 rw [List.getElem?_append_right (by rw [List.length_map,List.length_take]; omega),List.length_map,List.length_take,Nat.min_eq_left om,Nat.sub_self,List.getElem?_drop]
 simpa using h
theorem AN (h:G[j]? =some g):(mq G j).set j (cV g)=mq G (j+1):=by
 have hj:=(aY.1 h).1
 unfold mq
 rw [List.set_append_right _ _ (by rw [List.length_map,List.length_take]; omega),List.length_map,List.length_take,Nat.min_eq_left om,Nat.sub_self,List.drop_eq_getElem_cons hj,List.set_cons_zero,List.take_add_one,h]
 simp
theorem GO {gz:List RA}:List.zipWith lW (G.map cV) gz=List.zipWith lW G gz:=by
 induction G generalizing gz with
 |nil=>rfl
 |cons g G ih=>
  cases gz with
  |nil=>rfl
  |cons a gz=>simp only [List.map_cons,List.zipWith_cons_cons,ih]; simp [lW]
end
end
section
open Go.RowKit
theorem AM (l:List av) (az:List RA): ∀ v∈(List.zipWith av.cells l az).flatten,v.oneCell'=true:=by
 induction l generalizing az with
 |nil=>intro v hv; simp at hv
 |cons x l ih=>
  cases az with
  |nil=>intro v hv; simp at hv
  |cons a az=>
   intro v hv
   rw [List.zipWith_cons_cons,List.flatten_cons,dM] at hv
   rcases hv with hv|hv
   ·simp [av.cells,dn.cells] at hv
    rcases hv with rfl|rfl<;>rfl
   ·exact ih az v hv
theorem gD {l:List av} {az:List RA} (h:az.length=l.length):(List.zipWith av.cells l az).length=l.length:=by simp [h]
theorem fw {l:List av} {bz:List RA}:(bB (aX av.owns l bz)).wr=true:=by
 show (aX av.owns l bz).all (·.wr)=true
 rw [cN]
 intro X hX
 obtain ⟨k,m,a,_,_,h⟩:=iU hX
 simp only [av.owns,bJ] at h
 subst h; rfl
/-- what is known of new rows -/
def py (l:List av) (bz:List RA):Prop:= ∀ (k:Nat) m (a:RA),l[k]? =some m→bz[k]? =some a→m.bj.length≤a.2
theorem Es {l:List av} {bz:List RA} {i:Nat} {x:av} {nw:RA} (h:py l bz) (hb:bz.length=i) (hx:l[i]? =some x) (hc:x.bj.length≤nw.2):py l (bz++[nw]):=fun k m a hm ha=>by
 by_cases e:k<bz.length
 ·rw [List.getElem?_append_left e] at ha
  exact h k m a hm ha
 ·rw [List.getElem?_append_right om] at ha
  have hk:k-bz.length=0:=by
   rcases Nat.eq_zero_or_pos (k-bz.length) with A|A
   ·exact A
   ·rw [List.getElem?_eq_none (by simp; omega)] at ha; cases ha
  rw [hk] at ha
  simp at ha
  have:k=i:=by omega
  subst this
  rw [hx] at hm; cases hm
  subst ha; exact hc
theorem ic: ∀ (m:av) (a:RA) (w:World),(∀ X∈av.owns m a,X.holds w)→ ∀ X∈av.ja m a,X.holds w:=fun m a w h X hX=>by
 simp only [av.ja,bJ] at hX
 subst hX
 have:=oS (h _ (bJ.2 rfl))
 simpa using this
theorem eA.Ls {l:bo} {az bz:List RA} (h:eA l az) (hb:bz.length=l.ak.length) (hc:py l.ak bz):eA l bz:=⟨h.ux,h.side,h.s_,hb,h.tW,fun k m a hm ha=>⟨hc k m a hm ha,by
 obtain ⟨A,B⟩: ∃ A,az[k]? =some A:=⟨az[k]'(by rw [h.o4]; exact (aY.1 hm).1),fT _⟩
 exact (h.Mi k m A hm B).2⟩⟩
section
variable {E:eD} {ops:Array Oper} {Q:cP} {rest:List Oper} {D:List Deferred} {L:List (Nat×Value)} {C:List aq}
end
end
section
open Go.RowKit
def ng (m:aw) (a:RA):List aq:=[own a.1 a.2 J0 2 (m.c_.aj.map aH.cells)]
def im (m:List aw) (a:cL):List aq:=own a.1.1 a.1.2 x2 7 (List.zipWith aw.cells m a.2)::aX ng m a.2
theorem L_: ∀ (m:aw) (a:RA) (w:World),(∀ X∈ng m a,X.holds w)→ ∀ X∈aw.ja m a,X.holds w:=fun m a w h X hX=>by
 simp only [aw.ja,bJ] at hX
 subst hX
 have:=oS (h _ (bJ.2 rfl))
 simpa using this
theorem oE {m:List aw} {asl:List RA} (h:asl.length=m.length):(List.zipWith aw.cells m asl).length=m.length:=by simp [h]
theorem eG {m:List (List aw)} {asl:List cL} (h:asl.length=m.length):(List.zipWith cR m asl).length=m.length:=by simp [h]
theorem H_ {m:List aw} {asl:List RA}:(aX ng m asl).all (·.wr)=true:=by
 rw [cN]
 intro X hX
 obtain ⟨k,d,a,_,_,h⟩:=iU hX
 simp only [ng,bJ] at h
 subst h; rfl
theorem jB {m:List (List aw)} {asl:List cL}:(bB (aX im m asl)).wr=true:=by
 show (aX im m asl).all (·.wr)=true
 rw [cN]
 intro X hX
 obtain ⟨k,d,a,_,_,h⟩:=iU hX
 rcases bw.1 h with rfl|h
 ·rfl
 ·exact cN.1 H_ X h
theorem Ix (l:List aw) (az:List RA): ∀ v∈(List.zipWith aw.cells l az).flatten,v.oneCell'=true:=by
 induction l generalizing az with
 |nil=>intro v hv; simp at hv
 |cons x l ih=>
  cases az with
  |nil=>intro v hv; simp at hv
  |cons a az=>
   intro v hv
   rw [List.zipWith_cons_cons,List.flatten_cons,dM] at hv
   rcases hv with hv|hv
   ·simp [aw.cells,br.cells,eC.cells,aa.cells] at hv
    rcases hv with rfl|rfl|rfl|rfl|rfl|rfl|rfl<;>rfl
   ·exact ih az v hv
theorem Dy (l:List (List aw)) (az:List cL): ∀ v∈(List.zipWith cR l az).flatten,v.oneCell'=true:=by
 induction l generalizing az with
 |nil=>intro v hv; simp at hv
 |cons x l ih=>
  cases az with
  |nil=>intro v hv; simp at hv
  |cons a az=>
   intro v hv
   rw [List.zipWith_cons_cons,List.flatten_cons,dM] at hv
   rcases hv with hv|hv
   ·simp [cR] at hv; subst hv; rfl
   ·exact ih az v hv
/-- every heat has as many places as descents -/
def qE (H:List (List aw)) (hz:List cL):Prop:=hz.length=H.length∧ ∀ (k:Nat) h (a:cL),H[k]? =some h→hz[k]? =some a→a.2.length=h.length
theorem I5 {a:OA} {c e sz n:Nat} {es:List (List Value)} {w:World} (h:(own a c e sz es).holds w) (hn:es.length=n):(rd a n sz es).holds w:=by subst hn; exact oS h
theorem gJ {C:List aq} {H:List (List aw)} {hz:List cL} (i:Nat) (hC:C[i]? =some (bB (aX im H hz))) (hh:qE H hz):ju C (eY (aX jk H hz)).holds:=fun w hw X hX=>by
 have hb:=hw _ (aT hC)
 obtain ⟨k,m,a,A,B,D⟩:=iU hX
 rcases bw.1 D with rfl|D
 ·exact I5 (hb.1 _ (cD A B cq)) (oE (hh.2 k m a A B))
 ·obtain ⟨q,d,b,E,F,G⟩:=iU D
  exact L_ d b w (fun Y hY=>hb.1 Y (cD A B (df _ (cD E F hY)))) X G
section
variable {α:Type}
def jJ (bz az:List α) (i:Nat):List α:=bz++az.drop i
variable {bz az:List α} {i:Nat} {a b:α}
theorem gV (hb:bz.length=i) (hi:i≤az.length):(jJ bz az i).length=az.length:=by simp [jJ,hb]; omega
theorem tP (h:az.length≤i):jJ bz az i=bz:=by unfold jJ; rw [List.drop_eq_nil_of_le h,List.append_nil]
theorem wv (hb:bz.length=i) (h:az[i]? =some a):(jJ bz az i)[i]? =some a:=by
 unfold jJ
 rw [List.getElem?_append_right om,hb,Nat.sub_self,List.getElem?_drop]
 simpa using h
theorem F5 (hb:bz.length=i):(jJ (bz++[b]) az (i+1))[i]? =some b:=by
 unfold jJ
 rw [List.getElem?_append_left (by simp; omega),List.getElem?_append_right om,hb,Nat.sub_self]; rfl
theorem Hj (hb:bz.length=i) (h:az[i]? =some a):(jJ bz az i).set i b=jJ (bz++[b]) az (i+1):=by
 unfold jJ
 have hi:=(aY.1 h).1
 rw [List.set_append_right _ _ om,hb,Nat.sub_self,List.drop_eq_getElem_cons hi,List.set_cons_zero]
 simp
theorem tO {M β:Type} {c:M→α→β} {l:List M} {x:M} (hx:l[i]? =some x) (hb:bz.length=i) (h:az[i]? =some a):(List.zipWith c l (jJ bz az i)).set i (c x b)=List.zipWith c l (jJ (bz++[b]) az (i+1)):=by
 rw [o0,Hj hb h]
 congr 1
 obtain ⟨hi,rfl⟩:=aY.1 hx
 exact List.set_getElem_self hi
theorem pP {M:Type} {f:M→α→List aq} {l:List M} {x:M} (hx:l[i]? =some x) (hb:bz.length=i):aX f (l.take i) bz++f x b=aX f (l.take (i+1)) (bz++[b]):=by
 have hi:=(aY.1 hx).1
 rw [List.take_add_one,hx,Option.toList_some,k6 (by rw [List.length_take,hb]; omega)]
 simp [aX]
end
theorem x5: ∀ {l:List (List aw)} {u v:List cL},u.map (·.1)=v.map (·.1)→List.zipWith cR l u=List.zipWith cR l v
 |[],u,v,_=>by simp
 |x::l,[],[],_=>rfl
 |x::l,[],b::v,h=>by simp at h
 |x::l,a::u,[],h=>by simp at h
 |x::l,a::u,b::v,h=>by
  simp only [List.map_cons,List.cons.injEq] at h
  rw [List.zipWith_cons_cons,List.zipWith_cons_cons,x5 h.2]
  have e:cR x a=cR x b:=by simp only [cR,h.1]
  rw [e]
theorem HI {l:List (List aw)} {hz ha:List cL} {p:RA} {x y:List RA} {i:Nat}:List.zipWith cR l (jJ (hz++[(p,x)]) ha i)=List.zipWith cR l (jJ (hz++[(p,y)]) ha i):=x5 (by simp [jJ])
theorem Im {H:List (List aw)} {hz:List cL} {i:Nat} {x:List aw} {b:cL} (hx:H[i]? =some x) (h: ∀ (k:Nat) y (a:cL),H[k]? =some y→hz[k]? =some a→a.2.length=y.length) (hb:hz.length=i) (hl:b.2.length=x.length): ∀ (k:Nat) y (a:cL),H[k]? =some y→(hz++[b])[k]? =some a→a.2.length=y.length:=fun k y a hy ha=>by
 by_cases e:k<hz.length
 ·rw [List.getElem?_append_left e] at ha
  exact h k y a hy ha
 ·rw [List.getElem?_append_right om] at ha
  have hk:k-hz.length=0:=by
   rcases Nat.eq_zero_or_pos (k-hz.length) with A|A
   ·exact A
   ·rw [List.getElem?_eq_none (by simp; omega)] at ha; cases ha
  rw [hk] at ha
  simp at ha
  have:k=i:=by omega
  subst this
  rw [hx] at hy; cases hy
  subst ha; exact hl
theorem BM {S:BS} {w0 w:World} {C:List aq} {A:aq} {Y Z:List aq} (h:St S w0 (A::bB Y::bB Z::C) w):St S w0 (bB (Z++A::Y)::C) w:=by
 have D:St S w0 (bB Y::A::bB Z::C) w:=h.perm (List.Perm.swap _ _ _)
 have E:St S w0 (Y++(A::bB Z::C)) w:=D.jz
 have F:St S w0 (bB Z::(A::Y)++C) w:=E.perm (by
  have B:(Y++(A::bB Z::C)).Perm ((A::bB Z::C)++Y):=List.perm_append_comm
  refine B.trans ?_
  show (A::bB Z::(C++Y)).Perm (bB Z::A::(Y++C))
  exact (List.Perm.swap _ _ _).trans (((List.perm_append_comm (l₁:=C) (l₂:=Y)).cons A).cons _))
 have G:St S w0 (Z++((A::Y)++C)) w:=F.jz
 have H:St S w0 ((Z++A::Y)++C) w:=by simpa using G
 exact H.tied
theorem Dm {S:BS} {w0 w:World} {C:List aq} {A:aq} {Y Z:List aq} (h:St S w0 (bB (A::Y++Z)::C) w):St S w0 (A::bB Y::bB Z::C) w:=by
 have D:St S w0 ((A::Y++Z)++C) w:=h.jz
 have E:St S w0 (Z++(A::(Y++C))) w:=D.perm (by
  show (A::(Y++Z)++C).Perm (Z++(A::(Y++C)))
  have B:(A::(Y++Z)++C).Perm (A::(Z++(Y++C))):=by
   show (A::((Y++Z)++C)).Perm _
   refine List.Perm.cons A ?_
   rw [← List.append_assoc]
   exact List.perm_append_comm.append_right C
  exact B.trans (List.perm_middle (a:=A) (l₁:=Z) (l₂:=Y++C)).symm)
 have F:=E.tied
 have G:St S w0 (Y++(A::bB Z::C)) w:=F.perm (by
  show (bB Z::A::(Y++C)).Perm (Y++(A::bB Z::C))
  have B:(Y++(A::bB Z::C)).Perm (A::bB Z::(Y++C)):=by
   have:=List.perm_append_comm (l₁:=Y) (l₂:=A::bB Z::C)
   refine this.trans ?_
   show (A::bB Z::(C++Y)).Perm _
   exact (List.perm_append_comm.cons _).cons _
  exact (B.trans (List.Perm.swap _ _ _)).symm)
 have H:=G.tied
 exact H.perm (List.Perm.swap _ _ _)
theorem uf {H:List (List aw)} {hz:List cL} {k:Nat} {h:List aw} {a:cL} (hh:H[k]? =some h) (ha:hz[k]? =some a):(aX im H hz).Perm (own a.1.1 a.1.2 x2 7 (List.zipWith aw.cells h a.2)::aX ng h a.2++eM im H hz k):=jV hh ha
theorem LZ {E:eD} {K:Act→World→Prop} {D:gj} {L:cY} {C:List aq} {a:OA} {c e sz:Nat} {es:List (List Value)} (i:Nat) (hC:C[i]? =some (own a c e sz es)) (k:es.length≤c→KJ E K D L C):KJ E K D L C:=fun act w hf hs=>k (BG (hs.holds _ (aT hC))) act w hf hs
abbrev Iy (C:List aq) (i j k:Nat):List Nat:=k::j::i::(List.range C.length).filter fun q=>q != i&&q != j&&q != k
section
variable {E:eD} {ops:Array Oper} {Q:cP} {rest:List Oper} {D:List Deferred} {L:List (Nat×Value)} {C C1:List aq} {K:Act→World→Prop}
variable {H:List (List aw)} {hz:List cL} {h h':List aw} {a a':cL} {k:Nat} {X:aq} {Y Z Z':List aq}
/-- i: the others, j: what hangs on the row, q: the row -/
theorem LQ (i j q:Nat) (hn:decide (Iy C i j q).Nodup=true) (hC:kK C (Iy C i j q)=some (X::bB Y::bB Z::C1)) (e:Z++X::Y=Z') (hk:KJ E K D L (bB Z'::C1)):KJ E K D L C:=fun a w hf hs=>by
 subst e; exact hk a w hf (BM (St.kB _ hn (iR hC) hs))
theorem K2 {c:Code} (i:Nat) (hh:H[k]? =some h) (ha:hz[k]? =some a) (hn:decide (CK C i).Nodup=true) (hC:kK C (CK C i)=some (bB (aX im H hz)::C1))
 (hk:WJ E c Q D L (own a.1.1 a.1.2 x2 7 (List.zipWith aw.cells h a.2)::bB (aX ng h a.2)::bB (eM im H hz k)::C1)):WJ E c Q D L C:=fun act w hf hs=>
 hk act w hf (Dm (jY (uf hh ha) (St.kB _ hn (iR hC) hs)))
theorem F6 {S:BS} {w0 w:World} (hk:k<H.length) (hk2:k<hz.length) (hs:St S w0 (own a'.1.1 a'.1.2 x2 7 (List.zipWith aw.cells h' a'.2)::bB (aX ng h' a'.2)::bB (eM im H hz k)::C) w):St S w0 (bB (aX im (H.set k h') (hz.set k a'))::C) w:=by
 have B:=BM hs
 refine jY ?_ B
 have A:=uf (H:=H.set k h') (hz:=hz.set k a') (List.getElem?_set_self hk) (List.getElem?_set_self hk2)
 rw [pY] at A
 exact (List.perm_append_comm).trans A.symm
end
theorem DM {H:List (List aw)} {hz:List cL} {k:Nat} {h h':List aw} {a:cL} {bs:List RA} (hh:H[k]? =some h) (ha:hz[k]? =some a) (hl:h'.length=h.length):List.zipWith cR (H.set k h') (hz.set k (a.1,bs))=List.zipWith cR H hz:=by
 rw [← o0]
 have e:cR h' (a.1,bs)=cR h a:=by simp only [cR,hl]
 rw [e]
 have hz':=eu (f:=cR) hh ha
 obtain ⟨hi,A⟩:=aY.1 hz'
 rw [← A]
 exact List.set_getElem_self hi
theorem JB {S:BS} {w0 w:World} {C:List aq} {h:List aw} {bs:List RA} {i:Nat} {d:aw} {b:RA} {d':aw} (hd:h[i]? =some d) (hb:bs[i]? =some b) (hs':d'.c_.aj=[]) (hs:St S w0 (bB (aX ng h bs)::C) w):St S w0 (bB (aX ng (h.set i d') (bs.set i (none,0)))::C) w:=by
 have A:=(jY (jV hd hb) hs).jz
 have B:St S w0 (eM ng h bs i++C) w:=St.take (by simpa using A) (List.sublist_append_right (ng d b) (eM ng h bs i++C))
 have D:=B.qc J0 2
 have E:St S w0 ((ng d' (none,0)++eM ng (h.set i d') (bs.set i (none,0)) i)++C) w:=by
  rw [pY]
  simpa [ng,hs'] using D
 exact jY (jV (List.getElem?_set_self (aY.1 hd).1) (List.getElem?_set_self (aY.1 hb).1)).symm E.tied
theorem eF.Ls {r:bX} {az bz:List RA} {ha hz:List cL} (h:eF r az ha) (hb:bz.length=r.ar.ak.length) (hc:py r.ar.ak bz) (hh:qE r.aB hz):eF r bz hz:=⟨h.line.Ls hb hc,h.je,h.draw,h.iZ,hh.1,fun k x a hx ha'=>by
 obtain ⟨A,C⟩: ∃ A,ha[k]? =some A:=⟨ha[k]'(by rw [h.has]; exact (aY.1 hx).1),fT _⟩
 have B:=h.oQ k x A hx C
 exact ⟨B.len,hh.2 k x a hx ha',B.sig⟩⟩
end
section
open Go.RowKit
def jS (t:aa):aw:=⟨false,true,t,⟨0,0,[]⟩⟩
def fU (H:List (List aw)) (h i:Int) (t:aa):List (List aw):=H.set h.toNat ((H[h.toNat]?.getD []).set i.toNat (jS t))
def iQ (r:bX) (h i:Int) (t:aa):bX:=⟨r.ar,r.aU,r.bV,r.iP,fU r.aB h i t⟩
@[simp] theorem Md {r:bX} {h i:Int} {t:aa}:(iQ r h i t).ar=r.ar:=rfl
@[simp] theorem KT {r:bX} {h i:Int} {t:aa}:(iQ r h i t).aU=r.aU:=rfl
@[simp] theorem Mh {r:bX} {h i:Int} {t:aa}:(iQ r h i t).bV=r.bV:=rfl
theorem ur {m:gG} {i:Int} {s:aa}:(dq m i s).length≤m.length:=by
 unfold dq
 refine Nat.le_trans (List.length_filter_le _ _) ?_
 rw [List.length_map,List.length_range]; exact Nat.le_refl _
noncomputable def oV (r:bX) (h i:Int) (t:aa):Int:=if ((0≤h∧h≤(r.aB.length:Int)-1)∧q8 r i)∧fQ t then (if ((r.aB[h.toNat]?).bind (·[i.toNat]?)).any (·.Out)=true then 8 else 0) else 2
noncomputable def fP (r:bX) (h i:Int) (t:aa):Int:=if cG r=0 then oV r h i t else cG r
noncomputable def ep (r:bX) (h i:Int) (t:aa):List Int:=if fP r h i t=0 then (cV ((ay r).map (·.1))).filter (fun k=> !decide (dq (ay r) k (au (ay r) k)=dq (ay (iQ r h i t)) k (au (ay (iQ r h i t)) k))) else []
section
variable {r:bX} {h i:Int} {t:aa} {ht:List aw} {d:aw}
theorem sM {H:List (List aw)} (hh:H[h.toNat]? =some ht):fU H h i t=H.set h.toNat (ht.set i.toNat (jS t)):=by unfold fU; rw [hh]; rfl
theorem hO {H:List (List aw)}:(fU H h i t).length=H.length:=by unfold fU; rw [List.length_set]
theorem k9 (q: ¬ (((0≤h∧h≤(r.aB.length:Int)-1)∧0≤i∧i≤(r.aU.length:Int)-1)∧fQ t)):oV r h i t=2:=if_neg q
theorem BQ (q:((0≤h∧h≤(r.aB.length:Int)-1)∧0≤i∧i≤(r.aU.length:Int)-1)∧fQ t) (h1:r.aB[h.toNat]? =some ht) (h2:ht[i.toNat]? =some d):oV r h i t=if d.Out=true then 8 else 0:=by
 unfold oV
 rw [if_pos (show ((0≤h∧h≤(r.aB.length:Int)-1)∧q8 r i)∧fQ t from q),h1,Option.bind_some,h2,Option.any_some]
theorem qj (q:((0≤h∧h≤(r.aB.length:Int)-1)∧0≤i∧i≤(r.aU.length:Int)-1)∧fQ t) (h1:r.aB[h.toNat]? =some ht) (h2:ht[i.toNat]? =some d) (ho:d.Out=true):oV r h i t=8:=by rw [BQ q h1 h2,if_pos ho]
theorem Ie (q:((0≤h∧h≤(r.aB.length:Int)-1)∧0≤i∧i≤(r.aU.length:Int)-1)∧fQ t) (h1:r.aB[h.toNat]? =some ht) (h2:ht[i.toNat]? =some d) (ho:d.Out=false):oV r h i t=0:=by rw [BQ q h1 h2,if_neg (by rw [ho]; decide)]
/-- what it means that there is no error -/
theorem ve (e:oV r h i t=0):((0≤h∧h≤(r.aB.length:Int)-1)∧q8 r i)∧fQ t∧((r.aB[h.toNat]?).bind (·[i.toNat]?)).any (·.Out)=false:=by
 unfold oV at e
 split at e
 ·rename_i q
  split at e
  ·cases e
  ·rename_i A; exact ⟨q.1,q.2,by simpa using A⟩
 ·cases e
theorem yp (e:fP r h i t=0):cG r=0∧oV r h i t=0:=by
 unfold fP at e
 split at e
 ·exact ⟨asm,e⟩
 ·exact absurd e asm
theorem pO (e: ¬ cG r=0):fP r h i t=cG r:=if_neg e
theorem nt (e:cG r=0):fP r h i t=oV r h i t:=if_pos e
theorem xT {H:List (List aw)} {k:Nat} {y:List aw} (hy:(fU H h i t)[k]? =some y): ∃ x,H[k]? =some x∧y.length=x.length∧ ∀ d∈y,d∈x∨d=jS t:=by
 unfold fU at hy
 rw [List.getElem?_set] at hy
 split at hy
 ·rename_i e
  split at hy
  ·rename_i hl
   have A:H[h.toNat]? =some H[h.toNat]:=fT hl
   rw [A] at hy
   simp only [Option.getD_some,Option.some.injEq] at hy
   subst hy
   refine ⟨H[h.toNat],by rw [← e]; exact A,by rw [List.length_set],fun d hd=>?_⟩
   exact List.mem_or_eq_of_mem_set hd
  ·cases hy
 ·exact ⟨y,hy,U,fun d hd=> .inl hd⟩
theorem AY (hr:fm r) (ht:fQ t):fm (iQ r h i t):=⟨hr.num,hr.DU,by
 have:=hr.nh
 show 1≤((fU r.aB h i t).length:Int)∧((fU r.aB h i t).length:Int)≤3
 rw [hO]; exact this,hr.ids,hr.draw,fun y hy=>by
 obtain ⟨k,hk⟩:=List.mem_iff_getElem?.1 hy
 obtain ⟨x,hx,hl,hm⟩:=xT hk
 have A:=hr.oQ x (aT hx)
 refine ⟨hl.trans A.1,fun d hd=>?_⟩
 rcases hm d hd with q|rfl
 ·exact A.2 d q
 ·unfold iO
  rw [if_neg (by simp [jS]),if_pos (by rfl)]
  exact ⟨ht,by simp [nB,jS]⟩⟩
theorem vj (e:fP r h i t=0):cG (iQ r h i t)=0:=by
 obtain ⟨A,B⟩:=yp e
 obtain ⟨C,D⟩:=jd A
 unfold cG
 rw [if_pos (show eU (iQ r h i t).ar=0 from C),if_pos (AY D (ve B).2.1)]
theorem eF.rep {az bz:List RA} {ha hz:List cL} (hin:eF r az ha) (hb:bz.length=r.ar.ak.length) (hc:py r.ar.ak bz) (hh:qE (fU r.aB h i t) hz):eF (iQ r h i t) bz hz:=⟨hin.line.Ls hb hc,hin.je,hin.draw,by
 show (fU r.aB h i t).length≤1000000
 rw [hO]; exact hin.iZ,hh.1,fun k y a hy ha'=>by
 obtain ⟨x,hx,hl,hm⟩:=xT hy
 obtain ⟨b,hb⟩: ∃ b,ha[k]? =some b:=⟨ha[k]'(by rw [hin.has]; exact (aY.1 hx).1),fT _⟩
 have A:=hin.oQ k x b hx hb
 refine ⟨by rw [hl]; exact A.len,hh.2 k y a hy ha',fun d hd=>?_⟩
 rcases hm d hd with q|rfl
 ·exact A.sig d q
 ·simp [jS]⟩
theorem GL {H:List (List aw)} {k q:Nat}:((fU H h i t)[k]?).bind (·[q]?)=(H[k]?).bind (·[q]?)∨(k=h.toNat∧q=i.toNat∧(∃ d,(H[k]?).bind (·[q]?)=some d)∧((fU H h i t)[k]?).bind (·[q]?)=some (jS t)):=by
 by_cases e:h.toNat=k
 ·cases hk:H[k]? with
  |none=>
   left
   have:(fU H h i t)[k]? =none:=by rw [List.getElem?_eq_none_iff,hO]; exact List.getElem?_eq_none_iff.1 hk
   rw [this]
  |some x=>
   have B:(fU H h i t)[k]? =some (x.set i.toNat (jS t)):=by
    subst e
    rw [sM hk]
    exact List.getElem?_set_self (aY.1 hk).1
   rw [B,Option.bind_some,Option.bind_some]
   by_cases A:i.toNat=q
   ·cases hq:x[q]? with
    |none=>
     left
     rw [List.getElem?_eq_none_iff,List.length_set]; exact List.getElem?_eq_none_iff.1 hq
    |some d=>
     right
     subst A
     exact ⟨e.symm,U,⟨d,U⟩,List.getElem?_set_self (aY.1 hq).1⟩
   ·left; rw [List.getElem?_set_ne A]
 ·left
  unfold fU
  rw [List.getElem?_set_ne e]
theorem v7 {l:bo} {H:List (List aw)} {q:Nat} (ho:((H[h.toNat]?).bind (·[i.toNat]?)).any (·.Out)=false): ∀ n,(fF l (fU H h i t) q n).isSome=(fF l H q n).isSome
 |0=>rfl
 |n+1=>by
  have ih:=v7 (l:=l) (q:=q) ho n
  unfold fF
  rcases GL (H:=H) (h:=h) (i:=i) (t:=t) (k:=n) (q:=q) with e|⟨rfl,rfl,⟨d,hd⟩,e⟩
  ·rw [e]
   cases e1:fF l (fU H h i t) q n<;>cases e2:fF l H q n<;>simp_all
   cases (H[n]?).bind (·[q]?) with
   |none=>rfl
   |some d=>by_cases c:d.Out=true<;>simp [c]
  ·rw [e,hd]
   have A:d.Out=false:=by rw [hd] at ho; simpa using ho
   cases e1:fF l (fU H h i t) i.toNat h.toNat<;>cases e2:fF l H i.toNat h.toNat<;>simp_all [jS]
theorem Kr {r:bX} {k:Nat} {x:Int}:(dV r k).lookup x=if 0≤x∧x<(r.aU.length:Int) then fF r.ar r.aB x.toNat k else none:=by
 by_cases c:0≤x∧x<(r.aU.length:Int)
 ·rw [if_pos c]
  have:=o8 (f:=fun q=>fF r.ar r.aB q k) r.aU.length x.toNat
  rw [if_pos om,show (x.toNat:Int)=x by omega] at this
  exact this
 ·rw [if_neg c]
  cases e:(dV r k).lookup x with
  |none=>rfl
  |some v=>
   exfalso
   obtain ⟨q,hq,A,_⟩:=vi ((ub uy).2 e)
   simp only at A
   omega
theorem Gt (e:oV r h i t=0) (k:Int):((ay (iQ r h i t)).lookup k).isSome=((ay r).lookup k).isSome:=by
 obtain ⟨_,_,ho⟩:=ve e
 unfold ay
 rw [Kr,Kr]
 show (if 0≤k∧k<(r.aU.length:Int) then fF r.ar (fU r.aB h i t) k.toNat (fU r.aB h i t).length else none).isSome=_
 rw [hO]
 split
 ·exact v7 ho _
 ·rfl
theorem yR {m:gG} {k:Int} (h:k∈cV (m.map (·.1))):m.lookup k≠none:=by
 obtain ⟨p,hp,rfl⟩:=b_.1 (fJ.mem_iff.1 h)
 intro e
 exact absurd (List.lookup_eq_none_iff.1 e p hp) sm
theorem Lh {hz:List cL} {hza:cL} (hh:qE r.aB hz) (h1:r.aB[h.toNat]? =some ht) (h2:hz[h.toNat]? =some hza):qE (fU r.aB h i t) (hz.set h.toNat (hza.1,hza.2.set i.toNat (none,0))):=by
 refine ⟨by rw [List.length_set,hO]; exact hh.1,fun k y a hy ha=>?_⟩
 rw [sM h1] at hy
 rw [List.getElem?_set] at hy ha
 by_cases e:h.toNat=k
 ·rw [if_pos e,if_pos (aY.1 h1).1] at hy
  rw [if_pos e,if_pos (aY.1 h2).1] at ha
  cases hy; cases ha
  simp only [List.length_set]
  exact hh.2 _ _ _ h1 h2
 ·rw [if_neg e] at hy ha
  exact hh.2 k y a hy ha
theorem tI (e: ¬ fP r h i t=0):ep r h i t=[]:=if_neg e
theorem Bd (e:fP r h i t=0):ep r h i t=(cV ((ay r).map (·.1))).filter (fun k=> !decide (dq (ay r) k (au (ay r) k)=dq (ay (iQ r h i t)) k (au (ay (iQ r h i t)) k))):=if_pos e
end
section
variable {E:eD} {Q:cP} {D:List Deferred} {L:List (Nat×Value)} {C C1:List aq} {c:Code}
variable {H:List (List aw)} {hz:List cL} {h h':List aw} {a a':cL} {k:Nat} {bs:List RA} {i:Nat} {d d':aw} {b:RA}
theorem LU (j:Nat) (hd:h[i]? =some d) (hb:bs[i]? =some b) (hs':d'.c_.aj=[]) (hn:decide (CK C j).Nodup=true) (hC:kK C (CK C j)=some (bB (aX ng h bs)::C1))
 (hk:WJ E c Q D L (bB (aX ng (h.set i d') (bs.set i (none,0)))::C1)):WJ E c Q D L C:=fun act w hf hs=>hk act w hf (JB hd hb hs' (St.kB _ hn (iR hC) hs))
theorem IS (i j q:Nat) (hk:k<H.length) (hk2:k<hz.length) (hn:decide (Iy C i j q).Nodup=true) (hC:kK C (Iy C i j q)=some (own a'.1.1 a'.1.2 x2 7 (List.zipWith aw.cells h' a'.2)::bB (aX ng h' a'.2)::bB (eM im H hz k)::C1))
 (hr:WJ E c Q D L (bB (aX im (H.set k h') (hz.set k a'))::C1)):WJ E c Q D L C:=fun act w hf hs=>hr act w hf (F6 hk hk2 (St.kB _ hn (iR hC) hs))
end
end
section
set_option maxRecDepth 20000
def x7 (x y:Int):aw:=jS ⟨x,y⟩
def aI:bX:=⟨lH,[4,7,9],[2,0,1],2,[[⟨false,false,dC,lx⟩,x7 2600 2600,x7 2580 2609],[x7 2555 2559,x7 2540 2549,x7 2570 2575]]⟩
theorem wY {l:bo} {x y:Int} (h:fQ ⟨x,y⟩):iO l (x7 x y):=by rw [tL ⟨rfl,rfl⟩]; exact ⟨h,rfl,rfl,rfl⟩
theorem Lt:fm aI:=by
 refine ⟨dc,dc,dc,fun i x hx=>?_,dc,fun h hh=>?_⟩
 ·match i with
  |0=>simp [aI] at hx; subst hx; exact ⟨dc,fun y h=>absurd h dc⟩
  |1=>simp [aI] at hx; subst hx; exact ⟨dc,fun y _ h=>by simp [aI] at h; omega⟩
  |2=>simp [aI] at hx; subst hx; exact ⟨dc,fun y _ h=>by simp [aI] at h; omega⟩
  |n+3=>simp [aI] at hx
 ·simp only [aI,bw,List.not_mem_nil,or_false] at hh
  rcases hh with rfl|rfl
  ·refine ⟨U,fun d hd=>?_⟩
   simp only [bw,List.not_mem_nil,or_false] at hd
   rcases hd with rfl|rfl|rfl
   ·rw [qx ⟨rfl,rfl⟩]; exact ⟨AK.1,rfl⟩
   ·exact wY dc
   ·exact wY dc
  ·refine ⟨U,fun d hd=>?_⟩
   simp only [bw,List.not_mem_nil,or_false] at hd
   rcases hd with rfl|rfl|rfl<;>exact wY dc
theorem oA:cG aI=0:=by unfold cG; rw [if_pos (show eU aI.ar=0 from JU),if_pos Lt]
theorem Ka:kb aI 0 0=0∧fy aI 0 0=⟨2596,2602⟩:=by
 have h:kb aI 0 0=0:=by unfold kb; rw [if_pos oA]; decide
 refine ⟨h,?_⟩
 unfold fy
 rw [if_pos h]
 show dA lH ⟨false,false,dC,lx⟩=_
 rw [qy ⟨rfl,rfl⟩]; exact AK.2
/-- the sums of a race of three sleds and two heats, all of which run -/
theorem FG {l:bo} {ids dr:List Int} {t:Int} {H:List (List aw)} {a b c d e f:aw} (hH:H=[[a,b,c],[d,e,f]]) (hi:ids.length=3) (hoa: ∀ x∈[a,b,c,d,e,f],x.Out=false):
 ay ⟨l,ids,dr,t,H⟩=[(0,⟨(dA l a).Lo/10+(dA l d).Lo/10,(dA l a).Hi/10+(dA l d).Hi/10⟩),(1,⟨(dA l b).Lo/10+(dA l e).Lo/10,(dA l b).Hi/10+(dA l e).Hi/10⟩),(2,⟨(dA l c).Lo/10+(dA l f).Lo/10,(dA l c).Hi/10+(dA l f).Hi/10⟩)]∧
 dV ⟨l,ids,dr,t,H⟩ 1=[(0,⟨(dA l a).Lo/10,(dA l a).Hi/10⟩),(1,⟨(dA l b).Lo/10,(dA l b).Hi/10⟩),(2,⟨(dA l c).Lo/10,(dA l c).Hi/10⟩)]:=by
 subst hH
 simp only [bw,List.not_mem_nil,or_false,forall_eq_or_imp,forall_eq] at hoa
 obtain ⟨A,B,C,D,E,F⟩:=hoa
 simp [ay,dV,hi,List.range_succ,fF,A,B,C,D,E,F]
def H6:gG:=[(0,⟨514,515⟩),(1,⟨514,514⟩),(2,⟨515,517⟩)]
def II:gG:=[(0,⟨514,515⟩),(1,⟨514,514⟩),(2,⟨516,516⟩)]
def MR:gG:=[(0,⟨259,260⟩),(1,⟨260,260⟩),(2,⟨258,260⟩)]
theorem wB:dA lH ⟨false,false,dC,lx⟩=⟨2596,2602⟩:=by rw [qy ⟨rfl,rfl⟩]; exact AK.2
theorem oe {l:bo} {x y:Int}:dA l (x7 x y)=⟨x,y⟩:=wE ⟨rfl,rfl⟩
theorem rJ:ay aI=H6∧dV aI 1=MR:=by
 obtain ⟨A,B⟩:=FG (l:=lH) (ids:=[4,7,9]) (dr:=[2,0,1]) (t:=2) (H:=aI.aB) rfl rfl dc
 refine ⟨A.trans ?_,B.trans ?_⟩
 ·rw [wB,oe,oe,oe,oe,oe]; rfl
 ·rw [wB,oe,oe]; rfl
def kh:bX:=iQ aI 0 2 ⟨2590,2599⟩
theorem yo:fP aI 0 2 ⟨2590,2599⟩=0:=by unfold fP; rw [if_pos oA]; unfold oV; decide
theorem uH:cG kh=0:=vj yo
theorem Eu:ay kh=II:=by
 obtain ⟨A,B⟩:=FG (l:=lH) (ids:=[4,7,9]) (dr:=[2,0,1]) (t:=2) (H:=kh.aB) (a:=⟨false,false,dC,lx⟩) (b:=x7 2600 2600) (c:=x7 2590 2599) (d:=x7 2555 2559) (e:=x7 2540 2549) (f:=x7 2570 2575) rfl rfl dc
 refine A.trans ?_
 rw [wB,oe,oe,oe,oe,oe]; rfl
/-- ranks, as they can be reckoned -/
def Ax (m:gG) (i:Int) (own:aa):List Int:=((List.range m.length).map fun (k:Nat)=>(k:Int)+1).filter fun k=>(iT m i own).any fun n=>decide ((g8 m i n:Int)+1≤k∧k≤(j3 m i n:Int)+1)
theorem Cc {m:gG} {i:Int} {own:aa}:dq m i own=Ax m i own:=by
 unfold dq Ax
 congr 1
 funext k
 rw [Bool.eq_iff_iff,decide_eq_true_eq,List.any_eq_true]
 simp only [decide_eq_true_eq,pT]
theorem wL {r:bX} {m:gG} {i:Int} {s:aa} (he:cG r=0) (hm:ay r=m) (hi:q8 r i) (hl:m.lookup i=some s):km r i=0∧ql r i=s∧iA r i=Ax m i s:=by
 have h:km r i=0:=by unfold km; rw [if_pos he,if_pos hi,hm,hl]; rfl
 refine ⟨h,?_,?_⟩
 ·unfold ql au; rw [if_pos h,hm,hl]; rfl
 ·unfold iA au; rw [if_pos h,hm,hl,Cc]; rfl
theorem B5 {r:bX} {m:gG} {a b:Int} {s t:aa} (he:cG r=0) (hm:ay r=m) (hi:q8 r a∧q8 r b∧a≠b) (hs:m.lookup a=some s) (ht:m.lookup b=some t):lk r a b=0∧qt r a b=xQ s t∧ox r a b=pB s t:=by
 have h:lk r a b=0:=by unfold lk; rw [if_pos he,if_pos hi,hm,hs,ht]; simp
 refine ⟨h,?_,?_⟩
 ·unfold qt au; rw [if_pos h,hm,hs,ht]; rfl
 ·unfold ox au; rw [if_pos h,hm,hs,ht]; rfl
theorem lf:km aI 0=0∧ql aI 0=⟨514,515⟩∧iA aI 0=[1,2]:=by have h:=wL (i:=0) (s:=⟨514,515⟩) oA rJ.1 dc rfl; exact ⟨h.1,h.2.1,h.2.2.trans dc⟩
theorem ye:km aI 2=0∧ql aI 2=⟨515,517⟩∧iA aI 2=[2,3]:=by have h:=wL (i:=2) (s:=⟨515,517⟩) oA rJ.1 dc rfl; exact ⟨h.1,h.2.1,h.2.2.trans dc⟩
theorem Em:km kh 2=0∧ql kh 2=⟨516,516⟩:=by have h:=wL (i:=2) (s:=⟨516,516⟩) uH Eu dc rfl; exact ⟨h.1,h.2.1⟩
theorem xE:lk aI 1 2=0∧qt aI 1 2=2∧ox aI 1 2=0:=by have h:=B5 (a:=1) (b:=2) (s:=⟨514,514⟩) (t:=⟨515,517⟩) oA rJ.1 dc rfl rfl; exact ⟨h.1,h.2.1.trans dc,h.2.2.trans dc⟩
theorem xo:lk aI 0 1=0∧qt aI 0 1=0∧ox aI 0 1=1:=by have h:=B5 (a:=0) (b:=1) (s:=⟨514,515⟩) (t:=⟨514,514⟩) oA rJ.1 dc rfl rfl; exact ⟨h.1,h.2.1.trans dc,h.2.2.trans dc⟩
theorem Ge:g7 aI 1=0∧gv aI 1=[0,2,1]:=by
 have h:g7 aI 1=0:=by unfold g7; rw [if_pos oA]; decide
 refine ⟨h,?_⟩
 unfold gv
 rw [if_pos h,if_neg dc]
 unfold rn
 rw [show dV aI (1:Int).toNat=MR from rJ.2]
 decide
theorem Ep:g7 aI 2=0∧gv aI 2=[0,1,2]:=by
 have h:g7 aI 2=0:=by unfold g7; rw [if_pos oA]; decide
 refine ⟨h,?_⟩
 unfold gv
 rw [if_pos h,if_neg dc]
 unfold rn
 rw [show dV aI (2:Int).toNat=H6 from rJ.1]
 decide
theorem Ja:dh aI=[[0,1,2]]:=by
 refine (qG oA ?_ ?_).symm
 ·rw [rJ.1]
  refine ⟨dc,dc,sm,fun g hg t A B=>?_⟩
  rw [bJ.1 hg] at A B ⊢
  simp [H6,au,List.lookup] at A B ⊢
  omega
 ·intro g hg; rw [bJ.1 hg]; decide
theorem FP:dh kh=[[0,1],[2]]:=by
 refine (qG uH ?_ ?_).symm
 ·rw [Eu]
  refine ⟨dc,dc,?_,fun g hg t A B=>?_⟩
  ·simp [GJ,II,au,List.lookup]
  ·simp only [bw,List.not_mem_nil,or_false] at hg
   rcases hg with rfl|rfl<;>(simp [II,au,List.lookup] at A B ⊢; omega)
 ·intro g hg; simp only [bw,List.not_mem_nil,or_false] at hg; rcases hg with rfl|rfl<;>decide
theorem JP:ep aI 0 2 ⟨2590,2599⟩=[2]:=by
 unfold ep
 rw [if_pos yo,rJ.1,show ay (iQ aI 0 2 ⟨2590,2599⟩)=II from Eu]
 simp only [Cc]
 rw [show cV (H6.map (·.1))=[0,1,2] from sf (n:=3) dc]
 decide
end
section
open Go.RowKit
section
variable {E:eD} {ops:Array Oper} {Q:cP} {rest:List Oper} {D:List Deferred} {L:List (Nat×Value)} {C C1:List aq}
end
theorem zi {C:List aq}: ∀ {a b:List Nat} {X Y:List aq},kK C a=some X→kK C b=some Y→kK C (a++b)=some (X++Y)
 |[],b,X,Y,h,h2=>by cases h; exact h2
 |i::a,b,X,Y,h,h2=>by
  unfold kK at h
  split at h
  ·rename_i A hA
   split at h
   ·rename_i l hl
    cases h
    have ih:=zi hl h2
    show (match C[i]? with
     |some A=>match kK C (a++b) with
      |some l=>some (A::l)
      |none=>none
     |none=>none)=_
    rw [hA,ih]; rfl
   ·cases h
  ·cases h
theorem rj {E:eD} {ops:Array Oper} {Q:cP} {rest:List Oper} {D:gj} {L:cY} {C C1:List aq} (X:List aq) (i1 i2:List Nat) (h1:kK C i1=some X) (h2:kK C i2=some C1) (h:RJ E ops Q rest D L (bB X::C1)) (hn:decide (i1++i2).Nodup=true:=by rfl):RJ E ops Q rest D L C:=fun a w hf hs=>h a w hf (St.tied (St.kB _ hn (iR (zi h1 h2)) hs))
theorem oR {E:eD} {ops:Array Oper} {Q:cP} {rest:List Oper} {D:gj} {L:cY} {C C1:List aq} (ix:List Nat) (hn:decide ix.Nodup=true) (hC:kK C ix=some C1) (h:RJ E ops Q rest D L C1):RJ E ops Q rest D L C:=fun a w hf hs=>h a w hf (St.kB _ hn (iR hC) hs)
theorem kZ {M A B:Type} {f:M→A→List B} {n:Nat} (h: ∀ m a,(f m a).length=n): ∀ {ms:List M} {asl:List A},∀ x∈List.zipWith f ms asl,x.length=n
 |[],asl,x,hx=>by simp at hx
 |m::ms,[],x,hx=>by simp at hx
 |m::ms,a::asl,x,hx=>by
  rw [List.zipWith_cons_cons] at hx
  rcases bw.1 hx with rfl|hx
  ·exact h m a
  ·exact kZ h x hx
theorem wP (m:aw) (a:RA):(aw.cells m a).length=7:=rfl
theorem yq (m:List aw) (a:cL):(cR m a).length=1:=rfl
theorem EM (m:List Int) (a:RA):(lW m a).length=1:=rfl
def NB:List aw:=[⟨false,false,dC,lx⟩,x7 2600 2600,x7 2580 2609]
def Mx:List aw:=[x7 2555 2559,x7 2540 2549,x7 2570 2575]
theorem Gf {p q s t u v x y:RA}:qE aI.aB [(p,[s,t,u]),(q,[v,x,y])]:=⟨rfl,fun k h a hk ha=>by
 match k with
 |0=>simp [aI] at hk ha; subst hk; subst ha; rfl
 |1=>simp [aI] at hk ha; subst hk; subst ha; rfl
 |n+2=>simp at ha⟩
theorem KG {bz:List RA} {hz:List cL} (h:eA lH bz) (hh:qE aI.aB hz):eF aI bz hz:=⟨h,dc,dc,dc,hh.1,fun k x a hx ha=>by
 have hm:=aT hx
 have hs:=hh.2 k x a hx ha
 simp only [aI,bw,List.not_mem_nil,or_false] at hm
 rcases hm with rfl|rfl
 ·exact ⟨dc,hs,dc⟩
 ·exact ⟨dc,hs,dc⟩⟩
end
section
open Go.RowKit
def Mt (b:Bool):List Value:=[.bool b]
@[simp] theorem ID (b:Bool):(Mt b).length=1:=rfl
end
section
section
variable {r:bX} {i:Nat} {x:List aw} {d:aw}
end
section
variable {r:bX} {i k:Nat} {x:Int}
end
section
variable {r:bX} {i k n:Nat} {s:aa} {l:bo} {hs:List (List aw)}
end
section
variable {r:bX} {i x:Int} {own s:aa} {k:Nat} {ys zs:List Int}
end
section
variable {B:List Bool} {P Q:Int→Prop} {k x:Nat} {m:gG} {i y a b:Int} {ys:List Int}
end
theorem Ba {r:bX} {i:Int}:(iA r i).length≤r.aU.length:=by
 unfold iA
 split
 ·unfold dq
  refine Nat.le_trans (List.length_filter_le _ _) ?_
  rw [List.length_map,List.length_range]
  exact q6
 ·simp
end
section
theorem BK: ∀ {m:gG} {a:Int} {s:aa},m.lookup a=some s→(a,s)∈m
 |[],a,s,h=>by cases h
 |(b,u)::m,a,s,h=>by
  by_cases e:a=b
  ·subst e
   simp [List.lookup] at h; subst h; exact cq
  ·have:(a==b)=false:=by simpa using e
   simp only [List.lookup,this] at h
   exact df _ (BK h)
theorem Bv: ∀ {m:gG} {a:Int} {s:aa},(m.map (·.1)).Nodup→(a,s)∈m→m.lookup a=some s
 |[],a,s,_,h=>by cases h
 |(b,u)::m,a,s,hn,h=>by
  rw [List.map_cons,List.nodup_cons] at hn
  rcases bw.1 h with e|h
  ·cases e; simp [List.lookup]
  ·have e:a≠b:=fun e=>hn.1 (by rw [← e]; exact List.mem_map_of_mem (f:=(·.1)) h)
   have:(a==b)=false:=by simpa using e
   simp only [List.lookup,this]
   exact Bv hn.2 h
/-- sums, each of another sled -/
structure q7 (m:gG):Prop where
 nd:(m.map (·.1)).Nodup
 le: ∀ p∈m,p.2.Lo≤p.2.Hi
section
variable {m:gG} {a b i n:Int} {s t own:aa}
theorem q7.at (h:q7 m) (hs:m.lookup a=some s):s.Lo≤s.Hi:=h.le _ (BK hs)
theorem q7.one (h:q7 m) (hs:m.lookup a=some s) {p:Int×aa} (hp:p∈m) (e:p.1=a):p.2=s:=by
 obtain ⟨x,y⟩:=p
 cases e
 have:=Bv h.nd hp
 rw [hs] at this; cases this; rfl
/-- who is surely tied has the same ranks -/
theorem D2 (h:q7 m) (hs:m.lookup a=some s) (ht:m.lookup b=some s) (he:s.Lo=s.Hi):dq m a s=dq m b s:=by
 have C:g8 m a s.Lo=g8 m b s.Lo:=by
  rw [mP,mP]
  apply List.countP_congr
  intro p hp
  simp only [dL,decide_eq_true_eq,Bool.not_eq_true',decide_eq_false_iff_not]
  exact ⟨fun q=>⟨q.1,fun e=>by have:=h.one ht hp e; rw [this] at q; omega⟩,fun q=>⟨q.1,fun e=>by have:=h.one hs hp e; rw [this] at q; omega⟩⟩
 have D:j3 m a s.Lo=j3 m b s.Lo:=by
  rw [oN,oN]
  apply List.countP_congr
  intro p hp
  simp only [dL,decide_eq_true_eq,Bool.not_eq_true',decide_eq_false_iff_not]
  exact ⟨fun q=>⟨q.1,fun e=>by have:=h.one ht hp e; rw [this] at q; omega⟩,fun q=>⟨q.1,fun e=>by have:=h.one hs hp e; rw [this] at q; omega⟩⟩
 unfold dq
 congr 1
 funext k
 rw [gd,xY (h.at hs),xY (h.at hs)]
 constructor<;>rintro ⟨x,A,B,E,F⟩<;>(have:x=s.Lo:=by omega)<;>subst this<;>exact ⟨s.Lo,A,B,om,om⟩
end
section
variable {r:bX} {a b i:Int} {s t:aa}
/-- what is known of two sleds that have sums -/
structure JW (r:bX) (a b:Int) (s t:aa):Prop where
 ne:a≠b
 KU:q7 (ay r)
 sa:(ay r).lookup a=some s
 sb:(ay r).lookup b=some t
 ea:km r a=0
 eb:km r b=0
 va:ql r a=s
 vb:ql r b=t
 ra:iA r a=dq (ay r) a s
 rb:iA r b=dq (ay r) b t
 Qi:qt r a b=xQ s t
 F2:qt r b a=xQ t s
 tied:ox r a b=pB s t
theorem JW.tie (h:JW r a b s t) (e:ox r a b=2):s=t∧s.Lo=s.Hi∧iA r a=iA r b∧qt r a b=0∧qt r b a=0:=by
 rw [h.tied] at e
 unfold pB at e
 split at e
 ·rename_i q
  obtain ⟨rfl,q⟩:=q
  have hb:xQ s s=0:=by unfold xQ; rw [if_neg om,if_neg om]
  exact ⟨U,q,by rw [h.ra,h.rb,D2 h.KU h.sa h.sb q],h.Qi.trans hb,h.F2.trans hb⟩
 ·split at e<;>cases e
end
end
section
section
variable {r:bX} {h i:Nat} {ht:List aw} {d:aw} {bl:List Int} {n:Int} {out:Bool}
structure FX (r:bX) (h i:Nat) (d:aw):Prop where
 off:d.Out=true→kb r ↑h ↑i=6
 on:d.Out=false→kb r ↑h ↑i=0∧fy r ↑h ↑i=dA r.ar d
 b:0≤(fy r ↑h ↑i).Lo∧(fy r ↑h ↑i).Lo≤(fy r ↑h ↑i).Hi∧(fy r ↑h ↑i).Hi≤86400000
 at_:(r.aB[h]?).bind (·[i]?)=some d
theorem FX.same (q:FX r h i d):d.Out=decide (kb r ↑h ↑i=6):=by
 cases ho:d.Out with
 |true=>rw [q.off ho]; rfl
 |false=>rw [(q.on ho).1]; rfl
end
section
variable {r:bX} {i:Nat} {k:Int}
end
end
section
structure Bi (w w':bO):Prop where
 start:w'.Start=w.Start
 now:w.iL≤w'.iL
 n:w'.n=w.n
 least: ∀ b,cd w' b≤cd w b
 times:w'.rX=w.rX
 LH:w.dZ≤w'.dZ
 Nr:w.e7≤w'.e7
 sigs:w'.Lm=w.Lm
variable {w w':bO}
theorem Bi.opt (h:Bi w w') {b:Nat} {o:Int×aa} (ho:o∈iE w b): ∃ o'∈iE w' b,o'.1=o.1∧o'.2.Lo≤o.2.Lo∧o.2.Hi≤o'.2.Hi:=by
 unfold iE at ho
 rcases bw.1 ho with rfl|ho
 ·exact ⟨(-1,⟨w'.Start,w'.iL⟩),cq ..,U,by simp only [h.start]; omega,h.now⟩
 ·refine ⟨o,df _ ?_,U,Int.le_refl _,Int.le_refl _⟩
  unfold sL at ho ⊢; rw [h.times]; exact ho
theorem Bi.may (h:Bi w w') {t:ax} (ht:nk w t=true):nk w' t=true:=by
 unfold nk at ht ⊢
 have:=of_decide_eq_true ht
 have A:=h.LH
 have B:=h.Nr
 have C:=h.sigs
 exact dB om
theorem Bi.fwd (h:Bi w w'): ∀ (b:Nat) (p:ax×Int),p∈fwd w b→ ∃ p'∈Go.Proofs.YtlajhejcfcoddaaGreatDoor.fwd w' b,p'.1=p.1∧p'.2≤p.2:=by
 intro b
 induction b with
 |zero=>
  intro p hp
  simp only [Go.Proofs.YtlajhejcfcoddaaGreatDoor.fwd,bJ] at hp ⊢
  subst hp
  exact ⟨_,U,U,by simp only [h.start]; omega⟩
 |succ b ih=>
  intro q hq
  obtain ⟨p,hp,o,ho,e⟩:=eV.1 hq
  obtain ⟨p',hp',A,D⟩:=ih p hp
  obtain ⟨o',ho',B,E,F⟩:=h.opt ho
  have hl:=h.least b
  have hn:=h.now
  unfold jT at e
  split at e
  ·rename_i C
   simp only [Option.some.injEq] at e
   subst e
   refine ⟨(d_ p'.1 (e9 o'.1),max (p'.2+cd w' b) o'.2.Lo),eV.2 ⟨p',hp',o',ho',by unfold jT; rw [if_pos om]⟩,by simp only [A,B],by simp only; omega⟩
  ·cases e
theorem Bi.bwd (h:Bi w w'): ∀ (k:Nat) (p:ax×Int),p∈bwd w k→ ∃ p'∈Go.Proofs.YtlajhejcfcoddaaGreatDoor.bwd w' k,p'.1=p.1∧p.2≤p'.2:=by
 intro k
 induction k with
 |zero=>
  intro p hp
  simp only [Go.Proofs.YtlajhejcfcoddaaGreatDoor.bwd,bJ] at hp ⊢
  subst hp
  exact ⟨_,U,U,h.now⟩
 |succ k ih=>
  intro q hq
  simp only [Go.Proofs.YtlajhejcfcoddaaGreatDoor.bwd,bw,List.mem_flatMap,List.mem_filterMap] at hq ⊢
  rcases hq with rfl|⟨p,hp,o,ho,e⟩
  ·exact ⟨_,.inl U,U,h.now⟩
  ·obtain ⟨p',hp',A,D⟩:=ih p hp
   obtain ⟨o',ho',B,E,F⟩:=h.opt ho
   have hl:=h.least (w.n-(k+1))
   rw [h.n]
   unfold mE at e
   split at e
   ·rename_i C
    simp only [Option.some.injEq] at e
    subst e
    exact ⟨(d_ p'.1 (e9 o'.1),min p'.2 o'.2.Hi-cd w' (w.n-(k+1))),.inr ⟨p',hp',o',ho',by unfold mE; rw [if_pos om]⟩,by simp only [A,B],by simp only; omega⟩
   ·cases e
theorem Bi.back (h:Bi w w') {b:Nat} {p:ax×Int} (hp:p∈back w b): ∃ p'∈Go.Proofs.YtlajhejcfcoddaaGreatDoor.back w' b,p'.1=p.1∧p.2≤p'.2:=by
 unfold Go.Proofs.YtlajhejcfcoddaaGreatDoor.back at hp ⊢
 rw [h.n]
 exact h.bwd _ p hp
theorem Bi.pass (h:Bi w w') {b:Nat} {q:Int×aa} (hq:q∈lz w b): ∃ q'∈lz w' b,q'.1=q.1∧q'.2.Lo≤q.2.Lo∧q.2.Hi≤q'.2.Hi:=by
 obtain ⟨o,ho,p,hp,u,hu,e⟩:=gK.1 hq
 obtain ⟨D,E,rfl⟩:=iD.1 e
 obtain ⟨o',ho',A,F,G⟩:=h.opt ho
 obtain ⟨p',hp',B,H⟩:=h.fwd _ p hp
 obtain ⟨u',hu',C,AA⟩:=h.back hu
 have hl:=h.least b
 simp only [iH] at D
 refine ⟨(o'.1,iH w' b p' u' o'),gK.2 ⟨o',ho',p',hp',u',hu',iD.2 ⟨?_,?_,U⟩⟩,A,?_,?_⟩
 ·simp only [iH]; omega
 ·have:=h.may E
  unfold ue at this ⊢
  rw [A,B,C]; exact this
 ·simp only [iH]; omega
 ·simp only [iH]; omega
theorem qh {k:Int}:k∈gl w↔ ∃ i:Nat,k=(i:Int)∧i≤w.n∧jy w (fwd w i)=true:=by
 unfold gl jw
 simp only [b_,List.mem_filter,List.mem_range]
 constructor
 ·rintro ⟨i,⟨B,A⟩,rfl⟩; exact ⟨i,rfl,om,A⟩
 ·rintro ⟨i,rfl,B,A⟩; exact ⟨i,⟨om,A⟩,rfl⟩
theorem Bi.D8 (h:Bi w w') {k:Int} (hk:k∈gl w):k∈gl w':=by
 obtain ⟨i,rfl,C,A⟩:=qh.1 hk
 refine qh.2 ⟨i,U,by rw [h.n]; exact C,?_⟩
 unfold jy at A ⊢
 obtain ⟨p,hp,D⟩:=List.any_eq_true.1 A
 obtain ⟨p',hp',B,_⟩:=h.fwd _ p hp
 exact List.any_eq_true.2 ⟨p',hp',by rw [B]; exact h.may D⟩
/-- two rides, of two lines, of which one allows more -/
structure Oy (l:bo) (r:dw) (l':bo) (r':dw):Prop where
 line:eU l=0
 line':eU l'=0
 Ec:fh l r
 ride':fh l' r'
 w:Bi (cz l r) (cz l' r')
 Kf:l'.ab.length=l.ab.length
variable {l l':bo} {r r':dw}
theorem Oy.ok (h:Oy l r l' r') (he:ed l r 0=0):ed l' r' 0=0:=by
 refine lX h.line' h.ride' U fun e=>?_
 obtain ⟨k,hk⟩:=List.exists_mem_of_ne_nil _ (iu he).2.2.2
 have:=h.w.D8 hk
 rw [e] at this; cases this
theorem Oy.EY (h:Oy l r l' r') {k:Int} (hk:k∈gk l r):k∈gk l' r':=by
 by_cases he:ed l r 0=0
 ·rw [jr he] at hk
  rw [jr (h.ok he)]
  exact h.w.D8 hk
 ·rw [lU he] at hk; cases hk
def La (l:bo):Prop:= ¬ mX l∧eU l=0
noncomputable instance (l:bo):Decidable (La l):=Classical.propDecidable _
end
section
/-- where a sled may be after k beams more -/
def f_ (w:bO):Nat→Nat→ax×Int→List (ax×Int)
 |0,_,p=>[p]
 |k+1,b,p=>(iE w b).flatMap fun o=>match jT w b p o with
  |some q=>f_ w k (b+1) q
  |none=>[]
variable {w:bO}
theorem ia {k b:Nat} {p q:ax×Int}:q∈f_ w (k+1) b p↔ ∃ o∈iE w b,∃ p',jT w b p o=some p'∧q∈f_ w k (b+1) p':=by
 simp only [f_,List.mem_flatMap]
 constructor
 ·rintro ⟨o,ho,h⟩
  cases e:jT w b p o with
  |none=>rw [e] at h; cases h
  |some p'=>rw [e] at h; exact ⟨o,ho,p',e,h⟩
 ·rintro ⟨o,ho,p',e,h⟩
  exact ⟨o,ho,by rw [e]; exact h⟩
theorem rm: ∀ (k b:Nat) (q:ax×Int),q∈fwd w (b+k)↔ ∃ p∈fwd w b,q∈f_ w k b p:=by
 intro k
 induction k with
 |zero=>
  intro b q
  simp only [Nat.add_zero,f_,bJ]
  exact ⟨fun h=>⟨q,h,rfl⟩,fun ⟨p,hp,e⟩=>e▸hp⟩
 |succ k ih=>
  intro b q
  rw [show b+(k+1)=(b+1)+k by omega,ih]
  constructor
  ·rintro ⟨p',hp',h⟩
   obtain ⟨p,hp,o,ho,e⟩:=eV.1 hp'
   exact ⟨p,hp,ia.2 ⟨o,ho,p',e,h⟩⟩
  ·rintro ⟨p,hp,h⟩
   obtain ⟨o,ho,p',e,h'⟩:=ia.1 h
   exact ⟨p',eV.2 ⟨p,hp,o,ho,e⟩,h'⟩
theorem gT {b:Nat} {p q:ax×Int} {o:Int×aa}:jT w b p o=some q↔max (p.2+cd w b) o.2.Lo≤min o.2.Hi w.iL∧q=(d_ p.1 (e9 o.1),max (p.2+cd w b) o.2.Lo):=by
 unfold jT
 split
 ·rename_i h
  constructor
  ·intro e; cases e; exact ⟨h,rfl⟩
  ·rintro ⟨_,rfl⟩; rfl
 ·rename_i h
  constructor
  ·intro e; cases e
  ·rintro ⟨h',_⟩; exact absurd h' h
theorem qR {b:Nat} {p q:ax×Int} {o:Int×aa}:mE w b p o=some q↔o.2.Lo≤min p.2 o.2.Hi∧q=(d_ p.1 (e9 o.1),min p.2 o.2.Hi-cd w b):=by
 unfold mE
 split
 ·rename_i h
  constructor
  ·intro e; cases e; exact ⟨h,rfl⟩
  ·rintro ⟨_,rfl⟩; rfl
 ·rename_i h
  constructor
  ·intro e; cases e
  ·rintro ⟨h',_⟩; exact absurd h' h
theorem Df {b:Nat} (hb:b≤w.n):((⟨0,0⟩:ax),w.iL)∈back w b:=by
 rcases Nat.lt_or_ge b w.n with h|h
 ·exact (np h).2 (.inl U)
 ·rw [rz h]; simp
theorem rp (t:ax):d_ t ⟨0,0⟩=t:=by cases t; simp [d_]
theorem vt (a o u:ax):d_ (d_ a o) u=d_ a (d_ u o):=by simp only [d_,ax.mk.injEq]; omega
theorem Bw (hl: ∀ b,0≤cd w b): ∀ (k:Nat) (u:ax×Int),u∈bwd w k→u.2≤w.iL:=by
 intro k
 induction k with
 |zero=>intro u hu; simp only [bwd,bJ] at hu; subst hu; exact Int.le_refl _
 |succ k ih=>
  intro u hu
  simp only [bwd,bw,List.mem_flatMap,List.mem_filterMap] at hu
  rcases hu with rfl|⟨p,hp,o,ho,e⟩
  ·exact Int.le_refl _
  ·obtain ⟨_,rfl⟩:=qR.1 e
   have:=ih p hp
   have:=hl (w.n-(k+1))
   simp only; omega
/-- what follows a passing is told by the way back -/
theorem JH: ∀ (k b:Nat) (p q:ax×Int),b+k≤w.n→p.2≤w.iL→q∈f_ w k b p→ ∃ u∈back w b,p.2≤u.2∧q.1=d_ p.1 u.1:=by
 intro k
 induction k with
 |zero=>
  intro b p q hb hp hq
  simp only [f_,bJ] at hq
  subst hq
  exact ⟨_,Df om,hp,(rp _).symm⟩
 |succ k ih=>
  intro b p q hb hp hq
  obtain ⟨o,ho,p',e,h⟩:=ia.1 hq
  obtain ⟨C,rfl⟩:=gT.1 e
  obtain ⟨u',hu',B,A⟩:=ih (b+1) _ q om (by simp only; omega) h
  simp only at B A
  refine ⟨(d_ u'.1 (e9 o.1),min u'.2 o.2.Hi-cd w b),(np om).2 (.inr ⟨u',hu',o,ho,qR.2 ⟨om,U⟩⟩),by simp only; omega,?_⟩
  rw [A,vt]
theorem Eo (hl: ∀ b,0≤cd w b): ∀ (d b:Nat) (p u:ax×Int),w.n=b+d→p.2≤u.2→u∈back w b→ ∃ k,b+k≤w.n∧ ∃ q∈f_ w k b p,q.1=d_ p.1 u.1:=by
 intro d
 induction d with
 |zero=>
  intro b p u hd hp hu
  rw [rz om] at hu
  simp only [bJ] at hu
  subst hu
  exact ⟨0,om,p,by simp [f_],(rp _).symm⟩
 |succ d ih=>
  intro b p u hd hp hu
  rcases (np om).1 hu with rfl|⟨u',hu',o,ho,e⟩
  ·exact ⟨0,om,p,by simp [f_],(rp _).symm⟩
  ·obtain ⟨B,rfl⟩:=qR.1 e
   have hn:u'.2≤w.iL:=Bw hl _ _ hu'
   simp only at hp
   obtain ⟨k,hk,q,hq,A⟩:=ih (b+1) (d_ p.1 (e9 o.1),max (p.2+cd w b) o.2.Lo) u' om (by simp only; omega) hu'
   refine ⟨k+1,om,q,ia.2 ⟨o,ho,_,gT.2 ⟨om,U⟩,hq⟩,?_⟩
   rw [A]; simp only; rw [vt]
end
section
def KD (w:bO) (b:Nat) (i:Int):Prop:= ∃ b',b'<b∧ ∃ q∈lz w b',q.1=i
noncomputable instance (w:bO) (b:Nat) (i:Int):Decidable (KD w b i):=Classical.propDecidable _
def sQ (w:bO) (b:Nat):Bool:=(lz w b).any fun q=>decide (0≤q.1)
def xh (w:bO) (k:Nat):List Int:=((List.range k).filter fun b=> !sQ w b).map fun (b:Nat)=>(b:Int)
noncomputable def sZ (l:bo) (r:dw):List Int:=if ed l r 0=0 then xh (cz l r) (m6 (gk l r)).toNat else []
theorem uG {l:bo} {r:dw} (h:ed l r 0=0):sZ l r=xh (cz l r) (m6 (gk l r)).toNat:=if_pos h
theorem uc {l:bo} {r:dw} (h: ¬ ed l r 0=0):sZ l r=[]:=if_neg h
theorem MB {l:bo} {r:dw} (h:ed l r 0=0):0≤m6 (gk l r)∧m6 (gk l r)≤(l.ab.length:Int):=by
 have A:=(JR (v_ h)).1
 rw [jr h] at A ⊢
 obtain ⟨i,e,hi,_⟩:=qh.1 A
 have hn:(cz l r).n=l.ab.length:=cT
 omega
end
section
/-- a truth goes on from here -/
def qv (w:bO) (b:Nat) (p:ax×Int):Prop:= ∃ k,b+k≤w.n∧ ∃ q∈f_ w k b p,nk w q.1=true
/-- a truth may have come here, or earlier -/
def Bk (w:bO) (b:Nat) (p:ax×Int):Prop:= ∃ v,(p.1,v)∈fwd w b∧v≤p.2
def ES (n:Int) (p:ax×Int):ax×Int:=(p.1,p.2+n)
section
variable {w:bO}
theorem CV: ∀ (k j b:Nat) (p q z:ax×Int),q∈f_ w k b p→z∈f_ w j (b+k) q→z∈f_ w (k+j) b p:=by
 intro k
 induction k with
 |zero=>
  intro j b p q z A B
  simp only [f_,bJ] at A
  subst A
  rw [Nat.zero_add]; exact B
 |succ k ih=>
  intro j b p q z A B
  obtain ⟨o,ho,p',e,h⟩:=ia.1 A
  rw [show k+1+j=(k+j)+1 by omega]
  exact ia.2 ⟨o,ho,p',e,ih j (b+1) p' q z h (by rw [show b+1+k=b+(k+1) by omega]; exact B)⟩
theorem rO: ∀ (k b:Nat) (t:ax) (x y:Int) (q:ax×Int),y≤x→q∈f_ w k b (t,x)→ ∃ q'∈f_ w k b (t,y),q'.1=q.1∧q'.2≤q.2:=by
 intro k
 induction k with
 |zero=>
  intro b t x y q A hq
  simp only [f_,bJ] at hq ⊢
  subst hq
  exact ⟨_,U,U,A⟩
 |succ k ih=>
  intro b t x y q A hq
  obtain ⟨o,ho,p',e,h⟩:=ia.1 hq
  obtain ⟨B,rfl⟩:=gT.1 e
  simp only at B h
  obtain ⟨q',hq',C,D⟩:=ih (b+1) _ _ (max (y+cd w b) o.2.Lo) q om h
  exact ⟨q',ia.2 ⟨o,ho,_,gT.2 ⟨by simp only; omega,U⟩,hq'⟩,C,D⟩
theorem Be {b:Nat} {t:ax} {x y:Int} (h:qv w b (t,x)) (hy:y≤x):qv w b (t,y):=by
 obtain ⟨k,hk,q,hq,hm⟩:=h
 obtain ⟨q',hq',e,_⟩:=rO k b t x y q hy hq
 exact ⟨k,hk,q',hq',by rw [e]; exact hm⟩
theorem vU {k b:Nat} {p q:ax×Int} (h:q∈f_ w k b p) (hv:qv w (b+k) q):qv w b p:=by
 obtain ⟨j,hj,z,hz,hm⟩:=hv
 exact ⟨k+j,om,z,CV k j b p q z h hz,hm⟩
theorem C5 {b:Nat} {p q:ax×Int} {o:Int×aa} (h:Bk w b p) (ho:o∈iE w b) (e:jT w b p o=some q):Bk w (b+1) q:=by
 obtain ⟨v,hv,A⟩:=h
 obtain ⟨B,rfl⟩:=gT.1 e
 exact ⟨max (v+cd w b) o.2.Lo,eV.2 ⟨_,hv,o,ho,gT.2 ⟨by simp only; omega,U⟩⟩,by simp only; omega⟩
theorem yY {b:Nat} {p:ax×Int} (h:p∈fwd w b):Bk w b p:=⟨p.2,h,Int.le_refl _⟩
theorem vw (hl: ∀ b,0≤cd w b): ∀ (b:Nat) (p:ax×Int),p∈fwd w b→w.Start≤p.2:=by
 intro b
 induction b with
 |zero=>intro p hp; simp only [fwd,bJ] at hp; subst hp; exact Int.le_refl _
 |succ b ih=>
  intro q hq
  obtain ⟨p,hp,o,ho,e⟩:=eV.1 hq
  obtain ⟨_,rfl⟩:=gT.1 e
  have:=ih p hp
  have:=hl b
  simp only; omega
/-- a beam is passed at a time, by a signal -/
def A_ (w:bO) (b:Nat) (s t:Int):Prop:= ∃ p∈fwd w b,∃ o∈iE w b,o.1=s∧(max (p.2+cd w b) o.2.Lo≤t∧t≤min o.2.Hi w.iL)∧qv w (b+1) (d_ p.1 (e9 o.1),t)
theorem wN (hl: ∀ b,0≤cd w b) {b:Nat} (hb:b<w.n) {s t:Int}:(∃ q∈lz w b,q.1=s∧q.2.Lo≤t∧t≤q.2.Hi)↔A_ w b s t:=by
 constructor
 ·rintro ⟨q,hq,hs,C,D⟩
  obtain ⟨o,ho,p,hp,u,hu,e⟩:=gK.1 hq
  obtain ⟨B,A,rfl⟩:=iD.1 e
  simp only [iH] at C D B
  have hn:u.2≤w.iL:=Bw hl _ _ hu
  obtain ⟨k,hk,q,hq',E⟩:=Eo hl (w.n-(b+1)) (b+1) (d_ p.1 (e9 o.1),t) u om (by simp only; omega) hu
  refine ⟨p,hp,o,ho,hs,⟨om,om⟩,k,hk,q,hq',?_⟩
  rw [E]
  unfold ue at A
  rw [show d_ (d_ p.1 (e9 o.1)) u.1=d_ (d_ p.1 u.1) (e9 o.1) by simp only [d_,ax.mk.injEq]; omega]
  exact A
 ·rintro ⟨p,hp,o,ho,hs,⟨C,D⟩,k,hk,q,hq,hm⟩
  obtain ⟨u,hu,B,A⟩:=JH k (b+1) _ q hk (by simp only; omega) hq
  simp only at B A
  refine ⟨(o.1,iH w b p u o),gK.2 ⟨o,ho,p,hp,u,hu,iD.2 ⟨by simp only [iH]; omega,?_,U⟩⟩,hs,by simp only [iH]; omega,by simp only [iH]; omega⟩
  unfold ue
  rw [A] at hm
  rw [show d_ (d_ p.1 u.1) (e9 o.1)=d_ (d_ p.1 (e9 o.1)) u.1 by simp only [d_,ax.mk.injEq]; omega]
  exact hm
end
structure uV (w w':bO) (n:Int) (f:Int→Int):Prop where
 start:w'.Start=w.Start+n
 now:w'.iL=w.iL+n
 wn:w'.n=w.n
 low: ∀ b,0≤cd w b
 least: ∀ b,cd w' b=cd w b
 may: ∀ t,nk w t=true→nk w' t=true
 OM: ∀ s,0≤f s↔0≤s
 opt: ∀ (b:Nat) (p:ax×Int) (o:Int×aa),b<w.n→w.Start≤p.2→Bk w b p→o∈iE w b→max (p.2+cd w b) o.2.Lo≤min o.2.Hi w.iL→qv w (b+1) (d_ p.1 (e9 o.1),max (p.2+cd w b) o.2.Lo)→
  ∃ o'∈iE w' b,o'.1=f o.1∧ ∀ t,w.Start≤t→t≤w.iL→((o.2.Lo≤t∧t≤o.2.Hi)↔(o'.2.Lo≤t+n∧t+n≤o'.2.Hi))
section
variable {w w':bO} {n:Int} {f g:Int→Int}
theorem uV.one (h:uV w w' n f) (s:Int):e9 (f s)=e9 s:=by
 unfold e9
 have:=h.OM s
 by_cases q:s<0
 ·rw [if_pos q,if_pos om]
 ·rw [if_neg q,if_neg om]
theorem uV.step (h:uV w w' n f) {b:Nat} {p q:ax×Int} {o:Int×aa} (hb:b<w.n) (hs:w.Start≤p.2) (hl:Bk w b p) (ho:o∈iE w b) (e:jT w b p o=some q) (hv:qv w (b+1) q):
 ∃ o'∈iE w' b,jT w' b (ES n p) o'=some (ES n q):=by
 obtain ⟨E,rfl⟩:=gT.1 e
 obtain ⟨o',ho',D,A⟩:=h.opt b p o hb hs hl ho E hv
 have F:=h.low b
 have B:=A (max (p.2+cd w b) o.2.Lo) om om
 have C:=A (max (p.2+n+cd w b) o'.2.Lo-n) om
 refine ⟨o',ho',gT.2 ?_⟩
 simp only [ES,h.least,h.now]
 rw [D,h.one]
 have G:=B.1 om
 have H:=(C om).2 om
 refine ⟨om,?_⟩
 simp only [Prod.mk.injEq,true_and]
 omega
theorem uV.reach (h:uV w w' n f): ∀ (k b:Nat) (p q:ax×Int),b+k≤w.n→w.Start≤p.2→Bk w b p→q∈f_ w k b p→qv w (b+k) q→ES n q∈f_ w' k b (ES n p):=by
 intro k
 induction k with
 |zero=>
  intro b p q _ _ _ hq _
  simp only [f_,bJ] at hq ⊢
  rw [hq]
 |succ k ih=>
  intro b p q hb hs hl hq hv
  obtain ⟨o,ho,p',e,hq'⟩:=ia.1 hq
  have hv':qv w (b+1) p':=vU hq' (by rw [show b+1+k=b+(k+1) by omega]; exact hv)
  obtain ⟨o',ho',e'⟩:=h.step om hs hl ho e hv'
  have A:=gT.1 e
  have B:=h.low b
  exact ia.2 ⟨o',ho',_,e',ih (b+1) p' q om (by rw [A.2]; simp only; omega) (C5 hl ho e) hq' (by rw [show b+1+k=b+(k+1) by omega]; exact hv)⟩
theorem uV.PX (h:uV w w' n f) {b:Nat} {p:ax×Int} (hs:w.Start≤p.2) (hl:Bk w b p) (hv:qv w b p):qv w' b (ES n p):=by
 obtain ⟨k,hk,q,hq,hm⟩:=hv
 exact ⟨k,by rw [h.wn]; exact hk,_,h.reach k b p q hk hs hl hq ⟨0,om,q,by simp [f_],hm⟩,h.may _ hm⟩
theorem uV.fwd (h:uV w w' n f) {b:Nat} {q:ax×Int} (hb:b≤w.n) (hq:q∈fwd w b) (hv:qv w b q):ES n q∈Go.Proofs.YtlajhejcfcoddaaGreatDoor.fwd w' b:=by
 obtain ⟨p,hp,hr⟩:=(rm b 0 q).1 (by rw [Nat.zero_add]; exact hq)
 have hr':=h.reach b 0 p q om (vw h.low 0 p hp) (yY hp) hr (by rw [Nat.zero_add]; exact hv)
 have:ES n p∈Go.Proofs.YtlajhejcfcoddaaGreatDoor.fwd w' 0:=by
  simp only [Go.Proofs.YtlajhejcfcoddaaGreatDoor.fwd,bJ] at hp ⊢
  subst hp
  rw [h.start]; rfl
 have A:=(rm b 0 (ES n q)).2 ⟨_,this,hr'⟩
 rwa [Nat.zero_add] at A
theorem uV.any (h:uV w w' n f) {b:Nat} (hb:b≤w.n) (hm:jy w (Go.Proofs.YtlajhejcfcoddaaGreatDoor.fwd w b)=true):jy w' (Go.Proofs.YtlajhejcfcoddaaGreatDoor.fwd w' b)=true:=by
 unfold jy at hm ⊢
 obtain ⟨p,hp,A⟩:=List.any_eq_true.1 hm
 exact List.any_eq_true.2 ⟨_,h.fwd hb hp ⟨0,om,p,by simp [f_],A⟩,h.may _ A⟩
theorem uV.pass (h:uV w w' n f) {b:Nat} (hb:b<w.n) {s t:Int} (hp:A_ w b s t):A_ w' b (f s) (t+n):=by
 obtain ⟨p,hp,o,ho,rfl,⟨D,G⟩,hv⟩:=hp
 have hs:=vw h.low b p hp
 have hl:=h.low b
 have A:qv w (b+1) (d_ p.1 (e9 o.1),max (p.2+cd w b) o.2.Lo):=Be hv D
 have e:jT w b p o=some (d_ p.1 (e9 o.1),max (p.2+cd w b) o.2.Lo):=gT.2 ⟨om,rfl⟩
 have B:qv w b p:=vU (k:=1) (ia.2 ⟨o,ho,_,e,by simp [f_]⟩) A
 obtain ⟨o',ho',C,E⟩:=h.opt b p o hb hs (yY hp) ho om A
 have c:=(E t om om).1 om
 refine ⟨ES n p,h.fwd om hp B,o',ho',C,?_,?_⟩
 ·simp only [ES,h.least,h.now]; omega
 ·have F:=h.PX (b:=b+1) (p:=(d_ p.1 (e9 o.1),t)) (by simp only; omega) ⟨_,eV.2 ⟨p,hp,o,ho,e⟩,D⟩ hv
  rw [C,h.one]; exact F
theorem Gg (h:uV w w' n f) (h':uV w' w (-n) g):gl w'=gl w:=by
 unfold gl
 rw [h.wn]
 unfold jw
 congr 1
 refine List.filter_congr fun b hb=>?_
 have hb:=List.mem_range.1 hb
 rw [Bool.eq_iff_iff]
 exact ⟨h'.any (by rw [h.wn]; omega),h.any om⟩
theorem ym (h:uV w w' n f) (hl': ∀ b,0≤cd w' b) {b:Nat} (hb:b<w.n) {s:Int} (hq: ∃ q∈lz w b,q.1=s): ∃ q∈lz w' b,q.1=f s:=by
 obtain ⟨q,hq,e⟩:=hq
 have A:q.2.Lo≤q.2.Hi:=mN hq
 obtain ⟨q',hq',e',_⟩:=(wN hl' (by rw [h.wn]; exact hb)).2 (h.pass hb ((wN h.low hb).1 ⟨q,hq,e,Int.le_refl _,A⟩))
 exact ⟨q',hq',e'⟩
theorem CU (h:uV w w' n f) (h':uV w' w (-n) g) {b:Nat} (hb:b<w.n):sQ w' b=sQ w b:=by
 rw [Bool.eq_iff_iff]
 unfold sQ
 simp only [List.any_eq_true,decide_eq_true_eq]
 constructor
 ·rintro ⟨q,hq,A⟩
  obtain ⟨q',hq',e⟩:=ym h' h.low (by rw [h.wn]; exact hb) ⟨q,hq,rfl⟩
  exact ⟨q',hq',by rw [e]; exact (h'.OM _).2 A⟩
 ·rintro ⟨q,hq,A⟩
  obtain ⟨q',hq',e⟩:=ym h h'.low hb ⟨q,hq,rfl⟩
  exact ⟨q',hq',by rw [e]; exact (h.OM _).2 A⟩
end
section
variable {l l':bo} {r r':dw} {n:Int} {f g:Int→Int}
structure sr (l:bo) (r:dw) (l':bo) (r':dw) (n:Int) (f g:Int→Int):Prop where
 line:eU l=0
 line':eU l'=0
 Ec:fh l r
 ride':fh l' r'
 Kf:l'.ab.length=l.ab.length
 to:uV (cz l r) (cz l' r') n f
 P9:uV (cz l' r') (cz l r) (-n) g
theorem sr.D8 (h:sr l r l' r' n f g):gl (cz l' r')=gl (cz l r):=Gg h.to h.P9
theorem sr.e (h:sr l r l' r' n f g) {me:Int}:ed l' r' me=ed l r me:=by
 by_cases hm:me=0
 ·by_cases q:gl (cz l r)=[]
  ·rw [gh h.line h.Ec hm q,gh h.line' h.ride' hm (h.D8.trans q)]
  ·rw [lX h.line h.Ec hm q,lX h.line' h.ride' hm (by rw [h.D8]; exact q)]
 ·rw [oH h.line h.Ec hm,oH h.line' h.ride' hm]
theorem sr.EY (h:sr l r l' r' n f g):gk l' r'=gk l r:=by
 by_cases q:ed l r 0=0
 ·rw [jr q,jr (h.e.trans q),h.D8]
 ·rw [lU q,lU (by rw [h.e]; exact q)]
theorem sr.uT (h:sr l r l' r' n f g) {b:Int}:iS l' b=iS l b:=by unfold iS; rw [h.Kf]
theorem sr.bn (h:sr l r l' r' n f g):(cz l r).n=l.ab.length:=cT
theorem sr.fK (h:sr l r l' r' n f g):sZ l' r'=sZ l r:=by
 by_cases q:ed l r 0=0
 ·rw [uG q,uG (h.e.trans q),h.EY]
  have hb:=MB q
  unfold xh
  congr 1
  refine List.filter_congr fun b A=>?_
  have A:=List.mem_range.1 A
  rw [CU h.to h.P9 (by rw [h.bn]; omega)]
 ·rw [uc q,uc (by rw [h.e]; exact q)]
end
end
section
/-- a ride that passed the finish may be through -/
theorem Dq {l:bo} {r:dw} (h:db l r l.bS=0):ed l r 0=0∧eZ l r≠0:=by
 have ho:ed l r (iS l l.bS)=0:=by
  by_cases e:ed l r (iS l l.bS)=0
  ·exact e
  ·rw [(mw e).1] at h; exact absurd h e
 obtain ⟨J,K,C,L⟩:=iu ho
 have A:ed l r 0=0:=by rw [C] at ho; exact ho
 refine ⟨A,?_⟩
 obtain ⟨ht,G⟩:=ji J
 have hw:=lg ht G K
 have hl: ∀ b,0≤cd (cz l r) b:=fun b=>by
  unfold cd
  cases e:(cz l r).nj[b]? with
  |none=>simp
  |some x=>have:=hw.least x (aT e); simp; omega
 have hb:0≤l.bS∧l.bS≤(l.ab.length:Int)-1:=by
  unfold iS at C
  split at C
  ·assumption
  ·cases C
 have hn:(cz l r).n=l.ab.length:=cT
 have F:lz (cz l r) l.bS.toNat≠[]:=fun e=>by
  unfold db at h
  rw [if_pos ho,if_pos (show lj l r l.bS.toNat=l1 by unfold lj; rw [e]; rfl)] at h
  cases h
 obtain ⟨q,hq⟩:=List.exists_mem_of_ne_nil _ F
 have E:q.2.Lo≤q.2.Hi:=mN hq
 obtain ⟨p,hp,o,H,_,⟨M,O⟩,k,hk,z,hz,hm⟩:=(wN hl (w:=cz l r) (b:=l.bS.toNat) om (s:=q.1) (t:=q.2.Lo)).1 ⟨q,hq,rfl,Int.le_refl _,E⟩
 have hf:(d_ p.1 (e9 o.1),max (p.2+cd (cz l r) l.bS.toNat) o.2.Lo)∈fwd (cz l r) (l.bS.toNat+1):=eV.2 ⟨p,hp,o,H,gT.2 ⟨om,rfl⟩⟩
 obtain ⟨z',hz',AA,_⟩:=rO _ _ _ _ (max (p.2+cd (cz l r) l.bS.toNat) o.2.Lo) _ M hz
 have D:=(rm k (l.bS.toNat+1) z').2 ⟨_,hf,hz'⟩
 have B:((l.bS.toNat+1+k:Nat):Int)∈gl (cz l r):=qh.2 ⟨_,rfl,hk,by unfold jy; rw [List.any_eq_true]; exact ⟨z',D,by rw [AA]; exact hm⟩⟩
 have N:=(JS (l:=gk l r) (by rw [jr A]; exact L)).2 _ (by rw [jr A]; exact B)
 unfold eZ
 rw [if_pos A]
 split
 ·decide
 ·rw [if_neg om]; decide
def ew (l:bo) (x:dw) (o:aa):bX:=⟨l,[1,2],[0,1],0,[[⟨false,false,⟨0,0⟩,x⟩,⟨false,true,o,⟨0,0,[]⟩⟩]]⟩
section
variable {l:bo} {x:dw} {o:aa}
theorem GW (ho:fQ o) (h:db l x l.bS=0):fm (ew l x o):=by
 refine ⟨show 1≤(2:Int)∧(2:Int)≤5 by decide,show (0:Int)≤0∧(0:Int)≤5 by decide,show 1≤(1:Int)∧(1:Int)≤3 by decide,fun i y hy=>?_,show ([0,1]:List Int).Perm ((List.range 2).map fun (k:Nat)=>(k:Int)) by decide,fun z hz=>?_⟩
 ·match i with
  |0=>simp [ew] at hy; subst hy; exact ⟨dc,fun y h=>absurd h dc⟩
  |1=>simp [ew] at hy; subst hy; exact ⟨dc,fun y _ h=>by simp [ew] at h; omega⟩
  |n+2=>simp [ew] at hy
 ·simp only [ew,bw,List.not_mem_nil,or_false] at hz
  subst hz
  refine ⟨U,fun d hd=>?_⟩
  simp only [bw,List.not_mem_nil,or_false] at hd
  rcases hd with rfl|rfl
  ·rw [qx ⟨rfl,rfl⟩]; exact ⟨h,rfl⟩
  ·rw [tL ⟨rfl,rfl⟩]; exact ⟨ho,rfl,rfl,rfl⟩
theorem FW (h: ¬ db l x l.bS=0): ¬ fm (ew l x o):=fun q=>by
 have:=(q.oQ _ (bJ.2 rfl)).2 _ cq
 rw [qx ⟨rfl,rfl⟩] at this
 exact h this.1
theorem wT (hl:eU l=0) (ho:fQ o):cG (ew l x o)=if db l x l.bS=0 then 0 else 60:=by
 unfold cG
 rw [if_pos (show eU (ew l x o).ar=0 from hl)]
 by_cases h:db l x l.bS=0
 ·rw [if_pos (GW ho h),if_pos h]
 ·rw [if_neg (FW h),if_neg h]
theorem z3 (hl:eU l=0) (ho:fQ o) (h:db l x l.bS=0):kb (ew l x o) 0 0=0∧fy (ew l x o) 0 0=qn l x:=by
 have he:cG (ew l x o)=0:=by rw [wT hl ho,if_pos h]
 have e:kb (ew l x o) 0 0=0:=by unfold kb; rw [if_pos he,if_pos ⟨show (0:Int)≤0∧(0:Int)≤(1:Int)-1 by decide,show (0:Int)≤0∧(0:Int)≤(2:Int)-1 by decide⟩]; rfl
 refine ⟨e,?_⟩
 unfold fy
 rw [if_pos e]
 show dA l ⟨false,false,⟨0,0⟩,x⟩=_
 exact qy ⟨U,U⟩
theorem tU:ay (ew l x o)=[(0,⟨(qn l x).Lo/10,(qn l x).Hi/10⟩),(1,⟨o.Lo/10,o.Hi/10⟩)]:=by
 have A:dA l ⟨false,false,⟨0,0⟩,x⟩=qn l x:=qy ⟨rfl,rfl⟩
 have B:dA l ⟨false,true,o,⟨0,0,[]⟩⟩=o:=wE ⟨rfl,rfl⟩
 simp [ay,dV,ew,List.range_succ,fF,A,B]
theorem CZ (hl:eU l=0) (ho:fQ o) (h:db l x l.bS=0):lk (ew l x o) 0 1=0∧qt (ew l x o) 0 1=if (qn l x).Hi/10<o.Lo/10 then 2 else if (qn l x).Lo/10<o.Hi/10 then 1 else 0:=by
 have he:cG (ew l x o)=0:=by rw [wT hl ho,if_pos h]
 have e:lk (ew l x o) 0 1=0:=by
  unfold lk
  rw [if_pos he,tU]
  simp [q8,ew,List.lookup]
 refine ⟨e,?_⟩
 unfold qt
 rw [if_pos e,tU]
 rfl
end
end
section
open Go.RowKit
section
variable {C:List aq} {l:bo} {x:dw} {o:aa} {hA xA:Option Addr} {hC xC:Nat} {az:List RA}
def BW (x:dw) (o:aa):List aw:=[⟨false,false,⟨0,0⟩,x⟩,⟨false,true,o,⟨0,0,[]⟩⟩]
def px (hA:OA) (hC:Nat) (xA:OA) (xC:Nat):List cL:=[((hA,hC),[(xA,xC),(none,0)])]
theorem re (h1:ju C (rd hA 2 7 (List.zipWith aw.cells (BW x o) [(xA,xC),(none,0)])).holds) (h2:ju C (rd xA x.aj.length 2 (x.aj.map aH.cells)).holds):ju C (eY (aX jk (ew l x o).aB (px hA hC xA xC))).holds:=fun w hw X hX=>by
 have e:aX jk (ew l x o).aB (px hA hC xA xC)=[rd hA 2 7 (List.zipWith aw.cells (BW x o) [(xA,xC),(none,0)]),rd xA x.aj.length 2 (x.aj.map aH.cells),rd none 0 2 []]:=rfl
 rw [e] at hX
 simp only [bw,List.not_mem_nil,or_false] at hX
 rcases hX with rfl|rfl|rfl
 ·exact h1 w hw
 ·exact h2 w hw
 ·exact K9 none 2 w hw
theorem Hx (h:eA l az) (hs:x.aj.length≤1000000):eF (ew l x o) az (px hA hC xA xC):=⟨h,by show (2:Nat)≤1000000; decide,by show (2:Nat)≤12; decide,by show (1:Nat)≤1000000; decide,rfl,fun k y a hy ha=>by
 match k with
 |0=>
  simp [ew,px] at hy ha
  subst hy ha
  refine ⟨by show (2:Nat)≤1000000; decide,U,fun d hd=>?_⟩
  simp only [bw,List.not_mem_nil,or_false] at hd
  rcases hd with rfl|rfl
  ·exact hs
  ·show (0:Nat)≤1000000; decide
 |n+1=>simp [ew] at hy⟩
end
end
section
open Go.RowKit
/-- what is known of the slots B is known in L -/
def IN (B L:cY):Prop:= ∀ t v,B.lookup t=some v→L.lookup t=some v
theorem Jr {B L:cY} (h:B.map (fun p=>L.lookup p.1)=B.map (fun p=>some p.2)):IN B L:=by
 induction B with
 |nil=>intro t v h; simp at h
 |cons p B ih=>
  obtain ⟨k,u⟩:=p
  simp only [List.map_cons,List.cons.injEq] at h
  intro t v hl
  by_cases e:t=k
  ·subst e
   simp only [List.lookup,beq_self_eq_true,Option.some.injEq] at hl
   rw [h.1,hl]
  ·have:(t==k)=false:=by simpa using e
   simp only [List.lookup,this] at hl
   exact ih h.2 t v hl
theorem Bl {L Y:cY} {t:Nat}:(L++Y).lookup t=match L.lookup t with |some v=>some v|none=>Y.lookup t:=by
 induction L with
 |nil=>rfl
 |cons p L ih=>
  obtain ⟨k,u⟩:=p
  by_cases e:t==k
  ·simp [List.lookup,e]
  ·have:(t==k)=false:=by simpa using e
   simp only [List.cons_append,List.lookup,this,ih]
theorem IN.app {B L Y:cY} (h:IN B L):IN B (L++Y):=fun t v ht=>by rw [Bl,h t v ht]
section
variable (E:eD) (ops:Array Oper) (D:List Deferred) (C':List aq) (K0:Act→World→Prop) (B:List (Nat×Value)) (dO:Nat→Nat) (VO:Nat→Nat→Value) (AO:Nat→Nat→aq)
end
section
variable {E:eD} {ops:Array Oper} {D:List Deferred} {C' C1:List aq} {K0:Act→World→Prop} {B:List (Nat×Value)} {dO:Nat→Nat} {VO:Nat→Nat→Value} {AO:Nat→Nat→aq}
theorem Is {Q:cP} {rest:List Oper} {L L2:cY} {C C2:List aq} (hL: ∀ a,Fr E.n D L a→Fr E.n D L2 a) (hC: ∀ w,St E.S E.w0 C w→St E.S E.w0 C2 w) (h:RJ E ops Q rest D L2 C2):RJ E ops Q rest D L C:=fun a w hf hs=>h a w (hL a hf) (hC w hs)
theorem Jc {K:Act→World→Prop} {L L2:cY} {C C2:List aq} (hL: ∀ a,Fr E.n D L a→Fr E.n D L2 a) (hC: ∀ w,St E.S E.w0 C w→St E.S E.w0 C2 w) (h:KJ E K D L2 C2):KJ E K D L C:=fun a w hf hs=>h a w (hL a hf) (hC w hs)
theorem N9 {n:Nat} {L L2:cY} (h: ∀ t v,L2.lookup t=some v→L.lookup t=some v) (a:Act) (hf:Fr n D L a):Fr n D L2 a:=⟨hf.defers,hf.size,fun t v ht=>hf.at_ t v (h t v ht)⟩
end
section
variable {E:eD} {ops:Array Oper} {D:List Deferred} {B:List (Nat×Value)} {dO:Nat→Nat} {VO:Nat→Nat→Value} {AO:Nat→Nat→aq}
variable {d:Nat} {ty:TypeId} {ps:String} {af:Array Edge}
end
section
variable {E:eD} {ops:Array Oper} {D:List Deferred} {C':List aq} {K0:Act→World→Prop} {B:List (Nat×Value)} {dO:Nat→Nat} {VO:Nat→Nat→Value} {AO:Nat→Nat→aq}
end
end
section
open Go.RowKit
section
variable {E:eD} {ops:Array Oper} {D:List Deferred} {C' C1:List aq} {tb:List Nat}
theorem tw {V:Type} {F:cY→List aq→Prop} (P:V→Prop) (fL:V→cY) (fC:V→List aq) (n:Nat) (rest:List Nat) {m:Nat} {rem:List Nat} {L:cY} {C:List aq} (h1:(∀ v,P v→TN E ops D C' C1 F tb n rest (fL v) (fC v))→TN E ops D C' C1 F tb m rem L C) (h2: ∀ v,P v→TN E ops D C' C1 F tb n rest (fL v) (fC v)):TN E ops D C' C1 F tb m rem L C:=h1 h2
theorem gn {F:cY→List aq→Prop} {rem':List Nat} {n i:Nat} {L:cY} {C:List aq} {o:Oper} (ho:ops[i]? =some o)
 (h: ∀ K:Act→World→Prop,(∀ L' C'',(∀ w,St E.S E.w0 C'' w→St E.S E.w0 C' w)→TN E ops D C' C1 F tb n rem' L' C''→KJ E K D L' C'')→RJ E ops (NQ K) [o] D L C) (hm:((i::rem').filter fun k=>(i::rem').all fun j=> !gU (pa ops) j k)=[i]:=by kernel_rfl) (hr:(i::rem').filter (· != i)=rem':=by kernel_rfl) (ht:tb.contains i=false:=by rfl):TN E ops D C' C1 F tb (n+1) (i::rem') L C:=
 g6 [i] hm (dW (gL ho hr ht h) jG)
theorem KC {K0:Act→World→Prop} {n:Nat} {rem:List Nat} {L L2:cY} {C C2:List aq} (hL: ∀ a,Fr E.n D L a→Fr E.n D L2 a) (hC: ∀ w,St E.S E.w0 C w→St E.S E.w0 C2 w) (h:TN E ops D C' C1 (fun L C=>KJ E K0 D L C) tb n rem L2 C2):TN E ops D C' C1 (fun L C=>KJ E K0 D L C) tb n rem L C:=by
 cases n with
 |zero=>exact Jc hL hC h
 |succ n=>exact fun i hi o ho K hK=>Is hL hC (h i hi o ho K hK)
theorem jg {V:Type} {P:V→Prop} {fL:V→cY} {fC:V→List aq} {K0:Act→World→Prop} {n:Nat} {rem rest:List Nat} {L:cY} {C:List aq} (hJ: ∀ v,P v→TN E ops D C' C1 (fun L C=>KJ E K0 D L C) tb n rest (fL v) (fC v)) (v:V) (hp:P v) (ix:List Nat) (hL:(fL v).map (fun p=>L.lookup p.1)=(fL v).map (fun p=>some p.2)) (hn:decide ix.Nodup=true) (hC:kK C ix=some (fC v)) (hr:rem=rest:=by kernel_rfl):TN E ops D C' C1 (fun L C=>KJ E K0 D L C) tb n rem L C:=hr▸
 KC (fun a hf=>N9 (Jr hL) a hf) (fun w hs=>St.kB _ hn (iR hC) hs) (hJ v hp)
end
theorem Hd {E:eD} {id:Nat} {ops:Array Oper} {Q:cP} {D:gj} {L:cY} {C:List aq} (hm:E.P.follows .mixedOrders=true) (T i1:List Nat) {C':List aq} {free:List Nat} {F2:List Bool} (h1:kK C i1=some C') (hf:free=Nt ops.size T) (hfe:F2=PC free.length [])
 (h:oh E ops D C' [] (fun L'=>TN E ops D C' [] (fun L C=>KJ E (Q .normal) D L C) [] T.length T L' C) F2 (ef ops free) L) (hc:BP ops free T F2 []=true:=by kernel_rfl) (n1:decide i1.Nodup=true:=by rfl):WJ E (.region id ops true) Q D L C:=
 pj hm free T F2 [] C' [] hc (JD i1 h1 n1) (JD [] rfl rfl) h
section
end
end
section
theorem lM.more {l:bo} {az:List RA} {fa fi fk ms:Int} (h:lM l az):lM ⟨l.aN,fa,l.ak,l.ab,fi,fk,ms⟩ az:=by cases h; constructor<;>assumption
theorem eA.more {l:bo} {az:List RA} {fa fi fk ms:Int} (h:eA l az):eA ⟨l.aN,fa,l.ak,l.ab,fi,fk,ms⟩ az:=by cases h; constructor<;>assumption
end
section
open Go.RowKit
theorem nx (n lo hi:Int):
 dR Tryz.prog 89 [(vI n),(vI lo),(vI hi)] [] (vB (decide (lo≤n∧n≤hi))):=by
 refine bE kr Tryz.func89 U U fun D Q hQ hN=>?_
 try dsimp only
 refine WS fun _ B=>bh 1 U<|RK B<|WS fun _ A=>rP 4 [] I ?_
 refine cK (t:=10) U (aQ fun C=>?_) (aR fun C=>?_)
 ·refine rP 5 [] I ?_
  refine RK A<|ao<|Q1 hQ U U U ?_
  exact cB (gd.2 om)
 refine rP 5 [] I ?_
 refine RK A<|ao<|Q1 hQ U U U ?_
 exact cB (cm om).symm
theorem nI (s:aa) (lo hi:Int):
 dR Tryz.prog 90 [(vA (aa.cells s)),(vI lo),(vI hi)] [] (vB (decide (s.Lo≤s.Hi∧lo≤s.Lo∧s.Hi≤hi))):=by
 refine bE kr Tryz.func90 U U fun E Q hQ hN=>?_
 try dsimp only
 refine WS fun _ B=>fY U fun D=>bh 1 U<|RK B<|WS fun _ A=>fr 5 [] (mc 0 U I) U<|rS (CL (nx s.Lo lo s.Hi) (aD) U)<|rP 1 [] I ?_
 refine cb (t:=13) U (aR fun C=>?_) (aQ fun C=>?_)
 ·refine rP 6 [] I ?_
  refine RK A<|ao<|Q1 hQ U U U ?_
  exact cB (cm om).symm
 refine rP 6 [] (mc 0 U I) ?_
 refine RK A<|ao<|Q1 hQ U U U ?_
 exact cB (gd.2 om)
theorem IT (t:List ai) (tA:OA) (tC:Nat):
 dR Tryz.prog 55 [(vA (bD.cells (bD.mk (bk.mk tA t.length tC))))] [(rd tA t.length 9 (t.map ai.cells))] (vB (decide (20<(t.length:Int)))):=by
 refine bE kr Tryz.func55 U U fun D Q hQ hN=>?_
 try dsimp only
 refine WS fun _ A=>fY U fun C=>bh 1 U<|RK A<|WS fun _ B=>rP 5 [] (mc 0 U I) ?_
 refine RK B<|ao ?_
 exact Q1 hQ U U U U
theorem Iu (l:List Int) (lA:OA) (lC:Nat) (f:Value) (p:Int→Bool) (X:aq) (hf: ∀ x0,x0∈l→Ai Tryz.prog f [.int .i64 x0] [X] (.bool (p x0))) (hlen:l.length≤1000000):
 dR Tryz.prog 115 [(vS lA l.length lC),f] [(rd lA l.length 1 (l.map iC)),X] (vI (qk p l)):=by
 refine bE kr Tryz.func115 U U fun R Q hQ hN=>?_
 try dsimp only
 refine WS fun _ G=>bh 1 U<|RK G<|ah fun _ H=>WS fun _ AA=>rP 3 [] I ?_
 refine RK AA<|aA ?_
 have B:(0≤l.length)∧((l.take 0).any p=false):=by simp
 refine bR (ι:={z:Nat // (z≤l.length)∧((l.take z).any p=false)}) [0,1,7] [0,1] U U (fun z=>[(8,(vI (z.1:Int)))]) (fun z=>[]) (fun _=>rfl) (fun _=>rfl) (fun z=>l.length-z.1) ⟨0,B⟩ (aW U) (aK [0,1]) ?_
 clear B
 rintro ⟨i,⟨N,A⟩⟩ J4 F
 try dsimp only
 refine WS fun _ J=>rP 1 [] I ?_
 refine RK J<|ah fun _ K=>bT U (aR fun P=>?_) (aQ fun P=>?_)
 ·refine bI<|ae<|ae<|aC<|KK H<|WS fun _ E=>rP 1 [] I ?_
  refine RK E<|ao<|Q1 hQ U U U ?_
  exact cI (p7 om A).symm
 refine WK K<|ah fun _ L=>aA<|WS fun _ M=>bh 2 U<|RK M<|WS fun _ C=>rP 3 [] I ?_
 obtain ⟨x,hx⟩:=aM l i om
 have O:=bW iC hx
 refine rS (IA i U (aJ 0 U) cy dc om om)<|rS (g_ i 0 (vI x) U ct (aJ 0 U) O U dc U)<|rS (SX (p6 U U U (hf x (aT hx)) (a_ [1])) U U)<|RK C<|cM U (fun hp=>?_) (fun hp=>?_)
 ·refine WS fun _ D=>rP 2 [] I ?_
  refine RK D<|ao<|Q1 hQ U U U ?_
  exact cI (tu hx hp A).symm
 refine cr<|aF<|KK L<|an<|rP 2 [] I ?_
 refine aG ?_
 refine bg (F ⟨(i+1),⟨om,uI hx A hp⟩⟩ _ _ _ U os (aW U) (aK [0,1]))
theorem pR (l:List Int) (lA:OA) (lC:Nat) (f:Value) (p:Int→Bool) (X:aq) (hf: ∀ x0,x0∈l→Ai Tryz.prog f [.int .i64 x0] [X] (.bool (p x0))) (hlen:l.length≤1000000):
 dR Tryz.prog 76 [(vS lA l.length lC),f] [(rd lA l.length 1 (l.map iC)),X] (vB (l.any p)):=by
 refine bE kr Tryz.func76 U U fun C Q hQ hN=>?_
 try dsimp only
 refine WS fun _ A=>bh 1 U<|RK A<|WS fun _ B=>bh 2 U<|rS (CL (Iu l lA lC f p X (by exact hf) hlen) (a_ [0,1]) U)<|rP 2 [] I ?_
 refine RK B<|ao<|Q1 hQ U U U ?_
 exact cB qZ
theorem DH (n lo hi:Int) (g1 g2:Nat):
 dR Tryz.prog 179 [(vI n),(vP g1),(vP g2)] [(bQ g1 3 [(vI lo)]),(bQ g2 3 [(vI hi)])] (vB (decide (n<lo∨hi<n))):=by
 refine bE kr Tryz.func179 U U fun D Q hQ hN=>?_
 try dsimp only
 refine WS fun _ B=>bh 1 U<|RK B<|WS fun _ A=>rP 4 [] (mr 0 U I) ?_
 refine cK (t:=8) U (aQ fun C=>?_) (aR fun C=>?_)
 ·refine rP 5 [] I ?_
  refine RK A<|ao<|Q1 hQ U U U ?_
  exact cB (dB om).symm
 refine rP 5 [] (mr 1 U I) ?_
 refine RK A<|ao<|Q1 hQ U U U ?_
 exact cB (gd.2 om)
theorem nD (lo hi:Int) (l:List Int) (lA:OA) (lC:Nat) (hlen:l.length≤1000000):
 dR Tryz.prog 151 [(vI lo),(vI hi),(vS lA l.length lC)] [(rd lA l.length 1 (l.map iC))] (vB (n7 lo hi l)):=by
 refine bE kr Tryz.func151 U U fun F Q hQ hN=>?_
 try dsimp only
 refine WS fun _ D=>qM U U fun A=>qM U U fun B=>bh 1 U<|RK D<|WS fun _ E=>rP 1 [] I ?_
 refine rS (FU U) ?_
 refine rS (CL (pR l lA lC (Value.func (.func 179) [].toArray [(vP A),(vP B)].toArray) (fun C=>(decide (C<lo∨hi<C))) (eY [(bQ A 3 [(vI lo)]),(bQ B 3 [(vI hi)])]) (by intro C _; exact l_ (fi:=[]) (ca:=[(vP A),(vP B)]) (kN (DH C lo hi A B) (a_ [0,1]))) hlen) (eL 2 U U<|al (kR (a_ [1,0]))<|aD) U) ?_
 refine rP 2 [] I ?_
 refine RK E<|ao ?_
 exact Q1 hQ U U U U
theorem sX (s:aa) (lo hi:Int):
 dR Tryz.prog 152 [(vA (aa.cells s)),(vI lo),(vI hi)] [] (vB (decide (s.Lo≤s.Hi∧lo≤s.Lo∧s.Hi≤hi))):=by
 refine bE kr Tryz.func152 U U fun F Q hQ hN=>?_
 try dsimp only
 refine WS fun _ B=>fY U fun E=>bh 1 U<|RK B<|WS fun _ A=>rP 6 [] (mc 0 U I) ?_
 refine cH (xs:=[.tmp 10,.tmp 12]) (cs:=[(vI s.Lo),(vI s.Hi)]) U cy hE U U U U (by simp [Value.cells]) U U fun C=>?_
 refine rS (CL (dR.eq (nD lo hi ([s.Lo,s.Hi]) (some ⟨C,0,none⟩) 2 (by (simp; done))) pn) (al (aV 0 U U (by simp [bu]) U)<|aD) U) ?_
 refine rP 1 [] I ?_
 refine cb (t:=15) U (aR fun D=>?_) (aQ fun D=>?_)
 ·refine rP 7 [] I ?_
  refine RK A<|ao<|Q1 hQ U U U ?_
  exact cB (cm om).symm
 refine rP 7 [] (mc 1 U I) ?_
 refine RK A<|ao<|Q1 hQ U U U ?_
 exact cB (gd.2 om)
theorem sR (ts:List ai) (tsA:OA) (tsC:Nat) (hlen:ts.length≤1000000):
 dR Tryz.prog 56 [(vA (bD.cells (bD.mk (bk.mk tsA ts.length tsC))))] [(rd tsA ts.length 9 (ts.map ai.cells))] (vB (cO ts)):=by
 refine bE kr Tryz.func56 U U fun w0 Q hQ hN=>?_
 try dsimp only
 refine WS fun _ Di=>fY U fun b2=>bh 1 U<|RK Di<|ah fun _ Do=>WS fun _ D8=>fr 3 [] (mc 0 U I) U<|rS (CL (nx (ts.length:Int) 1 12) (aD) U)<|rP 1 [] I ?_
 refine RK D8<|cM U (bq fun h5=>?_) (bp fun h5=>?_)
 ·refine WS fun _ EQ=>rP 1 [] I ?_
  refine RK EQ<|ao<|Q1 hQ U U U ?_
  exact cB (mT om).symm
 refine WK Do<|ah fun _ EY=>WS fun _ Ec=>rP 1 [] I ?_
 refine RK Ec<|aA ?_
 have E:(0≤ts.length)∧(ej (-1) ts=ej (fj ts 0) (ts.drop 0))∧(-1≤fj ts 0):=by (refine ⟨om,rfl,by simp [fj]⟩)
 refine bR (ι:={z:Nat // (z≤ts.length)∧(ej (-1) ts=ej (fj ts z) (ts.drop z))∧(-1≤fj ts z)}) [1] [0,1] U U (fun z=>[(3,(vI (z.1:Int)))]) (fun z=>[]) (fun _=>rfl) (fun _=>rfl) (fun z=>ts.length-z.1) ⟨0,E⟩ (aW U) (aK [0,1]) ?_
 clear E
 rintro ⟨i,⟨Eq,A,Ey⟩⟩ J9 D
 try dsimp only
 have hz:i=0→fj ts i= -1:=za
 refine ah fun _ K=>WS fun _ L=>rP 5 [] (mc 0 U I) ?_
 refine RK L<|bT U (aR fun v=>?_) (aQ fun v=>?_)
 ·refine bI<|ae<|ae<|aC<|KK EY<|WS fun _ u=>rP 1 [] I ?_
  refine RK u<|ao<|Q1 hQ U U U ?_
  exact cB (rM A om om).symm
 refine WK K<|ah fun _ C=>aA<|WS fun _ M=>rP 3 [] (mc 0 U I) ?_
 obtain ⟨x,hx⟩:=aM ts i om
 have FS:=bW ai.cells hx
 refine rS (IA i U (aJ 1 U) uU dc om om)<|rS (n9 i 0 (ai.cells x) U ct (aJ 1 U) FS U dc U U)<|AL U Cb fun Fd=>fG U FB U<|RK M<|ah fun _ F=>ah fun _ B=>dF cE 38 kr<|mQ 2 [] (mc 0 U I) U<|dS (CL (nx x.Id 0 9999) (aD) U)<|dP 2 [] I ?_
 refine iY (t:=26) U (bq fun w=>?_) (bp fun w=>?_)
 ·refine lQ 11 U<|lQ 22 U<|cQ<|RK B<|aL U<|WS fun _ N=>rP 1 [] I ?_
  refine RK N<|ao<|Q1 hQ U U U ?_
  exact cB (dj A hx (by simp only [bH,dp]; omega)).symm
 refine dP 3 [] I ?_
 refine jL (t:=29) U (aR fun AC=>?_) (aQ fun AC=>?_)
 ·refine lQ 8 U<|lQ 6 U<|dS (LP (aa.cells x.jH) 0 U ct U U U)<|dS (CL (nI x.jH 1 30000) (aD) U)<|dP 3 [] I ?_
  refine iY (t:=48) U (bq fun B7=>?_) (bp fun B7=>?_)
  ·refine lQ 11 U<|cQ<|RK B<|aL U<|WS fun _ e=>rP 1 [] I ?_
   refine RK e<|ao<|Q1 hQ U U U ?_
   exact cB (dj A hx (by simp only [bH,dp]; omega)).symm
  refine lQ 1 U<|dS (LP (aa.cells x.kx) 0 U ct U U U)<|dS (CL (nI x.kx 0 5000) (aD) U)<|dP 3 [] I ?_
  refine iY (t:=54) U (bq fun B9=>?_) (bp fun B9=>?_)
  ·refine lQ 5 U<|cQ<|RK B<|aL U<|WS fun _ f=>rP 1 [] I ?_
   refine RK f<|ao<|Q1 hQ U U U ?_
   exact cB (dj A hx (by simp only [bH,dp]; omega)).symm
  refine mQ 2 [] (mc 0 U I) U<|dS (CL (nx x.xn 0 5000) (aD) U)<|dP 2 [] I ?_
  refine cQ<|RK B<|cM U (bq fun Ci=>?_) (bp fun Ci=>?_)
  ·refine WS fun _ g=>rP 1 [] I ?_
   refine RK g<|ao<|Q1 hQ U U U ?_
   exact cB (dj A hx (by simp only [bH,dp]; omega)).symm
  refine WK F<|WS fun _ h=>fr 2 [] (mc 0 U I) U<|RK h<|aA<|WS fun _ j=>rS (BI U jX)<|rP 1 [] I ?_
  refine RK j<|cM U (aQ fun Ck=>?_) (aR fun Ck=>?_)
  ·refine WS fun _ AB=>rP 5 [] (mc 0 U I) ?_
   refine cK (t:=68) U (bq fun Cp=>?_) (bp fun Cp=>?_)
   ·refine bh 5 U<|RK AB<|aL U<|WS fun _ k=>rP 1 [] I ?_
    refine RK k<|ao<|Q1 hQ U U U ?_
    exact cB (dj A hx (by simp only [bH,dp]; omega)).symm
   refine rP 5 [] (mc 0 U I) ?_
   refine RK AB<|bT U (bp fun Cu=>?_) (bq fun Cu=>?_)
   ·refine cr<|aF<|aF<|KK C<|an<|rP 3 [] I ?_
    refine aG ?_
    refine bg (D ⟨(i+1),⟨om,fR A hx (by simp only [bH,dp]; omega),by rw [fc hx]; omega⟩⟩ _ _ _ U os (aW U) (aK [1,2]))
   refine WS fun _ l=>rP 1 [] I ?_
   refine RK l<|ao<|Q1 hQ U U U ?_
   exact cB (dj A hx (by simp only [bH,dp]; omega)).symm
  refine ah fun _ J=>WS fun _ m=>rS (BI U jX)<|rP 1 [] I ?_
  refine RK m<|cM U (aQ fun Cx=>?_) (aR fun Cx=>?_)
  ·refine WK J<|bT U (aR fun C0=>?_) (aQ fun C0=>?_)
   ·refine WS fun _ p=>rP 1 [] I ?_
    refine RK p<|ao<|Q1 hQ U U U ?_
    exact cB (mT om).symm
   refine WS fun _ n=>bh 1 U<|rS (LP (aa.cells x.dU) 0 U ct U U U)<|rS (CL (nI x.dU 500 20000) (aD) U)<|rP 1 [] I ?_
   refine RK n<|bT U (bp fun C1=>?_) (bq fun C1=>?_)
   ·refine cr<|aF<|aF<|KK C<|an<|rP 3 [] I ?_
    refine aG ?_
    refine bg (D ⟨(i+1),⟨om,fR A hx (by simp only [bH,dp]; omega),by rw [fc hx]; omega⟩⟩ _ _ _ U os (aW U) (aK [1,2]))
   refine WS fun _ o=>rP 1 [] I ?_
   refine RK o<|ao<|Q1 hQ U U U ?_
   exact cB (dj A hx (by simp only [bH,dp]; omega)).symm
  refine an<|rS (BI U jX)<|rP 1 [] I ?_
  refine RK J<|bT U (aR fun C2=>?_) (aQ fun C2=>?_)
  ·refine WS fun _ s=>rP 1 [] I ?_
   refine RK s<|ao<|Q1 hQ U U U ?_
   exact cB (dj A hx (by simp only [bH,dp]; omega)).symm
  refine WS fun _ q=>bh 1 U<|rS (LP (aa.cells x.dU) 0 U ct U U U)<|rS (CL (nI x.dU 500 20000) (aD) U)<|rP 1 [] I ?_
  refine RK q<|bT U (bp fun DU=>?_) (bq fun DU=>?_)
  ·refine cr<|aF<|aF<|KK C<|an<|rP 3 [] I ?_
   refine aG ?_
   refine bg (D ⟨(i+1),⟨om,fR A hx (by simp only [bH,dp]; omega),by rw [fc hx]; omega⟩⟩ _ _ _ U os (aW U) (aK [1,2]))
  refine WS fun _ r=>rP 1 [] I ?_
  refine RK r<|ao<|Q1 hQ U U U ?_
  exact cB (dj A hx (by simp only [bH,dp]; omega)).symm
 refine dP 6 [0,1] (mc 0 U (mc 1 U I)) ?_
 obtain ⟨y,hy⟩:=aM ts (i-1) om
 have Fa:=bW ai.cells hy
 refine dS (IA (i-1) U (aJ 2 U) uU dc om om)<|dS (pt ((i-1)*9) U (aJ 2 U) (Nat.mul_pos om dc) fB U) ?_
 have F2:=AS om hy
 refine dS (g_ (i-1) 0 (vI y.Id) U ct (aJ 2 U) Fa U dc U)<|dP 4 [] I ?_
 refine iY (t:=42) U (aQ fun AO=>?_) (aR fun AO=>?_)
 ·refine lQ 17 U<|cQ<|RK B<|aL U<|WS fun _ O=>rP 1 [] I ?_
  refine RK O<|ao<|Q1 hQ U U U ?_
  exact cB (dj A hx (by simp only [bH,dp]; omega)).symm
 refine lQ 1 U<|dS (LP (aa.cells x.jH) 0 U ct U U U)<|dS (CL (nI x.jH 1 30000) (aD) U)<|dP 3 [] I ?_
 refine iY (t:=48) U (bq fun A0=>?_) (bp fun A0=>?_)
 ·refine lQ 11 U<|cQ<|RK B<|aL U<|WS fun _ P=>rP 1 [] I ?_
  refine RK P<|ao<|Q1 hQ U U U ?_
  exact cB (dj A hx (by simp only [bH,dp]; omega)).symm
 refine lQ 1 U<|dS (LP (aa.cells x.kx) 0 U ct U U U)<|dS (CL (nI x.kx 0 5000) (aD) U)<|dP 3 [] I ?_
 refine iY (t:=54) U (bq fun A1=>?_) (bp fun A1=>?_)
 ·refine lQ 5 U<|cQ<|RK B<|aL U<|WS fun _ R=>rP 1 [] I ?_
  refine RK R<|ao<|Q1 hQ U U U ?_
  exact cB (dj A hx (by simp only [bH,dp]; omega)).symm
 refine mQ 2 [] (mc 0 U I) U<|dS (CL (nx x.xn 0 5000) (aD) U)<|dP 2 [] I ?_
 refine cQ<|RK B<|cM U (bq fun A2=>?_) (bp fun A2=>?_)
 ·refine WS fun _ S=>rP 1 [] I ?_
  refine RK S<|ao<|Q1 hQ U U U ?_
  exact cB (dj A hx (by simp only [bH,dp]; omega)).symm
 refine WK F<|WS fun _ T=>fr 2 [] (mc 0 U I) U<|RK T<|aA<|WS fun _ AA=>rS (BI U jX)<|rP 1 [] I ?_
 refine RK AA<|cM U (aQ fun A3=>?_) (aR fun A3=>?_)
 ·refine WS fun _ G=>rP 5 [] (mc 0 U I) ?_
  refine cK (t:=68) U (bq fun A4=>?_) (bp fun A4=>?_)
  ·refine bh 5 U<|RK G<|aL U<|WS fun _ V=>rP 1 [] I ?_
   refine RK V<|ao<|Q1 hQ U U U ?_
   exact cB (dj A hx (by simp only [bH,dp]; omega)).symm
  refine rP 5 [] (mc 0 U I) ?_
  refine RK G<|bT U (bp fun A5=>?_) (bq fun A5=>?_)
  ·refine cr<|aF<|aF<|KK C<|an<|rP 3 [] I ?_
   refine aG ?_
   refine bg (D ⟨(i+1),⟨om,fR A hx (by simp only [bH,dp]; omega),by rw [fc hx]; omega⟩⟩ _ _ _ U os (aW U) (aK [1,2]))
  refine WS fun _ W=>rP 1 [] I ?_
  refine RK W<|ao<|Q1 hQ U U U ?_
  exact cB (dj A hx (by simp only [bH,dp]; omega)).symm
 refine ah fun _ H=>WS fun _ X=>rS (BI U jX)<|rP 1 [] I ?_
 refine RK X<|cM U (aQ fun A6=>?_) (aR fun A6=>?_)
 ·refine WK H<|bT U (aR fun A7=>?_) (aQ fun A7=>?_)
  ·refine WS fun _ a=>rP 1 [] I ?_
   refine RK a<|ao<|Q1 hQ U U U ?_
   exact cB (mT om).symm
  refine WS fun _ Y=>bh 1 U<|rS (LP (aa.cells x.dU) 0 U ct U U U)<|rS (CL (nI x.dU 500 20000) (aD) U)<|rP 1 [] I ?_
  refine RK Y<|bT U (bp fun A8=>?_) (bq fun A8=>?_)
  ·refine cr<|aF<|aF<|KK C<|an<|rP 3 [] I ?_
   refine aG ?_
   refine bg (D ⟨(i+1),⟨om,fR A hx (by simp only [bH,dp]; omega),by rw [fc hx]; omega⟩⟩ _ _ _ U os (aW U) (aK [1,2]))
  refine WS fun _ Z=>rP 1 [] I ?_
  refine RK Z<|ao<|Q1 hQ U U U ?_
  exact cB (dj A hx (by simp only [bH,dp]; omega)).symm
 refine an<|rS (BI U jX)<|rP 1 [] I ?_
 refine RK H<|bT U (aR fun A9=>?_) (aQ fun A9=>?_)
 ·refine WS fun _ d=>rP 1 [] I ?_
  refine RK d<|ao<|Q1 hQ U U U ?_
  exact cB (dj A hx (by simp only [bH,dp]; omega)).symm
 refine WS fun _ b=>bh 1 U<|rS (LP (aa.cells x.dU) 0 U ct U U U)<|rS (CL (nI x.dU 500 20000) (aD) U)<|rP 1 [] I ?_
 refine RK b<|bT U (bp fun B3=>?_) (bq fun B3=>?_)
 ·refine cr<|aF<|aF<|KK C<|an<|rP 3 [] I ?_
  refine aG ?_
  refine bg (D ⟨(i+1),⟨om,fR A hx (by simp only [bH,dp]; omega),by rw [fc hx]; omega⟩⟩ _ _ _ U os (aW U) (aK [1,2]))
 refine WS fun _ c=>rP 1 [] I ?_
 refine RK c<|ao<|Q1 hQ U U U ?_
 exact cB (dj A hx (by simp only [bH,dp]; omega)).symm
theorem yZ (ts:List ai) (tsA:OA) (tsC:Nat) (hlen:ts.length≤1000000) (hside: ∀ x∈ts,0≤x.ir∧x.ir≤255):
 dR Tryz.prog 110 [(vA (bD.cells (bD.mk (bk.mk tsA ts.length tsC))))] [(rd tsA ts.length 9 (ts.map ai.cells))] (vI (if cO ts=true then 0 else 10)):=by
 refine bE kr Tryz.func110 U U fun w0 Q hQ hN=>?_
 try dsimp only
 refine WS fun _ v=>fY U fun b2=>bh 1 U<|RK v<|xf U<|ah fun _ w=>WS fun _ y=>rP 3 [] (mc 0 U I) ?_
 refine cH (xs:=[.tmp 11]) (cs:=[(vI (ts.length:Int))]) U cy hE U U U U (by simp [Value.cells]) U U fun b5=>?_
 refine rS (CL (dR.eq (nD 1 12 ([(ts.length:Int)]) (some ⟨b5,0,none⟩) 1 (by (simp; done))) cp) (al (aV 0 U U (by simp [bu]) U)<|aD) U) ?_
 refine rP 1 [] I ?_
 refine RK y<|cM U (bq fun h6=>?_) (bp fun h6=>?_)
 ·refine WS fun _ AC=>rP 1 [] I ?_
  refine RK AC<|ao<|Q1 hQ U U U ?_
  exact cI (if_neg (by rw [mT om]; decide)).symm
 refine WK w<|WS fun _ AO=>bh 1 U<|RK AO<|WS fun _ A0=>bh 1 U<|RK A0<|ah fun _ J=>wG<|KK J<|ah fun _ B=>WS fun _ K=>rP 4 [] (mc 1 U I) ?_
 refine RK K<|aA ?_
 have D:(0≤ts.length)∧(ej (-1) ts=ej (fj ts 0) (ts.drop 0))∧(-1≤fj ts 0)∧(fj ts 0≤9999):=by (refine ⟨om,rfl,by simp [fj],by simp [fj]⟩)
 refine bR (ι:={z:Nat // (z≤ts.length)∧(ej (-1) ts=ej (fj ts z) (ts.drop z))∧(-1≤fj ts z)∧(fj ts z≤9999)}) [1,4,16,17] [1,2] U U (fun z=>[(3,(vI (fj ts z.1))),(18,(vI (z.1:Int)))]) (fun z=>[]) (fun _=>rfl) (fun _=>rfl) (fun z=>ts.length-z.1) ⟨0,D⟩ (aW U) (aK [1,2]) ?_
 clear D
 rintro ⟨i,⟨A1,A,A2,A3⟩⟩ J13 E
 try dsimp only
 refine WS fun _ L=>rP 1 [] I ?_
 refine RK L<|ah fun _ M=>bT U (aR fun k=>?_) (aQ fun k=>?_)
 ·refine bI<|ae<|ae<|aC<|KK B<|WS fun _ O=>rP 2 [] I ?_
  refine RK O<|ao<|Q1 hQ U U U ?_
  exact cI (if_pos (rM A om om)).symm
 refine WK M<|ah fun _ F=>aA<|WS fun _ N=>?_
 obtain ⟨x,hx⟩:=aM ts i om
 have A4:=bW ai.cells hx
 refine rS (IA i U (aJ 1 U) uU dc om om) ?_
 have A8:=hside x (aT hx)
 refine rS (n9 i 0 (ai.cells x) U ct (aJ 1 U) A4 U dc U U)<|AL U Cb fun A5=>fG U FB U<|RK N ?_
 refine qu (ι:=Unit) [1,3,4,6,16,17,18] [0,1,2] U U (fun z=>[(7,(vB (decide (x.ir=0∧x.dU.Lo=0∧x.dU.Hi=0))))]) (fun z=>[]) (fun _=>rfl) (fun _=>rfl) ?_ fun K20 G=>?_
 ·intro _
  try dsimp only
  refine qu (ι:=Unit) [1,3,4,6,7,16,17,18] [0,1,2] U U (fun z=>[(8,(vB (decide ((1≤x.ir∧x.ir≤2)∧x.dU.Lo≤x.dU.Hi∧500≤x.dU.Lo∧x.dU.Hi≤20000))))]) (fun z=>[]) (fun _=>rfl) (fun _=>rfl) ?_ fun K21 H=>?_
  ·intro _
   try dsimp only
   refine ah fun _ AB=>WS fun _ C=>rP 4 [] (mc 0 U I) ?_
   refine cH (xs:=[.tmp 44]) (cs:=[(vI x.Id)]) U cy hE U U U U (by simp [Value.cells]) U U fun h=>?_
   refine rS (CL (dR.eq (nD ((fj ts i)+1) 9999 ([x.Id]) (some ⟨h,0,none⟩) 1 (by (simp; done))) cp) (al (aV 0 U U (by simp [bu]) U)<|aD) U) ?_
   refine rP 2 [] I ?_
   refine cK (t:=48) U (bq fun o=>?_) (bp fun o=>?_)
   ·refine bh 26 U<|RK C<|aL U<|WS fun _ P=>bh 1 U<|RK P<|bI<|ae<|gY U<|ae<|ae<|aC<|KK B<|WS fun _ R=>rP 2 [] I ?_
    refine RK R<|ao<|Q1 hQ U U U ?_
    exact cI (if_neg (by rw [dj A hx (by simp only [bH,dp]; omega)]; decide)).symm
   refine bh 1 U<|rS (LP (aa.cells x.jH) 1 U ct U U U)<|rS (CL (sX x.jH 1 30000) (aD) U)<|rP 3 [] I ?_
   refine cK (t:=54) U (bq fun p=>?_) (bp fun p=>?_)
   ·refine bh 20 U<|RK C<|aL U<|WS fun _ S=>bh 1 U<|RK S<|bI<|ae<|gY U<|ae<|ae<|aC<|KK B<|WS fun _ T=>rP 2 [] I ?_
    refine RK T<|ao<|Q1 hQ U U U ?_
    exact cI (if_neg (by rw [dj A hx (by simp only [bH,dp]; omega)]; decide)).symm
   refine bh 1 U<|rS (LP (aa.cells x.kx) 1 U ct U U U)<|rS (CL (sX x.kx 0 5000) (aD) U)<|rP 3 [] I ?_
   refine cK (t:=60) U (bq fun q=>?_) (bp fun q=>?_)
   ·refine bh 14 U<|RK C<|aL U<|WS fun _ AA=>bh 1 U<|RK AA<|bI<|ae<|gY U<|ae<|ae<|aC<|KK B<|WS fun _ V=>rP 2 [] I ?_
    refine RK V<|ao<|Q1 hQ U U U ?_
    exact cI (if_neg (by rw [dj A hx (by simp only [bH,dp]; omega)]; decide)).symm
   refine rP 2 [] (mc 1 U I) ?_
   refine cH (xs:=[.tmp 62]) (cs:=[(vI x.xn)]) U cy hE U U U U (by simp [Value.cells]) U U fun j=>?_
   refine rS (CL (dR.eq (nD 0 5000 ([x.xn]) (some ⟨j,0,none⟩) 1 (by (simp; done))) cp) (al (aV 0 U U (by simp [bu]) U)<|aD) U) ?_
   refine rP 3 [] I ?_
   refine cK (t:=67) U (bq fun r=>?_) (bp fun r=>?_)
   ·refine bh 7 U<|RK C<|aL U<|WS fun _ W=>bh 1 U<|RK W<|bI<|ae<|gY U<|ae<|ae<|aC<|KK B<|WS fun _ X=>rP 2 [] I ?_
    refine RK X<|ao<|Q1 hQ U U U ?_
    exact cI (if_neg (by rw [dj A hx (by simp only [bH,dp]; omega)]; decide)).symm
   refine rP 3 [] I ?_
   refine cb (t:=70) U (bp fun s=>?_) (bq fun s=>?_)
   ·refine bh 4 U<|RK C<|aS U<|WK AB<|an<|fr 3 [] (mc 2 U I) U<|aG<|aF<|KK F<|an<|rP 2 [] I ?_
    refine aG ?_
    have f:(vI (fj ts (i+1)))=(vI x.Id):=by rw [fc hx]
    refine bg (E ⟨(i+1),⟨om,fR A hx (by simp only [bH,dp]; omega),by rw [fc hx]; omega,by rw [fc hx]; omega⟩⟩ _ _ _ U os (dx 4<|bG U f<|aW U) (aK [3,4]))
   refine rP 4 [] I ?_
   refine RK C<|bT U (bp fun u=>?_) (bq fun u=>?_)
   ·refine WK AB<|an<|fr 3 [] (mc 2 U I) U<|aG<|aF<|KK F<|an<|rP 2 [] I ?_
    refine aG ?_
    have e:(vI (fj ts (i+1)))=(vI x.Id):=by rw [fc hx]
    refine bg (E ⟨(i+1),⟨om,fR A hx (by simp only [bH,dp]; omega),by rw [fc hx]; omega,by rw [fc hx]; omega⟩⟩ _ _ _ U os (dx 4<|bG U e<|aW U) (aK [3,4]))
   refine WS fun _ Y=>bh 1 U<|RK Y<|bI<|ae<|gY U<|ae<|ae<|aC<|KK B<|WS fun _ Z=>rP 2 [] I ?_
   refine RK Z<|ao<|Q1 hQ U U U ?_
   exact cI (if_neg (by rw [dj A hx (by simp only [bH,dp]; omega)]; decide)).symm
  refine an<|rP 2 [] (mc 0 U I) ?_
  refine rS (SX (sO (m:=x.ir) U U Oz og (rY (by first|assumption|omega))) U U)<|cH (xs:=[.tmp 33]) (cs:=[(vI x.ir)]) U cy hE U U U U (by simp [Value.cells]) U U fun g=>?_
  refine rS (CL (dR.eq (nD 1 2 ([x.ir]) (some ⟨g,0,none⟩) 1 (by (simp; done))) cp) (al (aV 0 U U (by simp [bu]) U)<|aD) U) ?_
  refine rP 1 [] I ?_
  refine cb (t:=36) U (aR fun n=>?_) (aQ fun n=>?_)
  ·refine rP 5 [] I ?_
   refine aG ?_
   have d:(decide ((1≤x.ir∧x.ir≤2)∧x.dU.Lo≤x.dU.Hi∧500≤x.dU.Lo∧x.dU.Hi≤20000))=false:=cm om
   refine bg (kv (dx 8<|mj U d<|ee.nil _) (aK [1,2,3]) (H ()))
  refine bh 1 U<|rS (LP (aa.cells x.dU) 1 U ct U U U)<|rS (CL (sX x.dU 500 20000) (aD) U)<|rP 2 [] I ?_
  refine aG ?_
  have c:(decide ((1≤x.ir∧x.ir≤2)∧x.dU.Lo≤x.dU.Hi∧500≤x.dU.Lo∧x.dU.Hi≤20000))=(decide (x.dU.Lo≤x.dU.Hi∧500≤x.dU.Lo∧x.dU.Hi≤20000)):=gd.2 om
  refine bg (kv (dx 8<|mj U c<|ee.nil _) (aK [1,2,3]) (H ()))
 refine an<|fr 2 [] (mc 0 U I) U<|rS (BI U jX)<|rP 1 [] I ?_
 refine cb (t:=25) U (aR fun l=>?_) (aQ fun l=>?_)
 ·refine rP 6 [] I ?_
  refine aG ?_
  have b:(decide (x.ir=0∧x.dU.Lo=0∧x.dU.Hi=0))=false:=cm om
  refine bg (kv (dx 7<|mj U b<|ee.nil _) (aK [0,1,2]) (G ()))
 refine bh 1 U<|rS (LP (aa.cells x.dU) 0 U ct U U U)<|rS (SX (aZ (xs:=[]) (cs:=(aa.cells (aa.mk 0 0))) U U (bf gR U)) U U)<|rS (BI U (uB _ _ x.dU (aa.mk 0 0)))<|rP 2 [] I ?_
 refine aG ?_
 have a:(decide (x.ir=0∧x.dU.Lo=0∧x.dU.Hi=0))=(decide (x.dU=(aa.mk 0 0))):=gd.2 (by (simp only [aa.ext_iff] at *; omega))
 refine bg (kv (dx 7<|mj U a<|ee.nil _) (aK [0,1,2]) (G ()))
end
section
open Go.RowKit
theorem nK (a:aa) (l:List aa) (lA:OA) (lC:Nat) (ha:kl a) (hl: ∀ z∈l,kl z) (hlen:l.length≤4):
 dR Tryz.prog 175 [(vA (aa.cells a)),(vS lA l.length lC)] [(rd lA l.length 2 (l.map aa.cells))] (vA (aa.cells (jI a l))):=by
 refine bE kr Tryz.func175 U U fun AA Q hQ hN=>?_
 try dsimp only
 refine WS fun _ AB=>fY U fun R=>AL U dk fun T=>RK AB<|ah fun _ J=>WS fun _ K=>rP 3 [] I ?_
 refine RK K<|aA ?_
 have A:(0≤l.length):=by exact Nat.zero_le _
 refine bR (ι:={z:Nat // (z≤l.length)}) [2,4,7,8] [0,2] U U (fun z=>[(9,(vI (z.1:Int)))]) (fun z=>[(bQ R 45 (aa.cells (jI a (l.take z.1))))]) (fun _=>rfl) (fun _=>rfl) (fun z=>l.length-z.1) ⟨0,A⟩ (aW U) (aK [0,2,1]) ?_
 clear A
 rintro ⟨i,N⟩ J6 H
 try dsimp only
 refine WS fun _ L=>rP 1 [] I ?_
 refine RK L<|ah fun _ M=>bT U (aR fun S=>?_) (aQ fun S=>?_)
 ·refine bI<|ae<|ae<|aC<|KK J<|ah fun _ D=>?_
  have G:(aa.cells (jI a (l.take i)))=(aa.cells (jI a l)):=by rw [HD om]
  rw [G]
  refine an<|rP 1 [] (mc 2 U I) ?_
  refine fG U cx U<|RK D<|ao ?_
  exact HH hQ [0] (mc 0 U I) U U
 refine WK M<|ah fun _ B=>aA<|WS fun _ C=>?_
 obtain ⟨x,hx⟩:=aM l i om
 have O:=bW aa.cells hx
 refine rS (IA i U (aJ 1 U) gS dc om om)<|rS (n9 i 0 (aa.cells x) U ct (aJ 1 U) O U dc U U)<|AL U dk fun P=>fG U cx U<|RK C<|an ?_
 have hb:=KV ha hl i
 have hz:=hl x (aT hx)
 unfold kl at hz
 refine rP 10 [0,1,0,1] (mc 3 U (mc 0 U I)) ?_
 refine rS (SX (aZ (xs:=[(0,.tmp 17),(1,.tmp 22)]) (cs:=(aa.cells (aa.mk (((jI a (l.take i)).Lo)+x.Lo) (((jI a (l.take i)).Hi)+x.Hi)))) U U (bf gR U)) U U)<|P7 U cx U<|aG<|aF<|KK B ?_
 have E:(aa.cells (aa.mk (((jI a (l.take i)).Lo)+x.Lo) (((jI a (l.take i)).Hi)+x.Hi)))=(aa.cells (jI a (l.take (i+1)))):=by rw [v8 hx]; rfl
 rw [E]
 refine an<|rP 2 [] I ?_
 refine aG ?_
 have F:(vI ((i+1):Int))=(vI ((i:Int)+1)):=by exact cI om
 refine bg (H ⟨(i+1),(by first|omega|(simp only []; omega))⟩ _ _ _ U os (dx 4<|bG U F<|ee.nil _) (aK [1,2,3]))
theorem BF (ts:List ai) (tsA:OA) (tsC:Nat) (hlen:ts.length≤1000000) (hside: ∀ x∈ts,0≤x.ir∧x.ir≤255):
 dR Tryz.prog 172 [(vA (bD.cells (bD.mk (bk.mk tsA ts.length tsC))))] [(rd tsA ts.length 9 (ts.map ai.cells))] (vT [(vA (dI.cells (dI.mk (bD.mk (bk.mk tsA ts.length tsC))))),(vI (if cO ts=true then 0 else 10))]):=by
 refine bE kr Tryz.func172 U U fun E Q hQ hN=>?_
 try dsimp only
 refine WS fun _ A=>fY U fun C=>AL U He fun D=>bh 1 U<|RK A<|ah fun _ B=>dF cE 4 kr<|mQ 1 [] (mc 1 U I) U<|dS (SX (aZ (xs:=[(0,.tmp 4)]) (cs:=(dI.cells (dI.mk (bD.mk (bk.mk tsA ts.length tsC))))) U U (bf MK U)) U U)<|mQ 1 [] (mc 1 U I) U<|dS (CL (yZ ts tsA tsC hlen hside) (a_ [2]) U)<|cQ<|fG U HJ U<|rP 1 [] I ?_
 refine RK B<|ao ?_
 exact mO hQ [0] (mc 0 U I) U U
theorem Jo (f:Int) (tsA:OA) (tsN tsC:Nat):
 lq Tryz.prog 186 [(vA (dI.cells (dI.mk (bD.mk (bk.mk tsA tsN tsC))))),(vI f)] [] (fun (x:Nat×Nat)=>(Value.func (.func 190) [].toArray [(Value.pointer (some ⟨x.1,0,none⟩)),(Value.pointer (some ⟨x.2,0,none⟩))].toArray)) (fun (x:Nat×Nat)=>True) (fun (x:Nat×Nat)=>[(bQ x.1 3 [(vI f)]),(bQ x.2 237 (dI.cells (dI.mk (bD.mk (bk.mk tsA tsN tsC)))))]):=by
 refine de kr Tryz.func186 U U fun E Q hQ hN=>?_
 try dsimp only
 refine WS fun _ A=>fY U fun C=>qM U U fun D=>bh 1 U<|RK A<|WS fun _ B=>rS (FU U)<|rP 1 [] I ?_
 refine RK B<|ao<|LX hQ (D,C) [0,1] [] I U U U U ?_
 trivial
theorem DL (ts:List ai) (tsA:OA) (tsC:Nat) (f:Int) (g1 g2:Nat) (hst: ∀ x∈ts,bH x) (hlen:ts.length≤12) (hf:0≤f∧f≤ts.length):
 JL Tryz.prog 190 [] [(vP g1),(vP g2)] [(rd tsA ts.length 9 (ts.map ai.cells)),(bQ g1 3 [(vI f)]),(bQ g2 237 (dI.cells (dI.mk (bD.mk (bk.mk tsA ts.length tsC)))))] (qf ts f.toNat):=by
 refine BN kr Tryz.func190 U U fun l J Z A0 p Q hY g d hQ hN=>?_
 try dsimp only
 refine WS fun _ h=>AL U dk fun n=>AL U dk fun o=>RK h<|WS fun _ i=>rP 2 [] (mr 4 U I) ?_
 refine RK i<|aA ?_
 have P:(0≤ts.length-f.toNat)∧(J 0 A0)∧(Fo A0 p A0):=by exact ⟨Nat.zero_le _,g,d⟩
 have m:(vI (f+(0:Int)))=(vI f):=by exact cI om
 refine bR (ι:={z:Nat×aq // (z.1≤ts.length-f.toNat)∧(J z.1 z.2)∧(Fo A0 p z.2)}) [0,1,2,4,5] [3,4,5] U U (fun z=>[(6,(vI (f+(z.1.1:Int))))]) (fun z=>[(bQ o 45 (aa.cells (fq ts f.toNat z.1.1))),(bQ n 45 (aa.cells (dQ ts f.toNat z.1.1))),z.1.2]) (fun _=>rfl) (fun _=>rfl) (fun z=>ts.length-f.toNat-z.1.1) ⟨(0,A0),P⟩ (bG U m<|ee.nil _) (aK [3,4,5,0,1,2]) ?_
 clear P
 rintro ⟨⟨k,A⟩,⟨W,R,S⟩⟩ J6 V
 try dsimp only at W R S
 try dsimp only
 refine ah fun _ j=>WS fun _ X=>rP 3 [0,1] (mc 4 U (mc 3 U I)) ?_
 refine Bq 5 hY R S U U U (vN om) U U (fun B9 C B=>?_) (fun B9 C B=>?_)
 rotate_left 1
 ·refine rP 8 [] I ?_
  refine RK X<|aS U<|bI<|ae<|ae<|aC ?_
  refine hN _ _ _ (gp (vs:=[]) trivial fun w hs=>JZ 5 U C B hs)
 refine rP 8 [] (mr 2 U I) ?_
 refine RK X<|bT U (aR fun c=>?_) (aQ fun c=>?_)
 ·refine bI<|ae<|ae<|aC ?_
  refine hN _ _ _ (gp (vs:=[]) trivial fun w hs=>NY 5 U (by rw [qo]; have e:ts.length-f.toNat+1=k+1:=om; rw [e]; exact C) B hs)
 refine WK j<|ah fun _ M=>aA<|pj cE [0,1,2,3,4,5,6,7,10,11,12,13,14,15,16,17] [8,9,18,19,20,21] [true,false,false,false,false,false,false,false,true,false,false,false,false,false,false,false] [8,9,18] [(rd tsA ts.length 9 (ts.map ai.cells)).ro,(bQ g1 3 [(vI f)]).ro,(bQ g2 237 (dI.cells (dI.mk (bD.mk (bk.mk tsA ts.length tsC))))).ro,B9] [(rd tsA ts.length 9 (ts.map ai.cells)).ro,(bQ g1 3 [(vI f)]).ro,(bQ g2 237 (dI.cells (dI.mk (bD.mk (bk.mk tsA ts.length tsC))))).ro,(bQ o 45 (aa.cells (fq ts f.toNat k))),(bQ n 45 (aa.cells (dQ ts f.toNat k))),B9] kr (aK [0,1,2,5]) (aK [0,1,2,3,4,5])<|fS U (LW 4 U ct U U)<|eS U (FA 0 U fB U)<|eS U (FA 0 U fB U)<|eS U (Eh (vS tsA ts.length tsC) 2 U ct U U)<|eS U (MV U) ?_
 obtain ⟨x,hx⟩:=aM ts (f.toNat+k) om
 have a:=bW ai.cells hx
 refine eS U (IA (f.toNat+k) U (aJ 0 U) uU dc om om) ?_
 have L:=hst x (aT hx)
 refine eS U (pt (((f.toNat+k)*9)+1) U (aJ 0 U) (Nat.mul_pos om dc) fB U)<|eS U (n9 (f.toNat+k) 1 (aa.cells x.jH) U ct (aJ 0 U) a U dc U U)<|fS U (LW 3 U ct U U)<|eS U (FA 0 U fB U)<|eS U (FA 0 U fB U)<|eS U (Eh (vS tsA ts.length tsC) 2 U ct U U)<|eS U (MV U)<|eS U (IA (f.toNat+k) U (aJ 0 U) uU dc om om)<|eS U (pt (((f.toNat+k)*9)+3) U (aJ 0 U) (Nat.mul_pos om dc) fB U)<|eS U (n9 (f.toNat+k) 3 (aa.cells x.kx) U ct (aJ 0 U) a U dc U U)<|ff U<|g6 [8,18] kr (dW ?_<|dW ?_<|jG)
 rotate_left 1
 ·refine rU (rem':=[8,9,19,20,21]) U kr fun T14 N=>cH (xs:=[.tmp 39]) (cs:=(aa.cells x.kx)) U gS dk U U U U (by simp [Value.cells,aa.aO]) U U fun T=>aG (N _ _ (aK [1,2,3,6]) (aK [1,2,3,4,5,6]) ?_)
  refine N1 8<|rU (rem':=[9,19,20,21]) U kr fun T16 D=>cH (xs:=[.tmp 29]) (cs:=(aa.cells x.jH)) U gS dk U U U U (by simp [Value.cells,aa.aO]) U U fun AA=>aG (D _ _ (aK [2,3,4,7]) (aK [2,3,4,5,6,7]) ?_)
  refine N1 9<|rU (rem':=[19,20,21]) U kr fun T18 O=>?_
  refine rS (CL (dR.eq (nK (dQ ts f.toNat k) ([x.jH]) (some ⟨AA,0,none⟩) 1 (by exact oO hst om) (by intro z hz; simp only [bJ] at hz; subst hz; exact qX L) sm) l7) (al (aV 0 rfl rfl (by simp [aa.aO]) rfl)<|aD) rfl) ?_
  refine aG (O _ _ (aK [2,3,4,7]) (aK [2,3,4,5,6,7]) ?_)
  refine N1 19<|NO U U [20,21] fun T19 E=>?_
  refine rS (CL (dR.eq (nK (fq ts f.toNat k) ([x.kx]) (some ⟨T,0,none⟩) 1 (by exact ta hst om) (by intro z hz; simp only [bJ] at hz; subst hz; exact qU L) sm) l7) (al (aV 1 rfl rfl (by simp [aa.aO]) rfl)<|aD) rfl) ?_
  refine aG (E _ _ (aK [2,3,4,7]) ?_)
  refine N1 20<|NO U U [21] fun T20 F=>Kk U cx U<|aG (F _ _ (aK [2,3,4,7]) ?_)
  refine N1 21<|NO U U [] fun T21 G=>IE U cx U<|aG (G _ _ (aK [2,3,4,7]) ?_)
  refine n_<|aF<|KK M ?_
  have H:(aa.cells (ld (dQ ts f.toNat k) x.jH))=(aa.cells (dQ ts f.toNat (k+1))):=by rw [nT hx]
  rw [H]
  have AB:(aa.cells (ld (fq ts f.toNat k) x.kx))=(aa.cells (fq ts f.toNat (k+1))):=by rw [nM hx]
  rw [AB]
  refine an<|rP 3 [] I ?_
  refine aG ?_
  have K:(vI (f+(((k+1):Nat):Int)))=(vI ((f+(k:Int))+1)):=by exact cI om
  refine bg (V ⟨((k+1),B9),⟨om,C,B⟩⟩ _ _ _ U os (dx 5<|bG U K<|ee.nil _) (aK [2,3,4,5,6,7]))
 refine rU (rem':=[9,18,19,20,21]) U kr fun T14 N=>cH (xs:=[.tmp 29]) (cs:=(aa.cells x.jH)) U gS dk U U U U (by simp [Value.cells,aa.aO]) U U fun T=>aG (N _ _ (aK [1,2,3,6]) (aK [1,2,3,4,5,6]) ?_)
 refine g6 [9,18] kr (dW ?_<|dW ?_<|jG)
 rotate_left 1
 ·refine rU (rem':=[9,19,20,21]) U kr fun T16 D=>cH (xs:=[.tmp 39]) (cs:=(aa.cells x.kx)) U gS dk U U U U (by simp [Value.cells,aa.aO]) U U fun AA=>aG (D _ _ (aK [2,3,4,7]) (aK [2,3,4,5,6,7]) ?_)
  refine N1 9<|rU (rem':=[19,20,21]) U kr fun T18 O=>?_
  refine rS (CL (dR.eq (nK (dQ ts f.toNat k) ([x.jH]) (some ⟨T,0,none⟩) 1 (by exact oO hst om) (by intro z hz; simp only [bJ] at hz; subst hz; exact qX L) sm) l7) (al (aV 1 rfl rfl (by simp [aa.aO]) rfl)<|aD) rfl) ?_
  refine aG (O _ _ (aK [2,3,4,7]) (aK [2,3,4,5,6,7]) ?_)
  refine N1 19<|NO U U [20,21] fun T19 E=>?_
  refine rS (CL (dR.eq (nK (fq ts f.toNat k) ([x.kx]) (some ⟨AA,0,none⟩) 1 (by exact ta hst om) (by intro z hz; simp only [bJ] at hz; subst hz; exact qU L) sm) l7) (al (aV 0 rfl rfl (by simp [aa.aO]) rfl)<|aD) rfl) ?_
  refine aG (E _ _ (aK [2,3,4,7]) ?_)
  refine N1 20<|NO U U [21] fun T20 F=>Kk U cx U<|aG (F _ _ (aK [2,3,4,7]) ?_)
  refine N1 21<|NO U U [] fun T21 G=>IE U cx U<|aG (G _ _ (aK [2,3,4,7]) ?_)
  refine n_<|aF<|KK M ?_
  have H:(aa.cells (ld (dQ ts f.toNat k) x.jH))=(aa.cells (dQ ts f.toNat (k+1))):=by rw [nT hx]
  rw [H]
  have AB:(aa.cells (ld (fq ts f.toNat k) x.kx))=(aa.cells (fq ts f.toNat (k+1))):=by rw [nM hx]
  rw [AB]
  refine an<|rP 3 [] I ?_
  refine aG ?_
  have K:(vI (f+(((k+1):Nat):Int)))=(vI ((f+(k:Int))+1)):=by exact cI om
  refine bg (V ⟨((k+1),B9),⟨om,C,B⟩⟩ _ _ _ U os (dx 5<|bG U K<|ee.nil _) (aK [2,3,4,5,6,7]))
 refine rU (rem':=[18,19,20,21]) U kr fun T16 D=>?_
 refine rS (CL (dR.eq (nK (dQ ts f.toNat k) ([x.jH]) (some ⟨T,0,none⟩) 1 (by exact oO hst om) (by intro z hz; simp only [bJ] at hz; subst hz; exact qX L) sm) l7) (al (aV 0 rfl rfl (by simp [aa.aO]) rfl)<|aD) rfl) ?_
 refine aG (D _ _ (aK [1,2,3,6]) (aK [1,2,3,4,5,6]) ?_)
 refine N1 18<|rU (rem':=[19,20,21]) U kr fun T17 Y=>cH (xs:=[.tmp 39]) (cs:=(aa.cells x.kx)) U gS dk U U U U (by simp [Value.cells,aa.aO]) U U fun b=>aG (Y _ _ (aK [2,3,4,7]) (aK [2,3,4,5,6,7]) ?_)
 refine N1 19<|NO U U [20,21] fun T19 E=>?_
 refine rS (CL (dR.eq (nK (fq ts f.toNat k) ([x.kx]) (some ⟨b,0,none⟩) 1 (by exact ta hst om) (by intro z hz; simp only [bJ] at hz; subst hz; exact qU L) sm) l7) (al (aV 0 rfl rfl (by simp [aa.aO]) rfl)<|aD) rfl) ?_
 refine aG (E _ _ (aK [2,3,4,7]) ?_)
 refine N1 20<|NO U U [21] fun T20 F=>Kk U cx U<|aG (F _ _ (aK [2,3,4,7]) ?_)
 refine N1 21<|NO U U [] fun T21 G=>IE U cx U<|aG (G _ _ (aK [2,3,4,7]) ?_)
 refine n_<|aF<|KK M ?_
 have H:(aa.cells (ld (dQ ts f.toNat k) x.jH))=(aa.cells (dQ ts f.toNat (k+1))):=by rw [nT hx]
 rw [H]
 have AB:(aa.cells (ld (fq ts f.toNat k) x.kx))=(aa.cells (fq ts f.toNat (k+1))):=by rw [nM hx]
 rw [AB]
 refine an<|rP 3 [] I ?_
 refine aG ?_
 have K:(vI (f+(((k+1):Nat):Int)))=(vI ((f+(k:Int))+1)):=by exact cI om
 refine bg (V ⟨((k+1),B9),⟨om,C,B⟩⟩ _ _ _ U os (dx 5<|bG U K<|ee.nil _) (aK [2,3,4,5,6,7]))
theorem HC (ts:List ai) (tsA:OA) (tsC:Nat) (f t:Int) (hst: ∀ x∈ts,bH x) (hlen:ts.length≤12) (hf:0≤f∧f≤t∧t≤ts.length):
 dR Tryz.prog 174 [(vA (dI.cells (dI.mk (bD.mk (bk.mk tsA ts.length tsC))))),(vI f),(vI t)] [(rd tsA ts.length 9 (ts.map ai.cells))] (vT [(vA (aa.cells (dQ ts f.toNat (t-f).toNat))),(vA (aa.cells (fq ts f.toNat (t-f).toNat)))]):=by
 refine bE kr Tryz.func174 U U fun w0 Q hQ hN=>?_
 try dsimp only
 refine WS fun _ M=>fY U fun a=>qM U U fun b=>qM U U fun d=>AL U dk fun e=>AL U dk fun g=>RK M<|ah fun _ AA=>WS fun _ V=>rP 2 [0,1] (mc 4 U (mc 3 U I)) ?_
 refine cX (Jo f tsA ts.length tsC) (aD) U fun u n=>?_
 obtain ⟨B,C⟩:=u
 try dsimp only
 refine RK V<|aA<|jC 7 U (by exact fun _ h=>h) ?_
 refine BR (L0:=[(3,(vP a)),(4,(vP b)),(5,(vP d)),(6,(vP e)),(7,(vP g))]) (F:=[(rd tsA ts.length 9 (ts.map ai.cells)).ro,(bQ B 3 [(vI f)]),(bQ C 237 (dI.cells (dI.mk (bD.mk (bk.mk tsA ts.length tsC)))))]) (xs:=(qf ts f.toNat)) (fun k (y:aa×aa×Int)=>(k≤(t-f).toNat)∧(y.2.2=f+(k:Int))) (fun k y=>[(bQ g 45 (aa.cells y.2.1)),(bQ e 45 (aa.cells y.1)),(bQ d 3 [(vI t)]),(bQ b 3 [(vI y.2.2)]),(bQ a 237 (dI.cells (dI.mk (bD.mk (bk.mk tsA ts.length tsC))))),(rd tsA ts.length 9 (ts.map ai.cells)).ro]) (fun c (z:Unit)=>(c= .exit 0)) (fun _ z=>[(bQ g 45 (aa.cells (fq ts f.toNat (t-f).toNat))),(bQ e 45 (aa.cells (dQ ts f.toNat (t-f).toNat))),(bQ d 3 [(vI t)]),(bQ b 3 [(vI t)]),(bQ a 237 (dI.cells (dI.mk (bD.mk (bk.mk tsA ts.length tsC))))),(rd tsA ts.length 9 (ts.map ai.cells)).ro]) [3,4,5,6,7,8] [0,1,2] (dC,dC,f) U U (DL ts tsA tsC f B C (by first|assumption|omega|(simp; done)) (by first|assumption|omega|(simp; done)) om) U U U (by exact ⟨Nat.zero_le _,sm⟩) (by simp only [List.forall_mem_cons,List.not_mem_nil,false_imp_iff,implies_true,and_true]; exact ⟨⟨_,sm,(eH (bU _))⟩,⟨_,sm,(bU _)⟩,⟨_,sm,(bU _)⟩⟩) (by exact An) U (aW U) ?_ ?_ ?_ ?_
 rotate_left 1
 ·rintro q ⟨v,z2,m⟩ J
  obtain ⟨A,K⟩:=J
  try dsimp only at A K
  try dsimp only
  exfalso; rw [qo] at A; omega
 ·rintro r id _ Y
  have hc:=Y
  cases hc
  try dsimp only
  refine aC<|KK AA<|ah fun _ D=>ek cE [2,3] [] [] [0,1,2,3,4,5,6,7,8,9] [] U U U U U<|eS U (LW 5 U ct U U)<|eS U (LW 4 U ct U U)<|ff U<|cf U fun T30 E=>IE U cx U<|aG (E _ _ (aK [0,1,2,3,4,5,6,7,8,9]) ?_)
  refine cf U fun T31 G=>Me U cx U<|aG (G _ _ (aK [0,1,2,3,4,5,6,7,8,9]) ?_)
  refine fV U<|KK D<|ao<|hQ _ _ _ (nc 0 U U<|gp (vs:=[(vA (aa.cells (dQ ts f.toNat (t-f).toNat))),(vA (aa.cells (fq ts f.toNat (t-f).toNat)))]) ⟨⟨_,U,.inl ⟨_,_,ct,nU (vs:=(aa.cells (dQ ts f.toNat (t-f).toNat))) 5 U U,U,U⟩⟩,⟨_,U,.inl ⟨_,_,ct,nU (vs:=(aa.cells (fq ts f.toNat (t-f).toNat))) 4 U U,U,U⟩⟩,trivial⟩ fun w hs=>Ab ?_ hs)
  show (vT [(vA (aa.cells (dQ ts f.toNat (t-f).toNat))),(vA (aa.cells (fq ts f.toNat (t-f).toNat)))])=(vT [(vA (aa.cells (dQ ts f.toNat (t-f).toNat))),(vA (aa.cells (fq ts f.toNat (t-f).toNat)))])
  clear hs w hQ hN G T31 E T30 D V AA M
  rfl
 ·rintro s _ Z
  cases Z
 rintro k x ⟨v,z2,m⟩ l ra rb S w1 K13 Qr14 hx AB N H L j
 obtain ⟨hk,rfl⟩:=CT hx
 obtain ⟨A,K⟩:=AB
 try dsimp only at A K
 try dsimp only
 refine WS fun _ O=>AL U dk fun o=>fG U cx U<|RK O<|an<|AL U dk fun p=>fG U cx U<|aG<|kv (fun _ _ h=>h) (aK [2,0,1,3,4,5,6,7,8])<|bg (N _ _ ?_)
 refine aA<|ah fun _ P=>ah fun _ R=>ek cE [2,3] [] [] [0,1,2,5,6,7,8] [] U U U U U<|eS U (LW 2 U ct U U)<|eS U (LW 1 U ct U U)<|ff U<|cf U fun T21 W=>Me U cx U<|aG (W _ _ (aK [0,1,2,5,6,7,8]) ?_)
 refine cf U fun T22 X=>P7 U cx U<|aG (X _ _ (aK [0,1,2,5,6,7,8]) ?_)
 refine fV U<|KK R<|WS fun _ T=>rP 3 [0,1] (mc 6 U (mc 5 U I)) ?_
 refine RK T<|cM U (aQ fun i=>?_) (aR fun i=>?_)
 ·refine bI<|ae<|gY U ?_
  rw [show m=t from by omega]
  obtain rfl:k=(t-f).toNat:=by omega
  exact L _ () _ _ (by exact U) (aK [0,3,4,5,6,7,8])
 refine WK P<|an<|rP 2 [] (mc 6 U I) ?_
 refine Qe U AZ U U<|aG<|aF ?_
 exact H ((dQ ts f.toNat k),(fq ts f.toNat k),(m+1)) _ _ (by refine ⟨om,?_⟩; dsimp only; omega) (aK [0,3,4,5,6,7,8])
end
section
open Go.RowKit
theorem Dp (i:Int) (s:ck) (ts:List ai) (tsA:OA) (tsC g1:Nat) (hst: ∀ x∈ts,bH x) (hlen:ts.length≤12):
 dR Tryz.prog 185 [(vI i),(vA (ck.cells s)),(vP g1)] [(rd tsA ts.length 9 (ts.map ai.cells)),(bQ g1 237 (dI.cells (dI.mk (bD.mk (bk.mk tsA ts.length tsC)))))] (vB (!(decide (eE ts s)))):=by
 refine bE kr Tryz.func185 U U fun AA Q hQ hN=>?_
 try dsimp only
 refine WS fun _ C=>fY U fun G=>rP 1 [] I ?_
 refine RK C<|ah fun _ A=>pj cE [0,1,2,3,4,5,6] [7,8,9,10,11,12,13,14,15,16,17,18,19,20,21,22,23,24,25,26] [false,false,false,false,false,false,false] [] [(bQ G 158 (ck.cells s)),(rd tsA ts.length 9 (ts.map ai.cells)).ro,(bQ g1 237 (dI.cells (dI.mk (bD.mk (bk.mk tsA ts.length tsC))))).ro] [] kr (aK [0,1,2]) (aK [])<|eS U (FA 0 U fB U)<|eS U (FA 0 U fB U)<|eS U (Eh (vS tsA ts.length tsC) 2 U ct U U)<|eS U (LN U LO)<|eS U (BI U (pA ⟨om,om⟩))<|eS U (FA 0 U fB U)<|eS U (L1 (vI s.aP) 0 U ct U U)<|ff U<|N1 7<|NO U U [8,9,10,11,12,13,14,15,16,17,18,19,20,21,22,23,24,25,26] fun T4 D=>cH (xs:=[.tmp 12]) (cs:=[(vI s.aP)]) U cy hE U U U U (by simp [Value.cells]) U U fun H=>RD D 1 U<|Gc [14,15,16,17,18,19,20,21,22,23,24,25,26,27,28,29,30,31,5] kr kr U _ U U (aK [1,2,3]) ?_
 refine dS (CL (dR.eq (nD 0 ((ts.length:Int)-1) ([s.aP]) (some ⟨H,0,none⟩) 1 (by (simp; done))) cp) (al (aV 0 U U (by simp [bu]) U)<|aD) U) ?_
 refine dP 2 [] I ?_
 refine iY (t:=16) U (bq fun B=>?_) (bp fun B=>?_)
 ·refine lQ 9 U<|dP 7 [] I ?_
  refine cQ<|RK A<|ao<|Q1 hQ U U U ?_
  (refine cB ?_; rw [cm (yA om)]; rfl)
 refine lQ 1 U<|dS (LP (aa.cells s.lp) 1 U ct U U U)<|dP 5 [0,1] (mr 3 U (mc 1 U I)) ?_
 obtain ⟨x,hx⟩:=aM ts ((s.aP).toNat) om
 have E:=bW ai.cells hx
 refine dS (IA ((s.aP).toNat) U (aJ 2 U) uU dc om om)<|dS (pt ((((s.aP).toNat)*9)+1) U (aJ 2 U) (Nat.mul_pos om dc) fB U) ?_
 have F:=(hst x (aT hx)).2.1
 simp only [dp] at F
 refine dS (pt ((((s.aP).toNat)*9)+1) U (aJ 2 U) (Nat.mul_pos om dc) fB U)<|dS (g_ ((s.aP).toNat) 1 (vI x.jH.Lo) U ct (aJ 2 U) E U dc U)<|lQ 1 U<|dS (CL (sX s.lp 0 (x.jH.Lo-1)) (aD) U)<|dP 3 [] I ?_
 refine cQ<|RK A<|ao<|Q1 hQ U U U ?_
 exact congrArg (fun b=>vB (!b)) (gd.2 (zw om hx).symm)
theorem Ak (l:List ck) (lA:OA) (lC:Nat) (f:Value) (p:Int→ck→Bool) (X:aq) (hf: ∀ x0 x1,(∃ k:Nat,x0=(k:Int)∧l[k]? =some x1)→Ai Tryz.prog f [.int .i64 x0,.agg (ck.cells x1).toArray] [X] (.bool (p x0 x1))) (hlen:l.length≤1000000):
 lq Tryz.prog 184 [(vS lA l.length lC),f] [(rd lA l.length 3 (l.map ck.cells)),X] (fun (x:(OA)×Nat)=>(vS x.1 ((E_ (fun jj yy=>p (jj:Int) yy) l).length) x.2)) (fun (x:(OA)×Nat)=>True) (fun (x:(OA)×Nat)=>[(own x.1 x.2 3 1 ((E_ (fun jj yy=>p (jj:Int) yy) l).map iC))]):=by
 refine de kr Tryz.func184 U U fun W Q hQ hN=>?_
 try dsimp only
 refine WS fun _ L=>bh 1 U<|RK L<|WS fun _ M=>bh 1 U<|RK M<|ah fun _ N=>WS fun _ O=>rP 3 [] I ?_
 refine RK O<|aA<|gI 3 1 ?_
 have A:(0≤l.length):=by exact Nat.zero_le _
 refine bR (ι:={z:Nat×(OA)×Nat // (z.1≤l.length)}) [0,1,8,9] [1,2] U U (fun z=>[(5,(vS z.1.2.1 ((p4 (fun jj yy=>p (jj:Int) yy) l z.1.1).length) z.1.2.2)),(10,(vI (z.1.1:Int)))]) (fun z=>[(own z.1.2.1 z.1.2.2 3 1 ((p4 (fun jj yy=>p (jj:Int) yy) l z.1.1).map iC))]) (fun _=>rfl) (fun _=>rfl) (fun z=>l.length-z.1.1) ⟨(0,none,0),A⟩ (aW U) (aK [1,2,0]) ?_
 clear A
 rintro ⟨⟨i,a,c⟩,B⟩ J5 C
 try dsimp only at B
 try dsimp only
 refine WS fun _ P=>rP 1 [] I ?_
 refine RK P<|ah fun _ R=>bT U (aR fun V=>?_) (aQ fun V=>?_)
 ·refine bI<|ae<|ae<|aC<|KK N<|WS fun _ F=>?_
  rw [IZ (p:=fun (i:Nat) x=>p (i:Int) x) (show i=l.length by omega)]
  refine rP 2 [] I ?_
  refine RK F<|ao<|LX hQ (a,c) [2] [] I U U U U ?_
  trivial
 refine WK R<|ah fun _ G=>aA<|WS fun _ D=>rP 1 [] I ?_
 obtain ⟨x,hx⟩:=aM l i om
 have S:=bW ck.cells hx
 refine rS (IA i U (aJ 0 U) Gb dc om om)<|rS (n9 i 0 (ck.cells x) U ct (aJ 0 U) S U dc U U)<|AL U zd fun T=>bh 1 U<|fG U GK U<|RK D<|WS fun _ E=>rP 3 [] (mc 0 U I) ?_
 refine rS (SX (p6 U U U (hf (i:Int) x ⟨i,U,hx⟩) (a_ [2])) U U)<|RK E<|bT U (fun hp=>?_) (fun hp=>?_)
 ·refine cr<|aF<|KK G<|an ?_
  rw [← Ij (p:=fun (i:Nat) x=>p (i:Int) x) hx hp]
  refine rP 2 [] I ?_
  refine aG ?_
  have AB:(vI (((i+1):Nat):Int))=(vI ((i:Int)+1)):=by exact cI om
  refine bg (C ⟨((i+1),a,c),(by first|omega|(simp only []; omega))⟩ _ _ _ U os (dx 5<|bG U AB<|ee.nil _) (aK [1,2,3]))
 refine an<|rP 2 [] I ?_
 refine cH (xs:=[.tmp 20]) (cs:=[(vI (i:Int))]) U cy hE U U U U (by simp [Value.cells]) U U fun AA=>?_
 refine ei (es2:=(List.map iC (p4 (fun jj yy=>p (jj:Int) yy) l (i+1)))) (m':=(p4 (fun jj yy=>p (jj:Int) yy) l (i+1)).length) 4 U U U rF U U sm (aV (es:=List.map iC [(i:Int)]) 0 U U (by simp [bu]) U) (ly _) (by have:=zp (p:=fun (i:Nat) x=>p (i:Int) x) (l:=l) (n:=i); simp; omega) (by have:=zp (p:=fun (i:Nat) x=>p (i:Int) x) (l:=l) (n:=i); simp only [maxLen]; omega) (by rw [FR hx hp]; simp) sm U fun J K=>?_
 try dsimp only
 refine bh 1 U<|aG<|aF<|KK G<|an<|rP 2 [] I ?_
 refine aG ?_
 have H:(vI (((i+1):Nat):Int))=(vI ((i:Int)+1)):=by exact cI om
 refine bg (C ⟨((i+1),J,K),(by first|omega|(simp only []; omega))⟩ _ _ _ U os (dx 5<|bG U H<|ee.nil _) (aK [2,3,4]))
theorem zu (ts:List ai) (tsA:OA) (tsC:Nat) (l:List ck) (lA:OA) (lC:Nat) (hst: ∀ x∈ts,bH x) (hlen:ts.length≤12) (hl:l.length≤4):
 dR Tryz.prog 173 [(vA (dI.cells (dI.mk (bD.mk (bk.mk tsA ts.length tsC))))),(vS lA l.length lC)] [(rd tsA ts.length 9 (ts.map ai.cells)),(rd lA l.length 3 (l.map ck.cells))] (vB (decide (∀ s∈l,eE ts s))):=by
 refine bE kr Tryz.func173 U U fun J Q hQ hN=>?_
 try dsimp only
 refine WS fun _ B=>fY U fun A=>bh 1 U<|RK B<|WS fun _ C=>rP 1 [] I ?_
 refine rS (FU U) ?_
 refine cX (Ak l lA lC (Value.func (.func 185) [].toArray [(vP A)].toArray) (fun E D=>(!(decide (eE ts D)))) (eY [(rd tsA ts.length 9 (ts.map ai.cells)),(bQ A 237 (dI.cells (dI.mk (bD.mk (bk.mk tsA ts.length tsC)))))]) (by intro E D _; exact l_ (fi:=[]) (ca:=[(vP A)]) (kN (Dp E D ts tsA tsC A (by first|assumption|omega) (by first|assumption|omega)) (a_ [0,1]))) om) (eL 2 U U<|al (kR (a_ [1,0]))<|aD) U fun G F=>?_
 obtain ⟨H,AA⟩:=G
 try dsimp only
 refine rP 3 [] I ?_
 refine RK C<|ao<|Q1 hQ U U U ?_
 exact congrArg Value.bool (decide_eq_decide.2 (by rw [show ∀ n:Nat,((n:Int)=0)↔n=0 from fun n=>by omega,D1]; simp only [Bool.not_eq_false',decide_eq_true_eq]; exact ⟨fun h s hs=>by obtain ⟨k,hk⟩:=List.getElem?_of_mem hs; exact h k s hk,fun h k s hk=>h s (List.mem_of_getElem? hk)⟩))
theorem z_ (z:aa) (hz:kl z):
 dR Tryz.prog 176 [(vA (aa.cells z))] [] (vA (aa.cells (mV z))):=by
 unfold kl at hz
 refine bE kr Tryz.func176 U U fun E Q hQ hN=>?_
 try dsimp only
 refine WS fun _ A=>fY U fun C=>AL U dk fun D=>RK A<|WS fun _ B=>fr 2 [] (mc 1 U I) U<|rS (NG U ⟨om,om⟩)<|rP 2 [] (mc 1 U I) ?_
 refine rS (NG U ⟨om,om⟩)<|rS (SX (aZ (xs:=[(0,.tmp 5),(1,.tmp 8)]) (cs:=(aa.cells (aa.mk (-z.Hi) (-z.Lo)))) U U (bf gR U)) U U)<|fG U cx U<|RK B<|ao ?_
 exact HH hQ [0] (mc 0 U I) U U
theorem MP (ts:List ai) (tsA:OA) (tsC:Nat) (s:ck) (hlen:ts.length≤1000000) (hside: ∀ x∈ts,0≤x.ir∧x.ir≤255):
 dR Tryz.prog 135 [(vA (bD.cells (bD.mk (bk.mk tsA ts.length tsC)))),(vA (ck.cells s))] [(rd tsA ts.length 9 (ts.map ai.cells))] (vT [(vA (aa.cells (K7 ts s))),(vI (B_ ts s))]):=by
 refine bE kr Tryz.func135 U U fun Z Q hQ hN=>?_
 try dsimp only
 refine WS fun _ K=>fY U fun V=>fY U fun W=>AL U dk fun X=>bh 1 U<|RK K<|WS fun _ L=>fr 1 [] (mc 2 U I) U<|rS (CL (BF ts tsA tsC hlen hside) (a_ [3]) U)<|bh 3 U<|AL U He fun Y=>fG U HJ U<|bh 1 U<|RK L<|ah fun _ M=>WS fun _ N=>rP 2 [] I ?_
 refine RK N<|cM U (bq fun he=>?_) (bp fun he=>?_)
 ·refine WS fun _ O=>rS (SX (aZ (xs:=[]) (cs:=(aa.cells (aa.mk 0 0))) U U (bf gR U)) U U)<|bh 1 U<|sD U cx U<|rP 1 [] I ?_
  refine RK O<|ao<|mO hQ [0] (mc 1 U I) U ?_
  (have e:=ED (s:=s) (we he).1; rw [e.1,e.2,(we he).2]<;>rfl)
 refine WK M<|ah fun _ C=>WS fun _ D=>?_
 have B:=AV he
 have H:=jh B
 have R:=jR B
 refine rP 2 [0,1] (mc 0 U (mc 2 U I)) ?_
 refine cH (xs:=[.tmp 20]) (cs:=(ck.cells s)) U Gb zd U U U U (by simp [Value.cells,ck.aO]) U U fun AB=>?_
 refine rS (CL (dR.eq (zu ts tsA tsC ([s]) (some ⟨AB,0,none⟩) 1 asm asm (by (simp; done))) Bb) (eL 5 U U<|al (aV 0 U U (by simp [ck.aO]) U)<|aD) U) ?_
 refine rP 1 [] I ?_
 refine RK D<|cM U (bq fun A=>?_) (bp fun A=>?_)
 ·refine WS fun _ E=>rS (SX (aZ (xs:=[]) (cs:=(aa.cells (aa.mk 0 0))) U U (bf gR U)) U U)<|CH U cx U<|rP 1 [] I ?_
  refine RK E<|ao<|mO hQ [0] (mc 2 U I) U ?_
  (have e:=Ft B A; rw [e.1,e.2]<;>rfl)
 refine WK C<|WS fun _ F=>?_
 have AA:=A.1
 have P:=ow H A
 refine fr 3 [0,1] (mc 1 U (mc 3 U I)) U<|rS (CL (HC ts tsA tsC 0 s.aP asm asm om) (a_ [5]) U)<|bh 3 U<|AL U dk fun S=>AL U dk fun T=>sD U cx U<|fG U cx U<|RK F<|WS fun _ G=>rP 2 [] (mc 1 U I) ?_
 refine rS (LP (aa.cells s.lp) 5 U ct U U U)<|cH (xs:=[.tmp 34]) (cs:=(aa.cells s.lp)) U gS dk U U U U (by simp [Value.cells,aa.aO]) U U fun J=>?_
 refine rS (CL (dR.eq (nK (dQ ts (0:Int).toNat (s.aP-0).toNat) ([s.lp]) (some ⟨J,0,none⟩) 1 (by exact oO H om) (by intro z hz; simp only [bJ] at hz; subst hz; exact P) sm) l7) (al (aV 0 rfl rfl (by simp [aa.aO]) rfl)<|aD) rfl) ?_
 refine IE U cx U<|rP 1 [] I ?_
 refine RK G<|ao<|mO hQ [0] (mc 5 U I) U ?_
 (have e:=tY B A; rw [e.1,e.2]; unfold HU; rw [show (s.aP-0).toNat=s.aP.toNat by rw [Int.sub_zero]]<;>rfl)
theorem H5 (ts:List ai) (tsA:OA) (tsC:Nat) (p:ck) (q:ck) (hlen:ts.length≤1000000) (hside: ∀ x∈ts,0≤x.ir∧x.ir≤255):
 dR Tryz.prog 136 [(vA (bD.cells (bD.mk (bk.mk tsA ts.length tsC)))),(vA (ck.cells p)),(vA (ck.cells q))] [(rd tsA ts.length 9 (ts.map ai.cells))] (vT [(vA (aa.cells (jQ ts p q))),(vI (kG ts p q))]):=by
 refine bE kr Tryz.func136 U U fun w Q hQ hN=>?_
 try dsimp only
 refine WS fun _ c=>fY U fun r=>fY U fun s=>fY U fun t=>AL U dk fun u=>bh 1 U<|RK c<|WS fun _ d=>fr 1 [] (mc 3 U I) U<|rS (CL (BF ts tsA tsC hlen hside) (a_ [4]) U)<|bh 3 U<|AL U He fun v=>fG U HJ U<|bh 1 U<|RK d<|ah fun _ g=>WS fun _ h=>rP 2 [] I ?_
 refine RK h<|cM U (bq fun he=>?_) (bp fun he=>?_)
 ·refine WS fun _ G=>rS (SX (aZ (xs:=[]) (cs:=(aa.cells (aa.mk 0 0))) U U (bf gR U)) U U)<|bh 1 U<|sD U cx U<|rP 1 [] I ?_
  refine RK G<|ao<|mO hQ [0] (mc 1 U I) U ?_
  (have e:=q_ (a:=p) (b:=q) (we he).1; rw [e.1,e.2,(we he).2]<;>rfl)
 refine WK g<|ah fun _ H=>WS fun _ AC=>?_
 have A:=AV he
 have F:=jh A
 have j:=jR A
 refine rP 3 [0,1,2] (mc 0 U (mc 3 U (mc 2 U I))) ?_
 refine cH (xs:=[.tmp 22,.tmp 23]) (cs:=((ck.cells p)++(ck.cells q))) U Gb zd U U U U (by simp [Value.cells,ck.aO]) U U fun X=>?_
 refine rS (CL (dR.eq (zu ts tsA tsC ([p,q]) (some ⟨X,0,none⟩) 2 asm asm (by (simp; done))) AA) (eL 6 U U<|al (aV 0 U U (by simp [ck.aO]) U)<|aD) U) ?_
 refine rP 1 [] I ?_
 refine RK AC<|cM U (bq fun D=>?_) (bp fun D=>?_)
 ·refine WS fun _ J=>rS (SX (aZ (xs:=[]) (cs:=(aa.cells (aa.mk 0 0))) U U (bf gR U)) U U)<|CH U cx U<|rP 1 [] I ?_
  refine RK J<|ao<|mO hQ [0] (mc 2 U I) U ?_
  (have e:=nC A D; rw [e.1,e.2]<;>rfl)
 refine WK H<|WS fun _ K=>?_
 obtain ⟨hp,hq⟩:=D
 have n:=hp.1
 have o:=hq.1
 have i:=ow F hp
 have W:=ow F hq
 have V:=wX i
 have B:=oO F (f:=(min p.aP q.aP).toNat) (k:=(max p.aP q.aP-min p.aP q.aP).toNat) om
 refine fr 5 [0,1,2] (mc 1 U (mc 4 U (mc 3 U I))) U<|rS (MN U)<|fr 4 [0,1] (mc 4 U (mc 3 U I)) U<|rS (MX U)<|rS (CL (HC ts tsA tsC (min p.aP q.aP) (max p.aP q.aP) asm asm om) (a_ [6]) U)<|bh 3 U<|AL U dk fun l=>AL U dk fun m=>sD U cx U<|fG U cx U<|RK K<|ah fun _ C=>WS fun _ L=>rP 5 [0,1] (mc 5 U (mc 6 U I)) ?_
 refine RK L<|bT U (aR fun E=>?_) (aQ fun E=>?_)
 ·refine WK C<|ah fun _ N=>ek cE [6,7,8] [] [] [0,1,2,3,5,6,7,8] [] U U U U U<|eS U (LW 1 U ct U U)<|eS U (FA 1 U fB U)<|eS U (LP (aa.cells q.lp) 4 U ct U U U)<|eS U (FA 1 U fB U)<|eS U (LP (aa.cells p.lp) 5 U ct U U U)<|eS U (CL (z_ p.lp asm) (aD) U)<|eS U (AG U)<|ff U<|cf U fun T26 S=>cH (xs:=[.tmp 52,.tmp 55]) (cs:=((aa.cells q.lp)++(aa.cells (mV p.lp)))) U gS dk U U U U (by simp [Value.cells,aa.aO]) U U fun Z=>aG (S _ _ (aK [1,2,3,4,6,7,8,9]) ?_)
  refine cf U fun T28 T=>?_
  refine rS (CL (dR.eq (nK (dQ ts (min p.aP q.aP).toNat ((max p.aP q.aP)-(min p.aP q.aP)).toNat) ([q.lp,(mV p.lp)]) (some ⟨Z,0,none⟩) 2 (by first|exact B|exact wX B) (by intro z hz; simp only [bw,List.not_mem_nil,or_false] at hz; rcases hz with rfl|rfl; exact W; exact V) sm) zh) (al (aV 0 rfl rfl (by simp [aa.aO]) rfl)<|aD) rfl) ?_
  refine aG (T _ _ (aK [1,2,3,4,6,7,8,9]) ?_)
  refine cf U fun T29 AB=>IE U cx U<|aG (AB _ _ (aK [1,2,3,4,6,7,8,9]) ?_)
  refine fV U<|KK N<|ao<|mO hQ [0] (mc 5 U I) U ?_
  (have e:=j7 A ⟨hp,hq⟩; rw [e.1,e.2]; unfold i_ tQ; rw [if_neg E]<;>rfl)
 refine an<|rP 1 [] (mc 1 U I) ?_
 refine rS (CL (z_ (dQ ts (min p.aP q.aP).toNat ((max p.aP q.aP)-(min p.aP q.aP)).toNat) asm) (aD) U)<|sD U cx U<|RK C<|ah fun _ M=>ek cE [6,7,8] [] [] [0,1,2,3,5,6,7,8] [] U U U U U<|eS U (LW 1 U ct U U)<|eS U (FA 1 U fB U)<|eS U (LP (aa.cells q.lp) 4 U ct U U U)<|eS U (FA 1 U fB U)<|eS U (LP (aa.cells p.lp) 5 U ct U U U)<|eS U (CL (z_ p.lp asm) (aD) U)<|eS U (AG U)<|ff U<|cf U fun T21 O=>cH (xs:=[.tmp 52,.tmp 55]) (cs:=((aa.cells q.lp)++(aa.cells (mV p.lp)))) U gS dk U U U U (by simp [Value.cells,aa.aO]) U U fun Y=>aG (O _ _ (aK [1,2,3,4,6,7,8,9]) ?_)
 refine cf U fun T23 P=>?_
 refine rS (CL (dR.eq (nK (mV (dQ ts (min p.aP q.aP).toNat ((max p.aP q.aP)-(min p.aP q.aP)).toNat)) ([q.lp,(mV p.lp)]) (some ⟨Y,0,none⟩) 2 (by first|exact B|exact wX B) (by intro z hz; simp only [bw,List.not_mem_nil,or_false] at hz; rcases hz with rfl|rfl; exact W; exact V) sm) zh) (al (aV 0 rfl rfl (by simp [aa.aO]) rfl)<|aD) rfl) ?_
 refine aG (P _ _ (aK [1,2,3,4,6,7,8,9]) ?_)
 refine cf U fun T24 R=>IE U cx U<|aG (R _ _ (aK [1,2,3,4,6,7,8,9]) ?_)
 refine fV U<|KK M<|ao<|mO hQ [0] (mc 5 U I) U ?_
 (have e:=j7 A ⟨hp,hq⟩; rw [e.1,e.2]; unfold i_ tQ; rw [if_pos E]<;>rfl)
theorem po (ts:List ai) (tsA:OA) (tsC:Nat) (s:ck) (hst: ∀ x∈ts,bH x) (hlen:ts.length≤12):
 dR Tryz.prog 93 [(vA (bD.cells (bD.mk (bk.mk tsA ts.length tsC)))),(vA (ck.cells s))] [(rd tsA ts.length 9 (ts.map ai.cells))] (vB (decide (eE ts s))):=by
 refine bE kr Tryz.func93 U U fun H Q hQ hN=>?_
 try dsimp only
 refine WS fun _ C=>fY U fun F=>fY U fun G=>bh 1 U<|RK C<|ah fun _ A=>dF cE 22 kr<|mQ 6 [0,1] (mc 0 U (mc 1 U I)) U<|dS (CL (nx s.aP 0 ((ts.length:Int)-1)) (aD) U)<|dP 1 [] I ?_
 refine jL (t:=12) U (aR fun B=>?_) (aQ fun B=>?_)
 ·refine lQ 8 U<|dP 6 [] I ?_
  refine cQ<|RK A<|ao<|Q1 hQ U U U ?_
  (refine cB ?_; rw [cm (yA om)])
 refine lQ 1 U<|dS (LP (aa.cells s.lp) 0 U ct U U U)<|dP 4 [0,1] (mc 1 U (mc 0 U I)) ?_
 obtain ⟨x,hx⟩:=aM ts ((s.aP).toNat) om
 have D:=bW ai.cells hx
 refine dS (IA ((s.aP).toNat) U (aJ 2 U) uU dc om om)<|dS (pt ((((s.aP).toNat)*9)+1) U (aJ 2 U) (Nat.mul_pos om dc) fB U) ?_
 have E:=(hst x (aT hx)).2.1
 simp only [dp] at E
 refine dS (pt ((((s.aP).toNat)*9)+1) U (aJ 2 U) (Nat.mul_pos om dc) fB U)<|dS (g_ ((s.aP).toNat) 1 (vI x.jH.Lo) U ct (aJ 2 U) D U dc U)<|lQ 1 U<|dS (CL (nI s.lp 0 (x.jH.Lo-1)) (aD) U)<|dP 2 [] I ?_
 refine cQ<|RK A<|ao<|Q1 hQ U U U ?_
 exact cB (gd.2 (zw om hx).symm)
theorem xG (ts:List ai) (tsA:OA) (tsC:Nat) (f t:Int) (hst: ∀ x∈ts,bH x) (hlen:ts.length≤12) (hf:0≤f∧f≤t∧t≤ts.length):
 dR Tryz.prog 171 [(vA (bD.cells (bD.mk (bk.mk tsA ts.length tsC)))),(vI f),(vI t)] [(rd tsA ts.length 9 (ts.map ai.cells))] (vT [(vA (aa.cells (dQ ts f.toNat (t-f).toNat))),(vA (aa.cells (fq ts f.toNat (t-f).toNat)))]):=by
 refine bE kr Tryz.func171 U U fun i Q hQ hN=>?_
 try dsimp only
 refine WS fun _ R=>fY U fun e=>AL U dk fun g=>AL U dk fun h=>RK R<|WS fun _ S=>AL U dk fun a=>AL U dk fun b=>RK S<|ah fun _ T=>WS fun _ AA=>rP 2 [] I ?_
 refine RK AA<|aA ?_
 have A:(0≤(t-f).toNat):=by exact Nat.zero_le _
 have K:(vI (f+(0:Int)))=(vI f):=by exact cI om
 refine bR (ι:={z:Nat // (z≤(t-f).toNat)}) [1,2,3,6,7,8,9] [2,3,4,5] U U (fun z=>[(10,(vI (f+(z.1:Int))))]) (fun z=>[(bQ b 45 (aa.cells (fq ts f.toNat z.1))),(bQ a 45 (aa.cells (dQ ts f.toNat z.1)))]) (fun _=>rfl) (fun _=>rfl) (fun z=>(t-f).toNat-z.1) ⟨0,A⟩ (bG U K<|ee.nil _) (aK [2,3,4,5,0,1]) ?_
 clear A
 rintro ⟨k,V⟩ J11 B
 try dsimp only
 refine ah fun _ C=>WS fun _ D=>rP 3 [] I ?_
 refine RK D<|bT U (aR fun P=>?_) (aQ fun P=>?_)
 ·refine bI<|ae<|ae<|aC<|KK T<|ah fun _ H=>ek cE [2,3] [] [] [2,3,4,5] [] U U U U U<|eS U (LW 3 U ct U U)<|eS U (LW 2 U ct U U)<|ff U<|cf U fun T23 AB=>sD U cx U<|aG (AB _ _ (aK [2,3,4,5]) ?_)
  refine cf U fun T24 J=>fG U cx U<|aG (J _ _ (aK [2,3,4,5]) ?_)
  refine fV U<|KK H<|ao<|mO hQ [0,1] (mc 1 U (mc 0 U I)) U ?_
  obtain rfl:k=(t-f).toNat:=om; rfl
 refine WK C<|ah fun _ E=>aA<|WS fun _ F=>rP 3 [] (mc 2 U I) ?_
 obtain ⟨x,hx⟩:=aM ts (f.toNat+k) om
 have Y:=bW ai.cells hx
 refine rS (IA (f.toNat+k) U (aJ 3 U) uU dc om om)<|rS (n9 (f.toNat+k) 0 (ai.cells x) U ct (aJ 3 U) Y U dc U U)<|AL U Cb fun Z=>fG U FB U<|RK F<|WS fun _ G=>?_
 have O:=hst x (aT hx)
 have d:=kQ hst f.toNat k
 have c:=Bs hst f.toNat k
 have W:=O.2.1
 have X:=O.2.2.1
 simp only [dp] at W X
 refine fr 12 [0,1,0,1] (mc 6 U (mc 0 U I)) U<|rS (SX (aZ (xs:=[(0,.tmp 28),(1,.tmp 34)]) (cs:=(aa.cells (aa.mk (((dQ ts f.toNat k).Lo)+x.jH.Lo) (((dQ ts f.toNat k).Hi)+x.jH.Hi)))) U U (bf gR U)) U U)<|Kk U cx U<|RK G<|an<|rP 12 [0,1,0,1] (mc 5 U (mc 0 U I)) ?_
 refine rS (SX (aZ (xs:=[(0,.tmp 41),(1,.tmp 47)]) (cs:=(aa.cells (aa.mk (((fq ts f.toNat k).Lo)+x.kx.Lo) (((fq ts f.toNat k).Hi)+x.kx.Hi)))) U U (bf gR U)) U U)<|IE U cx U<|aG<|aF<|KK E ?_
 have L:(aa.cells (aa.mk (((dQ ts f.toNat k).Lo)+x.jH.Lo) (((dQ ts f.toNat k).Hi)+x.jH.Hi)))=(aa.cells (dQ ts f.toNat (k+1))):=by rw [nT hx]; rfl
 rw [L]
 have M:(aa.cells (aa.mk (((fq ts f.toNat k).Lo)+x.kx.Lo) (((fq ts f.toNat k).Hi)+x.kx.Hi)))=(aa.cells (fq ts f.toNat (k+1))):=by rw [nM hx]; rfl
 rw [M]
 refine an<|rP 3 [] I ?_
 refine aG ?_
 have N:(vI (f+(((k+1):Nat):Int)))=(vI ((f+(k:Int))+1)):=by exact cI om
 refine bg (B ⟨(k+1),(by first|omega|(simp only []; omega))⟩ _ _ _ U os (dx 7<|bG U N<|ee.nil _) (aK [1,2,3,4,5,6]))
end
section
open Go.RowKit
theorem jD (n lo hi:Int):
 dR Tryz.prog 91 [(vI n),(vI lo),(vI hi)] [] (vB (decide (lo≤n∧n≤hi))):=by
 refine bE kr Tryz.func91 U U fun D Q hQ hN=>?_
 try dsimp only
 refine WS fun _ B=>bh 1 U<|RK B<|WS fun _ A=>rP 4 [] I ?_
 refine cK (t:=10) U (aQ fun C=>?_) (aR fun C=>?_)
 ·refine rP 5 [] I ?_
  refine RK A<|ao<|Q1 hQ U U U ?_
  exact cB (gd.2 om)
 refine rP 5 [] I ?_
 refine RK A<|ao<|Q1 hQ U U U ?_
 exact cB (cm om).symm
theorem xM (ts:List ai) (tsA:OA) (tsC:Nat) (hst: ∀ x∈ts,bH x) (hlen:ts.length≤12):
 lq Tryz.prog 170 [(vA (bD.cells (bD.mk (bk.mk tsA ts.length tsC))))] [(rd tsA ts.length 9 (ts.map ai.cells))] (fun (x:(OA)×Nat)=>(vS x.1 ((gu ts (ts.length+1)).length) x.2)) (fun (x:(OA)×Nat)=>True) (fun (x:(OA)×Nat)=>[(own x.1 x.2 45 2 ((gu ts (ts.length+1)).map aa.cells))]):=by
 refine de kr Tryz.func170 U U fun V Q hQ hN=>?_
 try dsimp only
 refine WS fun _ J=>fY U fun AA=>bh 1 U<|RK J<|WS fun _ K=>bh 1 U<|RK K<|ah fun _ L=>WS fun _ M=>rP 1 [] I ?_
 refine RK M<|aA<|gI 45 2 ?_
 have A:(0≤ts.length+1):=by exact Nat.zero_le _
 refine bR (ι:={z:Nat×(OA)×Nat // (z.1≤ts.length+1)}) [1] [1,2] U U (fun z=>[(3,(vS z.1.2.1 ((gu ts z.1.1).length) z.1.2.2)),(4,(vI (z.1.1:Int)))]) (fun z=>[(own z.1.2.1 z.1.2.2 45 2 ((gu ts z.1.1).map aa.cells))]) (fun _=>rfl) (fun _=>rfl) (fun z=>ts.length+1-z.1.1) ⟨(0,none,0),A⟩ (aW U) (aK [1,2,0]) ?_
 clear A
 rintro ⟨⟨i,a,c⟩,B⟩ J6 AB
 try dsimp only at B
 try dsimp only
 refine ah fun _ N=>WS fun _ O=>rP 5 [] (mc 0 U I) ?_
 refine RK O<|bT U (aR fun T=>?_) (aQ fun T=>?_)
 ·refine bI<|ae<|ae<|aC<|KK L<|WS fun _ E=>?_
  obtain rfl:i=ts.length+1:=by omega
  refine rP 2 [] I ?_
  refine RK E<|ao<|LX hQ (a,c) [2] [] I U U U U ?_
  trivial
 refine WK N<|ah fun _ C=>aA<|WS fun _ D=>fr 2 [] (mc 0 U I) U<|rS (CL (xG ts tsA tsC 0 (i:Int) hst hlen om) (a_ [1]) U)<|bh 3 U<|AL U dk fun P=>AL U dk fun R=>sD U cx U<|fG U cx U<|RK D<|an<|rP 2 [] (mc 1 U I) ?_
 refine cH (xs:=[.tmp 21]) (cs:=(aa.cells (dQ ts (0:Int).toNat ((i:Int)-0).toNat))) U gS dk U U U U (by simp [Value.cells,aa.aO]) U U fun S=>?_
 refine ei (es2:=(List.map aa.cells (gu ts (i+1)))) (m':=(gu ts (i+1)).length) 5 U U U yr U U sm (aV (es:=List.map aa.cells [(dQ ts (0:Int).toNat ((i:Int)-0).toNat)]) 0 U U (by simp [aa.aO]) U) (iI _) (by simp only [mY]; omega) (by simp only [maxLen,mY]; omega) (by rw [yf]; simp) sm U fun G H=>?_
 try dsimp only
 refine bh 1 U<|aG<|aF<|KK C<|an<|rP 3 [] I ?_
 refine aG ?_
 have F:(vI (((i+1):Nat):Int))=(vI ((i:Int)+1)):=by exact cI om
 refine bg (AB ⟨((i+1),G,H),(by first|omega|(simp only []; omega))⟩ _ _ _ U os (ee.cons U<|ee.cons U<|bG U F<|ee.nil _) (aK [3,4,5]))
theorem Nf (ts:List ai) (tsA:OA) (tsC:Nat) (s:ck) (hlen:ts.length≤1000000) (hside: ∀ x∈ts,0≤x.ir∧x.ir≤255):
 dR Tryz.prog 133 [(vA (bD.cells (bD.mk (bk.mk tsA ts.length tsC)))),(vA (ck.cells s))] [(rd tsA ts.length 9 (ts.map ai.cells))] (vT [(vA (aa.cells (K7 ts s))),(vI (B_ ts s))]):=by
 refine bE kr Tryz.func133 U U fun r Q hQ hN=>?_
 try dsimp only
 refine WS fun _ R=>fY U fun i=>fY U fun k=>AL U dk fun l=>bh 1 U<|RK R<|ah fun _ S=>WS fun _ T=>fr 1 [] (mc 2 U I) U<|rS (CL (sR ts tsA tsC hlen) (a_ [3]) U)<|rP 1 [] I ?_
 refine RK T<|cM U (fun AB=>?_) (fun AB=>?_)
 ·rw [Bool.not_eq_true'] at AB
  refine WS fun _ AA=>rS (SX (aZ (xs:=[]) (cs:=(aa.cells (aa.mk 0 0))) U U (bf gR U)) U U)<|fG U cx U<|rP 1 [] I ?_
  refine RK AA<|ao<|mO hQ [0] (mc 0 U I) U ?_
  (have e:=ED (s:=s) (by simpa using AB); rw [e.1,e.2]<;>rfl)
 rw [Bool.not_eq_false'] at AB
 refine WK S<|ah fun _ V=>WS fun _ W=>?_
 have M:=jh AB
 have Z:=jR AB
 refine fr 2 [0,1] (mc 2 U (mc 1 U I)) U<|rS (CL (po ts tsA tsC s asm asm) (a_ [3]) U)<|rP 1 [] I ?_
 refine RK W<|cM U (bq fun D=>?_) (bp fun D=>?_)
 ·refine WS fun _ O=>rS (SX (aZ (xs:=[]) (cs:=(aa.cells (aa.mk 0 0))) U U (bf gR U)) U U)<|fG U cx U<|rP 1 [] I ?_
  refine RK O<|ao<|mO hQ [0] (mc 0 U I) U ?_
  (have e:=Ft AB D; rw [e.1,e.2]<;>rfl)
 refine WK V<|ah fun _ H=>pj cE [0,2,3] [1,4,5,6,7] [false,false,false] [] [(bQ l 45 (aa.cells (aa.mk 0 0))),(bQ k 158 (ck.cells s)),(bQ i 24 (bD.cells (bD.mk (bk.mk tsA ts.length tsC)))),(rd tsA ts.length 9 (ts.map ai.cells)).ro] [] kr (aK [0,1,2,3]) (aK []) ?_
 have q:=D.1
 have N:=ow M D
 have p:(gu ts (ts.length+1)).length=ts.length+1:=mY
 refine eS U (LW 2 U ct U U)<|eS U (FA 0 U fB U)<|eS U (L1 (vI s.aP) 1 U ct U U)<|ff U<|g6 [1,6] kr (dW ?_<|dW ?_<|jG)
 rotate_left 1
 ·refine NO U U [1,4,5,7] fun T12 J=>AL U dk fun f=>RD J 1 U<|N1 1<|NO U U [4,5,7] fun T14 P=>cX (xM ts tsA tsC asm asm) (a_ [4]) U fun Y b=>?_
  obtain ⟨d,o⟩:=Y
  try dsimp only
  refine RD P 2 U<|N1 4<|NO U U [5,7] fun T19 E=>?_
  obtain ⟨z,hz⟩:=aM (gu ts (ts.length+1)) ((s.aP).toNat) om
  have A:=bW aa.cells hz
  refine rS (IA ((s.aP).toNat) U (ag (n:=(gu ts (ts.length+1)).length) 0 U sm) gS dc om om)<|RD E 2 U<|N1 5<|NO U U [7] fun T20 F=>rS (n9 ((s.aP).toNat) 0 (aa.cells z) U ct (ag (n:=(gu ts (ts.length+1)).length) 0 U sm) A U dc U U)<|RD F 2 U<|N1 7<|NO U U [] fun T21 C=>sD U cx U<|RD C 2 U<|n_<|KK H<|WS fun _ B=>rP 1 [] I ?_
  have A:=nP hz
  have G:=kQ M 0 s.aP.toNat
  unfold kl at N
  rw [← A] at G
  refine fr 11 [0,1,0,1] (mc 1 U (mc 3 U I)) U<|rS (SX (aZ (xs:=[(0,.tmp 27),(1,.tmp 33)]) (cs:=(aa.cells (aa.mk (z.Lo+s.lp.Lo) (z.Hi+s.lp.Hi)))) U U (bf gR U)) U U)<|CH U cx U<|rP 1 [] I ?_
  refine RK B<|ao<|mO hQ [0] (mc 2 U I) U ?_
  (have e:=tY AB D; subst A; rw [e.1,e.2]<;>rfl)
 refine NO U U [4,5,6,7] fun T12 J=>cX (xM ts tsA tsC asm asm) (a_ [3]) U fun X a=>?_
 obtain ⟨c,m⟩:=X
 try dsimp only
 refine RD J 1 U<|g6 [4,6] kr (dW ?_<|dW ?_<|jG)
 rotate_left 1
 ·refine NO U U [4,5,7] fun T17 K=>AL U dk fun g=>RD K 2 U<|N1 4<|NO U U [5,7] fun T19 E=>?_
  obtain ⟨z,hz⟩:=aM (gu ts (ts.length+1)) ((s.aP).toNat) om
  have A:=bW aa.cells hz
  refine rS (IA ((s.aP).toNat) U (ag (n:=(gu ts (ts.length+1)).length) 1 U sm) gS dc om om)<|RD E 2 U<|N1 5<|NO U U [7] fun T20 F=>rS (n9 ((s.aP).toNat) 0 (aa.cells z) U ct (ag (n:=(gu ts (ts.length+1)).length) 1 U sm) A U dc U U)<|RD F 2 U<|N1 7<|NO U U [] fun T21 C=>fG U cx U<|RD C 2 U<|n_<|KK H<|WS fun _ B=>rP 1 [] I ?_
  have A:=nP hz
  have G:=kQ M 0 s.aP.toNat
  unfold kl at N
  rw [← A] at G
  refine fr 11 [0,1,0,1] (mc 0 U (mc 3 U I)) U<|rS (SX (aZ (xs:=[(0,.tmp 27),(1,.tmp 33)]) (cs:=(aa.cells (aa.mk (z.Lo+s.lp.Lo) (z.Hi+s.lp.Hi)))) U U (bf gR U)) U U)<|CH U cx U<|rP 1 [] I ?_
  refine RK B<|ao<|mO hQ [0] (mc 2 U I) U ?_
  (have e:=tY AB D; subst A; rw [e.1,e.2]<;>rfl)
 refine NO U U [5,6,7] fun T17 K=>?_
 obtain ⟨z,hz⟩:=aM (gu ts (ts.length+1)) ((s.aP).toNat) om
 have A:=bW aa.cells hz
 refine rS (IA ((s.aP).toNat) U (ag (n:=(gu ts (ts.length+1)).length) 0 U sm) gS dc om om)<|RD K 1 U<|g6 [5,6] kr (dW ?_<|dW ?_<|jG)
 rotate_left 1
 ·refine NO U U [5,7] fun T18 L=>AL U dk fun h=>RD L 2 U<|N1 5<|NO U U [7] fun T20 F=>rS (n9 ((s.aP).toNat) 0 (aa.cells z) U ct (ag (n:=(gu ts (ts.length+1)).length) 1 U sm) A U dc U U)<|RD F 2 U<|N1 7<|NO U U [] fun T21 C=>fG U cx U<|RD C 2 U<|n_<|KK H<|WS fun _ B=>rP 1 [] I ?_
  have A:=nP hz
  have G:=kQ M 0 s.aP.toNat
  unfold kl at N
  rw [← A] at G
  refine fr 11 [0,1,0,1] (mc 0 U (mc 3 U I)) U<|rS (SX (aZ (xs:=[(0,.tmp 27),(1,.tmp 33)]) (cs:=(aa.cells (aa.mk (z.Lo+s.lp.Lo) (z.Hi+s.lp.Hi)))) U U (bf gR U)) U U)<|CH U cx U<|rP 1 [] I ?_
  refine RK B<|ao<|mO hQ [0] (mc 2 U I) U ?_
  (have e:=tY AB D; subst A; rw [e.1,e.2]<;>rfl)
 refine NO U U [6,7] fun T18 L=>rS (n9 ((s.aP).toNat) 0 (aa.cells z) U ct (ag (n:=(gu ts (ts.length+1)).length) 0 U sm) A U dc U U)<|RD L 1 U<|N1 6<|NO U U [7] fun T19 E=>AL U dk fun j=>RD E 2 U<|N1 7<|NO U U [] fun T21 C=>fG U cx U<|RD C 2 U<|n_<|KK H<|WS fun _ B=>rP 1 [] I ?_
 have A:=nP hz
 have G:=kQ M 0 s.aP.toNat
 unfold kl at N
 rw [← A] at G
 refine fr 11 [0,1,0,1] (mc 0 U (mc 3 U I)) U<|rS (SX (aZ (xs:=[(0,.tmp 27),(1,.tmp 33)]) (cs:=(aa.cells (aa.mk (z.Lo+s.lp.Lo) (z.Hi+s.lp.Hi)))) U U (bf gR U)) U U)<|CH U cx U<|rP 1 [] I ?_
 refine RK B<|ao<|mO hQ [0] (mc 2 U I) U ?_
 (have e:=tY AB D; subst A; rw [e.1,e.2]<;>rfl)
theorem Db (ts:List ai) (tsA:OA) (tsC:Nat) (p:ck) (q:ck) (hlen:ts.length≤1000000) (hside: ∀ x∈ts,0≤x.ir∧x.ir≤255) (hord: ¬ q.aP<p.aP):
 dR Tryz.prog 134 [(vA (bD.cells (bD.mk (bk.mk tsA ts.length tsC)))),(vA (ck.cells p)),(vA (ck.cells q))] [(rd tsA ts.length 9 (ts.map ai.cells))] (vT [(vA (aa.cells (jQ ts p q))),(vI (kG ts p q))]):=by
 refine bE kr Tryz.func134 U U fun k Q hQ hN=>?_
 try dsimp only
 refine WS fun _ N=>fY U fun f=>fY U fun g=>fY U fun i=>AL U dk fun j=>bh 1 U<|RK N<|ah fun _ O=>WS fun _ P=>fr 1 [] (mc 3 U I) U<|rS (CL (sR ts tsA tsC hlen) (a_ [4]) U)<|rP 1 [] I ?_
 refine RK P<|cM U (fun A=>?_) (fun A=>?_)
 ·rw [Bool.not_eq_true'] at A
  refine WS fun _ R=>rS (SX (aZ (xs:=[]) (cs:=(aa.cells (aa.mk 0 0))) U U (bf gR U)) U U)<|fG U cx U<|rP 1 [] I ?_
  refine RK R<|ao<|mO hQ [0] (mc 0 U I) U ?_
  (have e:=q_ (a:=p) (b:=q) (by simpa using A); rw [e.1,e.2]<;>rfl)
 rw [Bool.not_eq_false'] at A
 refine WK O<|ah fun _ S=>WS fun _ E=>?_
 have D:=jh A
 have M:=jR A
 refine fr 2 [0,1] (mc 3 U (mc 2 U I)) U<|rS (CL (po ts tsA tsC p asm asm) (a_ [4]) U)<|rP 2 [] I ?_
 refine cK (t:=20) U (bq fun B=>?_) (bp fun B=>?_)
 ·refine bh 5 U<|RK E<|aL U<|WS fun _ G=>rS (SX (aZ (xs:=[]) (cs:=(aa.cells (aa.mk 0 0))) U U (bf gR U)) U U)<|fG U cx U<|rP 1 [] I ?_
  refine RK G<|ao<|mO hQ [0] (mc 0 U I) U ?_
  (have e:=nC (a:=p) (b:=q) A (fun h=>by first|exact B h.1|exact C h.2); rw [e.1,e.2]<;>rfl)
 refine fr 2 [0,1] (mc 3 U (mc 1 U I)) U<|rS (CL (po ts tsA tsC q asm asm) (a_ [4]) U)<|rP 2 [] I ?_
 refine RK E<|cM U (bq fun C=>?_) (bp fun C=>?_)
 ·refine WS fun _ H=>rS (SX (aZ (xs:=[]) (cs:=(aa.cells (aa.mk 0 0))) U U (bf gR U)) U U)<|fG U cx U<|rP 1 [] I ?_
  refine RK H<|ao<|mO hQ [0] (mc 0 U I) U ?_
  (have e:=nC (a:=p) (b:=q) A (fun h=>by first|exact B h.1|exact C h.2); rw [e.1,e.2]<;>rfl)
 refine WK S<|ah fun _ AB=>WS fun _ J=>?_
 have AA:eE ts p∧eE ts q:=⟨B,C⟩
 have T:=ow D B
 have V:=ow D C
 have c:=B.1
 have d:=C.1
 have Y:=uC D M C B
 unfold kl at T V
 refine rP 5 [0,1] (mc 1 U (mc 2 U I)) ?_
 refine RK J<|cM U (aQ fun F=>?_) (aR fun F=>?_)
 ·exfalso; omega
 refine WK AB<|WS fun _ K=>rP 2 [] (mc 3 U I) ?_
 have Z:=kQ D p.aP.toNat (q.aP-p.aP).toNat
 refine fr 3 [0,1] (mc 2 U (mc 1 U I)) U<|rS (CL (xG ts tsA tsC p.aP q.aP asm asm om) (a_ [4]) U)<|bh 3 U<|AL U dk fun W=>AL U dk fun X=>sD U cx U<|fG U cx U<|RK K<|WS fun _ L=>fr 20 [0,1,2,0,1,2] (mc 1 U (mc 3 U (mc 4 U I))) U<|rS (SX (aZ (xs:=[(0,.tmp 64),(1,.tmp 74)]) (cs:=(aa.cells (aa.mk ((((dQ ts p.aP.toNat (q.aP-p.aP).toNat).Lo)+q.lp.Lo)-p.lp.Hi) ((((dQ ts p.aP.toNat (q.aP-p.aP).toNat).Hi)+q.lp.Hi)-p.lp.Lo)))) U U (bf gR U)) U U)<|CH U cx U<|rP 1 [] I ?_
 refine RK L<|ao<|mO hQ [0] (mc 2 U I) U ?_
 (have e:=j7 A AA; rw [e.1,e.2,oJ F]<;>rfl)
theorem Gz (ts:List ai) (tsA:OA) (tsC:Nat) (p:ck) (q:ck) (hlen:ts.length≤1000000) (hside: ∀ x∈ts,0≤x.ir∧x.ir≤255):
 dR Tryz.prog 134 [(vA (bD.cells (bD.mk (bk.mk tsA ts.length tsC)))),(vA (ck.cells p)),(vA (ck.cells q))] [(rd tsA ts.length 9 (ts.map ai.cells))] (vT [(vA (aa.cells (jQ ts p q))),(vI (kG ts p q))]):=by
 refine bE kr Tryz.func134 U U fun u Q hQ hN=>?_
 try dsimp only
 refine WS fun _ S=>fY U fun n=>fY U fun o=>fY U fun r=>AL U dk fun s=>bh 1 U<|RK S<|ah fun _ T=>WS fun _ AA=>fr 1 [] (mc 3 U I) U<|rS (CL (sR ts tsA tsC hlen) (a_ [4]) U)<|rP 1 [] I ?_
 refine RK AA<|cM U (fun A=>?_) (fun A=>?_)
 ·rw [Bool.not_eq_true'] at A
  refine WS fun _ V=>rS (SX (aZ (xs:=[]) (cs:=(aa.cells (aa.mk 0 0))) U U (bf gR U)) U U)<|fG U cx U<|rP 1 [] I ?_
  refine RK V<|ao<|mO hQ [0] (mc 0 U I) U ?_
  (have e:=q_ (a:=p) (b:=q) (by simpa using A); rw [e.1,e.2]<;>rfl)
 rw [Bool.not_eq_false'] at A
 refine WK T<|ah fun _ W=>WS fun _ E=>?_
 have D:=jh A
 have P:=jR A
 refine fr 2 [0,1] (mc 3 U (mc 2 U I)) U<|rS (CL (po ts tsA tsC p asm asm) (a_ [4]) U)<|rP 2 [] I ?_
 refine cK (t:=20) U (bq fun B=>?_) (bp fun B=>?_)
 ·refine bh 5 U<|RK E<|aL U<|WS fun _ G=>rS (SX (aZ (xs:=[]) (cs:=(aa.cells (aa.mk 0 0))) U U (bf gR U)) U U)<|fG U cx U<|rP 1 [] I ?_
  refine RK G<|ao<|mO hQ [0] (mc 0 U I) U ?_
  (have e:=nC (a:=p) (b:=q) A (fun h=>by first|exact B h.1|exact C h.2); rw [e.1,e.2]<;>rfl)
 refine fr 2 [0,1] (mc 3 U (mc 1 U I)) U<|rS (CL (po ts tsA tsC q asm asm) (a_ [4]) U)<|rP 2 [] I ?_
 refine RK E<|cM U (bq fun C=>?_) (bp fun C=>?_)
 ·refine WS fun _ H=>rS (SX (aZ (xs:=[]) (cs:=(aa.cells (aa.mk 0 0))) U U (bf gR U)) U U)<|fG U cx U<|rP 1 [] I ?_
  refine RK H<|ao<|mO hQ [0] (mc 0 U I) U ?_
  (have e:=nC (a:=p) (b:=q) A (fun h=>by first|exact B h.1|exact C h.2); rw [e.1,e.2]<;>rfl)
 refine WK W<|ah fun _ AB=>WS fun _ J=>?_
 have R:eE ts p∧eE ts q:=⟨B,C⟩
 have X:=ow D B
 have Y:=ow D C
 have l:=B.1
 have m:=C.1
 have j:=uC D P C B
 unfold kl at X Y
 refine rP 5 [0,1] (mc 1 U (mc 2 U I)) ?_
 refine RK J<|cM U (aQ fun F=>?_) (aR fun F=>?_)
 ·refine WS fun _ K=>fr 3 [0,1,2] (mc 3 U (mc 1 U (mc 2 U I))) U<|rS (CL (Db ts tsA tsC q p hlen hside om) (a_ [4]) U)<|bh 3 U<|AL U dk fun d=>fG U cx U<|bh 1 U<|RK K<|WS fun _ L=>rP 2 [] (mc 0 U I) ?_
  have O:jQ ts q p=i_ ts q p:=(j7 A ⟨C,B⟩).2
  have Z: -400000≤(jQ ts q p).Lo∧(jQ ts q p).Hi≤400000:=by rw [O]; omega
  have c:(jQ ts q p).Lo≤(jQ ts q p).Hi:=by rw [O]; omega
  refine rS (NG U ⟨om,om⟩)<|fr 2 [] (mc 0 U I) U<|rS (NG U ⟨om,om⟩)<|rS (SX (aZ (xs:=[(0,.tmp 41),(1,.tmp 44)]) (cs:=(aa.cells (aa.mk (-((jQ ts q p).Hi)) (-((jQ ts q p).Lo))))) U U (bf gR U)) U U)<|sD U cx U<|rP 1 [] I ?_
  refine RK L<|ao<|mO hQ [0] (mc 1 U I) U ?_
  (have e:=j7 A R; have i:=j7 A ⟨C,B⟩; rw [e.1,e.2,i.2,AQ F]<;>rfl)
 refine WK AB<|WS fun _ M=>rP 2 [] (mc 3 U I) ?_
 have k:=kQ D p.aP.toNat (q.aP-p.aP).toNat
 refine fr 3 [0,1] (mc 2 U (mc 1 U I)) U<|rS (CL (xG ts tsA tsC p.aP q.aP asm asm om) (a_ [4]) U)<|bh 3 U<|AL U dk fun f=>AL U dk fun g=>sD U cx U<|fG U cx U<|RK M<|WS fun _ N=>fr 20 [0,1,2,0,1,2] (mc 1 U (mc 3 U (mc 4 U I))) U<|rS (SX (aZ (xs:=[(0,.tmp 64),(1,.tmp 74)]) (cs:=(aa.cells (aa.mk ((((dQ ts p.aP.toNat (q.aP-p.aP).toNat).Lo)+q.lp.Lo)-p.lp.Hi) ((((dQ ts p.aP.toNat (q.aP-p.aP).toNat).Hi)+q.lp.Hi)-p.lp.Lo)))) U U (bf gR U)) U U)<|CH U cx U<|rP 1 [] I ?_
 refine RK N<|ao<|mO hQ [0] (mc 2 U I) U ?_
 (have e:=j7 A R; rw [e.1,e.2,oJ F]<;>rfl)
end
section
open Go.RowKit
theorem F7 (l:bo) (kA:OA) (kC:Nat) (az:List RA) (cA:OA) (cC:Nat) (bA:OA) (bC:Nat) (hraw:lM l az):
 dR Tryz.prog 20 [(vA (cu.cells (ko l kA kC cA cC bA bC)))] [(rd kA l.aN.length 9 (l.aN.map ai.cells)),(rd cA l.ak.length 2 (List.zipWith av.cells l.ak az)),(eY (aX av.ja l.ak az)),(rd bA l.ab.length 4 (l.ab.map bM.cells))] (vB (decide (mX l))):=by
 have e:=hraw.ux
 have d:=hraw.s_
 have a:=hraw.o4
 have b:=hraw.tW
 refine bE kr Tryz.func20 U U fun g Q hQ hN=>?_
 try dsimp only
 refine WS fun _ O=>fY U fun f=>bh 1 U<|RK O<|ah fun _ P=>WS fun _ D=>bh 1 U<|rS (LP (bD.cells (bD.mk (bk.mk kA l.aN.length kC))) 0 U ct U U U)<|rS (CL (IT l.aN kA kC) (a_ [1]) U)<|rP 1 [] I ?_
 refine cK (t:=7) U (aQ fun Z=>?_) (aR fun Z=>?_)
 ·refine bh 11 U<|RK D<|aL U<|WS fun _ R=>rP 1 [] I ?_
  refine RK R<|ao<|Q1 hQ U U U ?_
  exact cB (dB (.inl om)).symm
 refine rP 6 [] (mc 0 U I) ?_
 refine cK (t:=13) U (aQ fun C=>?_) (aR fun C=>?_)
 ·refine bh 5 U<|RK D<|aL U<|WS fun _ S=>rP 1 [] I ?_
  refine RK S<|ao<|Q1 hQ U U U ?_
  exact cB (dB (.inl om)).symm
 refine rP 5 [] (mc 0 U I) ?_
 refine RK D<|cM U (aQ fun N=>?_) (aR fun N=>?_)
 ·refine WS fun _ T=>rP 1 [] I ?_
  refine RK T<|ao<|Q1 hQ U U U ?_
  exact cB (dB (.inl om)).symm
 refine WK P<|ah fun _ AA=>WS fun _ V=>rP 1 [] I ?_
 refine RK V<|aA ?_
 have A:(0≤l.ak.length)∧(wV l 0):=by exact ⟨Nat.zero_le _,fun j c hj=>absurd hj (Nat.not_lt_zero _)⟩
 refine bR (ι:={z:Nat // (z≤l.ak.length)∧(wV l z)}) [1] [0,1,2,3,4] U U (fun z=>[(3,(vI (z.1:Int)))]) (fun z=>[]) (fun _=>rfl) (fun _=>rfl) (fun z=>l.ak.length-z.1) ⟨0,A⟩ (aW U) (aK [0,1,2,3,4]) ?_
 clear A
 rintro ⟨i,⟨W,B⟩⟩ J10 F
 try dsimp only
 refine ah fun _ G=>WS fun _ H=>rP 5 [] (mc 0 U I) ?_
 refine RK H<|bT U (aR fun C=>?_) (aQ fun C=>?_)
 ·refine bI<|ae<|ae<|aC<|KK AA<|WS fun _ L=>rP 1 [] I ?_
  refine RK L<|ao<|Q1 hQ U U U ?_
  exact cB (cm (GI om om B)).symm
 refine WK G<|ah fun _ AB=>aA<|WS fun _ J=>rP 3 [] (mc 0 U I) ?_
 obtain ⟨x,hx⟩:=aM l.ak i om
 obtain ⟨xa,X⟩:=aM az i om
 have Y:(List.zipWith av.cells l.ak az)[i]? =some (av.cells x xa):=eu hx X
 refine rS (IA i U (aJ 2 U) xU dc om om)<|rS (pt ((i*2)+1) U (aJ 2 U) (Nat.mul_pos om dc) fB U)<|rS (g_ i 1 (vS xa.1 x.bj.length xa.2) U ct (aJ 2 U) Y U dc U)<|rP 2 [] I ?_
 refine RK J<|cM U (aQ fun E=>?_) (aR fun E=>?_)
 ·refine WS fun _ K=>rP 1 [] I ?_
  refine RK K<|ao<|Q1 hQ U U U ?_
  exact cB (dB (Fk hx E)).symm
 refine cr<|aF<|KK AB<|an<|rP 3 [] I ?_
 refine aG ?_
 have M:(vI (((i+1):Nat):Int))=(vI ((i:Int)+1)):=by exact cI om
 refine bg (F ⟨(i+1),⟨om,kE B hx om⟩⟩ _ _ _ U os (ee.cons U<|bG U M<|ee.nil _) (aK [0,1,2,3,4]))
theorem zn (d m:Int) (hd:0≤d∧d≤1000) (hm:0≤m∧m≤90000000):
 dR Tryz.prog 132 [(vI d),(vI m)] [] (vI (sK (d*m) 1000000)):=by
 have J:=Lq (a:=d) (b:=m) (A:=1000) (B:=90000000) hd.1 hd.2 hm.1 hm.2
 refine bE kr Tryz.func132 U U fun K Q hQ hN=>?_
 try dsimp only
 refine WS fun _ C=>bh 1 U<|RK C<|WS fun _ D=>bh 2 U<|rS (BI U (Bp ⟨om,om⟩))<|bh 1 U<|RK D<|ah fun _ E=>WS fun _ F=>bh 1 U<|rS (BI U (Oi om om))<|rP 1 [] I ?_
 refine RK F<|cM U (aQ fun AA=>?_) (aR fun AA=>?_)
 ·refine WS fun _ G=>bh 1 U<|rS (BI U (pI om om om))<|rP 2 [] I ?_
  refine RK G<|ao<|Q1 hQ U U U ?_
  exact cI (by unfold sK; omega)
 refine WK E<|WS fun _ H=>bh 1 U<|rS (BI U (pI om om om))<|rP 1 [] I ?_
 refine RK H<|ao<|Q1 hQ U U U ?_
 exact cI (by unfold sK; omega)
theorem Ek (c:av) (sA:OA) (sC:Nat) (hlen:c.bj.length≤1000000):
 dR Tryz.prog 92 [(vA (dn.cells (dn.mk c.eh (bk.mk sA c.bj.length sC))))] [(rd sA c.bj.length 3 (c.bj.map cv.cells))] (vB (decide (eP c))):=by
 refine bE kr Tryz.func92 U U fun w0 Q hQ hN=>?_
 try dsimp only
 refine WS fun _ EQ=>fY U fun b2=>bh 1 U<|RK EQ<|ah fun _ EY=>WS fun _ A8=>fr 2 [] (mc 0 U I) U<|rS (CL (jD c.eh 0 1000) (aD) U)<|rP 2 [] I ?_
 refine cK (t:=14) U (bq fun Cx=>?_) (bp fun Cx=>?_)
 ·refine bh 6 U<|RK A8<|aL U<|WS fun _ Ec=>rP 1 [] I ?_
  refine RK Ec<|ao<|Q1 hQ U U U ?_
  exact cB (cm fun h=>by have q1:=h.rG; have q2:=h.len; omega).symm
 refine fr 3 [] (mc 0 U I) U<|rS (CL (jD (c.bj.length:Int) 1 5) (aD) U)<|rP 2 [] I ?_
 refine RK A8<|cM U (bq fun C0=>?_) (bp fun C0=>?_)
 ·refine WS fun _ Eq=>rP 1 [] I ?_
  refine RK Eq<|ao<|Q1 hQ U U U ?_
  exact cB (cm fun h=>by have q1:=h.rG; have q2:=h.len; omega).symm
 refine WK EY<|ah fun _ Ey=>WS fun _ FS=>rP 1 [] I ?_
 refine RK FS<|aA ?_
 have A:(0≤c.bj.length)∧(∀ (j:Nat) y,j<0→c.bj[j]? =some y→eI c j y):=by exact ⟨Nat.zero_le _,fun j y hj=>absurd hj (Nat.not_lt_zero _)⟩
 refine bR (ι:={z:Nat // (z≤c.bj.length)∧(∀ (j:Nat) y,j<z→c.bj[j]? =some y→eI c j y)}) [1] [0,1] U U (fun z=>[(3,(vI (z.1:Int)))]) (fun z=>[]) (fun _=>rfl) (fun _=>rfl) (fun z=>c.bj.length-z.1) ⟨0,A⟩ (aW U) (aK [0,1]) ?_
 clear A
 rintro ⟨i,⟨a,C⟩⟩ J9 f
 try dsimp only
 have GT:=GD a C
 refine ah fun _ g=>WS fun _ l=>rP 5 [] (mc 0 U I) ?_
 refine RK l<|cM U (aQ fun C1=>?_) (aR fun C1=>?_)
 ·refine WK g<|ah fun _ AA=>aA<|WS fun _ n=>rP 3 [] (mc 0 U I) ?_
  obtain ⟨x,hx⟩:=aM c.bj i om
  have b:=bW cv.cells hx
  refine rS (IA i U (aJ 1 U) uX dc om om)<|rS (n9 i 0 (cv.cells x) U ct (aJ 1 U) b U dc U U)<|AL U xd fun F2=>fG U yc U<|RK n<|ah fun _ B=>dF cE 41 kr<|mQ 2 [] (mc 0 U I) U<|dS (CL (jD x.At 0 86400000) (aD) U)<|dP 2 [] I ?_
  refine iY (t:=37) U (bq fun C2=>?_) (bp fun C2=>?_)
  ·refine lQ 36 U<|cQ<|RK B<|aL U<|WS fun _ p=>rP 1 [] I ?_
   refine RK p<|ao<|Q1 hQ U U U ?_
   exact cB (cm fun h=>by have q:=h.sync i x hx; unfold eI at q; (rw [fx om] at q; omega)).symm
  refine dP 3 [] I ?_
  refine jL (t:=40) U (aR fun DU=>?_) (aQ fun DU=>?_)
  ·refine dP 19 [] (mc 0 U I) ?_
   refine iY (t:=59) U (aQ fun X=>?_) (aR fun X=>?_)
   ·refine lQ 14 U<|cQ<|RK B<|aL U<|WS fun _ w=>rP 1 [] I ?_
    refine RK w<|ao<|Q1 hQ U U U ?_
    exact cB (cm fun h=>by have q:=h.sync i x hx; unfold eI at q; (rw [fx om] at q; omega)).symm
   refine dP 9 [] (mc 0 U I) ?_
   refine iY (t:=68) U (aQ fun Y=>?_) (aR fun Y=>?_)
   ·refine lQ 5 U<|cQ<|RK B<|aL U<|WS fun _ AC=>rP 1 [] I ?_
    refine RK AC<|ao<|Q1 hQ U U U ?_
    exact cB (cm fun h=>by have q:=h.sync i x hx; unfold eI at q; (rw [fx om] at q; omega)).symm
   refine dP 5 [] (mc 0 U I) ?_
   refine cQ<|RK B<|bT U (aR fun Z=>?_) (aQ fun Z=>?_)
   ·refine cr<|aF<|KK AA<|an<|rP 3 [] I ?_
    refine aG ?_
    have B7:(vI (((i+1):Nat):Int))=(vI ((i:Int)+1)):=by exact cI om
    refine bg (f ⟨(i+1),⟨om,kE C hx (by unfold eI; (rw [fx om]; omega))⟩⟩ _ _ _ U os (ee.cons U<|bG U B7<|ee.nil _) (aK [1,2]))
   refine WS fun _ AO=>rP 1 [] I ?_
   refine RK AO<|ao<|Q1 hQ U U U ?_
   exact cB (cm fun h=>by have q:=h.sync i x hx; unfold eI at q; (rw [fx om] at q; omega)).symm
  refine dP 6 [0,1] (mc 0 U (mc 1 U I)) ?_
  obtain ⟨y,hy⟩:=aM c.bj (i-1) om
  have d:=bW cv.cells hy
  refine dS (IA (i-1) U (aJ 2 U) uX dc om om)<|dS (pt ((i-1)*3) U (aJ 2 U) (Nat.mul_pos om dc) fB U)<|dS (g_ (i-1) 0 (vI y.At) U ct (aJ 2 U) d U dc U)<|dP 4 [] I ?_
  refine iY (t:=53) U (aQ fun Di=>?_) (aR fun Di=>?_)
  ·refine lQ 20 U<|cQ<|RK B<|aL U<|WS fun _ r=>rP 1 [] I ?_
   refine RK r<|ao<|Q1 hQ U U U ?_
   exact cB (cm fun h=>by have q:=h.sync i x hx; unfold eI at q; (rw [tH om hy] at q; omega)).symm
  refine dP 6 [] (mc 0 U I) ?_
  refine iY (t:=59) U (aQ fun X=>?_) (aR fun X=>?_)
  ·refine lQ 14 U<|cQ<|RK B<|aL U<|WS fun _ s=>rP 1 [] I ?_
   refine RK s<|ao<|Q1 hQ U U U ?_
   exact cB (cm fun h=>by have q:=h.sync i x hx; unfold eI at q; (rw [fx om] at q; omega)).symm
  refine dP 9 [] (mc 0 U I) ?_
  refine iY (t:=68) U (aQ fun Y=>?_) (aR fun Y=>?_)
  ·refine lQ 5 U<|cQ<|RK B<|aL U<|WS fun _ u=>rP 1 [] I ?_
   refine RK u<|ao<|Q1 hQ U U U ?_
   exact cB (cm fun h=>by have q:=h.sync i x hx; unfold eI at q; (rw [fx om] at q; omega)).symm
  refine dP 5 [] (mc 0 U I) ?_
  refine cQ<|RK B<|bT U (aR fun Z=>?_) (aQ fun Z=>?_)
  ·refine cr<|aF<|KK AA<|an<|rP 3 [] I ?_
   refine aG ?_
   have B3:(vI (((i+1):Nat):Int))=(vI ((i:Int)+1)):=by exact cI om
   refine bg (f ⟨(i+1),⟨om,kE C hx (by unfold eI; (rw [tH om hy]; omega))⟩⟩ _ _ _ U os (ee.cons U<|bG U B3<|ee.nil _) (aK [1,2]))
  refine WS fun _ v=>rP 1 [] I ?_
  refine RK v<|ao<|Q1 hQ U U U ?_
  exact cB (cm fun h=>by have q:=h.sync i x hx; unfold eI at q; (rw [fx om] at q; omega)).symm
 refine bI<|ae<|ae<|aC<|KK Ey<|ah fun _ A0=>WS fun _ A1=>rP 1 [] I ?_
 refine RK A1<|aA ?_
 have A:(0≤c.bj.length)∧(qz c 0):=by exact ⟨Nat.zero_le _,fun j y hj=>absurd hj (Nat.not_lt_zero _)⟩
 refine bR (ι:={z:Nat // (z≤c.bj.length)∧(qz c z)}) [1] [0,1] U U (fun z=>[(5,(vI (z.1:Int)))]) (fun z=>[]) (fun _=>rfl) (fun _=>rfl) (fun z=>c.bj.length-z.1) ⟨0,A⟩ (aW U) (aK [0,1]) ?_
 clear A
 rintro ⟨m,⟨Ci,G⟩⟩ J28 e
 try dsimp only
 have F:=uP (P:=eI c) om C
 refine ah fun _ A2=>WS fun _ A3=>rP 5 [] (mc 0 U I) ?_
 refine RK A3<|bT U (aR fun Do=>?_) (aQ fun Do=>?_)
 ·refine bI<|ae<|ae<|aC<|KK A0<|WS fun _ A9=>rP 1 [] I ?_
  refine RK A9<|ao<|Q1 hQ U U U ?_
  exact cB (dB (Fy om om (uP om C) om G)).symm
 refine WK A2<|ah fun _ A4=>aA<|WS fun _ A5=>rP 1 [] I ?_
 refine RK A5<|aA ?_
 have A:(0≤m)∧(∀ y,c.bj[m]? =some y→BA c y 0):=by exact ⟨Nat.zero_le _,fun y _ j o hj=>absurd hj (Nat.not_lt_zero _)⟩
 refine bR (ι:={z:Nat // (z≤m)∧(∀ y,c.bj[m]? =some y→BA c y z)}) [1,5] [0,1] U U (fun z=>[(6,(vI (z.1:Int)))]) (fun z=>[]) (fun _=>rfl) (fun _=>rfl) (fun z=>m-z.1) ⟨0,A⟩ (aW U) (aK [0,1]) ?_
 clear A
 rintro ⟨k,⟨Ck,D⟩⟩ J33 T
 try dsimp only
 refine ah fun _ A6=>WS fun _ A7=>rP 3 [] I ?_
 refine RK A7<|bT U (aR fun D8=>?_) (aQ fun D8=>?_)
 ·refine bI<|ae<|ae<|aC<|aF<|KK A4<|an<|rP 3 [] I ?_
  refine aG ?_
  have B9:(vI (((m+1):Nat):Int))=(vI ((m:Int)+1)):=by exact cI om
  refine bg (e ⟨(m+1),⟨om,z9 G D om⟩⟩ _ _ _ U os (ee.cons U<|bG U B9<|ee.nil _) (aK [0,1]))
 refine WK A6<|ah fun _ V=>aA<|ah fun _ W=>pj cE [0,1,2,3,4,5,6,7,8,9] [10,11,12,13] [false,false,false,false,false,false,false,false,false,false] [] [(bQ b2 53 (dn.cells (dn.mk c.eh (bk.mk sA c.bj.length sC)))),(rd sA c.bj.length 3 (c.bj.map cv.cells)).ro] [] kr (aK [0,1]) (aK [])<|eS U (FA 1 U fB U)<|eS U (L1 (vS sA c.bj.length sC) 0 U ct U U)<|eS U (MV U) ?_
 obtain ⟨x,hx⟩:=aM c.bj k om
 have b:=bW cv.cells hx
 refine eS U (IA k U (aJ 1 U) uX dc om om)<|eS U (n9 k 0 (cv.cells x) U ct (aJ 1 U) b U dc U U)<|eS U (FA 1 U fB U)<|eS U (L1 (vS sA c.bj.length sC) 0 U ct U U)<|eS U (MV U) ?_
 obtain ⟨y,hy⟩:=aM c.bj m om
 have d:=bW cv.cells hy
 refine eS U (IA m U (aJ 1 U) uX dc om om)<|eS U (n9 m 0 (cv.cells y) U ct (aJ 1 U) d U dc U U)<|ff U<|g6 [10,11] kr (dW ?_<|dW ?_<|jG)
 rotate_left 1
 ·refine NO U U [10,12,13] fun T38 M=>AL U xd fun Cp=>RD M 1 U<|N1 10<|NO U U [12,13] fun T40 N=>AL U xd fun Cu=>RD N 2 U<|N1 12<|NO U U [13] fun T42 O=>fG U yc U<|RD O 2 U<|N1 13<|NO U U [] fun T43 R=>sD U yc U<|RD R 2 U<|n_<|KK W<|WS fun _ J=>rP 6 [0,1,2] (mc 2 U (mc 1 U (mc 0 U I))) ?_
  obtain ⟨Fa,Fd,Fn⟩:=qT (fun j z _ hz=>F j z hz) hy (F _ _ hy) (show k<m by omega) hx
  refine bh 1 U<|rS (CL (zn c.eh (y.At-x.At) om om) (aD) U)<|bh 1 U<|RK J<|WS fun _ E=>rP 10 [0,1] (mc 0 U (mc 1 U I)) ?_
  refine cK (t:=113) U (aQ fun H=>?_) (aR fun H=>?_)
  ·refine bh 10 U<|RK E<|aL U<|WS fun _ K=>rP 1 [] I ?_
   refine RK K<|ao<|Q1 hQ U U U ?_
   exact cB (cm fun h=>by have q:=h.pair m k y x hy om hx; unfold mx at q; omega).symm
  refine rP 10 [0,1] (mc 1 U (mc 0 U I)) ?_
  refine RK E<|bT U (aR fun AB=>?_) (aQ fun AB=>?_)
  ·refine cr<|aF<|KK V<|an<|rP 3 [] I ?_
   refine aG ?_
   have S:(vI (((k+1):Nat):Int))=(vI ((k:Int)+1)):=by exact cI om
   refine bg (T ⟨(k+1),⟨om,fun z hz=>by rw [hy] at hz; cases hz; exact kE (D _ hy) hx (by unfold mx; omega)⟩⟩ _ _ _ rfl os (ee.cons rfl<|ee.cons rfl<|bG rfl S<|ee.nil _) (aK [2,3]))
  refine WS fun _ L=>rP 1 [] I ?_
  refine RK L<|ao<|Q1 hQ U U U ?_
  exact cB (cm fun h=>by have q:=h.pair m k y x hy om hx; unfold mx at q; omega).symm
 refine NO U U [11,12,13] fun T38 M=>AL U xd fun Cp=>RD M 1 U<|N1 11<|NO U U [12,13] fun T40 N=>AL U xd fun Cu=>RD N 2 U<|N1 12<|NO U U [13] fun T42 O=>sD U yc U<|RD O 2 U<|N1 13<|NO U U [] fun T43 R=>fG U yc U<|RD R 2 U<|n_<|KK W<|WS fun _ J=>rP 6 [0,1,2] (mc 2 U (mc 0 U (mc 1 U I))) ?_
 obtain ⟨Fa,Fd,Fn⟩:=qT (fun j z _ hz=>F j z hz) hy (F _ _ hy) (show k<m by omega) hx
 refine bh 1 U<|rS (CL (zn c.eh (y.At-x.At) om om) (aD) U)<|bh 1 U<|RK J<|WS fun _ E=>rP 10 [0,1] (mc 1 U (mc 0 U I)) ?_
 refine cK (t:=113) U (aQ fun H=>?_) (aR fun H=>?_)
 ·refine bh 10 U<|RK E<|aL U<|WS fun _ K=>rP 1 [] I ?_
  refine RK K<|ao<|Q1 hQ U U U ?_
  exact cB (cm fun h=>by have q:=h.pair m k y x hy om hx; unfold mx at q; omega).symm
 refine rP 10 [0,1] (mc 0 U (mc 1 U I)) ?_
 refine RK E<|bT U (aR fun AB=>?_) (aQ fun AB=>?_)
 ·refine cr<|aF<|KK V<|an<|rP 3 [] I ?_
  refine aG ?_
  have S:(vI (((k+1):Nat):Int))=(vI ((k:Int)+1)):=by exact cI om
  refine bg (T ⟨(k+1),⟨om,fun z hz=>by rw [hy] at hz; cases hz; exact kE (D _ hy) hx (by unfold mx; omega)⟩⟩ _ _ _ rfl os (ee.cons rfl<|ee.cons rfl<|bG rfl S<|ee.nil _) (aK [2,3]))
 refine WS fun _ L=>rP 1 [] I ?_
 refine RK L<|ao<|Q1 hQ U U U ?_
 exact cB (cm fun h=>by have q:=h.pair m k y x hy om hx; unfold mx at q; omega).symm
theorem KP (l:bo) (kA:OA) (kC:Nat) (az:List RA) (cA:OA) (cC:Nat) (bA:OA) (bC:Nat) (n:Int) (hin:eA l az) (htr:cO l.aN=true) (hbk: ∀ b∈l.ab,iW l b) (hn:0≤n∧n<(l.ab.length:Int)):
 dR Tryz.prog 94 [(vA (cu.cells (ko l kA kC cA cC bA bC))),(vI n)] [(rd kA l.aN.length 9 (l.aN.map ai.cells)),(rd cA l.ak.length 2 (List.zipWith av.cells l.ak az)),(eY (aX av.ja l.ak az)),(rd bA l.ab.length 4 (l.ab.map bM.cells))] (vI (kp l n.toNat)):=by
 have AA:=hin.ux
 have S:=hin.s_
 have P:=hin.o4
 have R:=hin.tW
 have T:=hin.side
 refine bE kr Tryz.func94 U U fun X Q hQ hN=>?_
 try dsimp only
 refine WS fun _ G=>fY U fun V=>bh 1 U<|RK G<|ah fun _ H=>WS fun _ AB=>rP 2 [] I ?_
 refine RK AB<|cM U (aQ fun F=>?_) (aR fun F=>?_)
 ·refine ah fun _ J=>ek cE [11,12] [] [] [0,1,2,3,4] [] U U U U U<|eS U (FA 0 U fB U)<|eS U (LP (bD.cells (bD.mk (bk.mk kA l.aN.length kC))) 0 U ct U U U)<|eS U (FA 3 U fB U)<|eS U (L1 (vS bA l.ab.length bC) 0 U ct U U) ?_
  obtain ⟨y,hy⟩:=aM l.ab 0 om
  have A:=bW bM.cells hy
  refine eS U (IA 0 U (aJ 4 U) tj dc U om)<|eS U (pt (0*4) U (aJ 4 U) (Nat.mul_pos om dc) fB U)<|eS U (n9 0 0 (ck.cells y.lu) U ct (aJ 4 U) A U dc U U)<|eS U (CL (Nf l.aN kA kC y.lu asm asm) (a_ [1]) U)<|eS U (MV U)<|eS U (EX U)<|eS U (EX U)<|eS U (AG U)<|ff U<|cf U fun T6 L=>AL U dk fun W=>aG (L _ _ (aK [1,2,3,4,5]) ?_)
  refine cf U fun T8 M=>fG U cx U<|aG (M _ _ (aK [1,2,3,4,5]) ?_)
  refine fV U<|KK J<|WS fun _ K=>rP 3 [] (mc 0 U I) ?_
  refine RK K<|ao<|Q1 hQ U U U ?_
  (refine congrArg (Value.int .i64) ?_; rw [show n.toNat=0 by omega]; rw [wa hy,(tY htr (hbk _ (List.mem_of_getElem? hy)).1).2])
 refine WK H<|ah fun _ B=>ek cE [19,20] [] [] [0,1,2,3,4] [] U U U U U<|eS U (FA 0 U fB U)<|eS U (LP (bD.cells (bD.mk (bk.mk kA l.aN.length kC))) 0 U ct U U U)<|eS U (FA 3 U fB U)<|eS U (L1 (vS bA l.ab.length bC) 0 U ct U U)<|eS U (MV U)<|eS U (BI U (pA ⟨om,om⟩)) ?_
 obtain ⟨y,hy⟩:=aM l.ab (((n-1)).toNat) om
 have A:=bW bM.cells hy
 refine eS U (IA (((n-1)).toNat) U (aJ 4 U) tj dc om om)<|eS U (pt ((((n-1)).toNat)*4) U (aJ 4 U) (Nat.mul_pos om dc) fB U)<|eS U (n9 (((n-1)).toNat) 0 (ck.cells y.lu) U ct (aJ 4 U) A U dc U U)<|eS U (FA 3 U fB U)<|eS U (L1 (vS bA l.ab.length bC) 0 U ct U U)<|eS U (MV U) ?_
 obtain ⟨x,hx⟩:=aM l.ab ((n).toNat) om
 have N:=bW bM.cells hx
 refine eS U (IA ((n).toNat) U (aJ 4 U) tj dc om om)<|eS U (pt (((n).toNat)*4) U (aJ 4 U) (Nat.mul_pos om dc) fB U)<|eS U (n9 ((n).toNat) 0 (ck.cells x.lu) U ct (aJ 4 U) N U dc U U)<|eS U (CL (Gz l.aN kA kC y.lu x.lu asm asm) (a_ [1]) U)<|eS U (MV U)<|eS U (EX U)<|eS U (EX U)<|eS U (AG U)<|ff U<|cf U fun T11 D=>AL U dk fun O=>aG (D _ _ (aK [1,2,3,4,5]) ?_)
 refine cf U fun T13 E=>fG U cx U<|aG (E _ _ (aK [1,2,3,4,5]) ?_)
 refine fV U<|KK B<|WS fun _ C=>rP 3 [] (mc 0 U I) ?_
 refine RK C<|ao<|Q1 hQ U U U ?_
 (refine congrArg (Value.int .i64) ?_; rw [yX om hx (by rw [show n.toNat-1=(n-1).toNat by omega]; exact hy),(j7 htr ⟨(hbk _ (List.mem_of_getElem? hy)).1,(hbk _ (List.mem_of_getElem? hx)).1⟩).2])
theorem Iw (l:bo) (kA:OA) (kC:Nat) (az:List RA) (cA:OA) (cC:Nat) (bA:OA) (bC:Nat) (hin:eA l az) (htr:cO l.aN=true):
 dR Tryz.prog 57 [(vA (cu.cells (ko l kA kC cA cC bA bC)))] [(rd kA l.aN.length 9 (l.aN.map ai.cells)),(rd cA l.ak.length 2 (List.zipWith av.cells l.ak az)),(eY (aX av.ja l.ak az)),(rd bA l.ab.length 4 (l.ab.map bM.cells))] (vB (decide (mu l))):=by
 have Eq:=hin.ux
 have D8:=hin.s_
 have DU:=hin.o4
 have Do:=hin.tW
 have EQ:=hin.side
 have EY:=jh htr
 have C2:=jR htr
 refine bE kr Tryz.func57 U U fun w0 Q hQ hN=>?_
 try dsimp only
 refine WS fun _ B3=>fY U fun b2=>bh 1 U<|RK B3<|ah fun _ B7=>WS fun _ D=>fr 2 [] (mc 0 U I) U<|rS (CL (jD l.gN 1 5000) (aD) U)<|rP 2 [] I ?_
 refine cK (t:=10) U (bq fun A0=>?_) (bp fun A0=>?_)
 ·refine bh 35 U<|RK D<|aL U<|WS fun _ B9=>rP 1 [] I ?_
  refine RK B9<|ao<|Q1 hQ U U U ?_
  exact cB (cm fun h=>by have q:=h.head; unfold gE at q; omega).symm
 refine fr 3 [] (mc 0 U I) U<|rS (CL (jD (l.ak.length:Int) 1 4) (aD) U)<|rP 3 [] I ?_
 refine cK (t:=17) U (bq fun A1=>?_) (bp fun A1=>?_)
 ·refine bh 28 U<|RK D<|aL U<|WS fun _ Ci=>rP 1 [] I ?_
  refine RK Ci<|ao<|Q1 hQ U U U ?_
  exact cB (cm fun h=>by have q:=h.head; unfold gE at q; omega).symm
 refine fr 3 [] (mc 0 U I) U<|rS (CL (jD (l.ab.length:Int) 1 6) (aD) U)<|rP 3 [] I ?_
 refine cK (t:=24) U (bq fun A2=>?_) (bp fun A2=>?_)
 ·refine bh 21 U<|RK D<|aL U<|WS fun _ Ck=>rP 1 [] I ?_
  refine RK Ck<|ao<|Q1 hQ U U U ?_
  exact cB (cm fun h=>by have q:=h.head; unfold gE at q; omega).symm
 refine fr 6 [] (mc 0 U I) U<|rS (CL (jD l.bS 0 ((l.ab.length:Int)-1)) (aD) U)<|rP 3 [] I ?_
 refine cK (t:=34) U (bq fun A3=>?_) (bp fun A3=>?_)
 ·refine bh 11 U<|RK D<|aL U<|WS fun _ Cp=>rP 1 [] I ?_
  refine RK Cp<|ao<|Q1 hQ U U U ?_
  exact cB (cm fun h=>by have q:=h.head; unfold gE at q; omega).symm
 refine fr 2 [] (mc 0 U I) U<|rS (CL (jD l.e7 0 3) (aD) U)<|rP 3 [] I ?_
 refine cK (t:=40) U (bq fun A4=>?_) (bp fun A4=>?_)
 ·refine bh 5 U<|RK D<|aL U<|WS fun _ Cu=>rP 1 [] I ?_
  refine RK Cu<|ao<|Q1 hQ U U U ?_
  exact cB (cm fun h=>by have q:=h.head; unfold gE at q; omega).symm
 refine fr 2 [] (mc 0 U I) U<|rS (CL (jD l.dZ 0 3) (aD) U)<|rP 2 [] I ?_
 refine RK D<|cM U (bq fun A5=>?_) (bp fun A5=>?_)
 ·refine WS fun _ N=>rP 1 [] I ?_
  refine RK N<|ao<|Q1 hQ U U U ?_
  exact cB (cm fun h=>by have q:=h.head; unfold gE at q; omega).symm
 refine WK B7<|ah fun _ O=>WS fun _ R=>rP 1 [] I ?_
 refine RK R<|aA ?_
 have A:(0≤l.ak.length)∧(∀ (j:Nat) y,j<0→l.ak[j]? =some y→eP y):=by exact ⟨Nat.zero_le _,fun j y hj=>absurd hj (Nat.not_lt_zero _)⟩
 refine bR (ι:={z:Nat // (z≤l.ak.length)∧(∀ (j:Nat) y,j<z→l.ak[j]? =some y→eP y)}) [1] [0,1,2,3,4] U U (fun z=>[(3,(vI (z.1:Int)))]) (fun z=>[]) (fun _=>rfl) (fun _=>rfl) (fun z=>l.ak.length-z.1) ⟨0,A⟩ (aW U) (aK [0,1,2,3,4]) ?_
 clear A
 rintro ⟨i,⟨Cx,F⟩⟩ J13 K
 try dsimp only
 refine ah fun _ S=>WS fun _ T=>rP 5 [] (mc 0 U I) ?_
 refine RK T<|cM U (aQ fun A6=>?_) (aR fun A6=>?_)
 ·refine WK S<|ah fun _ AA=>aA<|WS fun _ V=>rP 3 [] (mc 0 U I) ?_
  obtain ⟨x,hx⟩:=aM l.ak i om
  obtain ⟨xa,J⟩:=aM az i om
  have C1:(List.zipWith av.cells l.ak az)[i]? =some (av.cells x xa):=eu hx J
  refine rS (IA i U (aJ 2 U) xU dc om om)<|rS (n9 i 0 (dn.cells (dn.mk x.eh (bk.mk xa.1 x.bj.length xa.2))) U ct (aJ 2 U) C1 U dc U U) ?_
  have Ec:=(hin.Mi _ _ _ hx J).2
  refine rS (CL (Ek x xa.1 xa.2 asm) (al (show ju _ (rd xa.1 x.bj.length 3 (x.bj.map cv.cells)).holds from (eN 3 U (cD hx J (by simp [av.ja]))))<|aD) U)<|rP 1 [] I ?_
  refine RK V<|bT U (bp fun AB=>?_) (bq fun AB=>?_)
  ·refine cr<|aF<|KK AA<|an<|rP 3 [] I ?_
   refine aG ?_
   have u:(vI (((i+1):Nat):Int))=(vI ((i:Int)+1)):=by exact cI om
   refine bg (K ⟨(i+1),⟨om,kE (P:=fun _ y=>eP y) F hx AB⟩⟩ _ _ _ U os (ee.cons U<|bG U u<|ee.nil _) (aK [0,1,2,3,4]))
  refine WS fun _ W=>rP 1 [] I ?_
  refine RK W<|ao<|Q1 hQ U U U ?_
  exact cB (cm fun h=>AB (h.clock _ (aT hx))).symm
 refine bI<|ae<|ae<|aC<|KK O<|ah fun _ X=>WS fun _ Y=>rP 1 [] I ?_
 refine RK Y<|aA ?_
 have A:(0≤l.ab.length)∧(∀ (j:Nat) y,j<0→l.ab[j]? =some y→iW l y):=by exact ⟨Nat.zero_le _,fun j y hj=>absurd hj (Nat.not_lt_zero _)⟩
 refine bR (ι:={z:Nat // (z≤l.ab.length)∧(∀ (j:Nat) y,j<z→l.ab[j]? =some y→iW l y)}) [1] [0,1,2,3,4] U U (fun z=>[(4,(vI (z.1:Int)))]) (fun z=>[]) (fun _=>rfl) (fun _=>rfl) (fun z=>l.ab.length-z.1) ⟨0,A⟩ (aW U) (aK [0,1,2,3,4]) ?_
 clear A
 rintro ⟨m,⟨C0,B⟩⟩ J22 L
 try dsimp only
 refine ah fun _ Z=>WS fun _ a=>rP 5 [] (mc 0 U I) ?_
 refine RK a<|bT U (aR fun A7=>?_) (aQ fun A7=>?_)
 ·refine bI<|ae<|ae<|aC<|KK X<|ah fun _ e=>WS fun _ f=>rP 1 [] I ?_
  refine RK f<|aA ?_
  have A:(0≤l.ab.length)∧(∀ j,j<0→1≤kp l j):=by exact ⟨Nat.zero_le _,fun j hj=>absurd hj (Nat.not_lt_zero _)⟩
  refine bR (ι:={z:Nat // (z≤l.ab.length)∧(∀ j,j<z→1≤kp l j)}) [1] [0,1,2,3,4] U U (fun z=>[(5,(vI (z.1:Int)))]) (fun z=>[]) (fun _=>rfl) (fun _=>rfl) (fun z=>l.ab.length-z.1) ⟨0,A⟩ (aW U) (aK [0,1,2,3,4]) ?_
  clear A
  rintro ⟨n,⟨AO,C⟩⟩ J32 M
  try dsimp only
  have Di:=tM (P:=iW l) om B
  refine ah fun _ g=>WS fun _ k=>rP 5 [] (mc 0 U I) ?_
  refine RK k<|bT U (aR fun A9=>?_) (aQ fun A9=>?_)
  ·refine bI<|ae<|ae<|aC<|KK e<|WS fun _ s=>rP 1 [] I ?_
   refine RK s<|ao<|Q1 hQ U U U ?_
   exact cB (dB (vp (by unfold gE; omega) (tM om F) (tM om B) (fun j hj=>C j om))).symm
  refine WK g<|ah fun _ o=>aA<|WS fun _ p=>fr 2 [] (mc 0 U I) U<|rS (CL (KP l kA kC az cA cC bA bC (n:Int) hin htr asm om) (a_ [1,2,3,4]) U)<|rP 1 [] I ?_
  refine RK p<|bT U (aR fun E=>?_) (aQ fun E=>?_)
  ·refine cr<|aF<|KK o<|an<|rP 3 [] I ?_
   refine aG ?_
   have w:(vI (((n+1):Nat):Int))=(vI ((n:Int)+1)):=by exact cI om
   refine bg (M ⟨(n+1),⟨om,fun j hj=>by rcases Nat.lt_or_ge j n with q|q; exact C j q; (obtain rfl:j=n:=by omega); simp only [Int.toNat_natCast] at E; omega⟩⟩ _ _ _ rfl os (ee.cons rfl<|bG rfl w<|ee.nil _) (aK [0,1,2,3,4]))
  refine WS fun _ r=>rP 1 [] I ?_
  refine RK r<|ao<|Q1 hQ U U U ?_
  exact cB (cm fun h=>by have q:=h.N4 n om; simp only [Int.toNat_natCast] at E; omega).symm
 refine WK Z<|ah fun _ b=>aA<|ah fun _ H=>dF cE 24 kr<|lQ 1 U<|dS (LP (bD.cells (bD.mk (bk.mk kA l.aN.length kC))) 0 U ct U U U)<|dP 3 [] (mc 0 U I) ?_
 obtain ⟨y,hy⟩:=aM l.ab m om
 have AC:=bW bM.cells hy
 refine dS (IA m U (aJ 4 U) tj dc om om)<|dS (pt (m*4) U (aJ 4 U) (Nat.mul_pos om dc) fB U)<|dS (n9 m 0 (ck.cells y.lu) U ct (aJ 4 U) AC U dc U U)<|dS (CL (po l.aN kA kC y.lu asm asm) (a_ [1]) U)<|dP 2 [] I ?_
 refine iY (t:=77) U (bq fun G=>?_) (bp fun G=>?_)
 ·refine lQ 13 U<|cQ<|RK H<|aL U<|WS fun _ c=>rP 1 [] I ?_
  refine RK c<|ao<|Q1 hQ U U U ?_
  exact cB (cm fun h=>by have q:=h.uT _ (aT hy); have q2:=q.2; first|exact G q.1|omega).symm
 refine mQ 3 [] (mc 0 U I) U<|dS (IA m U (aJ 4 U) tj dc om om)<|dS (pt ((m*4)+3) U (aJ 4 U) (Nat.mul_pos om dc) fB U)<|dS (g_ m 3 (vI y.kX) U ct (aJ 4 U) AC U dc U)<|mQ 4 [] (mc 0 U I) U<|dS (CL (jD y.kX 0 ((l.ak.length:Int)-1)) (aD) U)<|dP 2 [] I ?_
 refine cQ<|RK H<|bT U (bp fun A8=>?_) (bq fun A8=>?_)
 ·refine cr<|aF<|KK b<|an<|rP 3 [] I ?_
  refine aG ?_
  have v:(vI (((m+1):Nat):Int))=(vI ((m:Int)+1)):=by exact cI om
  refine bg (L ⟨(m+1),⟨om,kE (P:=fun _ y=>iW l y) B hy ⟨G,om,om⟩⟩⟩ _ _ _ U os (ee.cons U<|bG U v<|ee.nil _) (aK [0,1,2,3,4]))
 refine WS fun _ d=>rP 1 [] I ?_
 refine RK d<|ao<|Q1 hQ U U U ?_
 exact cB (cm fun h=>by have q:=h.uT _ (aT hy); have q2:=q.2; first|exact G q.1|omega).symm
end
section
open Go.RowKit
theorem FZ (l:bo) (kA:OA) (kC:Nat) (az:List RA) (cA:OA) (cC:Nat) (bA:OA) (bC:Nat) (hin:eA l az):
 dR Tryz.prog 21 [(vA (cu.cells (ko l kA kC cA cC bA bC)))] [(rd kA l.aN.length 9 (l.aN.map ai.cells)),(rd cA l.ak.length 2 (List.zipWith av.cells l.ak az)),(eY (aX av.ja l.ak az)),(rd bA l.ab.length 4 (l.ab.map bM.cells))] (vI (eU l)):=by
 have N:=hin.ux
 have M:=hin.s_
 have K:=hin.o4
 have L:=hin.tW
 refine bE kr Tryz.func21 U U fun P Q hQ hN=>?_
 try dsimp only
 refine WS fun _ C=>fY U fun O=>bh 1 U<|RK C<|ah fun _ D=>WS fun _ E=>bh 1 U<|rS (LP (bD.cells (bD.mk (bk.mk kA l.aN.length kC))) 0 U ct U U U)<|rS (CL (sR l.aN kA kC asm) (a_ [1]) U)<|rP 1 [] I ?_
 refine RK E<|cM U (fun A=>?_) (fun A=>?_)
 ·rw [Bool.not_eq_true'] at A
  refine WS fun _ F=>rP 1 [] I ?_
  refine RK F<|ao<|Q1 hQ U U U ?_
  exact cI (vR (by simpa using A)).symm
 rw [Bool.not_eq_false'] at A
 refine WK D<|ah fun _ G=>WS fun _ H=>fr 1 [] (mc 0 U I) U<|rS (CL (Iw l kA kC az cA cC bA bC hin asm) (a_ [1,2,3,4]) U)<|rP 1 [] I ?_
 refine RK H<|cM U (bq fun B=>?_) (bp fun B=>?_)
 ·refine WS fun _ AA=>rP 1 [] I ?_
  refine RK AA<|ao<|Q1 hQ U U U ?_
  exact cI (ov A B).symm
 refine WK G<|WS fun _ J=>rP 1 [] I ?_
 refine RK J<|ao<|Q1 hQ U U U ?_
 exact cI (uD A B).symm
end
section
open Go.RowKit
structure E9 (S:BS) (w0:World) (X:aq) (C0:List aq) (w:World) (S':BS):Prop where
 st:St S w0 (X::C0) w
 w_: ∀ b,S'.w b↔ ∃ A∈C0,A.wf b
theorem Bc {A B:aq} (h:zK A B):zK A.ro B:=fun b C D=>⟨fun h=>h,(h b C D).2⟩
theorem EG {E:eD} {c:Code} {Q:cP} {D:gj} {L:cY} {C C0:List aq} {X:aq} (i:Nat) (hn:decide (i::(List.range C.length).filter fun k=>k != i).Nodup=true) (hC:kB C (i::(List.range C.length).filter fun k=>k != i)=X::C0)
 (h: ∀ w S',E9 E.S E.w0 X C0 w S'→WJ ⟨E.P,E.r,E.n,S',w⟩ c Q D L (X.ro::C0)):WJ E c Q D L C:=fun a w hf hs=>by
 have F:=St.kB _ hn hC hs
 obtain ⟨G,H⟩:=List.pairwise_cons.1 F.sep
 refine h w ⟨fun b=> ∃ A∈C0,A.wf b,fun _=>True⟩ ⟨F,fun b=>Iff.rfl⟩ a w hf ⟨du.refl _ _,fun A hA=>?_,List.Pairwise.cons (fun B hB=>Bc (G B hB)) H,fun A hA b hb=>?_,fun A hA b hb=> .inr trivial⟩
 ·rcases bw.1 hA with rfl|hA
  ·exact F.holds X (cq ..)
  ·exact F.holds A (df _ hA)
 ·rcases bw.1 hA with rfl|hA
  ·exact hb.elim
  ·exact .inr ⟨A,hA,hb⟩
theorem LI {E:eD} {S':BS} {w:World} {K:Act→World→Prop} {D:gj} {L:cY} {C0 C1 C2:List aq} {X:aq} (hz:E9 E.S E.w0 X C0 w S') (is:List Nat) (hn:decide is.Nodup=true) (hC:kB C2 is=C1) (hwr:C1.all (·.wr)=true)
 (h:KJ E K D L (X::C1)):KJ ⟨E.P,E.r,E.n,S',w⟩ K D L C2:=fun a w' hf hs=>by
 have F:=St.kB is hn hC hs
 have C:=hz.st
 obtain ⟨J,M⟩:=List.pairwise_cons.1 C.sep
 have AA: ∀ b,X.eK b→ ¬ S'.w b:=fun b hb hw=>by
  obtain ⟨A,hA,hw⟩:=(hz.w_ b).1 hw
  exact (J A hA b hb (A.jE b hw)).2 hw
 have G: ∀ b,S'.w b→E.w0.heap.size≤b∨E.S.w b:=fun b hb=>by
  obtain ⟨A,hA,hw⟩:=(hz.w_ b).1 hb
  exact C.own A (df _ hA) b hw
 have H: ∀ A∈C1,∀ b,A.eK b→w.heap.size≤b∨S'.w b:=fun A hA b hb=>F.own A hA b (A.whole (cN.1 hwr A hA) b hb)
 refine h a w' hf ⟨?_,fun A hA=>?_,List.Pairwise.cons (fun B hB b hb hb'=>?_) F.sep,fun A hA b hb=>?_,fun A hA b hb=>?_⟩
 ·refine ⟨F.keeps.os.trans C.keeps.os,F.keeps.tape.trans C.keeps.tape,F.keeps.output.trans C.keeps.output,Nat.le_trans C.keeps.size F.keeps.size,fun k hk hn'=>?_⟩
  refine (F.keeps.block k (Nat.lt_of_lt_of_le hk C.keeps.size) fun hw=>?_).trans (C.keeps.block k hk hn')
  rcases G k hw with q|q
  ·omega
  ·exact hn' q
 ·rcases bw.1 hA with rfl|hA
  ·have hh:=C.holds A (cq ..)
   exact A.mZ w w' (fun b hb=>F.keeps.block b (A.lt w hh b hb) (AA b hb)) hh
  ·exact F.holds A hA
 ·exfalso
  have hl:=X.lt w (C.holds X (cq ..)) b hb
  rcases H B hB b hb' with q|q
  ·omega
  ·exact AA b hb q
 ·rcases bw.1 hA with rfl|hA
  ·exact C.own A (cq ..) b hb
  ·rcases F.own A hA b hb with q|q
   ·exact .inl (Nat.le_trans C.keeps.size q)
   ·exact G b q
 ·rcases bw.1 hA with rfl|hA
  ·exact C.seen A (cq ..) b hb
  ·rcases H A hA b hb with q|q
   ·exact .inl (Nat.le_trans C.keeps.size q)
   ·obtain ⟨B,hB,hw⟩:=(hz.w_ b).1 q
    exact C.seen B (df _ hB) b (B.jE b hw)
/-- put back, as it was -/
theorem Da {M A:Type} {f:M→A→List aq} {S:BS} {w0 w:World} {C:List aq} {ms:List M} {asl:List A} {k:Nat} {m:M} {a:A} {X:aq} (hm:ms[k]? =some m) (ha:asl[k]? =some a) (hf:f m a=[X]) (h:St S w0 (X::bB (eM f ms asl k)::C) w):St S w0 (bB (aX f ms asl)::C) w:=by
 have B:St S w0 (bB (eM f ms asl k)::X::C) w:=h.perm (List.Perm.swap _ _ _)
 have D:St S w0 ((f m a++eM f ms asl k)++C) w:=by
  rw [hf]
  exact B.jz.perm (List.perm_middle (a:=X) (l₁:=eM f ms asl k) (l₂:=C))
 exact jY (jV hm ha).symm D.tied
theorem Gv {E:eD} {K:Act→World→Prop} {D:gj} {L:cY} {C C1:List aq} {M A:Type} {f:M→A→List aq} {ms:List M} {asl:List A} {k:Nat} {m:M} {a:A} {X:aq} (i j:Nat) (hm:ms[k]? =some m) (ha:asl[k]? =some a) (hf:f m a=[X])
 (hn:decide (j::i::(List.range C.length).filter fun k=>k != i&&k != j).Nodup=true) (hC:kB C (j::i::(List.range C.length).filter fun k=>k != i&&k != j)=X::bB (eM f ms asl k)::C1)
 (h:KJ E K D L (bB (aX f ms asl)::C1)):KJ E K D L C:=fun a w hf' hs=>h a w hf' (Da hm ha hf (St.kB _ hn hC hs))
theorem wh {M A:Type} {f:M→A→List aq} {ms:List M} {asl:List A} {m:M} {a:A} {X:aq} (hl:ms.length=asl.length) (hf:f m a=[X]):aX f ms asl++[X]=aX f (ms++[m]) (asl++[a]):=by
 rw [k6 hl,← hf]; simp [aX]
theorem u7 {E:eD} {K:Act→World→Prop} {D:gj} {L:cY} {C C1:List aq} {M A:Type} {f:M→A→List aq} {ms:List M} {asl:List A} {m:M} {a:A} {X:aq} (i j:Nat) (hf:f m a=[X])
 (hn:decide (j::i::(List.range C.length).filter fun k=>k != i&&k != j).Nodup=true) (hC:kB C (j::i::(List.range C.length).filter fun k=>k != i&&k != j)=X::bB (aX f ms asl)::C1)
 (h:KJ E K D L (bB (aX f (m::ms) (a::asl))::C1)):KJ E K D L C:=fun b w hf' hs=>by
 have B:=St.kB _ hn hC hs
 have F:St E.S E.w0 (bB (aX f ms asl)::X::C1) w:=B.perm (List.Perm.swap _ _ _)
 have G:St E.S E.w0 (aX f (m::ms) (a::asl)++C1) w:=by
  show St E.S E.w0 ((f m a++aX f ms asl)++C1) w
  rw [hf]
  exact F.jz.perm (List.perm_middle (a:=X) (l₁:=aX f ms asl) (l₂:=C1))
 exact h b w hf' G.tied
end
section
open Go.RowKit
abbrev kI (r:Nat):aq:=ki r (.deferred (some []))
theorem JO (rs:List Nat):(bB (rs.map kI)).wr=true:=by
 show (rs.map kI).all (·.wr)=true
 rw [cN]
 intro X hX
 obtain ⟨r,_,rfl⟩:=b_.1 hX
 rfl
theorem sN {E:eD} {c:Code} {Q:cP} {D:gj} {L:cY} {C:List aq} {ι:Type} (Di:ι→gj) (Li:ι→cY) (Ci:ι→List aq) (μ:ι→Nat) (x0:ι)
 (hD:D=Di x0) (h0:ee L (Li x0)) (hC: ∀ w,St E.S E.w0 C w→St E.S E.w0 (Ci x0) w)
 (round: ∀ x (J:Act→World→Prop),(∀ y D' L' C',D'=Di y→μ y<μ x→ee L' (Li y)→(∀ w,St E.S E.w0 C' w→St E.S E.w0 (Ci y) w)→KJ E J D' L' C')→WJ E c (Exit.then J Q) (Di x) (Li x) (Ci x)):WJ E (.loop c) Q D L C:=by
 intro a w hf hs
 subst hD
 have H: ∃ x,Fr E.n (Di x) (Li x) a∧St E.S E.w0 (Ci x) w:=⟨x0,hf.sub h0,hC w hs⟩
 clear hf hs
 have key: ∀ (m:Nat) (a:Act) (w:World),(∃ x,μ x=m∧Fr E.n (Di x) (Li x) a∧St E.S E.w0 (Ci x) w)→(Code.loop c).wpIn (Fw E.r) 0 E.P Q a w:=by
  intro m a w hx
  refine wpIn_loop (fun a w=> ∃ x,Fr E.n (Di x) (Li x) a∧St E.S E.w0 (Ci x) w) (fun a w=>leastOf fun k=> ∃ x,μ x=k∧Fr E.n (Di x) (Li x) a∧St E.S E.w0 (Ci x) w) (by obtain ⟨x,_,h⟩:=hx; exact ⟨x,h⟩) ?_
  intro a w hx
  have F: ∃ k,∃ x,μ x=k∧Fr E.n (Di x) (Li x) a∧St E.S E.w0 (Ci x) w:=by obtain ⟨x,h⟩:=hx; exact ⟨_,x,rfl,h⟩
  obtain ⟨x,K,AA,M⟩:=(leastOf_spec F).1
  refine round x _ ?_ a w AA M
  intro y D' L' C' hD G A B a' w' hf' hs'
  subst hD
  refine ⟨⟨y,hf'.sub A,B _ hs'⟩,?_⟩
  rw [← K]
  exact Nat.lt_of_le_of_lt ((leastOf_spec ⟨_,y,U,hf'.sub A,B _ hs'⟩).2 _ ⟨y,U,hf'.sub A,B _ hs'⟩) G
 obtain ⟨x,h⟩:=H
 exact key _ a w ⟨x,U,h⟩
theorem St.PN {S:BS} {w0 w:World} {C X:List aq} {A:aq} (h:St S w0 (A::bB X::C) w):St S w0 (bB (A::X)::C) w:=by
 have B:St S w0 (bB X::A::C) w:=h.perm (List.Perm.swap _ _ _)
 have D:St S w0 ((A::X)++C) w:=B.jz.perm (List.perm_middle (a:=A) (l₁:=X) (l₂:=C))
 exact D.tied
theorem FF {E:eD} {K:Act→World→Prop} {D:gj} {L:cY} {C C1 X:List aq} {A:aq} (i j:Nat) (hn:decide (j::i::(List.range C.length).filter fun k=>k != i&&k != j).Nodup=true) (hC:kB C (j::i::(List.range C.length).filter fun k=>k != i&&k != j)=A::bB X::C1)
 (h:KJ E K D L (bB (A::X)::C1)):KJ E K D L C:=fun a w hf hs=>h a w hf ((St.kB _ hn hC hs).PN)
theorem K6 {E:eD} {K:Act→World→Prop} {D:gj} {L:cY} {C:List aq} (h:KJ E K D L (bB []::C)):KJ E K D L C:=fun a w hf hs=>h a w hf hs.Kx
theorem Lz {E:eD} {K:Act→World→Prop} {D:gj} {L:cY} (C1 C2:List aq) (h:KJ E K D L (bB C1::C2)):KJ E K D L (C1++C2):=fun a w hf hs=>h a w hf (St.tied hs)
theorem Je {E:eD} {fn:Func} {R:Ending→World→Prop} {D:gj} {L:cY} {C C1:List aq} {rs:List Nat} (i:Nat) (hn:decide (i::(List.range C.length).filter fun k=>k != i).Nodup=true) (hC:kB C (i::(List.range C.length).filter fun k=>k != i)=bB (rs.map kI)::C1)
 (h:LJ E fn R D L C1):LJ E fn R (rs.map kq++D) L C:=by
 have key: ∀ rs:List Nat,LJ E fn R (rs.map kq++D) L (bB (rs.map kI)::C1):=by
  intro rs
  induction rs with
  |nil=>exact fun a w hf hs=>h a w hf (hs.take (List.sublist_cons_self _ _))
  |cons r rs ih=>
   have A:LJ E fn R (kq r::(rs.map kq++D)) L (kI r::bB (rs.map kI)::C1):=nc 0 rfl rfl (fun a w hf hs=>ih a w hf (hs.take (List.sublist_cons_self _ _)))
   intro a w hf hs
   refine A a w hf ?_
   have B:St E.S E.w0 ((kI r::rs.map kI)++C1) w:=St.jz (C1:=kI r::rs.map kI) hs
   have F:St E.S E.w0 (rs.map kI++(kI r::C1)) w:=B.perm (List.perm_middle (a:=kI r) (l₁:=rs.map kI) (l₂:=C1)).symm
   exact F.tied.perm (List.Perm.swap _ _ _)
 exact fun a w hf hs=>key rs a w hf (St.kB _ hn hC hs)
theorem Et {E:eD} {fn:Func} {R:Ending→World→Prop} {L:cY} {C C1:List aq} {rs:List Nat} (i:Nat) (hn:decide (i::(List.range C.length).filter fun k=>k != i).Nodup=true) (hC:kB C (i::(List.range C.length).filter fun k=>k != i)=bB (rs.map kI)::C1)
 (h:LJ E fn R [] L C1):LJ E fn R (rs.map kq) L C:=by
 have:=Je (D:=[]) i hn hC h
 rwa [List.append_nil] at this
end
section
open Go.RowKit
theorem nE (fs:List FM) (fb:List Nat):(bB (aX lD fs fb)).wr=true:=by
 show (aX lD fs fb).all (·.wr)=true
 rw [cN]
 intro X hX
 obtain ⟨k,m,a,_,_,h⟩:=iU hX
 simp only [lD,bJ] at h
 subst h; rfl
theorem oz (fs:List TM) (fb:List Nat):(bB (aX nX fs fb)).wr=true:=by
 show (aX nX fs fb).all (·.wr)=true
 rw [cN]
 intro X hX
 obtain ⟨k,m,a,_,_,h⟩:=iU hX
 simp only [nX,bJ] at h
 subst h; rfl
end
section
def cS (bl:List Nat) (n:Nat):List (Option Nat):=bl.map some++List.replicate (n-bl.length) none
def gr (bl:List Nat) (n:Nat):List (Option Nat):=List.replicate (n-bl.length) none++bl.map some
theorem lY {bl:List Nat} {n:Nat} (h:bl.length≤n):(cS bl n).length=n:=by simp [cS]; omega
theorem u_ {bl:List Nat} {n:Nat} (h:bl.length≤n):(gr bl n).length=n:=by simp [gr]; omega
theorem qY {n:Nat}:List.replicate n none=cS [] n:=by simp [cS]
theorem CQ {n:Nat}:List.replicate n none=gr [] n:=by simp [gr]
theorem u6 {bl:List Nat} {n:Nat} (h:bl.length=n):cS bl n=bl.map some:=by simp [cS,h]
theorem DE {bl:List Nat} {n:Nat} (h:bl.length=n):gr bl n=bl.map some:=by simp [gr,h]
theorem kW {bl:List Nat} {n k g:Nat} (h:bl[k]? =some g):(cS bl n)[k]? =some (some g):=by
 have hk:=(aY.1 h).1
 unfold cS
 rw [List.getElem?_append_left (by simpa using hk),eX,h]; rfl
theorem qb {bl:List Nat} {n k i g:Nat} (h:bl[i]? =some g) (hk:k=n-bl.length+i):(gr bl n)[k]? =some (some g):=by
 subst hk
 unfold gr
 rw [List.getElem?_append_right sm,eX,List.length_replicate,Nat.add_sub_cancel_left,h]; rfl
theorem pd {bl:List Nat} {n k g:Nat} (hk:k=bl.length) (h:bl.length<n):(cS bl n).set k (some g)=cS (bl++[g]) n:=by
 subst hk
 unfold cS
 rw [List.set_append_right _ _ sm]
 have e:n-bl.length=(n-(bl++[g]).length)+1:=by simp; omega
 rw [e,List.replicate_succ]
 simp
theorem CE {bl:List Nat} {n k g:Nat} (hk:k+1+bl.length=n):(gr bl n).set k (some g)=gr (g::bl) n:=by
 unfold gr
 have e:n-bl.length=k+1:=by omega
 have A:n-(g::bl).length=k:=by simp; omega
 rw [e,A,List.set_append_left _ _ sm,List.replicate_succ',List.set_append_right _ _ sm]
 simp
theorem oc {l:List (Option Nat)} {k g:Nat} (h:l[k]? =some (some g)):(l.map oC)[k]? =some (oC (some g)):=by rw [eX,h]; rfl
theorem xB {α:Type} {l:List α} {x:α} {k:Nat} (h:k=l.length):(l++[x])[k]? =some x:=by subst h; simp
theorem Ht {α:Type} {l:List α} {x y:α} {k:Nat} (h:l[k]? =some y):(l++[x])[k]? =some y:=by rw [List.getElem?_append_left (aY.1 h).1]; exact h
structure ob (w:bO) (fs:List FM):Prop where
 all: ∀ (b:Nat) m,fs[b]? =some m→qd m (fwd w b)∧(m.map (·.1)).Nodup
structure gF (w:bO) (k:Nat) (bs:List FM):Prop where
 all: ∀ (i:Nat) m,bs[i]? =some m→rN m (back w (k+i))∧(m.map (·.1)).Nodup
variable {w:bO} {b:Nat} {mb m left:List (ax×Int)} {o:Int×aa} {os:List (Int×aa)} {p:ax×Int}
theorem ob.first:ob w [[(⟨0,0⟩,w.Start)]]:=⟨fun b m h=>by
 match b with
 |0=>simp at h; subst h; exact ⟨DW,sm⟩
 |n+1=>simp at h⟩
theorem ob.add {fs:List FM} (h:ob w fs) (hl:fs.length=b+1) (hmb:fs[b]? =some mb) (hm:uN w b m) (hd:jm w b mb m left) (h0:left=[]):ob w (fs++[m]):=⟨fun i x hx=>by
 rcases Nat.lt_or_ge i fs.length with q|q
 ·rw [List.getElem?_append_left q] at hx; exact h.all i x hx
 ·rw [List.getElem?_append_right q] at hx
  have hi:i-fs.length=0:=by
   rcases Nat.eq_zero_or_pos (i-fs.length) with z|z
   ·exact z
   ·rw [List.getElem?_eq_none (by simp; omega)] at hx; cases hx
  rw [hi] at hx
  simp at hx; subst hx
  obtain rfl:i=b+1:=by omega
  have A:=h.all b mb hmb
  exact ⟨G3 A.2 A.1 hm.snd (hd.fin h0),hm.keys⟩⟩
theorem ob.ok {fs:List FM} (h:ob w fs) (hl:fs.length=w.n+1):rI w fs:=⟨hl,fun b m hm=>(h.all b m hm).1,fun b m hm=>(h.all b m hm).2⟩
theorem gF.none_:gF w b []:=⟨fun i m h=>by simp at h⟩
theorem gF.last (hb:w.n≤b):gF w b [[(⟨0,0⟩,w.iL)]]:=⟨fun i m h=>by
 match i with
 |0=>simp at h; subst h; exact ⟨Gl om,sm⟩
 |n+1=>simp at h⟩
theorem gF.add {bs:List FM} (h:gF w (b+1) bs) (hb:b<w.n) (hmb:bs[0]? =some mb) (hm:sB w b m) (hd:iN w b mb m left) (h0:left=[]):gF w b (m::bs):=⟨fun i x hx=>by
 match i with
 |0=>
  simp at hx; subst hx
  have A:=h.all 0 mb hmb
  exact ⟨Gi hb A.2 A.1 hm.snd hm.zero (hd.fin h0),hm.keys⟩
 |n+1=>
  have:=h.all n x (by simpa using hx)
  rw [show b+1+n=b+(n+1) by omega] at this
  exact this⟩
theorem gF.ok {bs:List FM} (h:gF w 0 bs) (hl:bs.length=w.n+1):pZ w bs:=⟨hl,fun b m hm=>by have:=(h.all b m hm).1; rwa [Nat.zero_add] at this,fun b m hm=>(h.all b m hm).2⟩
/-- on the way through one entry's options -/
structure mC (w:bO) (b:Nat) (mb left m:List (ax×Int)) (p:ax×Int) (os:List (Int×aa)):Prop where
 on:uN w b m
 qg:jm w b mb m left
 done:hP w b m p os
structure mD (w:bO) (b:Nat) (mb left m:List (ax×Int)) (p:ax×Int) (os:List (Int×aa)):Prop where
 on:sB w b m
 qg:iN w b mb m left
 done:ij w b m p os
theorem mC.start (h:uN w b m) (h2:jm w b mb m left):mC w b mb left m p []:=⟨h,h2,fun o ho=>by cases ho⟩
theorem mD.start (h:sB w b m) (h2:iN w b mb m left):mD w b mb left m p []:=⟨h,h2,fun o ho=>by cases ho⟩
theorem Cy {q:ax×Int} (h:(m.lookup q.1).isSome=false∨q.2<(m.lookup q.1).getD 0):nG m q=dN m q.1 q.2:=by
 unfold nG
 cases e:m.lookup q.1 with
 |none=>rfl
 |some v=>rw [e] at h; simp at h; simp only; rw [if_pos h]
theorem Aq {q:ax×Int} (h:(m.lookup q.1).isSome=true) (h2: ¬ q.2<(m.lookup q.1).getD 0):nG m q=m:=by
 unfold nG
 cases e:m.lookup q.1 with
 |none=>rw [e] at h; cases h
 |some v=>rw [e] at h2; simp only [Option.getD_some] at h2; simp only; rw [if_neg h2]
theorem DO {q:ax×Int} (h:(m.lookup q.1).isSome=false∨(m.lookup q.1).getD 0<q.2):nA m q=dN m q.1 q.2:=by
 unfold nA
 cases e:m.lookup q.1 with
 |none=>rfl
 |some v=>rw [e] at h; simp at h; simp only; rw [if_pos h]
theorem AB {q:ax×Int} (h:(m.lookup q.1).isSome=true) (h2: ¬ (m.lookup q.1).getD 0<q.2):nA m q=m:=by
 unfold nA
 cases e:m.lookup q.1 with
 |none=>rw [e] at h; cases h
 |some v=>rw [e] at h2; simp only [Option.getD_some] at h2; simp only; rw [if_neg h2]
theorem xg {t:ax} {v y:Int} (hy:w.nj[b]? =some y) (h:max (v+y) o.2.Lo≤min o.2.Hi w.iL):jT w b (t,v) o=some (d_ t (e9 o.1),max (v+y) o.2.Lo):=by
 have e:=l5 hy
 subst e
 exact Hn h
theorem FJ {t:ax} {v y:Int} (hy:w.nj[b]? =some y) (h: ¬ max (v+y) o.2.Lo≤min o.2.Hi w.iL):jT w b (t,v) o=none:=by
 have e:=l5 hy
 subst e
 exact Jp h
theorem xu {t:ax} {v y:Int} (hy:w.nj[b]? =some y) (h:o.2.Lo≤min v o.2.Hi):mE w b (t,v) o=some (d_ t (e9 o.1),min v o.2.Hi-y):=by
 have e:=l5 hy
 subst e
 exact FD h
theorem mC.set {q:ax×Int} (h:mC w b mb left m p os) (hp:p∈fwd w b) (ho:o∈iE w b) (he:jT w b p o=some q) (hs:(m.lookup q.1).isSome=false∨q.2<(m.lookup q.1).getD 0):mC w b mb left (dN m q.1 q.2) p (os++[o]):=by
 rw [← Cy hs]
 exact ⟨h.on.add hp ho he,h.qg.lower rZ,h.done.Fa he⟩
theorem mC.mZ {q:ax×Int} (h:mC w b mb left m p os) (he:jT w b p o=some q) (hs:(m.lookup q.1).isSome=true) (h2: ¬ q.2<(m.lookup q.1).getD 0):mC w b mb left m p (os++[o]):=by
 have:=h.done.Fa he
 rw [Aq hs h2] at this
 exact ⟨h.on,h.qg,this⟩
theorem mC.skip (h:mC w b mb left m p os) (he:jT w b p o=none):mC w b mb left m p (os++[o]):=⟨h.on,h.qg,h.done.none_ he⟩
theorem mD.set {q:ax×Int} (hb:b<w.n) (h:mD w b mb left m p os) (hp:p∈back w (b+1)) (ho:o∈iE w b) (he:mE w b p o=some q) (hs:(m.lookup q.1).isSome=false∨(m.lookup q.1).getD 0<q.2):mD w b mb left (dN m q.1 q.2) p (os++[o]):=by
 rw [← DO hs]
 exact ⟨h.on.add hb hp ho he,h.qg.upper oK,h.done.Fa he⟩
theorem mD.mZ {q:ax×Int} (h:mD w b mb left m p os) (he:mE w b p o=some q) (hs:(m.lookup q.1).isSome=true) (h2: ¬ (m.lookup q.1).getD 0<q.2):mD w b mb left m p (os++[o]):=by
 have:=h.done.Fa he
 rw [AB hs h2] at this
 exact ⟨h.on,h.qg,this⟩
theorem mD.skip (h:mD w b mb left m p os) (he:mE w b p o=none):mD w b mb left m p (os++[o]):=⟨h.on,h.qg,h.done.none_ he⟩
theorem mC.next {t:ax} {v:Int} (hn:(left.map (·.1)).Nodup) (hm:(t,v)∈left) (h:mC w b mb left m (t,v) os) (ho: ∀ o∈iE w b,o∈os):jm w b mb m (bY left t):=h.qg.next hn hm h.done ho
theorem mD.next {t:ax} {v:Int} (hn:(left.map (·.1)).Nodup) (hm:(t,v)∈left) (h:mD w b mb left m (t,v) os) (ho: ∀ o∈iE w b,o∈os):iN w b mb m (bY left t):=h.qg.next hn hm h.done ho
theorem ob.mem {fs:List FM} (h:ob w fs) (hm:fs[b]? =some mb) (hp:p∈mb):p∈fwd w b:=(h.all b mb hm).1.1 _ _ ((eJ (h.all b mb hm).2).1 hp)
theorem gF.Pc {bs:List FM} {k:Nat} (h:gF w k bs) (hk:k=b+1) (hm:bs[0]? =some mb) (hp:p∈mb):p∈back w (b+1):=by
 subst hk
 exact (h.all 0 mb hm).1.1 _ _ ((eJ (h.all 0 mb hm).2).1 hp)
theorem gF.end_ {bs:List FM} {k j:Nat} (h:gF w k bs) (hj:bs.length=0) (hk:j=b) (hb:w.n≤b):gF w j ([(⟨0,0⟩,w.iL)]::bs):=by
 subst hk
 rw [iz hj]
 exact gF.last hb
theorem gF.more {bs:List FM} {k j:Nat} (h:gF w k bs) (hk:k=b+1) (hj:j=b) (hb:b<w.n) (hmb:bs[0]? =some mb) (hm:sB w b m) (hd:iN w b mb m left) (h0:left=[]):gF w j (m::bs):=by
 subst hk hj
 exact h.add hb hmb hm hd h0
end
section
open Go.RowKit
theorem j0 {a:OA} {c e sz n:Nat} {es:List (List Value)} (h:es.length=n):HV (own a c e sz es) (rd a n sz es):=by subst h; exact Io
theorem oo {L:List aq}:HV (bB L) (eY L):=⟨fun w h=>h.1,fun b h=>h⟩
theorem B2 {b:Nat} {fb:List Nat} {g:Nat} (h:fb.length=b):aX nX (List.replicate b ([]:TM)) fb++[gQ iV g (bK dm [])]=aX nX (List.replicate (b+1) ([]:TM)) (fb++[g]):=by
 rw [List.replicate_succ']
 exact wh (by rw [List.length_replicate]; exact h.symm) U
theorem Of {α:Type} {ms:List α} {fb:List Nat} {n:Nat} (h:fb.length=n) (h2:ms.length=n):List.map oC (cS fb n)=List.zipWith e8 ms fb:=by
 rw [u6 h]; exact (w5 om).symm
theorem jn {l:bo} {r:dw} {i:Nat} {x:aH} (hx:r.aj[i]? =some x) (h: ¬ g9 l r.aj i x): ¬ fh l r:=fun q=>h (q.sig i x hx)
end
section
open Go.RowKit
theorem nm:qS Tryz.prog 172 dH:=Jh Kj (fun x y w=>KN 9998 x y w) (fun x y h=>by cases x; cases y; simp [ax.cells] at h; simp [h]) (fun x=>by simp [ax.cells,Instr.sameBits]) (fun x w=>⟨_,rfl,fun p hp=>by
 simp only [bw,List.not_mem_nil,or_false] at hp
 rcases hp with rfl|rfl
 ·exact ⟨⟨_,jc ct U w⟩,_,og⟩
 ·exact ⟨⟨_,jc ct U w⟩,_,og⟩⟩)
theorem EL (s:Int):
 dR Tryz.prog 105 [(vI s)] [] (vA (ax.cells (e9 s))):=by
 refine bE kr Tryz.func105 U U fun H Q hQ hN=>?_
 try dsimp only
 refine WS fun _ B=>AL U qm fun G=>RK B<|ah fun _ C=>WS fun _ D=>rP 2 [] I ?_
 refine RK D<|cM U (aQ fun A=>?_) (aR fun A=>?_)
 ·refine WS fun _ E=>rS (SX (aZ (xs:=[(1,.const (vI 1))]) (cs:=(ax.cells (ax.mk 0 1))) U U (bf yv U)) U U)<|fG U pC U<|RK E<|ao<|HH hQ [0] (mc 0 U I) U ?_
  unfold e9; first|rw [if_pos A]|rw [if_neg A]
 refine WK C<|WS fun _ F=>rS (SX (aZ (xs:=[(0,.const (vI 1))]) (cs:=(ax.cells (ax.mk 1 0))) U U (bf yv U)) U U)<|fG U pC U<|RK F<|ao<|HH hQ [0] (mc 0 U I) U ?_
 unfold e9; first|rw [if_pos A]|rw [if_neg A]
theorem sW (x:ax) (y:ax) (hx:(0≤x.right∧x.right≤1000)∧0≤x.fK∧x.fK≤1000) (hy:(0≤y.right∧y.right≤1000)∧0≤y.fK∧y.fK≤1000):
 dR Tryz.prog 104 [(vA (ax.cells x)),(vA (ax.cells y))] [] (vA (ax.cells (d_ x y))):=by
 refine bE kr Tryz.func104 U U fun F Q hQ hN=>?_
 try dsimp only
 refine WS fun _ A=>fY U fun C=>fY U fun D=>AL U qm fun E=>RK A<|WS fun _ B=>rP 10 [0,1,0,1] (mc 2 U (mc 1 U I)) ?_
 refine rS (SX (aZ (xs:=[(0,.tmp 9),(1,.tmp 14)]) (cs:=(ax.cells (ax.mk (x.right+y.right) (x.fK+y.fK)))) U U (bf yv U)) U U)<|fG U pC U<|RK B<|ao ?_
 exact HH hQ [0] (mc 0 U I) U U
theorem JV (ln:cu) (ri:eC) (e:List Int) (tms:List TM) (e_A:OA) (e_C:Nat) (tb:List Nat) (t_A:OA) (t_C:Nat) (fs:List FM) (bs:List FM) (fb:List Nat) (f_A:OA) (f_C:Nat) (bb:List Nat) (b_A:OA) (b_C gw:Nat) (x:ax) (hx:(0≤x.right∧x.right≤1000)∧0≤x.fK∧x.fK≤1000) (hn:ri.aj.n≤1000):
 dR Tryz.prog 103 [(vP gw),(vA (ax.cells x))] [(rd e_A e.length 1 (e.map iC)),(rd t_A tms.length 1 (List.zipWith e8 tms tb)),(eY (aX nX tms tb)),(rd f_A fs.length 1 (List.zipWith e8 fs fb)),(eY (aX lD fs fb)),(rd b_A bs.length 1 (List.zipWith e8 bs bb)),(eY (aX lD bs bb)),(bQ gw 166 (bL.cells (bL.mk ln ri (bk.mk e_A e.length e_C) (bk.mk t_A tms.length t_C) (bk.mk f_A fs.length f_C) (bk.mk b_A bs.length b_C))))] (vB (nk (cj ln ri e tms) x)):=by
 refine bE kr Tryz.func103 U U fun E Q hQ hN=>?_
 try dsimp only
 refine WS fun _ C=>fY U fun D=>bh 1 U<|RK C<|ah fun _ B=>dF cE 26 kr<|mQ 3 [] (mc 0 U I) U<|dS (SX (bx U U) U U)<|dP 5 [] (mr 8 U I) ?_
 refine jL (t:=13) U (aR fun A=>?_) (aQ fun A=>?_)
 ·refine dP 17 [] I ?_
  refine cQ<|RK B<|ao<|Q1 hQ U U U ?_
  exact cB (cm (fun h=>A h.1)).symm
 refine lQ 1 U<|dS (SX (bx U U) U U)<|mQ 8 [0,1] (mr 8 U (mc 0 U I)) U<|dS (SX (bx U U) U U)<|dP 6 [] (mr 8 U I) ?_
 refine cQ<|RK B<|ao<|Q1 hQ U U U ?_
 exact cB (gd.2 ⟨fun h=>⟨A,h⟩,fun h=>h.2⟩)
end
section
open Go.RowKit
theorem rE (ln:cu) (ri:eC) (e:List Int) (tms:List TM) (e_A:OA) (e_C:Nat) (tb:List Nat) (t_A:OA) (t_C:Nat) (fs:List FM) (bs:List FM) (fb:List Nat) (f_A:OA) (f_C:Nat) (bb:List Nat) (b_A:OA) (b_C gw:Nat) (hw:CY (cj ln ri e tms)) (hsg:ri.aj.n≤1000) (hn:ln.ab.n=e.length) (hfw:rI (cj ln ri e tms) fs) (hfb:fb.length=fs.length):
 lq Tryz.prog 99 [(vP gw)] [(rd e_A e.length 1 (e.map iC)),(rd t_A tms.length 1 (List.zipWith e8 tms tb)),(eY (aX nX tms tb)),(rd f_A fs.length 1 (List.zipWith e8 fs fb)),(eY (aX lD fs fb)),(rd b_A bs.length 1 (List.zipWith e8 bs bb)),(eY (aX lD bs bb)),(bQ gw 166 (bL.cells (bL.mk ln ri (bk.mk e_A e.length e_C) (bk.mk t_A tms.length t_C) (bk.mk f_A fs.length f_C) (bk.mk b_A bs.length b_C))))] (fun (x:(OA)×Nat)=>(vS x.1 ((gl (cj ln ri e tms)).length) x.2)) (fun (x:(OA)×Nat)=>True) (fun (x:(OA)×Nat)=>[(own x.1 x.2 3 1 ((gl (cj ln ri e tms)).map iC))]):=by
 have y:e.length≤6:=hw.n
 have u:fs.length=e.length+1:=hfw.len
 refine de kr Tryz.func99 U U fun w0 Q hQ hN=>?_
 try dsimp only
 refine WS fun _ X=>bh 1 U<|RK X<|WS fun _ Y=>bh 1 U<|RK Y<|ah fun _ Z=>WS fun _ b=>bh 1 U<|rS (SX (bx U U) U U)<|rP 6 [] (mr 7 U I) ?_
 refine RK b<|aA<|gI 3 1 ?_
 have A:(0≤e.length+1):=by exact Nat.zero_le _
 refine bR (ι:={z:Nat×(OA)×Nat // (z.1≤e.length+1)}) [0,12] [1,2,3,4,5,6,7,8] U U (fun z=>[(3,(vS z.1.2.1 ((jw (cj ln ri e tms) z.1.1).length) z.1.2.2)),(13,(vI (z.1.1:Int)))]) (fun z=>[(own z.1.2.1 z.1.2.2 3 1 ((jw (cj ln ri e tms) z.1.1).map iC))]) (fun _=>rfl) (fun _=>rfl) (fun z=>e.length+1-z.1.1) ⟨(0,none,0),A⟩ (aW U) (aK [1,2,3,4,5,6,7,8,0]) ?_
 clear A
 rintro ⟨⟨n,a,c⟩,G⟩ J5 AB
 try dsimp only at G
 try dsimp only
 refine WS fun _ d=>rP 1 [] I ?_
 refine RK d<|ah fun _ g=>bT U (aR fun s=>?_) (aQ fun s=>?_)
 ·refine bI<|ae<|ae<|aC<|KK Z<|WS fun _ P=>?_
  rw [show jw (cj ln ri e tms) n=gl (cj ln ri e tms) by (obtain rfl:n=e.length+1:=by omega); rfl]
  refine rP 2 [] I ?_
  refine RK P<|ao<|LX hQ (a,c) [8] [] I U U U U ?_
  trivial
 refine WK g<|ah fun _ R=>aA<|WS fun _ J=>bh 2 U<|RK J<|WS fun _ K=>bh 1 U<|rS (SX (bx U U) U U)<|rP 3 [] (mr 7 U I) ?_
 obtain ⟨m,B⟩:=aM fs n om
 obtain ⟨ma,hm0a⟩:=aM fb n om
 have hm0m:(List.zipWith e8 fs fb)[n]? =some (e8 m ma):=eu B hm0a
 refine rS (IA n U (aJ 3 U) mJ dc om om)<|rS (g_ n 0 (Value.map (some ma)) U ct (aJ 3 U) hm0m U dc U)<|jl (kV:=dH) (m:=bK iV m) 4 U U nu U ⟨⟨(gQ dH ma (bK iV m)),(cD B hm0a (by simp [lD])),U⟩,fun h=>h⟩ (show ju _ (gQ dH ma (bK iV m)).holds from eN 4 U (cD B hm0a (by simp [lD]))) U fun l=>?_
 try dsimp only
 refine RK K<|aA ?_
 have A:(∀ p∈m,p∈m)∧(∀ p∈m,p∈m∨nk (cj ln ri e tms) p.1=false):=by exact ⟨fun p hp=>hp,fun p hp=> .inl hp⟩
 refine bR (ι:={z:FM // (∀ p∈z,p∈m)∧(∀ p∈m,p∈z∨nk (cj ln ri e tms) p.1=false)}) [0,3,4,12,13,23] [1,2,3,4,5,6,7,8,9] U U (fun z=>[]) (fun z=>[(wc dH l ma (bK iV m) (bK iV z.1) none)]) (fun _=>rfl) (fun _=>rfl) (fun z=>z.1.length) ⟨m,A⟩ (ee.nil _) (aK [1,2,3,4,5,6,7,8,9,0]) ?_
 clear A
 rintro ⟨left,⟨C,D⟩⟩ J13 H
 try dsimp only
 refine WS fun _ F=>iq nm.inj (f:=iV) 9 U U U U (fun W=>?_) (fun t v hm i=>?_)
 ·refine bh 1 U<|RK F<|ah fun _ o=>aS U<|bI<|ae<|ae<|aC<|aF<|KK R<|an<|rP 2 [] I ?_
  refine aG ?_
  rw [← C7 (w:=(cj ln ri e tms)) (k:=n) ((yS (hfw.min _ _ B) (hfw.keys _ _ B)).symm.trans (F4 D W))]
  have S:(vI (((n+1):Nat):Int))=(vI ((n:Int)+1)):=by exact cI om
  refine bg (AB ⟨((n+1),a,c),(by first|omega|(simp only []; omega))⟩ _ _ _ U os (dx 3<|bG U S<|ee.nil _) (aK [0,1,2,3,4,5,6,7,8]))
 try dsimp only
 refine bh 1 U<|RK F<|ah fun _ L=>aL U<|WK L<|aA<|WS fun _ M=>rS (SX (il 9 U U U) U U)<|bh 1 U<|AL U qm fun q=>fG U pC U<|RK M<|WS fun _ N=>rP 2 [] (mc 0 U I) ?_
 have j:=Hs hw _ _ (hfw.mem B (C _ hm))
 dsimp only at j
 refine rS (CL (JV ln ri e tms e_A e_C tb t_A t_C fs bs fb f_A f_C bb b_A b_C gw t om hsg) (a_ [1,2,3,4,5,6,7,8]) U)<|RK N<|bT U (fun E=>?_) (fun E=>?_)
 ·refine cr<|aF<|gi 10 U eQ U ?_
  refine bg (H ⟨(bY left t),⟨k7 C,Gk i hm D (by first|exact E|simpa using E)⟩⟩ _ _ _ U (er hm) (aW U) (aK [1,2,3,4,5,6,7,8,9,10]))
 refine WS fun _ O=>rP 2 [] I ?_
 refine cH (xs:=[.tmp 32]) (cs:=[(vI (n:Int))]) U cy hE U U U U (by simp [Value.cells]) U U fun r=>?_
 have hy:jy (cj ln ri e tms) (fwd (cj ln ri e tms) n)=true:=(yS (hfw.min _ _ B) (hfw.keys _ _ B)).symm.trans (I4 (C _ hm) E)
 refine ei (es2:=(List.map iC (jw (cj ln ri e tms) (n+1)))) (m':=(jw (cj ln ri e tms) (n+1)).length) 10 U U U rF U U sm (aV (es:=List.map iC [(n:Int)]) 0 U U (by simp [bu]) U) (ly _) (by have:=pW (w:=(cj ln ri e tms)) (k:=n); first|omega|(simp; omega)) (by have:=pW (w:=(cj ln ri e tms)) (k:=n); simp only [maxLen]; omega) (by rw [Ar hy]; simp) sm U fun AA V=>?_
 try dsimp only
 refine bh 1 U<|RK O<|bI<|gY U<|ae<|aC<|aF<|KK R<|an<|rP 2 [] I ?_
 refine aG ?_
 have T:(vI (((n+1):Nat):Int))=(vI ((n:Int)+1)):=by exact cI om
 refine bg (AB ⟨((n+1),AA,V),(by first|omega|(simp only []; omega))⟩ _ _ _ U os (dx 3<|bG U T<|ee.nil _) (aK [2,3,4,5,6,7,8,9,10]))
end
section
open Go.RowKit
theorem El (n lo hi:Int) (g1 g2:Nat):
 dR Tryz.prog 100 [(vI n),(vP g1),(vP g2)] [(bQ g1 3 [(vI lo)]),(bQ g2 3 [(vI hi)])] (vB (decide (n<lo∨hi<n))):=by
 refine bE kr Tryz.func100 U U fun D Q hQ hN=>?_
 try dsimp only
 refine WS fun _ B=>bh 1 U<|RK B<|WS fun _ A=>rP 4 [] (mr 0 U I) ?_
 refine cK (t:=8) U (aQ fun C=>?_) (aR fun C=>?_)
 ·refine rP 5 [] I ?_
  refine RK A<|ao<|Q1 hQ U U U ?_
  exact cB (dB om).symm
 refine rP 5 [] (mr 1 U I) ?_
 refine RK A<|ao<|Q1 hQ U U U ?_
 exact cB (gd.2 om)
theorem gf (lo hi:Int) (l:List Int) (lA:OA) (lC:Nat) (hlen:l.length≤1000000):
 dR Tryz.prog 60 [(vI lo),(vI hi),(vS lA l.length lC)] [(rd lA l.length 1 (l.map iC))] (vB (n7 lo hi l)):=by
 refine bE kr Tryz.func60 U U fun F Q hQ hN=>?_
 try dsimp only
 refine WS fun _ D=>qM U U fun A=>qM U U fun B=>bh 1 U<|RK D<|WS fun _ E=>rP 1 [] I ?_
 refine rS (FU U) ?_
 refine rS (CL (pR l lA lC (Value.func (.func 100) [].toArray [(vP A),(vP B)].toArray) (fun C=>(decide (C<lo∨hi<C))) (eY [(bQ A 3 [(vI lo)]),(bQ B 3 [(vI hi)])]) (by intro C _; exact l_ (fi:=[]) (ca:=[(vP A),(vP B)]) (kN (El C lo hi A B) (a_ [0,1]))) hlen) (eL 2 U U<|al (kR (a_ [1,0]))<|aD) U) ?_
 refine rP 2 [] I ?_
 refine RK E<|ao ?_
 exact Q1 hQ U U U U
theorem OH (n d:Int) (hd:2≤d):
 dR Tryz.prog 95 [(vI n),(vI d)] [] (vI (Nz n d)):=by
 refine bE kr Tryz.func95 U U fun C Q hQ hN=>?_
 try dsimp only
 refine WS fun _ A=>bh 1 U<|RK A<|WS fun _ B=>bh 2 U<|rS (BI U Ma)<|rS (BI U Gw)<|bh 1 U<|rS (BI U (Kz om (LV (My _) hd)))<|rP 1 [] I ?_
 refine RK B<|ao ?_
 exact Q1 hQ U U U U
theorem EU (n d:Int) (hd:1≤d∧d≤1000000) (hn:0≤n∧n≤1000000000000000):
 dR Tryz.prog 95 [(vI n),(vI d)] [] (vI (sK n d)):=by
 refine bE kr Tryz.func95 U U fun C Q hQ hN=>?_
 try dsimp only
 refine WS fun _ A=>bh 1 U<|RK A<|WS fun _ B=>bh 5 U<|rS (BI U (pI om om om))<|rP 1 [] I ?_
 refine RK B<|ao ?_
 exact Q1 hQ U U U U
theorem Cr (c:av) (sA:OA) (sC:Nat) (at_:Int) (hc:eP c) (ha:0≤at_∧at_≤90000000):
 dR Tryz.prog 139 [(vA (dn.cells (dn.mk c.eh (bk.mk sA c.bj.length sC)))),(vI at_)] [(rd sA c.bj.length 3 (c.bj.map cv.cells))] (vA (aa.cells (iv c at_))):=by
 have X:=hc.len
 have J:=hc.rG
 refine bE kr Tryz.func139 U U fun e Q hQ hN=>?_
 try dsimp only
 refine WS fun _ M=>fY U fun b=>AL U dk fun d=>RK M<|WS fun _ N=>rS (SX (aZ (xs:=[(0,.const (vI (-1099511627776))),(1,.const (vI 1099511627776))]) (cs:=(aa.cells (aa.mk (-1099511627776) 1099511627776))) U U (bf gR U)) U U)<|AL U dk fun W=>fG U cx U<|RK N<|ah fun _ O=>ah fun _ P=>?_
 have R:(aa.cells (aa.mk (-1099511627776) 1099511627776))=(aa.cells (fH c at_ 0)):=by rfl
 rw [R]
 refine an<|rP 4 [] (mc 2 U I) ?_
 refine RK P<|aA ?_
 have A:(0≤c.bj.length):=by exact Nat.zero_le _
 refine bR (ι:={z:Nat // (z≤c.bj.length)}) [1,2,4,5,11,12] [1,2,3] U U (fun z=>[(13,(vI (z.1:Int)))]) (fun z=>[(bQ W 45 (aa.cells (fH c at_ z.1)))]) (fun _=>rfl) (fun _=>rfl) (fun z=>c.bj.length-z.1) ⟨0,A⟩ (aW U) (aK [1,2,3,0]) ?_
 clear A
 rintro ⟨i,S⟩ J9 L
 try dsimp only
 refine WS fun _ B=>rP 1 [] I ?_
 refine RK B<|ah fun _ C=>bT U (aR fun K=>?_) (aQ fun K=>?_)
 ·refine bI<|ae<|ae<|aC<|KK O<|WS fun _ G=>rP 1 [] (mc 3 U I) ?_
  refine fG U cx U<|RK G<|ao<|HH hQ [0] (mc 0 U I) U ?_
  rw [nR (show c.bj.length≤i by omega)]
 refine WK C<|ah fun _ D=>aA<|WS fun _ E=>?_
 obtain ⟨x,hx⟩:=aM c.bj i om
 have AA:=bW cv.cells hx
 refine rS (IA i U (aJ 2 U) uX dc om om)<|rS (n9 i 0 (cv.cells x) U ct (aJ 2 U) AA U dc U U)<|AL U xd fun V=>fG U yc U<|RK E<|WS fun _ F=>rP 5 [0,1] (mc 2 U (mc 0 U I)) ?_
 have T:=hc.wq hx
 have Z:=yE hc ha i
 have Y:=BE J ha (show 0≤x.At∧x.At≤90000000 by omega)
 refine fr 5 [] (mc 0 U I) U<|rS (MX U)<|rS (BI U (Bp ⟨om,om⟩))<|rS (CL (EU (c.eh*(max (at_-x.At) (x.At-at_))) 1000000 om om) (aD) U)<|bh 1 U<|RK F<|an<|rP 6 [0,1] (mc 4 U (mc 0 U I)) ?_
 have a:0≤sK (c.eh*max (at_-x.At) (x.At-at_)) 1000000∧sK (c.eh*max (at_-x.At) (x.At-at_)) 1000000≤90001:=wK J ha T.1
 refine bh 1 U<|rS (MX U)<|rP 7 [0,1] (mc 4 U (mc 0 U I)) ?_
 refine rS (MN U)<|rS (SX (aZ (xs:=[(0,.tmp 37),(1,.tmp 45)]) (cs:=(aa.cells (aa.mk (max ((fH c at_ i).Lo) (x.fE.Lo-(sK (c.eh*(max (at_-x.At) (x.At-at_))) 1000000))) (min ((fH c at_ i).Hi) (x.fE.Hi+(sK (c.eh*(max (at_-x.At) (x.At-at_))) 1000000)))))) U U (bf gR U)) U U)<|Me U cx U<|aG<|aF<|KK D ?_
 have H:(aa.cells (aa.mk (max ((fH c at_ i).Lo) (x.fE.Lo-(sK (c.eh*(max (at_-x.At) (x.At-at_))) 1000000))) (min ((fH c at_ i).Hi) (x.fE.Hi+(sK (c.eh*(max (at_-x.At) (x.At-at_))) 1000000)))))=(aa.cells (fH c at_ (i+1))):=by rw [kY hx]; rfl
 rw [H]
 refine an<|rP 2 [] I ?_
 refine aG ?_
 have AB:(vI (((i+1):Nat):Int))=(vI ((i:Int)+1)):=by exact cI om
 refine bg (L ⟨(i+1),(by first|omega|(simp only []; omega))⟩ _ _ _ U os (dx 6<|bG U AB<|ee.nil _) (aK [1,2,3,4]))
theorem L9 (c:av) (sA:OA) (sC:Nat) (hlen:c.bj.length≤1000000) (hcap:c.bj.length≤sC):
 dR Tryz.prog 157 [(vA (dn.cells (dn.mk c.eh (bk.mk sA c.bj.length sC))))] [(rd sA c.bj.length 3 (c.bj.map cv.cells))] (vB (decide (eP c))):=by
 refine bE kr Tryz.func157 U U fun w0 Q hQ hN=>?_
 try dsimp only
 refine WS fun _ B7=>fY U fun b2=>bh 1 U<|RK B7<|xf U<|ah fun _ B9=>WS fun _ q=>rP 2 [] (mc 0 U I) ?_
 refine cH (xs:=[.tmp 11]) (cs:=[(vI c.eh)]) U cy hE U U U U (by simp [Value.cells]) U U fun b5=>?_
 refine rS (CL (dR.eq (gf 0 1000 ([c.eh]) (some ⟨b5,0,none⟩) 1 (by (simp; done))) cp) (al (aV 0 U U (by simp [bu]) U)<|aD) U) ?_
 refine rP 2 [] I ?_
 refine cK (t:=15) U (bq fun AB=>?_) (bp fun AB=>?_)
 ·refine bh 7 U<|RK q<|aL U<|WS fun _ Ci=>rP 1 [] I ?_
  refine RK Ci<|ao<|Q1 hQ U U U ?_
  exact cB (cm fun h=>AB h.rG).symm
 refine rP 3 [] (mc 1 U I) ?_
 refine cH (xs:=[.tmp 18]) (cs:=[(vI (c.bj.length:Int))]) U cy hE U U U U (by simp [Value.cells]) U U fun b7=>?_
 refine rS (CL (dR.eq (gf 1 5 ([(c.bj.length:Int)]) (some ⟨b7,0,none⟩) 1 (by (simp; done))) cp) (al (aV 0 U U (by simp [bu]) U)<|aD) U) ?_
 refine rP 2 [] I ?_
 refine RK q<|cM U (bq fun O=>?_) (bp fun O=>?_)
 ·refine WS fun _ Ck=>rP 1 [] I ?_
  refine RK Ck<|ao<|Q1 hQ U U U ?_
  exact cB (cm fun h=>O (by have:=h.len; omega)).symm
 refine WK B9<|WS fun _ Cp=>bh 1 U<|RK Cp<|WS fun _ R=>bh 1 U<|RK R<|ah fun _ S=>wG<|KK S<|ah fun _ K=>WS fun _ T=>rP 4 [] (mc 2 U I) ?_
 refine RK T<|aA ?_
 have B:(0≤c.bj.length)∧(pQ c 0):=by exact ⟨Nat.zero_le _,Eb⟩
 have r:(vI (jx c 0))=(vI (-1)):=by rw [fx rfl]
 refine bR (ι:={z:Nat // (z≤c.bj.length)∧(pQ c z)}) [1,2,4,24,25] [2,3] U U (fun z=>[(3,(vI (jx c z.1))),(26,(vI (z.1:Int)))]) (fun z=>[]) (fun _=>rfl) (fun _=>rfl) (fun z=>c.bj.length-z.1) ⟨0,B⟩ (bG U r<|aW U) (aK [2,3]) ?_
 clear B
 rintro ⟨i,⟨L,C⟩⟩ J15 P
 try dsimp only
 have Do: -1≤jx c i∧jx c i≤86400000:=Lf L C
 refine WS fun _ AA=>rP 1 [] I ?_
 refine RK AA<|ah fun _ V=>bT U (aR fun A6=>?_) (aQ fun A6=>?_)
 ·refine bI<|ae<|ae<|aC<|KK K<|WS fun _ f=>rP 2 [] I ?_
  refine RK f<|ao<|Q1 hQ U U U ?_
  exact cB (dB (Cz AB om (by have e:i=c.bj.length:=om; rw [← e]; exact C))).symm
 refine WK V<|ah fun _ W=>aA<|WS fun _ X=>rP 1 [] I ?_
 obtain ⟨x,hx⟩:=aM c.bj i om
 have C0:=bW cv.cells hx
 refine rS (IA i U (aJ 1 U) uX dc om om)<|rS (n9 i 0 (cv.cells x) U ct (aJ 1 U) C0 U dc U U)<|AL U xd fun C1=>rP 1 [] I ?_
 refine fG U yc U<|RK X ?_
 refine qu (ι:=Unit) [1,2,3,5,6,24,25,26] [0,1,2] U U (fun z=>[(4,(vB (decide (eI c i x))))]) (fun z=>[]) (fun _=>rfl) (fun _=>rfl) ?_ fun K22 G=>?_
 ·intro _
  try dsimp only
  refine ah fun _ Y=>WS fun _ Z=>fr 3 [] (mc 1 U I) U<|rS (OK i U uX om om)<|rP 2 [] I ?_
  refine RK Z<|aA ?_
  have B:(0≤i)∧((decide (eI c i x))=(decide (kO c i x 0))):=by exact ⟨Nat.zero_le _,gd.2 AU.symm⟩
  refine bR (ι:={z:Nat×Bool // (z.1≤i)∧(z.2=(decide (kO c i x z.1)))}) [1,2,3,5,6,24,25,26,59,60] [0,1,2] U U (fun z=>[(4,(vB z.1.2)),(61,(vI (z.1.1:Int)))]) (fun z=>[]) (fun _=>rfl) (fun _=>rfl) (fun z=>i-z.1.1) ⟨(0,(decide (eI c i x))),B⟩ (aW U) (aK [0,1,2]) ?_
  clear B
  rintro ⟨⟨k,b⟩,⟨M,A⟩⟩ J25 F
  try dsimp only at M A
  try dsimp only
  refine WS fun _ a=>rP 1 [] I ?_
  refine RK a<|ah fun _ d=>bT U (aR fun A8=>?_) (aQ fun A8=>?_)
  ·refine bI<|ae<|ae<|aC<|KK Y<|ah fun _ m=>WS fun _ n=>rP 2 [] I ?_
   refine RK n<|cM U (fun D=>?_) (fun D=>?_)
   ·rw [Bool.not_eq_true'] at D
    refine bI<|ae<|gY U<|ae<|ae<|aC<|KK K<|WS fun _ p=>rP 2 [] I ?_
    refine RK p<|ao<|Q1 hQ U U U ?_
    exact cB (by have e:k=i:=om; rw [e] at A; rw [D] at A ⊢; exact (cm (EV hx (of_decide_eq_false A.symm))).symm)
   rw [Bool.not_eq_false'] at D
   refine WK m<|an<|fr 3 [] (mc 0 U I) U<|aG<|aF<|KK W<|an<|rP 2 [] I ?_
   refine aG ?_
   have A0:(vB true)=(vB b):=by exact cB D.symm
   have A1:(vI (jx c (i+1)))=(vI x.At):=by rw [mK hx]
   have A2:(vI (((i+1):Nat):Int))=(vI ((i:Int)+1)):=by exact cI om
   refine bg (P ⟨(i+1),⟨om,D_ C hx (by have e:k=i:=om; rw [e] at A; exact of_decide_eq_true (A.symm.trans D))⟩⟩ _ _ _ U os (ee.cons U<|ee.cons U<|bG U A0<|ee.cons U<|ee.cons U<|bG U A1<|bG U A2<|ee.nil _) (aK [1,2]))
  refine WK d<|ah fun _ H=>aA<|WS fun _ g=>?_
  obtain ⟨o,ho⟩:=aM c.bj k om
  have Cu:=bW cv.cells ho
  refine rS (Mr k U (aJ 2 U) uX dc om om om)<|rS (n9 k 0 (cv.cells o) U ct (aJ 2 U) Cu U dc U U)<|AL U xd fun C2=>fG U yc U<|RK g<|WS fun _ l=>fr 6 [0,1,2] (mc 2 U (mc 1 U (mc 0 U I))) U<|rS (BI U Gw)<|rS (BI U Ll)<|rS (CL (OH (xI (c.eh*(xI (x.At-o.At)))) 1000000 om) (aD) U)<|bh 1 U<|RK l<|an<|rP 2 [] I ?_
  refine cb (t:=75) U (fun J=>?_) (fun J=>?_)
  ·refine bh 6 U<|bh 16 U<|aG<|aF<|KK H<|an<|rP 2 [] I ?_
   refine aG ?_
   have AO:(vI (((k+1):Nat):Int))=(vI ((k:Int)+1)):=by exact cI om
   refine bg (F ⟨((k+1),false),⟨om,by exact (cm fun h=>by have h2:=((p8 ho).1 h).1; rw [A] at J; exact absurd (dB h2) (by rw [J]; decide)).symm⟩⟩ _ _ _ U os (dx 11<|bG U AO<|ee.nil _) (aK [1,2,3]))
  refine rP 6 [0,1] (mc 1 U (mc 0 U I)) ?_
  have A3:kO c i x k:=of_decide_eq_true (A.symm.trans J)
  obtain ⟨Cx,D8,EQ⟩:=qT (fun j y hj hy=>(C j y hj hy).1) hx A3.1 om ho
  have N:=Jb AB Cx
  refine rP 5 [] I ?_
  refine cb (t:=86) U (aR fun E=>?_) (aQ fun E=>?_)
  ·refine bh 11 U<|aG<|aF<|KK H<|an<|rP 2 [] I ?_
   refine aG ?_
   have AC:(vI (((k+1):Nat):Int))=(vI ((k:Int)+1)):=by exact cI om
   refine bg (F ⟨((k+1),false),⟨om,by exact (cm fun h=>by have h2:=((p8 ho).1 h).2; rw [N] at E; exact E h2.1).symm⟩⟩ _ _ _ U os (dx 11<|bG U AC<|ee.nil _) (aK [1,2,3]))
  refine fr 11 [0,1] (mc 0 U (mc 1 U I)) U<|aG<|aF<|KK H<|an<|rP 2 [] I ?_
  refine aG ?_
  have w:(vI (((k+1):Nat):Int))=(vI ((k:Int)+1)):=by exact cI om
  refine bg (F ⟨((k+1),(decide ((o.fE.Lo-x.fE.Hi)≤(Nz (xI (c.eh*(xI (x.At-o.At)))) 1000000)))),⟨om,by exact gd.2 (by rw [p8 ho,N]; rw [N] at E; exact ⟨fun h=>⟨A3,E,h⟩,fun h=>h.2.2⟩)⟩⟩ _ _ _ U os (dx 11<|bG U w<|ee.nil _) (aK [1,2,3]))
 refine an<|rP 4 [] (mc 0 U I) ?_
 refine cH (xs:=[.tmp 34]) (cs:=[(vI x.At)]) U cy hE U U U U (by simp [Value.cells]) U U fun A4=>?_
 refine rS (CL (dR.eq (gf ((jx c i)+1) 86400000 ([x.At]) (some ⟨A4,0,none⟩) 1 (by (simp; done))) cp) (al (aV 0 U U (by simp [bu]) U)<|aD) U) ?_
 refine rP 1 [] I ?_
 refine cb (t:=37) U (aR fun A9=>?_) (aQ fun A9=>?_)
 ·refine rP 19 [] I ?_
  refine aG ?_
  have v:(decide (eI c i x))=false:=cm (by unfold eI; omega)
  refine bg (kv (dx 8<|mj U v<|ee.nil _) (aK [1,2,3]) (G ()))
 refine rP 6 [] (mc 1 U I) ?_
 refine cH (xs:=[.tmp 40,.tmp 43]) (cs:=[(vI x.fE.Lo),(vI x.fE.Hi)]) U cy hE U U U U (by simp [Value.cells]) U U fun A5=>?_
 refine rS (CL (dR.eq (gf (-10000) 10000 ([x.fE.Lo,x.fE.Hi]) (some ⟨A5,0,none⟩) 2 (by (simp; done))) pn) (al (aV 0 U U (by simp [bu]) U)<|aD) U) ?_
 refine rP 2 [] I ?_
 refine cb (t:=47) U (aR fun B3=>?_) (aQ fun B3=>?_)
 ·refine rP 9 [] I ?_
  refine aG ?_
  have u:(decide (eI c i x))=false:=cm (by unfold eI; omega)
  refine bg (kv (dx 8<|mj U u<|ee.nil _) (aK [2,3,4]) (G ()))
 refine rP 9 [] (mc 2 U I) ?_
 refine aG ?_
 have s:(decide (eI c i x))=(decide (x.fE.Lo≤x.fE.Hi)):=gd.2 (by unfold eI; omega)
 refine bg (kv (dx 8<|mj U s<|ee.nil _) (aK [2,3,4]) (G ()))
theorem M_ (ms:List av) (az:List RA) (k:Nat) (m:av) (a:RA) (hm:ms[k]? =some m) (ha:az[k]? =some a) (hc:m.bj.length≤a.2∧m.bj.length≤1000000):
 dR Tryz.prog 156 [(vA (dn.cells (dn.mk m.eh (bk.mk a.1 m.bj.length a.2))))] [(eY (aX av.ja ms az))] (vB (!(decide (eP m)))):=by
 obtain ⟨C,D⟩:=hc
 refine bE kr Tryz.func156 U U fun F Q hQ hN=>?_
 try dsimp only
 refine WS fun _ A=>fY U fun E=>bh 1 U<|RK A<|WS fun _ B=>fr 1 [] (mc 0 U I) U<|rS (CL (L9 m a.1 a.2 asm asm) (al (show ju _ (rd a.1 m.bj.length 3 (m.bj.map cv.cells)).holds from (eN 1 U (cD hm ha (by simp [av.ja]))))<|aD) U)<|rP 2 [] I ?_
 refine RK B<|ao ?_
 exact Q1 hQ U U U U
theorem CN (l:List av) (az:List RA) (lA:OA) (lC:Nat) (f:Value) (p:av→Bool) (X:aq) (hf: ∀ (k:Nat) m a,l[k]? =some m→az[k]? =some a→Ai Tryz.prog f [.agg (av.cells m a).toArray] [X] (.bool (p m))) (hlen:l.length≤1000000) (has:az.length=l.length):
 dR Tryz.prog 180 [(vS lA l.length lC),f] [(rd lA l.length 2 (List.zipWith av.cells l az)),(eY (aX av.ja l az)),X] (vI (qk p l)):=by
 refine bE kr Tryz.func180 U U fun T Q hQ hN=>?_
 try dsimp only
 refine WS fun _ AA=>bh 1 U<|RK AA<|ah fun _ J=>WS fun _ K=>rP 3 [] I ?_
 refine RK K<|aA ?_
 have B:(0≤l.length)∧((l.take 0).any p=false):=by simp
 refine bR (ι:={z:Nat // (z≤l.length)∧((l.take z).any p=false)}) [0,1,7] [0,1,2] U U (fun z=>[(8,(vI (z.1:Int)))]) (fun z=>[]) (fun _=>rfl) (fun _=>rfl) (fun z=>l.length-z.1) ⟨0,B⟩ (aW U) (aK [0,1,2]) ?_
 clear B
 rintro ⟨i,⟨P,A⟩⟩ J4 H
 try dsimp only
 refine WS fun _ L=>rP 1 [] I ?_
 refine RK L<|ah fun _ M=>bT U (aR fun S=>?_) (aQ fun S=>?_)
 ·refine bI<|ae<|ae<|aC<|KK J<|WS fun _ E=>rP 1 [] I ?_
  refine RK E<|ao<|Q1 hQ U U U ?_
  exact cI (p7 om A).symm
 refine WK M<|ah fun _ N=>aA<|WS fun _ O=>bh 2 U<|RK O<|WS fun _ C=>rP 3 [] I ?_
 obtain ⟨x,hx⟩:=aM l i om
 obtain ⟨xa,G⟩:=aM az i om
 have R:(List.zipWith av.cells l az)[i]? =some (av.cells x xa):=eu hx G
 refine rS (IA i U (aJ 0 U) xU dc om om)<|rS (n9 i 0 (dn.cells (dn.mk x.eh (bk.mk xa.1 x.bj.length xa.2))) U ct (aJ 0 U) R U dc U U)<|rS (SX (p6 U U U (hf i x xa hx G) (a_ [2])) U U)<|RK C<|cM U (fun hp=>?_) (fun hp=>?_)
 ·refine WS fun _ D=>rP 2 [] I ?_
  refine RK D<|ao<|Q1 hQ U U U ?_
  exact cI (tu hx hp A).symm
 refine cr<|aF<|KK N<|an<|rP 2 [] I ?_
 refine aG ?_
 have F:(vI (((i+1):Nat):Int))=(vI ((i:Int)+1)):=by exact cI om
 refine bg (H ⟨(i+1),⟨om,uI hx A hp⟩⟩ _ _ _ U os (dx 3<|bG U F<|ee.nil _) (aK [0,1,2]))
theorem wD (l:List av) (az:List RA) (lA:OA) (lC:Nat) (f:Value) (p:av→Bool) (X:aq) (hf: ∀ (k:Nat) m a,l[k]? =some m→az[k]? =some a→Ai Tryz.prog f [.agg (av.cells m a).toArray] [X] (.bool (p m))) (hlen:l.length≤1000000) (has:az.length=l.length):
 dR Tryz.prog 155 [(vS lA l.length lC),f] [(rd lA l.length 2 (List.zipWith av.cells l az)),(eY (aX av.ja l az)),X] (vB (l.any p)):=by
 refine bE kr Tryz.func155 U U fun C Q hQ hN=>?_
 try dsimp only
 refine WS fun _ A=>bh 1 U<|RK A<|WS fun _ B=>bh 2 U<|rS (CL (CN l az lA lC f p X (by exact hf) hlen has) (Jf 0 1 2 U U U U U U) U)<|rP 2 [] I ?_
 refine RK B<|ao<|Q1 hQ U U U ?_
 exact cB qZ
theorem Dn (l:List bM) (lA:OA) (lC:Nat) (f:Value) (p:bM→Bool) (X:aq) (hf: ∀ x0,x0∈l→Ai Tryz.prog f [.agg (bM.cells x0).toArray] [X] (.bool (p x0))) (hlen:l.length≤1000000):
 dR Tryz.prog 181 [(vS lA l.length lC),f] [(rd lA l.length 4 (l.map bM.cells)),X] (vI (qk p l)):=by
 refine bE kr Tryz.func181 U U fun S Q hQ hN=>?_
 try dsimp only
 refine WS fun _ H=>bh 1 U<|RK H<|ah fun _ AA=>WS fun _ J=>rP 3 [] I ?_
 refine RK J<|aA ?_
 have B:(0≤l.length)∧((l.take 0).any p=false):=by simp
 refine bR (ι:={z:Nat // (z≤l.length)∧((l.take z).any p=false)}) [0,1,7] [0,1] U U (fun z=>[(8,(vI (z.1:Int)))]) (fun z=>[]) (fun _=>rfl) (fun _=>rfl) (fun z=>l.length-z.1) ⟨0,B⟩ (aW U) (aK [0,1]) ?_
 clear B
 rintro ⟨i,⟨O,A⟩⟩ J4 G
 try dsimp only
 refine WS fun _ K=>rP 1 [] I ?_
 refine RK K<|ah fun _ L=>bT U (aR fun R=>?_) (aQ fun R=>?_)
 ·refine bI<|ae<|ae<|aC<|KK AA<|WS fun _ E=>rP 1 [] I ?_
  refine RK E<|ao<|Q1 hQ U U U ?_
  exact cI (p7 om A).symm
 refine WK L<|ah fun _ M=>aA<|WS fun _ N=>bh 2 U<|RK N<|WS fun _ C=>rP 3 [] I ?_
 obtain ⟨x,hx⟩:=aM l i om
 have P:=bW bM.cells hx
 refine rS (IA i U (aJ 0 U) tj dc om om)<|rS (n9 i 0 (bM.cells x) U ct (aJ 0 U) P U dc U U)<|rS (SX (p6 U U U (hf x (aT hx)) (a_ [1])) U U)<|RK C<|cM U (fun hp=>?_) (fun hp=>?_)
 ·refine WS fun _ D=>rP 2 [] I ?_
  refine RK D<|ao<|Q1 hQ U U U ?_
  exact cI (tu hx hp A).symm
 refine cr<|aF<|KK M<|an<|rP 2 [] I ?_
 refine aG ?_
 have F:(vI (((i+1):Nat):Int))=(vI ((i:Int)+1)):=by exact cI om
 refine bg (G ⟨(i+1),⟨om,uI hx A hp⟩⟩ _ _ _ U os (dx 3<|bG U F<|ee.nil _) (aK [0,1]))
theorem wQ (l:List bM) (lA:OA) (lC:Nat) (f:Value) (p:bM→Bool) (X:aq) (hf: ∀ x0,x0∈l→Ai Tryz.prog f [.agg (bM.cells x0).toArray] [X] (.bool (p x0))) (hlen:l.length≤1000000):
 dR Tryz.prog 159 [(vS lA l.length lC),f] [(rd lA l.length 4 (l.map bM.cells)),X] (vB (l.any p)):=by
 refine bE kr Tryz.func159 U U fun C Q hQ hN=>?_
 try dsimp only
 refine WS fun _ A=>bh 1 U<|RK A<|WS fun _ B=>bh 2 U<|rS (CL (Dn l lA lC f p X (by exact hf) hlen) (a_ [0,1]) U)<|rP 2 [] I ?_
 refine RK B<|ao<|Q1 hQ U U U ?_
 exact cB qZ
end
end Go.Proofs.YtlajhejcfcoddaaGreatDoor
