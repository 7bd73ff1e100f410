/-
 The statement raceRepairs_said, part 5 of 8: RankP, BoolC, RaceR, MapD, OrdX, TabP, NestS, Grp, Twin, Fresh, Rep, Rep6, Tab6, Bits, Rr1, B1, B2, B3, B7, B8, Rr2, MarkD, S2, B4.
 Conditions: none.
-/
import Derived.Test.YtcoejkiaokbmpaaGreatDoorTz1
import Derived.Test.YtcoejkiaokbmpaaGreatDoorTz2
import Derived.Test.YtcoejkiaokbmpaaGreatDoorTz3
import Derived.Test.YtcoejkiaokbmpaaGreatDoorTz4
import Derived.KernelRfl
namespace Go.Proofs.YtcoejkiaokbmpaaGreatDoor
set_option maxRecDepth 100000
set_option maxHeartbeats 4000000
set_option linter.unusedVariables false
section
abbrev qJ:=List (Int×Bool)
def iE (m:qJ) (P:Int→Prop):Prop:=(m.map (·.1)).Nodup∧ ∀ k,k∈m.map (·.1)↔P k
section
variable {m:qJ} {P Q:Int→Prop} {k:Int}
theorem iE.xY (h:iE m P) (e: ∀ k,P k↔Q k):iE m Q:=⟨h.1,fun k=>(h.2 k).trans (e k)⟩
theorem Lb (h: ∀ k,¬ P k):iE [] P:=⟨List.Pairwise.nil,fun k=>⟨fun q=>by simp at q,fun q=>absurd q (h k)⟩⟩
theorem Ge:k∈m.map (·.1)↔(m.lookup k).isSome=true:=by
 induction m with
 |nil=>simp
 |cons p m ih=>
  obtain ⟨a,b⟩:=p
  by_cases e:k=a
  ·subst e; simp [List.lookup]
  ·have:(k==a)=false:=by simpa using e
   simp only [List.map_cons,dL,e,false_or,List.lookup,this]
   exact ih
theorem KI {b:Bool} (h:iE m P) (hk: ¬ P k):iE (er m k b) fun q=>P q∨q=k:=by
 have hn:(m.lookup k).isSome=false:=by
  rw [Bool.eq_false_iff]
  exact fun q=>hk ((h.2 k).1 (Ge.2 q))
 unfold er
 rw [hn]
 simp only [Bool.false_eq_true,if_false]
 refine ⟨?_,fun q=>?_⟩
 ·rw [List.map_append]
  refine List.nodup_append.2 ⟨h.1,sm,fun a ha b hb e=>?_⟩
  simp at hb
  subst hb; subst e
  exact hk ((h.2 _).1 ha)
 ·rw [List.map_append,jB,h.2 q]
  simp
theorem Cg (h:iE m P):iE (ct m k) fun q=>P q∧q≠k:=by
 have hs:((ct m k).map (·.1)).Sublist (m.map (·.1)):=List.Sublist.map _ List.filter_sublist
 refine ⟨h.1.sublist hs,fun q=>?_⟩
 constructor
 ·intro hq
  obtain ⟨p,hp,rfl⟩:=List.mem_map.1 hq
  obtain ⟨A,B⟩:=jZ.1 hp
  exact ⟨(h.2 _).1 (List.mem_map_of_mem A),B⟩
 ·rintro ⟨A,B⟩
  obtain ⟨p,hp,rfl⟩:=List.mem_map.1 ((h.2 q).2 A)
  exact List.mem_map_of_mem (jZ.2 ⟨hp,B⟩)
end
/-- two rows that go up and have the same numbers, each once -/
theorem mZ {a b:List Int} (ha:a.Pairwise (· ≤ ·)) (hb:b.Pairwise (· ≤ ·)) (na:a.Nodup) (nb:b.Nodup) (h: ∀ x,x∈a↔x∈b):a=b:=
 rO ((List.perm_ext_iff_of_nodup na nb).2 h) ha hb
section
variable {m left:g7} {i n x:Int} {y:ab}
theorem lK {p:Int×ab→Bool} (hn:(left.map (·.1)).Nodup) (hm:(x,y)∈left):left.countP p=(ct left x).countP p+(if p (x,y)=true then 1 else 0):=by
 induction left with
 |nil=>cases hm
 |cons q left ih=>
  obtain ⟨a,b⟩:=q
  simp only [List.map_cons,List.nodup_cons] at hn
  rcases List.mem_cons.1 hm with e|hm
  ·cases e
   have A:ct ((x,y)::left) x=left:=by
    unfold ct
    rw [List.filter_cons_of_neg sm]
    exact List.filter_eq_self.2 fun q hq=>by
     have:q.1≠x:=fun e=>hn.1 (e▸List.mem_map_of_mem hq)
     simpa using this
   rw [A,List.countP_cons]
  ·have B:a≠x:=fun e=>hn.1 (e▸List.mem_map_of_mem (f:=fun z:Int×ab=>z.1) hm)
   have A:ct ((a,b)::left) x=(a,b)::ct left x:=by
    unfold ct
    rw [List.filter_cons_of_pos (by simpa using B)]
   rw [A,List.countP_cons,List.countP_cons,ih hn.2 hm]
   omega
theorem lV:il left i n=left.countP fun p=>decide (p.2.Hi<n)&& !decide (p.1=i):=by unfold il oi; rw [List.countP_filter]
theorem oB:km left i n=left.countP fun p=>decide (p.2.Lo<n)&& !decide (p.1=i):=by unfold km oi; rw [List.countP_filter]
theorem GO (hn:(left.map (·.1)).Nodup) (hm:(x,y)∈left) (h:x=i):il left i n=il (ct left x) i n:=by
 rw [lV,lV,lK hn hm]; simp [h]
theorem KV (hn:(left.map (·.1)).Nodup) (hm:(x,y)∈left) (h:x=i):km left i n=km (ct left x) i n:=by
 rw [oB,oB,lK hn hm]; simp [h]
theorem zh (hn:(left.map (·.1)).Nodup) (hm:(x,y)∈left) (h: ¬ x=i) (hy:y.Hi<n):il left i n=il (ct left x) i n+1:=by
 rw [lV,lV,lK hn hm]; simp [h,hy]
theorem AP (hn:(left.map (·.1)).Nodup) (hm:(x,y)∈left) (h: ¬ x=i) (hy: ¬ y.Hi<n):il left i n=il (ct left x) i n:=by
 rw [lV,lV,lK hn hm]; simp [h,hy]
theorem Bj (hn:(left.map (·.1)).Nodup) (hm:(x,y)∈left) (h: ¬ x=i) (hy:y.Lo<n):km left i n=km (ct left x) i n+1:=by
 rw [oB,oB,lK hn hm]; simp [h,hy]
theorem EE (hn:(left.map (·.1)).Nodup) (hm:(x,y)∈left) (h: ¬ x=i) (hy: ¬ y.Lo<n):km left i n=km (ct left x) i n:=by
 rw [oB,oB,lK hn hm]; simp [h,hy]
theorem yP:il [] i n=0:=rfl
theorem Ap:km [] i n=0:=rfl
theorem zu:il m i n≤m.length:=by unfold il oi; exact Nat.le_trans List.countP_le_length (List.length_filter_le _ _)
theorem DY:km m i n≤m.length:=by unfold km oi; exact Nat.le_trans List.countP_le_length (List.length_filter_le _ _)
end
def oF {β:Type} (m left:List (Int×β)) (ys:List Int):Prop:=(ys++left.map (·.1)).Perm (m.map (·.1))
theorem u_ {β:Type} {m:List (Int×β)}:oF m m []:=List.Perm.refl _
theorem wX {β:Type} {m:List (Int×β)} {ys:List Int} (h:oF m [] ys):ys.Perm (m.map (·.1)):=by simpa [oF] using h
theorem Jf {β:Type} {left:List (Int×β)} {x:Int} {y:β} (hn:(left.map (·.1)).Nodup) (hm:(x,y)∈left):(left.map (·.1)).Perm (x::(ct left x).map (·.1)):=by
 induction left with
 |nil=>cases hm
 |cons q left ih=>
  obtain ⟨a,b⟩:=q
  simp only [List.map_cons,List.nodup_cons] at hn
  rcases List.mem_cons.1 hm with e|hm
  ·cases e
   have A:ct ((x,y)::left) x=left:=by
    unfold ct
    rw [List.filter_cons_of_neg sm]
    exact List.filter_eq_self.2 fun q hq=>by
     have:q.1≠x:=fun e=>hn.1 (e▸List.mem_map_of_mem hq)
     simpa using this
   rw [A]; exact List.Perm.refl _
  ·have B:a≠x:=fun e=>hn.1 (e▸List.mem_map_of_mem (f:=fun z:Int×β=>z.1) hm)
   have A:ct ((a,b)::left) x=(a,b)::ct left x:=by
    unfold ct
    rw [List.filter_cons_of_pos (by simpa using B)]
   rw [A,List.map_cons,List.map_cons]
   exact ((ih hn.2 hm).cons a).trans (List.Perm.swap _ _ _)
theorem n7 {β:Type} {m left:List (Int×β)} {ys:List Int} {x:Int} {y:β} (hn:(left.map (·.1)).Nodup) (hm:(x,y)∈left) (h:oF m left ys):oF m (ct left x) (ys++[x]):=by
 unfold oF at h ⊢
 refine List.Perm.trans ?_ h
 rw [List.append_assoc]
 exact (Jf hn hm).symm.append_left ys
theorem fO {β:Type} {m left:List (Int×β)} {x:Int} (h: ∀ p∈left,p∈m): ∀ p∈ct left x,p∈m:=fun p hp=>h p (jZ.1 hp).1
theorem gN {m:g7} {i:Int} (h: ∀ p∈m,0≤p.2.Lo∧p.2.Lo≤p.2.Hi∧p.2.Hi≤30000000):0≤(bk m i).Lo∧(bk m i).Lo≤(bk m i).Hi∧(bk m i).Hi≤30000000:=by
 unfold bk
 cases e:m.lookup i with
 |none=>simp [fF]
 |some v=>
  have hm:(i,v)∈m:=by
   clear h
   induction m with
   |nil=>cases e
   |cons p m ih=>
    obtain ⟨a,b⟩:=p
    by_cases c:i=a
    ·subst c; simp [List.lookup] at e; subst e; exact bZ
    ·have:(i==a)=false:=by simpa using c
     simp only [List.lookup,this] at e
     exact cW _ (ih e)
  simpa using h _ hm
/-- not reached by the numbers so far -/
def uv (m:g7) (i:Int) (ys:List Int) (k:Int):Prop:=(1≤k∧k≤(m.length:Int))∧ ∀ n∈ys,¬ ((il m i n:Int)+1≤k∧k≤(km m i n:Int)+1)
section
variable {m:g7} {i:Int} {own:ab} {ys:List Int} {nev ranks:qJ} {n a b:Int}
theorem H3 (h:iE nev fun k=>1≤k∧k≤(m.length:Int)):iE nev (uv m i []):=h.xY fun k=>⟨fun h=>⟨h,fun n hn=>by cases hn⟩,fun h=>h.1⟩
theorem H2 (ha:a=(il m i n:Int)+1) (hb:b=(km m i n:Int)+1) (h:iE nev fun q=>uv m i ys q∧ ¬ (a≤q∧q≤b)):iE nev (uv m i (ys++[n])):=by
 subst ha hb
 refine h.xY fun k=>?_
 unfold uv
 constructor
 ·rintro ⟨⟨B,A⟩,C⟩
  refine ⟨B,fun x hx=>?_⟩
  rcases List.mem_append.1 hx with hx|hx
  ·exact A x hx
  ·rw [bK] at hx; subst hx; exact C
 ·rintro ⟨B,A⟩
  exact ⟨⟨B,fun x hx=>A x (List.mem_append_left _ hx)⟩,A n sm⟩
theorem DO {P:Int→Prop} {k:Int} (hk:a≤k) (h:iE nev fun q=>P q∧ ¬ (a≤q∧q<k)):iE (ct nev k) fun q=>P q∧ ¬ (a≤q∧q<k+1):=
 (Cg (k:=k) h).xY fun q=>by
  constructor
  ·rintro ⟨⟨B,A⟩,E⟩; exact ⟨B,fun ⟨C,D⟩=>A ⟨C,I⟩⟩
  ·rintro ⟨B,A⟩; exact ⟨⟨B,fun ⟨C,D⟩=>A ⟨C,I⟩⟩,fun e=>A ⟨I,I⟩⟩
theorem E4 (hall: ∀ n,n∈ys↔n∈j5 m i own) {k:Int} (hk:1≤k∧k≤(m.length:Int)): ¬ uv m i ys k↔uE m i own k:=by
 unfold uv uE
 constructor
 ·intro h
  refine Classical.byContradiction fun q=>h ⟨hk,fun n hn hc=>q ⟨n,(hall n).1 hn,hc.1,hc.2⟩⟩
 ·rintro ⟨n,hn,A,B⟩ h
  exact h.2 n ((hall n).2 hn) ⟨A,B⟩
/-- the ranks, from what is left of the map -/
theorem Dk (hi:m.lookup i≠none) (hall: ∀ n,n∈ys↔n∈j5 m i own) (h:iE ranks fun k=>(1≤k∧k≤(m.length:Int))∧ ¬ uv m i ys k):dx (ranks.map (·.1))=dq m i own:=by
 refine mZ j4 ?_ ((eV (l:=ranks.map (·.1))).nodup_iff.2 h.1) ?_ fun k=>?_
 ·unfold dq
  refine List.Pairwise.filter _ ?_
  rw [List.pairwise_map]
  exact List.pairwise_lt_range.imp fun h=>by omega
 ·unfold dq
  refine List.Pairwise.filter _ ?_
  rw [List.pairwise_map]
  exact List.pairwise_lt_range.imp fun h=>by omega
 ·rw [(eV (l:=ranks.map (·.1))).mem_iff,h.2 k,GS hi]
  constructor
  ·rintro ⟨A,B⟩; exact (E4 hall A).1 B
  ·intro A
   have hk:1≤k∧k≤(m.length:Int):=by
    obtain ⟨n,_,B,C⟩:=A
    have:=zI hi (x:=n)
    omega
   exact ⟨hk,(E4 hall hk).2 A⟩
end
section
variable {nw left rk:qJ} {N R:Int→Prop} {u:Int} {v:Bool}
theorem MT (hl: ∀ p∈left,p∈nw) (hk:iE nw N) (hm:(u,v)∈left) (h:iE rk fun w=>R w∧ ¬ (N w∧w ∉ left.map (·.1))):iE (ct rk u) fun w=>R w∧ ¬ (N w∧w ∉ (ct left u).map (·.1)):=
 (Cg (k:=u) h).xY fun w=>by
  have hd:w∈(ct left u).map (·.1)↔w∈left.map (·.1)∧w≠u:=by
   constructor
   ·intro q
    obtain ⟨p,hp,rfl⟩:=List.mem_map.1 q
    exact ⟨List.mem_map_of_mem (jZ.1 hp).1,(jZ.1 hp).2⟩
   ·rintro ⟨D,E⟩
    obtain ⟨p,hp,rfl⟩:=List.mem_map.1 D
    exact List.mem_map_of_mem (jZ.2 ⟨hp,E⟩)
  constructor
  ·rintro ⟨⟨B,A⟩,C⟩
   exact ⟨B,fun q=>A ⟨q.1,fun z=>q.2 (hd.2 ⟨z,C⟩)⟩⟩
  ·rintro ⟨B,A⟩
   refine ⟨⟨B,fun q=>A ⟨q.1,fun z=>q.2 (hd.1 z).1⟩⟩,fun e=>A ⟨?_,fun z=>(hd.1 z).2 e⟩⟩
   subst e
   exact (hk.2 _).1 (List.mem_map_of_mem (f:=fun z:Int×Bool=>z.1) (hl _ hm))
theorem IC {n:Nat} (h:iE rk R) (hR: ∀ k,R k→1≤k∧k≤(n:Int)):rk.length≤n:=by
 have hp:((List.range n).map fun (k:Nat)=>(k:Int)+1).Pairwise (· < ·):=by
  rw [List.pairwise_map]
  exact List.pairwise_lt_range.imp fun h=>by omega
 have e:dx (rk.map (·.1))=((List.range n).map fun (k:Nat)=>(k:Int)+1).filter fun k=>decide (k∈rk.map (·.1)):=by
  refine mZ j4 ((hp.filter _).imp fun h=>by omega) ((eV (l:=rk.map (·.1))).nodup_iff.2 h.1) ((hp.filter _).imp fun h=>by omega) fun k=>?_
  rw [(eV (l:=rk.map (·.1))).mem_iff,List.mem_filter,decide_eq_true_eq]
  refine ⟨fun q=>⟨?_,q⟩,fun q=>q.2⟩
  have:=hR k ((h.2 k).1 q)
  exact List.mem_map.2 ⟨(k-1).toNat,List.mem_range.2 I,I⟩
 have A:=congrArg List.length e
 have B:=List.length_filter_le (fun k=>decide (k∈rk.map (·.1))) ((List.range n).map fun (k:Nat)=>(k:Int)+1)
 rw [fW,List.length_map] at A
 rw [List.length_map,List.length_range] at B
 omega
end
section
variable {m left:g7} {i x n:Int} {own y:ab} {ys:List Int}
/-- what was told so far: all of those who are not left -/
def zj (m:g7) (i:Int) (own:ab) (left:g7) (ys:List Int):Prop:=(∀ n∈ys,n∈j5 m i own)∧own.Lo∈ys∧ ∀ p∈m,p.1≠i→p ∉ left→ ∀ n∈[p.2.Lo+1,p.2.Hi+1],own.Lo≤n∧n≤own.Hi→n∈ys
theorem lX {p:Int×ab} (hp:p∈m) (hi:p.1≠i) (hn:n=p.2.Lo+1∨n=p.2.Hi+1) (hb:own.Lo≤n∧n≤own.Hi):n∈j5 m i own:=
 cW _ (List.mem_filter.2 ⟨List.mem_flatMap.2 ⟨p,List.mem_filter.2 ⟨hp,by simpa using hi⟩,by simpa using hn⟩,dh hb⟩)
theorem Jl:zj m i own m [own.Lo]:=⟨fun n hn=>by rw [bK] at hn; subst hn; exact bZ,sm,fun p hp _ hl=>absurd hp hl⟩
theorem M1 (h:zj m i own [] ys) (n:Int):n∈ys↔n∈j5 m i own:=by
 refine ⟨h.1 n,fun hn=>?_⟩
 rcases List.mem_cons.1 hn with rfl|hn
 ·exact h.2.1
 ·obtain ⟨C,D⟩:=List.mem_filter.1 hn
  obtain ⟨p,hp,hx⟩:=List.mem_flatMap.1 C
  obtain ⟨A,B⟩:=List.mem_filter.1 hp
  exact h.2.2 p A (by simpa using B) sm n hx (of_decide_eq_true D)
theorem k7 {ys':List Int} (hm:(left.map (·.1)).Nodup) (hx:(x,y)∈left) (hl: ∀ p∈left,p∈m) (h:zj m i own left ys) (hs: ∀ n∈ys,n∈ys') (hn: ∀ n∈ys',n∈ys∨n∈j5 m i own)
 (hy:x≠i→ ∀ n∈[y.Lo+1,y.Hi+1],own.Lo≤n∧n≤own.Hi→n∈ys'):zj m i own (ct left x) ys':=by
 refine ⟨fun n A=>?_,hs _ h.2.1,fun p hp hi B n A hb=>?_⟩
 ·rcases hn n A with q|q
  ·exact h.1 n q
  ·exact q
 ·by_cases e:p∈left
  ·have C:p.1=x:=by
    refine Classical.byContradiction fun q=>B (jZ.2 ⟨e,q⟩)
   have E:p=(x,y):=by
    obtain ⟨G,H⟩:=p
    simp only at C; subst C
    have F:=(jQ hm).1 e
    have D:=(jQ hm).1 hx
    rw [F] at D; cases D; rfl
   subst E
   exact hy hi n A hb
  ·exact hs n (h.2.2 p hp hi e n A hb)
end
section
variable {r:cr} {h i:Int} {ht:List av} {d:av}
end
end
section
open Go.RowKit
def hZ (b:Bool):List Value:=[.bool b]
@[simp] theorem Af (b:Bool):(hZ b).length=1:=rfl
theorem Hh (l:List Bool): ∀ v∈(l.map hZ).flatten,v.oneCell'=true:=l5 (fun s=>rfl) l
end
section
def ly (r:cr) (i:Nat):Prop:= ∀ (j:Nat) x,j<i→r.aq[j]? =some x→ ¬ oU x
def mY (x:List av) (i:Nat):Prop:= ∀ (j:Nat) d,j<i→x[j]? =some d→ ¬ 15<(d.bW.ah.length:Int)
section
variable {r:cr} {i:Nat} {x:List av} {d:av}
theorem AD:ly r 0:=fun j x hj=>absurd hj (Nat.not_lt_zero _)
theorem AT (h:ly r i) (hx:r.aq[i]? =some x) (ho: ¬ oU x):ly r (i+1):=fun j y hj hy=>by
 rcases Nat.lt_or_ge j i with q|q
 ·exact h j y q hy
 ·obtain rfl:j=i:=by omega
  rw [hx] at hy; cases hy; exact ho
theorem BO:mY x 0:=fun j x hj=>absurd hj (Nat.not_lt_zero _)
theorem AW (h:mY x i) (hx:x[i]? =some d) (ho: ¬ 15<(d.bW.ah.length:Int)):mY x (i+1):=fun j y hj hy=>by
 rcases Nat.lt_or_ge j i with q|q
 ·exact h j y q hy
 ·obtain rfl:j=i:=by omega
  rw [hx] at hy; cases hy; exact ho
theorem Dw (hl: ¬ 8<(x.length:Int)) (h:mY x i) (hi:x.length≤i): ¬ oU x:=by
 rintro (q|⟨d,hd,q⟩)
 ·exact hl q
 ·obtain ⟨j,hj⟩:=List.getElem?_of_mem hd
  exact h j d (by have:=(List.getElem?_eq_some_iff.1 hj).1; omega) hj q
theorem GC (h1: ¬ jN r.aA) (h2: ¬ 8<(r.aH.length:Int)∧ ¬ 8<(r.cm.length:Int)∧ ¬ 5<(r.aq.length:Int)) (h:ly r i) (hi:r.aq.length≤i): ¬ je r:=by
 rintro ((q|q)|⟨x,hx,q⟩)
 ·exact h1 q
 ·omega
 ·obtain ⟨j,hj⟩:=List.getElem?_of_mem hx
  exact h j x (by have:=(List.getElem?_eq_some_iff.1 hj).1; omega) hj q
theorem po (h:jN r.aA∨8<(r.aH.length:Int)∨8<(r.cm.length:Int)∨5<(r.aq.length:Int)):je r:= .inl h
theorem Bo (hx:r.aq[i]? =some x) (h:8<(x.length:Int)):je r:= .inr ⟨x,aR hx,.inl h⟩
theorem DI {j:Nat} (hx:r.aq[i]? =some x) (hd:x[j]? =some d) (h:15<(d.bW.ah.length:Int)):je r:= .inr ⟨x,aR hx,.inr ⟨d,aR hd,h⟩⟩
end
noncomputable def oL (l:aW) (d:av):ab:=if d.Out=true then fF else fB l d
theorem Jo {l:aW} {d:av} (h:ia l d):oL l d=fB l d:=by
 unfold oL
 split
 ·rename_i q
  rw [EV q]
  rw [qq q] at h
  exact h.2.1.symm
 ·rfl
theorem zJ {l:aW} {d:av} (h:d.Out=true):oL l d=fF:=if_pos h
theorem FB {l:aW} {d:av} (h:d.Out=false∧d.dE=true):oL l d=d.Time:=by unfold oL; rw [if_neg (by rw [h.1]; decide),EC h]
theorem E6 {l:aW} {d:av} (h:d.Out=false∧d.dE=false):oL l d=BK l d.bW:=by unfold oL; rw [if_neg (by rw [h.1]; decide),E2 h]
def QN (r:cr) (j:Nat):Prop:= ∀ x,r.aH[j]? =some x→(0≤x∧x≤9999)∧ ∀ y,0<j→r.aH[j-1]? =some y→y<x
def Iy (r:cr) (j:Nat):Prop:= ∀ x,r.cm[j]? =some x→(0≤x∧x≤(r.aH.length:Int)-1)∧ ∀ (k:Nat) y,k<j→r.cm[k]? =some y→y≠x
def xB (r:cr) (i:Nat):Prop:= ∀ j,j<i→QN r j∧Iy r j
section
variable {r:cr} {i k:Nat} {x:Int}
theorem H0:xB r 0:=fun j hj=>absurd hj (Nat.not_lt_zero _)
theorem AV (h:xB r i) (h1:QN r i) (h2:Iy r i):xB r (i+1):=fun j hj=>by
 rcases Nat.lt_or_ge j i with q|q
 ·exact h j q
 ·obtain rfl:j=i:=by omega
  exact ⟨h1,h2⟩
theorem xO {l:List Int} {u v:Int} (h: ∀ (q:Nat) y,q<k→l[q]? =some y→y≠v) (hx:l[k]? =some u) (hne: ¬ u=v): ∀ (q:Nat) y,q<k+1→l[q]? =some y→y≠v:=fun q y hq hy=>by
 rcases Nat.lt_or_ge q k with c|c
 ·exact h q y c hy
 ·obtain rfl:q=k:=by omega
  rw [hx] at hy; cases hy; exact hne
theorem J_ (hl:r.cm.length=r.aH.length) (h:xB r r.aH.length):r.cm.Perm (Gp r.aH.length):=by
 have nd:r.cm.Nodup:=by
  rw [List.nodup_iff_pairwise_ne,nY]
  intro a b ha hb A
  exact ((h b I).2 _ (ei hb)).2 a _ A (ei ha)
 have hm: ∀ x∈r.cm,x∈Gp r.aH.length:=fun x hx=>by
  obtain ⟨j,hj⟩:=List.getElem?_of_mem hx
  have:=((h j (by have:=(List.getElem?_eq_some_iff.1 hj).1; omega)).2 x hj).1
  exact List.mem_map.2 ⟨x.toNat,List.mem_range.2 I,I⟩
 have ndu:(Gp r.aH.length).Nodup:=by
  unfold Gp
  rw [List.nodup_iff_pairwise_ne,List.pairwise_map]
  exact List.pairwise_lt_range.imp fun h=>by omega
 have e:dx r.cm=(Gp r.aH.length).filter fun x=>decide (x∈r.cm):=by
  refine mZ j4 ((wB _).filter _) (eV.nodup_iff.2 nd) (ndu.filter _) fun x=>?_
  rw [eV.mem_iff,List.mem_filter,decide_eq_true_eq]
  exact ⟨fun q=>⟨hm x q,q⟩,fun q=>q.2⟩
 have B:=congrArg List.length e
 rw [fW,hl] at B
 have C:(Gp r.aH.length).filter (fun x=>decide (x∈r.cm))=Gp r.aH.length:=List.filter_sublist.eq_of_length (by rw [← B]; simp)
 rw [C] at e
 rw [← e]; exact eV.symm
theorem F4 {n:Nat} (h1:1≤(r.aH.length:Int)∧(r.aH.length:Int)≤5) (h2:r.cm.length=r.aH.length) (h3:0≤r.iN∧r.iN≤5) (h4:1≤(r.aq.length:Int)∧(r.aq.length:Int)≤3)
 (hn:n=r.aH.length) (h6:xB r n) (h7:jh r i) (hi:r.aq.length≤i):eJ r:=by
 subst hn
 refine ⟨h1,h3,h4,fun k x hx=>(h6 k (List.getElem?_eq_some_iff.1 hx).1).1 x hx,J_ h2 h6,fun h hh=>?_⟩
 obtain ⟨j,hj⟩:=List.getElem?_of_mem hh
 exact h7 j h (by have:=(List.getElem?_eq_some_iff.1 hj).1; omega) hj
theorem eJ.Kf (h:eJ r) (hx:r.cm[i]? =some x):0≤x∧x≤(r.aH.length:Int)-1:=by
 obtain ⟨k,hk,rfl⟩:=List.mem_map.1 (h.draw.mem_iff.1 (aR hx))
 have:=List.mem_range.1 hk
 omega
theorem eJ.OE (h:eJ r):r.cm.Nodup:=by
 refine h.draw.nodup_iff.2 ?_
 rw [List.nodup_iff_pairwise_ne,List.pairwise_map]
 exact List.pairwise_lt_range.imp fun h=>by omega
theorem eJ.PN (h:eJ r) {u v:Int} (hki:k<i) (hu:r.cm[k]? =some u) (hv:r.cm[i]? =some v): ¬ u=v:=by
 have A:=h.OE
 rw [List.nodup_iff_pairwise_ne,nY] at A
 obtain ⟨a,ea⟩:=List.getElem?_eq_some_iff.1 hu
 obtain ⟨b,eb⟩:=List.getElem?_eq_some_iff.1 hv
 subst ea eb
 exact A k i a b hki
end
noncomputable def fT (r:cr) (k:Nat):g7:=(List.range k).filterMap fun q=>(dK r.aA r.aq q r.aq.length).map fun s=>((q:Int),s)
section
variable {r:cr} {i k n:Nat} {s:ab} {l:aW} {hs:List (List av)}
theorem w7 (h:dK l hs i k=none): ∀ {n:Nat},k≤n→dK l hs i n=none
 |0,hn=>by
  obtain rfl:k=0:=by omega
  exact h
 |n+1,hn=>by
  by_cases e:k=n+1
  ·subst e; exact h
  ·exact xK (w7 h (n:=n) I)
theorem lM:fT r r.aH.length=aJ r:=rfl
theorem wJ:fT r (k+1)=fT r k++(match dK r.aA r.aq k r.aq.length with |some s=>[((k:Int),s)]|none=>[]):=by
 unfold fT
 rw [List.range_succ,List.filterMap_append]
 cases h:dK r.aA r.aq k r.aq.length with
 |none=>simp [h]
 |some s=>simp [h]
theorem Cy (h:dK r.aA r.aq k r.aq.length=none):fT r (k+1)=fT r k:=by rw [wJ,h]; simp
theorem sh (h:dK r.aA r.aq k r.aq.length=some s):fT r (k+1)=fT r k++[((k:Int),s)]:=by rw [wJ,h]
theorem wD {q:Nat}:(fT r k).lookup (q:Int)=if q<k then dK r.aA r.aq q r.aq.length else none:=oT _ _
theorem GR (h:dK r.aA r.aq k r.aq.length=some s):er (fT r k) (k:Int) s=fT r (k+1):=by
 have A:(fT r k).lookup (k:Int)=none:=by rw [wD,if_neg (Nat.lt_irrefl k)]
 unfold er
 rw [A,sh h]
 simp
theorem Ay (hk:k<r.aH.length):(aJ r).lookup (k:Int)=dK r.aA r.aq k r.aq.length:=by
 rw [← lM,wD,if_pos hk]
theorem Bm {a x:Int} (h:dK r.aA r.aq k r.aq.length=none):il (fT r (k+1)) a x=il (fT r k) a x∧km (fT r (k+1)) a x=km (fT r k) a x:=by rw [Cy h]; exact ⟨rfl,rfl⟩
theorem Gl {a x:Int} (ha:(k:Int)=a):il (fT r (k+1)) a x=il (fT r k) a x∧km (fT r (k+1)) a x=km (fT r k) a x:=by
 cases h:dK r.aA r.aq k r.aq.length with
 |none=>exact Bm h
 |some s=>rw [sh h,lV,lV,oB,oB,List.countP_append,List.countP_append]; simp [ha]
theorem qY {a x:Int} (h:dK r.aA r.aq k r.aq.length=some s) (ha: ¬ (k:Int)=a):il (fT r (k+1)) a x=il (fT r k) a x+(if s.Hi<x then 1 else 0)∧km (fT r (k+1)) a x=km (fT r k) a x+(if s.Lo<x then 1 else 0):=by
 rw [sh h,lV,lV,oB,oB,List.countP_append,List.countP_append]
 constructor<;>congr 1<;>split<;>simp [*]
theorem yg:(fT r k).length≤k:=by
 unfold fT
 refine Nat.le_trans (List.length_filterMap_le _ _) ?_
 rw [List.length_range]; exact Nat.le_refl _
end
def BB (r:cr) (i:Int) (own:ab) (k:Nat) (ys:List Int):Prop:=(∀ n∈ys,n∈j5 (aJ r) i own)∧own.Lo∈ys∧ys.length≤2*k+1∧ ∀ (q:Nat) s,q<k→q<r.aH.length→dK r.aA r.aq q r.aq.length=some s→(q:Int)≠i→ ∀ n∈[s.Lo+1,s.Hi+1],own.Lo≤n∧n≤own.Hi→n∈ys
section
variable {r:cr} {i x:Int} {own s:ab} {k:Nat} {ys zs:List Int}
theorem GM:BB r i own 0 [own.Lo]:=⟨fun n hn=>by rw [bK] at hn; subst hn; exact bZ,sm,sm,fun q s hq=>absurd hq (Nat.not_lt_zero _)⟩
theorem Ky (hk:k<r.aH.length) (hs:dK r.aA r.aq k r.aq.length=some s) (hi: ¬ (k:Int)=i) (hn:x=s.Lo+1∨x=s.Hi+1) (hb:own.Lo≤x∧x≤own.Hi):x∈j5 (aJ r) i own:=by
 refine lX (p:=((k:Int),s)) ?_ hi hn hb
 rw [← lM]
 unfold fT
 exact List.mem_filterMap.2 ⟨k,List.mem_range.2 hk,by rw [hs]; rfl⟩
theorem mT (h:BB r i own k ys) (hs:dK r.aA r.aq k r.aq.length=none∨(k:Int)=i):BB r i own (k+1) ys:=by
 refine ⟨h.1,h.2.1,by have:=h.2.2.1; omega,fun q s hq hn e hi n A hb=>?_⟩
 rcases Nat.lt_or_ge q k with c|c
 ·exact h.2.2.2 q s c hn e hi n A hb
 ·obtain rfl:q=k:=by omega
  rcases hs with hs|hs
  ·rw [hs] at e; cases e
  ·exact absurd hs hi
theorem mW (h:BB r i own k ys) (hk:k<r.aH.length) (hs:dK r.aA r.aq k r.aq.length=some s) (hi: ¬ (k:Int)=i) (hz:zs.length≤2) (hin: ∀ n∈zs,(n=s.Lo+1∨n=s.Hi+1)∧own.Lo≤n∧n≤own.Hi)
 (hall: ∀ n∈[s.Lo+1,s.Hi+1],own.Lo≤n∧n≤own.Hi→n∈zs):BB r i own (k+1) (ys++zs):=by
 refine ⟨fun n hn=>?_,List.mem_append_left _ h.2.1,by rw [List.length_append]; have:=h.2.2.1; omega,fun q u hq hn e B n A hb=>?_⟩
 ·rcases List.mem_append.1 hn with hn|hn
  ·exact h.1 n hn
  ·exact Ky hk hs hi (hin n hn).1 (hin n hn).2
 ·rcases Nat.lt_or_ge q k with c|c
  ·exact List.mem_append_left _ (h.2.2.2 q u c hn e B n A hb)
  ·obtain rfl:q=k:=by omega
   rw [hs] at e; cases e
   exact List.mem_append_right _ (hall n A hb)
theorem J1 (h:BB r i own k ys) (hk:r.aH.length≤k) (n:Int):n∈ys↔n∈j5 (aJ r) i own:=by
 refine ⟨h.1 n,fun hn=>?_⟩
 rcases List.mem_cons.1 hn with rfl|hn
 ·exact h.2.1
 ·obtain ⟨E,F⟩:=List.mem_filter.1 hn
  obtain ⟨p,hp,hx⟩:=List.mem_flatMap.1 E
  obtain ⟨A,B⟩:=List.mem_filter.1 hp
  obtain ⟨q,hq,C,D⟩:=oS (r:=r) A
  exact h.2.2.2 q p.2 I hq D (by rw [← C]; simpa using B) n hx (of_decide_eq_true F)
end
def oK (B:List Bool) (P:Int→Prop):Prop:= ∀ (k:Nat) b,B[k]? =some b→(b=true↔P (k:Int))
def pq (m:g7) (i:Int) (ys:List Int) (x:Nat) (q:Int):Prop:= ∃ j,j<x∧ ∃ y,ys[j]? =some y∧(il m i y:Int)+1≤q∧q≤(km m i y:Int)+1
noncomputable def qK (P:Int→Prop) (k:Nat):List Int:=((List.range k).map fun (q:Nat)=>(q:Int)+1).filter fun k=> @decide (P k) (Classical.propDecidable _)
section
variable {B:List Bool} {P Q:Int→Prop} {k x:Nat} {m:g7} {i y a b:Int} {ys:List Int}
theorem tp (h:oK B P) (e: ∀ k:Nat,P (k:Int)↔Q (k:Int)):oK B Q:=fun k b hb=>(h k b hb).trans (e k)
theorem Ko {n:Nat}:oK (List.replicate n false) (pq m i ys 0):=fun k b hb=>by
 have:b=false:=(List.mem_replicate.1 (aR hb)).2
 subst this
 exact ⟨fun q=>(by cases q),fun ⟨j,hj,_⟩=>absurd hj (Nat.not_lt_zero _)⟩
theorem LI (h:oK B P):oK (B.set k true) fun q=>P q∨q=(k:Int):=fun j b hb=>by
 by_cases e:j=k
 ·subst e
  have hl:j<B.length:=by have:=(List.getElem?_eq_some_iff.1 hb).1; simpa using this
  rw [List.getElem?_set_self hl] at hb
  cases hb
  exact ⟨fun _=> .inr U,fun _=>rfl⟩
 ·rw [List.getElem?_set_ne (fun q=>e q.symm)] at hb
  refine (h j b hb).trans ⟨.inl,fun q=>q.elim id fun q=>absurd q I⟩
theorem I4 (ha:a=(il m i y:Int)) (hb:b=(km m i y:Int)) (hy:ys[x]? =some y) (h:oK B fun q=>pq m i ys x q∨(a+1≤q∧q≤b+1)):oK B (pq m i ys (x+1)):=by
 subst ha hb
 refine tp h fun k=>?_
 constructor
 ·rintro (⟨j,hj,q⟩|q)
  ·exact ⟨j,I,q⟩
  ·exact ⟨x,I,y,hy,q⟩
 ·rintro ⟨j,hj,z,hz,q⟩
  rcases Nat.lt_or_ge j x with c|c
  ·exact .inl ⟨j,c,z,hz,q⟩
  ·obtain rfl:j=x:=by omega
   rw [hy] at hz; cases hz
   exact .inr q
theorem Pg {p:Prop} {s u:Int} {z:Nat} (hz:s≤(z:Int)):((p∨(s+1≤u∧u≤(z:Int)))∨u=((z+1:Nat):Int))↔(p∨(s+1≤u∧u≤((z+1:Nat):Int))):=by
 constructor
 ·rintro ((q|q)|q)
  ·exact .inl q
  ·exact .inr I
  ·exact .inr I
 ·rintro (q|q)
  ·exact .inl (.inl q)
  ·by_cases e:u=((z+1:Nat):Int)
   ·exact .inr e
   ·exact .inl (.inr I)
theorem zG {b:Bool} (h:oK B P) (hb:B[k+1]? =some b):b=true↔P ((k:Int)+1):=h _ b hb
theorem Bq (h:P ((k:Int)+1)):qK P (k+1)=qK P k++[(k:Int)+1]:=by unfold qK; rw [List.range_succ,List.map_append,List.filter_append]; simp [h]
theorem LY (h: ¬ P ((k:Int)+1)):qK P (k+1)=qK P k:=by unfold qK; rw [List.range_succ,List.map_append,List.filter_append]; simp [h]
theorem BE:(qK P k).length≤k:=by
 unfold qK
 refine Nat.le_trans (List.length_filter_le _ _) ?_
 rw [List.length_map,List.length_range]; exact Nat.le_refl _
theorem pN {n:Nat}:((List.range n).map fun (q:Nat)=>(q:Int)+1).Pairwise (· < ·):=by
 rw [List.pairwise_map]
 exact List.pairwise_lt_range.imp fun h=>by omega
theorem D8 {own:ab} {n:Nat} (hi:m.lookup i≠none) (hn:m.length≤n) (hx:ys.length≤x) (hall: ∀ n,n∈ys↔n∈j5 m i own):qK (pq m i ys x) n=dq m i own:=by
 unfold qK dq
 refine mZ ((pN.filter _).imp fun h=>by omega) ((pN.filter _).imp fun h=>by omega) ((pN.filter _).imp fun h=>by omega) ((pN.filter _).imp fun h=>by omega) fun k=>?_
 have e: ∀ k,pq m i ys x k↔uE m i own k:=fun k=>by
  constructor
  ·rintro ⟨j,_,y,hy,q⟩; exact ⟨y,(hall y).1 (aR hy),q⟩
  ·rintro ⟨y,hy,q⟩
   obtain ⟨j,hj⟩:=List.getElem?_of_mem ((hall y).2 hy)
   exact ⟨j,by have:=(List.getElem?_eq_some_iff.1 hj).1; omega,y,hj,q⟩
 constructor
 ·intro h
  obtain ⟨B,A⟩:=List.mem_filter.1 h
  have A:=(e k).1 (@of_decide_eq_true _ (Classical.propDecidable _) A)
  refine List.mem_filter.2 ⟨?_,dh A⟩
  obtain ⟨y,_,C,D⟩:=A
  have:=zI hi (x:=y)
  exact List.mem_map.2 ⟨(k-1).toNat,List.mem_range.2 I,I⟩
 ·intro h
  obtain ⟨B,A⟩:=List.mem_filter.1 h
  have A:=(e k).2 (of_decide_eq_true A)
  refine List.mem_filter.2 ⟨?_,@decide_eq_true _ (Classical.propDecidable _) A⟩
  obtain ⟨q,hq,rfl⟩:=List.mem_map.1 B
  exact List.mem_map.2 ⟨q,List.mem_range.2 (by have:=List.mem_range.1 hq; omega),U⟩
end
end
section
open Go.RowKit
section
variable {K:Type} [DecidableEq K] {kV:K→Value}
variable {E:eU} {ops:Array Oper} {Q:cY} {rest:List Oper} {D:List Deferred} {L:List (Nat×Value)} {C:List aw}
variable {ty:TypeId} {ps:String} {af:Array Edge} {g:Option (Nat×Bool)}
theorem o_ {t kt et:TypeId} {xm xk:Operand} {ts:Array TypeId} {b:Nat} {x:K} {m m':List (K×Value)} {C':List aw} (i:Nat) (hg:jx ops L g=true) (hm:ev L xm=some (.map (some b))) (hk:ev L xk=some (kV x)) (hts:ts[0]? =some t)
 (ht:E.P.underlying t=some (.map kt et)) (hkt:ua E.P kt kV) (hC:C[i]? =some (hU kV b m)) (hm':ct m x=m') (hC':C.set i (hU kV b m')=C') (k:RJ E ops Q rest D L C'):
 RJ E ops Q (⟨none,.call {callee:= .builtin .delete,args:= #[xm,xk],argTypes:=ts},ty,ps,af,g⟩::rest) D L C:=by
 subst hm' hC'
 intro a w A hs
 unfold rY
 rw [if_pos (dV A hg)]
 obtain ⟨es,c,he,hi⟩:=hs.holds _ (aR hC)
 have B:(getObj b).run E.P w= .ok (.map es c) w:=MapKept.run_getObj_map he
 rcases oV (P:=E.P) (w:=w) (x:=x) hkt hi with ⟨F,G⟩|⟨j,AA,F,G,H⟩
 ·refine hE (v:= .tuple #[]) (w':={w with heap:=w.heap.setIfInBounds b (.map es c)}) sm ?_ ?_
  ·simp [execOp,resolve,invoke,builtin,A.ev hm,A.ev hk,Builtin.delete_,hts,run_underlying ht,B,iu hkt,F,MapKept.run_setObj_map _ he]
  ·refine k _ _ ⟨A.defers,A.size,A.at_⟩ (hs.Bp (b:=b) i hC U U (mS _) (fun _ h=>h) ⟨_,_,o6 he,?_⟩)
   rw [Em G]; exact hi
 ·refine hE (v:= .tuple #[]) (w':={w with heap:=w.heap.setIfInBounds b (.map (es.eraseIdxIfInBounds j) c)}) sm ?_ ?_
  ·simp [execOp,resolve,invoke,builtin,A.ev hm,A.ev hk,Builtin.delete_,hts,run_underlying ht,B,iu hkt,F,MapKept.run_setObj_map _ he]
  ·exact k _ _ ⟨A.defers,A.size,A.at_⟩ (hs.Bp (b:=b) i hC U U (mS _) (fun _ h=>h) ⟨_,_,o6 he,hi.del G⟩)
end
end
section
open Go.RowKit
section
variable {key:Int→Int} {l q m:List Int} {i j:Nat} {x y:Int}
theorem GZ:1=1∧l=[]∨tO key l 1 l:=by
 cases l with
 |nil=>exact .inl ⟨rfl,rfl⟩
 |cons a l=>exact .inr (JV sm)
theorem Mc (h:i<l.length) (hd:i=1∧l=[]∨tO key l i m):tO key l i m:=by
 rcases hd with ⟨_,rfl⟩|hd
 ·simp at h
 ·exact hd
theorem Jk (hi: ¬ i<l.length) (hl:m.length=l.length) (hd:i=1∧l=[]∨tO key l i m):m=fD key l:=by
 rcases hd with ⟨_,rfl⟩|hd
 ·exact jH hl
 ·exact IZ I hd
theorem IH (hx:q[j]? =some x) (hy:q[j-1]? =some y) (h: ∀ z∈q,z∈l): ∀ z∈(q.set j y).set (j-1) x,z∈l:=fun z hz=>by
 rcases List.mem_or_eq_of_mem_set hz with hz|rfl
 ·rcases List.mem_or_eq_of_mem_set hz with hz|rfl
  ·exact h z hz
  ·exact h _ (aR hy)
 ·exact h _ (aR hx)
theorem Cd {p:Int→Bool} (hx:l[i]? =some x) (h:p x=true):(l.take (i+1)).filter p=(l.take i).filter p++[x]:=by
 rw [lx hx,List.filter_append]; simp [h]
theorem MS {p:Int→Bool} (hx:l[i]? =some x) (h:p x=false):(l.take (i+1)).filter p=(l.take i).filter p:=by
 rw [lx hx,List.filter_append]; simp [h]
end
section
variable {r:cr} {h:Int} {n:Nat}
theorem Ri {m:g7} {l:List Int} (hb: ∀ p∈m,0≤p.2.Lo∧p.2.Lo≤p.2.Hi∧p.2.Hi≤30000000): ∀ x∈l,0≤(bk m x).Lo∧(bk m x).Lo≤30000000:=fun x _=>by have:=gN (i:=x) hb; omega
end
end
section
def Jq (f:Int→ab) (g:List Int):Prop:= ∀ t,(∃ a∈g,(f a).Lo<t)→(∃ b∈g,t≤(f b).Lo)→ ∃ c∈g,(f c).Lo<t∧t≤(f c).Hi
def OV (f:Int→ab) (g h:List Int):Prop:= ∀ a∈g,∀ b∈h,(f a).Hi<(f b).Lo
structure gV (f:Int→ab) (keys:List Int) (G:List (List Int)):Prop where
 perm:G.flatten.Perm keys
 some_: ∀ g∈G,g≠[]
 apart:G.Pairwise (OV f)
 tight: ∀ g∈G,Jq f g
def zL (G:List (List Int)):Prop:= ∀ g∈G,g.Pairwise (· ≤ ·)
section
variable {f:Int→ab} {keys:List Int} {G G':List (List Int)} {g h:List Int} {x:Int}
theorem we: ∀ {g:List Int},g≠[]→ ∃ a∈g,∀ b∈g,(f a).Lo≤(f b).Lo
 |[],h=>absurd rfl h
 |[a],_=>⟨a,sm,fun b hb=>by simp at hb; subst hb; omega⟩
 |a::b::g,_=>by
  obtain ⟨c,hc,hm⟩:=we (g:=b::g) sm
  rcases Int.le_total (f a).Lo (f c).Lo with q|q
  ·refine ⟨a,sm,fun d hd=>?_⟩
   rcases List.mem_cons.1 hd with rfl|hd
   ·omega
   ·have:=hm d hd; omega
  ·refine ⟨c,cW _ hc,fun d hd=>?_⟩
   rcases List.mem_cons.1 hd with rfl|hd
   ·exact q
   ·exact hm d hd
/-- the first group is what no cut parts from the least -/
theorem qZ (hf: ∀ i∈keys,(f i).Lo≤(f i).Hi) (h:gV f keys (g::G)) {a:Int} (ha:a∈keys) (hm: ∀ b∈keys,(f a).Lo≤(f b).Lo) {b:Int} (hb:b∈keys):b∈g↔ ∀ t,(f a).Lo<t→t≤(f b).Lo→ ∃ c∈keys,(f c).Lo<t∧t≤(f c).Hi:=by
 have hk: ∀ x,x∈keys↔x∈g∨x∈G.flatten:=fun x=>by rw [← h.perm.mem_iff,List.flatten_cons,jB]
 have A:=List.pairwise_cons.1 h.apart
 have B:a∈g:=by
  rcases (hk a).1 ha with q|q
  ·exact q
  ·obtain ⟨y,hy⟩:=List.exists_mem_of_ne_nil _ (h.some_ g bZ)
   obtain ⟨g',hg',hag'⟩:=List.mem_flatten.1 q
   have F:=A.1 g' hg' y hy a hag'
   have H:=hm y ((hk y).2 (.inl hy))
   have E:=hf y ((hk y).2 (.inl hy))
   omega
 constructor
 ·intro AA t F H
  obtain ⟨c,hc,E⟩:=h.tight g bZ t ⟨a,B,F⟩ ⟨b,AA,H⟩
  exact ⟨c,(hk c).2 (.inl hc),E⟩
 ·intro C
  rcases (hk b).1 hb with q|q
  ·exact q
  ·exfalso
   obtain ⟨d,hd,D⟩:=we (f:=f) (g:=G.flatten) (fun e=>by rw [e] at q; cases q)
   obtain ⟨g',hg',hdg'⟩:=List.mem_flatten.1 hd
   have F:=A.1 g' hg' a B d hdg'
   have H:=hf a ha
   have E:=D b q
   obtain ⟨c,hc,K,L⟩:=C (f d).Lo I E
   rcases (hk c).1 hc with J|J
   ·have:=A.1 g' hg' c J d hdg'; omega
   ·have:=D c J; omega
theorem uM (h:gV f keys (g::G)):gV f G.flatten G:=
 ⟨List.Perm.refl _,fun x hx=>h.some_ x (cW _ hx),(List.pairwise_cons.1 h.apart).2,fun x hx=>h.tight x (cW _ hx)⟩
theorem n_ {k2:List Int} (h:gV f keys G) (p:keys.Perm k2):gV f k2 G:=⟨h.perm.trans p,h.some_,h.apart,h.tight⟩
theorem rR: ∀ {G G':List (List Int)} {keys:List Int},keys.Nodup→(∀ i∈keys,(f i).Lo≤(f i).Hi)→gV f keys G→gV f keys G'→zL G→zL G'→G=G'
 |[],[],keys,_,_,_,_,_,_=>rfl
 |[],g'::G',keys,_,_,h,h',_,_=>by
  exfalso
  have F:keys=[]:=List.Perm.eq_nil (by simpa using h.perm.symm)
  subst F
  have:=h'.perm.eq_nil
  simp at this
  exact h'.some_ g' bZ this.1
 |g::G,[],keys,_,_,h,h',_,_=>by
  exfalso
  have F:keys=[]:=List.Perm.eq_nil (by simpa using h'.perm.symm)
  subst F
  have:=h.perm.eq_nil
  simp at this
  exact h.some_ g bZ this.1
 |g::G,g'::G',keys,hn,hf,h,h',ha,ha'=>by
  have H:keys≠[]:=fun e=>by
   subst e
   have:=h.perm.eq_nil
   simp at this
   exact h.some_ g bZ this.1
  obtain ⟨a,A,B⟩:=we (f:=f) H
  have D:=h.perm.nodup_iff.2 hn
  have E:=h'.perm.nodup_iff.2 hn
  rw [List.flatten_cons,List.nodup_append] at D E
  have Pe: ∀ b∈g,b∈keys:=fun b hb=>h.perm.mem_iff.1 (by rw [List.flatten_cons]; exact List.mem_append_left _ hb)
  have C: ∀ b∈g',b∈keys:=fun b hb=>h'.perm.mem_iff.1 (by rw [List.flatten_cons]; exact List.mem_append_left _ hb)
  have e:g=g':=by
   refine mZ (ha g bZ) (ha' g' bZ) D.1 E.1 fun b=>?_
   constructor
   ·intro hb
    exact (qZ hf h' A B (Pe b hb)).2 ((qZ hf h A B (Pe b hb)).1 hb)
   ·intro hb
    exact (qZ hf h A B (C b hb)).2 ((qZ hf h' A B (C b hb)).1 hb)
  subst e
  have p:G.flatten.Perm G'.flatten:=by
   have:=h.perm.trans h'.perm.symm
   rw [List.flatten_cons,List.flatten_cons] at this
   exact (List.perm_append_left_iff g).1 this
  rw [rR (G:=G) (G':=G') D.2.1 (fun i hi=>hf i (h.perm.mem_iff.1 (by rw [List.flatten_cons]; exact List.mem_append_right _ hi))) (uM h) (n_ (uM h') p.symm) (fun x hx=>ha x (cW _ hx)) (fun x hx=>ha' x (cW _ hx))]
/-- groups, each one put in order -/
theorem uV (h:gV f keys G):gV f keys (G.map dx)∧zL (G.map dx):=by
 have hp: ∀ G:List (List Int),(G.map dx).flatten.Perm G.flatten:=fun G=>by
  induction G with
  |nil=>simp
  |cons g G ih=>simp only [List.map_cons,List.flatten_cons]; exact eV.append ih
 have hm: ∀ {g:List Int} {x:Int},x∈dx g↔x∈g:=eV.mem_iff
 refine ⟨⟨(hp G).trans h.perm,fun g hg=>?_,?_,fun g hg=>?_⟩,fun g hg=>?_⟩
 ·obtain ⟨y,hy,rfl⟩:=List.mem_map.1 hg
  intro e
  have:=(eV (l:=y)).symm
  rw [e] at this
  exact h.some_ y hy this.eq_nil
 ·rw [List.pairwise_map]
  exact h.apart.imp fun q a ha b hb=>q a (hm.1 ha) b (hm.1 hb)
 ·obtain ⟨y,hy,rfl⟩:=List.mem_map.1 hg
  rintro t ⟨a,ha,A⟩ ⟨b,hb,B⟩
  obtain ⟨c,hc,C⟩:=h.tight y hy t ⟨a,hm.1 ha,A⟩ ⟨b,hm.1 hb,B⟩
  exact ⟨c,hm.2 hc,C⟩
 ·obtain ⟨y,hy,rfl⟩:=List.mem_map.1 hg
  exact j4
end
/-- so far: groups, and the greatest of all -/
structure l7 (f:Int→ab) (p:List Int) (G:List (List Int)) (last:Int):Prop where
 ok:gV f p G
 PJ: ∀ a∈p,(f a).Hi≤last
 at_:p=[]∧last= -1∨ ∃ a∈p,(f a).Hi=last
section
variable {f:Int→ab} {p:List Int} {G:List (List Int)} {g:List Int} {x last:Int}
theorem EJ:l7 f [] [] (-1):=⟨⟨sm,fun g hg=>(by cases hg),List.Pairwise.nil,fun g hg=>by cases hg⟩,fun a ha=>(by cases ha),.inl ⟨rfl,rfl⟩⟩
theorem GD:Jq f [x]:=by
 rintro t ⟨a,ha,A⟩ ⟨b,hb,B⟩
 simp at ha hb; subst ha hb; omega
theorem rh (h0: -1≤(f x).Hi) (h:l7 f p G last):(∀ a∈p++[x],(f a).Hi≤max last (f x).Hi)∧((p++[x])=[]∧max last (f x).Hi= -1∨ ∃ a∈p++[x],(f a).Hi=max last (f x).Hi):=by
 refine ⟨fun a ha=>?_,.inr ?_⟩
 ·rcases List.mem_append.1 ha with ha|ha
  ·have:=h.PJ a ha; omega
  ·rw [bK] at ha; subst ha; omega
 ·rcases Int.le_total last (f x).Hi with q|q
  ·exact ⟨x,sm,I⟩
  ·rcases h.at_ with ⟨rfl,e⟩|⟨a,ha,e⟩
   ·exact ⟨x,sm,I⟩
   ·exact ⟨a,List.mem_append_left _ ha,I⟩
theorem Lu (h0: -1≤(f x).Hi) (h:l7 f p G last) (hl:last<(f x).Lo):l7 f (p++[x]) (G++[[x]]) (max last (f x).Hi):=by
 have A: ∀ y∈G,∀ a∈y,a∈p:=fun y hy a ha=>h.ok.perm.mem_iff.1 (List.mem_flatten.2 ⟨y,hy,ha⟩)
 refine ⟨⟨?_,fun y hy=>?_,?_,fun y hy=>?_⟩,(rh h0 h).1,(rh h0 h).2⟩
 ·rw [List.flatten_append]
  exact h.ok.perm.append sm
 ·rcases List.mem_append.1 hy with hy|hy
  ·exact h.ok.some_ y hy
  ·rw [bK] at hy; subst hy; simp
 ·rw [List.pairwise_append]
  refine ⟨h.ok.apart,List.pairwise_singleton _ _,fun y hy z hz a ha b hb=>?_⟩
  rw [bK] at hz; subst hz
  rw [bK] at hb; subst hb
  have:=h.PJ a (A y hy a ha); omega
 ·rcases List.mem_append.1 hy with hy|hy
  ·exact h.ok.tight y hy
  ·rw [bK] at hy; subst hy; exact GD
theorem Iz (h0: -1≤(f x).Hi) (hf: ∀ i∈p,(f i).Lo≤(f i).Hi) (hx: ∀ a∈p,(f a).Lo≤(f x).Lo) (h:l7 f p (G++[g]) last) (hl: ¬ last<(f x).Lo):l7 f (p++[x]) (G++[g++[x]]) (max last (f x).Hi):=by
 have A: ∀ y∈G++[g],∀ a∈y,a∈p:=fun y hy a ha=>h.ok.perm.mem_iff.1 (List.mem_flatten.2 ⟨y,hy,ha⟩)
 have C:=List.pairwise_append.1 h.ok.apart
 have B:=h.ok.some_ g sm
 refine ⟨⟨?_,fun y hy=>?_,?_,fun y hy=>?_⟩,(rh h0 h).1,(rh h0 h).2⟩
 ·have:=h.ok.perm
  rw [List.flatten_append] at this ⊢
  simp only [List.flatten_cons,List.flatten_nil,List.append_nil] at this ⊢
  rw [← List.append_assoc]
  exact this.append_right _
 ·rcases List.mem_append.1 hy with hy|hy
  ·exact h.ok.some_ y (List.mem_append_left _ hy)
  ·rw [bK] at hy; subst hy; simp
 ·rw [List.pairwise_append]
  refine ⟨C.1,List.pairwise_singleton _ _,fun y hy z hz a ha b hb=>?_⟩
  rw [bK] at hz; subst hz
  rcases List.mem_append.1 hb with hb|hb
  ·exact C.2.2 y hy g sm a ha b hb
  ·rw [bK] at hb; subst hb
   obtain ⟨c,hc⟩:=List.exists_mem_of_ne_nil _ B
   have K:=C.2.2 y hy g sm a ha c hc
   have H:=hx c (A g sm c hc)
   omega
 ·rcases List.mem_append.1 hy with hy|hy
  ·exact h.ok.tight y (List.mem_append_left _ hy)
  ·rw [bK] at hy; subst hy
   rintro t ⟨a,ha,K⟩ ⟨b,hb,H⟩
   by_cases D: ∃ b∈g,t≤(f b).Lo
   ·obtain ⟨b',hb',L⟩:=D
    have AA:a∈g:=by
     rcases List.mem_append.1 ha with q|q
     ·exact q
     ·rw [bK] at q; subst q
      have:=hx b' (A g sm b' hb'); omega
    obtain ⟨c,hc,M⟩:=h.ok.tight g sm t ⟨a,AA,K⟩ ⟨b',hb',L⟩
    exact ⟨c,List.mem_append_left _ hc,M⟩
   ·have J: ∀ c∈g,(f c).Lo<t:=fun c hc=>by
     refine Classical.byContradiction fun q=>D ⟨c,hc,I⟩
    have N:t≤(f x).Lo:=by
     rcases List.mem_append.1 hb with q|q
     ·exact absurd ⟨b,q,H⟩ D
     ·rw [bK] at q; subst q; exact H
    rcases h.at_ with ⟨e,_⟩|⟨c,hc,e⟩
    ·exfalso
     obtain ⟨c,hc⟩:=List.exists_mem_of_ne_nil _ B
     have:=A g sm c hc
     rw [e] at this; cases this
    ·have E:c∈g:=by
      obtain ⟨y,hy,F⟩:=List.mem_flatten.1 (h.ok.perm.mem_iff.2 hc)
      rcases List.mem_append.1 hy with hy|hy
      ·exfalso
       obtain ⟨d,hd⟩:=List.exists_mem_of_ne_nil _ B
       have L:=C.2.2 y hy g sm c F d hd
       have M:=hf d (A g sm d hd)
       have O:=h.PJ d (A g sm d hd)
       omega
      ·rw [bK] at hy; subst hy; exact F
     exact ⟨c,List.mem_append_left _ E,J c E,I⟩
theorem Ie (h:l7 f p G last) (hp:p≠[]):G≠[]:=fun e=>by
 subst e
 exact hp (by simpa using h.ok.perm.symm.eq_nil)
end
end
section
open Go.RowKit
/-- a map, or nil -/
def oC (o:Option Nat):List Value:=[Value.map o]
theorem zP {α:Type}: ∀ {ms:List α} {asl:List Nat},ms.length=asl.length→List.zipWith gv ms asl=(asl.map some).map oC
 |[],[],_=>rfl
 |[],_::_,h=>by simp at h
 |_::_,[],h=>by simp at h
 |x::ms,y::asl,h=>by simp only [List.zipWith_cons_cons,List.map_cons,zP (ms:=ms) (asl:=asl) (by simpa using h)]; rfl
/-- what stands for all but one -/
def fc {M A:Type} (f:M→A→List aw) (ms:List M) (asl:List A) (k:Nat):List aw:=aU f (ms.take k) (asl.take k)++aU f (ms.drop (k+1)) (asl.drop (k+1))
theorem kI {M A:Type} {f:M→A→List aw}: ∀ {ms:List M} {asl:List A} {k:Nat} {m:M} {a:A},ms[k]? =some m→asl[k]? =some a→(aU f ms asl).Perm (f m a++fc f ms asl k)
 |[],_,k,m,a,h,_=>by simp at h
 |_::_,[],k,m,a,_,h=>by simp at h
 |x::ms,y::asl,0,m,a,h,h2=>by
  simp at h h2; subst h h2
  simp [fc,aU]
 |x::ms,y::asl,k+1,m,a,h,h2=>by
  have ih:=kI (f:=f) (ms:=ms) (asl:=asl) (k:=k) (by simpa using h) (by simpa using h2)
  show (f x y++aU f ms asl).Perm (f m a++fc f (x::ms) (y::asl) (k+1))
  have e:fc f (x::ms) (y::asl) (k+1)=f x y++fc f ms asl k:=by simp [fc,aU,List.append_assoc]
  rw [e]
  refine (ih.append_left (f x y)).trans ?_
  rw [← List.append_assoc,← List.append_assoc]
  exact List.perm_append_comm.append_right _
theorem G6 {M A:Type} {f:M→A→List aw} {ms:List M} {asl:List A} {k:Nat} {m':M}:fc f (ms.set k m') asl k=fc f ms asl k:=by
 unfold fc
 rw [List.take_set_of_le (Nat.le_refl k),List.drop_set_of_lt (Nat.lt_succ_self k)]
theorem kK {S:BS} {w0 w:World} {C X Y:List aw} (hp:X.Perm Y) (h:St S w0 (bB X::C) w):St S w0 (bB Y::C) w:=by
 have A:St S w0 (X++C) w:=h.g8
 exact (A.perm (hp.append_right C)).tied
theorem St.out {M A:Type} {f:M→A→List aw} {S:BS} {w0 w:World} {C:List aw} {ms:List M} {asl:List A} {k:Nat} {m:M} {a:A} {X:aw} (hm:ms[k]? =some m) (ha:asl[k]? =some a) (hf:f m a=[X]) (h:St S w0 (bB (aU f ms asl)::C) w):St S w0 (X::bB (fc f ms asl k)::C) w:=by
 have B:=(kK (kI hm ha) h).g8
 rw [hf] at B
 have D:St S w0 (fc f ms asl k++(X::C)) w:=B.perm (List.perm_middle (a:=X) (l₁:=fc f ms asl k) (l₂:=C)).symm
 exact D.tied.perm (List.Perm.swap _ _ _)
theorem St.back {M A:Type} {f:M→A→List aw} {S:BS} {w0 w:World} {C:List aw} {ms:List M} {asl:List A} {k:Nat} {m':M} {a:A} {X:aw} (hk:k<ms.length) (ha:asl[k]? =some a) (hf:f m' a=[X]) (h:St S w0 (X::bB (fc f ms asl k)::C) w):St S w0 (bB (aU f (ms.set k m') asl)::C) w:=by
 have B:St S w0 (bB (fc f ms asl k)::X::C) w:=h.perm (List.Perm.swap _ _ _)
 have D:=B.g8
 have E:St S w0 ((f m' a++fc f (ms.set k m') asl k)++C) w:=by
  rw [hf,G6]
  exact D.perm (List.perm_middle (a:=X) (l₁:=fc f ms asl k) (l₂:=C))
 exact kK (kI (List.getElem?_set_self hk) ha).symm E.tied
section
variable {E:eU} {ops:Array Oper} {Q:cY} {rest:List Oper} {D:List Deferred} {L:List (Nat×Value)} {C C1:List aw}
variable {M A:Type} {f:M→A→List aw} {ms:List M} {asl:List A} {k:Nat} {m:M} {a:A} {X:aw}
theorem Fa {c:Code} (i:Nat) (hm:ms[k]? =some m) (ha:asl[k]? =some a) (hf:f m a=[X]) (hn:decide (i::(List.range C.length).filter fun k=>k != i).Nodup=true) (hC:kz C (i::(List.range C.length).filter fun k=>k != i)=bB (aU f ms asl)::C1)
 (h:WJ E c Q D L (X::bB (fc f ms asl k)::C1)):WJ E c Q D L C:=fun a w hf' hs=>h a w hf' (St.out hm ha hf (St.kz _ hn hC hs))
theorem KF {K:Act→World→Prop} (i j:Nat) (hk:k<ms.length) (ha:asl[k]? =some a) (hf:f m a=[X]) (hn:decide (j::i::(List.range C.length).filter fun k=>k != i&&k != j).Nodup=true) (hC:kz C (j::i::(List.range C.length).filter fun k=>k != i&&k != j)=X::bB (fc f ms asl k)::C1)
 (h:KJ E K D L (bB (aU f (ms.set k m) asl)::C1)):KJ E K D L C:=fun a w hf' hs=>h a w hf' (St.back hk ha hf (St.kz _ hn hC hs))
end
end
section
open Go.RowKit
def qd (l:List Int) (a:RA):List Value:=[vS a.1 l.length a.2]
def PV (l:List Int) (a:RA):List aw:=[rd a.1 l.length 1 (l.map iC)]
def zQ (l:List Int) (a:RA):List aw:=[own a.1 a.2 Ss 1 (l.map iC)]
theorem E0: ∀ (m:List Int) (a:RA) (w:World),(∀ X∈zQ m a,X.holds w)→ ∀ X∈PV m a,X.holds w:=fun m a w h X hX=>by
 simp only [PV,bK] at hX
 subst hX
 have:=mu (h _ (List.mem_singleton.2 rfl))
 simpa using this
theorem z7 {l:List (List Int)} {bz:List RA}:(bB (aU zQ l bz)).wr=true:=by
 show (aU zQ l bz).all (·.wr)=true
 rw [eM]
 intro X hX
 obtain ⟨k,m,a,_,_,h⟩:=jm hX
 simp only [zQ,bK] at h
 subst h; rfl
theorem jC {ls:List (List Int)} {az:List RA} (h:az.length=ls.length):(List.zipWith qd ls az).length=ls.length:=by simp [h]
theorem Fh (l:List (List Int)) (az:List RA): ∀ v∈(List.zipWith qd l az).flatten,v.oneCell'=true:=by
 induction l generalizing az with
 |nil=>intro v hv; simp at hv
 |cons x l ih=>
  cases az with
  |nil=>intro v hv; simp at hv
  |cons a az=>
   intro v hv
   rw [List.zipWith_cons_cons,List.flatten_cons,jB] at hv
   rcases hv with hv|hv
   ·simp [qd] at hv; subst hv; rfl
   ·exact ih az v hv
section
variable {M A:Type} {f:M→A→List aw} {ms:List M} {asl:List A} {k:Nat} {m:M} {a:A} {X:aw}
theorem sG:fc f (ms.set k m) (asl.set k a) k=fc f ms asl k:=by
 unfold fc
 rw [List.take_set_of_le (Nat.le_refl k),List.drop_set_of_lt (Nat.lt_succ_self k),List.take_set_of_le (Nat.le_refl k),List.drop_set_of_lt (Nat.lt_succ_self k)]
theorem St.Qx {S:BS} {w0 w:World} {C:List aw} (hk:k<ms.length) (hk2:k<asl.length) (hf:f m a=[X]) (h:St S w0 (X::bB (fc f ms asl k)::C) w):St S w0 (bB (aU f (ms.set k m) (asl.set k a))::C) w:=by
 have A:St S w0 (bB (fc f ms asl k)::X::C) w:=h.perm (List.Perm.swap _ _ _)
 have B:=A.g8
 have D:St S w0 ((f m a++fc f (ms.set k m) (asl.set k a) k)++C) w:=by
  rw [hf,sG]
  exact B.perm (List.perm_middle (a:=X) (l₁:=fc f ms asl k) (l₂:=C))
 exact kK (kI (List.getElem?_set_self hk) (List.getElem?_set_self hk2)).symm D.tied
theorem nM {β:Type} {c:M→A→β}:(List.zipWith c ms asl).set k (c m a)=List.zipWith c (ms.set k m) (asl.set k a):=by
 apply List.ext_getElem?
 intro j
 rw [List.getElem?_set]
 by_cases e:k=j
 ·subst e
  rw [if_pos rfl,List.length_zipWith,List.getElem?_zipWith,List.getElem?_set,List.getElem?_set,if_pos rfl,if_pos rfl]
  by_cases B:k<ms.length
  ·by_cases C:k<asl.length
   ·rw [if_pos I,if_pos B,if_pos C]
   ·rw [if_neg I,if_pos B,if_neg C]
  ·rw [if_neg I,if_neg B]
 ·rw [if_neg e,List.getElem?_zipWith,List.getElem?_zipWith,List.getElem?_set_ne e,List.getElem?_set_ne e]
variable {E:eU} {ops:Array Oper} {Q:cY} {rest:List Oper} {D:List Deferred} {L:List (Nat×Value)} {C C1:List aw}
abbrev BW (C:List aw) (i j:Nat):List Nat:=j::i::(List.range C.length).filter fun k=>k != i&&k != j
abbrev G1 (C:List aw) (i:Nat):List Nat:=i::(List.range C.length).filter fun k=>k != i
theorem EW (i j:Nat) (hk:k<ms.length) (hk2:k<asl.length) (hf:f m a=[X]) (hn:decide (BW C i j).Nodup=true) (hC:qO C (BW C i j)=some (X::bB (fc f ms asl k)::C1))
 (h:RJ E ops Q rest D L (bB (aU f (ms.set k m) (asl.set k a))::C1)):RJ E ops Q rest D L C:=fun a w hf' hs=>h a w hf' (St.Qx hk hk2 hf (St.kz _ hn (k8 hC) hs))
theorem D9 {c:Code} (i:Nat) (hm:ms[k]? =some m) (ha:asl[k]? =some a) (hf:f m a=[X]) (hn:decide (G1 C i).Nodup=true) (hC:qO C (G1 C i)=some (bB (aU f ms asl)::C1))
 (h:WJ E c Q D L (X::bB (fc f ms asl k)::C1)):WJ E c Q D L C:=fun a w hf' hs=>h a w hf' (St.out hm ha hf (St.kz _ hn (k8 hC) hs))
theorem L7 {K:Act→World→Prop} (i j:Nat) (hk:k<ms.length) (ha:asl[k]? =some a) (hf:f m a=[X]) (hn:decide (BW C i j).Nodup=true) (hC:qO C (BW C i j)=some (X::bB (fc f ms asl k)::C1))
 (h:KJ E K D L (bB (aU f (ms.set k m) asl)::C1)):KJ E K D L C:=fun a w hf' hs=>h a w hf' (St.back hk ha hf (St.kz _ hn (k8 hC) hs))
theorem OF {Y Y':List aw} (i j:Nat) (hn:decide (BW C i j).Nodup=true) (hC:qO C (BW C i j)=some (X::bB Y::C1)) (e:Y++[X]=Y') (h:RJ E ops Q rest D L (bB Y'::C1)):RJ E ops Q rest D L C:=fun a w hf hs=>h a w hf ((St.kz _ hn (k8 hC) hs).tie e)
theorem zO {K:Act→World→Prop} {Y Y':List aw} (i j:Nat) (hn:decide (BW C i j).Nodup=true) (hC:qO C (BW C i j)=some (X::bB Y::C1)) (e:Y++[X]=Y') (h:KJ E K D L (bB Y'::C1)):KJ E K D L C:=fun a w hf hs=>h a w hf ((St.kz _ hn (k8 hC) hs).tie e)
end
theorem wx {M A:Type} {f:M→A→List aw} {ms:List M} {asl:List A} {m:M} {a:A} {X:aw} (h:ms.length=asl.length) (hf:f m a=[X]):aU f ms asl++[X]=aU f (ms++[m]) (asl++[a]):=by
 rw [iX h]; simp [aU,hf]
theorem zb {M A β:Type} {f:M→A→β} {ms:List M} {asl:List A} {m:M} {a:A} (h:ms.length=asl.length):List.zipWith f ms asl++List.zipWith f [m] [a]=List.zipWith f (ms++[m]) (asl++[a]):=(List.zipWith_append h).symm
theorem jK {r:cr} {k:Nat}:((n8 r k).map (·.1)).Nodup:=by
 unfold n8
 rw [List.map_filterMap]
 refine List.Pairwise.filterMap _ ?_ (List.nodup_range (n:=r.aH.length))
 intro a b A x hx y hy e
 subst e
 simp only [Option.map_map,Option.map_eq_some_iff,Function.comp] at hx hy
 obtain ⟨_,_,rfl⟩:=hx
 obtain ⟨_,_,h⟩:=hy
 exact A I
noncomputable def fu (r:cr):List (List Int):=if gr r=0 then Classical.epsilon (fun G=>gV (bk (aJ r)) ((aJ r).map (·.1)) G∧zL G) else []
theorem xx {r:cr} (h: ¬ gr r=0):fu r=[]:=if_neg h
theorem v8 {r:cr} {G:List (List Int)} (he:gr r=0) (h1:gV (bk (aJ r)) ((aJ r).map (·.1)) G) (h2:zL G):G=fu r:=by
 unfold fu
 rw [if_pos he]
 have A:=Classical.epsilon_spec (p:=fun G=>gV (bk (aJ r)) ((aJ r).map (·.1)) G∧zL G) ⟨G,h1,h2⟩
 exact rR jK (fun i hi=>(gN (pR he)).2.1) h1 A.1 h2 A.2
section
variable {f:Int→ab} {L:List Int} {G:List (List Int)} {g:List Int} {x last:Int} {i j:Nat}
theorem z9 (h:l7 f (L.take i) G last) (hg:g∈G):g.length≤L.length:=by
 have A:=h.ok.perm.length_eq
 have B:g.length≤G.flatten.length:=(List.sublist_flatten_of_mem hg).length_le
 rw [List.length_take] at A; omega
theorem Fv (h:l7 f (L.take i) G last):G.length≤L.length:=by
 have A:=h.ok.perm.length_eq
 have B: ∀ G:List (List Int),(∀ g∈G,g≠[])→G.length≤G.flatten.length:=fun G=>by
  induction G with
  |nil=>intro _; simp
  |cons g G ih=>
   intro hG
   have C:=ih fun y hy=>hG y (cW _ hy)
   have D:=List.length_pos_iff.2 (hG g bZ)
   simp only [List.flatten_cons,List.length_cons,List.length_append]; omega
 have C:=B G h.ok.some_
 rw [List.length_take] at A; omega
theorem pB (h0: -1≤(f x).Hi) (hx:L[i]? =some x) (hg:(G++[[]])[(G++[([]:List Int)]).length-1]? =some g) (h:l7 f (L.take i) G last) (hl:last<(f x).Lo):l7 f (L.take (i+1)) ((G++[[]]).set ((G++[([]:List Int)]).length-1) (g++[x])) (max last (f x).Hi):=by
 have A:(G++[([]:List Int)]).length-1=G.length:=by simp
 rw [A] at hg ⊢
 simp at hg
 subst hg
 rw [lx hx]
 have B:(G++[([]:List Int)]).set G.length ([]++[x])=G++[[x]]:=by simp
 rw [B]
 exact Lu h0 h hl
theorem ox (h0: -1≤(f x).Hi) (hf: ∀ i∈L,(f i).Lo≤(f i).Hi) (hup:Dh (fun u=>(f u).Lo) L) (hx:L[i]? =some x) (hg:G[G.length-1]? =some g) (h:l7 f (L.take i) G last) (hl: ¬ last<(f x).Lo):l7 f (L.take (i+1)) (G.set (G.length-1) (g++[x])) (max last (f x).Hi):=by
 obtain ⟨A,F⟩:=List.getElem?_eq_some_iff.1 hg
 obtain ⟨G',y,rfl⟩: ∃ G' y,G=G'++[y]:=⟨G.dropLast,G.getLast (by intro e; subst e; simp at A),(List.dropLast_concat_getLast _).symm⟩
 have D:(G'++[y]).length-1=G'.length:=by simp
 simp only [D] at hg ⊢
 simp at hg
 subst hg
 have E:(G'++[y]).set G'.length (y++[x])=G'++[y++[x]]:=by simp
 rw [lx hx,E]
 refine Iz h0 (fun i hi=>hf i (List.mem_of_mem_take hi)) (fun a ha=>?_) h hl
 obtain ⟨C,B⟩:=List.getElem?_eq_some_iff.1 hx
 obtain ⟨q,hq,rfl⟩:=List.mem_iff_getElem.1 ha
 rw [List.length_take] at hq
 rw [List.getElem_take]
 have:=List.pairwise_iff_getElem.1 hup q i I C I
 rw [B] at this
 exact this
theorem Fz (hlo:0≤(f x).Lo) (h:l7 f (L.take i) G last) (hl: ¬ last<(f x).Lo):1≤G.length:=by
 rcases h.at_ with ⟨_,e⟩|⟨a,ha,_⟩
 ·omega
 ·exact List.length_pos_iff.2 (Ie h (fun e=>by rw [e] at ha; cases ha))
/-- the first groups are in order -/
def nz (G:List (List Int)) (j:Nat):List (List Int):=(G.take j).map dx++G.drop j
theorem Dg (h:G.length≤j):nz G j=G.map dx:=by unfold nz; rw [List.take_of_length_le h,List.drop_eq_nil_of_le h,List.append_nil]
theorem Ej:(nz G j).length=G.length:=by unfold nz; rw [List.length_append,List.length_map,List.length_take,List.length_drop]; omega
theorem F2 (h:G[j]? =some g):(nz G j)[j]? =some g:=by
 have hj:=(List.getElem?_eq_some_iff.1 h).1
 unfold nz
 rw [List.getElem?_append_right (by rw [List.length_map,List.length_take]; omega),List.length_map,List.length_take,Nat.min_eq_left I,Nat.sub_self,List.getElem?_drop]
 simpa using h
theorem CT (h:G[j]? =some g):(nz G j).set j (dx g)=nz G (j+1):=by
 have hj:=(List.getElem?_eq_some_iff.1 h).1
 unfold nz
 rw [List.set_append_right _ _ (by rw [List.length_map,List.length_take]; omega),List.length_map,List.length_take,Nat.min_eq_left I,Nat.sub_self,List.drop_eq_getElem_cons hj,List.set_cons_zero,List.take_add_one,h]
 simp
theorem JQ {gz:List RA}:List.zipWith qd (G.map dx) gz=List.zipWith qd G gz:=by
 induction G generalizing gz with
 |nil=>rfl
 |cons g G ih=>
  cases gz with
  |nil=>rfl
  |cons a gz=>simp only [List.map_cons,List.zipWith_cons_cons,ih]; simp [qd]
end
end
section
open Go.RowKit
theorem xD (l:List ao) (az:List RA): ∀ v∈(List.zipWith ao.cells l az).flatten,v.oneCell'=true:=by
 induction l generalizing az with
 |nil=>intro v hv; simp at hv
 |cons x l ih=>
  cases az with
  |nil=>intro v hv; simp at hv
  |cons a az=>
   intro v hv
   rw [List.zipWith_cons_cons,List.flatten_cons,jB] at hv
   rcases hv with hv|hv
   ·simp [ao.cells,de.cells] at hv
    rcases hv with rfl|rfl<;>rfl
   ·exact ih az v hv
theorem gn {l:List ao} {az:List RA} (h:az.length=l.length):(List.zipWith ao.cells l az).length=l.length:=by simp [h]
/-- addresses, of which some are new -/
def rE (bz az:List RA) (i:Nat):List RA:=bz++az.drop i
theorem qo {bz az:List RA} {i:Nat} (hb:bz.length=i) (hi:i≤az.length):(rE bz az i).length=az.length:=by simp [rE,hb]; omega
theorem HP {bz az:List RA} {i:Nat} (h:az.length≤i):rE bz az i=bz:=by unfold rE; rw [List.drop_eq_nil_of_le h,List.append_nil]
theorem ED {bz az:List RA} {i:Nat} {a:RA} (hb:bz.length=i) (h:az[i]? =some a):(rE bz az i)[i]? =some a:=by
 unfold rE
 rw [List.getElem?_append_right I,hb,Nat.sub_self,List.getElem?_drop]
 simpa using h
theorem Iu {bz az:List RA} {i:Nat} {a b:RA} (hb:bz.length=i) (h:az[i]? =some a):(rE bz az i).set i b=rE (bz++[b]) az (i+1):=by
 unfold rE
 have hi:=(List.getElem?_eq_some_iff.1 h).1
 rw [List.set_append_right _ _ I,hb,Nat.sub_self,List.drop_eq_getElem_cons hi,List.set_cons_zero]
 simp
theorem Mr {l:List ao} {bz az:List RA} {i:Nat} {x:ao} {xa nw:RA} (hx:l[i]? =some x) (hb:bz.length=i) (ha:az[i]? =some xa):
 (List.zipWith ao.cells l (rE bz az i)).set i (ao.cells x nw)=List.zipWith ao.cells l (rE (bz++[nw]) az (i+1)):=by
 rw [← Iu hb ha]
 apply List.ext_getElem?
 intro k
 rw [List.getElem?_set]
 by_cases e:i=k
 ·subst e
  have A:=ED hb ha
  have B:=(List.getElem?_eq_some_iff.1 A).1
  have C:=(List.getElem?_eq_some_iff.1 hx).1
  rw [if_pos rfl,List.getElem?_zipWith,hx,List.getElem?_set_self B,if_pos (by simp; omega)]
 ·rw [if_neg e,List.getElem?_zipWith,List.getElem?_zipWith,List.getElem?_set_ne e]
theorem Hy {l:List ao} {bz:List RA} {i:Nat} {x:ao} {nw:RA} (hx:l[i]? =some x) (hb:bz.length=i):aU ao.owns (l.take i) bz++ao.owns x nw=aU ao.owns (l.take (i+1)) (bz++[nw]):=by
 have hi:=(List.getElem?_eq_some_iff.1 hx).1
 rw [List.take_add_one,hx,Option.toList_some,iX (by rw [List.length_take,hb]; omega)]
 simp [aU]
theorem dv {l:List ao} {bz:List RA}:(bB (aU ao.owns l bz)).wr=true:=by
 show (aU ao.owns l bz).all (·.wr)=true
 rw [eM]
 intro X hX
 obtain ⟨k,m,a,_,_,h⟩:=jm hX
 simp only [ao.owns,bK] at h
 subst h; rfl
/-- what is known of new rows -/
def mC (l:List ao) (bz:List RA):Prop:= ∀ (k:Nat) m (a:RA),l[k]? =some m→bz[k]? =some a→m.aT.length≤a.2
theorem B6 {l:List ao} {bz:List RA} {i:Nat} {x:ao} {nw:RA} (h:mC l bz) (hb:bz.length=i) (hx:l[i]? =some x) (hc:x.aT.length≤nw.2):mC l (bz++[nw]):=fun k m a hm ha=>by
 by_cases e:k<bz.length
 ·rw [List.getElem?_append_left e] at ha
  exact h k m a hm ha
 ·rw [List.getElem?_append_right I] at ha
  have hk:k-bz.length=0:=by
   rcases Nat.eq_zero_or_pos (k-bz.length) with A|A
   ·exact A
   ·rw [List.getElem?_eq_none (by simp; omega)] at ha; cases ha
  rw [hk] at ha
  simp at ha
  have:k=i:=by omega
  subst this
  rw [hx] at hm; cases hm
  subst ha; exact hc
theorem kh: ∀ (m:ao) (a:RA) (w:World),(∀ X∈ao.owns m a,X.holds w)→ ∀ X∈ao.gh m a,X.holds w:=fun m a w h X hX=>by
 simp only [ao.gh,bK] at hX
 subst hX
 have:=mu (h _ (List.mem_singleton.2 rfl))
 simpa using this
theorem ej.L4 {l:aW} {az bz:List RA} (h:ej l az) (hb:bz.length=l.aj.length) (hc:mC l.aj bz):ej l bz:=⟨h.rK,h.side,h.rD,hb,h.ry,fun k m a hm ha=>⟨hc k m a hm ha,by
 obtain ⟨A,B⟩: ∃ A,az[k]? =some A:=⟨az[k]'(by rw [h.mE]; exact (List.getElem?_eq_some_iff.1 hm).1),ei _⟩
 exact (h.PY k m A hm B).2⟩⟩
theorem wo {x y:ao} {k:Nat} (h1:x.cU=y.cU) (h2:(x.aT.length:Int)=(y.aT.length:Int)) (hk:x.aT.length≤k) (h:x.aT.take k=y.aT.take k):x=y:=by
 cases x; cases y
 simp only [ao.mk.injEq] at *
 rw [List.take_of_length_le hk,List.take_of_length_le I] at h
 exact ⟨h1,h⟩
theorem gH {l m:aW} (h1:l.aM=m.aM) (h2:l.gG=m.gG) (h3:l.cG=m.cG) (h4:l.eg=m.eg) (h5:l.cN=m.cN) (h6:l.aj=m.aj) (h7:l.ae=m.ae):l=m:=by
 cases l; cases m; simp_all
section
variable {E:eU} {ops:Array Oper} {Q:cY} {rest:List Oper} {D:List Deferred} {L:List (Nat×Value)} {C:List aw}
theorem Sg {a:OA} {c e sz:Nat} {es:List (List Value)} (i:Nat) (hC:C[i]? =some (own a c e sz es)) (k:es.length≤c→RJ E ops Q rest D L C):RJ E ops Q rest D L C:=fun act w hf hs=>
 k (FF (hs.holds _ (aR hC))) act w hf hs
end
end
section
open Go.RowKit
def mP (m:av) (a:RA):List aw:=[own a.1 a.2 NI 2 (m.bW.ah.map aK.cells)]
def jV (m:List av) (a:cD):List aw:=own a.1.1 a.1.2 B5 7 (List.zipWith av.cells m a.2)::aU mP m a.2
theorem Pq: ∀ (m:av) (a:RA) (w:World),(∀ X∈mP m a,X.holds w)→ ∀ X∈av.gh m a,X.holds w:=fun m a w h X hX=>by
 simp only [av.gh,bK] at hX
 subst hX
 have:=mu (h _ (List.mem_singleton.2 rfl))
 simpa using this
theorem jq {m:List av} {asl:List RA} (h:asl.length=m.length):(List.zipWith av.cells m asl).length=m.length:=by simp [h]
theorem dy {m:List (List av)} {asl:List cD} (h:asl.length=m.length):(List.zipWith cz m asl).length=m.length:=by simp [h]
theorem Mg {m:List av} {asl:List RA}:(aU mP m asl).all (·.wr)=true:=by
 rw [eM]
 intro X hX
 obtain ⟨k,d,a,_,_,h⟩:=jm hX
 simp only [mP,bK] at h
 subst h; rfl
theorem gp {m:List (List av)} {asl:List cD}:(bB (aU jV m asl)).wr=true:=by
 show (aU jV m asl).all (·.wr)=true
 rw [eM]
 intro X hX
 obtain ⟨k,d,a,_,_,h⟩:=jm hX
 rcases List.mem_cons.1 h with rfl|h
 ·rfl
 ·exact List.all_eq_true.1 Mg X h
theorem EG (l:List av) (az:List RA): ∀ v∈(List.zipWith av.cells l az).flatten,v.oneCell'=true:=by
 induction l generalizing az with
 |nil=>intro v hv; simp at hv
 |cons x l ih=>
  cases az with
  |nil=>intro v hv; simp at hv
  |cons a az=>
   intro v hv
   rw [List.zipWith_cons_cons,List.flatten_cons,jB] at hv
   rcases hv with hv|hv
   ·simp [av.cells,bp.cells,ew.cells,ab.cells] at hv
    rcases hv with rfl|rfl|rfl|rfl|rfl|rfl|rfl<;>rfl
   ·exact ih az v hv
theorem zo (l:List (List av)) (az:List cD): ∀ v∈(List.zipWith cz l az).flatten,v.oneCell'=true:=by
 induction l generalizing az with
 |nil=>intro v hv; simp at hv
 |cons x l ih=>
  cases az with
  |nil=>intro v hv; simp at hv
  |cons a az=>
   intro v hv
   rw [List.zipWith_cons_cons,List.flatten_cons,jB] at hv
   rcases hv with hv|hv
   ·simp [cz] at hv; subst hv; rfl
   ·exact ih az v hv
/-- every heat has as many places as descents -/
def uJ (H:List (List av)) (hz:List cD):Prop:=hz.length=H.length∧ ∀ (k:Nat) h (a:cD),H[k]? =some h→hz[k]? =some a→a.2.length=h.length
theorem M0 {a:OA} {c e sz n:Nat} {es:List (List Value)} {w:World} (h:(own a c e sz es).holds w) (hn:es.length=n):(rd a n sz es).holds w:=by subst hn; exact mu h
theorem ju {C:List aw} {H:List (List av)} {hz:List cD} (i:Nat) (hC:C[i]? =some (bB (aU jV H hz))) (hh:uJ H hz):gI C (eH (aU iA H hz)).holds:=fun w hw X hX=>by
 have hb:=hw _ (aR hC)
 obtain ⟨k,m,a,A,B,D⟩:=jm hX
 rcases List.mem_cons.1 D with rfl|D
 ·exact M0 (hb.1 _ (bu A B bZ)) (jq (hh.2 k m a A B))
 ·obtain ⟨q,d,b,E,F,G⟩:=jm D
  exact Pq d b w (fun Y hY=>hb.1 Y (bu A B (cW _ (bu E F hY)))) X G
section
variable {α:Type}
def ir (bz az:List α) (i:Nat):List α:=bz++az.drop i
variable {bz az:List α} {i:Nat} {a b:α}
theorem ed (hb:bz.length=i) (hi:i≤az.length):(ir bz az i).length=az.length:=by simp [ir,hb]; omega
theorem qG (h:az.length≤i):ir bz az i=bz:=by unfold ir; rw [List.drop_eq_nil_of_le h,List.append_nil]
theorem sU (hb:bz.length=i) (h:az[i]? =some a):(ir bz az i)[i]? =some a:=by
 unfold ir
 rw [List.getElem?_append_right I,hb,Nat.sub_self,List.getElem?_drop]
 simpa using h
theorem CB (hb:bz.length=i):(ir (bz++[b]) az (i+1))[i]? =some b:=by
 unfold ir
 rw [List.getElem?_append_left (by simp; omega),List.getElem?_append_right I,hb,Nat.sub_self]; rfl
theorem JF (hb:bz.length=i) (h:az[i]? =some a):(ir bz az i).set i b=ir (bz++[b]) az (i+1):=by
 unfold ir
 have hi:=(List.getElem?_eq_some_iff.1 h).1
 rw [List.set_append_right _ _ I,hb,Nat.sub_self,List.drop_eq_getElem_cons hi,List.set_cons_zero]
 simp
theorem qH {M β:Type} {c:M→α→β} {l:List M} {x:M} (hx:l[i]? =some x) (hb:bz.length=i) (h:az[i]? =some a):(List.zipWith c l (ir bz az i)).set i (c x b)=List.zipWith c l (ir (bz++[b]) az (i+1)):=by
 rw [nM,JF hb h]
 congr 1
 obtain ⟨hi,rfl⟩:=List.getElem?_eq_some_iff.1 hx
 exact List.set_getElem_self hi
theorem ng {M:Type} {f:M→α→List aw} {l:List M} {x:M} (hx:l[i]? =some x) (hb:bz.length=i):aU f (l.take i) bz++f x b=aU f (l.take (i+1)) (bz++[b]):=by
 have hi:=(List.getElem?_eq_some_iff.1 hx).1
 rw [List.take_add_one,hx,Option.toList_some,iX (by rw [List.length_take,hb]; omega)]
 simp [aU]
end
theorem Ar: ∀ {l:List (List av)} {u v:List cD},u.map (·.1)=v.map (·.1)→List.zipWith cz l u=List.zipWith cz l v
 |[],u,v,_=>by simp
 |x::l,[],[],_=>rfl
 |x::l,[],b::v,h=>by simp at h
 |x::l,a::u,[],h=>by simp at h
 |x::l,a::u,b::v,h=>by
  simp only [List.map_cons,List.cons.injEq] at h
  rw [List.zipWith_cons_cons,List.zipWith_cons_cons,Ar h.2]
  have e:cz x a=cz x b:=by simp only [cz,h.1]
  rw [e]
theorem By {l:List (List av)} {hz ha:List cD} {p:RA} {x y:List RA} {i:Nat}:List.zipWith cz l (ir (hz++[(p,x)]) ha i)=List.zipWith cz l (ir (hz++[(p,y)]) ha i):=Ar (by simp [ir])
theorem ES {H:List (List av)} {hz:List cD} {i:Nat} {x:List av} {b:cD} (hx:H[i]? =some x) (h: ∀ (k:Nat) y (a:cD),H[k]? =some y→hz[k]? =some a→a.2.length=y.length) (hb:hz.length=i) (hl:b.2.length=x.length): ∀ (k:Nat) y (a:cD),H[k]? =some y→(hz++[b])[k]? =some a→a.2.length=y.length:=fun k y a hy ha=>by
 by_cases e:k<hz.length
 ·rw [List.getElem?_append_left e] at ha
  exact h k y a hy ha
 ·rw [List.getElem?_append_right I] at ha
  have hk:k-hz.length=0:=by
   rcases Nat.eq_zero_or_pos (k-hz.length) with A|A
   ·exact A
   ·rw [List.getElem?_eq_none (by simp; omega)] at ha; cases ha
  rw [hk] at ha
  simp at ha
  have:k=i:=by omega
  subst this
  rw [hx] at hy; cases hy
  subst ha; exact hl
theorem FL {S:BS} {w0 w:World} {C:List aw} {A:aw} {Y Z:List aw} (h:St S w0 (A::bB Y::bB Z::C) w):St S w0 (bB (Z++A::Y)::C) w:=by
 have D:St S w0 (bB Y::A::bB Z::C) w:=h.perm (List.Perm.swap _ _ _)
 have E:St S w0 (Y++(A::bB Z::C)) w:=D.g8
 have F:St S w0 (bB Z::(A::Y)++C) w:=E.perm (by
  have B:(Y++(A::bB Z::C)).Perm ((A::bB Z::C)++Y):=List.perm_append_comm
  refine B.trans ?_
  show (A::bB Z::(C++Y)).Perm (bB Z::A::(Y++C))
  exact (List.Perm.swap _ _ _).trans (((List.perm_append_comm (l₁:=C) (l₂:=Y)).cons A).cons _))
 have G:St S w0 (Z++((A::Y)++C)) w:=F.g8
 have H:St S w0 ((Z++A::Y)++C) w:=by simpa using G
 exact H.tied
theorem Ht {S:BS} {w0 w:World} {C:List aw} {A:aw} {Y Z:List aw} (h:St S w0 (bB (A::Y++Z)::C) w):St S w0 (A::bB Y::bB Z::C) w:=by
 have D:St S w0 ((A::Y++Z)++C) w:=h.g8
 have E:St S w0 (Z++(A::(Y++C))) w:=D.perm (by
  show (A::(Y++Z)++C).Perm (Z++(A::(Y++C)))
  have B:(A::(Y++Z)++C).Perm (A::(Z++(Y++C))):=by
   show (A::((Y++Z)++C)).Perm _
   refine List.Perm.cons A ?_
   rw [← List.append_assoc]
   exact List.perm_append_comm.append_right C
  exact B.trans (List.perm_middle (a:=A) (l₁:=Z) (l₂:=Y++C)).symm)
 have F:=E.tied
 have G:St S w0 (Y++(A::bB Z::C)) w:=F.perm (by
  show (bB Z::A::(Y++C)).Perm (Y++(A::bB Z::C))
  have B:(Y++(A::bB Z::C)).Perm (A::bB Z::(Y++C)):=by
   have:=List.perm_append_comm (l₁:=Y) (l₂:=A::bB Z::C)
   refine this.trans ?_
   show (A::bB Z::(C++Y)).Perm _
   exact (List.perm_append_comm.cons _).cons _
  exact (B.trans (List.Perm.swap _ _ _)).symm)
 have H:=G.tied
 exact H.perm (List.Perm.swap _ _ _)
theorem wc {H:List (List av)} {hz:List cD} {k:Nat} {h:List av} {a:cD} (hh:H[k]? =some h) (ha:hz[k]? =some a):(aU jV H hz).Perm (own a.1.1 a.1.2 B5 7 (List.zipWith av.cells h a.2)::aU mP h a.2++fc jV H hz k):=kI hh ha
theorem OT {E:eU} {K:Act→World→Prop} {D:List Deferred} {L:List (Nat×Value)} {C:List aw} {a:OA} {c e sz:Nat} {es:List (List Value)} (i:Nat) (hC:C[i]? =some (own a c e sz es)) (k:es.length≤c→KJ E K D L C):KJ E K D L C:=fun act w hf hs=>k (FF (hs.holds _ (aR hC))) act w hf hs
abbrev LO (C:List aw) (i j k:Nat):List Nat:=k::j::i::(List.range C.length).filter fun q=>q != i&&q != j&&q != k
section
variable {E:eU} {ops:Array Oper} {Q:cY} {rest:List Oper} {D:List Deferred} {L:List (Nat×Value)} {C C1:List aw} {K:Act→World→Prop}
variable {H:List (List av)} {hz:List cD} {h h':List av} {a a':cD} {k:Nat} {X:aw} {Y Z Z':List aw}
/-- i: the others, j: what hangs on the row, q: the row -/
theorem I8 (i j q:Nat) (hn:decide (LO C i j q).Nodup=true) (hC:qO C (LO C i j q)=some (X::bB Y::bB Z::C1)) (e:Z++X::Y=Z') (hk:KJ E K D L (bB Z'::C1)):KJ E K D L C:=fun a w hf hs=>by
 subst e; exact hk a w hf (FL (St.kz _ hn (k8 hC) hs))
theorem H5 {c:Code} (i:Nat) (hh:H[k]? =some h) (ha:hz[k]? =some a) (hn:decide (G1 C i).Nodup=true) (hC:qO C (G1 C i)=some (bB (aU jV H hz)::C1))
 (hk:WJ E c Q D L (own a.1.1 a.1.2 B5 7 (List.zipWith av.cells h a.2)::bB (aU mP h a.2)::bB (fc jV H hz k)::C1)):WJ E c Q D L C:=fun act w hf hs=>
 hk act w hf (Ht (kK (wc hh ha) (St.kz _ hn (k8 hC) hs)))
theorem JN {S:BS} {w0 w:World} (hk:k<H.length) (hk2:k<hz.length) (hs:St S w0 (own a'.1.1 a'.1.2 B5 7 (List.zipWith av.cells h' a'.2)::bB (aU mP h' a'.2)::bB (fc jV H hz k)::C) w):St S w0 (bB (aU jV (H.set k h') (hz.set k a'))::C) w:=by
 have B:=FL hs
 refine kK ?_ B
 have A:=wc (H:=H.set k h') (hz:=hz.set k a') (List.getElem?_set_self hk) (List.getElem?_set_self hk2)
 rw [sG] at A
 exact (List.perm_append_comm).trans A.symm
end
theorem yH {H:List (List av)} {hz:List cD} {k:Nat} {h h':List av} {a:cD} {bs:List RA} (hh:H[k]? =some h) (ha:hz[k]? =some a) (hl:h'.length=h.length):List.zipWith cz (H.set k h') (hz.set k (a.1,bs))=List.zipWith cz H hz:=by
 rw [← nM]
 have e:cz h' (a.1,bs)=cz h a:=by simp only [cz,hl]
 rw [e]
 have hz':=cH (f:=cz) hh ha
 obtain ⟨hi,A⟩:=List.getElem?_eq_some_iff.1 hz'
 rw [← A]
 exact List.set_getElem_self hi
theorem Ms {S:BS} {w0 w:World} {C:List aw} {h:List av} {bs:List RA} {i:Nat} {d:av} {b:RA} {d':av} (hd:h[i]? =some d) (hb:bs[i]? =some b) (hs':d'.bW.ah=[]) (hs:St S w0 (bB (aU mP h bs)::C) w):St S w0 (bB (aU mP (h.set i d') (bs.set i (none,0)))::C) w:=by
 have A:=(kK (kI hd hb) hs).g8
 have B:St S w0 (fc mP h bs i++C) w:=St.take (by simpa using A) (List.sublist_append_right (mP d b) (fc mP h bs i++C))
 have D:=B.rq NI 2
 have E:St S w0 ((mP d' (none,0)++fc mP (h.set i d') (bs.set i (none,0)) i)++C) w:=by
  rw [sG]
  simpa [mP,hs'] using D
 exact kK (kI (List.getElem?_set_self (List.getElem?_eq_some_iff.1 hd).1) (List.getElem?_set_self (List.getElem?_eq_some_iff.1 hb).1)).symm E.tied
theorem oO {d e:av}:d=e↔d.Out=e.Out∧d.dE=e.dE∧d.Time=e.Time∧d.bW.Start=e.bW.Start∧d.bW.fK=e.bW.fK∧d.bW.ah=e.bW.ah:=by
 obtain ⟨a,b,c,⟨x,y,z⟩⟩:=d
 obtain ⟨A,B,C,⟨D,E,F⟩⟩:=e
 simp only [av.mk.injEq,cx.mk.injEq]
theorem kO {r q:cr} (h1:r.aA=q.aA) (h2:r.aH=q.aH) (h3:r.cm=q.cm) (h4:r.iN=q.iN) (h5:r.aq=q.aq):r=q:=by
 cases r; cases q; simp_all
theorem fw.L4 {r:cr} {az bz:List RA} {ha hz:List cD} (h:fw r az ha) (hb:bz.length=r.aA.aj.length) (hc:mC r.aA.aj bz) (hh:uJ r.aq hz):fw r bz hz:=⟨h.line.L4 hb hc,h.iK,h.draw,h.iR,hh.1,fun k x a hx ha'=>by
 obtain ⟨A,C⟩: ∃ A,ha[k]? =some A:=⟨ha[k]'(by rw [h.has]; exact (List.getElem?_eq_some_iff.1 hx).1),ei _⟩
 have B:=h.my k x A hx C
 exact ⟨B.len,hh.2 k x a hx ha',B.sig⟩⟩
end
section
open Go.RowKit
def iF (t:ab):av:=⟨false,true,t,⟨0,0,[]⟩⟩
def gO (H:List (List av)) (h i:Int) (t:ab):List (List av):=H.set h.toNat ((H[h.toNat]?.getD []).set i.toNat (iF t))
def fV (r:cr) (h i:Int) (t:ab):cr:=⟨r.aA,r.aH,r.cm,r.iN,gO r.aq h i t⟩
@[simp] theorem PX {r:cr} {h i:Int} {t:ab}:(fV r h i t).aA=r.aA:=rfl
@[simp] theorem Om {r:cr} {h i:Int} {t:ab}:(fV r h i t).aH=r.aH:=rfl
@[simp] theorem PW {r:cr} {h i:Int} {t:ab}:(fV r h i t).cm=r.cm:=rfl
theorem pP {m:g7} {i:Int} {s:ab}:(dq m i s).length≤m.length:=by
 unfold dq
 refine Nat.le_trans (List.length_filter_le _ _) ?_
 rw [List.length_map,List.length_range]; exact Nat.le_refl _
noncomputable def ou (r:cr) (h i:Int) (t:ab):Int:=if ((0≤h∧h≤(r.aq.length:Int)-1)∧P0 r i)∧iG t then (if ((r.aq[h.toNat]?).bind (·[i.toNat]?)).any (·.Out)=true then 8 else 0) else 2
noncomputable def fZ (r:cr) (h i:Int) (t:ab):Int:=if gr r=0 then ou r h i t else gr r
noncomputable def ep (r:cr) (h i:Int) (t:ab):List Int:=if fZ r h i t=0 then (dx ((aJ r).map (·.1))).filter (fun k=> !decide (dq (aJ r) k (bk (aJ r) k)=dq (aJ (fV r h i t)) k (bk (aJ (fV r h i t)) k))) else []
section
variable {r:cr} {h i:Int} {t:ab} {ht:List av} {d:av}
theorem pU {H:List (List av)} (hh:H[h.toNat]? =some ht):gO H h i t=H.set h.toNat (ht.set i.toNat (iF t)):=by unfold gO; rw [hh]; rfl
theorem eZ {H:List (List av)}:(gO H h i t).length=H.length:=by unfold gO; rw [List.length_set]
theorem gW (q: ¬ (((0≤h∧h≤(r.aq.length:Int)-1)∧0≤i∧i≤(r.aH.length:Int)-1)∧iG t)):ou r h i t=2:=if_neg q
theorem EP (q:((0≤h∧h≤(r.aq.length:Int)-1)∧0≤i∧i≤(r.aH.length:Int)-1)∧iG t) (h1:r.aq[h.toNat]? =some ht) (h2:ht[i.toNat]? =some d):ou r h i t=if d.Out=true then 8 else 0:=by
 unfold ou
 rw [if_pos (show ((0≤h∧h≤(r.aq.length:Int)-1)∧P0 r i)∧iG t from q),h1,Option.bind_some,h2,Option.any_some]
theorem mh (q:((0≤h∧h≤(r.aq.length:Int)-1)∧0≤i∧i≤(r.aH.length:Int)-1)∧iG t) (h1:r.aq[h.toNat]? =some ht) (h2:ht[i.toNat]? =some d) (ho:d.Out=true):ou r h i t=8:=by rw [EP q h1 h2,if_pos ho]
theorem Fu (q:((0≤h∧h≤(r.aq.length:Int)-1)∧0≤i∧i≤(r.aH.length:Int)-1)∧iG t) (h1:r.aq[h.toNat]? =some ht) (h2:ht[i.toNat]? =some d) (ho:d.Out=false):ou r h i t=0:=by rw [EP q h1 h2,if_neg (by rw [ho]; decide)]
/-- what it means that there is no error -/
theorem uG (e:ou r h i t=0):((0≤h∧h≤(r.aq.length:Int)-1)∧P0 r i)∧iG t∧((r.aq[h.toNat]?).bind (·[i.toNat]?)).any (·.Out)=false:=by
 unfold ou at e
 split at e
 ·rename_i q
  split at e
  ·cases e
  ·rename_i A; exact ⟨q.1,q.2,by simpa using A⟩
 ·cases e
theorem AX (e:fZ r h i t=0):gr r=0∧ou r h i t=0:=by
 unfold fZ at e
 split at e
 ·exact ⟨asm,e⟩
 ·exact absurd e asm
theorem lQ (e: ¬ gr r=0):fZ r h i t=gr r:=if_neg e
theorem jv (e:gr r=0):fZ r h i t=ou r h i t:=if_pos e
theorem w9 {H:List (List av)} {k:Nat} {y:List av} (hy:(gO H h i t)[k]? =some y): ∃ x,H[k]? =some x∧y.length=x.length∧ ∀ d∈y,d∈x∨d=iF t:=by
 unfold gO at hy
 rw [List.getElem?_set] at hy
 split at hy
 ·rename_i e
  split at hy
  ·rename_i hl
   have A:H[h.toNat]? =some H[h.toNat]:=ei hl
   rw [A] at hy
   simp only [Option.getD_some,Option.some.injEq] at hy
   subst hy
   refine ⟨H[h.toNat],by rw [← e]; exact A,by rw [List.length_set],fun d hd=>?_⟩
   exact List.mem_or_eq_of_mem_set hd
  ·cases hy
 ·exact ⟨y,hy,U,fun d hd=> .inl hd⟩
theorem DV (hr:eJ r) (ht:iG t):eJ (fV r h i t):=⟨hr.num,hr.x5,by
 have:=hr.nh
 show 1≤((gO r.aq h i t).length:Int)∧((gO r.aq h i t).length:Int)≤3
 rw [eZ]; exact this,hr.ids,hr.draw,fun y hy=>by
 obtain ⟨k,hk⟩:=List.mem_iff_getElem?.1 hy
 obtain ⟨x,hx,hl,hm⟩:=w9 hk
 have A:=hr.my x (aR hx)
 refine ⟨hl.trans A.1,fun d hd=>?_⟩
 rcases hm d hd with q|rfl
 ·exact A.2 d q
 ·unfold ia
  rw [if_neg (by simp [iF]),if_pos (by rfl)]
  exact ⟨ht,by simp [l6,iF]⟩⟩
theorem yA (e:fZ r h i t=0):gr (fV r h i t)=0:=by
 obtain ⟨A,B⟩:=AX e
 obtain ⟨C,D⟩:=iy A
 unfold gr
 rw [if_pos (show du (fV r h i t).aA=0 from C),if_pos (DV D (uG B).2.1)]
theorem fw.rep {az bz:List RA} {ha hz:List cD} (hin:fw r az ha) (hb:bz.length=r.aA.aj.length) (hc:mC r.aA.aj bz) (hh:uJ (gO r.aq h i t) hz):fw (fV r h i t) bz hz:=⟨hin.line.L4 hb hc,hin.iK,hin.draw,by
 show (gO r.aq h i t).length≤1000000
 rw [eZ]; exact hin.iR,hh.1,fun k y a hy ha'=>by
 obtain ⟨x,hx,hl,hm⟩:=w9 hy
 obtain ⟨b,hb⟩: ∃ b,ha[k]? =some b:=⟨ha[k]'(by rw [hin.has]; exact (List.getElem?_eq_some_iff.1 hx).1),ei _⟩
 have A:=hin.my k x b hx hb
 refine ⟨by rw [hl]; exact A.len,hh.2 k y a hy ha',fun d hd=>?_⟩
 rcases hm d hd with q|rfl
 ·exact A.sig d q
 ·simp [iF]⟩
theorem IL {H:List (List av)} {k q:Nat}:((gO H h i t)[k]?).bind (·[q]?)=(H[k]?).bind (·[q]?)∨(k=h.toNat∧q=i.toNat∧(∃ d,(H[k]?).bind (·[q]?)=some d)∧((gO H h i t)[k]?).bind (·[q]?)=some (iF t)):=by
 by_cases e:h.toNat=k
 ·cases hk:H[k]? with
  |none=>
   left
   have:(gO H h i t)[k]? =none:=by rw [List.getElem?_eq_none_iff,eZ]; exact List.getElem?_eq_none_iff.1 hk
   rw [this]
  |some x=>
   have B:(gO H h i t)[k]? =some (x.set i.toNat (iF t)):=by
    subst e
    rw [pU hk]
    exact List.getElem?_set_self (List.getElem?_eq_some_iff.1 hk).1
   rw [B,Option.bind_some,Option.bind_some]
   by_cases A:i.toNat=q
   ·cases hq:x[q]? with
    |none=>
     left
     rw [List.getElem?_eq_none_iff,List.length_set]; exact List.getElem?_eq_none_iff.1 hq
    |some d=>
     right
     subst A
     exact ⟨e.symm,U,⟨d,U⟩,List.getElem?_set_self (List.getElem?_eq_some_iff.1 hq).1⟩
   ·left; rw [List.getElem?_set_ne A]
 ·left
  unfold gO
  rw [List.getElem?_set_ne e]
theorem zl {l:aW} {H:List (List av)} {q:Nat} (ho:((H[h.toNat]?).bind (·[i.toNat]?)).any (·.Out)=false): ∀ n,(dK l (gO H h i t) q n).isSome=(dK l H q n).isSome
 |0=>rfl
 |n+1=>by
  have ih:=zl (l:=l) (q:=q) ho n
  unfold dK
  rcases IL (H:=H) (h:=h) (i:=i) (t:=t) (k:=n) (q:=q) with e|⟨rfl,rfl,⟨d,hd⟩,e⟩
  ·rw [e]
   cases e1:dK l (gO H h i t) q n<;>cases e2:dK l H q n<;>simp_all
   cases (H[n]?).bind (·[q]?) with
   |none=>rfl
   |some d=>by_cases c:d.Out=true<;>simp [c]
  ·rw [e,hd]
   have A:d.Out=false:=by rw [hd] at ho; simpa using ho
   cases e1:dK l (gO H h i t) i.toNat h.toNat<;>cases e2:dK l H i.toNat h.toNat<;>simp_all [iF]
theorem NF {r:cr} {k:Nat} {x:Int}:(n8 r k).lookup x=if 0≤x∧x<(r.aH.length:Int) then dK r.aA r.aq x.toNat k else none:=by
 by_cases c:0≤x∧x<(r.aH.length:Int)
 ·rw [if_pos c]
  have:=oT (f:=fun q=>dK r.aA r.aq q k) r.aH.length x.toNat
  rw [if_pos I,show (x.toNat:Int)=x by omega] at this
  exact this
 ·rw [if_neg c]
  cases e:(n8 r k).lookup x with
  |none=>rfl
  |some v=>
   exfalso
   obtain ⟨q,hq,A,_⟩:=oS ((lT jK).2 e)
   simp only at A
   omega
theorem Bu (e:ou r h i t=0) (k:Int):((aJ (fV r h i t)).lookup k).isSome=((aJ r).lookup k).isSome:=by
 obtain ⟨_,_,ho⟩:=uG e
 unfold aJ
 rw [NF,NF]
 show (if 0≤k∧k<(r.aH.length:Int) then dK r.aA (gO r.aq h i t) k.toNat (gO r.aq h i t).length else none).isSome=_
 rw [eZ]
 split
 ·exact zl ho _
 ·rfl
theorem B8 {m:g7} {k:Int} (h:k∈dx (m.map (·.1))):m.lookup k≠none:=by
 obtain ⟨p,hp,rfl⟩:=List.mem_map.1 (eV.mem_iff.1 h)
 intro e
 exact absurd (List.lookup_eq_none_iff.1 e p hp) sm
theorem Ji {hz:List cD} {hza:cD} (hh:uJ r.aq hz) (h1:r.aq[h.toNat]? =some ht) (h2:hz[h.toNat]? =some hza):uJ (gO r.aq h i t) (hz.set h.toNat (hza.1,hza.2.set i.toNat (none,0))):=by
 refine ⟨by rw [List.length_set,eZ]; exact hh.1,fun k y a hy ha=>?_⟩
 rw [pU h1] at hy
 rw [List.getElem?_set] at hy ha
 by_cases e:h.toNat=k
 ·rw [if_pos e,if_pos (List.getElem?_eq_some_iff.1 h1).1] at hy
  rw [if_pos e,if_pos (List.getElem?_eq_some_iff.1 h2).1] at ha
  cases hy; cases ha
  simp only [List.length_set]
  exact hh.2 _ _ _ h1 h2
 ·rw [if_neg e] at hy ha
  exact hh.2 k y a hy ha
theorem pG (e: ¬ fZ r h i t=0):ep r h i t=[]:=if_neg e
theorem xC (e:fZ r h i t=0):ep r h i t=(dx ((aJ r).map (·.1))).filter (fun k=> !decide (dq (aJ r) k (bk (aJ r) k)=dq (aJ (fV r h i t)) k (bk (aJ (fV r h i t)) k))):=if_pos e
end
section
variable {E:eU} {Q:cY} {D:List Deferred} {L:List (Nat×Value)} {C C1:List aw} {c:Code}
variable {H:List (List av)} {hz:List cD} {h h':List av} {a a':cD} {k:Nat} {bs:List RA} {i:Nat} {d d':av} {b:RA}
theorem Jd (j:Nat) (hd:h[i]? =some d) (hb:bs[i]? =some b) (hs':d'.bW.ah=[]) (hn:decide (G1 C j).Nodup=true) (hC:qO C (G1 C j)=some (bB (aU mP h bs)::C1))
 (hk:WJ E c Q D L (bB (aU mP (h.set i d') (bs.set i (none,0)))::C1)):WJ E c Q D L C:=fun act w hf hs=>hk act w hf (Ms hd hb hs' (St.kz _ hn (k8 hC) hs))
theorem Fy (i j q:Nat) (hk:k<H.length) (hk2:k<hz.length) (hn:decide (LO C i j q).Nodup=true) (hC:qO C (LO C i j q)=some (own a'.1.1 a'.1.2 B5 7 (List.zipWith av.cells h' a'.2)::bB (aU mP h' a'.2)::bB (fc jV H hz k)::C1))
 (hr:WJ E c Q D L (bB (aU jV (H.set k h') (hz.set k a'))::C1)):WJ E c Q D L C:=fun act w hf hs=>hr act w hf (JN hk hk2 (St.kz _ hn (k8 hC) hs))
end
end
section
open Go.RowKit
theorem MK (l:List (List ab)) (az:List RA): ∀ v∈(List.zipWith rM l az).flatten,v.oneCell'=true:=by
 induction l generalizing az with
 |nil=>intro v hv; simp at hv
 |cons x l ih=>
  cases az with
  |nil=>intro v hv; simp at hv
  |cons a az=>
   intro v hv
   rw [List.zipWith_cons_cons,List.flatten_cons,jB] at hv
   rcases hv with hv|hv
   ·simp [rM] at hv; subst hv; rfl
   ·exact ih az v hv
theorem HT {M A β:Type} {c:M→A→β} {l:List M} {asl:List A} {k:Nat} {x:M} {b:A} (hx:l[k]? =some x):(List.zipWith c l asl).set k (c x b)=List.zipWith c l (asl.set k b):=by
 rw [nM]
 congr 1
 obtain ⟨hi,rfl⟩:=List.getElem?_eq_some_iff.1 hx
 exact List.set_getElem_self hi
theorem LV {l:List (List ab)} {asl:List RA} {k:Nat} {x y:List ab} (hx:l[k]? =some x) (hl:y.length=x.length):List.zipWith rM (l.set k y) asl=List.zipWith rM l asl:=by
 apply List.ext_getElem?
 intro q
 rw [List.getElem?_zipWith,List.getElem?_zipWith,List.getElem?_set]
 by_cases e:k=q
 ·subst e
  rw [if_pos rfl,if_pos (List.getElem?_eq_some_iff.1 hx).1,hx]
  cases asl[k]? with
  |none=>rfl
  |some a=>simp only [rM,hl]
 ·rw [if_neg e]
theorem FR {r:cr} {h i:Int} {t:ab} {tr:List ab} (htr:(bV r)[h.toNat]? =some tr):bV (fV r h i t)=(bV r).set h.toNat (tr.set i.toNat t):=by
 have A:=(List.getElem?_eq_some_iff.1 htr).1
 rw [dw] at A
 have hh:r.aq[h.toNat]? =some r.aq[h.toNat]:=ei A
 have e:=rj hh htr
 subst e
 have B: ∀ x:cr,bV x=x.aq.map fun h=>h.map (fB x.aA):=fun x=>by unfold bV fY; rw [List.take_length]
 rw [B,B]
 show (gO r.aq h i t).map (fun h=>h.map (fB r.aA))=_
 rw [pU hh,List.map_set,List.map_set]
 congr 1
theorem z8 {C:List aw} {ls:List (List ab)} {tz:List RA} {k:Nat} {y:List ab} {b:RA} (i j:Nat) (hi:C[i]? =some (bB (aU Dd ls tz))) (hj:C[j]? =some (own b.1 b.2 En 2 (y.map ab.cells))):gI C (eH (aU yC (ls.set k y) (tz.set k b))).holds:=fun w hw X hX=>by
 have hb:=hw _ (aR hi)
 obtain ⟨q,m,a,A,B,D⟩:=jm hX
 rw [List.getElem?_set] at A B
 by_cases e:k=q
 ·rw [if_pos e] at A B
  split at A
  ·cases A
   split at B
   ·cases B
    simp only [yC,bK] at D
    subst D
    have:=mu (hw _ (aR hj))
    simpa using this
   ·cases B
  ·cases A
 ·rw [if_neg e] at A B
  exact xA m a w (fun Y hY=>hb.1 Y (bu A B hY)) X D
noncomputable def x7 (r:cr) (h i:Int) (t:ab) (q:Nat):Bool:=((aJ r).lookup (q:Int)).isSome&& !decide (dq (aJ r) (q:Int) (bk (aJ r) (q:Int))=dq (aJ (fV r h i t)) (q:Int) (bk (aJ (fV r h i t)) (q:Int)))
noncomputable def pH (r:cr) (h i:Int) (t:ab) (k:Nat):List Int:=((List.range k).filter (x7 r h i t)).map fun (q:Nat)=>(q:Int)
section
variable {r:cr} {h i:Int} {t:ab} {k:Nat}
theorem Bb (hb:x7 r h i t k=true):pH r h i t (k+1)=pH r h i t k++[(k:Int)]:=by unfold pH; rw [List.range_succ,List.filter_append,List.map_append]; simp [hb]
theorem Ez (hb:x7 r h i t k=false):pH r h i t (k+1)=pH r h i t k:=by unfold pH; rw [List.range_succ,List.filter_append,List.map_append]; simp [hb]
theorem AN:(pH r h i t k).length≤k:=by unfold pH; rw [List.length_map]; exact Nat.le_trans (List.length_filter_le _ _) (by rw [List.length_range]; exact Nat.le_refl _)
theorem Ct (h1:((aJ r).lookup (k:Int)).isSome=true) (h2: ¬ dq (aJ r) (k:Int) (bk (aJ r) (k:Int))=dq (aJ (fV r h i t)) (k:Int) (bk (aJ (fV r h i t)) (k:Int))):x7 r h i t k=true:=by unfold x7; rw [h1,bD h2]; rfl
theorem I1 (h1:((aJ r).lookup (k:Int)).isSome=false):x7 r h i t k=false:=by unfold x7; rw [h1]; rfl
theorem I9 (h2:dq (aJ r) (k:Int) (bk (aJ r) (k:Int))=dq (aJ (fV r h i t)) (k:Int) (bk (aJ (fV r h i t)) (k:Int))):x7 r h i t k=false:=by unfold x7; rw [dh h2]; simp
theorem CP:dx ((aJ r).map (·.1))=((List.range r.aH.length).filter fun (q:Nat)=>((aJ r).lookup (q:Int)).isSome).map fun (q:Nat)=>(q:Int):=by
 refine mZ j4 ?_ (eV.nodup_iff.2 jK) ?_ fun x=>?_
 ·rw [List.pairwise_map]
  exact ((List.pairwise_lt_range (n:=r.aH.length)).filter _).imp fun h=>by omega
 ·refine List.Pairwise.map _ ?_ (List.Pairwise.filter _ (List.nodup_range (n:=r.aH.length)))
  intro a b h e
  exact h I
 ·rw [eV.mem_iff]
  constructor
  ·intro hx
   obtain ⟨v,hv,rfl⟩:=List.mem_map.1 hx
   obtain ⟨q,hq,e,_⟩:=oS hv
   refine List.mem_map.2 ⟨q,List.mem_filter.2 ⟨List.mem_range.2 hq,?_⟩,e.symm⟩
   show ((aJ r).lookup (q:Int)).isSome=true
   rw [← e]; exact Option.isSome_iff_exists.2 ⟨v.2,(lT jK).1 hv⟩
  ·intro hx
   obtain ⟨q,hq,rfl⟩:=List.mem_map.1 hx
   obtain ⟨v,hv⟩:=Option.isSome_iff_exists.1 (List.mem_filter.1 hq).2
   exact List.mem_map.2 ⟨_,(lT jK).2 hv,U⟩
theorem JB (e:fZ r h i t=0):pH r h i t r.aH.length=ep r h i t:=by
 rw [xC e,CP]
 unfold pH
 rw [List.filter_map,List.filter_filter]
 congr 1
 refine List.filter_congr fun q _=>?_
 unfold x7
 simp only [Function.comp]
 exact Bool.and_comm _ _
end
/-- there is a table -/
theorem zB {r:cr} (he:gr r=0): ∃ G,gV (bk (aJ r)) ((aJ r).map (·.1)) G∧zL G:=by
 have key: ∀ (L:List Int),Dh (fun u=>(bk (aJ r) u).Lo) L→ ∀ i,i≤L.length→ ∃ G last,l7 (bk (aJ r)) (L.take i) G last:=fun L B i=>by
  induction i with
  |zero=>intro _; exact ⟨[],-1,EJ⟩
  |succ i ih=>
   intro hi
   obtain ⟨G,last,hG⟩:=ih I
   have hx:L[i]? =some (L[i]'I):=ei _
   have C:=gN (i:=L[i]'I) (pR he)
   by_cases hl:last<(bk (aJ r) (L[i]'I)).Lo
   ·obtain ⟨g,hg⟩: ∃ g,(G++[[]])[(G++[([]:List Int)]).length-1]? =some g:=⟨_,ei sm⟩
    exact ⟨_,_,pB I hx hg hG hl⟩
   ·have hp:=Fz C.1 hG hl
    obtain ⟨g,hg⟩: ∃ g,G[G.length-1]? =some g:=⟨_,ei I⟩
    exact ⟨_,_,ox I (fun u _=>(gN (i:=u) (pR he)).2.1) B hx hg hG hl⟩
 obtain ⟨G,last,hG⟩:=key (fD (fun u=>(bk (aJ r) u).Lo) ((aJ r).map (·.1))) ur _ (Nat.le_refl _)
 have A:=uV hG.ok
 rw [List.take_length] at A
 exact ⟨_,n_ A.1 qi,A.2⟩
def AS:cr:=⟨⟨[],0,[],[],0,0,0⟩,[],[],0,[]⟩
theorem vL:fw AS [] []:=⟨⟨dc,fun x h=>(by cases h),dc,rfl,dc,fun k m a h=>by simp [AS] at h⟩,dc,dc,dc,rfl,fun k x a h=>by simp [AS] at h⟩
theorem vH {C:List aw} {M A:Type} {f:M→A→List aw} {asl:List A}:gI C (eH (aU f [] asl)).holds:=fun w hw X hX=>by cases hX
theorem Ep {l:aW} (h:l.aM=[]∧l.aj=[]∧l.ae=[]): ¬ jN l:=by
 obtain ⟨A,B,C⟩:=h
 unfold jN
 rw [A,B,C]; simp
theorem pT: ¬ je AS:=by
 unfold je
 rintro ((q|q|q|q)|⟨x,hx,_⟩)
 ·exact Ep ⟨U,U,U⟩ q
 ·simp [AS] at q
 ·simp [AS] at q
 ·simp [AS] at q
 ·simp [AS] at hx
theorem GB {r:cr} {h i:Int} {t:ab} (hg: ¬ je r): ¬ je (fV r h i t):=by
 have A:=qT hg
 rintro ((q|q|q|q)|⟨x,hx,q⟩)
 ·exact A.1 q
 ·have:=A.2.1; have e:(fV r h i t).aH=r.aH:=rfl; rw [e] at q; omega
 ·have:=A.2.2.1; have e:(fV r h i t).cm=r.cm:=rfl; rw [e] at q; omega
 ·have:=A.2.2.2.1
  have e:(fV r h i t).aq.length=r.aq.length:=eZ
  rw [e] at q; omega
 ·obtain ⟨k,hk⟩:=List.mem_iff_getElem?.1 hx
  obtain ⟨y,hy,hl,hm⟩:=w9 hk
  have B:=A.2.2.2.2 y (aR hy)
  rcases q with q|⟨d,hd,q⟩
  ·rw [hl] at q; omega
  ·rcases hm d hd with c|rfl
   ·have:=B.2 d c; omega
   ·simp [iF] at q
theorem AR {r:cr}:(fu r).length≤1000000∧ ∀ l∈fu r,l.length≤1000000:=by
 by_cases he:gr r=0
 ·have E:(aJ r).length≤5:=nH he
  have A: ∃ G,gV (bk (aJ r)) ((aJ r).map (·.1)) G∧zL G:=by
   refine Classical.byContradiction fun hn=>?_
   exact hn (zB he)
  obtain ⟨G,hG,hA⟩:=A
  rw [← v8 he hG hA]
  have C:=hG.perm.length_eq
  rw [List.length_map] at C
  have B: ∀ G:List (List Int),(∀ g∈G,g≠[])→G.length≤G.flatten.length:=fun G=>by
   induction G with
   |nil=>intro _; simp
   |cons g G ih=>
    intro hG
    have B:=ih fun y hy=>hG y (cW _ hy)
    have D:=List.length_pos_iff.2 (hG g bZ)
    simp only [List.flatten_cons,List.length_cons,List.length_append]; omega
  refine ⟨by have:=B G hG.some_; omega,fun l hl=>?_⟩
  have D:l.length≤G.flatten.length:=(List.sublist_flatten_of_mem hl).length_le
  omega
 ·rw [xx he]; simp
theorem AJ {r:cr} {h i:Int} {t:ab}:(ep r h i t).length≤r.aH.length:=by
 unfold ep
 split
 ·refine Nat.le_trans (List.length_filter_le _ _) ?_
  rw [fW,List.length_map]
  exact yp
 ·simp
end
section
open Go.RowKit
section
variable {m:g7} {n p q i:Nat} {D D0 D1:List Bool} {G:List (List Int)} {first hi hi1:Int} {more:Bool}
/-- who has a sum, and is not done -/
def sJ (m:g7) (D:List Bool) (q:Nat):Prop:=(m.lookup (q:Int)).isSome=true∧D[q]? =some false
abbrev mx (m:g7) (q:Nat):ab:=bk m (q:Int)
structure F0 (m:g7) (n:Nat) (G:List (List Int)) (D:List Bool):Prop where
 len:D.length=n
 has: ∀ q:Nat,D[q]? =some true→(m.lookup (q:Int)).isSome=true
 ok:gV (bk m) G.flatten G
 mem: ∀ x,x∈G.flatten↔ ∃ q:Nat,x=(q:Int)∧D[q]? =some true
 nd:G.flatten.Nodup
 Uf:zL G
 below: ∀ a∈G.flatten,∀ q:Nat,sJ m D q→(bk m a).Hi<(mx m q).Lo
theorem Fc {n q:Nat} (h:(List.replicate n false)[q]? =some true):False:=by
 rw [List.getElem?_replicate] at h
 split at h<;>cases h
theorem Hg:F0 m n [] (List.replicate n false):=⟨List.length_replicate,fun q h=>(Fc h).elim,⟨sm,fun g hg=>(by cases hg),List.Pairwise.nil,fun g hg=>(by cases hg)⟩,fun x=>⟨fun h=>(by cases h),fun ⟨q,_,h⟩=>(Fc h).elim⟩,List.nodup_nil,fun g hg=>(by cases hg),fun a ha=>(by cases ha)⟩
/-- the least that is left -/
def nK (m:g7) (D:List Bool) (i:Nat) (first:Int):Prop:=(first= -1∧ ∀ q,q<i→ ¬ sJ m D q)∨ ∃ p:Nat,first=(p:Int)∧p<i∧sJ m D p∧ ∀ q,q<i→sJ m D q→(mx m p).Lo≤(mx m q).Lo
theorem B4:nK m D 0 (-1):= .inl ⟨rfl,fun q h=>absurd h (Nat.not_lt_zero q)⟩
theorem jt (h:nK m D i first) (hn: ¬ sJ m D i):nK m D (i+1) first:=by
 rcases h with ⟨e,h⟩|⟨p,e,hp,hu,h⟩
 ·exact .inl ⟨e,fun q hq=>(Nat.lt_succ_iff_lt_or_eq.1 hq).elim (h q) fun e=>by subst e; exact hn⟩
 ·exact .inr ⟨p,e,I,hu,fun q hq A=>(Nat.lt_succ_iff_lt_or_eq.1 hq).elim (fun c=>h q c A) fun e=>by subst e; exact absurd A hn⟩
theorem mm (h:nK m D i first) (h0: ¬ first<0) (hl: ¬ (mx m i).Lo<(bk m first).Lo):nK m D (i+1) first:=by
 rcases h with ⟨e,h⟩|⟨p,rfl,hp,hu,h⟩
 ·omega
 ·exact .inr ⟨p,U,I,hu,fun q hq A=>by
   rcases Nat.lt_succ_iff_lt_or_eq.1 hq with c|rfl
   ·exact h q c A
   ·have:(mx m p).Lo=(bk m (p:Int)).Lo:=rfl
    omega⟩
theorem iw (h:nK m D i first) (hu:sJ m D i) (h0:first<0∨(mx m i).Lo<(bk m first).Lo):nK m D (i+1) (i:Int):= .inr ⟨i,rfl,I,hu,fun q hq A=>by
 rcases Nat.lt_succ_iff_lt_or_eq.1 hq with c|rfl
 ·rcases h with ⟨e,h⟩|⟨p,rfl,hp,B,h⟩
  ·exact absurd A (h q c)
  ·have C:=h q c A
   have:(mx m p).Lo=(bk m (p:Int)).Lo:=rfl
   omega
 ·exact Int.le_refl _⟩
def mG:List Bool→Nat
 |[]=>0
 |b::l=>(if b=true then 0 else 1)+mG l
theorem AK: ∀ {D:List Bool} {i:Nat},D[i]? =some false→mG (D.set i true)+1=mG D
 |[],i,h=>by simp at h
 |b::l,0,h=>by simp at h; subst h; simp [mG]; omega
 |b::l,i+1,h=>by
  have:=AK (D:=l) (i:=i) (by simpa using h)
  simp only [List.set_cons_succ,mG]; omega
/-- a group that grows from its first one -/
structure sZ (m:g7) (D0:List Bool) (p:Nat) (D:List Bool) (hi:Int):Prop where
 len:D.length=D0.length
 ext: ∀ q:Nat,D0[q]? =some true→D[q]? =some true
 GP: ∀ q:Nat,D[q]? =some true→D0[q]? =some true∨(sJ m D0 q∧(mx m p).Lo≤(mx m q).Lo∧(mx m q).Hi≤hi)
 top:(mx m p).Hi≤hi
 cover: ∀ t,(mx m p).Lo<t→t≤hi→ ∃ c:Nat,(c=p∨(D[c]? =some true∧sJ m D0 c))∧(mx m c).Lo<t∧t≤(mx m c).Hi
theorem C_:sZ m D0 p D0 (mx m p).Hi:=⟨rfl,fun q h=>h,fun q h=> .inl h,Int.le_refl _,fun t A B=>⟨p,.inl rfl,A,B⟩⟩
theorem E3 (h:sZ m D0 p D hi) (hu:sJ m D q):sJ m D0 q:=⟨hu.1,by
 have hq:=(List.getElem?_eq_some_iff.1 hu.2).1
 have e:D0[q]? =some (D0[q]'(by rw [← h.len]; exact hq)):=ei _
 cases c:D0[q]'(by rw [← h.len]; exact hq) with
 |false=>rw [e,c]
 |true=>rw [c] at e; have:=h.ext q e; rw [hu.2] at this; cases this⟩
theorem pQ (hmin: ∀ q,sJ m D0 q→(mx m p).Lo≤(mx m q).Lo) (h:sZ m D0 p D hi) (hu:sJ m D i) (hl:(mx m i).Lo≤hi):sZ m D0 p (D.set i true) (max hi (mx m i).Hi):=by
 have E:=E3 h hu
 have hi':=(List.getElem?_eq_some_iff.1 hu.2).1
 have C:(D.set i true)[i]? =some true:=List.getElem?_set_self hi'
 have B: ∀ q,q≠i→(D.set i true)[q]? =D[q]? :=fun q hq=>List.getElem?_set_ne (fun e=>hq e.symm)
 have A: ∀ q,D[q]? =some true→(D.set i true)[q]? =some true:=fun q hq=>by
  by_cases e:q=i
  ·rw [e]; exact C
  ·rw [B q e]; exact hq
 refine ⟨by rw [List.length_set]; exact h.len,fun q hq=>A q (h.ext q hq),fun q hq=>?_,by have:=h.top; omega,fun t AA K=>?_⟩
 ·by_cases e:q=i
  ·rw [e]; exact .inr ⟨E,hmin i E,I⟩
  ·rw [B q e] at hq
   rcases h.GP q hq with c|⟨G,H,J⟩
   ·exact .inl c
   ·exact .inr ⟨G,H,I⟩
 ·by_cases c:t≤hi
  ·obtain ⟨x,hx,F⟩:=h.cover t AA c
   exact ⟨x,hx.imp id fun z=>⟨A x z.1,z.2⟩,F⟩
  ·exact ⟨i,.inr ⟨C,E⟩,I,I⟩
/-- one pass -/
def nX (m:g7) (D1:List Bool) (hi1:Int) (i:Nat) (D:List Bool) (hi:Int) (more:Bool):Prop:=if more=true then mG D<mG D1 else D=D1∧hi=hi1∧ ∀ q:Nat,q<i→sJ m D q→hi<(mx m q).Lo
theorem D_:nX m D1 hi1 0 D1 hi1 false:=by unfold nX; rw [if_neg dc]; exact ⟨rfl,rfl,fun q h=>absurd h (Nat.not_lt_zero q)⟩
theorem q8 (h:nX m D1 hi1 i D hi more) (hu:sJ m D i) {x:Int}:nX m D1 hi1 (i+1) (D.set i true) x true:=by
 unfold nX at h ⊢
 rw [if_pos rfl]
 have:=AK hu.2
 split at h
 ·omega
 ·rw [h.1] at this ⊢; omega
theorem gQ (h:nX m D1 hi1 i D hi more) (hn: ¬ (sJ m D i∧(mx m i).Lo≤hi)):nX m D1 hi1 (i+1) D hi more:=by
 unfold nX at h ⊢
 split at h
 ·rename_i c; rw [if_pos c]; exact h
 ·rename_i c
  rw [if_neg c]
  refine ⟨h.1,h.2.1,fun q hq A=>?_⟩
  rcases Nat.lt_succ_iff_lt_or_eq.1 hq with B|rfl
  ·exact h.2.2 q B A
  ·refine Classical.byContradiction fun z=>hn ⟨A,I⟩
/-- what is picked -/
def kU (m:g7) (D:List Bool) (p:Nat) (hi:Int) (q:Nat):Bool:=(m.lookup (q:Int)).isSome&&(D.getD q false&&(decide ((mx m p).Lo≤(mx m q).Lo)&&decide ((mx m q).Lo≤hi)))
def gD (m:g7) (D:List Bool) (p:Nat) (hi:Int) (i:Nat):List Int:=((List.range i).filter (kU m D p hi)).map fun (q:Nat)=>(q:Int)
theorem yx (h:kU m D p hi i=true):gD m D p hi (i+1)=gD m D p hi i++[(i:Int)]:=by unfold gD; rw [List.range_succ,List.filter_append,List.map_append]; simp [h]
theorem sV (h:kU m D p hi i=false):gD m D p hi (i+1)=gD m D p hi i:=by unfold gD; rw [List.range_succ,List.filter_append,List.map_append]; simp [h]
theorem FX:(gD m D p hi i).length≤i:=by unfold gD; rw [List.length_map]; exact Nat.le_trans (List.length_filter_le _ _) (by rw [List.length_range]; exact Nat.le_refl _)
theorem JL {x:Int}:x∈gD m D p hi i↔ ∃ q:Nat,x=(q:Int)∧q<i∧(m.lookup (q:Int)).isSome=true∧D[q]? =some true∧(mx m p).Lo≤(mx m q).Lo∧(mx m q).Lo≤hi:=by
 unfold gD kU
 simp only [q_,List.mem_filter,List.mem_range,cQ,decide_eq_true_eq]
 constructor
 ·rintro ⟨q,⟨B,C,A,E⟩,rfl⟩
  refine ⟨q,U,B,C,?_,E⟩
  rw [List.getD_eq_getElem?_getD] at A
  cases c:D[q]? with
  |none=>rw [c] at A; cases A
  |some b=>rw [c] at A; simp at A; rw [A]
 ·rintro ⟨q,rfl,B,C,A,E⟩
  exact ⟨q,⟨B,C,by rw [List.getD_eq_getElem?_getD,A]; rfl,E⟩,U⟩
theorem CC:(gD m D p hi i).Pairwise (· < ·):=by
 unfold gD
 rw [List.pairwise_map]
 exact ((List.pairwise_lt_range (n:=i)).filter _).imp fun h=>by omega
theorem GJ (hb: ∀ q:Nat,(mx m q).Lo≤(mx m q).Hi) (ht:F0 m n G D0) (hp:sJ m D0 p) (hmin: ∀ q,sJ m D0 q→(mx m p).Lo≤(mx m q).Lo) (hg:sZ m D0 p D hi) (hend: ∀ q,q<n→sJ m D q→hi<(mx m q).Lo):F0 m n (G++[gD m D p hi n]) D∧mG D<mG D0:=by
 have J:D.length=n:=hg.len.trans ht.len
 have hend': ∀ q,sJ m D q→hi<(mx m q).Lo:=fun q hq=>hend q (by rw [← J]; exact (List.getElem?_eq_some_iff.1 hq.2).1) hq
 have N:D[p]? =some true:=by
  have R:=(List.getElem?_eq_some_iff.1 hp.2).1
  have e:D[p]? =some (D[p]'(by rw [hg.len]; exact R)):=ei _
  cases c:D[p]'(by rw [hg.len]; exact R) with
  |true=>rw [e,c]
  |false=>
   rw [c] at e
   have E:=hend' p ⟨hp.1,e⟩
   have F:=hg.top
   have L:=hb p
   omega
 have C: ∀ x,x∈gD m D p hi n↔ ∃ q:Nat,x=(q:Int)∧D[q]? =some true∧sJ m D0 q:=fun x=>by
  rw [JL]
  constructor
  ·rintro ⟨q,rfl,E,F,L,AA,W⟩
   refine ⟨q,U,L,?_⟩
   rcases hg.GP q L with c|⟨c,_⟩
   ·exfalso
    have X:=ht.below (q:Int) ((ht.mem _).2 ⟨q,rfl,c⟩) p hp
    have Z:=hb q
    have V:(mx m q).Hi=(bk m (q:Int)).Hi:=rfl
    omega
   ·exact c
  ·rintro ⟨q,rfl,E,F⟩
   refine ⟨q,U,by rw [← J]; exact (List.getElem?_eq_some_iff.1 E).1,F.1,E,hmin q F,?_⟩
   rcases hg.GP q E with c|⟨_,_,c⟩
   ·rw [F.2] at c; cases c
   ·have:=hb q; omega
 have H:(G++[gD m D p hi n]).flatten=G.flatten++gD m D p hi n:=by rw [List.flatten_append]; simp
 have Q: ∀ q:Nat,D[q]? =some true→sJ m D0 q→(mx m q).Hi≤hi:=fun q E F=>by
  rcases hg.GP q E with c|⟨_,_,c⟩
  ·rw [F.2] at c; cases c
  ·exact c
 refine ⟨⟨J,fun q hq=>?_,⟨List.Perm.refl _,fun g hg'=>?_,?_,fun g hg'=>?_⟩,fun x=>?_,?_,fun g hg'=>?_,fun a ha q hq=>?_⟩,?_⟩
 ·rcases hg.GP q hq with c|⟨c,_⟩
  ·exact ht.has q c
  ·exact c.1
 ·rcases List.mem_append.1 hg' with c|c
  ·exact ht.ok.some_ g c
  ·rw [bK] at c; subst c
   exact List.ne_nil_of_mem ((C (p:Int)).2 ⟨p,U,N,hp⟩)
 ·rw [List.pairwise_append]
  refine ⟨ht.ok.apart,List.pairwise_singleton _ _,fun g hg' d P a ha b AB=>?_⟩
  rw [bK] at P; subst P
  obtain ⟨q,rfl,E,F⟩:=(C b).1 AB
  exact ht.below a (List.mem_flatten.2 ⟨g,hg',ha⟩) q F
 ·rcases List.mem_append.1 hg' with c|c
  ·exact ht.ok.tight g c
  ·rw [bK] at c; subst c
   rintro t ⟨a,ha,E⟩ ⟨b,AB,F⟩
   obtain ⟨q,rfl,L,AA⟩:=(C a).1 ha
   obtain ⟨K,rfl,W,X⟩:=(C b).1 AB
   have Z:=hmin q AA
   have i:=Q K W X
   have j:=hb K
   have V:(mx m q).Lo=(bk m (q:Int)).Lo:=rfl
   have Y:(mx m K).Lo=(bk m (K:Int)).Lo:=rfl
   obtain ⟨x,hx,S,T⟩:=hg.cover t I I
   refine ⟨(x:Int),(C _).2 ⟨x,U,?_⟩,S,T⟩
   rcases hx with rfl|hx
   ·exact ⟨N,hp⟩
   ·exact hx
 ·rw [H,jB,ht.mem,C]
  constructor
  ·rintro (⟨q,rfl,E⟩|⟨q,rfl,E,_⟩)
   ·exact ⟨q,U,hg.ext q E⟩
   ·exact ⟨q,U,E⟩
  ·rintro ⟨q,rfl,E⟩
   rcases hg.GP q E with c|⟨c,_⟩
   ·exact .inl ⟨q,U,c⟩
   ·exact .inr ⟨q,U,E,c⟩
 ·rw [H,List.nodup_append]
  refine ⟨ht.nd,CC.imp fun h=>by omega,fun a ha b AB e=>?_⟩
  subst e
  obtain ⟨q,rfl,E⟩:=(ht.mem a).1 ha
  obtain ⟨K,Y,_,F⟩:=(C _).1 AB
  have:q=K:=by omega
  subst this
  have L:=F.2
  rw [E] at L; cases L
 ·rcases List.mem_append.1 hg' with c|c
  ·exact ht.Uf g c
  ·rw [bK] at c; subst c
   exact CC.imp fun h=>by omega
 ·rw [H,jB] at ha
  rcases ha with ha|ha
  ·exact ht.below a ha q (E3 hg hq)
  ·obtain ⟨K,rfl,E,F⟩:=(C a).1 ha
   have L:=Q K E F
   have AA:=hend' q hq
   have V:(mx m K).Hi=(bk m (K:Int)).Hi:=rfl
   omega
 ·-- the first one is done now
  have key: ∀ (A B:List Bool),A.length=B.length→(∀ q:Nat,A[q]? =some true→B[q]? =some true)→mG B≤mG A∧ ∀ p:Nat,A[p]? =some false→B[p]? =some true→mG B<mG A:=fun A=>by
   induction A with
   |nil=>intro B hl _; cases B with |nil=>exact ⟨Nat.le_refl _,fun p h=>by simp at h⟩|cons b B=>simp at hl
   |cons a A ih=>
    intro B hl O
    cases B with
    |nil=>simp at hl
    |cons b B=>
     obtain ⟨E,F⟩:=ih B (by simpa using hl) fun q hq=>by have:=O (q+1) (by simpa using hq); simpa using this
     have f:a=true→b=true:=fun e=>by have:=O 0 (by simp [e]); simpa using this
     have L:(if b=true then 0 else 1)≤(if a=true then (0:Nat) else 1):=by cases a<;>cases b<;>simp_all
     refine ⟨by simp only [mG]; omega,fun p hp M=>?_⟩
     cases p with
     |zero=>simp at hp M; subst hp M; simp only [mG]; simp; omega
     |succ p=>have:=F p (by simpa using hp) (by simpa using M); simp only [mG]; omega
  exact (key D0 D hg.len.symm hg.ext).2 p hp.2 N
end
theorem JG {r:cr} {G:List (List Int)} {D:List Bool} (he:gr r=0) (h:F0 (aJ r) r.aH.length G D) (hn: ∀ q,q<r.aH.length→ ¬ sJ (aJ r) D q):G=fu r:=by
 refine v8 he (n_ h.ok ?_) h.Uf
 refine (List.perm_ext_iff_of_nodup h.nd jK).2 fun x=>?_
 rw [h.mem]
 constructor
 ·rintro ⟨q,rfl,hq⟩
  obtain ⟨v,hv⟩:=Option.isSome_iff_exists.1 (h.has q hq)
  exact List.mem_map.2 ⟨_,(lT jK).2 hv,U⟩
 ·intro hx
  obtain ⟨v,hv,rfl⟩:=List.mem_map.1 hx
  obtain ⟨q,hq,e,hs⟩:=oS hv
  refine ⟨q,e,?_⟩
  have A:((aJ r).lookup (q:Int)).isSome=true:=by rw [← e]; exact Option.isSome_iff_exists.2 ⟨v.2,(lT jK).1 hv⟩
  have hD:D[q]? =some (D[q]'(by rw [h.len]; exact hq)):=ei _
  cases c:D[q]'(by rw [h.len]; exact hq) with
  |true=>rw [hD,c]
  |false=>rw [c] at hD; exact absurd ⟨A,hD⟩ (hn q hq)
section
variable {m:g7} {n p q i:Nat} {D D0 D1:List Bool} {first hi hi1:Int} {more:Bool}
theorem Bw (h:nK m D i first) (h0:first<0): ∀ q,q<i→ ¬ sJ m D q:=by
 rcases h with ⟨_,h⟩|⟨p,rfl,_⟩
 ·exact h
 ·omega
theorem AU (h:nK m D i first) (h0: ¬ first<0) (hD:D.length≤i): ∃ p:Nat,first=(p:Int)∧sJ m D p∧ ∀ q,sJ m D q→(mx m p).Lo≤(mx m q).Lo:=by
 rcases h with ⟨rfl,_⟩|⟨p,e,_,hu,h⟩
 ·omega
 ·exact ⟨p,e,hu,fun q hq=>h q (by have:=(List.getElem?_eq_some_iff.1 hq.2).1; omega) hq⟩
theorem pn (h:(m.lookup (q:Int)).isSome=false): ¬ sJ m D q:=fun u=>by rw [u.1] at h; cases h
theorem kS (h:D[q]? =some true): ¬ sJ m D q:=fun u=>by rw [u.2] at h; cases h
theorem GH (h:nX m D1 hi1 i D hi more) (hn:n≤i) (hm:more=false): ∀ q:Nat,q<n→sJ m D q→hi<(mx m q).Lo:=by
 subst hm
 unfold nX at h
 rw [if_neg dc] at h
 exact fun q hq=>h.2.2 q I
theorem DS (h:nX m D1 hi1 i D hi more):2*mG D+more.toNat<2*mG D1+true.toNat:=by
 unfold nX at h
 cases more with
 |true=>rw [if_pos rfl] at h; simp; omega
 |false=>rw [if_neg dc] at h; rw [h.1]; simp
theorem yD:(gD m D p hi i).length≤i:=FX
theorem yr: ∀ n,mG (List.replicate n false)=n
 |0=>rfl
 |n+1=>by rw [List.replicate_succ]; simp only [mG]; rw [yr n]; simp; omega
theorem yK (h1:(m.lookup (q:Int)).isSome=true) (h2:D[q]? =some true) (h3:(mx m p).Lo≤(mx m q).Lo) (h4:(mx m q).Lo≤hi):kU m D p hi q=true:=by
 unfold kU; rw [h1,List.getD_eq_getElem?_getD,h2,dh h3,dh h4]; rfl
theorem vt (h1:(m.lookup (q:Int)).isSome=false):kU m D p hi q=false:=by unfold kU; rw [h1]; rfl
theorem vq (h2:D[q]? =some false):kU m D p hi q=false:=by unfold kU; rw [List.getD_eq_getElem?_getD,h2]; simp
theorem vN (h3: ¬ (mx m p).Lo≤(mx m q).Lo):kU m D p hi q=false:=by unfold kU; rw [bD h3]; simp
theorem vM (h4: ¬ (mx m q).Lo≤hi):kU m D p hi q=false:=by unfold kU; rw [bD h4]; simp
end
end
section
open Go.RowKit
section
variable {P:Program} {t:TypeId} {x y:Operand}
theorem qt {e:TypeId} {a:OA} {n c:Nat} (ht:P.underlying t=some (.slice e)):gj P .eql t x y (.slice a n c) (.slice none 0 0) (.bool (decide (a=none))):=fun w=>by
 have A:(Op.equal t (.slice a n c) (.slice none 0 0)).run P w= .ok (decide (a=none)) w:=by
  unfold Op.equal
  show (Op.equalIn (9999+1) t (.slice a n c) (.slice none 0 0)).run P w=_
  unfold Op.equalIn
  cases a<;>simp [run_underlying ht]
 have B:eqGuard .eql t x y (.slice a n c) (.slice none 0 0)=pure ():=rfl
 rw [B]
 show (Sem.run P (do let b ← Op.equal t (.slice a n c) (.slice none 0 0); pure (vB b)) w)=_
 simp [A]
end
section
variable {E:eU} {ops:Array Oper} {Q:cY} {rest:List Oper} {D:List Deferred} {L:List (Nat×Value)} {C:List aw}
variable {dst:Option Tmp} {d:Nat} {ty:TypeId} {ps:String} {af:Array Edge} {g:Option (Nat×Bool)}
/-- a row that lies nowhere is empty -/
theorem mj {a:OA} {n sz:Nat} {es:List (List Value)} (hR:gI C (rd a n sz es).holds) (ha:a=none) (hz:0<sz) (k:es=[]→RJ E ops Q rest D L C):RJ E ops Q rest D L C:=fun act w hf hs=>by
 refine k ?_ act w hf hs
 obtain ⟨F,G,B⟩:=hs.has hR
 rcases Nat.eq_zero_or_pos (n*sz) with h|h
 ·have:n=0:=by
   rcases Nat.mul_eq_zero.1 h with h|h
   ·exact h
   ·omega
  exact jH I
 ·obtain ⟨ad,A,_⟩:=B h
  rw [ha] at A; cases A
theorem ku {A:aw} (i:Nat) (h:C[i]? =some A.ro):gI C A.holds:=fun w hw=>by
 have B:=hw A.ro (aR h)
 exact B
end
end
section
open Go.RowKit
theorem jO (n lo hi:Int):
 eA Tryz.prog 45 [(vI n),(vI lo),(vI hi)] [] (vB (decide (lo≤n∧n≤hi))):=by
 refine bH kr Tryz.func45 U U fun D Q hQ hN=>?_
 try dsimp only
 refine WS fun _ B=>aY 1 U<|RK B<|WS fun _ A=>rP 4 [] mn ?_
 refine cE (t:=10) U (aP fun C=>?_) (aQ fun C=>?_)
 ·refine rP 5 [] mn ?_
  refine RK A<|an<|Q1 hQ U U U ?_
  exact cB (decide_eq_decide.2 I)
 refine rP 5 [] mn ?_
 refine RK A<|an<|Q1 hQ U U U ?_
 exact cB (bD I).symm
theorem FO (r:cx) (sgA:OA) (sgC:Nat):
 eA Tryz.prog 123 [(vA (ew.cells (lv r sgA sgC)))] [(rd sgA r.ah.length 2 (r.ah.map aK.cells))] (vB (decide (l6 r))):=by
 refine bH kr Tryz.func123 U U fun F Q hQ hN=>?_
 try dsimp only
 refine WS fun _ B=>fm U fun E=>aY 1 U<|RK B<|WS fun _ A=>rP 4 [] (mc 0 U mn) ?_
 refine cv (t:=6) U (aQ fun C=>?_) (aP fun C=>?_)
 ·refine rP 11 [] mn ?_
  refine RK A<|an<|Q1 hQ U U U ?_
  simp only [l6]
  exact cB (bD I).symm
 refine rP 5 [] (mc 0 U mn) ?_
 refine cv (t:=11) U (aQ fun D=>?_) (aP fun D=>?_)
 ·refine rP 6 [] mn ?_
  refine RK A<|an<|Q1 hQ U U U ?_
  simp only [l6]
  exact cB (bD I).symm
 refine rP 6 [] (mc 0 U mn) ?_
 refine RK A<|an<|Q1 hQ U U U ?_
 simp only [l6]
 exact cB (decide_eq_decide.2 I)
theorem EL (s:ab):
 eA Tryz.prog 84 [(vA (ab.cells s))] [] (vB (decide (iG s))):=by
 refine bH kr Tryz.func84 U U fun F Q hQ hN=>?_
 try dsimp only
 refine WS fun _ B=>fm U fun E=>aY 1 U<|RK B<|WS fun _ A=>rP 4 [] (mc 0 U mn) ?_
 refine cv (t:=6) U (aQ fun C=>?_) (aP fun C=>?_)
 ·refine rP 12 [] mn ?_
  refine RK A<|an<|Q1 hQ U U U ?_
  simp only [iG]
  exact cB (bD I).symm
 refine rP 7 [] (mc 0 U mn) ?_
 refine cv (t:=13) U (aQ fun D=>?_) (aP fun D=>?_)
 ·refine rP 5 [] mn ?_
  refine RK A<|an<|Q1 hQ U U U ?_
  simp only [iG]
  exact cB (bD I).symm
 refine rP 5 [] (mc 0 U mn) ?_
 refine RK A<|an<|Q1 hQ U U U ?_
 simp only [iG]
 exact cB (decide_eq_decide.2 I)
theorem kM (la:List Int) (laA:OA) (laC:Nat) (lb:List Int) (lbA:OA) (lbC:Nat) (h1:la.length≤1000000) (h2:lb.length≤1000000):
 eA Tryz.prog 13 [(vS laA la.length laC),(vS lbA lb.length lbC)] [(rd laA la.length 1 (la.map iC)),(rd lbA lb.length 1 (lb.map iC))] (vB (decide (la=lb))):=by
 refine bH kr Tryz.func13 U U fun V Q hQ hN=>?_
 try dsimp only
 refine WS fun _ J=>aY 1 U<|RK J<|ai fun _ K=>WS fun _ L=>rP 5 [] mn ?_
 refine RK L<|cK U (bg fun hl=>?_) (bh fun hl=>?_)
 ·refine WS fun _ M=>rP 1 [] mn ?_
  refine RK M<|an<|Q1 hQ U U U ?_
  exact cB (bD (fun e=>by subst e; omega)).symm
 refine WK K<|ai fun _ N=>WS fun _ O=>rP 1 [] mn ?_
 refine RK O<|ar ?_
 have A:(0≤la.length)∧(la.take 0=lb.take 0):=by simp
 refine bx (ι:={z:Nat // (z≤la.length)∧(la.take z=lb.take z)}) [0,1] [0,1] U U (fun z=>[(5,(vI (z.1:Int)))]) (fun z=>[]) (fun _=>rfl) (fun _=>rfl) (fun z=>la.length-z.1) ⟨0,A⟩ (aN U) (aD [0,1]) ?_
 clear A
 rintro ⟨i,⟨S,B⟩⟩ J7 AB
 try dsimp only
 refine ai fun _ P=>WS fun _ R=>rP 4 [] mn ?_
 refine RK R<|bE U (aQ fun H=>?_) (aP fun H=>?_)
 ·refine bj<|aa<|aa<|au<|KK N<|WS fun _ F=>rP 1 [] mn ?_
  refine RK F<|an<|Q1 hQ U U U ?_
  exact cB (dh (cd I B I)).symm
 refine WK P<|ai fun _ C=>ar<|ai fun _ D=>cS cf 9 kr<|dP 2 [] mn ?_
 obtain ⟨x,hx⟩:=aG la i I
 have T:=bG iC hx
 refine dS (IA i U (ay 0 U) di dc I I)<|dS (fI i 0 (vI x) U bX (ay 0 U) T U dc U)<|dP 2 [] mn ?_
 obtain ⟨y,hy⟩:=aG lb i I
 have AA:=bG iC hy
 refine dS (IA i U (ay 1 U) di dc I I)<|dS (fI i 0 (vI y) U bX (ay 1 U) AA U dc U)<|dP 1 [] mn ?_
 refine cy<|RK D<|cK U (bg fun h=>?_) (bh fun h=>?_)
 ·refine WS fun _ E=>rP 1 [] mn ?_
  refine RK E<|an<|Q1 hQ U U U ?_
  exact cB (bD (iM hx hy h)).symm
 refine bM<|aB<|KK C<|ag<|rP 3 [] mn ?_
 refine ax ?_
 have G:(vI (((i+1):Nat):Int))=(vI ((i:Int)+1)):=by exact cI I
 refine aI (AB ⟨(i+1),⟨I,ic B hx hy h⟩⟩ _ _ _ U os (cO.cons U<|cO.cons U<|aO U G<|cO.nil _) (aD [0,1]))
end
section
open Go.RowKit
theorem oR (n lo hi:Int):
 eA Tryz.prog 117 [(vI n),(vI lo),(vI hi)] [] (vB (decide (lo≤n∧n≤hi))):=by
 refine bH kr Tryz.func117 U U fun D Q hQ hN=>?_
 try dsimp only
 refine WS fun _ B=>aY 1 U<|RK B<|WS fun _ A=>rP 4 [] mn ?_
 refine cE (t:=10) U (aP fun C=>?_) (aQ fun C=>?_)
 ·refine rP 5 [] mn ?_
  refine RK A<|an<|Q1 hQ U U U ?_
  exact cB (decide_eq_decide.2 I)
 refine rP 5 [] mn ?_
 refine RK A<|an<|Q1 hQ U U U ?_
 exact cB (bD I).symm
theorem pf (s:ab) (lo hi:Int):
 eA Tryz.prog 118 [(vA (ab.cells s)),(vI lo),(vI hi)] [] (vB (decide (s.Lo≤s.Hi∧lo≤s.Lo∧s.Hi≤hi))):=by
 refine bH kr Tryz.func118 U U fun E Q hQ hN=>?_
 try dsimp only
 refine WS fun _ B=>fm U fun D=>aY 1 U<|RK B<|WS fun _ A=>e7 5 [] (mc 0 U mn) U<|rS (CL (oR s.Lo lo s.Hi) (aS) U)<|rP 1 [] mn ?_
 refine cv (t:=13) U (aQ fun C=>?_) (aP fun C=>?_)
 ·refine rP 6 [] mn ?_
  refine RK A<|an<|Q1 hQ U U U ?_
  exact cB (bD I).symm
 refine rP 6 [] (mc 0 U mn) ?_
 refine RK A<|an<|Q1 hQ U U U ?_
 exact cB (decide_eq_decide.2 I)
theorem Mz (t:List al) (tA:OA) (tC:Nat):
 eA Tryz.prog 61 [(vA (bo.cells (bo.mk (bf.mk tA t.length tC))))] [(rd tA t.length 9 (t.map al.cells))] (vB (decide (20<(t.length:Int)))):=by
 refine bH kr Tryz.func61 U U fun D Q hQ hN=>?_
 try dsimp only
 refine WS fun _ A=>fm U fun C=>aY 1 U<|RK A<|WS fun _ B=>rP 5 [] (mc 0 U mn) ?_
 refine RK B<|an ?_
 exact Q1 hQ U U U U
theorem Ma (l:List Int) (lA:OA) (lC:Nat) (f:Value) (p:Int→Bool) (X:aw) (hf: ∀ x0,x0∈l→Dc Tryz.prog f [.int .i64 x0] [X] (.bool (p x0))) (hlen:l.length≤1000000):
 eA Tryz.prog 96 [(vS lA l.length lC),f] [(rd lA l.length 1 (l.map iC)),X] (vI (tx p l)):=by
 refine bH kr Tryz.func96 U U fun R Q hQ hN=>?_
 try dsimp only
 refine WS fun _ G=>aY 1 U<|RK G<|ai fun _ H=>WS fun _ AA=>rP 3 [] mn ?_
 refine RK AA<|ar ?_
 have B:(0≤l.length)∧((l.take 0).any p=false):=by simp
 refine bx (ι:={z:Nat // (z≤l.length)∧((l.take z).any p=false)}) [0,1,7] [0,1] U U (fun z=>[(8,(vI (z.1:Int)))]) (fun z=>[]) (fun _=>rfl) (fun _=>rfl) (fun z=>l.length-z.1) ⟨0,B⟩ (aN U) (aD [0,1]) ?_
 clear B
 rintro ⟨i,⟨N,A⟩⟩ J4 F
 try dsimp only
 refine WS fun _ J=>rP 1 [] mn ?_
 refine RK J<|ai fun _ K=>bE U (aQ fun P=>?_) (aP fun P=>?_)
 ·refine bj<|aa<|aa<|au<|KK H<|WS fun _ E=>rP 1 [] mn ?_
  refine RK E<|an<|Q1 hQ U U U ?_
  exact cI (sx I A).symm
 refine WK K<|ai fun _ L=>ar<|WS fun _ M=>aY 2 U<|RK M<|WS fun _ C=>rP 3 [] mn ?_
 obtain ⟨x,hx⟩:=aG l i I
 have O:=bG iC hx
 refine rS (IA i U (ay 0 U) di dc I I)<|rS (fI i 0 (vI x) U bX (ay 0 U) O U dc U)<|rS (SX (sk U U U (hf x (aR hx)) (aZ [1])) U U)<|RK C<|cK U (fun hp=>?_) (fun hp=>?_)
 ·refine WS fun _ D=>rP 2 [] mn ?_
  refine RK D<|an<|Q1 hQ U U U ?_
  exact cI (wu hx hp A).symm
 refine bM<|aB<|KK L<|ag<|rP 2 [] mn ?_
 refine ax ?_
 refine aI (F ⟨(i+1),⟨I,xH hx A hp⟩⟩ _ _ _ U os (aN U) (aD [0,1]))
theorem su (l:List Int) (lA:OA) (lC:Nat) (f:Value) (p:Int→Bool) (X:aw) (hf: ∀ x0,x0∈l→Dc Tryz.prog f [.int .i64 x0] [X] (.bool (p x0))) (hlen:l.length≤1000000):
 eA Tryz.prog 72 [(vS lA l.length lC),f] [(rd lA l.length 1 (l.map iC)),X] (vB (l.any p)):=by
 refine bH kr Tryz.func72 U U fun C Q hQ hN=>?_
 try dsimp only
 refine WS fun _ A=>aY 1 U<|RK A<|WS fun _ B=>aY 2 U<|rS (CL (Ma l lA lC f p X (by exact hf) hlen) (aZ [0,1]) U)<|rP 2 [] mn ?_
 refine RK B<|an<|Q1 hQ U U U ?_
 exact cB uk
theorem GL (n lo hi:Int) (g1 g2:Nat):
 eA Tryz.prog 152 [(vI n),(vP g1),(vP g2)] [(cq g1 3 [(vI lo)]),(cq g2 3 [(vI hi)])] (vB (decide (n<lo∨hi<n))):=by
 refine bH kr Tryz.func152 U U fun D Q hQ hN=>?_
 try dsimp only
 refine WS fun _ B=>aY 1 U<|RK B<|WS fun _ A=>rP 4 [] (mr 0 U mn) ?_
 refine cE (t:=8) U (aP fun C=>?_) (aQ fun C=>?_)
 ·refine rP 5 [] mn ?_
  refine RK A<|an<|Q1 hQ U U U ?_
  exact cB (dh I).symm
 refine rP 5 [] (mr 1 U mn) ?_
 refine RK A<|an<|Q1 hQ U U U ?_
 exact cB (decide_eq_decide.2 I)
theorem oQ (lo hi:Int) (l:List Int) (lA:OA) (lC:Nat) (hlen:l.length≤1000000):
 eA Tryz.prog 125 [(vI lo),(vI hi),(vS lA l.length lC)] [(rd lA l.length 1 (l.map iC))] (vB (p9 lo hi l)):=by
 refine bH kr Tryz.func125 U U fun F Q hQ hN=>?_
 try dsimp only
 refine WS fun _ D=>ux U U fun A=>ux U U fun B=>aY 1 U<|RK D<|WS fun _ E=>rP 1 [] mn ?_
 refine rS (FU U) ?_
 refine rS (CL (su l lA lC (Value.func (.func 152) [].toArray [(vP A),(vP B)].toArray) (fun C=>(decide (C<lo∨hi<C))) (eH [(cq A 3 [(vI lo)]),(cq B 3 [(vI hi)])]) (by intro C _; exact ov (fi:=[]) (ca:=[(vP A),(vP B)]) (mO (GL C lo hi A B) (aZ [0,1]))) hlen) (fG 2 U U<|aC (mH (aZ [1,0]))<|aS) U) ?_
 refine rP 2 [] mn ?_
 refine RK E<|an ?_
 exact Q1 hQ U U U U
theorem vJ (s:ab) (lo hi:Int):
 eA Tryz.prog 126 [(vA (ab.cells s)),(vI lo),(vI hi)] [] (vB (decide (s.Lo≤s.Hi∧lo≤s.Lo∧s.Hi≤hi))):=by
 refine bH kr Tryz.func126 U U fun F Q hQ hN=>?_
 try dsimp only
 refine WS fun _ B=>fm U fun E=>aY 1 U<|RK B<|WS fun _ A=>rP 6 [] (mc 0 U mn) ?_
 refine eX (xs:=[.tmp 10,.tmp 12]) (cs:=[(vI s.Lo),(vI s.Hi)]) U di lh U U U U (by simp [Value.cells]) U U fun C=>?_
 refine rS (CL (eA.eq (oQ lo hi ([s.Lo,s.Hi]) (some ⟨C,0,none⟩) 2 (by (simp; done))) ug) (aC (a_ 0 U U (by simp [bU]) U)<|aS) U) ?_
 refine rP 1 [] mn ?_
 refine cv (t:=15) U (aQ fun D=>?_) (aP fun D=>?_)
 ·refine rP 7 [] mn ?_
  refine RK A<|an<|Q1 hQ U U U ?_
  exact cB (bD I).symm
 refine rP 7 [] (mc 1 U mn) ?_
 refine RK A<|an<|Q1 hQ U U U ?_
 exact cB (decide_eq_decide.2 I)
theorem vC (ts:List al) (tsA:OA) (tsC:Nat) (hlen:ts.length≤1000000):
 eA Tryz.prog 89 [(vA (bo.cells (bo.mk (bf.mk tsA ts.length tsC))))] [(rd tsA ts.length 9 (ts.map al.cells))] (vB (cV ts)):=by
 refine bH kr Tryz.func89 U U fun w0 Q hQ hN=>?_
 try dsimp only
 refine WS fun _ Ac=>fm U fun b2=>aY 1 U<|RK Ac<|ai fun _ Ad=>WS fun _ Ae=>e7 3 [] (mc 0 U mn) U<|rS (CL (oR (ts.length:Int) 1 12) (aS) U)<|rP 1 [] mn ?_
 refine RK Ae<|cK U (bg fun h5=>?_) (bh fun h5=>?_)
 ·refine WS fun _ Af=>rP 1 [] mn ?_
  refine RK Af<|an<|Q1 hQ U U U ?_
  exact cB (nW I).symm
 refine WK Ad<|ai fun _ Ag=>WS fun _ Ah=>rP 1 [] mn ?_
 refine RK Ah<|ar ?_
 have E:(0≤ts.length)∧(eC (-1) ts=eC (fR ts 0) (ts.drop 0))∧(-1≤fR ts 0):=by (refine ⟨I,rfl,by simp [fR]⟩)
 refine bx (ι:={z:Nat // (z≤ts.length)∧(eC (-1) ts=eC (fR ts z) (ts.drop z))∧(-1≤fR ts z)}) [1] [0,1] U U (fun z=>[(3,(vI (z.1:Int)))]) (fun z=>[]) (fun _=>rfl) (fun _=>rfl) (fun z=>ts.length-z.1) ⟨0,E⟩ (aN U) (aD [0,1]) ?_
 clear E
 rintro ⟨i,⟨Ai,A,Aj⟩⟩ J9 D
 try dsimp only
 have hz:i=0→fR ts i= -1:=AY
 refine ai fun _ K=>WS fun _ L=>rP 5 [] (mc 0 U mn) ?_
 refine RK L<|bE U (aQ fun AA=>?_) (aP fun AA=>?_)
 ·refine bj<|aa<|aa<|au<|KK Ag<|WS fun _ w=>rP 1 [] mn ?_
  refine RK w<|an<|Q1 hQ U U U ?_
  exact cB (uU A I I).symm
 refine WK K<|ai fun _ C=>ar<|WS fun _ M=>rP 3 [] (mc 0 U mn) ?_
 obtain ⟨x,hx⟩:=aG ts i I
 have Ak:=bG al.cells hx
 refine rS (IA i U (ay 1 U) vf dc I I)<|rS (l4 i 0 (al.cells x) U bX (ay 1 U) Ak U dc U U)<|AL U JP fun Am=>fq U JJ U<|RK M<|ai fun _ F=>ai fun _ B=>cS cf 38 kr<|l0 2 [] (mc 0 U mn) U<|dS (CL (oR x.Id 0 9999) (aS) U)<|dP 2 [] mn ?_
 refine iO (t:=26) U (bg fun AB=>?_) (bh fun AB=>?_)
 ·refine lq 11 U<|lq 22 U<|cy<|RK B<|aL U<|WS fun _ N=>rP 1 [] mn ?_
  refine RK N<|an<|Q1 hQ U U U ?_
  exact cB (dF A hx (by simp only [bJ,dJ]; omega)).symm
 refine dP 3 [] mn ?_
 refine j2 (t:=29) U (aQ fun AC=>?_) (aP fun AC=>?_)
 ·refine lq 8 U<|lq 6 U<|dS (LP (ab.cells x.jn) 0 U bX U U U)<|dS (CL (pf x.jn 1 30000) (aS) U)<|dP 3 [] mn ?_
  refine iO (t:=48) U (bg fun AQ=>?_) (bh fun AQ=>?_)
  ·refine lq 11 U<|cy<|RK B<|aL U<|WS fun _ e=>rP 1 [] mn ?_
   refine RK e<|an<|Q1 hQ U U U ?_
   exact cB (dF A hx (by simp only [bJ,dJ]; omega)).symm
  refine lq 1 U<|dS (LP (ab.cells x.j_) 0 U bX U U U)<|dS (CL (pf x.j_ 0 5000) (aS) U)<|dP 3 [] mn ?_
  refine iO (t:=54) U (bg fun AR=>?_) (bh fun AR=>?_)
  ·refine lq 5 U<|cy<|RK B<|aL U<|WS fun _ f=>rP 1 [] mn ?_
   refine RK f<|an<|Q1 hQ U U U ?_
   exact cB (dF A hx (by simp only [bJ,dJ]; omega)).symm
  refine l0 2 [] (mc 0 U mn) U<|dS (CL (oR x.wF 0 5000) (aS) U)<|dP 2 [] mn ?_
  refine cy<|RK B<|cK U (bg fun AS=>?_) (bh fun AS=>?_)
  ·refine WS fun _ g=>rP 1 [] mn ?_
   refine RK g<|an<|Q1 hQ U U U ?_
   exact cB (dF A hx (by simp only [bJ,dJ]; omega)).symm
  refine WK F<|WS fun _ j=>e7 2 [] (mc 0 U mn) U<|RK j<|ar<|WS fun _ k=>rS (BI U qp)<|rP 1 [] mn ?_
  refine RK k<|cK U (aP fun AT=>?_) (aQ fun AT=>?_)
  ·refine WS fun _ Ap=>rP 5 [] (mc 0 U mn) ?_
   refine cE (t:=68) U (bg fun AU=>?_) (bh fun AU=>?_)
   ·refine aY 5 U<|RK Ap<|aL U<|WS fun _ l=>rP 1 [] mn ?_
    refine RK l<|an<|Q1 hQ U U U ?_
    exact cB (dF A hx (by simp only [bJ,dJ]; omega)).symm
   refine rP 5 [] (mc 0 U mn) ?_
   refine RK Ap<|bE U (bh fun AV=>?_) (bg fun AV=>?_)
   ·refine bM<|aB<|aB<|KK C<|ag<|rP 3 [] mn ?_
    refine ax ?_
    refine aI (D ⟨(i+1),⟨I,gM A hx (by simp only [bJ,dJ]; omega),by rw [fP hx]; omega⟩⟩ _ _ _ U os (aN U) (aD [1,2]))
   refine WS fun _ m=>rP 1 [] mn ?_
   refine RK m<|an<|Q1 hQ U U U ?_
   exact cB (dF A hx (by simp only [bJ,dJ]; omega)).symm
  refine ai fun _ J=>WS fun _ o=>rS (BI U qp)<|rP 1 [] mn ?_
  refine RK o<|cK U (aP fun AW=>?_) (aQ fun AW=>?_)
  ·refine WK J<|bE U (aQ fun AX=>?_) (aP fun AX=>?_)
   ·refine WS fun _ r=>rP 1 [] mn ?_
    refine RK r<|an<|Q1 hQ U U U ?_
    exact cB (nW I).symm
   refine WS fun _ p=>aY 1 U<|rS (LP (ab.cells x.dC) 0 U bX U U U)<|rS (CL (pf x.dC 500 20000) (aS) U)<|rP 1 [] mn ?_
   refine RK p<|bE U (bh fun AZ=>?_) (bg fun AZ=>?_)
   ·refine bM<|aB<|aB<|KK C<|ag<|rP 3 [] mn ?_
    refine ax ?_
    refine aI (D ⟨(i+1),⟨I,gM A hx (by simp only [bJ,dJ]; omega),by rw [fP hx]; omega⟩⟩ _ _ _ U os (aN U) (aD [1,2]))
   refine WS fun _ q=>rP 1 [] mn ?_
   refine RK q<|an<|Q1 hQ U U U ?_
   exact cB (dF A hx (by simp only [bJ,dJ]; omega)).symm
  refine ag<|rS (BI U qp)<|rP 1 [] mn ?_
  refine RK J<|bE U (aQ fun Aa=>?_) (aP fun Aa=>?_)
  ·refine WS fun _ v=>rP 1 [] mn ?_
   refine RK v<|an<|Q1 hQ U U U ?_
   exact cB (dF A hx (by simp only [bJ,dJ]; omega)).symm
  refine WS fun _ s=>aY 1 U<|rS (LP (ab.cells x.dC) 0 U bX U U U)<|rS (CL (pf x.dC 500 20000) (aS) U)<|rP 1 [] mn ?_
  refine RK s<|bE U (bh fun Ab=>?_) (bg fun Ab=>?_)
  ·refine bM<|aB<|aB<|KK C<|ag<|rP 3 [] mn ?_
   refine ax ?_
   refine aI (D ⟨(i+1),⟨I,gM A hx (by simp only [bJ,dJ]; omega),by rw [fP hx]; omega⟩⟩ _ _ _ U os (aN U) (aD [1,2]))
  refine WS fun _ u=>rP 1 [] mn ?_
  refine RK u<|an<|Q1 hQ U U U ?_
  exact cB (dF A hx (by simp only [bJ,dJ]; omega)).symm
 refine dP 6 [0,1] (mc 0 U (mc 1 U mn)) ?_
 obtain ⟨y,hy⟩:=aG ts (i-1) I
 have Al:=bG al.cells hy
 refine dS (IA (i-1) U (ay 2 U) vf dc I I)<|dS (nP ((i-1)*9) U (ay 2 U) (Nat.mul_pos I dc) e_ U) ?_
 have Ao:=Eg I hy
 refine dS (fI (i-1) 0 (vI y.Id) U bX (ay 2 U) Al U dc U)<|dP 4 [] mn ?_
 refine iO (t:=42) U (aP fun AD=>?_) (aQ fun AD=>?_)
 ·refine lq 17 U<|cy<|RK B<|aL U<|WS fun _ O=>rP 1 [] mn ?_
  refine RK O<|an<|Q1 hQ U U U ?_
  exact cB (dF A hx (by simp only [bJ,dJ]; omega)).symm
 refine lq 1 U<|dS (LP (ab.cells x.jn) 0 U bX U U U)<|dS (CL (pf x.jn 1 30000) (aS) U)<|dP 3 [] mn ?_
 refine iO (t:=48) U (bg fun AE=>?_) (bh fun AE=>?_)
 ·refine lq 11 U<|cy<|RK B<|aL U<|WS fun _ P=>rP 1 [] mn ?_
  refine RK P<|an<|Q1 hQ U U U ?_
  exact cB (dF A hx (by simp only [bJ,dJ]; omega)).symm
 refine lq 1 U<|dS (LP (ab.cells x.j_) 0 U bX U U U)<|dS (CL (pf x.j_ 0 5000) (aS) U)<|dP 3 [] mn ?_
 refine iO (t:=54) U (bg fun AF=>?_) (bh fun AF=>?_)
 ·refine lq 5 U<|cy<|RK B<|aL U<|WS fun _ R=>rP 1 [] mn ?_
  refine RK R<|an<|Q1 hQ U U U ?_
  exact cB (dF A hx (by simp only [bJ,dJ]; omega)).symm
 refine l0 2 [] (mc 0 U mn) U<|dS (CL (oR x.wF 0 5000) (aS) U)<|dP 2 [] mn ?_
 refine cy<|RK B<|cK U (bg fun AG=>?_) (bh fun AG=>?_)
 ·refine WS fun _ S=>rP 1 [] mn ?_
  refine RK S<|an<|Q1 hQ U U U ?_
  exact cB (dF A hx (by simp only [bJ,dJ]; omega)).symm
 refine WK F<|WS fun _ T=>e7 2 [] (mc 0 U mn) U<|RK T<|ar<|WS fun _ An=>rS (BI U qp)<|rP 1 [] mn ?_
 refine RK An<|cK U (aP fun AH=>?_) (aQ fun AH=>?_)
 ·refine WS fun _ G=>rP 5 [] (mc 0 U mn) ?_
  refine cE (t:=68) U (bg fun AI=>?_) (bh fun AI=>?_)
  ·refine aY 5 U<|RK G<|aL U<|WS fun _ V=>rP 1 [] mn ?_
   refine RK V<|an<|Q1 hQ U U U ?_
   exact cB (dF A hx (by simp only [bJ,dJ]; omega)).symm
  refine rP 5 [] (mc 0 U mn) ?_
  refine RK G<|bE U (bh fun AJ=>?_) (bg fun AJ=>?_)
  ·refine bM<|aB<|aB<|KK C<|ag<|rP 3 [] mn ?_
   refine ax ?_
   refine aI (D ⟨(i+1),⟨I,gM A hx (by simp only [bJ,dJ]; omega),by rw [fP hx]; omega⟩⟩ _ _ _ U os (aN U) (aD [1,2]))
  refine WS fun _ W=>rP 1 [] mn ?_
  refine RK W<|an<|Q1 hQ U U U ?_
  exact cB (dF A hx (by simp only [bJ,dJ]; omega)).symm
 refine ai fun _ H=>WS fun _ X=>rS (BI U qp)<|rP 1 [] mn ?_
 refine RK X<|cK U (aP fun AK=>?_) (aQ fun AK=>?_)
 ·refine WK H<|bE U (aQ fun AM=>?_) (aP fun AM=>?_)
  ·refine WS fun _ a=>rP 1 [] mn ?_
   refine RK a<|an<|Q1 hQ U U U ?_
   exact cB (nW I).symm
  refine WS fun _ Y=>aY 1 U<|rS (LP (ab.cells x.dC) 0 U bX U U U)<|rS (CL (pf x.dC 500 20000) (aS) U)<|rP 1 [] mn ?_
  refine RK Y<|bE U (bh fun AN=>?_) (bg fun AN=>?_)
  ·refine bM<|aB<|aB<|KK C<|ag<|rP 3 [] mn ?_
   refine ax ?_
   refine aI (D ⟨(i+1),⟨I,gM A hx (by simp only [bJ,dJ]; omega),by rw [fP hx]; omega⟩⟩ _ _ _ U os (aN U) (aD [1,2]))
  refine WS fun _ Z=>rP 1 [] mn ?_
  refine RK Z<|an<|Q1 hQ U U U ?_
  exact cB (dF A hx (by simp only [bJ,dJ]; omega)).symm
 refine ag<|rS (BI U qp)<|rP 1 [] mn ?_
 refine RK H<|bE U (aQ fun AO=>?_) (aP fun AO=>?_)
 ·refine WS fun _ d=>rP 1 [] mn ?_
  refine RK d<|an<|Q1 hQ U U U ?_
  exact cB (dF A hx (by simp only [bJ,dJ]; omega)).symm
 refine WS fun _ b=>aY 1 U<|rS (LP (ab.cells x.dC) 0 U bX U U U)<|rS (CL (pf x.dC 500 20000) (aS) U)<|rP 1 [] mn ?_
 refine RK b<|bE U (bh fun AP=>?_) (bg fun AP=>?_)
 ·refine bM<|aB<|aB<|KK C<|ag<|rP 3 [] mn ?_
  refine ax ?_
  refine aI (D ⟨(i+1),⟨I,gM A hx (by simp only [bJ,dJ]; omega),by rw [fP hx]; omega⟩⟩ _ _ _ U os (aN U) (aD [1,2]))
 refine WS fun _ c=>rP 1 [] mn ?_
 refine RK c<|an<|Q1 hQ U U U ?_
 exact cB (dF A hx (by simp only [bJ,dJ]; omega)).symm
theorem As (ts:List al) (tsA:OA) (tsC:Nat) (hlen:ts.length≤1000000) (hside: ∀ x∈ts,0≤x.iv∧x.iv≤255):
 eA Tryz.prog 92 [(vA (bo.cells (bo.mk (bf.mk tsA ts.length tsC))))] [(rd tsA ts.length 9 (ts.map al.cells))] (vI (if cV ts=true then 0 else 10)):=by
 refine bH kr Tryz.func92 U U fun w0 Q hQ hN=>?_
 try dsimp only
 refine WS fun _ y=>fm U fun b2=>aY 1 U<|RK y<|EU U<|ai fun _ AA=>WS fun _ AB=>rP 3 [] (mc 0 U mn) ?_
 refine eX (xs:=[.tmp 11]) (cs:=[(vI (ts.length:Int))]) U di lh U U U U (by simp [Value.cells]) U U fun b5=>?_
 refine rS (CL (eA.eq (oQ 1 12 ([(ts.length:Int)]) (some ⟨b5,0,none⟩) 1 (by (simp; done))) dj) (aC (a_ 0 U U (by simp [bU]) U)<|aS) U) ?_
 refine rP 1 [] mn ?_
 refine RK AB<|cK U (bg fun h6=>?_) (bh fun h6=>?_)
 ·refine WS fun _ AC=>rP 1 [] mn ?_
  refine RK AC<|an<|Q1 hQ U U U ?_
  exact cI (if_neg (by rw [nW I]; decide)).symm
 refine WK AA<|WS fun _ AD=>aY 1 U<|RK AD<|WS fun _ AE=>aY 1 U<|RK AE<|ai fun _ J=>Fx<|KK J<|ai fun _ B=>WS fun _ K=>rP 4 [] (mc 1 U mn) ?_
 refine RK K<|ar ?_
 have D:(0≤ts.length)∧(eC (-1) ts=eC (fR ts 0) (ts.drop 0))∧(-1≤fR ts 0)∧(fR ts 0≤9999):=by (refine ⟨I,rfl,by simp [fR],by simp [fR]⟩)
 refine bx (ι:={z:Nat // (z≤ts.length)∧(eC (-1) ts=eC (fR ts z) (ts.drop z))∧(-1≤fR ts z)∧(fR ts z≤9999)}) [1,4,16,17] [1,2] U U (fun z=>[(3,(vI (fR ts z.1))),(18,(vI (z.1:Int)))]) (fun z=>[]) (fun _=>rfl) (fun _=>rfl) (fun z=>ts.length-z.1) ⟨0,D⟩ (aN U) (aD [1,2]) ?_
 clear D
 rintro ⟨i,⟨AF,A,AG,AH⟩⟩ J13 E
 try dsimp only
 refine WS fun _ L=>rP 1 [] mn ?_
 refine RK L<|ai fun _ M=>bE U (aQ fun l=>?_) (aP fun l=>?_)
 ·refine bj<|aa<|aa<|au<|KK B<|WS fun _ O=>rP 2 [] mn ?_
  refine RK O<|an<|Q1 hQ U U U ?_
  exact cI (if_pos (uU A I I)).symm
 refine WK M<|ai fun _ F=>ar<|WS fun _ N=>?_
 obtain ⟨x,hx⟩:=aG ts i I
 have AI:=bG al.cells hx
 refine rS (IA i U (ay 1 U) vf dc I I) ?_
 have AN:=hside x (aR hx)
 refine rS (l4 i 0 (al.cells x) U bX (ay 1 U) AI U dc U U)<|AL U JP fun AJ=>fq U JJ U<|RK N ?_
 refine nV (ι:=Unit) [1,3,4,6,16,17,18] [0,1,2] U U (fun z=>[(7,(vB (decide (x.iv=0∧x.dC.Lo=0∧x.dC.Hi=0))))]) (fun z=>[]) (fun _=>rfl) (fun _=>rfl) ?_ fun K20 G=>?_
 ·intro _
  try dsimp only
  refine nV (ι:=Unit) [1,3,4,6,7,16,17,18] [0,1,2] U U (fun z=>[(8,(vB (decide ((1≤x.iv∧x.iv≤2)∧x.dC.Lo≤x.dC.Hi∧500≤x.dC.Lo∧x.dC.Hi≤20000))))]) (fun z=>[]) (fun _=>rfl) (fun _=>rfl) ?_ fun K21 H=>?_
  ·intro _
   try dsimp only
   refine ai fun _ AM=>WS fun _ C=>rP 4 [] (mc 0 U mn) ?_
   refine eX (xs:=[.tmp 44]) (cs:=[(vI x.Id)]) U di lh U U U U (by simp [Value.cells]) U U fun j=>?_
   refine rS (CL (eA.eq (oQ ((fR ts i)+1) 9999 ([x.Id]) (some ⟨j,0,none⟩) 1 (by (simp; done))) dj) (aC (a_ 0 U U (by simp [bU]) U)<|aS) U) ?_
   refine rP 2 [] mn ?_
   refine cE (t:=48) U (bg fun q=>?_) (bh fun q=>?_)
   ·refine aY 26 U<|RK C<|aL U<|WS fun _ P=>aY 1 U<|RK P<|bj<|aa<|im U<|aa<|aa<|au<|KK B<|WS fun _ R=>rP 2 [] mn ?_
    refine RK R<|an<|Q1 hQ U U U ?_
    exact cI (if_neg (by rw [dF A hx (by simp only [bJ,dJ]; omega)]; decide)).symm
   refine aY 1 U<|rS (LP (ab.cells x.jn) 1 U bX U U U)<|rS (CL (vJ x.jn 1 30000) (aS) U)<|rP 3 [] mn ?_
   refine cE (t:=54) U (bg fun r=>?_) (bh fun r=>?_)
   ·refine aY 20 U<|RK C<|aL U<|WS fun _ S=>aY 1 U<|RK S<|bj<|aa<|im U<|aa<|aa<|au<|KK B<|WS fun _ T=>rP 2 [] mn ?_
    refine RK T<|an<|Q1 hQ U U U ?_
    exact cI (if_neg (by rw [dF A hx (by simp only [bJ,dJ]; omega)]; decide)).symm
   refine aY 1 U<|rS (LP (ab.cells x.j_) 1 U bX U U U)<|rS (CL (vJ x.j_ 0 5000) (aS) U)<|rP 3 [] mn ?_
   refine cE (t:=60) U (bg fun s=>?_) (bh fun s=>?_)
   ·refine aY 14 U<|RK C<|aL U<|WS fun _ AK=>aY 1 U<|RK AK<|bj<|aa<|im U<|aa<|aa<|au<|KK B<|WS fun _ V=>rP 2 [] mn ?_
    refine RK V<|an<|Q1 hQ U U U ?_
    exact cI (if_neg (by rw [dF A hx (by simp only [bJ,dJ]; omega)]; decide)).symm
   refine rP 2 [] (mc 1 U mn) ?_
   refine eX (xs:=[.tmp 62]) (cs:=[(vI x.wF)]) U di lh U U U U (by simp [Value.cells]) U U fun k=>?_
   refine rS (CL (eA.eq (oQ 0 5000 ([x.wF]) (some ⟨k,0,none⟩) 1 (by (simp; done))) dj) (aC (a_ 0 U U (by simp [bU]) U)<|aS) U) ?_
   refine rP 3 [] mn ?_
   refine cE (t:=67) U (bg fun u=>?_) (bh fun u=>?_)
   ·refine aY 7 U<|RK C<|aL U<|WS fun _ W=>aY 1 U<|RK W<|bj<|aa<|im U<|aa<|aa<|au<|KK B<|WS fun _ X=>rP 2 [] mn ?_
    refine RK X<|an<|Q1 hQ U U U ?_
    exact cI (if_neg (by rw [dF A hx (by simp only [bJ,dJ]; omega)]; decide)).symm
   refine rP 3 [] mn ?_
   refine cv (t:=70) U (bh fun v=>?_) (bg fun v=>?_)
   ·refine aY 4 U<|RK C<|aX U<|WK AM<|ag<|e7 3 [] (mc 2 U mn) U<|ax<|aB<|KK F<|ag<|rP 2 [] mn ?_
    refine ax ?_
    have f:(vI (fR ts (i+1)))=(vI x.Id):=by rw [fP hx]
    refine aI (E ⟨(i+1),⟨I,gM A hx (by simp only [bJ,dJ]; omega),by rw [fP hx]; omega,by rw [fP hx]; omega⟩⟩ _ _ _ U os (bY 4<|aO U f<|aN U) (aD [3,4]))
   refine rP 4 [] mn ?_
   refine RK C<|bE U (bh fun w=>?_) (bg fun w=>?_)
   ·refine WK AM<|ag<|e7 3 [] (mc 2 U mn) U<|ax<|aB<|KK F<|ag<|rP 2 [] mn ?_
    refine ax ?_
    have e:(vI (fR ts (i+1)))=(vI x.Id):=by rw [fP hx]
    refine aI (E ⟨(i+1),⟨I,gM A hx (by simp only [bJ,dJ]; omega),by rw [fP hx]; omega,by rw [fP hx]; omega⟩⟩ _ _ _ U os (bY 4<|aO U e<|aN U) (aD [3,4]))
   refine WS fun _ Y=>aY 1 U<|RK Y<|bj<|aa<|im U<|aa<|aa<|au<|KK B<|WS fun _ Z=>rP 2 [] mn ?_
   refine RK Z<|an<|Q1 hQ U U U ?_
   exact cI (if_neg (by rw [dF A hx (by simp only [bJ,dJ]; omega)]; decide)).symm
  refine ag<|rP 2 [] (mc 0 U mn) ?_
  refine rS (SX (vx (m:=x.iv) U U Rj mF (uR (by first|assumption|omega))) U U)<|eX (xs:=[.tmp 33]) (cs:=[(vI x.iv)]) U di lh U U U U (by simp [Value.cells]) U U fun g=>?_
  refine rS (CL (eA.eq (oQ 1 2 ([x.iv]) (some ⟨g,0,none⟩) 1 (by (simp; done))) dj) (aC (a_ 0 U U (by simp [bU]) U)<|aS) U) ?_
  refine rP 1 [] mn ?_
  refine cv (t:=36) U (aQ fun p=>?_) (aP fun p=>?_)
  ·refine rP 5 [] mn ?_
   refine ax ?_
   have d:(decide ((1≤x.iv∧x.iv≤2)∧x.dC.Lo≤x.dC.Hi∧500≤x.dC.Lo∧x.dC.Hi≤20000))=false:=bD I
   refine aI (jF (bY 8<|m8 U d<|cO.nil _) (aD [1,2,3]) (H ()))
  refine aY 1 U<|rS (LP (ab.cells x.dC) 1 U bX U U U)<|rS (CL (vJ x.dC 500 20000) (aS) U)<|rP 2 [] mn ?_
  refine ax ?_
  have c:(decide ((1≤x.iv∧x.iv≤2)∧x.dC.Lo≤x.dC.Hi∧500≤x.dC.Lo∧x.dC.Hi≤20000))=(decide (x.dC.Lo≤x.dC.Hi∧500≤x.dC.Lo∧x.dC.Hi≤20000)):=decide_eq_decide.2 I
  refine aI (jF (bY 8<|m8 U c<|cO.nil _) (aD [1,2,3]) (H ()))
 refine ag<|e7 2 [] (mc 0 U mn) U<|rS (BI U qp)<|rP 1 [] mn ?_
 refine cv (t:=25) U (aQ fun o=>?_) (aP fun o=>?_)
 ·refine rP 6 [] mn ?_
  refine ax ?_
  have b:(decide (x.iv=0∧x.dC.Lo=0∧x.dC.Hi=0))=false:=bD I
  refine aI (jF (bY 7<|m8 U b<|cO.nil _) (aD [0,1,2]) (G ()))
 refine aY 1 U<|rS (LP (ab.cells x.dC) 0 U bX U U U)<|rS (SX (bq (xs:=[]) (cs:=(ab.cells (ab.mk 0 0))) U U (br gK U)) U U)<|rS (BI U (xh _ _ x.dC (ab.mk 0 0)))<|rP 2 [] mn ?_
 refine ax ?_
 have a:(decide (x.iv=0∧x.dC.Lo=0∧x.dC.Hi=0))=(decide (x.dC=(ab.mk 0 0))):=decide_eq_decide.2 (by (simp only [ab.ext_iff] at *; omega))
 refine aI (jF (bY 7<|m8 U a<|cO.nil _) (aD [0,1,2]) (G ()))
theorem OD (ts:List al) (tsA:OA) (tsC:Nat) (hlen:ts.length≤1000000):
 lg Tryz.prog 69 [(vA (bo.cells (bo.mk (bf.mk tsA ts.length tsC))))] [(rd tsA ts.length 9 (ts.map al.cells))] (fun (x:(OA)×Nat)=>(vA (bo.cells (bo.mk (bf.mk x.1 ts.length x.2))))) (fun (x:(OA)×Nat)=>True) (fun (x:(OA)×Nat)=>[(own x.1 x.2 163 9 (ts.map al.cells))]):=by
 refine db kr Tryz.func69 U U fun H Q hQ hN=>?_
 try dsimp only
 refine WS fun _ A=>fm U fun F=>AL U TR fun G=>RK A<|WS fun _ B=>kN U vf U fun E=>rP 2 [] (mc 2 U mn) ?_
 refine eK (es:=(List.map al.cells [])) (C':=[own (some ⟨E,0,none⟩) 0 163 9 (List.map al.cells []),_,_,_]) 0 U sm U (by simp [maxLen]) U ?_
 refine cp (es2:=(List.map al.cells ts)) (m':=ts.length) 0 U U U P3 U U sm (ay 3 U) (nI _) os (by first|(simp only [maxLen]; omega)|(simp [maxLen]; omega)) sm sm U fun C D=>?_
 try dsimp only
 refine rS (SX (bq (xs:=[(0,.tmp 6)]) (cs:=(bo.cells (bo.mk (bf.mk C ts.length D)))) U U (br SO U)) U U)<|sK U Qe U<|RK B<|an<|LX hQ (C,D) [0] [0] (mc 1 U mn) U U U U ?_
 trivial
theorem Ob (la:List al) (laA:OA) (laC:Nat) (lb:List al) (lbA:OA) (lbC:Nat) (h1:la.length≤1000000) (h2:lb.length≤1000000):
 eA Tryz.prog 76 [(vA (bo.cells (bo.mk (bf.mk laA la.length laC)))),(vA (bo.cells (bo.mk (bf.mk lbA lb.length lbC))))] [(rd laA la.length 9 (la.map al.cells)),(rd lbA lb.length 9 (lb.map al.cells))] (vB (decide (la=lb))):=by
 refine bH kr Tryz.func76 U U fun X Q hQ hN=>?_
 try dsimp only
 refine WS fun _ L=>fm U fun V=>fm U fun W=>aY 1 U<|RK L<|ai fun _ M=>WS fun _ N=>rP 7 [0,1] (mc 1 U (mc 0 U mn)) ?_
 refine RK N<|cK U (bg fun hl=>?_) (bh fun hl=>?_)
 ·refine WS fun _ O=>rP 1 [] mn ?_
  refine RK O<|an<|Q1 hQ U U U ?_
  first|exact cB (bD (iM hx hy h)).symm|exact cB (dh (cd I A I)).symm|exact cB (bD (fun e=>by subst e; omega)).symm
 refine WK M<|ai fun _ P=>WS fun _ R=>rP 1 [] mn ?_
 refine RK R<|ar ?_
 have B:(0≤la.length)∧(la.take 0=lb.take 0):=by simp
 refine bx (ι:={z:Nat // (z≤la.length)∧(la.take z=lb.take z)}) [2,3] [0,1,2,3] U U (fun z=>[(5,(vI (z.1:Int)))]) (fun z=>[]) (fun _=>rfl) (fun _=>rfl) (fun z=>la.length-z.1) ⟨0,B⟩ (aN U) (aD [0,1,2,3]) ?_
 clear B
 rintro ⟨i,⟨S,A⟩⟩ J9 K
 try dsimp only
 refine ai fun _ C=>WS fun _ D=>rP 5 [] (mc 1 U mn) ?_
 refine RK D<|bE U (aQ fun J=>?_) (aP fun J=>?_)
 ·refine bj<|aa<|aa<|au<|KK P<|WS fun _ H=>rP 1 [] mn ?_
  refine RK H<|an<|Q1 hQ U U U ?_
  first|exact cB (bD (iM hx hy h)).symm|exact cB (dh (cd I A I)).symm|exact cB (bD (fun e=>by subst e; omega)).symm
 refine WK C<|ai fun _ E=>ar<|ai fun _ F=>cS cf 11 kr<|dP 3 [] (mc 1 U mn) ?_
 obtain ⟨x,hx⟩:=aG la i I
 have T:=bG al.cells hx
 refine dS (IA i U (ay 2 U) vf dc I I)<|dS (l4 i 0 (al.cells x) U bX (ay 2 U) T U dc U U)<|dP 3 [] (mc 0 U mn) ?_
 obtain ⟨y,hy⟩:=aG lb i I
 have AA:=bG al.cells hy
 refine dS (IA i U (ay 3 U) vf dc I I)<|dS (l4 i 0 (al.cells y) U bX (ay 3 U) AA U dc U U)<|dS (BI U (Pn _ _ x y))<|cy<|RK F<|cK U (bg fun h=>?_) (bh fun h=>?_)
 ·refine WS fun _ G=>rP 1 [] mn ?_
  refine RK G<|an<|Q1 hQ U U U ?_
  first|exact cB (bD (iM hx hy h)).symm|exact cB (dh (cd I A I)).symm|exact cB (bD (fun e=>by subst e; omega)).symm
 refine bM<|aB<|KK E<|ag<|rP 3 [] mn ?_
 refine ax ?_
 have AB:(vI (((i+1):Nat):Int))=(vI ((i:Int)+1)):=by exact cI I
 refine aI (K ⟨(i+1),⟨I,ic A hx hy h⟩⟩ _ _ _ U os (cO.cons U<|cO.cons U<|aO U AB<|cO.nil _) (aD [0,1,2,3]))
end
section
open Go.RowKit
theorem o9 (a:ab) (l:List ab) (lA:OA) (lC:Nat) (ha:lj a) (hl: ∀ z∈l,lj z) (hlen:l.length≤4):
 eA Tryz.prog 160 [(vA (ab.cells a)),(vS lA l.length lC)] [(rd lA l.length 2 (l.map ab.cells))] (vA (ab.cells (ki a l))):=by
 refine bH kr Tryz.func160 U U fun AA Q hQ hN=>?_
 try dsimp only
 refine WS fun _ AB=>fm U fun R=>AL U dk fun T=>RK AB<|ai fun _ J=>WS fun _ K=>rP 3 [] mn ?_
 refine RK K<|ar ?_
 have A:(0≤l.length):=by exact Nat.zero_le _
 refine bx (ι:={z:Nat // (z≤l.length)}) [2,4,7,8] [0,2] U U (fun z=>[(9,(vI (z.1:Int)))]) (fun z=>[(cq R 47 (ab.cells (ki a (l.take z.1))))]) (fun _=>rfl) (fun _=>rfl) (fun z=>l.length-z.1) ⟨0,A⟩ (aN U) (aD [0,2,1]) ?_
 clear A
 rintro ⟨i,N⟩ J6 H
 try dsimp only
 refine WS fun _ L=>rP 1 [] mn ?_
 refine RK L<|ai fun _ M=>bE U (aQ fun S=>?_) (aP fun S=>?_)
 ·refine bj<|aa<|aa<|au<|KK J<|ai fun _ D=>?_
  have G:(ab.cells (ki a (l.take i)))=(ab.cells (ki a l)):=by rw [JR I]
  rw [G]
  refine ag<|rP 1 [] (mc 2 U mn) ?_
  refine fq U cu U<|RK D<|an ?_
  exact Lt hQ [0] (mc 0 U mn) U U
 refine WK M<|ai fun _ B=>ar<|WS fun _ C=>?_
 obtain ⟨x,hx⟩:=aG l i I
 have O:=bG ab.cells hx
 refine rS (IA i U (ay 1 U) mM dc I I)<|rS (l4 i 0 (ab.cells x) U bX (ay 1 U) O U dc U U)<|AL U dk fun P=>fq U cu U<|RK C<|ag ?_
 have hb:=OC ha hl i
 have hz:=hl x (aR hx)
 unfold lj at hz
 refine rP 10 [0,1,0,1] (mc 3 U (mc 0 U mn)) ?_
 refine rS (SX (bq (xs:=[(0,.tmp 17),(1,.tmp 22)]) (cs:=(ab.cells (ab.mk (((ki a (l.take i)).Lo)+x.Lo) (((ki a (l.take i)).Hi)+x.Hi)))) U U (br gK U)) U U)<|SG U cu U<|ax<|aB<|KK B ?_
 have E:(ab.cells (ab.mk (((ki a (l.take i)).Lo)+x.Lo) (((ki a (l.take i)).Hi)+x.Hi)))=(ab.cells (ki a (l.take (i+1)))):=by rw [yJ hx]; rfl
 rw [E]
 refine ag<|rP 2 [] mn ?_
 refine ax ?_
 have F:(vI ((i+1):Int))=(vI ((i:Int)+1)):=by exact cI I
 refine aI (H ⟨(i+1),(by first|omega|(simp only []; omega))⟩ _ _ _ U os (bY 4<|aO U F<|cO.nil _) (aD [1,2,3]))
theorem ER (ts:List al) (tsA:OA) (tsC:Nat) (hlen:ts.length≤1000000) (hside: ∀ x∈ts,0≤x.iv∧x.iv≤255):
 eA Tryz.prog 157 [(vA (bo.cells (bo.mk (bf.mk tsA ts.length tsC))))] [(rd tsA ts.length 9 (ts.map al.cells))] (vT [(vA (dZ.cells (dZ.mk (bo.mk (bf.mk tsA ts.length tsC))))),(vI (if cV ts=true then 0 else 10))]):=by
 refine bH kr Tryz.func157 U U fun E Q hQ hN=>?_
 try dsimp only
 refine WS fun _ A=>fm U fun C=>AL U I5 fun D=>aY 1 U<|RK A<|ai fun _ B=>cS cf 4 kr<|l0 1 [] (mc 1 U mn) U<|dS (SX (bq (xs:=[(0,.tmp 4)]) (cs:=(dZ.cells (dZ.mk (bo.mk (bf.mk tsA ts.length tsC))))) U U (br P6 U)) U U)<|l0 1 [] (mc 1 U mn) U<|dS (CL (As ts tsA tsC hlen hside) (aZ [2]) U)<|cy<|fq U Ix U<|rP 1 [] mn ?_
 refine RK B<|an ?_
 exact mo hQ [0] (mc 0 U mn) U U
theorem Lq (f:Int) (tsA:OA) (tsN tsC:Nat):
 lg Tryz.prog 171 [(vA (dZ.cells (dZ.mk (bo.mk (bf.mk tsA tsN tsC))))),(vI f)] [] (fun (x:Nat×Nat)=>(Value.func (.func 177) [].toArray [(Value.pointer (some ⟨x.1,0,none⟩)),(Value.pointer (some ⟨x.2,0,none⟩))].toArray)) (fun (x:Nat×Nat)=>True) (fun (x:Nat×Nat)=>[(cq x.1 3 [(vI f)]),(cq x.2 216 (dZ.cells (dZ.mk (bo.mk (bf.mk tsA tsN tsC)))))]):=by
 refine db kr Tryz.func171 U U fun E Q hQ hN=>?_
 try dsimp only
 refine WS fun _ A=>fm U fun C=>ux U U fun D=>aY 1 U<|RK A<|WS fun _ B=>rS (FU U)<|rP 1 [] mn ?_
 refine RK B<|an<|LX hQ (D,C) [0,1] [] mn U U U U ?_
 trivial
theorem G0 (ts:List al) (tsA:OA) (tsC:Nat) (f:Int) (g1 g2:Nat) (hst: ∀ x∈ts,bJ x) (hlen:ts.length≤12) (hf:0≤f∧f≤ts.length):
 MA Tryz.prog 177 [] [(vP g1),(vP g2)] [(rd tsA ts.length 9 (ts.map al.cells)),(cq g1 3 [(vI f)]),(cq g2 216 (dZ.cells (dZ.mk (bo.mk (bf.mk tsA ts.length tsC)))))] (tq ts f.toNat):=by
 refine Fe kr Tryz.func177 U U fun l J Z A0 r Q hY g d hQ hN=>?_
 try dsimp only
 refine WS fun _ i=>AL U dk fun p=>AL U dk fun q=>RK i<|WS fun _ j=>rP 2 [] (mr 4 U mn) ?_
 refine RK j<|ar ?_
 have P:(0≤ts.length-f.toNat)∧(J 0 A0)∧(Fo A0 r A0):=by exact ⟨Nat.zero_le _,g,d⟩
 have o:(vI (f+(0:Int)))=(vI f):=by exact cI I
 refine bx (ι:={z:Nat×aw // (z.1≤ts.length-f.toNat)∧(J z.1 z.2)∧(Fo A0 r z.2)}) [0,1,2,4,5] [3,4,5] U U (fun z=>[(6,(vI (f+(z.1.1:Int))))]) (fun z=>[(cq q 47 (ab.cells (fU ts f.toNat z.1.1))),(cq p 47 (ab.cells (ek ts f.toNat z.1.1))),z.1.2]) (fun _=>rfl) (fun _=>rfl) (fun z=>ts.length-f.toNat-z.1.1) ⟨(0,A0),P⟩ (aO U o<|cO.nil _) (aD [3,4,5,0,1,2]) ?_
 clear P
 rintro ⟨⟨k,A⟩,⟨W,R,S⟩⟩ J6 V
 try dsimp only at W R S
 try dsimp only
 refine ai fun _ m=>WS fun _ X=>rP 3 [0,1] (mc 4 U (mc 3 U mn)) ?_
 refine Ff 5 hY R S U U U (yW I) U U (fun B9 C B=>?_) (fun B9 C B=>?_)
 rotate_left 1
 ·refine rP 8 [] mn ?_
  refine RK X<|aX U<|bj<|aa<|aa<|au ?_
  refine hN _ _ _ (g3 (vs:=[]) trivial fun w hs=>NV 5 U C B hs)
 refine rP 8 [] (mr 2 U mn) ?_
 refine RK X<|bE U (aQ fun c=>?_) (aP fun c=>?_)
 ·refine bj<|aa<|aa<|au ?_
  refine hN _ _ _ (g3 (vs:=[]) trivial fun w hs=>Sb 5 U (by rw [te]; have e:ts.length-f.toNat+1=k+1:=I; rw [e]; exact C) B hs)
 refine WK m<|ai fun _ M=>ar<|pD cf [0,1,2,3,4,5,6,7,10,11,12,13,14,15,16,17] [8,9,18,19,20,21] [true,false,false,false,false,false,false,false,true,false,false,false,false,false,false,false] [8,9,18] [(rd tsA ts.length 9 (ts.map al.cells)).ro,(cq g1 3 [(vI f)]).ro,(cq g2 216 (dZ.cells (dZ.mk (bo.mk (bf.mk tsA ts.length tsC))))).ro,B9] [(rd tsA ts.length 9 (ts.map al.cells)).ro,(cq g1 3 [(vI f)]).ro,(cq g2 216 (dZ.cells (dZ.mk (bo.mk (bf.mk tsA ts.length tsC))))).ro,(cq q 47 (ab.cells (fU ts f.toNat k))),(cq p 47 (ab.cells (ek ts f.toNat k))),B9] kr (aD [0,1,2,5]) (aD [0,1,2,3,4,5])<|fS U (LW 4 U bX U U)<|eS U (FA 0 U e_ U)<|eS U (FA 0 U e_ U)<|eS U (HG (vS tsA ts.length tsC) 2 U bX U U)<|eS U (MV U) ?_
 obtain ⟨x,hx⟩:=aG ts (f.toNat+k) I
 have a:=bG al.cells hx
 refine eS U (IA (f.toNat+k) U (ay 0 U) vf dc I I) ?_
 have L:=hst x (aR hx)
 refine eS U (nP (((f.toNat+k)*9)+1) U (ay 0 U) (Nat.mul_pos I dc) e_ U)<|eS U (l4 (f.toNat+k) 1 (ab.cells x.jn) U bX (ay 0 U) a U dc U U)<|fS U (LW 3 U bX U U)<|eS U (FA 0 U e_ U)<|eS U (FA 0 U e_ U)<|eS U (HG (vS tsA ts.length tsC) 2 U bX U U)<|eS U (MV U)<|eS U (IA (f.toNat+k) U (ay 0 U) vf dc I I)<|eS U (nP (((f.toNat+k)*9)+3) U (ay 0 U) (Nat.mul_pos I dc) e_ U)<|eS U (l4 (f.toNat+k) 3 (ab.cells x.j_) U bX (ay 0 U) a U dc U U)<|eu U<|oH [8,18] kr (jg ?_<|jg ?_<|rT)
 rotate_left 1
 ·refine uP (rem':=[8,9,19,20,21]) U kr fun T14 N=>eX (xs:=[.tmp 39]) (cs:=(ab.cells x.j_)) U mM dk U U U U (by simp [Value.cells,ab.bw]) U U fun T=>ax (N _ _ (aD [1,2,3,6]) (aD [1,2,3,4,5,6]) ?_)
  refine N1 8<|uP (rem':=[9,19,20,21]) U kr fun T16 D=>eX (xs:=[.tmp 29]) (cs:=(ab.cells x.jn)) U mM dk U U U U (by simp [Value.cells,ab.bw]) U U fun AA=>ax (D _ _ (aD [2,3,4,7]) (aD [2,3,4,5,6,7]) ?_)
  refine N1 9<|uP (rem':=[19,20,21]) U kr fun T18 O=>?_
  refine rS (CL (eA.eq (o9 (ek ts f.toNat k) ([x.jn]) (some ⟨AA,0,none⟩) 1 (by exact qx hst I) (by intro z hz; simp only [bK] at hz; subst hz; exact uh L) sm) nB) (aC (a_ 0 rfl rfl (by simp [ab.bw]) rfl)<|aS) rfl) ?_
  refine ax (O _ _ (aD [2,3,4,7]) (aD [2,3,4,5,6,7]) ?_)
  refine N1 19<|NO U U [20,21] fun T19 E=>?_
  refine rS (CL (eA.eq (o9 (fU ts f.toNat k) ([x.j_]) (some ⟨T,0,none⟩) 1 (by exact vY hst I) (by intro z hz; simp only [bK] at hz; subst hz; exact uz L) sm) nB) (aC (a_ 1 rfl rfl (by simp [ab.bw]) rfl)<|aS) rfl) ?_
  refine ax (E _ _ (aD [2,3,4,7]) ?_)
  refine N1 20<|NO U U [21] fun T20 F=>Qq U cu U<|ax (F _ _ (aD [2,3,4,7]) ?_)
  refine N1 21<|NO U U [] fun T21 G=>I2 U cu U<|ax (G _ _ (aD [2,3,4,7]) ?_)
  refine nR<|aB<|KK M ?_
  have H:(ab.cells (l8 (ek ts f.toNat k) x.jn))=(ab.cells (ek ts f.toNat (k+1))):=by rw [pb hx]
  rw [H]
  have AB:(ab.cells (l8 (fU ts f.toNat k) x.j_))=(ab.cells (fU ts f.toNat (k+1))):=by rw [pM hx]
  rw [AB]
  refine ag<|rP 3 [] mn ?_
  refine ax ?_
  have K:(vI (f+(((k+1):Nat):Int)))=(vI ((f+(k:Int))+1)):=by exact cI I
  refine aI (V ⟨((k+1),B9),⟨I,C,B⟩⟩ _ _ _ U os (bY 5<|aO U K<|cO.nil _) (aD [2,3,4,5,6,7]))
 refine uP (rem':=[9,18,19,20,21]) U kr fun T14 N=>eX (xs:=[.tmp 29]) (cs:=(ab.cells x.jn)) U mM dk U U U U (by simp [Value.cells,ab.bw]) U U fun T=>ax (N _ _ (aD [1,2,3,6]) (aD [1,2,3,4,5,6]) ?_)
 refine oH [9,18] kr (jg ?_<|jg ?_<|rT)
 rotate_left 1
 ·refine uP (rem':=[9,19,20,21]) U kr fun T16 D=>eX (xs:=[.tmp 39]) (cs:=(ab.cells x.j_)) U mM dk U U U U (by simp [Value.cells,ab.bw]) U U fun AA=>ax (D _ _ (aD [2,3,4,7]) (aD [2,3,4,5,6,7]) ?_)
  refine N1 9<|uP (rem':=[19,20,21]) U kr fun T18 O=>?_
  refine rS (CL (eA.eq (o9 (ek ts f.toNat k) ([x.jn]) (some ⟨T,0,none⟩) 1 (by exact qx hst I) (by intro z hz; simp only [bK] at hz; subst hz; exact uh L) sm) nB) (aC (a_ 1 rfl rfl (by simp [ab.bw]) rfl)<|aS) rfl) ?_
  refine ax (O _ _ (aD [2,3,4,7]) (aD [2,3,4,5,6,7]) ?_)
  refine N1 19<|NO U U [20,21] fun T19 E=>?_
  refine rS (CL (eA.eq (o9 (fU ts f.toNat k) ([x.j_]) (some ⟨AA,0,none⟩) 1 (by exact vY hst I) (by intro z hz; simp only [bK] at hz; subst hz; exact uz L) sm) nB) (aC (a_ 0 rfl rfl (by simp [ab.bw]) rfl)<|aS) rfl) ?_
  refine ax (E _ _ (aD [2,3,4,7]) ?_)
  refine N1 20<|NO U U [21] fun T20 F=>Qq U cu U<|ax (F _ _ (aD [2,3,4,7]) ?_)
  refine N1 21<|NO U U [] fun T21 G=>I2 U cu U<|ax (G _ _ (aD [2,3,4,7]) ?_)
  refine nR<|aB<|KK M ?_
  have H:(ab.cells (l8 (ek ts f.toNat k) x.jn))=(ab.cells (ek ts f.toNat (k+1))):=by rw [pb hx]
  rw [H]
  have AB:(ab.cells (l8 (fU ts f.toNat k) x.j_))=(ab.cells (fU ts f.toNat (k+1))):=by rw [pM hx]
  rw [AB]
  refine ag<|rP 3 [] mn ?_
  refine ax ?_
  have K:(vI (f+(((k+1):Nat):Int)))=(vI ((f+(k:Int))+1)):=by exact cI I
  refine aI (V ⟨((k+1),B9),⟨I,C,B⟩⟩ _ _ _ U os (bY 5<|aO U K<|cO.nil _) (aD [2,3,4,5,6,7]))
 refine uP (rem':=[18,19,20,21]) U kr fun T16 D=>?_
 refine rS (CL (eA.eq (o9 (ek ts f.toNat k) ([x.jn]) (some ⟨T,0,none⟩) 1 (by exact qx hst I) (by intro z hz; simp only [bK] at hz; subst hz; exact uh L) sm) nB) (aC (a_ 0 rfl rfl (by simp [ab.bw]) rfl)<|aS) rfl) ?_
 refine ax (D _ _ (aD [1,2,3,6]) (aD [1,2,3,4,5,6]) ?_)
 refine N1 18<|uP (rem':=[19,20,21]) U kr fun T17 Y=>eX (xs:=[.tmp 39]) (cs:=(ab.cells x.j_)) U mM dk U U U U (by simp [Value.cells,ab.bw]) U U fun b=>ax (Y _ _ (aD [2,3,4,7]) (aD [2,3,4,5,6,7]) ?_)
 refine N1 19<|NO U U [20,21] fun T19 E=>?_
 refine rS (CL (eA.eq (o9 (fU ts f.toNat k) ([x.j_]) (some ⟨b,0,none⟩) 1 (by exact vY hst I) (by intro z hz; simp only [bK] at hz; subst hz; exact uz L) sm) nB) (aC (a_ 0 rfl rfl (by simp [ab.bw]) rfl)<|aS) rfl) ?_
 refine ax (E _ _ (aD [2,3,4,7]) ?_)
 refine N1 20<|NO U U [21] fun T20 F=>Qq U cu U<|ax (F _ _ (aD [2,3,4,7]) ?_)
 refine N1 21<|NO U U [] fun T21 G=>I2 U cu U<|ax (G _ _ (aD [2,3,4,7]) ?_)
 refine nR<|aB<|KK M ?_
 have H:(ab.cells (l8 (ek ts f.toNat k) x.jn))=(ab.cells (ek ts f.toNat (k+1))):=by rw [pb hx]
 rw [H]
 have AB:(ab.cells (l8 (fU ts f.toNat k) x.j_))=(ab.cells (fU ts f.toNat (k+1))):=by rw [pM hx]
 rw [AB]
 refine ag<|rP 3 [] mn ?_
 refine ax ?_
 have K:(vI (f+(((k+1):Nat):Int)))=(vI ((f+(k:Int))+1)):=by exact cI I
 refine aI (V ⟨((k+1),B9),⟨I,C,B⟩⟩ _ _ _ U os (bY 5<|aO U K<|cO.nil _) (aD [2,3,4,5,6,7]))
theorem Jw (ts:List al) (tsA:OA) (tsC:Nat) (f t:Int) (hst: ∀ x∈ts,bJ x) (hlen:ts.length≤12) (hf:0≤f∧f≤t∧t≤ts.length):
 eA Tryz.prog 159 [(vA (dZ.cells (dZ.mk (bo.mk (bf.mk tsA ts.length tsC))))),(vI f),(vI t)] [(rd tsA ts.length 9 (ts.map al.cells))] (vT [(vA (ab.cells (ek ts f.toNat (t-f).toNat))),(vA (ab.cells (fU ts f.toNat (t-f).toNat)))]):=by
 refine bH kr Tryz.func159 U U fun w0 Q hQ hN=>?_
 try dsimp only
 refine WS fun _ M=>fm U fun a=>ux U U fun b=>ux U U fun d=>AL U dk fun e=>AL U dk fun g=>RK M<|ai fun _ AA=>WS fun _ V=>rP 2 [0,1] (mc 4 U (mc 3 U mn)) ?_
 refine cX (Lq f tsA ts.length tsC) (aS) U fun v o=>?_
 obtain ⟨B,C⟩:=v
 try dsimp only
 refine RK V<|ar<|kl 7 U (by exact fun _ h=>h) ?_
 refine FD (L0:=[(3,(vP a)),(4,(vP b)),(5,(vP d)),(6,(vP e)),(7,(vP g))]) (F:=[(rd tsA ts.length 9 (ts.map al.cells)).ro,(cq B 3 [(vI f)]),(cq C 216 (dZ.cells (dZ.mk (bo.mk (bf.mk tsA ts.length tsC)))))]) (xs:=(tq ts f.toNat)) (fun k (y:ab×ab×Int)=>(k≤(t-f).toNat)∧(y.2.2=f+(k:Int))) (fun k y=>[(cq g 47 (ab.cells y.2.1)),(cq e 47 (ab.cells y.1)),(cq d 3 [(vI t)]),(cq b 3 [(vI y.2.2)]),(cq a 216 (dZ.cells (dZ.mk (bo.mk (bf.mk tsA ts.length tsC))))),(rd tsA ts.length 9 (ts.map al.cells)).ro]) (fun c (z:Unit)=>(c= .exit 0)) (fun _ z=>[(cq g 47 (ab.cells (fU ts f.toNat (t-f).toNat))),(cq e 47 (ab.cells (ek ts f.toNat (t-f).toNat))),(cq d 3 [(vI t)]),(cq b 3 [(vI t)]),(cq a 216 (dZ.cells (dZ.mk (bo.mk (bf.mk tsA ts.length tsC))))),(rd tsA ts.length 9 (ts.map al.cells)).ro]) [3,4,5,6,7,8] [0,1,2] (fF,fF,f) U U (G0 ts tsA tsC f B C (by first|assumption|omega|(simp; done)) (by first|assumption|omega|(simp; done)) I) U U U (by exact ⟨Nat.zero_le _,sm⟩) (by simp only [List.forall_mem_cons,List.not_mem_nil,false_imp_iff,implies_true,and_true]; exact ⟨⟨_,sm,(dA (bO _))⟩,⟨_,sm,(bO _)⟩,⟨_,sm,(bO _)⟩⟩) (by exact Eo) U (aN U) ?_ ?_ ?_ ?_
 rotate_left 1
 ·rintro r ⟨z1,z2,m⟩ J
  obtain ⟨A,K⟩:=J
  try dsimp only at A K
  try dsimp only
  exfalso; rw [te] at A; omega
 ·rintro s id _ Y
  have hc:=Y
  cases hc
  try dsimp only
  refine au<|KK AA<|ai fun _ D=>dp cf [2,3] [] [] [0,1,2,3,4,5,6,7,8,9] [] U U U U U<|eS U (LW 5 U bX U U)<|eS U (LW 4 U bX U U)<|eu U<|bS U fun T30 E=>I2 U cu U<|ax (E _ _ (aD [0,1,2,3,4,5,6,7,8,9]) ?_)
  refine bS U fun T31 G=>O7 U cu U<|ax (G _ _ (aD [0,1,2,3,4,5,6,7,8,9]) ?_)
  refine eY U<|KK D<|an<|hQ _ _ _ (oG 0 U U<|g3 (vs:=[(vA (ab.cells (ek ts f.toNat (t-f).toNat))),(vA (ab.cells (fU ts f.toNat (t-f).toNat)))]) ⟨⟨_,U,.inl ⟨_,_,bX,pc (vs:=(ab.cells (ek ts f.toNat (t-f).toNat))) 5 U U,U,U⟩⟩,⟨_,U,.inl ⟨_,_,bX,pc (vs:=(ab.cells (fU ts f.toNat (t-f).toNat))) 4 U U,U,U⟩⟩,trivial⟩ fun w hs=>G7 ?_ hs)
  show (vT [(vA (ab.cells (ek ts f.toNat (t-f).toNat))),(vA (ab.cells (fU ts f.toNat (t-f).toNat)))])=(vT [(vA (ab.cells (ek ts f.toNat (t-f).toNat))),(vA (ab.cells (fU ts f.toNat (t-f).toNat)))])
  clear hs w hQ hN G T31 E T30 D V AA M
  rfl
 ·rintro u _ Z
  cases Z
 rintro k x ⟨z1,z2,m⟩ l ra rb S w1 K13 Qr14 hx AB N H L j
 obtain ⟨hk,rfl⟩:=GV hx
 obtain ⟨A,K⟩:=AB
 try dsimp only at A K
 try dsimp only
 refine WS fun _ O=>AL U dk fun p=>fq U cu U<|RK O<|ag<|AL U dk fun q=>fq U cu U<|ax<|jF (fun _ _ h=>h) (aD [2,0,1,3,4,5,6,7,8])<|aI (N _ _ ?_)
 refine ar<|ai fun _ P=>ai fun _ R=>dp cf [2,3] [] [] [0,1,2,5,6,7,8] [] U U U U U<|eS U (LW 2 U bX U U)<|eS U (LW 1 U bX U U)<|eu U<|bS U fun T21 W=>O7 U cu U<|ax (W _ _ (aD [0,1,2,5,6,7,8]) ?_)
 refine bS U fun T22 X=>SG U cu U<|ax (X _ _ (aD [0,1,2,5,6,7,8]) ?_)
 refine eY U<|KK R<|WS fun _ T=>rP 3 [0,1] (mc 6 U (mc 5 U mn)) ?_
 refine RK T<|cK U (aP fun i=>?_) (aQ fun i=>?_)
 ·refine bj<|aa<|im U ?_
  rw [show m=t from by omega]
  obtain rfl:k=(t-f).toNat:=by omega
  exact L _ () _ _ (by exact U) (aD [0,3,4,5,6,7,8])
 refine WK P<|ag<|rP 2 [] (mc 6 U mn) ?_
 refine Ut U DL U U<|ax<|aB ?_
 exact H ((ek ts f.toNat k),(fU ts f.toNat k),(m+1)) _ _ (by refine ⟨I,?_⟩; dsimp only; omega) (aD [0,3,4,5,6,7,8])
end
section
open Go.RowKit
theorem Gx (i:Int) (s:cP) (ts:List al) (tsA:OA) (tsC g1:Nat) (hst: ∀ x∈ts,bJ x) (hlen:ts.length≤12):
 eA Tryz.prog 170 [(vI i),(vA (cP.cells s)),(vP g1)] [(rd tsA ts.length 9 (ts.map al.cells)),(cq g1 216 (dZ.cells (dZ.mk (bo.mk (bf.mk tsA ts.length tsC)))))] (vB (!(decide (fp ts s)))):=by
 refine bH kr Tryz.func170 U U fun AA Q hQ hN=>?_
 try dsimp only
 refine WS fun _ C=>fm U fun G=>rP 1 [] mn ?_
 refine RK C<|ai fun _ A=>pD cf [0,1,2,3,4,5,6] [7,8,9,10,11,12,13,14,15,16,17,18,19,20,21,22,23,24,25,26] [false,false,false,false,false,false,false] [] [(cq G 139 (cP.cells s)),(rd tsA ts.length 9 (ts.map al.cells)).ro,(cq g1 216 (dZ.cells (dZ.mk (bo.mk (bf.mk tsA ts.length tsC))))).ro] [] kr (aD [0,1,2]) (aD [])<|eS U (FA 0 U e_ U)<|eS U (FA 0 U e_ U)<|eS U (HG (vS tsA ts.length tsC) 2 U bX U U)<|eS U (LN U O9)<|eS U (BI U (s8 ⟨I,I⟩))<|eS U (FA 0 U e_ U)<|eS U (L1 (vI s.aV) 0 U bX U U)<|eu U<|N1 7<|NO U U [8,9,10,11,12,13,14,15,16,17,18,19,20,21,22,23,24,25,26] fun T4 D=>eX (xs:=[.tmp 12]) (cs:=[(vI s.aV)]) U di lh U U U U (by simp [Value.cells]) U U fun H=>RD D 1 U<|Ph [14,15,16,17,18,19,20,21,22,23,24,25,26,27,28,29,30,31,5] kr kr U _ U U (aD [1,2,3]) ?_
 refine dS (CL (eA.eq (oQ 0 ((ts.length:Int)-1) ([s.aV]) (some ⟨H,0,none⟩) 1 (by (simp; done))) dj) (aC (a_ 0 U U (by simp [bU]) U)<|aS) U) ?_
 refine dP 2 [] mn ?_
 refine iO (t:=16) U (bg fun B=>?_) (bh fun B=>?_)
 ·refine lq 9 U<|dP 7 [] mn ?_
  refine cy<|RK A<|an<|Q1 hQ U U U ?_
  (refine cB ?_; rw [bD (BG I)]; rfl)
 refine lq 1 U<|dS (LP (ab.cells s.lf) 1 U bX U U U)<|dP 5 [0,1] (mr 3 U (mc 1 U mn)) ?_
 obtain ⟨x,hx⟩:=aG ts ((s.aV).toNat) I
 have E:=bG al.cells hx
 refine dS (IA ((s.aV).toNat) U (ay 2 U) vf dc I I)<|dS (nP ((((s.aV).toNat)*9)+1) U (ay 2 U) (Nat.mul_pos I dc) e_ U) ?_
 have F:=(hst x (aR hx)).2.1
 simp only [dJ] at F
 refine dS (nP ((((s.aV).toNat)*9)+1) U (ay 2 U) (Nat.mul_pos I dc) e_ U)<|dS (fI ((s.aV).toNat) 1 (vI x.jn.Lo) U bX (ay 2 U) E U dc U)<|lq 1 U<|dS (CL (vJ s.lf 0 (x.jn.Lo-1)) (aS) U)<|dP 3 [] mn ?_
 refine cy<|RK A<|an<|Q1 hQ U U U ?_
 exact congrArg (fun b=>vB (!b)) (decide_eq_decide.2 (BA I hx).symm)
theorem DU (l:List cP) (lA:OA) (lC:Nat) (f:Value) (p:Int→cP→Bool) (X:aw) (hf: ∀ x0 x1,(∃ k:Nat,x0=(k:Int)∧l[k]? =some x1)→Dc Tryz.prog f [.int .i64 x0,.agg (cP.cells x1).toArray] [X] (.bool (p x0 x1))) (hlen:l.length≤1000000):
 lg Tryz.prog 169 [(vS lA l.length lC),f] [(rd lA l.length 3 (l.map cP.cells)),X] (fun (x:(OA)×Nat)=>(vS x.1 ((Ip (fun jj yy=>p (jj:Int) yy) l).length) x.2)) (fun (x:(OA)×Nat)=>True) (fun (x:(OA)×Nat)=>[(own x.1 x.2 3 1 ((Ip (fun jj yy=>p (jj:Int) yy) l).map iC))]):=by
 refine db kr Tryz.func169 U U fun W Q hQ hN=>?_
 try dsimp only
 refine WS fun _ L=>aY 1 U<|RK L<|WS fun _ M=>aY 1 U<|RK M<|ai fun _ N=>WS fun _ O=>rP 3 [] mn ?_
 refine RK O<|ar<|eP 3 1 ?_
 have A:(0≤l.length):=by exact Nat.zero_le _
 refine bx (ι:={z:Nat×(OA)×Nat // (z.1≤l.length)}) [0,1,8,9] [1,2] U U (fun z=>[(5,(vS z.1.2.1 ((sr (fun jj yy=>p (jj:Int) yy) l z.1.1).length) z.1.2.2)),(10,(vI (z.1.1:Int)))]) (fun z=>[(own z.1.2.1 z.1.2.2 3 1 ((sr (fun jj yy=>p (jj:Int) yy) l z.1.1).map iC))]) (fun _=>rfl) (fun _=>rfl) (fun z=>l.length-z.1.1) ⟨(0,none,0),A⟩ (aN U) (aD [1,2,0]) ?_
 clear A
 rintro ⟨⟨i,a,c⟩,B⟩ J5 C
 try dsimp only at B
 try dsimp only
 refine WS fun _ P=>rP 1 [] mn ?_
 refine RK P<|ai fun _ R=>bE U (aQ fun V=>?_) (aP fun V=>?_)
 ·refine bj<|aa<|aa<|au<|KK N<|WS fun _ F=>?_
  rw [MY (p:=fun (i:Nat) x=>p (i:Int) x) (show i=l.length by omega)]
  refine rP 2 [] mn ?_
  refine RK F<|an<|LX hQ (a,c) [2] [] mn U U U U ?_
  trivial
 refine WK R<|ai fun _ G=>ar<|WS fun _ D=>rP 1 [] mn ?_
 obtain ⟨x,hx⟩:=aG l i I
 have S:=bG cP.cells hx
 refine rS (IA i U (ay 0 U) Jc dc I I)<|rS (l4 i 0 (cP.cells x) U bX (ay 0 U) S U dc U U)<|AL U EK fun T=>aY 1 U<|fq U N5 U<|RK D<|WS fun _ E=>rP 3 [] (mc 0 U mn) ?_
 refine rS (SX (sk U U U (hf (i:Int) x ⟨i,U,hx⟩) (aZ [2])) U U)<|RK E<|bE U (fun hp=>?_) (fun hp=>?_)
 ·refine bM<|aB<|KK G<|ag ?_
  rw [← Mj (p:=fun (i:Nat) x=>p (i:Int) x) hx hp]
  refine rP 2 [] mn ?_
  refine ax ?_
  have AB:(vI (((i+1):Nat):Int))=(vI ((i:Int)+1)):=by exact cI I
  refine aI (C ⟨((i+1),a,c),(by first|omega|(simp only []; omega))⟩ _ _ _ U os (bY 5<|aO U AB<|cO.nil _) (aD [1,2,3]))
 refine ag<|rP 2 [] mn ?_
 refine eX (xs:=[.tmp 20]) (cs:=[(vI (i:Int))]) U di lh U U U U (by simp [Value.cells]) U U fun AA=>?_
 refine cp (es2:=(List.map iC (sr (fun jj yy=>p (jj:Int) yy) l (i+1)))) (m':=(sr (fun jj yy=>p (jj:Int) yy) l (i+1)).length) 4 U U U mJ U U sm (a_ (es:=List.map iC [(i:Int)]) 0 U U (by simp [bU]) U) (g_ _) (by have:=Cf (p:=fun (i:Nat) x=>p (i:Int) x) (l:=l) (n:=i); simp; omega) (by have:=Cf (p:=fun (i:Nat) x=>p (i:Int) x) (l:=l) (n:=i); simp only [maxLen]; omega) (by rw [Kv hx hp]; simp) sm U fun J K=>?_
 try dsimp only
 refine aY 1 U<|ax<|aB<|KK G<|ag<|rP 2 [] mn ?_
 refine ax ?_
 have H:(vI (((i+1):Nat):Int))=(vI ((i:Int)+1)):=by exact cI I
 refine aI (C ⟨((i+1),J,K),(by first|omega|(simp only []; omega))⟩ _ _ _ U os (bY 5<|aO U H<|cO.nil _) (aD [2,3,4]))
theorem B1 (ts:List al) (tsA:OA) (tsC:Nat) (l:List cP) (lA:OA) (lC:Nat) (hst: ∀ x∈ts,bJ x) (hlen:ts.length≤12) (hl:l.length≤4):
 eA Tryz.prog 158 [(vA (dZ.cells (dZ.mk (bo.mk (bf.mk tsA ts.length tsC))))),(vS lA l.length lC)] [(rd tsA ts.length 9 (ts.map al.cells)),(rd lA l.length 3 (l.map cP.cells))] (vB (decide (∀ s∈l,fp ts s))):=by
 refine bH kr Tryz.func158 U U fun J Q hQ hN=>?_
 try dsimp only
 refine WS fun _ B=>fm U fun A=>aY 1 U<|RK B<|WS fun _ C=>rP 1 [] mn ?_
 refine rS (FU U) ?_
 refine cX (DU l lA lC (Value.func (.func 170) [].toArray [(vP A)].toArray) (fun E D=>(!(decide (fp ts D)))) (eH [(rd tsA ts.length 9 (ts.map al.cells)),(cq A 216 (dZ.cells (dZ.mk (bo.mk (bf.mk tsA ts.length tsC)))))]) (by intro E D _; exact ov (fi:=[]) (ca:=[(vP A)]) (mO (Gx E D ts tsA tsC A (by first|assumption|omega) (by first|assumption|omega)) (aZ [0,1]))) I) (fG 2 U U<|aC (mH (aZ [1,0]))<|aS) U fun G F=>?_
 obtain ⟨H,AA⟩:=G
 try dsimp only
 refine rP 3 [] mn ?_
 refine RK C<|an<|Q1 hQ U U U ?_
 exact congrArg Value.bool (decide_eq_decide.2 (by rw [show ∀ n:Nat,((n:Int)=0)↔n=0 from fun n=>by omega,HD]; simp only [Bool.not_eq_false',decide_eq_true_eq]; exact ⟨fun h s hs=>by obtain ⟨k,hk⟩:=List.getElem?_of_mem hs; exact h k s hk,fun h k s hk=>h s (List.mem_of_getElem? hk)⟩))
theorem DH (z:ab) (hz:lj z):
 eA Tryz.prog 172 [(vA (ab.cells z))] [] (vA (ab.cells (oj z))):=by
 unfold lj at hz
 refine bH kr Tryz.func172 U U fun E Q hQ hN=>?_
 try dsimp only
 refine WS fun _ A=>fm U fun C=>AL U dk fun D=>RK A<|WS fun _ B=>e7 2 [] (mc 1 U mn) U<|rS (NG U ⟨I,I⟩)<|rP 2 [] (mc 1 U mn) ?_
 refine rS (NG U ⟨I,I⟩)<|rS (SX (bq (xs:=[(0,.tmp 5),(1,.tmp 8)]) (cs:=(ab.cells (ab.mk (-z.Hi) (-z.Lo)))) U U (br gK U)) U U)<|fq U cu U<|RK B<|an ?_
 exact Lt hQ [0] (mc 0 U mn) U U
theorem P5 (ts:List al) (tsA:OA) (tsC:Nat) (s:cP) (hlen:ts.length≤1000000) (hside: ∀ x∈ts,0≤x.iv∧x.iv≤255):
 eA Tryz.prog 136 [(vA (bo.cells (bo.mk (bf.mk tsA ts.length tsC)))),(vA (cP.cells s))] [(rd tsA ts.length 9 (ts.map al.cells))] (vT [(vA (ab.cells (Oj ts s))),(vI (E8 ts s))]):=by
 refine bH kr Tryz.func136 U U fun Z Q hQ hN=>?_
 try dsimp only
 refine WS fun _ K=>fm U fun V=>fm U fun W=>AL U dk fun X=>aY 1 U<|RK K<|WS fun _ L=>e7 1 [] (mc 2 U mn) U<|rS (CL (ER ts tsA tsC hlen hside) (aZ [3]) U)<|aY 3 U<|AL U I5 fun Y=>fq U Ix U<|aY 1 U<|RK L<|ai fun _ M=>WS fun _ N=>rP 2 [] mn ?_
 refine RK N<|cK U (bg fun he=>?_) (bh fun he=>?_)
 ·refine WS fun _ O=>rS (SX (bq (xs:=[]) (cs:=(ab.cells (ab.mk 0 0))) U U (br gK U)) U U)<|aY 1 U<|sK U cu U<|rP 1 [] mn ?_
  refine RK O<|an<|mo hQ [0] (mc 1 U mn) U ?_
  (have e:=KG (s:=s) (yG he).1; rw [e.1,e.2,(yG he).2]<;>rfl)
 refine WK M<|ai fun _ C=>WS fun _ D=>?_
 have B:=CV he
 have H:=jM B
 have R:=ky B
 refine rP 2 [0,1] (mc 0 U (mc 2 U mn)) ?_
 refine eX (xs:=[.tmp 20]) (cs:=(cP.cells s)) U Jc EK U U U U (by simp [Value.cells,cP.bw]) U U fun AB=>?_
 refine rS (CL (eA.eq (B1 ts tsA tsC ([s]) (some ⟨AB,0,none⟩) 1 asm asm (by (simp; done))) D6) (fG 5 U U<|aC (a_ 0 U U (by simp [cP.bw]) U)<|aS) U) ?_
 refine rP 1 [] mn ?_
 refine RK D<|cK U (bg fun A=>?_) (bh fun A=>?_)
 ·refine WS fun _ E=>rS (SX (bq (xs:=[]) (cs:=(ab.cells (ab.mk 0 0))) U U (br gK U)) U U)<|Fi U cu U<|rP 1 [] mn ?_
  refine RK E<|an<|mo hQ [0] (mc 2 U mn) U ?_
  (have e:=Ik B A; rw [e.1,e.2]<;>rfl)
 refine WK C<|WS fun _ F=>?_
 have AA:=A.1
 have P:=qw H A
 refine e7 3 [0,1] (mc 1 U (mc 3 U mn)) U<|rS (CL (Jw ts tsA tsC 0 s.aV asm asm I) (aZ [5]) U)<|aY 3 U<|AL U dk fun S=>AL U dk fun T=>sK U cu U<|fq U cu U<|RK F<|WS fun _ G=>rP 2 [] (mc 1 U mn) ?_
 refine rS (LP (ab.cells s.lf) 5 U bX U U U)<|eX (xs:=[.tmp 34]) (cs:=(ab.cells s.lf)) U mM dk U U U U (by simp [Value.cells,ab.bw]) U U fun J=>?_
 refine rS (CL (eA.eq (o9 (ek ts (0:Int).toNat (s.aV-0).toNat) ([s.lf]) (some ⟨J,0,none⟩) 1 (by exact qx H I) (by intro z hz; simp only [bK] at hz; subst hz; exact P) sm) nB) (aC (a_ 0 rfl rfl (by simp [ab.bw]) rfl)<|aS) rfl) ?_
 refine I2 U cu U<|rP 1 [] mn ?_
 refine RK G<|an<|mo hQ [0] (mc 5 U mn) U ?_
 (have e:=wj B A; rw [e.1,e.2]; unfold Ll; rw [show (s.aV-0).toNat=s.aV.toNat by rw [Int.sub_zero]]<;>rfl)
theorem LK (ts:List al) (tsA:OA) (tsC:Nat) (p:cP) (q:cP) (hlen:ts.length≤1000000) (hside: ∀ x∈ts,0≤x.iv∧x.iv≤255):
 eA Tryz.prog 161 [(vA (bo.cells (bo.mk (bf.mk tsA ts.length tsC)))),(vA (cP.cells p)),(vA (cP.cells q))] [(rd tsA ts.length 9 (ts.map al.cells))] (vT [(vA (ab.cells (kF ts p q))),(vI (lB ts p q))]):=by
 refine bH kr Tryz.func161 U U fun w0 Q hQ hN=>?_
 try dsimp only
 refine WS fun _ c=>fm U fun t=>fm U fun u=>fm U fun v=>AL U dk fun w=>aY 1 U<|RK c<|WS fun _ d=>e7 1 [] (mc 3 U mn) U<|rS (CL (ER ts tsA tsC hlen hside) (aZ [4]) U)<|aY 3 U<|AL U I5 fun y=>fq U Ix U<|aY 1 U<|RK d<|ai fun _ g=>WS fun _ i=>rP 2 [] mn ?_
 refine RK i<|cK U (bg fun he=>?_) (bh fun he=>?_)
 ·refine WS fun _ G=>rS (SX (bq (xs:=[]) (cs:=(ab.cells (ab.mk 0 0))) U U (br gK U)) U U)<|aY 1 U<|sK U cu U<|rP 1 [] mn ?_
  refine RK G<|an<|mo hQ [0] (mc 1 U mn) U ?_
  (have e:=uD (a:=p) (b:=q) (yG he).1; rw [e.1,e.2,(yG he).2]<;>rfl)
 refine WK g<|ai fun _ H=>WS fun _ AB=>?_
 have A:=CV he
 have F:=jM A
 have l:=ky A
 refine rP 3 [0,1,2] (mc 0 U (mc 3 U (mc 2 U mn))) ?_
 refine eX (xs:=[.tmp 22,.tmp 23]) (cs:=((cP.cells p)++(cP.cells q))) U Jc EK U U U U (by simp [Value.cells,cP.bw]) U U fun X=>?_
 refine rS (CL (eA.eq (B1 ts tsA tsC ([p,q]) (some ⟨X,0,none⟩) 2 asm asm (by (simp; done))) Du) (fG 6 U U<|aC (a_ 0 U U (by simp [cP.bw]) U)<|aS) U) ?_
 refine rP 1 [] mn ?_
 refine RK AB<|cK U (bg fun D=>?_) (bh fun D=>?_)
 ·refine WS fun _ J=>rS (SX (bq (xs:=[]) (cs:=(ab.cells (ab.mk 0 0))) U U (br gK U)) U U)<|Fi U cu U<|rP 1 [] mn ?_
  refine RK J<|an<|mo hQ [0] (mc 2 U mn) U ?_
  (have e:=o1 A D; rw [e.1,e.2]<;>rfl)
 refine WK H<|WS fun _ K=>?_
 obtain ⟨hp,hq⟩:=D
 have r:=hp.1
 have s:=hq.1
 have j:=qw F hp
 have W:=qw F hq
 have V:=zx j
 have B:=qx F (f:=(min p.aV q.aV).toNat) (k:=(max p.aV q.aV-min p.aV q.aV).toNat) I
 refine e7 5 [0,1,2] (mc 1 U (mc 4 U (mc 3 U mn))) U<|rS (MN U)<|e7 4 [0,1] (mc 4 U (mc 3 U mn)) U<|rS (MX U)<|rS (CL (Jw ts tsA tsC (min p.aV q.aV) (max p.aV q.aV) asm asm I) (aZ [6]) U)<|aY 3 U<|AL U dk fun m=>AL U dk fun o=>sK U cu U<|fq U cu U<|RK K<|ai fun _ C=>WS fun _ L=>rP 5 [0,1] (mc 5 U (mc 6 U mn)) ?_
 refine RK L<|bE U (aQ fun E=>?_) (aP fun E=>?_)
 ·refine WK C<|ai fun _ N=>dp cf [6,7,8] [] [] [0,1,2,3,5,6,7,8] [] U U U U U<|eS U (LW 1 U bX U U)<|eS U (FA 1 U e_ U)<|eS U (LP (ab.cells q.lf) 4 U bX U U U)<|eS U (FA 1 U e_ U)<|eS U (LP (ab.cells p.lf) 5 U bX U U U)<|eS U (CL (DH p.lf asm) (aS) U)<|eS U (AG U)<|eu U<|bS U fun T26 S=>eX (xs:=[.tmp 52,.tmp 55]) (cs:=((ab.cells q.lf)++(ab.cells (oj p.lf)))) U mM dk U U U U (by simp [Value.cells,ab.bw]) U U fun Z=>ax (S _ _ (aD [1,2,3,4,6,7,8,9]) ?_)
  refine bS U fun T28 T=>?_
  refine rS (CL (eA.eq (o9 (ek ts (min p.aV q.aV).toNat ((max p.aV q.aV)-(min p.aV q.aV)).toNat) ([q.lf,(oj p.lf)]) (some ⟨Z,0,none⟩) 2 (by first|exact B|exact zx B) (by intro z hz; simp only [dL,List.not_mem_nil,or_false] at hz; rcases hz with rfl|rfl; exact W; exact V) sm) Ce) (aC (a_ 0 rfl rfl (by simp [ab.bw]) rfl)<|aS) rfl) ?_
  refine ax (T _ _ (aD [1,2,3,4,6,7,8,9]) ?_)
  refine bS U fun T29 AA=>I2 U cu U<|ax (AA _ _ (aD [1,2,3,4,6,7,8,9]) ?_)
  refine eY U<|KK N<|an<|mo hQ [0] (mc 5 U mn) U ?_
  (have e:=k6 A ⟨hp,hq⟩; rw [e.1,e.2]; unfold jS xb; rw [if_neg E]<;>rfl)
 refine ag<|rP 1 [] (mc 1 U mn) ?_
 refine rS (CL (DH (ek ts (min p.aV q.aV).toNat ((max p.aV q.aV)-(min p.aV q.aV)).toNat) asm) (aS) U)<|sK U cu U<|RK C<|ai fun _ M=>dp cf [6,7,8] [] [] [0,1,2,3,5,6,7,8] [] U U U U U<|eS U (LW 1 U bX U U)<|eS U (FA 1 U e_ U)<|eS U (LP (ab.cells q.lf) 4 U bX U U U)<|eS U (FA 1 U e_ U)<|eS U (LP (ab.cells p.lf) 5 U bX U U U)<|eS U (CL (DH p.lf asm) (aS) U)<|eS U (AG U)<|eu U<|bS U fun T21 O=>eX (xs:=[.tmp 52,.tmp 55]) (cs:=((ab.cells q.lf)++(ab.cells (oj p.lf)))) U mM dk U U U U (by simp [Value.cells,ab.bw]) U U fun Y=>ax (O _ _ (aD [1,2,3,4,6,7,8,9]) ?_)
 refine bS U fun T23 P=>?_
 refine rS (CL (eA.eq (o9 (oj (ek ts (min p.aV q.aV).toNat ((max p.aV q.aV)-(min p.aV q.aV)).toNat)) ([q.lf,(oj p.lf)]) (some ⟨Y,0,none⟩) 2 (by first|exact B|exact zx B) (by intro z hz; simp only [dL,List.not_mem_nil,or_false] at hz; rcases hz with rfl|rfl; exact W; exact V) sm) Ce) (aC (a_ 0 rfl rfl (by simp [ab.bw]) rfl)<|aS) rfl) ?_
 refine ax (P _ _ (aD [1,2,3,4,6,7,8,9]) ?_)
 refine bS U fun T24 R=>I2 U cu U<|ax (R _ _ (aD [1,2,3,4,6,7,8,9]) ?_)
 refine eY U<|KK M<|an<|mo hQ [0] (mc 5 U mn) U ?_
 (have e:=k6 A ⟨hp,hq⟩; rw [e.1,e.2]; unfold jS xb; rw [if_pos E]<;>rfl)
theorem qU (ts:List al) (tsA:OA) (tsC:Nat) (s:cP) (hst: ∀ x∈ts,bJ x) (hlen:ts.length≤12):
 eA Tryz.prog 121 [(vA (bo.cells (bo.mk (bf.mk tsA ts.length tsC)))),(vA (cP.cells s))] [(rd tsA ts.length 9 (ts.map al.cells))] (vB (decide (fp ts s))):=by
 refine bH kr Tryz.func121 U U fun H Q hQ hN=>?_
 try dsimp only
 refine WS fun _ C=>fm U fun F=>fm U fun G=>aY 1 U<|RK C<|ai fun _ A=>cS cf 22 kr<|l0 6 [0,1] (mc 0 U (mc 1 U mn)) U<|dS (CL (oR s.aV 0 ((ts.length:Int)-1)) (aS) U)<|dP 1 [] mn ?_
 refine j2 (t:=12) U (aQ fun B=>?_) (aP fun B=>?_)
 ·refine lq 8 U<|dP 6 [] mn ?_
  refine cy<|RK A<|an<|Q1 hQ U U U ?_
  (refine cB ?_; rw [bD (BG I)])
 refine lq 1 U<|dS (LP (ab.cells s.lf) 0 U bX U U U)<|dP 4 [0,1] (mc 1 U (mc 0 U mn)) ?_
 obtain ⟨x,hx⟩:=aG ts ((s.aV).toNat) I
 have D:=bG al.cells hx
 refine dS (IA ((s.aV).toNat) U (ay 2 U) vf dc I I)<|dS (nP ((((s.aV).toNat)*9)+1) U (ay 2 U) (Nat.mul_pos I dc) e_ U) ?_
 have E:=(hst x (aR hx)).2.1
 simp only [dJ] at E
 refine dS (nP ((((s.aV).toNat)*9)+1) U (ay 2 U) (Nat.mul_pos I dc) e_ U)<|dS (fI ((s.aV).toNat) 1 (vI x.jn.Lo) U bX (ay 2 U) D U dc U)<|lq 1 U<|dS (CL (pf s.lf 0 (x.jn.Lo-1)) (aS) U)<|dP 2 [] mn ?_
 refine cy<|RK A<|an<|Q1 hQ U U U ?_
 exact cB (decide_eq_decide.2 (BA I hx).symm)
theorem Ah (ts:List al) (tsA:OA) (tsC:Nat) (f t:Int) (hst: ∀ x∈ts,bJ x) (hlen:ts.length≤12) (hf:0≤f∧f≤t∧t≤ts.length):
 eA Tryz.prog 165 [(vA (bo.cells (bo.mk (bf.mk tsA ts.length tsC)))),(vI f),(vI t)] [(rd tsA ts.length 9 (ts.map al.cells))] (vT [(vA (ab.cells (ek ts f.toNat (t-f).toNat))),(vA (ab.cells (fU ts f.toNat (t-f).toNat)))]):=by
 refine bH kr Tryz.func165 U U fun j Q hQ hN=>?_
 try dsimp only
 refine WS fun _ R=>fm U fun e=>AL U dk fun g=>AL U dk fun i=>RK R<|WS fun _ S=>AL U dk fun a=>AL U dk fun b=>RK S<|ai fun _ T=>WS fun _ AA=>rP 2 [] mn ?_
 refine RK AA<|ar ?_
 have A:(0≤(t-f).toNat):=by exact Nat.zero_le _
 have K:(vI (f+(0:Int)))=(vI f):=by exact cI I
 refine bx (ι:={z:Nat // (z≤(t-f).toNat)}) [1,2,3,6,7,8,9] [2,3,4,5] U U (fun z=>[(10,(vI (f+(z.1:Int))))]) (fun z=>[(cq b 47 (ab.cells (fU ts f.toNat z.1))),(cq a 47 (ab.cells (ek ts f.toNat z.1)))]) (fun _=>rfl) (fun _=>rfl) (fun z=>(t-f).toNat-z.1) ⟨0,A⟩ (aO U K<|cO.nil _) (aD [2,3,4,5,0,1]) ?_
 clear A
 rintro ⟨k,V⟩ J11 B
 try dsimp only
 refine ai fun _ C=>WS fun _ D=>rP 3 [] mn ?_
 refine RK D<|bE U (aQ fun P=>?_) (aP fun P=>?_)
 ·refine bj<|aa<|aa<|au<|KK T<|ai fun _ H=>dp cf [2,3] [] [] [2,3,4,5] [] U U U U U<|eS U (LW 3 U bX U U)<|eS U (LW 2 U bX U U)<|eu U<|bS U fun T23 AB=>sK U cu U<|ax (AB _ _ (aD [2,3,4,5]) ?_)
  refine bS U fun T24 J=>fq U cu U<|ax (J _ _ (aD [2,3,4,5]) ?_)
  refine eY U<|KK H<|an<|mo hQ [0,1] (mc 1 U (mc 0 U mn)) U ?_
  obtain rfl:k=(t-f).toNat:=I; rfl
 refine WK C<|ai fun _ E=>ar<|WS fun _ F=>rP 3 [] (mc 2 U mn) ?_
 obtain ⟨x,hx⟩:=aG ts (f.toNat+k) I
 have Y:=bG al.cells hx
 refine rS (IA (f.toNat+k) U (ay 3 U) vf dc I I)<|rS (l4 (f.toNat+k) 0 (al.cells x) U bX (ay 3 U) Y U dc U U)<|AL U JP fun Z=>fq U JJ U<|RK F<|WS fun _ G=>?_
 have O:=hst x (aR hx)
 have d:=lW hst f.toNat k
 have c:=FC hst f.toNat k
 have W:=O.2.1
 have X:=O.2.2.1
 simp only [dJ] at W X
 refine e7 12 [0,1,0,1] (mc 6 U (mc 0 U mn)) U<|rS (SX (bq (xs:=[(0,.tmp 28),(1,.tmp 34)]) (cs:=(ab.cells (ab.mk (((ek ts f.toNat k).Lo)+x.jn.Lo) (((ek ts f.toNat k).Hi)+x.jn.Hi)))) U U (br gK U)) U U)<|Qq U cu U<|RK G<|ag<|rP 12 [0,1,0,1] (mc 5 U (mc 0 U mn)) ?_
 refine rS (SX (bq (xs:=[(0,.tmp 41),(1,.tmp 47)]) (cs:=(ab.cells (ab.mk (((fU ts f.toNat k).Lo)+x.j_.Lo) (((fU ts f.toNat k).Hi)+x.j_.Hi)))) U U (br gK U)) U U)<|I2 U cu U<|ax<|aB<|KK E ?_
 have L:(ab.cells (ab.mk (((ek ts f.toNat k).Lo)+x.jn.Lo) (((ek ts f.toNat k).Hi)+x.jn.Hi)))=(ab.cells (ek ts f.toNat (k+1))):=by rw [pb hx]; rfl
 rw [L]
 have M:(ab.cells (ab.mk (((fU ts f.toNat k).Lo)+x.j_.Lo) (((fU ts f.toNat k).Hi)+x.j_.Hi)))=(ab.cells (fU ts f.toNat (k+1))):=by rw [pM hx]; rfl
 rw [M]
 refine ag<|rP 3 [] mn ?_
 refine ax ?_
 have N:(vI (f+(((k+1):Nat):Int)))=(vI ((f+(k:Int))+1)):=by exact cI I
 refine aI (B ⟨(k+1),(by first|omega|(simp only []; omega))⟩ _ _ _ U os (bY 7<|aO U N<|cO.nil _) (aD [1,2,3,4,5,6]))
end
section
open Go.RowKit
theorem ig (n lo hi:Int):
 eA Tryz.prog 119 [(vI n),(vI lo),(vI hi)] [] (vB (decide (lo≤n∧n≤hi))):=by
 refine bH kr Tryz.func119 U U fun D Q hQ hN=>?_
 try dsimp only
 refine WS fun _ B=>aY 1 U<|RK B<|WS fun _ A=>rP 4 [] mn ?_
 refine cE (t:=10) U (aP fun C=>?_) (aQ fun C=>?_)
 ·refine rP 5 [] mn ?_
  refine RK A<|an<|Q1 hQ U U U ?_
  exact cB (decide_eq_decide.2 I)
 refine rP 5 [] mn ?_
 refine RK A<|an<|Q1 hQ U U U ?_
 exact cB (bD I).symm
theorem BN (ts:List al) (tsA:OA) (tsC:Nat) (hst: ∀ x∈ts,bJ x) (hlen:ts.length≤12):
 lg Tryz.prog 164 [(vA (bo.cells (bo.mk (bf.mk tsA ts.length tsC))))] [(rd tsA ts.length 9 (ts.map al.cells))] (fun (x:(OA)×Nat)=>(vS x.1 ((g0 ts (ts.length+1)).length) x.2)) (fun (x:(OA)×Nat)=>True) (fun (x:(OA)×Nat)=>[(own x.1 x.2 47 2 ((g0 ts (ts.length+1)).map ab.cells))]):=by
 refine db kr Tryz.func164 U U fun V Q hQ hN=>?_
 try dsimp only
 refine WS fun _ J=>fm U fun AA=>aY 1 U<|RK J<|WS fun _ K=>aY 1 U<|RK K<|ai fun _ L=>WS fun _ M=>rP 1 [] mn ?_
 refine RK M<|ar<|eP 47 2 ?_
 have A:(0≤ts.length+1):=by exact Nat.zero_le _
 refine bx (ι:={z:Nat×(OA)×Nat // (z.1≤ts.length+1)}) [1] [1,2] U U (fun z=>[(3,(vS z.1.2.1 ((g0 ts z.1.1).length) z.1.2.2)),(4,(vI (z.1.1:Int)))]) (fun z=>[(own z.1.2.1 z.1.2.2 47 2 ((g0 ts z.1.1).map ab.cells))]) (fun _=>rfl) (fun _=>rfl) (fun z=>ts.length+1-z.1.1) ⟨(0,none,0),A⟩ (aN U) (aD [1,2,0]) ?_
 clear A
 rintro ⟨⟨i,a,c⟩,B⟩ J6 AB
 try dsimp only at B
 try dsimp only
 refine ai fun _ N=>WS fun _ O=>rP 5 [] (mc 0 U mn) ?_
 refine RK O<|bE U (aQ fun T=>?_) (aP fun T=>?_)
 ·refine bj<|aa<|aa<|au<|KK L<|WS fun _ E=>?_
  obtain rfl:i=ts.length+1:=by omega
  refine rP 2 [] mn ?_
  refine RK E<|an<|LX hQ (a,c) [2] [] mn U U U U ?_
  trivial
 refine WK N<|ai fun _ C=>ar<|WS fun _ D=>e7 2 [] (mc 0 U mn) U<|rS (CL (Ah ts tsA tsC 0 (i:Int) hst hlen I) (aZ [1]) U)<|aY 3 U<|AL U dk fun P=>AL U dk fun R=>sK U cu U<|fq U cu U<|RK D<|ag<|rP 2 [] (mc 1 U mn) ?_
 refine eX (xs:=[.tmp 21]) (cs:=(ab.cells (ek ts (0:Int).toNat ((i:Int)-0).toNat))) U mM dk U U U U (by simp [Value.cells,ab.bw]) U U fun S=>?_
 refine cp (es2:=(List.map ab.cells (g0 ts (i+1)))) (m':=(g0 ts (i+1)).length) 5 U U U K1 U U sm (a_ (es:=List.map ab.cells [(ek ts (0:Int).toNat ((i:Int)-0).toNat)]) 0 U U (by simp [ab.bw]) U) (jl _) (by simp only [oy]; omega) (by simp only [maxLen,oy]; omega) (by rw [Cn]; simp) sm U fun G H=>?_
 try dsimp only
 refine aY 1 U<|ax<|aB<|KK C<|ag<|rP 3 [] mn ?_
 refine ax ?_
 have F:(vI (((i+1):Nat):Int))=(vI ((i:Int)+1)):=by exact cI I
 refine aI (AB ⟨((i+1),G,H),(by first|omega|(simp only []; omega))⟩ _ _ _ U os (cO.cons U<|cO.cons U<|aO U F<|cO.nil _) (aD [3,4,5]))
theorem Rd (ts:List al) (tsA:OA) (tsC:Nat) (s:cP) (hlen:ts.length≤1000000) (hside: ∀ x∈ts,0≤x.iv∧x.iv≤255):
 eA Tryz.prog 148 [(vA (bo.cells (bo.mk (bf.mk tsA ts.length tsC)))),(vA (cP.cells s))] [(rd tsA ts.length 9 (ts.map al.cells))] (vT [(vA (ab.cells (Oj ts s))),(vI (E8 ts s))]):=by
 refine bH kr Tryz.func148 U U fun t Q hQ hN=>?_
 try dsimp only
 refine WS fun _ R=>fm U fun j=>fm U fun l=>AL U dk fun m=>aY 1 U<|RK R<|ai fun _ S=>WS fun _ T=>e7 1 [] (mc 2 U mn) U<|rS (CL (vC ts tsA tsC hlen) (aZ [3]) U)<|rP 1 [] mn ?_
 refine RK T<|cK U (fun AB=>?_) (fun AB=>?_)
 ·rw [Bool.not_eq_true'] at AB
  refine WS fun _ AA=>rS (SX (bq (xs:=[]) (cs:=(ab.cells (ab.mk 0 0))) U U (br gK U)) U U)<|fq U cu U<|rP 1 [] mn ?_
  refine RK AA<|an<|mo hQ [0] (mc 0 U mn) U ?_
  (have e:=KG (s:=s) (by simpa using AB); rw [e.1,e.2]<;>rfl)
 rw [Bool.not_eq_false'] at AB
 refine WK S<|ai fun _ V=>WS fun _ W=>?_
 have M:=jM AB
 have Z:=ky AB
 refine e7 2 [0,1] (mc 2 U (mc 1 U mn)) U<|rS (CL (qU ts tsA tsC s asm asm) (aZ [3]) U)<|rP 1 [] mn ?_
 refine RK W<|cK U (bg fun D=>?_) (bh fun D=>?_)
 ·refine WS fun _ O=>rS (SX (bq (xs:=[]) (cs:=(ab.cells (ab.mk 0 0))) U U (br gK U)) U U)<|fq U cu U<|rP 1 [] mn ?_
  refine RK O<|an<|mo hQ [0] (mc 0 U mn) U ?_
  (have e:=Ik AB D; rw [e.1,e.2]<;>rfl)
 refine WK V<|ai fun _ H=>pD cf [0,2,3] [1,4,5,6,7] [false,false,false] [] [(cq m 47 (ab.cells (ab.mk 0 0))),(cq l 139 (cP.cells s)),(cq j 24 (bo.cells (bo.mk (bf.mk tsA ts.length tsC)))),(rd tsA ts.length 9 (ts.map al.cells)).ro] [] kr (aD [0,1,2,3]) (aD []) ?_
 have r:=D.1
 have N:=qw M D
 have q:(g0 ts (ts.length+1)).length=ts.length+1:=oy
 refine eS U (LW 2 U bX U U)<|eS U (FA 0 U e_ U)<|eS U (L1 (vI s.aV) 1 U bX U U)<|eu U<|oH [1,6] kr (jg ?_<|jg ?_<|rT)
 rotate_left 1
 ·refine NO U U [1,4,5,7] fun T12 J=>AL U dk fun f=>RD J 1 U<|N1 1<|NO U U [4,5,7] fun T14 P=>cX (BN ts tsA tsC asm asm) (aZ [4]) U fun Y b=>?_
  obtain ⟨d,p⟩:=Y
  try dsimp only
  refine RD P 2 U<|N1 4<|NO U U [5,7] fun T19 E=>?_
  obtain ⟨z,hz⟩:=aG (g0 ts (ts.length+1)) ((s.aV).toNat) I
  have A:=bG ab.cells hz
  refine rS (IA ((s.aV).toNat) U (ak (n:=(g0 ts (ts.length+1)).length) 0 U sm) mM dc I I)<|RD E 2 U<|N1 5<|NO U U [7] fun T20 F=>rS (l4 ((s.aV).toNat) 0 (ab.cells z) U bX (ak (n:=(g0 ts (ts.length+1)).length) 0 U sm) A U dc U U)<|RD F 2 U<|N1 7<|NO U U [] fun T21 C=>sK U cu U<|RD C 2 U<|nR<|KK H<|WS fun _ B=>rP 1 [] mn ?_
  have A:=pJ hz
  have G:=lW M 0 s.aV.toNat
  unfold lj at N
  rw [← A] at G
  refine e7 11 [0,1,0,1] (mc 1 U (mc 3 U mn)) U<|rS (SX (bq (xs:=[(0,.tmp 27),(1,.tmp 33)]) (cs:=(ab.cells (ab.mk (z.Lo+s.lf.Lo) (z.Hi+s.lf.Hi)))) U U (br gK U)) U U)<|Fi U cu U<|rP 1 [] mn ?_
  refine RK B<|an<|mo hQ [0] (mc 2 U mn) U ?_
  (have e:=wj AB D; subst A; rw [e.1,e.2]<;>rfl)
 refine NO U U [4,5,6,7] fun T12 J=>cX (BN ts tsA tsC asm asm) (aZ [3]) U fun X a=>?_
 obtain ⟨c,o⟩:=X
 try dsimp only
 refine RD J 1 U<|oH [4,6] kr (jg ?_<|jg ?_<|rT)
 rotate_left 1
 ·refine NO U U [4,5,7] fun T17 K=>AL U dk fun g=>RD K 2 U<|N1 4<|NO U U [5,7] fun T19 E=>?_
  obtain ⟨z,hz⟩:=aG (g0 ts (ts.length+1)) ((s.aV).toNat) I
  have A:=bG ab.cells hz
  refine rS (IA ((s.aV).toNat) U (ak (n:=(g0 ts (ts.length+1)).length) 1 U sm) mM dc I I)<|RD E 2 U<|N1 5<|NO U U [7] fun T20 F=>rS (l4 ((s.aV).toNat) 0 (ab.cells z) U bX (ak (n:=(g0 ts (ts.length+1)).length) 1 U sm) A U dc U U)<|RD F 2 U<|N1 7<|NO U U [] fun T21 C=>fq U cu U<|RD C 2 U<|nR<|KK H<|WS fun _ B=>rP 1 [] mn ?_
  have A:=pJ hz
  have G:=lW M 0 s.aV.toNat
  unfold lj at N
  rw [← A] at G
  refine e7 11 [0,1,0,1] (mc 0 U (mc 3 U mn)) U<|rS (SX (bq (xs:=[(0,.tmp 27),(1,.tmp 33)]) (cs:=(ab.cells (ab.mk (z.Lo+s.lf.Lo) (z.Hi+s.lf.Hi)))) U U (br gK U)) U U)<|Fi U cu U<|rP 1 [] mn ?_
  refine RK B<|an<|mo hQ [0] (mc 2 U mn) U ?_
  (have e:=wj AB D; subst A; rw [e.1,e.2]<;>rfl)
 refine NO U U [5,6,7] fun T17 K=>?_
 obtain ⟨z,hz⟩:=aG (g0 ts (ts.length+1)) ((s.aV).toNat) I
 have A:=bG ab.cells hz
 refine rS (IA ((s.aV).toNat) U (ak (n:=(g0 ts (ts.length+1)).length) 0 U sm) mM dc I I)<|RD K 1 U<|oH [5,6] kr (jg ?_<|jg ?_<|rT)
 rotate_left 1
 ·refine NO U U [5,7] fun T18 L=>AL U dk fun i=>RD L 2 U<|N1 5<|NO U U [7] fun T20 F=>rS (l4 ((s.aV).toNat) 0 (ab.cells z) U bX (ak (n:=(g0 ts (ts.length+1)).length) 1 U sm) A U dc U U)<|RD F 2 U<|N1 7<|NO U U [] fun T21 C=>fq U cu U<|RD C 2 U<|nR<|KK H<|WS fun _ B=>rP 1 [] mn ?_
  have A:=pJ hz
  have G:=lW M 0 s.aV.toNat
  unfold lj at N
  rw [← A] at G
  refine e7 11 [0,1,0,1] (mc 0 U (mc 3 U mn)) U<|rS (SX (bq (xs:=[(0,.tmp 27),(1,.tmp 33)]) (cs:=(ab.cells (ab.mk (z.Lo+s.lf.Lo) (z.Hi+s.lf.Hi)))) U U (br gK U)) U U)<|Fi U cu U<|rP 1 [] mn ?_
  refine RK B<|an<|mo hQ [0] (mc 2 U mn) U ?_
  (have e:=wj AB D; subst A; rw [e.1,e.2]<;>rfl)
 refine NO U U [6,7] fun T18 L=>rS (l4 ((s.aV).toNat) 0 (ab.cells z) U bX (ak (n:=(g0 ts (ts.length+1)).length) 0 U sm) A U dc U U)<|RD L 1 U<|N1 6<|NO U U [7] fun T19 E=>AL U dk fun k=>RD E 2 U<|N1 7<|NO U U [] fun T21 C=>fq U cu U<|RD C 2 U<|nR<|KK H<|WS fun _ B=>rP 1 [] mn ?_
 have A:=pJ hz
 have G:=lW M 0 s.aV.toNat
 unfold lj at N
 rw [← A] at G
 refine e7 11 [0,1,0,1] (mc 0 U (mc 3 U mn)) U<|rS (SX (bq (xs:=[(0,.tmp 27),(1,.tmp 33)]) (cs:=(ab.cells (ab.mk (z.Lo+s.lf.Lo) (z.Hi+s.lf.Hi)))) U U (br gK U)) U U)<|Fi U cu U<|rP 1 [] mn ?_
 refine RK B<|an<|mo hQ [0] (mc 2 U mn) U ?_
 (have e:=wj AB D; subst A; rw [e.1,e.2]<;>rfl)
theorem F5 (ts:List al) (tsA:OA) (tsC:Nat) (p:cP) (q:cP) (hlen:ts.length≤1000000) (hside: ∀ x∈ts,0≤x.iv∧x.iv≤255) (hord: ¬ q.aV<p.aV):
 eA Tryz.prog 149 [(vA (bo.cells (bo.mk (bf.mk tsA ts.length tsC)))),(vA (cP.cells p)),(vA (cP.cells q))] [(rd tsA ts.length 9 (ts.map al.cells))] (vT [(vA (ab.cells (kF ts p q))),(vI (lB ts p q))]):=by
 refine bH kr Tryz.func149 U U fun k Q hQ hN=>?_
 try dsimp only
 refine WS fun _ N=>fm U fun f=>fm U fun g=>fm U fun i=>AL U dk fun j=>aY 1 U<|RK N<|ai fun _ O=>WS fun _ P=>e7 1 [] (mc 3 U mn) U<|rS (CL (vC ts tsA tsC hlen) (aZ [4]) U)<|rP 1 [] mn ?_
 refine RK P<|cK U (fun A=>?_) (fun A=>?_)
 ·rw [Bool.not_eq_true'] at A
  refine WS fun _ R=>rS (SX (bq (xs:=[]) (cs:=(ab.cells (ab.mk 0 0))) U U (br gK U)) U U)<|fq U cu U<|rP 1 [] mn ?_
  refine RK R<|an<|mo hQ [0] (mc 0 U mn) U ?_
  (have e:=uD (a:=p) (b:=q) (by simpa using A); rw [e.1,e.2]<;>rfl)
 rw [Bool.not_eq_false'] at A
 refine WK O<|ai fun _ S=>WS fun _ E=>?_
 have D:=jM A
 have M:=ky A
 refine e7 2 [0,1] (mc 3 U (mc 2 U mn)) U<|rS (CL (qU ts tsA tsC p asm asm) (aZ [4]) U)<|rP 2 [] mn ?_
 refine cE (t:=20) U (bg fun B=>?_) (bh fun B=>?_)
 ·refine aY 5 U<|RK E<|aL U<|WS fun _ G=>rS (SX (bq (xs:=[]) (cs:=(ab.cells (ab.mk 0 0))) U U (br gK U)) U U)<|fq U cu U<|rP 1 [] mn ?_
  refine RK G<|an<|mo hQ [0] (mc 0 U mn) U ?_
  (have e:=o1 (a:=p) (b:=q) A (fun h=>by first|exact B h.1|exact C h.2); rw [e.1,e.2]<;>rfl)
 refine e7 2 [0,1] (mc 3 U (mc 1 U mn)) U<|rS (CL (qU ts tsA tsC q asm asm) (aZ [4]) U)<|rP 2 [] mn ?_
 refine RK E<|cK U (bg fun C=>?_) (bh fun C=>?_)
 ·refine WS fun _ H=>rS (SX (bq (xs:=[]) (cs:=(ab.cells (ab.mk 0 0))) U U (br gK U)) U U)<|fq U cu U<|rP 1 [] mn ?_
  refine RK H<|an<|mo hQ [0] (mc 0 U mn) U ?_
  (have e:=o1 (a:=p) (b:=q) A (fun h=>by first|exact B h.1|exact C h.2); rw [e.1,e.2]<;>rfl)
 refine WK S<|ai fun _ AB=>WS fun _ J=>?_
 have AA:fp ts p∧fp ts q:=⟨B,C⟩
 have T:=qw D B
 have V:=qw D C
 have c:=B.1
 have d:=C.1
 have Y:=xw D M C B
 unfold lj at T V
 refine rP 5 [0,1] (mc 1 U (mc 2 U mn)) ?_
 refine RK J<|cK U (aP fun F=>?_) (aQ fun F=>?_)
 ·exfalso; omega
 refine WK AB<|WS fun _ K=>rP 2 [] (mc 3 U mn) ?_
 have Z:=lW D p.aV.toNat (q.aV-p.aV).toNat
 refine e7 3 [0,1] (mc 2 U (mc 1 U mn)) U<|rS (CL (Ah ts tsA tsC p.aV q.aV asm asm I) (aZ [4]) U)<|aY 3 U<|AL U dk fun W=>AL U dk fun X=>sK U cu U<|fq U cu U<|RK K<|WS fun _ L=>e7 20 [0,1,2,0,1,2] (mc 1 U (mc 3 U (mc 4 U mn))) U<|rS (SX (bq (xs:=[(0,.tmp 64),(1,.tmp 74)]) (cs:=(ab.cells (ab.mk ((((ek ts p.aV.toNat (q.aV-p.aV).toNat).Lo)+q.lf.Lo)-p.lf.Hi) ((((ek ts p.aV.toNat (q.aV-p.aV).toNat).Hi)+q.lf.Hi)-p.lf.Lo)))) U U (br gK U)) U U)<|Fi U cu U<|rP 1 [] mn ?_
 refine RK L<|an<|mo hQ [0] (mc 2 U mn) U ?_
 (have e:=k6 A AA; rw [e.1,e.2,qF F]<;>rfl)
theorem Jh (ts:List al) (tsA:OA) (tsC:Nat) (p:cP) (q:cP) (hlen:ts.length≤1000000) (hside: ∀ x∈ts,0≤x.iv∧x.iv≤255):
 eA Tryz.prog 149 [(vA (bo.cells (bo.mk (bf.mk tsA ts.length tsC)))),(vA (cP.cells p)),(vA (cP.cells q))] [(rd tsA ts.length 9 (ts.map al.cells))] (vT [(vA (ab.cells (kF ts p q))),(vI (lB ts p q))]):=by
 refine bH kr Tryz.func149 U U fun v Q hQ hN=>?_
 try dsimp only
 refine WS fun _ S=>fm U fun o=>fm U fun r=>fm U fun s=>AL U dk fun u=>aY 1 U<|RK S<|ai fun _ T=>WS fun _ AA=>e7 1 [] (mc 3 U mn) U<|rS (CL (vC ts tsA tsC hlen) (aZ [4]) U)<|rP 1 [] mn ?_
 refine RK AA<|cK U (fun A=>?_) (fun A=>?_)
 ·rw [Bool.not_eq_true'] at A
  refine WS fun _ V=>rS (SX (bq (xs:=[]) (cs:=(ab.cells (ab.mk 0 0))) U U (br gK U)) U U)<|fq U cu U<|rP 1 [] mn ?_
  refine RK V<|an<|mo hQ [0] (mc 0 U mn) U ?_
  (have e:=uD (a:=p) (b:=q) (by simpa using A); rw [e.1,e.2]<;>rfl)
 rw [Bool.not_eq_false'] at A
 refine WK T<|ai fun _ W=>WS fun _ E=>?_
 have D:=jM A
 have P:=ky A
 refine e7 2 [0,1] (mc 3 U (mc 2 U mn)) U<|rS (CL (qU ts tsA tsC p asm asm) (aZ [4]) U)<|rP 2 [] mn ?_
 refine cE (t:=20) U (bg fun B=>?_) (bh fun B=>?_)
 ·refine aY 5 U<|RK E<|aL U<|WS fun _ G=>rS (SX (bq (xs:=[]) (cs:=(ab.cells (ab.mk 0 0))) U U (br gK U)) U U)<|fq U cu U<|rP 1 [] mn ?_
  refine RK G<|an<|mo hQ [0] (mc 0 U mn) U ?_
  (have e:=o1 (a:=p) (b:=q) A (fun h=>by first|exact B h.1|exact C h.2); rw [e.1,e.2]<;>rfl)
 refine e7 2 [0,1] (mc 3 U (mc 1 U mn)) U<|rS (CL (qU ts tsA tsC q asm asm) (aZ [4]) U)<|rP 2 [] mn ?_
 refine RK E<|cK U (bg fun C=>?_) (bh fun C=>?_)
 ·refine WS fun _ H=>rS (SX (bq (xs:=[]) (cs:=(ab.cells (ab.mk 0 0))) U U (br gK U)) U U)<|fq U cu U<|rP 1 [] mn ?_
  refine RK H<|an<|mo hQ [0] (mc 0 U mn) U ?_
  (have e:=o1 (a:=p) (b:=q) A (fun h=>by first|exact B h.1|exact C h.2); rw [e.1,e.2]<;>rfl)
 refine WK W<|ai fun _ AB=>WS fun _ J=>?_
 have R:fp ts p∧fp ts q:=⟨B,C⟩
 have X:=qw D B
 have Y:=qw D C
 have l:=B.1
 have m:=C.1
 have j:=xw D P C B
 unfold lj at X Y
 refine rP 5 [0,1] (mc 1 U (mc 2 U mn)) ?_
 refine RK J<|cK U (aP fun F=>?_) (aQ fun F=>?_)
 ·refine WS fun _ K=>e7 3 [0,1,2] (mc 3 U (mc 1 U (mc 2 U mn))) U<|rS (CL (F5 ts tsA tsC q p hlen hside I) (aZ [4]) U)<|aY 3 U<|AL U dk fun d=>fq U cu U<|aY 1 U<|RK K<|WS fun _ L=>rP 2 [] (mc 0 U mn) ?_
  have O:kF ts q p=jS ts q p:=(k6 A ⟨C,B⟩).2
  have Z: -400000≤(kF ts q p).Lo∧(kF ts q p).Hi≤400000:=by rw [O]; omega
  have c:(kF ts q p).Lo≤(kF ts q p).Hi:=by rw [O]; omega
  refine rS (NG U ⟨I,I⟩)<|e7 2 [] (mc 0 U mn) U<|rS (NG U ⟨I,I⟩)<|rS (SX (bq (xs:=[(0,.tmp 41),(1,.tmp 44)]) (cs:=(ab.cells (ab.mk (-((kF ts q p).Hi)) (-((kF ts q p).Lo))))) U U (br gK U)) U U)<|sK U cu U<|rP 1 [] mn ?_
  refine RK L<|an<|mo hQ [0] (mc 1 U mn) U ?_
  (have e:=k6 A R; have i:=k6 A ⟨C,B⟩; rw [e.1,e.2,i.2,DK F]<;>rfl)
 refine WK AB<|WS fun _ M=>rP 2 [] (mc 3 U mn) ?_
 have k:=lW D p.aV.toNat (q.aV-p.aV).toNat
 refine e7 3 [0,1] (mc 2 U (mc 1 U mn)) U<|rS (CL (Ah ts tsA tsC p.aV q.aV asm asm I) (aZ [4]) U)<|aY 3 U<|AL U dk fun f=>AL U dk fun g=>sK U cu U<|fq U cu U<|RK M<|WS fun _ N=>e7 20 [0,1,2,0,1,2] (mc 1 U (mc 3 U (mc 4 U mn))) U<|rS (SX (bq (xs:=[(0,.tmp 64),(1,.tmp 74)]) (cs:=(ab.cells (ab.mk ((((ek ts p.aV.toNat (q.aV-p.aV).toNat).Lo)+q.lf.Lo)-p.lf.Hi) ((((ek ts p.aV.toNat (q.aV-p.aV).toNat).Hi)+q.lf.Hi)-p.lf.Lo)))) U U (br gK U)) U U)<|Fi U cu U<|rP 1 [] mn ?_
 refine RK N<|an<|mo hQ [0] (mc 2 U mn) U ?_
 (have e:=k6 A R; rw [e.1,e.2,qF F]<;>rfl)
end
section
open Go.RowKit
theorem I_ (l:aW) (kA:OA) (kC:Nat) (az:List RA) (cA:OA) (cC:Nat) (bA:OA) (bC:Nat) (hraw:tQ l az):
 eA Tryz.prog 31 [(vA (bT.cells (kH l kA kC cA cC bA bC)))] [(rd kA l.aM.length 9 (l.aM.map al.cells)),(rd cA l.aj.length 2 (List.zipWith ao.cells l.aj az)),(eH (aU ao.gh l.aj az)),(rd bA l.ae.length 4 (l.ae.map bI.cells))] (vB (decide (jN l))):=by
 have e:=hraw.rK
 have d:=hraw.rD
 have a:=hraw.mE
 have b:=hraw.ry
 refine bH kr Tryz.func31 U U fun g Q hQ hN=>?_
 try dsimp only
 refine WS fun _ O=>fm U fun f=>aY 1 U<|RK O<|ai fun _ P=>WS fun _ D=>aY 1 U<|rS (LP (bo.cells (bo.mk (bf.mk kA l.aM.length kC))) 0 U bX U U U)<|rS (CL (Mz l.aM kA kC) (aZ [1]) U)<|rP 1 [] mn ?_
 refine cE (t:=7) U (aP fun Z=>?_) (aQ fun Z=>?_)
 ·refine aY 11 U<|RK D<|aL U<|WS fun _ R=>rP 1 [] mn ?_
  refine RK R<|an<|Q1 hQ U U U ?_
  exact cB (dh (.inl I)).symm
 refine rP 6 [] (mc 0 U mn) ?_
 refine cE (t:=13) U (aP fun C=>?_) (aQ fun C=>?_)
 ·refine aY 5 U<|RK D<|aL U<|WS fun _ S=>rP 1 [] mn ?_
  refine RK S<|an<|Q1 hQ U U U ?_
  exact cB (dh (.inl I)).symm
 refine rP 5 [] (mc 0 U mn) ?_
 refine RK D<|cK U (aP fun N=>?_) (aQ fun N=>?_)
 ·refine WS fun _ T=>rP 1 [] mn ?_
  refine RK T<|an<|Q1 hQ U U U ?_
  exact cB (dh (.inl I)).symm
 refine WK P<|ai fun _ AA=>WS fun _ V=>rP 1 [] mn ?_
 refine RK V<|ar ?_
 have A:(0≤l.aj.length)∧(z_ l 0):=by exact ⟨Nat.zero_le _,fun j c hj=>absurd hj (Nat.not_lt_zero _)⟩
 refine bx (ι:={z:Nat // (z≤l.aj.length)∧(z_ l z)}) [1] [0,1,2,3,4] U U (fun z=>[(3,(vI (z.1:Int)))]) (fun z=>[]) (fun _=>rfl) (fun _=>rfl) (fun z=>l.aj.length-z.1) ⟨0,A⟩ (aN U) (aD [0,1,2,3,4]) ?_
 clear A
 rintro ⟨i,⟨W,B⟩⟩ J10 F
 try dsimp only
 refine ai fun _ G=>WS fun _ H=>rP 5 [] (mc 0 U mn) ?_
 refine RK H<|bE U (aQ fun C=>?_) (aP fun C=>?_)
 ·refine bj<|aa<|aa<|au<|KK AA<|WS fun _ L=>rP 1 [] mn ?_
  refine RK L<|an<|Q1 hQ U U U ?_
  exact cB (bD (IN I I B)).symm
 refine WK G<|ai fun _ AB=>ar<|WS fun _ J=>rP 3 [] (mc 0 U mn) ?_
 obtain ⟨x,hx⟩:=aG l.aj i I
 obtain ⟨xa,X⟩:=aG az i I
 have Y:(List.zipWith ao.cells l.aj az)[i]? =some (ao.cells x xa):=cH hx X
 refine rS (IA i U (ay 2 U) uq dc I I)<|rS (nP ((i*2)+1) U (ay 2 U) (Nat.mul_pos I dc) e_ U)<|rS (fI i 1 (vS xa.1 x.aT.length xa.2) U bX (ay 2 U) Y U dc U)<|rP 2 [] mn ?_
 refine RK J<|cK U (aP fun E=>?_) (aQ fun E=>?_)
 ·refine WS fun _ K=>rP 1 [] mn ?_
  refine RK K<|an<|Q1 hQ U U U ?_
  exact cB (dh (Kc hx E)).symm
 refine bM<|aB<|KK AB<|ag<|rP 3 [] mn ?_
 refine ax ?_
 have M:(vI (((i+1):Nat):Int))=(vI ((i:Int)+1)):=by exact cI I
 refine aI (F ⟨(i+1),⟨I,lF B hx I⟩⟩ _ _ _ U os (cO.cons U<|aO U M<|cO.nil _) (aD [0,1,2,3,4]))
theorem wG (d m:Int) (hd:0≤d∧d≤1000) (hm:0≤m∧m≤90000000):
 eA Tryz.prog 147 [(vI d),(vI m)] [] (vI (o8 (d*m) 1000000)):=by
 have J:=OU (a:=d) (b:=m) (A:=1000) (B:=90000000) hd.1 hd.2 hm.1 hm.2
 refine bH kr Tryz.func147 U U fun K Q hQ hN=>?_
 try dsimp only
 refine WS fun _ C=>aY 1 U<|RK C<|WS fun _ D=>aY 2 U<|rS (BI U (FG ⟨I,I⟩))<|aY 1 U<|RK D<|ai fun _ E=>WS fun _ F=>aY 1 U<|rS (BI U (Qn I I))<|rP 1 [] mn ?_
 refine RK F<|cK U (aP fun AA=>?_) (aQ fun AA=>?_)
 ·refine WS fun _ G=>aY 1 U<|rS (BI U (qk I I I))<|rP 2 [] mn ?_
  refine RK G<|an<|Q1 hQ U U U ?_
  exact cI (by unfold o8; omega)
 refine WK E<|WS fun _ H=>aY 1 U<|rS (BI U (qk I I I))<|rP 1 [] mn ?_
 refine RK H<|an<|Q1 hQ U U U ?_
 exact cI (by unfold o8; omega)
theorem Jg (c:ao) (sA:OA) (sC:Nat) (hlen:c.aT.length≤1000000):
 eA Tryz.prog 120 [(vA (de.cells (de.mk c.cU (bf.mk sA c.aT.length sC))))] [(rd sA c.aT.length 3 (c.aT.map ck.cells))] (vB (decide (eL c))):=by
 refine bH kr Tryz.func120 U U fun w0 Q hQ hN=>?_
 try dsimp only
 refine WS fun _ Ad=>fm U fun b2=>aY 1 U<|RK Ad<|ai fun _ Ae=>WS fun _ AM=>e7 2 [] (mc 0 U mn) U<|rS (CL (ig c.cU 0 1000) (aS) U)<|rP 2 [] mn ?_
 refine cE (t:=14) U (bg fun AV=>?_) (bh fun AV=>?_)
 ·refine aY 6 U<|RK AM<|aL U<|WS fun _ Af=>rP 1 [] mn ?_
  refine RK Af<|an<|Q1 hQ U U U ?_
  exact cB (bD fun h=>by have q1:=h.rL; have q2:=h.len; omega).symm
 refine e7 3 [] (mc 0 U mn) U<|rS (CL (ig (c.aT.length:Int) 1 5) (aS) U)<|rP 2 [] mn ?_
 refine RK AM<|cK U (bg fun AW=>?_) (bh fun AW=>?_)
 ·refine WS fun _ Ag=>rP 1 [] mn ?_
  refine RK Ag<|an<|Q1 hQ U U U ?_
  exact cB (bD fun h=>by have q1:=h.rL; have q2:=h.len; omega).symm
 refine WK Ae<|ai fun _ Ah=>WS fun _ Ai=>rP 1 [] mn ?_
 refine RK Ai<|ar ?_
 have A:(0≤c.aT.length)∧(∀ (j:Nat) y,j<0→c.aT[j]? =some y→fh c j y):=by exact ⟨Nat.zero_le _,fun j y hj=>absurd hj (Nat.not_lt_zero _)⟩
 refine bx (ι:={z:Nat // (z≤c.aT.length)∧(∀ (j:Nat) y,j<z→c.aT[j]? =some y→fh c j y)}) [1] [0,1] U U (fun z=>[(3,(vI (z.1:Int)))]) (fun z=>[]) (fun _=>rfl) (fun _=>rfl) (fun z=>c.aT.length-z.1) ⟨0,A⟩ (aN U) (aD [0,1]) ?_
 clear A
 rintro ⟨i,⟨a,C⟩⟩ J9 f
 try dsimp only
 have Ao:=JA a C
 refine ai fun _ g=>WS fun _ l=>rP 5 [] (mc 0 U mn) ?_
 refine RK l<|cK U (aP fun AX=>?_) (aQ fun AX=>?_)
 ·refine WK g<|ai fun _ An=>ar<|WS fun _ p=>rP 3 [] (mc 0 U mn) ?_
  obtain ⟨x,hx⟩:=aG c.aT i I
  have b:=bG ck.cells hx
  refine rS (IA i U (ay 1 U) nF dc I I)<|rS (l4 i 0 (ck.cells x) U bX (ay 1 U) b U dc U U)<|AL U th fun Am=>fq U tG U<|RK p<|ai fun _ B=>cS cf 41 kr<|l0 2 [] (mc 0 U mn) U<|dS (CL (ig x.At 0 86400000) (aS) U)<|dP 2 [] mn ?_
  refine iO (t:=37) U (bg fun AY=>?_) (bh fun AY=>?_)
  ·refine lq 36 U<|cy<|RK B<|aL U<|WS fun _ r=>rP 1 [] mn ?_
   refine RK r<|an<|Q1 hQ U U U ?_
   exact cB (bD fun h=>by have q:=h.sync i x hx; unfold fh at q; (rw [gf I] at q; omega)).symm
  refine dP 3 [] mn ?_
  refine j2 (t:=40) U (aQ fun AZ=>?_) (aP fun AZ=>?_)
  ·refine dP 19 [] (mc 0 U mn) ?_
   refine iO (t:=59) U (aP fun X=>?_) (aQ fun X=>?_)
   ·refine lq 14 U<|cy<|RK B<|aL U<|WS fun _ AA=>rP 1 [] mn ?_
    refine RK AA<|an<|Q1 hQ U U U ?_
    exact cB (bD fun h=>by have q:=h.sync i x hx; unfold fh at q; (rw [gf I] at q; omega)).symm
   refine dP 9 [] (mc 0 U mn) ?_
   refine iO (t:=68) U (aP fun Y=>?_) (aQ fun Y=>?_)
   ·refine lq 5 U<|cy<|RK B<|aL U<|WS fun _ AB=>rP 1 [] mn ?_
    refine RK AB<|an<|Q1 hQ U U U ?_
    exact cB (bD fun h=>by have q:=h.sync i x hx; unfold fh at q; (rw [gf I] at q; omega)).symm
   refine dP 5 [] (mc 0 U mn) ?_
   refine cy<|RK B<|bE U (aQ fun Z=>?_) (aP fun Z=>?_)
   ·refine bM<|aB<|KK An<|ag<|rP 3 [] mn ?_
    refine ax ?_
    have AP:(vI (((i+1):Nat):Int))=(vI ((i:Int)+1)):=by exact cI I
    refine aI (f ⟨(i+1),⟨I,lF C hx (by unfold fh; (rw [gf I]; omega))⟩⟩ _ _ _ U os (cO.cons U<|aO U AP<|cO.nil _) (aD [1,2]))
   refine WS fun _ AC=>rP 1 [] mn ?_
   refine RK AC<|an<|Q1 hQ U U U ?_
   exact cB (bD fun h=>by have q:=h.sync i x hx; unfold fh at q; (rw [gf I] at q; omega)).symm
  refine dP 6 [0,1] (mc 0 U (mc 1 U mn)) ?_
  obtain ⟨y,hy⟩:=aG c.aT (i-1) I
  have d:=bG ck.cells hy
  refine dS (IA (i-1) U (ay 2 U) nF dc I I)<|dS (nP ((i-1)*3) U (ay 2 U) (Nat.mul_pos I dc) e_ U)<|dS (fI (i-1) 0 (vI y.At) U bX (ay 2 U) d U dc U)<|dP 4 [] mn ?_
  refine iO (t:=53) U (aP fun Aa=>?_) (aQ fun Aa=>?_)
  ·refine lq 20 U<|cy<|RK B<|aL U<|WS fun _ s=>rP 1 [] mn ?_
   refine RK s<|an<|Q1 hQ U U U ?_
   exact cB (bD fun h=>by have q:=h.sync i x hx; unfold fh at q; (rw [xJ I hy] at q; omega)).symm
  refine dP 6 [] (mc 0 U mn) ?_
  refine iO (t:=59) U (aP fun X=>?_) (aQ fun X=>?_)
  ·refine lq 14 U<|cy<|RK B<|aL U<|WS fun _ u=>rP 1 [] mn ?_
   refine RK u<|an<|Q1 hQ U U U ?_
   exact cB (bD fun h=>by have q:=h.sync i x hx; unfold fh at q; (rw [gf I] at q; omega)).symm
  refine dP 9 [] (mc 0 U mn) ?_
  refine iO (t:=68) U (aP fun Y=>?_) (aQ fun Y=>?_)
  ·refine lq 5 U<|cy<|RK B<|aL U<|WS fun _ v=>rP 1 [] mn ?_
   refine RK v<|an<|Q1 hQ U U U ?_
   exact cB (bD fun h=>by have q:=h.sync i x hx; unfold fh at q; (rw [gf I] at q; omega)).symm
  refine dP 5 [] (mc 0 U mn) ?_
  refine cy<|RK B<|bE U (aQ fun Z=>?_) (aP fun Z=>?_)
  ·refine bM<|aB<|KK An<|ag<|rP 3 [] mn ?_
   refine ax ?_
   have AO:(vI (((i+1):Nat):Int))=(vI ((i:Int)+1)):=by exact cI I
   refine aI (f ⟨(i+1),⟨I,lF C hx (by unfold fh; (rw [xJ I hy]; omega))⟩⟩ _ _ _ U os (cO.cons U<|aO U AO<|cO.nil _) (aD [1,2]))
  refine WS fun _ w=>rP 1 [] mn ?_
  refine RK w<|an<|Q1 hQ U U U ?_
  exact cB (bD fun h=>by have q:=h.sync i x hx; unfold fh at q; (rw [gf I] at q; omega)).symm
 refine bj<|aa<|aa<|au<|KK Ah<|ai fun _ AD=>WS fun _ AE=>rP 1 [] mn ?_
 refine RK AE<|ar ?_
 have A:(0≤c.aT.length)∧(tn c 0):=by exact ⟨Nat.zero_le _,fun j y hj=>absurd hj (Nat.not_lt_zero _)⟩
 refine bx (ι:={z:Nat // (z≤c.aT.length)∧(tn c z)}) [1] [0,1] U U (fun z=>[(5,(vI (z.1:Int)))]) (fun z=>[]) (fun _=>rfl) (fun _=>rfl) (fun z=>c.aT.length-z.1) ⟨0,A⟩ (aN U) (aD [0,1]) ?_
 clear A
 rintro ⟨m,⟨AR,G⟩⟩ J28 e
 try dsimp only
 have F:=v_ (P:=fh c) I C
 refine ai fun _ AF=>WS fun _ AG=>rP 5 [] (mc 0 U mn) ?_
 refine RK AG<|bE U (aQ fun Ab=>?_) (aP fun Ab=>?_)
 ·refine bj<|aa<|aa<|au<|KK AD<|WS fun _ AN=>rP 1 [] mn ?_
  refine RK AN<|an<|Q1 hQ U U U ?_
  exact cB (dh (JT I I (v_ I C) I G)).symm
 refine WK AF<|ai fun _ AH=>ar<|WS fun _ AI=>rP 1 [] mn ?_
 refine RK AI<|ar ?_
 have A:(0≤m)∧(∀ y,c.aT[m]? =some y→Ew c y 0):=by exact ⟨Nat.zero_le _,fun y _ j o hj=>absurd hj (Nat.not_lt_zero _)⟩
 refine bx (ι:={z:Nat // (z≤m)∧(∀ y,c.aT[m]? =some y→Ew c y z)}) [1,5] [0,1] U U (fun z=>[(6,(vI (z.1:Int)))]) (fun z=>[]) (fun _=>rfl) (fun _=>rfl) (fun z=>m-z.1) ⟨0,A⟩ (aN U) (aD [0,1]) ?_
 clear A
 rintro ⟨k,⟨AS,D⟩⟩ J33 T
 try dsimp only
 refine ai fun _ AJ=>WS fun _ AK=>rP 3 [] mn ?_
 refine RK AK<|bE U (aQ fun Ac=>?_) (aP fun Ac=>?_)
 ·refine bj<|aa<|aa<|au<|aB<|KK AH<|ag<|rP 3 [] mn ?_
  refine ax ?_
  have AQ:(vI (((m+1):Nat):Int))=(vI ((m:Int)+1)):=by exact cI I
  refine aI (e ⟨(m+1),⟨I,Df G D I⟩⟩ _ _ _ U os (cO.cons U<|aO U AQ<|cO.nil _) (aD [0,1]))
 refine WK AJ<|ai fun _ V=>ar<|ai fun _ W=>pD cf [0,1,2,3,4,5,6,7,8,9] [10,11,12,13] [false,false,false,false,false,false,false,false,false,false] [] [(cq b2 119 (de.cells (de.mk c.cU (bf.mk sA c.aT.length sC)))),(rd sA c.aT.length 3 (c.aT.map ck.cells)).ro] [] kr (aD [0,1]) (aD [])<|eS U (FA 1 U e_ U)<|eS U (L1 (vS sA c.aT.length sC) 0 U bX U U)<|eS U (MV U) ?_
 obtain ⟨x,hx⟩:=aG c.aT k I
 have b:=bG ck.cells hx
 refine eS U (IA k U (ay 1 U) nF dc I I)<|eS U (l4 k 0 (ck.cells x) U bX (ay 1 U) b U dc U U)<|eS U (FA 1 U e_ U)<|eS U (L1 (vS sA c.aT.length sC) 0 U bX U U)<|eS U (MV U) ?_
 obtain ⟨y,hy⟩:=aG c.aT m I
 have d:=bG ck.cells hy
 refine eS U (IA m U (ay 1 U) nF dc I I)<|eS U (l4 m 0 (ck.cells y) U bX (ay 1 U) d U dc U U)<|eu U<|oH [10,11] kr (jg ?_<|jg ?_<|rT)
 rotate_left 1
 ·refine NO U U [10,12,13] fun T38 M=>AL U th fun AT=>RD M 1 U<|N1 10<|NO U U [12,13] fun T40 N=>AL U th fun AU=>RD N 2 U<|N1 12<|NO U U [13] fun T42 O=>fq U tG U<|RD O 2 U<|N1 13<|NO U U [] fun T43 R=>sK U tG U<|RD R 2 U<|nR<|KK W<|WS fun _ J=>rP 6 [0,1,2] (mc 2 U (mc 1 U (mc 0 U mn))) ?_
  obtain ⟨Aj,Ak,Al⟩:=uB (fun j z _ hz=>F j z hz) hy (F _ _ hy) (show k<m by omega) hx
  refine aY 1 U<|rS (CL (wG c.cU (y.At-x.At) I I) (aS) U)<|aY 1 U<|RK J<|WS fun _ E=>rP 10 [0,1] (mc 0 U (mc 1 U mn)) ?_
  refine cE (t:=113) U (aP fun H=>?_) (aQ fun H=>?_)
  ·refine aY 10 U<|RK E<|aL U<|WS fun _ K=>rP 1 [] mn ?_
   refine RK K<|an<|Q1 hQ U U U ?_
   exact cB (bD fun h=>by have q:=h.pair m k y x hy I hx; unfold ow at q; omega).symm
  refine rP 10 [0,1] (mc 1 U (mc 0 U mn)) ?_
  refine RK E<|bE U (aQ fun Ap=>?_) (aP fun Ap=>?_)
  ·refine bM<|aB<|KK V<|ag<|rP 3 [] mn ?_
   refine ax ?_
   have S:(vI (((k+1):Nat):Int))=(vI ((k:Int)+1)):=by exact cI I
   refine aI (T ⟨(k+1),⟨I,fun z hz=>by rw [hy] at hz; cases hz; exact lF (D _ hy) hx (by unfold ow; omega)⟩⟩ _ _ _ rfl os (cO.cons rfl<|cO.cons rfl<|aO rfl S<|cO.nil _) (aD [2,3]))
  refine WS fun _ L=>rP 1 [] mn ?_
  refine RK L<|an<|Q1 hQ U U U ?_
  exact cB (bD fun h=>by have q:=h.pair m k y x hy I hx; unfold ow at q; omega).symm
 refine NO U U [11,12,13] fun T38 M=>AL U th fun AT=>RD M 1 U<|N1 11<|NO U U [12,13] fun T40 N=>AL U th fun AU=>RD N 2 U<|N1 12<|NO U U [13] fun T42 O=>sK U tG U<|RD O 2 U<|N1 13<|NO U U [] fun T43 R=>fq U tG U<|RD R 2 U<|nR<|KK W<|WS fun _ J=>rP 6 [0,1,2] (mc 2 U (mc 0 U (mc 1 U mn))) ?_
 obtain ⟨Aj,Ak,Al⟩:=uB (fun j z _ hz=>F j z hz) hy (F _ _ hy) (show k<m by omega) hx
 refine aY 1 U<|rS (CL (wG c.cU (y.At-x.At) I I) (aS) U)<|aY 1 U<|RK J<|WS fun _ E=>rP 10 [0,1] (mc 1 U (mc 0 U mn)) ?_
 refine cE (t:=113) U (aP fun H=>?_) (aQ fun H=>?_)
 ·refine aY 10 U<|RK E<|aL U<|WS fun _ K=>rP 1 [] mn ?_
  refine RK K<|an<|Q1 hQ U U U ?_
  exact cB (bD fun h=>by have q:=h.pair m k y x hy I hx; unfold ow at q; omega).symm
 refine rP 10 [0,1] (mc 0 U (mc 1 U mn)) ?_
 refine RK E<|bE U (aQ fun Ap=>?_) (aP fun Ap=>?_)
 ·refine bM<|aB<|KK V<|ag<|rP 3 [] mn ?_
  refine ax ?_
  have S:(vI (((k+1):Nat):Int))=(vI ((k:Int)+1)):=by exact cI I
  refine aI (T ⟨(k+1),⟨I,fun z hz=>by rw [hy] at hz; cases hz; exact lF (D _ hy) hx (by unfold ow; omega)⟩⟩ _ _ _ rfl os (cO.cons rfl<|cO.cons rfl<|aO rfl S<|cO.nil _) (aD [2,3]))
 refine WS fun _ L=>rP 1 [] mn ?_
 refine RK L<|an<|Q1 hQ U U U ?_
 exact cB (bD fun h=>by have q:=h.pair m k y x hy I hx; unfold ow at q; omega).symm
theorem BP (c:ao) (sA:OA) (sC:Nat) (at_:Int) (hc:eL c) (ha:0≤at_∧at_≤90000000):
 eA Tryz.prog 178 [(vA (de.cells (de.mk c.cU (bf.mk sA c.aT.length sC)))),(vI at_)] [(rd sA c.aT.length 3 (c.aT.map ck.cells))] (vA (ab.cells (hH c at_))):=by
 have e:=hc.len
 have W:=hc.rL
 refine bH kr Tryz.func178 U U fun k Q hQ hN=>?_
 try dsimp only
 refine WS fun _ R=>fm U fun g=>AL U dk fun j=>RK R<|WS fun _ S=>AL U dk fun d=>RK S<|ai fun _ T=>WS fun _ AA=>rP 1 [] mn ?_
 refine RK AA<|ar ?_
 have A:(0≤c.aT.length):=by exact Nat.zero_le _
 refine bx (ι:={z:Nat // (z≤c.aT.length)}) [1,2,4,5] [1,2,3] U U (fun z=>[(6,(vI (z.1:Int)))]) (fun z=>[(cq d 47 (ab.cells (kx c at_ z.1)))]) (fun _=>rfl) (fun _=>rfl) (fun z=>c.aT.length-z.1) ⟨0,A⟩ (aN U) (aD [1,2,3,0]) ?_
 clear A
 rintro ⟨i,X⟩ J8 D
 try dsimp only
 refine ai fun _ V=>WS fun _ E=>rP 5 [] (mc 1 U mn) ?_
 refine RK E<|bE U (aQ fun O=>?_) (aP fun O=>?_)
 ·refine bj<|aa<|aa<|au<|KK T<|WS fun _ J=>rP 1 [] (mc 3 U mn) ?_
  refine fq U cu U<|RK J<|an<|Lt hQ [0] (mc 0 U mn) U ?_
  rw [DZ hc (show c.aT.length≤i by omega)]
 refine WK V<|ai fun _ B=>ar<|WS fun _ F=>rP 3 [] (mc 1 U mn) ?_
 obtain ⟨x,hx⟩:=aG c.aT i I
 have Z:=bG ck.cells hx
 refine rS (IA i U (ay 2 U) nF dc I I)<|rS (l4 i 0 (ck.cells x) U bX (ay 2 U) Z U dc U U)<|AL U th fun a=>fq U tG U<|RK F<|WS fun _ G=>rP 2 [] (mc 2 U mn) ?_
 have Y:=hc.ui hx
 have f:0≤o8 (c.cU*max (at_-x.At) (x.At-at_)) 1000000∧o8 (c.cU*max (at_-x.At) (x.At-at_)) 1000000≤90001:=uf W ha Y.1
 refine e7 8 [] (mc 0 U mn) U<|rS (MX U)<|rS (CL (wG c.cU (max (at_-x.At) (x.At-at_)) I I) (aS) U)<|aY 1 U<|RK G<|WS fun _ H=>e7 10 [] (mc 0 U mn) U<|rS (SX (bq (xs:=[(0,.tmp 38),(1,.tmp 43)]) (cs:=(ab.cells (ab.mk (x.dD.Lo-(o8 (c.cU*(max (at_-x.At) (x.At-at_))) 1000000)) (x.dD.Hi+(o8 (c.cU*(max (at_-x.At) (x.At-at_))) 1000000))))) U U (br gK U)) U U)<|AL U dk fun b=>fq U cu U<|RK H<|ai fun _ C=>WS fun _ AB=>rP 2 [] mn ?_
 refine RK AB<|bE U (aQ fun P=>?_) (aP fun P=>?_)
 ·refine WK C<|ag<|e7 4 [0,1] (mc 5 U (mc 0 U mn)) U<|rS (MX U)<|rP 4 [0,1] (mc 5 U (mc 0 U mn)) ?_
  refine rS (MN U)<|rS (SX (bq (xs:=[(0,.tmp 52),(1,.tmp 57)]) (cs:=(ab.cells (ab.mk (max ((kx c at_ i).Lo) (x.dD.Lo-(o8 (c.cU*(max (at_-x.At) (x.At-at_))) 1000000))) (min ((kx c at_ i).Hi) (x.dD.Hi+(o8 (c.cU*(max (at_-x.At) (x.At-at_))) 1000000)))))) U U (br gK U)) U U)<|I2 U cu U<|ax<|aB<|KK B ?_
  have M:(ab.cells (ab.mk (max ((kx c at_ i).Lo) (x.dD.Lo-(o8 (c.cU*(max (at_-x.At) (x.At-at_))) 1000000))) (min ((kx c at_ i).Hi) (x.dD.Hi+(o8 (c.cU*(max (at_-x.At) (x.At-at_))) 1000000)))))=(ab.cells (kx c at_ (i+1))):=by exact congrArg ab.cells (Cl hx I).symm
  rw [M]
  refine ag<|rP 3 [] mn ?_
  refine ax ?_
  have N:(vI (((i+1):Nat):Int))=(vI ((i:Int)+1)):=by exact cI I
  refine aI (D ⟨(i+1),(by first|omega|(simp only []; omega))⟩ _ _ _ U os (bY 4<|aO U N<|cO.nil _) (aD [2,3,4,5]))
 refine ag<|e7 1 [] (mc 0 U mn) U<|I2 U cu U<|RK C<|ag<|e7 4 [0,1] (mc 5 U (mc 0 U mn)) U<|rS (MX U)<|rP 4 [0,1] (mc 5 U (mc 0 U mn)) ?_
 refine rS (MN U)<|rS (SX (bq (xs:=[(0,.tmp 52),(1,.tmp 57)]) (cs:=(ab.cells (ab.mk (max (x.dD.Lo-(o8 (c.cU*(max (at_-x.At) (x.At-at_))) 1000000)) (x.dD.Lo-(o8 (c.cU*(max (at_-x.At) (x.At-at_))) 1000000))) (min (x.dD.Hi+(o8 (c.cU*(max (at_-x.At) (x.At-at_))) 1000000)) (x.dD.Hi+(o8 (c.cU*(max (at_-x.At) (x.At-at_))) 1000000)))))) U U (br gK U)) U U)<|I2 U cu U<|ax<|aB<|KK B ?_
 have K:(ab.cells (ab.mk (max (x.dD.Lo-(o8 (c.cU*(max (at_-x.At) (x.At-at_))) 1000000)) (x.dD.Lo-(o8 (c.cU*(max (at_-x.At) (x.At-at_))) 1000000))) (min (x.dD.Hi+(o8 (c.cU*(max (at_-x.At) (x.At-at_))) 1000000)) (x.dD.Hi+(o8 (c.cU*(max (at_-x.At) (x.At-at_))) 1000000)))))=(ab.cells (kx c at_ (i+1))):=by exact congrArg ab.cells (Ae hc ha hx I).symm
 rw [K]
 refine ag<|rP 3 [] mn ?_
 refine ax ?_
 have L:(vI (((i+1):Nat):Int))=(vI ((i:Int)+1)):=by exact cI I
 refine aI (D ⟨(i+1),(by first|omega|(simp only []; omega))⟩ _ _ _ U os (bY 4<|aO U L<|cO.nil _) (aD [2,3,4,5]))
theorem HO (l:aW) (kA:OA) (kC:Nat) (az:List RA) (cA:OA) (cC:Nat) (bA:OA) (bC:Nat) (n:Int) (hin:ej l az) (htr:cV l.aM=true) (hbk: ∀ b∈l.ae,jX l b) (hn:0≤n∧n<(l.ae.length:Int)):
 eA Tryz.prog 122 [(vA (bT.cells (kH l kA kC cA cC bA bC))),(vI n)] [(rd kA l.aM.length 9 (l.aM.map al.cells)),(rd cA l.aj.length 2 (List.zipWith ao.cells l.aj az)),(eH (aU ao.gh l.aj az)),(rd bA l.ae.length 4 (l.ae.map bI.cells))] (vI (mQ l n.toNat)):=by
 have AA:=hin.rK
 have S:=hin.rD
 have P:=hin.mE
 have R:=hin.ry
 have T:=hin.side
 refine bH kr Tryz.func122 U U fun X Q hQ hN=>?_
 try dsimp only
 refine WS fun _ G=>fm U fun V=>aY 1 U<|RK G<|ai fun _ H=>WS fun _ AB=>rP 2 [] mn ?_
 refine RK AB<|cK U (aP fun F=>?_) (aQ fun F=>?_)
 ·refine ai fun _ J=>dp cf [11,12] [] [] [0,1,2,3,4] [] U U U U U<|eS U (FA 0 U e_ U)<|eS U (LP (bo.cells (bo.mk (bf.mk kA l.aM.length kC))) 0 U bX U U U)<|eS U (FA 3 U e_ U)<|eS U (L1 (vS bA l.ae.length bC) 0 U bX U U) ?_
  obtain ⟨y,hy⟩:=aG l.ae 0 I
  have A:=bG bI.cells hy
  refine eS U (IA 0 U (ay 4 U) sQ dc U I)<|eS U (nP (0*4) U (ay 4 U) (Nat.mul_pos I dc) e_ U)<|eS U (l4 0 0 (cP.cells y.kv) U bX (ay 4 U) A U dc U U)<|eS U (CL (Rd l.aM kA kC y.kv asm asm) (aZ [1]) U)<|eS U (MV U)<|eS U (EX U)<|eS U (EX U)<|eS U (AG U)<|eu U<|bS U fun T6 L=>AL U dk fun W=>ax (L _ _ (aD [1,2,3,4,5]) ?_)
  refine bS U fun T8 M=>fq U cu U<|ax (M _ _ (aD [1,2,3,4,5]) ?_)
  refine eY U<|KK J<|WS fun _ K=>rP 3 [] (mc 0 U mn) ?_
  refine RK K<|an<|Q1 hQ U U U ?_
  (refine congrArg (Value.int .i64) ?_; rw [show n.toNat=0 by omega]; rw [yk hy,(wj htr (hbk _ (List.mem_of_getElem? hy)).1).2])
 refine WK H<|ai fun _ B=>dp cf [19,20] [] [] [0,1,2,3,4] [] U U U U U<|eS U (FA 0 U e_ U)<|eS U (LP (bo.cells (bo.mk (bf.mk kA l.aM.length kC))) 0 U bX U U U)<|eS U (FA 3 U e_ U)<|eS U (L1 (vS bA l.ae.length bC) 0 U bX U U)<|eS U (MV U)<|eS U (BI U (s8 ⟨I,I⟩)) ?_
 obtain ⟨y,hy⟩:=aG l.ae (((n-1)).toNat) I
 have A:=bG bI.cells hy
 refine eS U (IA (((n-1)).toNat) U (ay 4 U) sQ dc I I)<|eS U (nP ((((n-1)).toNat)*4) U (ay 4 U) (Nat.mul_pos I dc) e_ U)<|eS U (l4 (((n-1)).toNat) 0 (cP.cells y.kv) U bX (ay 4 U) A U dc U U)<|eS U (FA 3 U e_ U)<|eS U (L1 (vS bA l.ae.length bC) 0 U bX U U)<|eS U (MV U) ?_
 obtain ⟨x,hx⟩:=aG l.ae ((n).toNat) I
 have N:=bG bI.cells hx
 refine eS U (IA ((n).toNat) U (ay 4 U) sQ dc I I)<|eS U (nP (((n).toNat)*4) U (ay 4 U) (Nat.mul_pos I dc) e_ U)<|eS U (l4 ((n).toNat) 0 (cP.cells x.kv) U bX (ay 4 U) N U dc U U)<|eS U (CL (Jh l.aM kA kC y.kv x.kv asm asm) (aZ [1]) U)<|eS U (MV U)<|eS U (EX U)<|eS U (EX U)<|eS U (AG U)<|eu U<|bS U fun T11 D=>AL U dk fun O=>ax (D _ _ (aD [1,2,3,4,5]) ?_)
 refine bS U fun T13 E=>fq U cu U<|ax (E _ _ (aD [1,2,3,4,5]) ?_)
 refine eY U<|KK B<|WS fun _ C=>rP 3 [] (mc 0 U mn) ?_
 refine RK C<|an<|Q1 hQ U U U ?_
 (refine congrArg (Value.int .i64) ?_; rw [Aq I hx (by rw [show n.toNat-1=(n-1).toNat by omega]; exact hy),(k6 htr ⟨(hbk _ (List.mem_of_getElem? hy)).1,(hbk _ (List.mem_of_getElem? hx)).1⟩).2])
theorem Kz (l:aW) (kA:OA) (kC:Nat) (az:List RA) (cA:OA) (cC:Nat) (bA:OA) (bC:Nat) (n:Int) (hin:ej l az) (htr:cV l.aM=true) (hok:lI l) (hn:0≤n∧n<(l.ae.length:Int)):
 eA Tryz.prog 175 [(vA (bT.cells (kH l kA kC cA cC bA bC))),(vI n)] [(rd kA l.aM.length 9 (l.aM.map al.cells)),(rd cA l.aj.length 2 (List.zipWith ao.cells l.aj az)),(eH (aU ao.gh l.aj az)),(rd bA l.ae.length 4 (l.ae.map bI.cells))] (vI (dN l n.toNat)):=by
 have G:=hin.rK
 have F:=hin.rD
 have D:=hin.mE
 have E:=hin.ry
 have C:=hok.head
 unfold gi at C
 have H:=E9 htr hok.vh n.toNat
 have AA:=hok.PZ n.toNat I
 refine bH kr Tryz.func175 U U fun K Q hQ hN=>?_
 try dsimp only
 refine WS fun _ A=>fm U fun J=>aY 1 U<|RK A<|ai fun _ B=>cS cf 12 kr<|l0 2 [] (mc 0 U mn) U<|dS (CL (HO l kA kC az cA cC bA bC n hin htr (by exact hok.vh) hn) (aZ [1,2,3,4]) U)<|dS (BI U (FG ⟨I,I⟩))<|l0 6 [] (mc 0 U mn) U<|dS (BI U (qk I I I))<|dP 1 [] mn ?_
 refine cy<|RK B<|an<|Q1 hQ U U U ?_
 exact cI (by unfold dN o8; rw [Int.mul_comm])
theorem M7 (l:aW) (kA:OA) (kC:Nat) (az:List RA) (cA:OA) (cC:Nat) (bA:OA) (bC:Nat) (hin:ej l az) (htr:cV l.aM=true):
 eA Tryz.prog 90 [(vA (bT.cells (kH l kA kC cA cC bA bC)))] [(rd kA l.aM.length 9 (l.aM.map al.cells)),(rd cA l.aj.length 2 (List.zipWith ao.cells l.aj az)),(eH (aU ao.gh l.aj az)),(rd bA l.ae.length 4 (l.ae.map bI.cells))] (vB (decide (lI l))):=by
 have Ae:=hin.rK
 have Aa:=hin.rD
 have AX:=hin.mE
 have AZ:=hin.ry
 have Ab:=hin.side
 have Ac:=jM htr
 have AW:=ky htr
 refine bH kr Tryz.func90 U U fun w0 Q hQ hN=>?_
 try dsimp only
 refine WS fun _ AM=>fm U fun b2=>aY 1 U<|RK AM<|ai fun _ AN=>WS fun _ D=>e7 2 [] (mc 0 U mn) U<|rS (CL (ig l.gG 1 5000) (aS) U)<|rP 2 [] mn ?_
 refine cE (t:=10) U (bg fun AC=>?_) (bh fun AC=>?_)
 ·refine aY 35 U<|RK D<|aL U<|WS fun _ AO=>rP 1 [] mn ?_
  refine RK AO<|an<|Q1 hQ U U U ?_
  exact cB (bD fun h=>by have q:=h.head; unfold gi at q; omega).symm
 refine e7 3 [] (mc 0 U mn) U<|rS (CL (ig (l.aj.length:Int) 1 4) (aS) U)<|rP 3 [] mn ?_
 refine cE (t:=17) U (bg fun AD=>?_) (bh fun AD=>?_)
 ·refine aY 28 U<|RK D<|aL U<|WS fun _ AP=>rP 1 [] mn ?_
  refine RK AP<|an<|Q1 hQ U U U ?_
  exact cB (bD fun h=>by have q:=h.head; unfold gi at q; omega).symm
 refine e7 3 [] (mc 0 U mn) U<|rS (CL (ig (l.ae.length:Int) 1 6) (aS) U)<|rP 3 [] mn ?_
 refine cE (t:=24) U (bg fun AE=>?_) (bh fun AE=>?_)
 ·refine aY 21 U<|RK D<|aL U<|WS fun _ AQ=>rP 1 [] mn ?_
  refine RK AQ<|an<|Q1 hQ U U U ?_
  exact cB (bD fun h=>by have q:=h.head; unfold gi at q; omega).symm
 refine e7 6 [] (mc 0 U mn) U<|rS (CL (ig l.cG 0 ((l.ae.length:Int)-1)) (aS) U)<|rP 3 [] mn ?_
 refine cE (t:=34) U (bg fun AF=>?_) (bh fun AF=>?_)
 ·refine aY 11 U<|RK D<|aL U<|WS fun _ AR=>rP 1 [] mn ?_
  refine RK AR<|an<|Q1 hQ U U U ?_
  exact cB (bD fun h=>by have q:=h.head; unfold gi at q; omega).symm
 refine e7 2 [] (mc 0 U mn) U<|rS (CL (ig l.eg 0 3) (aS) U)<|rP 3 [] mn ?_
 refine cE (t:=40) U (bg fun AG=>?_) (bh fun AG=>?_)
 ·refine aY 5 U<|RK D<|aL U<|WS fun _ AS=>rP 1 [] mn ?_
  refine RK AS<|an<|Q1 hQ U U U ?_
  exact cB (bD fun h=>by have q:=h.head; unfold gi at q; omega).symm
 refine e7 2 [] (mc 0 U mn) U<|rS (CL (ig l.cN 0 3) (aS) U)<|rP 2 [] mn ?_
 refine RK D<|cK U (bg fun AH=>?_) (bh fun AH=>?_)
 ·refine WS fun _ N=>rP 1 [] mn ?_
  refine RK N<|an<|Q1 hQ U U U ?_
  exact cB (bD fun h=>by have q:=h.head; unfold gi at q; omega).symm
 refine WK AN<|ai fun _ O=>WS fun _ R=>rP 1 [] mn ?_
 refine RK R<|ar ?_
 have A:(0≤l.aj.length)∧(∀ (j:Nat) y,j<0→l.aj[j]? =some y→eL y):=by exact ⟨Nat.zero_le _,fun j y hj=>absurd hj (Nat.not_lt_zero _)⟩
 refine bx (ι:={z:Nat // (z≤l.aj.length)∧(∀ (j:Nat) y,j<z→l.aj[j]? =some y→eL y)}) [1] [0,1,2,3,4] U U (fun z=>[(3,(vI (z.1:Int)))]) (fun z=>[]) (fun _=>rfl) (fun _=>rfl) (fun z=>l.aj.length-z.1) ⟨0,A⟩ (aN U) (aD [0,1,2,3,4]) ?_
 clear A
 rintro ⟨i,⟨AT,F⟩⟩ J13 K
 try dsimp only
 refine ai fun _ S=>WS fun _ T=>rP 5 [] (mc 0 U mn) ?_
 refine RK T<|cK U (aP fun AI=>?_) (aQ fun AI=>?_)
 ·refine WK S<|ai fun _ Af=>ar<|WS fun _ V=>rP 3 [] (mc 0 U mn) ?_
  obtain ⟨x,hx⟩:=aG l.aj i I
  obtain ⟨xa,J⟩:=aG az i I
  have AV:(List.zipWith ao.cells l.aj az)[i]? =some (ao.cells x xa):=cH hx J
  refine rS (IA i U (ay 2 U) uq dc I I)<|rS (l4 i 0 (de.cells (de.mk x.cU (bf.mk xa.1 x.aT.length xa.2))) U bX (ay 2 U) AV U dc U U) ?_
  have Ad:=(hin.PY _ _ _ hx J).2
  refine rS (CL (Jg x xa.1 xa.2 asm) (aC (show gI _ (rd xa.1 x.aT.length 3 (x.aT.map ck.cells)).holds from (b_ 3 U (bu hx J (by simp [ao.gh]))))<|aS) U)<|rP 1 [] mn ?_
  refine RK V<|bE U (bh fun Ag=>?_) (bg fun Ag=>?_)
  ·refine bM<|aB<|KK Af<|ag<|rP 3 [] mn ?_
   refine ax ?_
   have u:(vI (((i+1):Nat):Int))=(vI ((i:Int)+1)):=by exact cI I
   refine aI (K ⟨(i+1),⟨I,lF (P:=fun _ y=>eL y) F hx Ag⟩⟩ _ _ _ U os (cO.cons U<|aO U u<|cO.nil _) (aD [0,1,2,3,4]))
  refine WS fun _ W=>rP 1 [] mn ?_
  refine RK W<|an<|Q1 hQ U U U ?_
  exact cB (bD fun h=>Ag (h.clock _ (aR hx))).symm
 refine bj<|aa<|aa<|au<|KK O<|ai fun _ X=>WS fun _ Y=>rP 1 [] mn ?_
 refine RK Y<|ar ?_
 have A:(0≤l.ae.length)∧(∀ (j:Nat) y,j<0→l.ae[j]? =some y→jX l y):=by exact ⟨Nat.zero_le _,fun j y hj=>absurd hj (Nat.not_lt_zero _)⟩
 refine bx (ι:={z:Nat // (z≤l.ae.length)∧(∀ (j:Nat) y,j<z→l.ae[j]? =some y→jX l y)}) [1] [0,1,2,3,4] U U (fun z=>[(4,(vI (z.1:Int)))]) (fun z=>[]) (fun _=>rfl) (fun _=>rfl) (fun z=>l.ae.length-z.1) ⟨0,A⟩ (aN U) (aD [0,1,2,3,4]) ?_
 clear A
 rintro ⟨m,⟨AU,B⟩⟩ J22 L
 try dsimp only
 refine ai fun _ Z=>WS fun _ a=>rP 5 [] (mc 0 U mn) ?_
 refine RK a<|bE U (aQ fun AJ=>?_) (aP fun AJ=>?_)
 ·refine bj<|aa<|aa<|au<|KK X<|ai fun _ e=>WS fun _ f=>rP 1 [] mn ?_
  refine RK f<|ar ?_
  have A:(0≤l.ae.length)∧(∀ j,j<0→1≤mQ l j):=by exact ⟨Nat.zero_le _,fun j hj=>absurd hj (Nat.not_lt_zero _)⟩
  refine bx (ι:={z:Nat // (z≤l.ae.length)∧(∀ j,j<z→1≤mQ l j)}) [1] [0,1,2,3,4] U U (fun z=>[(5,(vI (z.1:Int)))]) (fun z=>[]) (fun _=>rfl) (fun _=>rfl) (fun z=>l.ae.length-z.1) ⟨0,A⟩ (aN U) (aD [0,1,2,3,4]) ?_
  clear A
  rintro ⟨n,⟨AB,C⟩⟩ J32 M
  try dsimp only
  have AY:=vW (P:=jX l) I B
  refine ai fun _ g=>WS fun _ k=>rP 5 [] (mc 0 U mn) ?_
  refine RK k<|bE U (aQ fun AL=>?_) (aP fun AL=>?_)
  ·refine bj<|aa<|aa<|au<|KK e<|WS fun _ s=>rP 1 [] mn ?_
   refine RK s<|an<|Q1 hQ U U U ?_
   exact cB (dh (yz (by unfold gi; omega) (vW I F) (vW I B) (fun j hj=>C j I))).symm
  refine WK g<|ai fun _ o=>ar<|WS fun _ p=>e7 2 [] (mc 0 U mn) U<|rS (CL (HO l kA kC az cA cC bA bC (n:Int) hin htr asm I) (aZ [1,2,3,4]) U)<|rP 1 [] mn ?_
  refine RK p<|bE U (aQ fun E=>?_) (aP fun E=>?_)
  ·refine bM<|aB<|KK o<|ag<|rP 3 [] mn ?_
   refine ax ?_
   have w:(vI (((n+1):Nat):Int))=(vI ((n:Int)+1)):=by exact cI I
   refine aI (M ⟨(n+1),⟨I,fun j hj=>by rcases Nat.lt_or_ge j n with q|q; exact C j q; (obtain rfl:j=n:=by omega); simp only [Int.toNat_natCast] at E; omega⟩⟩ _ _ _ rfl os (cO.cons rfl<|aO rfl w<|cO.nil _) (aD [0,1,2,3,4]))
  refine WS fun _ r=>rP 1 [] mn ?_
  refine RK r<|an<|Q1 hQ U U U ?_
  exact cB (bD fun h=>by have q:=h.PZ n I; simp only [Int.toNat_natCast] at E; omega).symm
 refine WK Z<|ai fun _ b=>ar<|ai fun _ H=>cS cf 24 kr<|lq 1 U<|dS (LP (bo.cells (bo.mk (bf.mk kA l.aM.length kC))) 0 U bX U U U)<|dP 3 [] (mc 0 U mn) ?_
 obtain ⟨y,hy⟩:=aG l.ae m I
 have AA:=bG bI.cells hy
 refine dS (IA m U (ay 4 U) sQ dc I I)<|dS (nP (m*4) U (ay 4 U) (Nat.mul_pos I dc) e_ U)<|dS (l4 m 0 (cP.cells y.kv) U bX (ay 4 U) AA U dc U U)<|dS (CL (qU l.aM kA kC y.kv asm asm) (aZ [1]) U)<|dP 2 [] mn ?_
 refine iO (t:=77) U (bg fun G=>?_) (bh fun G=>?_)
 ·refine lq 13 U<|cy<|RK H<|aL U<|WS fun _ c=>rP 1 [] mn ?_
  refine RK c<|an<|Q1 hQ U U U ?_
  exact cB (bD fun h=>by have q:=h.vh _ (aR hy); have q2:=q.2; first|exact G q.1|omega).symm
 refine l0 3 [] (mc 0 U mn) U<|dS (IA m U (ay 4 U) sQ dc I I)<|dS (nP ((m*4)+3) U (ay 4 U) (Nat.mul_pos I dc) e_ U)<|dS (fI m 3 (vI y.jr) U bX (ay 4 U) AA U dc U)<|l0 4 [] (mc 0 U mn) U<|dS (CL (ig y.jr 0 ((l.aj.length:Int)-1)) (aS) U)<|dP 2 [] mn ?_
 refine cy<|RK H<|bE U (bh fun AK=>?_) (bg fun AK=>?_)
 ·refine bM<|aB<|KK b<|ag<|rP 3 [] mn ?_
  refine ax ?_
  have v:(vI (((m+1):Nat):Int))=(vI ((m:Int)+1)):=by exact cI I
  refine aI (L ⟨(m+1),⟨I,lF (P:=fun _ y=>jX l y) B hy ⟨G,I,I⟩⟩⟩ _ _ _ U os (cO.cons U<|aO U v<|cO.nil _) (aD [0,1,2,3,4]))
 refine WS fun _ d=>rP 1 [] mn ?_
 refine RK d<|an<|Q1 hQ U U U ?_
 exact cB (bD fun h=>by have q:=h.vh _ (aR hy); have q2:=q.2; first|exact G q.1|omega).symm
end
section
open Go.RowKit
theorem Bk (r:cr) (kA:OA) (kC:Nat) (az:List RA) (cA:OA) (cC:Nat) (bA:OA) (bC:Nat) (slA:OA) (slC:Nat) (drA:OA) (drC:Nat) (ha:List cD) (heA:OA) (heC:Nat) (hraw:tm r az ha):
 eA Tryz.prog 6 [(vA (cj.cells (pZ r kA kC cA cC bA bC slA slC drA drC heA heC)))] [(rd kA r.aA.aM.length 9 (r.aA.aM.map al.cells)),(rd cA r.aA.aj.length 2 (List.zipWith ao.cells r.aA.aj az)),(eH (aU ao.gh r.aA.aj az)),(rd bA r.aA.ae.length 4 (r.aA.ae.map bI.cells)),(rd slA r.aH.length 1 (r.aH.map iC)),(rd drA r.cm.length 1 (r.cm.map iC)),(rd heA r.aq.length 1 (List.zipWith cz r.aq ha)),(eH (aU iA r.aq ha))] (vB (decide (je r))):=by
 have AC:=hraw.line
 have AH:=hraw.iR
 have AJ:=hraw.has
 have AG:=hraw.iK
 have AE:=hraw.draw
 refine bH kr Tryz.func6 U U fun w0 Q hQ hN=>?_
 try dsimp only
 refine WS fun _ m=>fm U fun b2=>aY 1 U<|RK m<|ai fun _ o=>WS fun _ H=>aY 1 U<|rS (LP (bT.cells (kH r.aA kA kC cA cC bA bC)) 0 U bX U U U)<|rS (CL (I_ r.aA kA kC az cA cC bA bC asm) (aZ [1,2,3,4]) U)<|rP 1 [] mn ?_
 refine cE (t:=8) U (aP fun l=>?_) (aQ fun l=>?_)
 ·refine aY 17 U<|RK H<|aL U<|WS fun _ p=>rP 1 [] mn ?_
  refine RK p<|an<|Q1 hQ U U U ?_
  exact cB (dh (po (.inl l))).symm
 refine rP 6 [] (mc 0 U mn) ?_
 refine cE (t:=14) U (aP fun AM=>?_) (aQ fun AM=>?_)
 ·refine aY 11 U<|RK H<|aL U<|WS fun _ q=>rP 1 [] mn ?_
  refine RK q<|an<|Q1 hQ U U U ?_
  exact cB (dh (po (.inr I))).symm
 refine rP 6 [] (mc 0 U mn) ?_
 refine cE (t:=20) U (aP fun f=>?_) (aQ fun f=>?_)
 ·refine aY 5 U<|RK H<|aL U<|WS fun _ s=>rP 1 [] mn ?_
  refine RK s<|an<|Q1 hQ U U U ?_
  exact cB (dh (po (.inr I))).symm
 refine rP 5 [] (mc 0 U mn) ?_
 refine RK H<|cK U (aP fun k=>?_) (aQ fun k=>?_)
 ·refine WS fun _ u=>rP 1 [] mn ?_
  refine RK u<|an<|Q1 hQ U U U ?_
  exact cB (dh (po (.inr I))).symm
 refine WK o<|ai fun _ v=>WS fun _ N=>rP 1 [] mn ?_
 refine RK N<|ar ?_
 have B:(0≤r.aq.length)∧(ly r 0):=by exact ⟨Nat.zero_le _,AD⟩
 refine bx (ι:={z:Nat // (z≤r.aq.length)∧(ly r z)}) [1] [0,1,2,3,4,5,6,7,8] U U (fun z=>[(3,(vI (z.1:Int)))]) (fun z=>[]) (fun _=>rfl) (fun _=>rfl) (fun z=>r.aq.length-z.1) ⟨0,B⟩ (aN U) (aD [0,1,2,3,4,5,6,7,8]) ?_
 clear B
 rintro ⟨i,⟨AA,F⟩⟩ J11 L
 try dsimp only
 refine ai fun _ O=>WS fun _ P=>rP 5 [] (mc 0 U mn) ?_
 refine RK P<|bE U (aQ fun AM=>?_) (aP fun AM=>?_)
 ·refine bj<|aa<|aa<|au<|KK v<|WS fun _ b=>rP 1 [] mn ?_
  refine RK b<|an<|Q1 hQ U U U ?_
  exact cB (bD (GC l I F I)).symm
 refine WK O<|ai fun _ R=>ar<|ai fun _ S=>WS fun _ T=>rP 3 [] (mc 0 U mn) ?_
 obtain ⟨ht,D⟩:=aG r.aq i I
 obtain ⟨A,C⟩:=aG ha i I
 have E:(List.zipWith cz r.aq ha)[i]? =some (cz ht A):=cH D C
 refine rS (IA i U (ay 7 U) lk dc I I)<|rS (fI i 0 (vS A.1.1 ht.length A.1.2) U bX (ay 7 U) E U dc U) ?_
 obtain ⟨AI,AF,y⟩:=hraw.my _ _ _ D C
 refine rP 2 [] mn ?_
 refine RK T<|cK U (aP fun J=>?_) (aQ fun J=>?_)
 ·refine WS fun _ AL=>rP 1 [] mn ?_
  refine RK AL<|an<|Q1 hQ U U U ?_
  exact cB (dh (Bo D J)).symm
 refine WK S<|WS fun _ V=>rP 1 [] mn ?_
 refine RK V<|ar ?_
 have B:(0≤ht.length)∧(mY ht 0):=by exact ⟨Nat.zero_le _,BO⟩
 refine bx (ι:={z:Nat // (z≤ht.length)∧(mY ht z)}) [1,3] [0,1,2,3,4,5,6,7,8] U U (fun z=>[(4,(vI (z.1:Int)))]) (fun z=>[]) (fun _=>rfl) (fun _=>rfl) (fun z=>ht.length-z.1) ⟨0,B⟩ (aN U) (aD [0,1,2,3,4,5,6,7,8]) ?_
 clear B
 rintro ⟨j,⟨AB,G⟩⟩ J20 M
 try dsimp only
 refine ai fun _ W=>WS fun _ X=>e7 4 [] (mc 0 U mn) U<|rS (IA i U (ay 7 U) lk dc I I)<|rS (fI i 0 (vS A.1.1 ht.length A.1.2) U bX (ay 7 U) E U dc U)<|rP 2 [] mn ?_
 refine RK X<|bE U (aQ fun g=>?_) (aP fun g=>?_)
 ·refine bj<|aa<|aa<|au<|aB<|KK R<|ag<|rP 3 [] mn ?_
  refine ax ?_
  have e:(vI (((i+1):Nat):Int))=(vI ((i:Int)+1)):=by exact cI I
  refine aI (L ⟨(i+1),⟨I,AT F D (Dw J G I)⟩⟩ _ _ _ U os (cO.cons U<|aO U e<|cO.nil _) (aD [0,1,2,3,4,5,6,7,8]))
 refine WK W<|ai fun _ Y=>ar<|WS fun _ Z=>e7 3 [] (mc 0 U mn) U<|rS (IA i U (ay 7 U) lk dc I I)<|rS (fI i 0 (vS A.1.1 ht.length A.1.2) U bX (ay 7 U) E U dc U)<|rP 1 [] mn ?_
 obtain ⟨d,hd⟩:=aG ht j I
 obtain ⟨da,w⟩:=aG A.2 j I
 have x:(List.zipWith av.cells ht A.2)[j]? =some (av.cells d da):=cH hd w
 refine rS (IA j U (show gI _ (rd A.1.1 ht.length 7 (List.zipWith av.cells ht A.2)).holds from (b_ 8 U (bu D C bZ))) rI dc I I)<|rS (nP ((j*7)+4) U (show gI _ (rd A.1.1 ht.length 7 (List.zipWith av.cells ht A.2)).holds from (b_ 8 U (bu D C bZ))) (Nat.mul_pos I dc) e_ U)<|rS (nP (((j*7)+4)+2) U (show gI _ (rd A.1.1 ht.length 7 (List.zipWith av.cells ht A.2)).holds from (b_ 8 U (bu D C bZ))) (Nat.mul_pos I dc) e_ U)<|rS (fI j 6 (vS da.1 d.bW.ah.length da.2) U bX (show gI _ (rd A.1.1 ht.length 7 (List.zipWith av.cells ht A.2)).holds from (b_ 8 U (bu D C bZ))) x U dc U) ?_
 have AK:=y d (aR hd)
 refine rP 2 [] mn ?_
 refine RK Z<|bE U (aQ fun K=>?_) (aP fun K=>?_)
 ·refine bM<|aB<|KK Y<|ag<|rP 3 [] mn ?_
  refine ax ?_
  have c:(vI (((j+1):Nat):Int))=(vI ((j:Int)+1)):=by exact cI I
  refine aI (M ⟨(j+1),⟨I,AW G hd K⟩⟩ _ _ _ U os (cO.cons U<|cO.cons U<|aO U c<|cO.nil _) (aD [0,1,2,3,4,5,6,7,8]))
 refine WS fun _ a=>rP 1 [] mn ?_
 refine RK a<|an<|Q1 hQ U U U ?_
 exact cB (dh (DI D hd K)).symm
end
section
open Go.RowKit
abbrev lU (r:Nat):aw:=k9 r (.deferred (some []))
theorem Mp (rs:List Nat):(bB (rs.map lU)).wr=true:=by
 show (rs.map lU).all (·.wr)=true
 rw [eM]
 intro X hX
 obtain ⟨r,_,rfl⟩:=List.mem_map.1 hX
 rfl
theorem vr {E:eU} {c:Code} {Q:cY} {D:List Deferred} {L:List (Nat×Value)} {C:List aw} {ι:Type} (Di:ι→List Deferred) (Li:ι→List (Nat×Value)) (Ci:ι→List aw) (μ:ι→Nat) (x0:ι)
 (hD:D=Di x0) (h0:cO L (Li x0)) (hC: ∀ w,St E.S E.w0 C w→St E.S E.w0 (Ci x0) w)
 (round: ∀ x (J:Act→World→Prop),(∀ y D' L' C',D'=Di y→μ y<μ x→cO L' (Li y)→(∀ w,St E.S E.w0 C' w→St E.S E.w0 (Ci y) w)→KJ E J D' L' C')→WJ E c (Exit.then J Q) (Di x) (Li x) (Ci x)):WJ E (.loop c) Q D L C:=by
 intro a w hf hs
 subst hD
 have H: ∃ x,Fr E.n (Di x) (Li x) a∧St E.S E.w0 (Ci x) w:=⟨x0,hf.sub h0,hC w hs⟩
 clear hf hs
 have key: ∀ (m:Nat) (a:Act) (w:World),(∃ x,μ x=m∧Fr E.n (Di x) (Li x) a∧St E.S E.w0 (Ci x) w)→(Code.loop c).wpIn (Fw E.r) 0 E.P Q a w:=by
  intro m a w hx
  refine wpIn_loop (fun a w=> ∃ x,Fr E.n (Di x) (Li x) a∧St E.S E.w0 (Ci x) w) (fun a w=>leastOf fun k=> ∃ x,μ x=k∧Fr E.n (Di x) (Li x) a∧St E.S E.w0 (Ci x) w) (by obtain ⟨x,_,h⟩:=hx; exact ⟨x,h⟩) ?_
  intro a w hx
  have F: ∃ k,∃ x,μ x=k∧Fr E.n (Di x) (Li x) a∧St E.S E.w0 (Ci x) w:=by obtain ⟨x,h⟩:=hx; exact ⟨_,x,rfl,h⟩
  obtain ⟨x,K,AA,M⟩:=(leastOf_spec F).1
  refine round x _ ?_ a w AA M
  intro y D' L' C' hD G A B a' w' hf' hs'
  subst hD
  refine ⟨⟨y,hf'.sub A,B _ hs'⟩,?_⟩
  rw [← K]
  exact Nat.lt_of_le_of_lt ((leastOf_spec ⟨_,y,U,hf'.sub A,B _ hs'⟩).2 _ ⟨y,U,hf'.sub A,B _ hs'⟩) G
 obtain ⟨x,h⟩:=H
 exact key _ a w ⟨x,U,h⟩
theorem St.TI {S:BS} {w0 w:World} {C X:List aw} {A:aw} (h:St S w0 (A::bB X::C) w):St S w0 (bB (A::X)::C) w:=by
 have B:St S w0 (bB X::A::C) w:=h.perm (List.Perm.swap _ _ _)
 have D:St S w0 ((A::X)++C) w:=B.g8.perm (List.perm_middle (a:=A) (l₁:=X) (l₂:=C))
 exact D.tied
theorem HK {E:eU} {K:Act→World→Prop} {D:List Deferred} {L:List (Nat×Value)} {C C1 X:List aw} {A:aw} (i j:Nat) (hn:decide (j::i::(List.range C.length).filter fun k=>k != i&&k != j).Nodup=true) (hC:kz C (j::i::(List.range C.length).filter fun k=>k != i&&k != j)=A::bB X::C1)
 (h:KJ E K D L (bB (A::X)::C1)):KJ E K D L C:=fun a w hf hs=>h a w hf ((St.kz _ hn hC hs).TI)
theorem DC {E:eU} {K:Act→World→Prop} {D:List Deferred} {L:List (Nat×Value)} {C:List aw} (h:KJ E K D L (bB []::C)):KJ E K D L C:=fun a w hf hs=>h a w hf hs.Oq
theorem O5 {E:eU} {K:Act→World→Prop} {D:List Deferred} {L:List (Nat×Value)} (C1 C2:List aw) (h:KJ E K D L (bB C1::C2)):KJ E K D L (C1++C2):=fun a w hf hs=>h a w hf (St.tied hs)
theorem Ni {E:eU} {fn:Func} {R:Ending→World→Prop} {D:List Deferred} {L:List (Nat×Value)} {C C1:List aw} {rs:List Nat} (i:Nat) (hn:decide (i::(List.range C.length).filter fun k=>k != i).Nodup=true) (hC:kz C (i::(List.range C.length).filter fun k=>k != i)=bB (rs.map lU)::C1)
 (h:LJ E fn R D L C1):LJ E fn R (rs.map lp++D) L C:=by
 have key: ∀ rs:List Nat,LJ E fn R (rs.map lp++D) L (bB (rs.map lU)::C1):=by
  intro rs
  induction rs with
  |nil=>exact fun a w hf hs=>h a w hf (hs.take (List.sublist_cons_self _ _))
  |cons r rs ih=>
   have A:LJ E fn R (lp r::(rs.map lp++D)) L (lU r::bB (rs.map lU)::C1):=oG 0 rfl rfl (fun a w hf hs=>ih a w hf (hs.take (List.sublist_cons_self _ _)))
   intro a w hf hs
   refine A a w hf ?_
   have B:St E.S E.w0 ((lU r::rs.map lU)++C1) w:=St.g8 (C1:=lU r::rs.map lU) hs
   have F:St E.S E.w0 (rs.map lU++(lU r::C1)) w:=B.perm (List.perm_middle (a:=lU r) (l₁:=rs.map lU) (l₂:=C1)).symm
   exact F.tied.perm (List.Perm.swap _ _ _)
 exact fun a w hf hs=>key rs a w hf (St.kz _ hn hC hs)
theorem KM {E:eU} {fn:Func} {R:Ending→World→Prop} {L:List (Nat×Value)} {C C1:List aw} {rs:List Nat} (i:Nat) (hn:decide (i::(List.range C.length).filter fun k=>k != i).Nodup=true) (hC:kz C (i::(List.range C.length).filter fun k=>k != i)=bB (rs.map lU)::C1)
 (h:LJ E fn R [] L C1):LJ E fn R (rs.map lp) L C:=by
 have:=Ni (D:=[]) i hn hC h
 rwa [List.append_nil] at this
end
section
open Go.RowKit
theorem Mi (x:Int):
 eA Tryz.prog 146 [(vI x)] [] (vB false):=by
 refine bH kr Tryz.func146 U U fun C Q hQ hN=>?_
 try dsimp only
 refine WS fun _ A=>aY 1 U<|RK A<|WS fun _ B=>rP 4 [] mn ?_
 refine RK B<|an<|Q1 hQ U U U ?_
 simp
theorem Mw (x y:Int):
 eA Tryz.prog 105 [(vI x),(vI y)] [] (vB (decide (x<y))):=by
 refine bH kr Tryz.func105 U U fun C Q hQ hN=>?_
 try dsimp only
 refine WS fun _ A=>aY 1 U<|RK A<|WS fun _ B=>aY 1 U<|rS (CL (Mi x) (aS) U)<|rP 11 [] mn ?_
 refine RK B<|an<|Q1 hQ U U U ?_
 exact cB (decide_eq_decide.2 I)
theorem G3 (l:List Int) (lA:OA) (lC:Nat) (hlen:l.length≤1000000):
 Gz Tryz.prog 99 [(vS lA l.length lC),(vI 0),(vI (l.length:Int))] [] (own lA lC 3 1 (l.map iC)) (fun (x:(List Int))=>(vT [])) (fun (x:(List Int))=>x.Perm l∧x.Pairwise (· ≤ ·)) (fun (x:(List Int))=>(own lA lC 3 1 (x.map iC))):=by
 refine pj kr Tryz.func99 U U fun g Q hQ hN=>?_
 try dsimp only
 refine WS fun _ X=>aY 1 U<|rS (SX (cM (r:= .int .i64 1) U U U (iP ⟨dc,dc⟩)) U U)<|rP 1 [] mn ?_
 refine RK X<|ar ?_
 have A:(1≤1∧(1≤l.length∨1=1))∧(l.length=l.length)∧(l.Perm l)∧(PH l 1):=by exact ⟨I,rfl,List.Perm.refl _,Lx⟩
 refine bx (ι:={z:Nat×(List Int) // (1≤z.1∧(z.1≤l.length∨z.1=1))∧(z.2.length=l.length)∧(z.2.Perm l)∧(PH z.2 z.1)}) [0,1,2] [] U U (fun z=>[(6,(vI (z.1.1:Int)))]) (fun z=>[(own lA lC 3 1 (z.1.2.map iC))]) (fun _=>rfl) (fun _=>rfl) (fun z=>l.length-z.1.1) ⟨(1,l),A⟩ (aN U) (aD [0]) ?_
 clear A
 rintro ⟨⟨i,m⟩,⟨K,AB,E,F⟩⟩ J2 M
 try dsimp only at K AB E F
 try dsimp only
 refine ai fun _ Y=>WS fun _ Z=>rP 3 [] mn ?_
 refine RK Z<|bE U (aQ fun e=>?_) (aP fun e=>?_)
 ·refine bj<|aa<|aa<|au<|LM hN m 0 [] mn U U U U ?_
  exact ⟨E,LR F I⟩
 refine WK Y<|ai fun _ O=>ar<|WS fun _ b=>rP 2 [] mn ?_
 refine RK b<|ar ?_
 have A:(i≤i)∧(m.length=l.length)∧(m.Perm l)∧(OR m i i):=by exact ⟨Nat.le_refl _,AB,E,F8 F I⟩
 refine bx (ι:={z:Nat×(List Int) // (z.1≤i)∧(z.2.length=l.length)∧(z.2.Perm l)∧(OR z.2 i z.1)}) [0,1,2,6] [] U U (fun z=>[(7,(vI (z.1.1:Int)))]) (fun z=>[(own lA lC 3 1 (z.1.2.map iC))]) (fun _=>rfl) (fun _=>rfl) (fun z=>z.1.1) ⟨(i,m),A⟩ (aN U) (aD [0]) ?_
 clear A
 rintro ⟨⟨j,q⟩,⟨G,B,C,D⟩⟩ J8 W
 try dsimp only at G B C D
 try dsimp only
 refine ai fun _ c=>ai fun _ J=>cS cf 15 kr<|dP 4 [] mn ?_
 refine j2 (t:=19) U (aQ fun hj=>?_) (aP fun hj=>?_)
 ·refine lq 11 U<|cy<|RK J<|aX U<|bj<|aa<|aa<|au<|aB<|KK O<|ag<|rP 3 [] mn ?_
  refine ax ?_
  refine aI (M ⟨((i+1),q),⟨I,B,C,by exact Jb I D⟩⟩ _ _ _ U (by simp only []; omega) (aN U) (aD [0]))
 refine dP 2 [] mn ?_
 obtain ⟨x,hx⟩:=aG q j I
 have L:=bG iC hx
 refine dS (IA j U (ak (n:=l.length) 0 U sq) di dc I I) ?_
 refine dS (fI j 0 (vI x) U bX (ak (n:=q.length) 0 U sm) L U dc U)<|dP 3 [] mn ?_
 obtain ⟨y,hy⟩:=aG q (j-1) I
 have V:=bG iC hy
 refine dS (IA (j-1) U (ak (n:=l.length) 0 U sq) di dc I I) ?_
 refine dS (fI (j-1) 0 (vI y) U bX (ak (n:=q.length) 0 U sm) V U dc U)<|dS (CL (Mw x y) (aS) U)<|dP 1 [] mn ?_
 refine cy<|RK J<|bE U (aQ fun H=>?_) (aP fun H=>?_)
 ·refine bj<|aa<|aa<|au<|aB<|KK O<|ag<|rP 3 [] mn ?_
  refine ax ?_
  refine aI (M ⟨((i+1),q),⟨I,B,C,by exact HN hx hy I G H D⟩⟩ _ _ _ U (by simp only []; omega) (aN U) (aD [0]))
 refine WK c<|ai fun _ N=>ar<|dp cf [15,16,17] [8,9,12,13,14] [] [] [0] U U U U U<|eS U (MV U)<|eS U (MV U)<|eS U (MV U)<|eS U (MV U)<|eS U (BI U (s8 ⟨I,I⟩))<|eS U (MV U)<|eS U (MV U)<|eS U (BI U (s8 ⟨I,I⟩)) ?_
 refine fS U (IA (j-1) U (ak (n:=l.length) 0 U sq) di dc I I) ?_
 refine fS U (fI (j-1) 0 (vI y) U bX (ak (n:=q.length) 0 U sm) V U dc U)<|eS U (MV U)<|eS U (MV U) ?_
 refine fS U (IA j U (ak (n:=l.length) 0 U sq) di dc I I) ?_
 refine fS U (fI j 0 (vI x) U bX (ak (n:=q.length) 0 U sm) L U dc U) ?_
 refine fS U (IA j U (ak (n:=l.length) 0 U sq) di dc I I) ?_
 refine eu U<|bS U fun T12 P=>c_ (k:=j) (o:=0) (vs:=[(vI y)]) (es':=(List.map iC (q.set j y))) (C':=[(own lA lC 3 1 (List.map iC (q.set j y)))]) 0 U U U DL U U U U L U dc (by exact (List.map_set (f:=iC) (l:=q) (i:=j) (a:=y)).symm) U<|ax (P _ _ (aD []) ?_)
 refine bS U fun T13 R=>?_
 obtain ⟨d,AA⟩:=aG (q.set j y) (j-1) os
 have hx15m:(List.map iC (q.set j y))[(j-1)]? =some (iC d):=by rw [fj,AA]; rfl
 refine rS (IA (j-1) U (ak (n:=l.length) 0 U sq) di dc I I) ?_
 refine ax (R _ _ (aD []) ?_)
 refine bS U fun T16 S=>c_ (k:=(j-1)) (o:=0) (vs:=[(vI x)]) (es':=(List.map iC ((q.set j y).set (j-1) x))) (C':=[(own lA lC 3 1 (List.map iC ((q.set j y).set (j-1) x)))]) 0 U U U DL U U U U hx15m U dc (by exact (List.map_set (f:=iC) (l:=(q.set j y)) (i:=(j-1)) (a:=x)).symm) U<|ax (S _ _ (aD []) ?_)
 refine eY U<|aB<|KK N<|ag<|rP 3 [] mn ?_
 refine ax ?_
 have T:(vI (((j-1):Nat):Int))=(vI ((j:Int)-1)):=by exact cI I
 refine aI (W ⟨((j-1),((q.set j y).set (j-1) x)),⟨I,by simp; exact B,(HF hx hy).trans C,HQ hx hy I G H D⟩⟩ _ _ _ U (by simp only []; omega) (bY 4<|aO U T<|cO.nil _) (aD [0]))
theorem Md (x:Int) (hx:0≤x∧x≤100):
 lg Tryz.prog 109 [(Value.int .u64 x)] [] (fun (x:Int)=>(vI x)) (fun (x:Int)=>True) (fun (x:Int)=>[]):=by
 refine db kr Tryz.func109 U U fun N Q hQ hN=>?_
 try dsimp only
 refine WS fun _ D=>aY 1 U<|RK D<|ai fun _ E=>WS fun _ F=>rP 1 [] mn ?_
 refine rS (BI U Fb)<|RK F<|cK U (aP fun L=>?_) (aQ fun L=>?_)
 ·exfalso; omega
 refine WK E<|ai fun _ G=>WS fun _ H=>rP 1 [] mn ?_
 refine rS (BI U Fb)<|RK H<|cK U (aP fun M=>?_) (aQ fun M=>?_)
 ·exfalso; omega
 refine WK G<|ai fun _ AA=>WS fun _ J=>rP 1 [] mn ?_
 refine rS (BI U Fb)<|RK J<|cK U (aP fun C=>?_) (aQ fun C=>?_)
 ·exfalso; omega
 refine WK AA<|WS fun _ B=>aY 2 U<|rS (SX (vx (m:=x) U U QS Rj (Bg (by first|assumption|omega))) U U)<|PM (k:=(x).toNat) U U U Uj I (Nat.lt_of_lt_of_le (m:=200) I (of_decide_eq_true kr)) U fun A K=>rS (SX (vx (m:=A) U U Rj mF (uR (by first|assumption|omega))) U U)<|rP 2 [] mn ?_
 refine RK B<|an<|LX hQ (0+A) [] [] mn U U U U ?_
 trivial
theorem Oc (x:Int) (hx:0≤x∧x≤100):
 lg Tryz.prog 81 [(Value.int .u64 x)] [] (fun (x:Int)=>(vI x)) (fun (x:Int)=>True) (fun (x:Int)=>[]):=by
 refine db kr Tryz.func81 U U fun F Q hQ hN=>?_
 try dsimp only
 refine WS fun _ A=>aY 1 U<|RK A<|ai fun _ B=>aX U<|WK B<|WS fun _ C=>rP 1 [] mn ?_
 refine cX (Md x hx) (aS) U fun E D=>?_
 try dsimp only
 refine rP 1 [] mn ?_
 refine RK C<|an<|LX hQ E [] [] mn U U U U ?_
 trivial
theorem RL (l:List Int) (lA:OA) (lC:Nat) (u:Int) (hlen:l.length≤12):
 Gz Tryz.prog 80 [(vS lA l.length lC),(vI 0),(vI (l.length:Int)),(vI u)] [] (own lA lC 3 1 (l.map iC)) (fun (x:(List Int))=>(vT [])) (fun (x:(List Int))=>x.Perm l∧x.Pairwise (· ≤ ·)) (fun (x:(List Int))=>(own lA lC 3 1 (x.map iC))):=by
 refine pj kr Tryz.func80 U U fun K Q hQ hN=>?_
 try dsimp only
 refine WS fun _ A=>aY 1 U<|RK A<|WS fun _ B=>aY 1 U<|RK B<|ar<|nx 1<|fz fun R3 AA=>ar<|WS fun _ C=>aY 4 U<|RK C<|ai fun _ H=>WS fun _ D=>rP 2 [] mn ?_
 refine RK D<|bE U (aQ fun G=>?_) (aP fun G=>?_)
 ·exfalso; omega
 refine WS fun _ E=>rP 3 [] mn ?_
 refine j8 0 U U U U (G3 l lA lC I) U lG U (fun J F=>?_)
 try dsimp only
 refine RK E<|an<|LM hQ J 0 [] mn U U U U ?_
 assumption
theorem z4 (l:List Int) (lA:OA) (lC:Nat) (hlen:l.length≤12):
 Gz Tryz.prog 57 [(vS lA l.length lC)] [] (own lA lC 3 1 (l.map iC)) (fun (x:(List Int))=>(vT [])) (fun (x:(List Int))=>x.Perm l∧x.Pairwise (· ≤ ·)) (fun (x:(List Int))=>(own lA lC 3 1 (x.map iC))):=by
 refine pj kr Tryz.func57 U U fun F Q hQ hN=>?_
 try dsimp only
 refine WS fun _ A=>aY 3 U<|RK A<|ag<|rP 3 [] mn ?_
 refine rS (SX (vx (m:=(l.length:Int)) U U mF QE (Ad (by first|assumption|omega))) U U)<|cX (Oc (l.length:Int) I) (aS) U fun E B=>?_
 try dsimp only
 refine j8 0 U U U U (RL l lA lC E hlen) U lG U (fun D C=>?_)
 try dsimp only
 refine ax<|LM hN D 0 [] mn U U U U ?_
 assumption
end
section
open Go.RowKit
theorem KX (n lo hi:Int) (g1 g2:Nat):
 eA Tryz.prog 153 [(vI n),(vP g1),(vP g2)] [(cq g1 3 [(vI lo)]),(cq g2 3 [(vI hi)])] (vB (decide (n<lo∨hi<n))):=by
 refine bH kr Tryz.func153 U U fun D Q hQ hN=>?_
 try dsimp only
 refine WS fun _ B=>aY 1 U<|RK B<|WS fun _ A=>rP 4 [] (mr 0 U mn) ?_
 refine cE (t:=8) U (aP fun C=>?_) (aQ fun C=>?_)
 ·refine rP 5 [] mn ?_
  refine RK A<|an<|Q1 hQ U U U ?_
  exact cB (dh I).symm
 refine rP 5 [] (mr 1 U mn) ?_
 refine RK A<|an<|Q1 hQ U U U ?_
 exact cB (decide_eq_decide.2 I)
theorem iD (lo hi:Int) (l:List Int) (lA:OA) (lC:Nat) (hlen:l.length≤1000000):
 eA Tryz.prog 128 [(vI lo),(vI hi),(vS lA l.length lC)] [(rd lA l.length 1 (l.map iC))] (vB (p9 lo hi l)):=by
 refine bH kr Tryz.func128 U U fun F Q hQ hN=>?_
 try dsimp only
 refine WS fun _ D=>ux U U fun A=>ux U U fun B=>aY 1 U<|RK D<|WS fun _ E=>rP 1 [] mn ?_
 refine rS (FU U) ?_
 refine rS (CL (su l lA lC (Value.func (.func 153) [].toArray [(vP A),(vP B)].toArray) (fun C=>(decide (C<lo∨hi<C))) (eH [(cq A 3 [(vI lo)]),(cq B 3 [(vI hi)])]) (by intro C _; exact ov (fi:=[]) (ca:=[(vP A),(vP B)]) (mO (KX C lo hi A B) (aZ [0,1]))) hlen) (fG 2 U U<|aC (mH (aZ [1,0]))<|aS) U) ?_
 refine rP 2 [] mn ?_
 refine RK E<|an ?_
 exact Q1 hQ U U U U
theorem Tj (n d:Int) (hd:2≤d):
 eA Tryz.prog 155 [(vI n),(vI d)] [] (vI (Qb n d)):=by
 refine bH kr Tryz.func155 U U fun C Q hQ hN=>?_
 try dsimp only
 refine WS fun _ A=>aY 1 U<|RK A<|WS fun _ B=>aY 2 U<|rS (BI U Po)<|rS (BI U Kh)<|aY 1 U<|rS (BI U (O_ I (PI (Sl _) hd)))<|rP 1 [] mn ?_
 refine RK B<|an ?_
 exact Q1 hQ U U U U
theorem NR (n d:Int) (hd:1≤d∧d≤1000000) (hn:0≤n∧n≤1000000000000000):
 eA Tryz.prog 155 [(vI n),(vI d)] [] (vI (o8 n d)):=by
 refine bH kr Tryz.func155 U U fun C Q hQ hN=>?_
 try dsimp only
 refine WS fun _ A=>aY 1 U<|RK A<|WS fun _ B=>aY 5 U<|rS (BI U (qk I I I))<|rP 1 [] mn ?_
 refine RK B<|an ?_
 exact Q1 hQ U U U U
theorem Fg (c:ao) (sA:OA) (sC:Nat) (at_:Int) (hc:eL c) (ha:0≤at_∧at_≤90000000):
 eA Tryz.prog 218 [(vA (de.cells (de.mk c.cU (bf.mk sA c.aT.length sC)))),(vI at_)] [(rd sA c.aT.length 3 (c.aT.map ck.cells))] (vA (ab.cells (hH c at_))):=by
 have X:=hc.len
 have J:=hc.rL
 refine bH kr Tryz.func218 U U fun e Q hQ hN=>?_
 try dsimp only
 refine WS fun _ M=>fm U fun b=>AL U dk fun d=>RK M<|WS fun _ N=>rS (SX (bq (xs:=[(0,.const (vI (-1099511627776))),(1,.const (vI 1099511627776))]) (cs:=(ab.cells (ab.mk (-1099511627776) 1099511627776))) U U (br gK U)) U U)<|AL U dk fun W=>fq U cu U<|RK N<|ai fun _ O=>ai fun _ P=>?_
 have R:(ab.cells (ab.mk (-1099511627776) 1099511627776))=(ab.cells (fX c at_ 0)):=by rfl
 rw [R]
 refine ag<|rP 4 [] (mc 2 U mn) ?_
 refine RK P<|ar ?_
 have A:(0≤c.aT.length):=by exact Nat.zero_le _
 refine bx (ι:={z:Nat // (z≤c.aT.length)}) [1,2,4,5,11,12] [1,2,3] U U (fun z=>[(13,(vI (z.1:Int)))]) (fun z=>[(cq W 47 (ab.cells (fX c at_ z.1)))]) (fun _=>rfl) (fun _=>rfl) (fun z=>c.aT.length-z.1) ⟨0,A⟩ (aN U) (aD [1,2,3,0]) ?_
 clear A
 rintro ⟨i,S⟩ J9 L
 try dsimp only
 refine WS fun _ B=>rP 1 [] mn ?_
 refine RK B<|ai fun _ C=>bE U (aQ fun K=>?_) (aP fun K=>?_)
 ·refine bj<|aa<|aa<|au<|KK O<|WS fun _ G=>rP 1 [] (mc 3 U mn) ?_
  refine fq U cu U<|RK G<|an<|Lt hQ [0] (mc 0 U mn) U ?_
  rw [nD (show c.aT.length≤i by omega)]
 refine WK C<|ai fun _ D=>ar<|WS fun _ E=>?_
 obtain ⟨x,hx⟩:=aG c.aT i I
 have AA:=bG ck.cells hx
 refine rS (IA i U (ay 2 U) nF dc I I)<|rS (l4 i 0 (ck.cells x) U bX (ay 2 U) AA U dc U U)<|AL U th fun V=>fq U tG U<|RK E<|WS fun _ F=>rP 5 [0,1] (mc 2 U (mc 0 U mn)) ?_
 have T:=hc.ui hx
 have Z:=Av hc ha i
 have Y:=FK J ha (show 0≤x.At∧x.At≤90000000 by omega)
 refine e7 5 [] (mc 0 U mn) U<|rS (MX U)<|rS (BI U (FG ⟨I,I⟩))<|rS (CL (NR (c.cU*(max (at_-x.At) (x.At-at_))) 1000000 I I) (aS) U)<|aY 1 U<|RK F<|ag<|rP 6 [0,1] (mc 4 U (mc 0 U mn)) ?_
 have a:0≤o8 (c.cU*max (at_-x.At) (x.At-at_)) 1000000∧o8 (c.cU*max (at_-x.At) (x.At-at_)) 1000000≤90001:=uf J ha T.1
 refine aY 1 U<|rS (MX U)<|rP 7 [0,1] (mc 4 U (mc 0 U mn)) ?_
 refine rS (MN U)<|rS (SX (bq (xs:=[(0,.tmp 37),(1,.tmp 45)]) (cs:=(ab.cells (ab.mk (max ((fX c at_ i).Lo) (x.dD.Lo-(o8 (c.cU*(max (at_-x.At) (x.At-at_))) 1000000))) (min ((fX c at_ i).Hi) (x.dD.Hi+(o8 (c.cU*(max (at_-x.At) (x.At-at_))) 1000000)))))) U U (br gK U)) U U)<|O7 U cu U<|ax<|aB<|KK D ?_
 have H:(ab.cells (ab.mk (max ((fX c at_ i).Lo) (x.dD.Lo-(o8 (c.cU*(max (at_-x.At) (x.At-at_))) 1000000))) (min ((fX c at_ i).Hi) (x.dD.Hi+(o8 (c.cU*(max (at_-x.At) (x.At-at_))) 1000000)))))=(ab.cells (fX c at_ (i+1))):=by rw [jL hx]; rfl
 rw [H]
 refine ag<|rP 2 [] mn ?_
 refine ax ?_
 have AB:(vI (((i+1):Nat):Int))=(vI ((i:Int)+1)):=by exact cI I
 refine aI (L ⟨(i+1),(by first|omega|(simp only []; omega))⟩ _ _ _ U os (bY 6<|aO U AB<|cO.nil _) (aD [1,2,3,4]))
theorem Pz (c:ao) (sA:OA) (sC:Nat) (hlen:c.aT.length≤1000000) (hcap:c.aT.length≤sC):
 eA Tryz.prog 132 [(vA (de.cells (de.mk c.cU (bf.mk sA c.aT.length sC))))] [(rd sA c.aT.length 3 (c.aT.map ck.cells))] (vB (decide (eL c))):=by
 refine bH kr Tryz.func132 U U fun w0 Q hQ hN=>?_
 try dsimp only
 refine WS fun _ AP=>fm U fun b2=>aY 1 U<|RK AP<|EU U<|ai fun _ AQ=>WS fun _ r=>rP 2 [] (mc 0 U mn) ?_
 refine eX (xs:=[.tmp 11]) (cs:=[(vI c.cU)]) U di lh U U U U (by simp [Value.cells]) U U fun b5=>?_
 refine rS (CL (eA.eq (iD 0 1000 ([c.cU]) (some ⟨b5,0,none⟩) 1 (by (simp; done))) dj) (aC (a_ 0 U U (by simp [bU]) U)<|aS) U) ?_
 refine rP 2 [] mn ?_
 refine cE (t:=15) U (bg fun AZ=>?_) (bh fun AZ=>?_)
 ·refine aY 7 U<|RK r<|aL U<|WS fun _ AR=>rP 1 [] mn ?_
  refine RK AR<|an<|Q1 hQ U U U ?_
  exact cB (bD fun h=>AZ h.rL).symm
 refine rP 3 [] (mc 1 U mn) ?_
 refine eX (xs:=[.tmp 18]) (cs:=[(vI (c.aT.length:Int))]) U di lh U U U U (by simp [Value.cells]) U U fun b7=>?_
 refine rS (CL (eA.eq (iD 1 5 ([(c.aT.length:Int)]) (some ⟨b7,0,none⟩) 1 (by (simp; done))) dj) (aC (a_ 0 U U (by simp [bU]) U)<|aS) U) ?_
 refine rP 2 [] mn ?_
 refine RK r<|cK U (bg fun O=>?_) (bh fun O=>?_)
 ·refine WS fun _ AS=>rP 1 [] mn ?_
  refine RK AS<|an<|Q1 hQ U U U ?_
  exact cB (bD fun h=>O (by have:=h.len; omega)).symm
 refine WK AQ<|WS fun _ AT=>aY 1 U<|RK AT<|WS fun _ R=>aY 1 U<|RK R<|ai fun _ S=>Fx<|KK S<|ai fun _ K=>WS fun _ T=>rP 4 [] (mc 2 U mn) ?_
 refine RK T<|ar ?_
 have B:(0≤c.aT.length)∧(sB c 0):=by exact ⟨Nat.zero_le _,G4⟩
 have s:(vI (kd c 0))=(vI (-1)):=by rw [gf rfl]
 refine bx (ι:={z:Nat // (z≤c.aT.length)∧(sB c z)}) [1,2,4,24,25] [2,3] U U (fun z=>[(3,(vI (kd c z.1))),(26,(vI (z.1:Int)))]) (fun z=>[]) (fun _=>rfl) (fun _=>rfl) (fun z=>c.aT.length-z.1) ⟨0,B⟩ (aO U s<|aN U) (aD [2,3]) ?_
 clear B
 rintro ⟨i,⟨L,C⟩⟩ J15 P
 try dsimp only
 have Ab: -1≤kd c i∧kd c i≤86400000:=Oy L C
 refine WS fun _ AK=>rP 1 [] mn ?_
 refine RK AK<|ai fun _ V=>bE U (aQ fun AJ=>?_) (aP fun AJ=>?_)
 ·refine bj<|aa<|aa<|au<|KK K<|WS fun _ f=>rP 2 [] mn ?_
  refine RK f<|an<|Q1 hQ U U U ?_
  exact cB (dh (Hr AZ I (by have e:i=c.aT.length:=I; rw [← e]; exact C))).symm
 refine WK V<|ai fun _ W=>ar<|WS fun _ X=>rP 1 [] mn ?_
 obtain ⟨x,hx⟩:=aG c.aT i I
 have AW:=bG ck.cells hx
 refine rS (IA i U (ay 1 U) nF dc I I)<|rS (l4 i 0 (ck.cells x) U bX (ay 1 U) AW U dc U U)<|AL U th fun AX=>rP 1 [] mn ?_
 refine fq U tG U<|RK X ?_
 refine nV (ι:=Unit) [1,2,3,5,6,24,25,26] [0,1,2] U U (fun z=>[(4,(vB (decide (fh c i x))))]) (fun z=>[]) (fun _=>rfl) (fun _=>rfl) ?_ fun K22 G=>?_
 ·intro _
  try dsimp only
  refine ai fun _ Y=>WS fun _ Z=>e7 3 [] (mc 1 U mn) U<|rS (Uk i U nF I I)<|rP 2 [] mn ?_
  refine RK Z<|ar ?_
  have B:(0≤i)∧((decide (fh c i x))=(decide (lY c i x 0))):=by exact ⟨Nat.zero_le _,decide_eq_decide.2 CW.symm⟩
  refine bx (ι:={z:Nat×Bool // (z.1≤i)∧(z.2=(decide (lY c i x z.1)))}) [1,2,3,5,6,24,25,26,59,60] [0,1,2] U U (fun z=>[(4,(vB z.1.2)),(61,(vI (z.1.1:Int)))]) (fun z=>[]) (fun _=>rfl) (fun _=>rfl) (fun z=>i-z.1.1) ⟨(0,(decide (fh c i x))),B⟩ (aN U) (aD [0,1,2]) ?_
  clear B
  rintro ⟨⟨k,b⟩,⟨M,A⟩⟩ J25 F
  try dsimp only at M A
  try dsimp only
  refine WS fun _ a=>rP 1 [] mn ?_
  refine RK a<|ai fun _ d=>bE U (aQ fun AM=>?_) (aP fun AM=>?_)
  ·refine bj<|aa<|aa<|au<|KK Y<|ai fun _ m=>WS fun _ p=>rP 2 [] mn ?_
   refine RK p<|cK U (fun D=>?_) (fun D=>?_)
   ·rw [Bool.not_eq_true'] at D
    refine bj<|aa<|im U<|aa<|aa<|au<|KK K<|WS fun _ q=>rP 2 [] mn ?_
    refine RK q<|an<|Q1 hQ U U U ?_
    exact cB (by have e:k=i:=I; rw [e] at A; rw [D] at A ⊢; exact (bD (IW hx (of_decide_eq_false A.symm))).symm)
   rw [Bool.not_eq_false'] at D
   refine WK m<|ag<|e7 3 [] (mc 0 U mn) U<|ax<|aB<|KK W<|ag<|rP 2 [] mn ?_
   refine ax ?_
   have AD:(vB true)=(vB b):=by exact cB D.symm
   have AE:(vI (kd c (i+1)))=(vI x.At):=by rw [ob hx]
   have AF:(vI (((i+1):Nat):Int))=(vI ((i:Int)+1)):=by exact cI I
   refine aI (P ⟨(i+1),⟨I,GA C hx (by have e:k=i:=I; rw [e] at A; exact of_decide_eq_true (A.symm.trans D))⟩⟩ _ _ _ U os (cO.cons U<|cO.cons U<|aO U AD<|cO.cons U<|cO.cons U<|aO U AE<|aO U AF<|cO.nil _) (aD [1,2]))
  refine WK d<|ai fun _ H=>ar<|WS fun _ g=>?_
  obtain ⟨o,ho⟩:=aG c.aT k I
  have AU:=bG ck.cells ho
  refine rS (Uu k U (ay 2 U) nF dc I I I)<|rS (l4 k 0 (ck.cells o) U bX (ay 2 U) AU U dc U U)<|AL U th fun AY=>fq U tG U<|RK g<|WS fun _ l=>e7 6 [0,1,2] (mc 2 U (mc 1 U (mc 0 U mn))) U<|rS (BI U Kh)<|rS (BI U Pw)<|rS (CL (Tj (Ai (c.cU*(Ai (x.At-o.At)))) 1000000 I) (aS) U)<|aY 1 U<|RK l<|ag<|rP 2 [] mn ?_
  refine cv (t:=75) U (fun J=>?_) (fun J=>?_)
  ·refine aY 6 U<|aY 16 U<|ax<|aB<|KK H<|ag<|rP 2 [] mn ?_
   refine ax ?_
   have AC:(vI (((k+1):Nat):Int))=(vI ((k:Int)+1)):=by exact cI I
   refine aI (F ⟨((k+1),false),⟨I,by exact (bD fun h=>by have h2:=((r_ ho).1 h).1; rw [A] at J; exact absurd (dh h2) (by rw [J]; decide)).symm⟩⟩ _ _ _ U os (bY 11<|aO U AC<|cO.nil _) (aD [1,2,3]))
  refine rP 6 [0,1] (mc 1 U (mc 0 U mn)) ?_
  have AG:lY c i x k:=of_decide_eq_true (A.symm.trans J)
  obtain ⟨AV,Ac,Ad⟩:=uB (fun j y hj hy=>(C j y hj hy).1) hx AG.1 I ho
  have N:=LS AZ AV
  refine rP 5 [] mn ?_
  refine cv (t:=86) U (aQ fun E=>?_) (aP fun E=>?_)
  ·refine aY 11 U<|ax<|aB<|KK H<|ag<|rP 2 [] mn ?_
   refine ax ?_
   have AB:(vI (((k+1):Nat):Int))=(vI ((k:Int)+1)):=by exact cI I
   refine aI (F ⟨((k+1),false),⟨I,by exact (bD fun h=>by have h2:=((r_ ho).1 h).2; rw [N] at E; exact E h2.1).symm⟩⟩ _ _ _ U os (bY 11<|aO U AB<|cO.nil _) (aD [1,2,3]))
  refine e7 11 [0,1] (mc 0 U (mc 1 U mn)) U<|ax<|aB<|KK H<|ag<|rP 2 [] mn ?_
  refine ax ?_
  have AA:(vI (((k+1):Nat):Int))=(vI ((k:Int)+1)):=by exact cI I
  refine aI (F ⟨((k+1),(decide ((o.dD.Lo-x.dD.Hi)≤(Qb (Ai (c.cU*(Ai (x.At-o.At)))) 1000000)))),⟨I,by exact decide_eq_decide.2 (by rw [r_ ho,N]; rw [N] at E; exact ⟨fun h=>⟨AG,E,h⟩,fun h=>h.2.2⟩)⟩⟩ _ _ _ U os (bY 11<|aO U AA<|cO.nil _) (aD [1,2,3]))
 refine ag<|rP 4 [] (mc 0 U mn) ?_
 refine eX (xs:=[.tmp 34]) (cs:=[(vI x.At)]) U di lh U U U U (by simp [Value.cells]) U U fun AH=>?_
 refine rS (CL (eA.eq (iD ((kd c i)+1) 86400000 ([x.At]) (some ⟨AH,0,none⟩) 1 (by (simp; done))) dj) (aC (a_ 0 U U (by simp [bU]) U)<|aS) U) ?_
 refine rP 1 [] mn ?_
 refine cv (t:=37) U (aQ fun AN=>?_) (aP fun AN=>?_)
 ·refine rP 19 [] mn ?_
  refine ax ?_
  have w:(decide (fh c i x))=false:=bD (by unfold fh; omega)
  refine aI (jF (bY 8<|m8 U w<|cO.nil _) (aD [1,2,3]) (G ()))
 refine rP 6 [] (mc 1 U mn) ?_
 refine eX (xs:=[.tmp 40,.tmp 43]) (cs:=[(vI x.dD.Lo),(vI x.dD.Hi)]) U di lh U U U U (by simp [Value.cells]) U U fun AI=>?_
 refine rS (CL (eA.eq (iD (-10000) 10000 ([x.dD.Lo,x.dD.Hi]) (some ⟨AI,0,none⟩) 2 (by (simp; done))) ug) (aC (a_ 0 U U (by simp [bU]) U)<|aS) U) ?_
 refine rP 2 [] mn ?_
 refine cv (t:=47) U (aQ fun AO=>?_) (aP fun AO=>?_)
 ·refine rP 9 [] mn ?_
  refine ax ?_
  have v:(decide (fh c i x))=false:=bD (by unfold fh; omega)
  refine aI (jF (bY 8<|m8 U v<|cO.nil _) (aD [2,3,4]) (G ()))
 refine rP 9 [] (mc 2 U mn) ?_
 refine ax ?_
 have u:(decide (fh c i x))=(decide (x.dD.Lo≤x.dD.Hi)):=decide_eq_decide.2 (by unfold fh; omega)
 refine aI (jF (bY 8<|m8 U u<|cO.nil _) (aD [2,3,4]) (G ()))
theorem P2 (ms:List ao) (az:List RA) (k:Nat) (m:ao) (a:RA) (hm:ms[k]? =some m) (ha:az[k]? =some a) (hc:m.aT.length≤a.2∧m.aT.length≤1000000):
 eA Tryz.prog 131 [(vA (de.cells (de.mk m.cU (bf.mk a.1 m.aT.length a.2))))] [(eH (aU ao.gh ms az))] (vB (!(decide (eL m)))):=by
 obtain ⟨C,D⟩:=hc
 refine bH kr Tryz.func131 U U fun F Q hQ hN=>?_
 try dsimp only
 refine WS fun _ A=>fm U fun E=>aY 1 U<|RK A<|WS fun _ B=>e7 1 [] (mc 0 U mn) U<|rS (CL (Pz m a.1 a.2 asm asm) (aC (show gI _ (rd a.1 m.aT.length 3 (m.aT.map ck.cells)).holds from (b_ 1 U (bu hm ha (by simp [ao.gh]))))<|aS) U)<|rP 2 [] mn ?_
 refine RK B<|an ?_
 exact Q1 hQ U U U U
theorem Hb (l:List ao) (az:List RA) (lA:OA) (lC:Nat) (f:Value) (p:ao→Bool) (X:aw) (hf: ∀ (k:Nat) m a,l[k]? =some m→az[k]? =some a→Dc Tryz.prog f [.agg (ao.cells m a).toArray] [X] (.bool (p m))) (hlen:l.length≤1000000) (has:az.length=l.length):
 eA Tryz.prog 154 [(vS lA l.length lC),f] [(rd lA l.length 2 (List.zipWith ao.cells l az)),(eH (aU ao.gh l az)),X] (vI (tx p l)):=by
 refine bH kr Tryz.func154 U U fun T Q hQ hN=>?_
 try dsimp only
 refine WS fun _ AA=>aY 1 U<|RK AA<|ai fun _ J=>WS fun _ K=>rP 3 [] mn ?_
 refine RK K<|ar ?_
 have B:(0≤l.length)∧((l.take 0).any p=false):=by simp
 refine bx (ι:={z:Nat // (z≤l.length)∧((l.take z).any p=false)}) [0,1,7] [0,1,2] U U (fun z=>[(8,(vI (z.1:Int)))]) (fun z=>[]) (fun _=>rfl) (fun _=>rfl) (fun z=>l.length-z.1) ⟨0,B⟩ (aN U) (aD [0,1,2]) ?_
 clear B
 rintro ⟨i,⟨P,A⟩⟩ J4 H
 try dsimp only
 refine WS fun _ L=>rP 1 [] mn ?_
 refine RK L<|ai fun _ M=>bE U (aQ fun S=>?_) (aP fun S=>?_)
 ·refine bj<|aa<|aa<|au<|KK J<|WS fun _ E=>rP 1 [] mn ?_
  refine RK E<|an<|Q1 hQ U U U ?_
  exact cI (sx I A).symm
 refine WK M<|ai fun _ N=>ar<|WS fun _ O=>aY 2 U<|RK O<|WS fun _ C=>rP 3 [] mn ?_
 obtain ⟨x,hx⟩:=aG l i I
 obtain ⟨xa,G⟩:=aG az i I
 have R:(List.zipWith ao.cells l az)[i]? =some (ao.cells x xa):=cH hx G
 refine rS (IA i U (ay 0 U) uq dc I I)<|rS (l4 i 0 (de.cells (de.mk x.cU (bf.mk xa.1 x.aT.length xa.2))) U bX (ay 0 U) R U dc U U)<|rS (SX (sk U U U (hf i x xa hx G) (aZ [2])) U U)<|RK C<|cK U (fun hp=>?_) (fun hp=>?_)
 ·refine WS fun _ D=>rP 2 [] mn ?_
  refine RK D<|an<|Q1 hQ U U U ?_
  exact cI (wu hx hp A).symm
 refine bM<|aB<|KK N<|ag<|rP 2 [] mn ?_
 refine ax ?_
 have F:(vI (((i+1):Nat):Int))=(vI ((i:Int)+1)):=by exact cI I
 refine aI (H ⟨(i+1),⟨I,xH hx A hp⟩⟩ _ _ _ U os (bY 3<|aO U F<|cO.nil _) (aD [0,1,2]))
theorem zR (l:List ao) (az:List RA) (lA:OA) (lC:Nat) (f:Value) (p:ao→Bool) (X:aw) (hf: ∀ (k:Nat) m a,l[k]? =some m→az[k]? =some a→Dc Tryz.prog f [.agg (ao.cells m a).toArray] [X] (.bool (p m))) (hlen:l.length≤1000000) (has:az.length=l.length):
 eA Tryz.prog 130 [(vS lA l.length lC),f] [(rd lA l.length 2 (List.zipWith ao.cells l az)),(eH (aU ao.gh l az)),X] (vB (l.any p)):=by
 refine bH kr Tryz.func130 U U fun C Q hQ hN=>?_
 try dsimp only
 refine WS fun _ A=>aY 1 U<|RK A<|WS fun _ B=>aY 2 U<|rS (CL (Hb l az lA lC f p X (by exact hf) hlen has) (MH 0 1 2 U U U U U U) U)<|rP 2 [] mn ?_
 refine RK B<|an<|Q1 hQ U U U ?_
 exact cB uk
theorem F6 (l:List bI) (lA:OA) (lC:Nat) (f:Value) (p:bI→Bool) (X:aw) (hf: ∀ x0,x0∈l→Dc Tryz.prog f [.agg (bI.cells x0).toArray] [X] (.bool (p x0))) (hlen:l.length≤1000000):
 eA Tryz.prog 156 [(vS lA l.length lC),f] [(rd lA l.length 4 (l.map bI.cells)),X] (vI (tx p l)):=by
 refine bH kr Tryz.func156 U U fun S Q hQ hN=>?_
 try dsimp only
 refine WS fun _ H=>aY 1 U<|RK H<|ai fun _ AA=>WS fun _ J=>rP 3 [] mn ?_
 refine RK J<|ar ?_
 have B:(0≤l.length)∧((l.take 0).any p=false):=by simp
 refine bx (ι:={z:Nat // (z≤l.length)∧((l.take z).any p=false)}) [0,1,7] [0,1] U U (fun z=>[(8,(vI (z.1:Int)))]) (fun z=>[]) (fun _=>rfl) (fun _=>rfl) (fun z=>l.length-z.1) ⟨0,B⟩ (aN U) (aD [0,1]) ?_
 clear B
 rintro ⟨i,⟨O,A⟩⟩ J4 G
 try dsimp only
 refine WS fun _ K=>rP 1 [] mn ?_
 refine RK K<|ai fun _ L=>bE U (aQ fun R=>?_) (aP fun R=>?_)
 ·refine bj<|aa<|aa<|au<|KK AA<|WS fun _ E=>rP 1 [] mn ?_
  refine RK E<|an<|Q1 hQ U U U ?_
  exact cI (sx I A).symm
 refine WK L<|ai fun _ M=>ar<|WS fun _ N=>aY 2 U<|RK N<|WS fun _ C=>rP 3 [] mn ?_
 obtain ⟨x,hx⟩:=aG l i I
 have P:=bG bI.cells hx
 refine rS (IA i U (ay 0 U) sQ dc I I)<|rS (l4 i 0 (bI.cells x) U bX (ay 0 U) P U dc U U)<|rS (SX (sk U U U (hf x (aR hx)) (aZ [1])) U U)<|RK C<|cK U (fun hp=>?_) (fun hp=>?_)
 ·refine WS fun _ D=>rP 2 [] mn ?_
  refine RK D<|an<|Q1 hQ U U U ?_
  exact cI (wu hx hp A).symm
 refine bM<|aB<|KK M<|ag<|rP 2 [] mn ?_
 refine ax ?_
 have F:(vI (((i+1):Nat):Int))=(vI ((i:Int)+1)):=by exact cI I
 refine aI (G ⟨(i+1),⟨I,xH hx A hp⟩⟩ _ _ _ U os (bY 3<|aO U F<|cO.nil _) (aD [0,1]))
theorem zN (l:List bI) (lA:OA) (lC:Nat) (f:Value) (p:bI→Bool) (X:aw) (hf: ∀ x0,x0∈l→Dc Tryz.prog f [.agg (bI.cells x0).toArray] [X] (.bool (p x0))) (hlen:l.length≤1000000):
 eA Tryz.prog 134 [(vS lA l.length lC),f] [(rd lA l.length 4 (l.map bI.cells)),X] (vB (l.any p)):=by
 refine bH kr Tryz.func134 U U fun C Q hQ hN=>?_
 try dsimp only
 refine WS fun _ A=>aY 1 U<|RK A<|WS fun _ B=>aY 2 U<|rS (CL (F6 l lA lC f p X (by exact hf) hlen) (aZ [0,1]) U)<|rP 2 [] mn ?_
 refine RK B<|an<|Q1 hQ U U U ?_
 exact cB uk
end
end Go.Proofs.YtcoejkiaokbmpaaGreatDoor
