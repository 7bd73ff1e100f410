/-
 The statement raceExamples_said, part 5 of 7: RankP, OrdX, TabP, NestS, Grp, Twin, Fresh, Rep, Ex6, Win6, BoolC, RaceR, Tied6, Sel6, Exa6, MapD, Rep6, Bits, B1, Rc1, Rs5, CloneM, Rs1, S2, Rs2, B4, B2, B3, B5, B6, Frozen, MarkD, Marks, Follow, OpenM, V2, V1, V4, V3.
 Conditions: none.
-/
import Derived.Test.YtadjgjnicdcjbaaGreatDoorTx1
import Derived.Test.YtadjgjnicdcjbaaGreatDoorTx2
import Derived.Test.YtadjgjnicdcjbaaGreatDoorTx3
import Derived.Test.YtadjgjnicdcjbaaGreatDoorTx4
import Derived.KernelRfl
import Derived.MapKept
import Derived.Laws.Externs
namespace Go.Proofs.YtadjgjnicdcjbaaGreatDoor
set_option maxRecDepth 100000
set_option maxHeartbeats 4000000
set_option linter.unusedVariables false
section
abbrev nG:=List (Int×Bool)
def gv (m:nG) (P:Int→Prop):Prop:=(m.map (·.1)).Nodup∧ ∀ k,k∈m.map (·.1)↔P k
section
variable {m:nG} {P Q:Int→Prop} {k:Int}
theorem gv.s_ (h:gv m P) (e: ∀ k,P k↔Q k):gv m Q:=⟨h.1,fun k=>(h.2 k).trans (e k)⟩
theorem Gf (h: ∀ k,¬ P k):gv [] P:=⟨List.Pairwise.nil,fun k=>⟨fun q=>by simp at q,fun q=>absurd q (h k)⟩⟩
theorem Bk:k∈m.map (·.1)↔(m.lookup k).isSome=true:=by
 induction m with
 |nil=>simp
 |cons p m ih=>
  obtain ⟨a,b⟩:=p
  by_cases e:k=a
  ·subst e; simp [List.lookup]
  ·have:(k==a)=false:=by simpa using e
   simp only [List.map_cons,cO,e,false_or,List.lookup,this]
   exact ih
theorem D6 {b:Bool} (h:gv m P) (hk: ¬ P k):gv (dB m k b) fun q=>P q∨q=k:=by
 have hn:(m.lookup k).isSome=false:=by
  rw [Bool.eq_false_iff]
  exact fun q=>hk ((h.2 k).1 (Bk.2 q))
 unfold dB
 rw [hn]
 simp only [Bool.false_eq_true,if_false]
 refine ⟨?_,fun q=>?_⟩
 ·rw [List.map_append]
  refine List.nodup_append.2 ⟨h.1,sm,fun a ha b hb e=>?_⟩
  simp at hb
  subst hb; subst e
  exact hk ((h.2 _).1 ha)
 ·rw [List.map_append,jH,h.2 q]
  simp
theorem xT (h:gv m P):gv (bR m k) fun q=>P q∧q≠k:=by
 have hs:((bR m k).map (·.1)).Sublist (m.map (·.1)):=List.Sublist.map _ List.filter_sublist
 refine ⟨h.1.sublist hs,fun q=>?_⟩
 constructor
 ·intro hq
  obtain ⟨p,hp,rfl⟩:=List.mem_map.1 hq
  obtain ⟨A,B⟩:=ir.1 hp
  exact ⟨(h.2 _).1 (List.mem_map_of_mem A),B⟩
 ·rintro ⟨A,B⟩
  obtain ⟨p,hp,rfl⟩:=List.mem_map.1 ((h.2 q).2 A)
  exact List.mem_map_of_mem (ir.2 ⟨hp,B⟩)
end
/-- two rows that go up and have the same numbers, each once -/
theorem qa {a b:List Int} (ha:a.Pairwise (· ≤ ·)) (hb:b.Pairwise (· ≤ ·)) (na:a.Nodup) (nb:b.Nodup) (h: ∀ x,x∈a↔x∈b):a=b:=
 oz ((List.perm_ext_iff_of_nodup na nb).2 h) ha hb
def Fx (l:List Int):Nat:=if l.length=2∧l[1]? =l[0]? then 1 else l.length
theorem uw {l:List Int} {x y:Int} (h:l.length=2) (h0:l[0]? =some y) (h1:l[1]? =some x) (e:x=y):Fx l=1:=if_pos ⟨h,by rw [h0,h1,e]⟩
theorem wV {l:List Int} {x y:Int} (h:l.length=2) (h0:l[0]? =some y) (h1:l[1]? =some x) (e: ¬ x=y):Fx l=l.length:=if_neg fun q=>e (by have:=q.2; rw [h0,h1] at this; exact Option.some.inj this)
theorem FH (a b:Int):(a=b∧Fx (cp [a,b])=1)∨(¬ a=b∧Fx (cp [a,b])=2):=by
 have hl:(cp [a,b]).length=2:=by simp
 have hp:(cp [a,b]).Perm [a,b]:=eX
 match hs:cp [a,b],hl with
 |[x,y],_=>
  rw [hs] at hp
  by_cases e:a=b
  ·subst e
   left
   refine ⟨U,uw U U U ?_⟩
   have A:x∈[a,a]:=hp.mem_iff.1 sm
   have B:y∈[a,a]:=hp.mem_iff.1 sm
   simp at A B; omega
  ·right
   refine ⟨e,(wV (x:=y) (y:=x) U U U fun q=>?_).trans U⟩
   subst q
   have A:=hp.nodup_iff.2 (show [a,b].Nodup by simp [e])
   simp at A
section
variable {m left:fp} {i n x:Int} {y:ab}
theorem jL {p:Int×ab→Bool} (hn:(left.map (·.1)).Nodup) (hm:(x,y)∈left):left.countP p=(bR left x).countP p+(if p (x,y)=true then 1 else 0):=by
 induction left with
 |nil=>cases hm
 |cons q left ih=>
  obtain ⟨a,b⟩:=q
  simp only [List.map_cons,List.nodup_cons] at hn
  rcases List.mem_cons.1 hm with e|hm
  ·cases e
   have A:bR ((x,y)::left) x=left:=by
    unfold bR
    rw [List.filter_cons_of_neg sm]
    exact List.filter_eq_self.2 fun q hq=>by
     have:q.1≠x:=fun e=>hn.1 (e▸List.mem_map_of_mem hq)
     simpa using this
   rw [A,List.countP_cons]
  ·have B:a≠x:=fun e=>hn.1 (e▸List.mem_map_of_mem (f:=fun z:Int×ab=>z.1) hm)
   have A:bR ((a,b)::left) x=(a,b)::bR left x:=by
    unfold bR
    rw [List.filter_cons_of_pos (by simpa using B)]
   rw [A,List.countP_cons,List.countP_cons,ih hn.2 hm]
   omega
theorem lz:gd left i n=left.countP fun p=>decide (p.2.Hi<n)&& !decide (p.1=i):=by unfold gd j7; rw [List.countP_filter]
theorem nm:jd left i n=left.countP fun p=>decide (p.2.Lo<n)&& !decide (p.1=i):=by unfold jd j7; rw [List.countP_filter]
theorem BA (hn:(left.map (·.1)).Nodup) (hm:(x,y)∈left) (h:x=i):gd left i n=gd (bR left x) i n:=by
 rw [lz,lz,jL hn hm]; simp [h]
theorem D8 (hn:(left.map (·.1)).Nodup) (hm:(x,y)∈left) (h:x=i):jd left i n=jd (bR left x) i n:=by
 rw [nm,nm,jL hn hm]; simp [h]
theorem tY (hn:(left.map (·.1)).Nodup) (hm:(x,y)∈left) (h: ¬ x=i) (hy:y.Hi<n):gd left i n=gd (bR left x) i n+1:=by
 rw [lz,lz,jL hn hm]; simp [h,hy]
theorem wE (hn:(left.map (·.1)).Nodup) (hm:(x,y)∈left) (h: ¬ x=i) (hy: ¬ y.Hi<n):gd left i n=gd (bR left x) i n:=by
 rw [lz,lz,jL hn hm]; simp [h,hy]
theorem wD (hn:(left.map (·.1)).Nodup) (hm:(x,y)∈left) (h: ¬ x=i) (hy:y.Lo<n):jd left i n=jd (bR left x) i n+1:=by
 rw [nm,nm,jL hn hm]; simp [h,hy]
theorem z8 (hn:(left.map (·.1)).Nodup) (hm:(x,y)∈left) (h: ¬ x=i) (hy: ¬ y.Lo<n):jd left i n=jd (bR left x) i n:=by
 rw [nm,nm,jL hn hm]; simp [h,hy]
theorem ue:gd [] i n=0:=rfl
theorem wm:jd [] i n=0:=rfl
theorem z9:gd m i n≤m.length:=by unfold gd j7; exact Nat.le_trans List.countP_le_length (List.length_filter_le _ _)
theorem Fl:jd m i n≤m.length:=by unfold jd j7; exact Nat.le_trans List.countP_le_length (List.length_filter_le _ _)
end
def lQ {β:Type} (m left:List (Int×β)) (ys:List Int):Prop:=(ys++left.map (·.1)).Perm (m.map (·.1))
theorem qU {β:Type} {m:List (Int×β)}:lQ m m []:=List.Perm.refl _
theorem se {β:Type} {m:List (Int×β)} {ys:List Int} (h:lQ m [] ys):ys.Perm (m.map (·.1)):=by simpa [lQ] using h
theorem D_ {β:Type} {left:List (Int×β)} {x:Int} {y:β} (hn:(left.map (·.1)).Nodup) (hm:(x,y)∈left):(left.map (·.1)).Perm (x::(bR left x).map (·.1)):=by
 induction left with
 |nil=>cases hm
 |cons q left ih=>
  obtain ⟨a,b⟩:=q
  simp only [List.map_cons,List.nodup_cons] at hn
  rcases List.mem_cons.1 hm with e|hm
  ·cases e
   have A:bR ((x,y)::left) x=left:=by
    unfold bR
    rw [List.filter_cons_of_neg sm]
    exact List.filter_eq_self.2 fun q hq=>by
     have:q.1≠x:=fun e=>hn.1 (e▸List.mem_map_of_mem hq)
     simpa using this
   rw [A]; exact List.Perm.refl _
  ·have B:a≠x:=fun e=>hn.1 (e▸List.mem_map_of_mem (f:=fun z:Int×β=>z.1) hm)
   have A:bR ((a,b)::left) x=(a,b)::bR left x:=by
    unfold bR
    rw [List.filter_cons_of_pos (by simpa using B)]
   rw [A,List.map_cons,List.map_cons]
   exact ((ih hn.2 hm).cons a).trans (List.Perm.swap _ _ _)
theorem lF {β:Type} {m left:List (Int×β)} {ys:List Int} {x:Int} {y:β} (hn:(left.map (·.1)).Nodup) (hm:(x,y)∈left) (h:lQ m left ys):lQ m (bR left x) (ys++[x]):=by
 unfold lQ at h ⊢
 refine List.Perm.trans ?_ h
 rw [List.append_assoc]
 exact (D_ hn hm).symm.append_left ys
theorem eG {β:Type} {m left:List (Int×β)} {x:Int} (h: ∀ p∈left,p∈m): ∀ p∈bR left x,p∈m:=fun p hp=>h p (ir.1 hp).1
theorem fg {m:fp} {i:Int} (h: ∀ p∈m,0≤p.2.Lo∧p.2.Lo≤p.2.Hi∧p.2.Hi≤30000000):0≤(ar m i).Lo∧(ar m i).Lo≤(ar m i).Hi∧(ar m i).Hi≤30000000:=by
 unfold ar
 cases e:m.lookup i with
 |none=>simp [cZ]
 |some v=>
  have hm:(i,v)∈m:=by
   clear h
   induction m with
   |nil=>cases e
   |cons p m ih=>
    obtain ⟨a,b⟩:=p
    by_cases c:i=a
    ·subst c; simp [List.lookup] at e; subst e; exact bU
    ·have:(i==a)=false:=by simpa using c
     simp only [List.lookup,this] at e
     exact cL _ (ih e)
  simpa using h _ hm
/-- not reached by the numbers so far -/
def p5 (m:fp) (i:Int) (ys:List Int) (k:Int):Prop:=(1≤k∧k≤(m.length:Int))∧ ∀ n∈ys,¬ ((gd m i n:Int)+1≤k∧k≤(jd m i n:Int)+1)
section
variable {m:fp} {i:Int} {own:ab} {ys:List Int} {nev ranks:nG} {n a b:Int}
theorem ED (h:gv nev fun k=>1≤k∧k≤(m.length:Int)):gv nev (p5 m i []):=h.s_ fun k=>⟨fun h=>⟨h,fun n hn=>by cases hn⟩,fun h=>h.1⟩
theorem Fc (ha:a=(gd m i n:Int)+1) (hb:b=(jd m i n:Int)+1) (h:gv nev fun q=>p5 m i ys q∧ ¬ (a≤q∧q≤b)):gv nev (p5 m i (ys++[n])):=by
 subst ha hb
 refine h.s_ fun k=>?_
 unfold p5
 constructor
 ·rintro ⟨⟨B,A⟩,C⟩
  refine ⟨B,fun x hx=>?_⟩
  rcases List.mem_append.1 hx with hx|hx
  ·exact A x hx
  ·rw [bD] at hx; subst hx; exact C
 ·rintro ⟨B,A⟩
  exact ⟨⟨B,fun x hx=>A x (List.mem_append_left _ hx)⟩,A n sm⟩
theorem yW {P:Int→Prop} {k:Int} (hk:a≤k) (h:gv nev fun q=>P q∧ ¬ (a≤q∧q<k)):gv (bR nev k) fun q=>P q∧ ¬ (a≤q∧q<k+1):=
 (xT (k:=k) h).s_ fun q=>by
  constructor
  ·rintro ⟨⟨B,A⟩,E⟩; exact ⟨B,fun ⟨C,D⟩=>A ⟨C,om⟩⟩
  ·rintro ⟨B,A⟩; exact ⟨⟨B,fun ⟨C,D⟩=>A ⟨C,om⟩⟩,fun e=>A ⟨om,om⟩⟩
theorem Ag (hall: ∀ n,n∈ys↔n∈g7 m i own) {k:Int} (hk:1≤k∧k≤(m.length:Int)): ¬ p5 m i ys k↔o4 m i own k:=by
 unfold p5 o4
 constructor
 ·intro h
  refine Classical.byContradiction fun q=>h ⟨hk,fun n hn hc=>q ⟨n,(hall n).1 hn,hc.1,hc.2⟩⟩
 ·rintro ⟨n,hn,A,B⟩ h
  exact h.2 n ((hall n).2 hn) ⟨A,B⟩
/-- the ranks, from what is left of the map -/
theorem zh (hi:m.lookup i≠none) (hall: ∀ n,n∈ys↔n∈g7 m i own) (h:gv ranks fun k=>(1≤k∧k≤(m.length:Int))∧ ¬ p5 m i ys k):cp (ranks.map (·.1))=cR m i own:=by
 refine qa j9 ?_ ((eX (l:=ranks.map (·.1))).nodup_iff.2 h.1) ?_ fun k=>?_
 ·unfold cR
  refine List.Pairwise.filter _ ?_
  rw [List.pairwise_map]
  exact List.pairwise_lt_range.imp fun h=>by omega
 ·unfold cR
  refine List.Pairwise.filter _ ?_
  rw [List.pairwise_map]
  exact List.pairwise_lt_range.imp fun h=>by omega
 ·rw [(eX (l:=ranks.map (·.1))).mem_iff,h.2 k,Ce hi]
  constructor
  ·rintro ⟨A,B⟩; exact (Ag hall A).1 B
  ·intro A
   have hk:1≤k∧k≤(m.length:Int):=by
    obtain ⟨n,_,B,C⟩:=A
    have:=FN hi (x:=n)
    omega
   exact ⟨hk,(Ag hall hk).2 A⟩
end
section
variable {nw left rk:nG} {N R:Int→Prop} {u:Int} {v:Bool}
theorem GX (hl: ∀ p∈left,p∈nw) (hk:gv nw N) (hm:(u,v)∈left) (h:gv rk fun w=>R w∧ ¬ (N w∧w ∉ left.map (·.1))):gv (bR rk u) fun w=>R w∧ ¬ (N w∧w ∉ (bR left u).map (·.1)):=
 (xT (k:=u) h).s_ fun w=>by
  have hd:w∈(bR left u).map (·.1)↔w∈left.map (·.1)∧w≠u:=by
   constructor
   ·intro q
    obtain ⟨p,hp,rfl⟩:=List.mem_map.1 q
    exact ⟨List.mem_map_of_mem (ir.1 hp).1,(ir.1 hp).2⟩
   ·rintro ⟨D,E⟩
    obtain ⟨p,hp,rfl⟩:=List.mem_map.1 D
    exact List.mem_map_of_mem (ir.2 ⟨hp,E⟩)
  constructor
  ·rintro ⟨⟨B,A⟩,C⟩
   exact ⟨B,fun q=>A ⟨q.1,fun z=>q.2 (hd.2 ⟨z,C⟩)⟩⟩
  ·rintro ⟨B,A⟩
   refine ⟨⟨B,fun q=>A ⟨q.1,fun z=>q.2 (hd.1 z).1⟩⟩,fun e=>A ⟨?_,fun z=>(hd.1 z).2 e⟩⟩
   subst e
   exact (hk.2 _).1 (List.mem_map_of_mem (f:=fun z:Int×Bool=>z.1) (hl _ hm))
theorem C9 {n:Nat} (h:gv rk R) (hR: ∀ k,R k→1≤k∧k≤(n:Int)):rk.length≤n:=by
 have hp:((List.range n).map fun (k:Nat)=>(k:Int)+1).Pairwise (· < ·):=by
  rw [List.pairwise_map]
  exact List.pairwise_lt_range.imp fun h=>by omega
 have e:cp (rk.map (·.1))=((List.range n).map fun (k:Nat)=>(k:Int)+1).filter fun k=>decide (k∈rk.map (·.1)):=by
  refine qa j9 ((hp.filter _).imp fun h=>by omega) ((eX (l:=rk.map (·.1))).nodup_iff.2 h.1) ((hp.filter _).imp fun h=>by omega) fun k=>?_
  rw [(eX (l:=rk.map (·.1))).mem_iff,List.mem_filter,decide_eq_true_eq]
  refine ⟨fun q=>⟨?_,q⟩,fun q=>q.2⟩
  have:=hR k ((h.2 k).1 q)
  exact List.mem_map.2 ⟨(k-1).toNat,List.mem_range.2 om,om⟩
 have A:=congrArg List.length e
 have B:=List.length_filter_le (fun k=>decide (k∈rk.map (·.1))) ((List.range n).map fun (k:Nat)=>(k:Int)+1)
 rw [e5,List.length_map] at A
 rw [List.length_map,List.length_range] at B
 omega
end
section
variable {m left:fp} {i x n:Int} {own y:ab} {ys:List Int}
/-- what was told so far: all of those who are not left -/
def tq (m:fp) (i:Int) (own:ab) (left:fp) (ys:List Int):Prop:=(∀ n∈ys,n∈g7 m i own)∧own.Lo∈ys∧ ∀ p∈m,p.1≠i→p ∉ left→ ∀ n∈[p.2.Lo+1,p.2.Hi+1],own.Lo≤n∧n≤own.Hi→n∈ys
theorem ka {p:Int×ab} (hp:p∈m) (hi:p.1≠i) (hn:n=p.2.Lo+1∨n=p.2.Hi+1) (hb:own.Lo≤n∧n≤own.Hi):n∈g7 m i own:=
 cL _ (List.mem_filter.2 ⟨List.mem_flatMap.2 ⟨p,List.mem_filter.2 ⟨hp,by simpa using hi⟩,by simpa using hn⟩,g6 hb⟩)
theorem FX:tq m i own m [own.Lo]:=⟨fun n hn=>by rw [bD] at hn; subst hn; exact bU,sm,fun p hp _ hl=>absurd hp hl⟩
theorem Hc (h:tq m i own [] ys) (n:Int):n∈ys↔n∈g7 m i own:=by
 refine ⟨h.1 n,fun hn=>?_⟩
 rcases List.mem_cons.1 hn with rfl|hn
 ·exact h.2.1
 ·obtain ⟨C,D⟩:=List.mem_filter.1 hn
  obtain ⟨p,hp,hx⟩:=List.mem_flatMap.1 C
  obtain ⟨A,B⟩:=List.mem_filter.1 hp
  exact h.2.2 p A (by simpa using B) sm n hx (of_decide_eq_true D)
theorem jn {ys':List Int} (hm:(left.map (·.1)).Nodup) (hx:(x,y)∈left) (hl: ∀ p∈left,p∈m) (h:tq m i own left ys) (hs: ∀ n∈ys,n∈ys') (hn: ∀ n∈ys',n∈ys∨n∈g7 m i own)
 (hy:x≠i→ ∀ n∈[y.Lo+1,y.Hi+1],own.Lo≤n∧n≤own.Hi→n∈ys'):tq m i own (bR left x) ys':=by
 refine ⟨fun n A=>?_,hs _ h.2.1,fun p hp hi B n A hb=>?_⟩
 ·rcases hn n A with q|q
  ·exact h.1 n q
  ·exact q
 ·by_cases e:p∈left
  ·have C:p.1=x:=by
    refine Classical.byContradiction fun q=>B (ir.2 ⟨e,q⟩)
   have E:p=(x,y):=by
    obtain ⟨G,H⟩:=p
    simp only at C; subst C
    have F:=(ia hm).1 e
    have D:=(ia hm).1 hx
    rw [F] at D; cases D; rfl
   subst E
   exact hy hi n A hb
  ·exact hs n (h.2.2 p hp hi e n A hb)
end
section
variable {r:bQ} {h i:Int} {ht:List av} {d:av}
theorem l0 (he: ¬ cc r=0):js r h i=cc r:=if_neg he
theorem l4 (he:cc r=0) (hi: ¬ ((0≤h∧h≤(r.aq.length:Int)-1)∧0≤i∧i≤(r.aI.length:Int)-1)):js r h i=2:=by
 unfold js; rw [if_pos he,if_neg (show ¬ ((0≤h∧h≤(r.aq.length:Int)-1)∧qY r i) from hi)]
theorem xY (he:cc r=0) (hi:(0≤h∧h≤(r.aq.length:Int)-1)∧0≤i∧i≤(r.aI.length:Int)-1) (h1:r.aq[h.toNat]? =some ht) (h2:ht[i.toNat]? =some d):js r h i=if d.Out=true then 6 else 0:=by
 unfold js; rw [if_pos he,if_pos (show (0≤h∧h≤(r.aq.length:Int)-1)∧qY r i from hi),h1]
 simp [h2]
theorem k6 (he:cc r=0) (hi:(0≤h∧h≤(r.aq.length:Int)-1)∧0≤i∧i≤(r.aI.length:Int)-1) (h1:r.aq[h.toNat]? =some ht) (h2:ht[i.toNat]? =some d) (ho:d.Out=true):js r h i=6:=by rw [xY he hi h1 h2,if_pos ho]
theorem nH (he:cc r=0) (hi:(0≤h∧h≤(r.aq.length:Int)-1)∧0≤i∧i≤(r.aI.length:Int)-1) (h1:r.aq[h.toNat]? =some ht) (h2:ht[i.toNat]? =some d) (ho:d.Out=false):js r h i=0∧fz r h i=cy r.ai d:=by
 have e:js r h i=0:=by rw [xY he hi h1 h2,if_neg (by rw [ho]; decide)]
 refine ⟨e,?_⟩
 unfold fz
 rw [if_pos e,h1]
 simp [h2]
end
theorem ui {r:bQ} {i:Int} (h: ¬ gU r i=0):gF r i=[]:=if_neg h
theorem AW {r:bQ} {i:Int} (h:gU r i=0):gF r i=cR (ax r) i (ar (ax r) i):=if_pos h
end
section
open Go.RowKit
section
variable {key:Int→Int} {l q m:List Int} {i j:Nat} {x y:Int}
theorem Bj:1=1∧l=[]∨pn key l 1 l:=by
 cases l with
 |nil=>exact .inl ⟨rfl,rfl⟩
 |cons a l=>exact .inr (F4 sm)
theorem He (h:i<l.length) (hd:i=1∧l=[]∨pn key l i m):pn key l i m:=by
 rcases hd with ⟨_,rfl⟩|hd
 ·simp at h
 ·exact hd
theorem Fa (hi: ¬ i<l.length) (hl:m.length=l.length) (hd:i=1∧l=[]∨pn key l i m):m=di key l:=by
 rcases hd with ⟨_,rfl⟩|hd
 ·exact nV hl
 ·exact FG om hd
theorem EY (hx:q[j]? =some x) (hy:q[j-1]? =some y) (h: ∀ z∈q,z∈l): ∀ z∈(q.set j y).set (j-1) x,z∈l:=fun z hz=>by
 rcases List.mem_or_eq_of_mem_set hz with hz|rfl
 ·rcases List.mem_or_eq_of_mem_set hz with hz|rfl
  ·exact h z hz
  ·exact h _ (aN hy)
 ·exact h _ (aN hx)
theorem sj {p:Int→Bool} (hx:l[i]? =some x) (h:p x=true):(l.take (i+1)).filter p=(l.take i).filter p++[x]:=by
 rw [jF hx,List.filter_append]; simp [h]
theorem zX {p:Int→Bool} (hx:l[i]? =some x) (h:p x=false):(l.take (i+1)).filter p=(l.take i).filter p:=by
 rw [jF hx,List.filter_append]; simp [h]
end
section
variable {r:bQ} {h:Int} {n:Nat}
theorem yc (e: ¬ cc r=0):e8 r h=cc r:=if_neg e
theorem yO (e:cc r=0) (q: ¬ (0≤h∧h≤(r.aq.length:Int))):e8 r h=2:=by unfold e8; rw [if_pos e,if_neg q]
theorem uz (e:cc r=0) (q:0≤h∧h≤(r.aq.length:Int)):e8 r h=0:=by unfold e8; rw [if_pos e,if_pos q]
theorem yj (hd:r.bu.length≤12):(e9 r h).length≤12:=by
 unfold e9
 split
 ·split
  ·exact hd
  ·unfold qw
   simp only [iq,iD]
   exact Nat.le_trans (List.length_filter_le _ _) hd
 ·simp
theorem uf (e: ¬ e8 r h=0):e9 r h=[]:=if_neg e
theorem qP (e:e8 r h=0) (q:h=0):e9 r h=r.bu:=by unfold e9; rw [if_pos e,if_pos q]
theorem qK (e:e8 r (n:Int)=0) (q: ¬ (n:Int)=0):e9 r (n:Int)=qw r n:=by unfold e9; rw [if_pos e,if_neg q,Int.toNat_natCast]
theorem uJ {k:Nat} {l:List Int} (hl:l=di (fun i=>(ar (dn r n) i).Hi) (r.bu.filter fun i=>((dn r n).lookup i).isSome)) (hk:k=min r.gf.toNat l.length):oq k l=qw r n:=by subst hl; subst hk; rfl
theorem Lb {m:fp} {l:List Int} (hb: ∀ p∈m,0≤p.2.Lo∧p.2.Lo≤p.2.Hi∧p.2.Hi≤30000000): ∀ x∈l,0≤(ar m x).Hi∧(ar m x).Hi≤30000000:=fun x _=>by have:=fg (i:=x) hb; omega
theorem Lp {m:fp} {l:List Int} (hb: ∀ p∈m,0≤p.2.Lo∧p.2.Lo≤p.2.Hi∧p.2.Hi≤30000000): ∀ x∈l,0≤(ar m x).Lo∧(ar m x).Lo≤30000000:=fun x _=>by have:=fg (i:=x) hb; omega
end
end
section
def Dm (f:Int→ab) (g:List Int):Prop:= ∀ t,(∃ a∈g,(f a).Lo<t)→(∃ b∈g,t≤(f b).Lo)→ ∃ c∈g,(f c).Lo<t∧t≤(f c).Hi
def x_ (f:Int→ab) (g h:List Int):Prop:= ∀ a∈g,∀ b∈h,(f a).Hi<(f b).Lo
structure fF (f:Int→ab) (keys:List Int) (G:List (List Int)):Prop where
 perm:G.flatten.Perm keys
 some_: ∀ g∈G,g≠[]
 apart:G.Pairwise (x_ f)
 tight: ∀ g∈G,Dm f g
def xS (G:List (List Int)):Prop:= ∀ g∈G,g.Pairwise (· ≤ ·)
section
variable {f:Int→ab} {keys:List Int} {G G':List (List Int)} {g h:List Int} {x:Int}
theorem sT: ∀ {g:List Int},g≠[]→ ∃ a∈g,∀ b∈g,(f a).Lo≤(f b).Lo
 |[],h=>absurd rfl h
 |[a],_=>⟨a,sm,fun b hb=>by simp at hb; subst hb; omega⟩
 |a::b::g,_=>by
  obtain ⟨c,hc,hm⟩:=sT (g:=b::g) sm
  rcases Int.le_total (f a).Lo (f c).Lo with q|q
  ·refine ⟨a,sm,fun d hd=>?_⟩
   rcases List.mem_cons.1 hd with rfl|hd
   ·omega
   ·have:=hm d hd; omega
  ·refine ⟨c,cL _ hc,fun d hd=>?_⟩
   rcases List.mem_cons.1 hd with rfl|hd
   ·exact q
   ·exact hm d hd
/-- the first group is what no cut parts from the least -/
theorem n3 (hf: ∀ i∈keys,(f i).Lo≤(f i).Hi) (h:fF f keys (g::G)) {a:Int} (ha:a∈keys) (hm: ∀ b∈keys,(f a).Lo≤(f b).Lo) {b:Int} (hb:b∈keys):b∈g↔ ∀ t,(f a).Lo<t→t≤(f b).Lo→ ∃ c∈keys,(f c).Lo<t∧t≤(f c).Hi:=by
 have hk: ∀ x,x∈keys↔x∈g∨x∈G.flatten:=fun x=>by rw [← h.perm.mem_iff,List.flatten_cons,jH]
 have A:=List.pairwise_cons.1 h.apart
 have B:a∈g:=by
  rcases (hk a).1 ha with q|q
  ·exact q
  ·obtain ⟨y,hy⟩:=List.exists_mem_of_ne_nil _ (h.some_ g bU)
   obtain ⟨g',hg',hag'⟩:=List.mem_flatten.1 q
   have F:=A.1 g' hg' y hy a hag'
   have H:=hm y ((hk y).2 (.inl hy))
   have E:=hf y ((hk y).2 (.inl hy))
   omega
 constructor
 ·intro AA t F H
  obtain ⟨c,hc,E⟩:=h.tight g bU t ⟨a,B,F⟩ ⟨b,AA,H⟩
  exact ⟨c,(hk c).2 (.inl hc),E⟩
 ·intro C
  rcases (hk b).1 hb with q|q
  ·exact q
  ·exfalso
   obtain ⟨d,hd,D⟩:=sT (f:=f) (g:=G.flatten) (fun e=>by rw [e] at q; cases q)
   obtain ⟨g',hg',hdg'⟩:=List.mem_flatten.1 hd
   have F:=A.1 g' hg' a B d hdg'
   have H:=hf a ha
   have E:=D b q
   obtain ⟨c,hc,K,L⟩:=C (f d).Lo om E
   rcases (hk c).1 hc with J|J
   ·have:=A.1 g' hg' c J d hdg'; omega
   ·have:=D c J; omega
theorem qV (h:fF f keys (g::G)):fF f G.flatten G:=
 ⟨List.Perm.refl _,fun x hx=>h.some_ x (cL _ hx),(List.pairwise_cons.1 h.apart).2,fun x hx=>h.tight x (cL _ hx)⟩
theorem m6 {k2:List Int} (h:fF f keys G) (p:keys.Perm k2):fF f k2 G:=⟨h.perm.trans p,h.some_,h.apart,h.tight⟩
theorem oA: ∀ {G G':List (List Int)} {keys:List Int},keys.Nodup→(∀ i∈keys,(f i).Lo≤(f i).Hi)→fF f keys G→fF f keys G'→xS G→xS G'→G=G'
 |[],[],keys,_,_,_,_,_,_=>rfl
 |[],g'::G',keys,_,_,h,h',_,_=>by
  exfalso
  have F:keys=[]:=List.Perm.eq_nil (by simpa using h.perm.symm)
  subst F
  have:=h'.perm.eq_nil
  simp at this
  exact h'.some_ g' bU this.1
 |g::G,[],keys,_,_,h,h',_,_=>by
  exfalso
  have F:keys=[]:=List.Perm.eq_nil (by simpa using h'.perm.symm)
  subst F
  have:=h.perm.eq_nil
  simp at this
  exact h.some_ g bU this.1
 |g::G,g'::G',keys,hn,hf,h,h',ha,ha'=>by
  have H:keys≠[]:=fun e=>by
   subst e
   have:=h.perm.eq_nil
   simp at this
   exact h.some_ g bU this.1
  obtain ⟨a,A,B⟩:=sT (f:=f) H
  have D:=h.perm.nodup_iff.2 hn
  have E:=h'.perm.nodup_iff.2 hn
  rw [List.flatten_cons,List.nodup_append] at D E
  have vu: ∀ b∈g,b∈keys:=fun b hb=>h.perm.mem_iff.1 (by rw [List.flatten_cons]; exact List.mem_append_left _ hb)
  have C: ∀ b∈g',b∈keys:=fun b hb=>h'.perm.mem_iff.1 (by rw [List.flatten_cons]; exact List.mem_append_left _ hb)
  have e:g=g':=by
   refine qa (ha g bU) (ha' g' bU) D.1 E.1 fun b=>?_
   constructor
   ·intro hb
    exact (n3 hf h' A B (vu b hb)).2 ((n3 hf h A B (vu b hb)).1 hb)
   ·intro hb
    exact (n3 hf h A B (C b hb)).2 ((n3 hf h' A B (C b hb)).1 hb)
  subst e
  have p:G.flatten.Perm G'.flatten:=by
   have:=h.perm.trans h'.perm.symm
   rw [List.flatten_cons,List.flatten_cons] at this
   exact (List.perm_append_left_iff g).1 this
  rw [oA (G:=G) (G':=G') D.2.1 (fun i hi=>hf i (h.perm.mem_iff.1 (by rw [List.flatten_cons]; exact List.mem_append_right _ hi))) (qV h) (m6 (qV h') p.symm) (fun x hx=>ha x (cL _ hx)) (fun x hx=>ha' x (cL _ hx))]
/-- groups, each one put in order -/
theorem qI (h:fF f keys G):fF f keys (G.map cp)∧xS (G.map cp):=by
 have hp: ∀ G:List (List Int),(G.map cp).flatten.Perm G.flatten:=fun G=>by
  induction G with
  |nil=>simp
  |cons g G ih=>simp only [List.map_cons,List.flatten_cons]; exact eX.append ih
 have hm: ∀ {g:List Int} {x:Int},x∈cp g↔x∈g:=eX.mem_iff
 refine ⟨⟨(hp G).trans h.perm,fun g hg=>?_,?_,fun g hg=>?_⟩,fun g hg=>?_⟩
 ·obtain ⟨y,hy,rfl⟩:=List.mem_map.1 hg
  intro e
  have:=(eX (l:=y)).symm
  rw [e] at this
  exact h.some_ y hy this.eq_nil
 ·rw [List.pairwise_map]
  exact h.apart.imp fun q a ha b hb=>q a (hm.1 ha) b (hm.1 hb)
 ·obtain ⟨y,hy,rfl⟩:=List.mem_map.1 hg
  rintro t ⟨a,ha,A⟩ ⟨b,hb,B⟩
  obtain ⟨c,hc,C⟩:=h.tight y hy t ⟨a,hm.1 ha,A⟩ ⟨b,hm.1 hb,B⟩
  exact ⟨c,hm.2 hc,C⟩
 ·obtain ⟨y,hy,rfl⟩:=List.mem_map.1 hg
  exact j9
end
/-- so far: groups, and the greatest of all -/
structure jU (f:Int→ab) (p:List Int) (G:List (List Int)) (last:Int):Prop where
 ok:fF f p G
 JO: ∀ a∈p,(f a).Hi≤last
 at_:p=[]∧last= -1∨ ∃ a∈p,(f a).Hi=last
section
variable {f:Int→ab} {p:List Int} {G:List (List Int)} {g:List Int} {x last:Int}
theorem AQ:jU f [] [] (-1):=⟨⟨sm,fun g hg=>(by cases hg),List.Pairwise.nil,fun g hg=>by cases hg⟩,fun a ha=>(by cases ha),.inl ⟨rfl,rfl⟩⟩
theorem Bm:Dm f [x]:=by
 rintro t ⟨a,ha,A⟩ ⟨b,hb,B⟩
 simp at ha hb; subst ha hb; omega
theorem ob (h0: -1≤(f x).Hi) (h:jU f p G last):(∀ a∈p++[x],(f a).Hi≤max last (f x).Hi)∧((p++[x])=[]∧max last (f x).Hi= -1∨ ∃ a∈p++[x],(f a).Hi=max last (f x).Hi):=by
 refine ⟨fun a ha=>?_,.inr ?_⟩
 ·rcases List.mem_append.1 ha with ha|ha
  ·have:=h.JO a ha; omega
  ·rw [bD] at ha; subst ha; omega
 ·rcases Int.le_total last (f x).Hi with q|q
  ·exact ⟨x,sm,om⟩
  ·rcases h.at_ with ⟨rfl,e⟩|⟨a,ha,e⟩
   ·exact ⟨x,sm,om⟩
   ·exact ⟨a,List.mem_append_left _ ha,om⟩
theorem G0 (h0: -1≤(f x).Hi) (h:jU f p G last) (hl:last<(f x).Lo):jU f (p++[x]) (G++[[x]]) (max last (f x).Hi):=by
 have A: ∀ y∈G,∀ a∈y,a∈p:=fun y hy a ha=>h.ok.perm.mem_iff.1 (List.mem_flatten.2 ⟨y,hy,ha⟩)
 refine ⟨⟨?_,fun y hy=>?_,?_,fun y hy=>?_⟩,(ob h0 h).1,(ob h0 h).2⟩
 ·rw [List.flatten_append]
  exact h.ok.perm.append sm
 ·rcases List.mem_append.1 hy with hy|hy
  ·exact h.ok.some_ y hy
  ·rw [bD] at hy; subst hy; simp
 ·rw [List.pairwise_append]
  refine ⟨h.ok.apart,List.pairwise_singleton _ _,fun y hy z hz a ha b hb=>?_⟩
  rw [bD] at hz; subst hz
  rw [bD] at hb; subst hb
  have:=h.JO a (A y hy a ha); omega
 ·rcases List.mem_append.1 hy with hy|hy
  ·exact h.ok.tight y hy
  ·rw [bD] at hy; subst hy; exact Bm
theorem Dl (h0: -1≤(f x).Hi) (hf: ∀ i∈p,(f i).Lo≤(f i).Hi) (hx: ∀ a∈p,(f a).Lo≤(f x).Lo) (h:jU f p (G++[g]) last) (hl: ¬ last<(f x).Lo):jU f (p++[x]) (G++[g++[x]]) (max last (f x).Hi):=by
 have A: ∀ y∈G++[g],∀ a∈y,a∈p:=fun y hy a ha=>h.ok.perm.mem_iff.1 (List.mem_flatten.2 ⟨y,hy,ha⟩)
 have C:=List.pairwise_append.1 h.ok.apart
 have B:=h.ok.some_ g sm
 refine ⟨⟨?_,fun y hy=>?_,?_,fun y hy=>?_⟩,(ob h0 h).1,(ob h0 h).2⟩
 ·have:=h.ok.perm
  rw [List.flatten_append] at this ⊢
  simp only [List.flatten_cons,List.flatten_nil,List.append_nil] at this ⊢
  rw [← List.append_assoc]
  exact this.append_right _
 ·rcases List.mem_append.1 hy with hy|hy
  ·exact h.ok.some_ y (List.mem_append_left _ hy)
  ·rw [bD] at hy; subst hy; simp
 ·rw [List.pairwise_append]
  refine ⟨C.1,List.pairwise_singleton _ _,fun y hy z hz a ha b hb=>?_⟩
  rw [bD] at hz; subst hz
  rcases List.mem_append.1 hb with hb|hb
  ·exact C.2.2 y hy g sm a ha b hb
  ·rw [bD] at hb; subst hb
   obtain ⟨c,hc⟩:=List.exists_mem_of_ne_nil _ B
   have K:=C.2.2 y hy g sm a ha c hc
   have H:=hx c (A g sm c hc)
   omega
 ·rcases List.mem_append.1 hy with hy|hy
  ·exact h.ok.tight y (List.mem_append_left _ hy)
  ·rw [bD] at hy; subst hy
   rintro t ⟨a,ha,K⟩ ⟨b,hb,H⟩
   by_cases D: ∃ b∈g,t≤(f b).Lo
   ·obtain ⟨b',hb',L⟩:=D
    have AA:a∈g:=by
     rcases List.mem_append.1 ha with q|q
     ·exact q
     ·rw [bD] at q; subst q
      have:=hx b' (A g sm b' hb'); omega
    obtain ⟨c,hc,M⟩:=h.ok.tight g sm t ⟨a,AA,K⟩ ⟨b',hb',L⟩
    exact ⟨c,List.mem_append_left _ hc,M⟩
   ·have J: ∀ c∈g,(f c).Lo<t:=fun c hc=>by
     refine Classical.byContradiction fun q=>D ⟨c,hc,om⟩
    have N:t≤(f x).Lo:=by
     rcases List.mem_append.1 hb with q|q
     ·exact absurd ⟨b,q,H⟩ D
     ·rw [bD] at q; subst q; exact H
    rcases h.at_ with ⟨e,_⟩|⟨c,hc,e⟩
    ·exfalso
     obtain ⟨c,hc⟩:=List.exists_mem_of_ne_nil _ B
     have:=A g sm c hc
     rw [e] at this; cases this
    ·have E:c∈g:=by
      obtain ⟨y,hy,F⟩:=List.mem_flatten.1 (h.ok.perm.mem_iff.2 hc)
      rcases List.mem_append.1 hy with hy|hy
      ·exfalso
       obtain ⟨d,hd⟩:=List.exists_mem_of_ne_nil _ B
       have L:=C.2.2 y hy g sm c F d hd
       have M:=hf d (A g sm d hd)
       have O:=h.JO d (A g sm d hd)
       omega
      ·rw [bD] at hy; subst hy; exact F
     exact ⟨c,List.mem_append_left _ E,J c E,om⟩
theorem Fy (h:jU f p G last) (hp:p≠[]):G≠[]:=fun e=>by
 subst e
 exact hp (by simpa using h.ok.perm.symm.eq_nil)
end
end
section
open Go.RowKit
/-- a map, or nil -/
def oC (o:Option Nat):List Value:=[Value.map o]
theorem vy {α:Type}: ∀ {ms:List α} {asl:List Nat},ms.length=asl.length→List.zipWith eV ms asl=(asl.map some).map oC
 |[],[],_=>rfl
 |[],_::_,h=>by simp at h
 |_::_,[],h=>by simp at h
 |x::ms,y::asl,h=>by simp only [List.zipWith_cons_cons,List.map_cons,vy (ms:=ms) (asl:=asl) (by simpa using h)]; rfl
/-- what stands for all but one -/
def dV {M A:Type} (f:M→A→List aj) (ms:List M) (asl:List A) (k:Nat):List aj:=aR f (ms.take k) (asl.take k)++aR f (ms.drop (k+1)) (asl.drop (k+1))
theorem iZ {M A:Type} {f:M→A→List aj}: ∀ {ms:List M} {asl:List A} {k:Nat} {m:M} {a:A},ms[k]? =some m→asl[k]? =some a→(aR f ms asl).Perm (f m a++dV f ms asl k)
 |[],_,k,m,a,h,_=>by simp at h
 |_::_,[],k,m,a,_,h=>by simp at h
 |x::ms,y::asl,0,m,a,h,h2=>by
  simp at h h2; subst h h2
  simp [dV,aR]
 |x::ms,y::asl,k+1,m,a,h,h2=>by
  have ih:=iZ (f:=f) (ms:=ms) (asl:=asl) (k:=k) (by simpa using h) (by simpa using h2)
  show (f x y++aR f ms asl).Perm (f m a++dV f (x::ms) (y::asl) (k+1))
  have e:dV f (x::ms) (y::asl) (k+1)=f x y++dV f ms asl k:=by simp [dV,aR,List.append_assoc]
  rw [e]
  refine (ih.append_left (f x y)).trans ?_
  rw [← List.append_assoc,← List.append_assoc]
  exact List.perm_append_comm.append_right _
theorem B1 {M A:Type} {f:M→A→List aj} {ms:List M} {asl:List A} {k:Nat} {m':M}:dV f (ms.set k m') asl k=dV f ms asl k:=by
 unfold dV
 rw [List.take_set_of_le (Nat.le_refl k),List.drop_set_of_lt (Nat.lt_succ_self k)]
theorem iY {S:BS} {w0 w:World} {C X Y:List aj} (hp:X.Perm Y) (h:St S w0 (bf X::C) w):St S w0 (bf Y::C) w:=by
 have A:St S w0 (X++C) w:=h.iy
 exact (A.perm (hp.append_right C)).tied
theorem St.out {M A:Type} {f:M→A→List aj} {S:BS} {w0 w:World} {C:List aj} {ms:List M} {asl:List A} {k:Nat} {m:M} {a:A} {X:aj} (hm:ms[k]? =some m) (ha:asl[k]? =some a) (hf:f m a=[X]) (h:St S w0 (bf (aR f ms asl)::C) w):St S w0 (X::bf (dV f ms asl k)::C) w:=by
 have B:=(iY (iZ hm ha) h).iy
 rw [hf] at B
 have D:St S w0 (dV f ms asl k++(X::C)) w:=B.perm (List.perm_middle (a:=X) (l₁:=dV f ms asl k) (l₂:=C)).symm
 exact D.tied.perm (List.Perm.swap _ _ _)
theorem St.back {M A:Type} {f:M→A→List aj} {S:BS} {w0 w:World} {C:List aj} {ms:List M} {asl:List A} {k:Nat} {m':M} {a:A} {X:aj} (hk:k<ms.length) (ha:asl[k]? =some a) (hf:f m' a=[X]) (h:St S w0 (X::bf (dV f ms asl k)::C) w):St S w0 (bf (aR f (ms.set k m') asl)::C) w:=by
 have B:St S w0 (bf (dV f ms asl k)::X::C) w:=h.perm (List.Perm.swap _ _ _)
 have D:=B.iy
 have E:St S w0 ((f m' a++dV f (ms.set k m') asl k)++C) w:=by
  rw [hf,B1]
  exact D.perm (List.perm_middle (a:=X) (l₁:=dV f ms asl k) (l₂:=C))
 exact iY (iZ (List.getElem?_set_self hk) ha).symm E.tied
section
variable {E:dM} {ops:Array Oper} {Q:cd} {rest:List Oper} {D:List Deferred} {L:List (Nat×Value)} {C C1:List aj}
variable {M A:Type} {f:M→A→List aj} {ms:List M} {asl:List A} {k:Nat} {m:M} {a:A} {X:aj}
theorem Ae {c:Code} (i:Nat) (hm:ms[k]? =some m) (ha:asl[k]? =some a) (hf:f m a=[X]) (hn:decide (i::(List.range C.length).filter fun k=>k != i).Nodup=true) (hC:jC C (i::(List.range C.length).filter fun k=>k != i)=bf (aR f ms asl)::C1)
 (h:WJ E c Q D L (X::bf (dV f ms asl k)::C1)):WJ E c Q D L C:=fun a w hf' hs=>h a w hf' (St.out hm ha hf (St.jC _ hn hC hs))
theorem DV {K:Act→World→Prop} (i j:Nat) (hk:k<ms.length) (ha:asl[k]? =some a) (hf:f m a=[X]) (hn:decide (j::i::(List.range C.length).filter fun k=>k != i&&k != j).Nodup=true) (hC:jC C (j::i::(List.range C.length).filter fun k=>k != i&&k != j)=X::bf (dV f ms asl k)::C1)
 (h:KJ E K D L (bf (aR f (ms.set k m) asl)::C1)):KJ E K D L C:=fun a w hf' hs=>h a w hf' (St.back hk ha hf (St.jC _ hn hC hs))
end
end
section
open Go.RowKit
def j5 (l:List Int) (a:RA):List Value:=[vS a.1 l.length a.2]
def Ks (l:List Int) (a:RA):List aj:=[rd a.1 l.length 1 (l.map iC)]
def oQ (l:List Int) (a:RA):List aj:=[own a.1 a.2 K1 1 (l.map iC)]
theorem um: ∀ (m:List Int) (a:RA) (w:World),(∀ X∈oQ m a,X.holds w)→ ∀ X∈Ks m a,X.holds w:=fun m a w h X hX=>by
 simp only [Ks,bD] at hX
 subst hX
 have:=oN (h _ (List.mem_singleton.2 rfl))
 simpa using this
theorem Fs {l:List (List Int)} {bz:List RA}:(bf (aR oQ l bz)).wr=true:=by
 show (aR oQ l bz).all (·.wr)=true
 rw [dI]
 intro X hX
 obtain ⟨k,m,a,_,_,h⟩:=hU hX
 simp only [oQ,bD] at h
 subst h; rfl
theorem iL {ls:List (List Int)} {az:List RA} (h:az.length=ls.length):(List.zipWith j5 ls az).length=ls.length:=by simp [h]
theorem Gq (l:List (List Int)) (az:List RA): ∀ v∈(List.zipWith j5 l az).flatten,v.oneCell'=true:=by
 induction l generalizing az with
 |nil=>intro v hv; simp at hv
 |cons x l ih=>
  cases az with
  |nil=>intro v hv; simp at hv
  |cons a az=>
   intro v hv
   rw [List.zipWith_cons_cons,List.flatten_cons,jH] at hv
   rcases hv with hv|hv
   ·simp [j5] at hv; subst hv; rfl
   ·exact ih az v hv
section
variable {M A:Type} {f:M→A→List aj} {ms:List M} {asl:List A} {k:Nat} {m:M} {a:A} {X:aj}
theorem oU:dV f (ms.set k m) (asl.set k a) k=dV f ms asl k:=by
 unfold dV
 rw [List.take_set_of_le (Nat.le_refl k),List.drop_set_of_lt (Nat.lt_succ_self k),List.take_set_of_le (Nat.le_refl k),List.drop_set_of_lt (Nat.lt_succ_self k)]
theorem St.LK {S:BS} {w0 w:World} {C:List aj} (hk:k<ms.length) (hk2:k<asl.length) (hf:f m a=[X]) (h:St S w0 (X::bf (dV f ms asl k)::C) w):St S w0 (bf (aR f (ms.set k m) (asl.set k a))::C) w:=by
 have A:St S w0 (bf (dV f ms asl k)::X::C) w:=h.perm (List.Perm.swap _ _ _)
 have B:=A.iy
 have D:St S w0 ((f m a++dV f (ms.set k m) (asl.set k a) k)++C) w:=by
  rw [hf,oU]
  exact B.perm (List.perm_middle (a:=X) (l₁:=dV f ms asl k) (l₂:=C))
 exact iY (iZ (List.getElem?_set_self hk) (List.getElem?_set_self hk2)).symm D.tied
theorem l9 {β:Type} {c:M→A→β}:(List.zipWith c ms asl).set k (c m a)=List.zipWith c (ms.set k m) (asl.set k a):=by
 apply List.ext_getElem?
 intro j
 rw [List.getElem?_set]
 by_cases e:k=j
 ·subst e
  rw [if_pos rfl,List.length_zipWith,List.getElem?_zipWith,List.getElem?_set,List.getElem?_set,if_pos rfl,if_pos rfl]
  by_cases B:k<ms.length
  ·by_cases C:k<asl.length
   ·rw [if_pos om,if_pos B,if_pos C]
   ·rw [if_neg om,if_pos B,if_neg C]
  ·rw [if_neg om,if_neg B]
 ·rw [if_neg e,List.getElem?_zipWith,List.getElem?_zipWith,List.getElem?_set_ne e,List.getElem?_set_ne e]
variable {E:dM} {ops:Array Oper} {Q:cd} {rest:List Oper} {D:List Deferred} {L:List (Nat×Value)} {C C1:List aj}
abbrev wZ (C:List aj) (i j:Nat):List Nat:=j::i::(List.range C.length).filter fun k=>k != i&&k != j
abbrev CF (C:List aj) (i:Nat):List Nat:=i::(List.range C.length).filter fun k=>k != i
theorem AI (i j:Nat) (hk:k<ms.length) (hk2:k<asl.length) (hf:f m a=[X]) (hn:decide (wZ C i j).Nodup=true) (hC:jz C (wZ C i j)=some (X::bf (dV f ms asl k)::C1))
 (h:RJ E ops Q rest D L (bf (aR f (ms.set k m) (asl.set k a))::C1)):RJ E ops Q rest D L C:=fun a w hf' hs=>h a w hf' (St.LK hk hk2 hf (St.jC _ hn (gN hC) hs))
theorem yf {c:Code} (i:Nat) (hm:ms[k]? =some m) (ha:asl[k]? =some a) (hf:f m a=[X]) (hn:decide (CF C i).Nodup=true) (hC:jz C (CF C i)=some (bf (aR f ms asl)::C1))
 (h:WJ E c Q D L (X::bf (dV f ms asl k)::C1)):WJ E c Q D L C:=fun a w hf' hs=>h a w hf' (St.out hm ha hf (St.jC _ hn (gN hC) hs))
theorem G3 {K:Act→World→Prop} (i j:Nat) (hk:k<ms.length) (ha:asl[k]? =some a) (hf:f m a=[X]) (hn:decide (wZ C i j).Nodup=true) (hC:jz C (wZ C i j)=some (X::bf (dV f ms asl k)::C1))
 (h:KJ E K D L (bf (aR f (ms.set k m) asl)::C1)):KJ E K D L C:=fun a w hf' hs=>h a w hf' (St.back hk ha hf (St.jC _ hn (gN hC) hs))
theorem J1 {Y Y':List aj} (i j:Nat) (hn:decide (wZ C i j).Nodup=true) (hC:jz C (wZ C i j)=some (X::bf Y::C1)) (e:Y++[X]=Y') (h:RJ E ops Q rest D L (bf Y'::C1)):RJ E ops Q rest D L C:=fun a w hf hs=>h a w hf ((St.jC _ hn (gN hC) hs).tie e)
theorem DE {K:Act→World→Prop} {Y Y':List aj} (i j:Nat) (hn:decide (wZ C i j).Nodup=true) (hC:jz C (wZ C i j)=some (X::bf Y::C1)) (e:Y++[X]=Y') (h:KJ E K D L (bf Y'::C1)):KJ E K D L C:=fun a w hf hs=>h a w hf ((St.jC _ hn (gN hC) hs).tie e)
end
theorem yK {M A:Type} {f:M→A→List aj} {ms:List M} {asl:List A} {m:M} {a:A} {X:aj} (h:ms.length=asl.length) (hf:f m a=[X]):aR f ms asl++[X]=aR f (ms++[m]) (asl++[a]):=by
 rw [j0 h]; simp [aR,hf]
theorem CG {M A β:Type} {f:M→A→β} {ms:List M} {asl:List A} {m:M} {a:A} (h:ms.length=asl.length):List.zipWith f ms asl++List.zipWith f [m] [a]=List.zipWith f (ms++[m]) (asl++[a]):=(List.zipWith_append h).symm
theorem s5 {r:bQ} {k:Nat}:((dn r k).map (·.1)).Nodup:=by
 unfold dn
 rw [List.map_filterMap]
 refine List.Pairwise.filterMap _ ?_ (List.nodup_range (n:=r.aI.length))
 intro a b A x hx y hy e
 subst e
 simp only [Option.map_map,Option.map_eq_some_iff,Function.comp] at hx hy
 obtain ⟨_,_,rfl⟩:=hx
 obtain ⟨_,_,h⟩:=hy
 exact A om
noncomputable def cw (r:bQ):List (List Int):=if cc r=0 then Classical.epsilon (fun G=>fF (ar (ax r)) ((ax r).map (·.1)) G∧xS G) else []
theorem xz {r:bQ} (h: ¬ cc r=0):cw r=[]:=if_neg h
theorem nL {r:bQ} {G:List (List Int)} (he:cc r=0) (h1:fF (ar (ax r)) ((ax r).map (·.1)) G) (h2:xS G):G=cw r:=by
 unfold cw
 rw [if_pos he]
 have A:=Classical.epsilon_spec (p:=fun G=>fF (ar (ax r)) ((ax r).map (·.1)) G∧xS G) ⟨G,h1,h2⟩
 exact oA s5 (fun i hi=>(fg (lR he)).2.1) h1 A.1 h2 A.2
section
variable {f:Int→ab} {L:List Int} {G:List (List Int)} {g:List Int} {x last:Int} {i j:Nat}
theorem vz (h:jU f (L.take i) G last) (hg:g∈G):g.length≤L.length:=by
 have A:=h.ok.perm.length_eq
 have B:g.length≤G.flatten.length:=(List.sublist_flatten_of_mem hg).length_le
 rw [List.length_take] at A; omega
theorem z5 (h:jU f (L.take i) G last):G.length≤L.length:=by
 have A:=h.ok.perm.length_eq
 have B: ∀ G:List (List Int),(∀ g∈G,g≠[])→G.length≤G.flatten.length:=fun G=>by
  induction G with
  |nil=>intro _; simp
  |cons g G ih=>
   intro hG
   have C:=ih fun y hy=>hG y (cL _ hy)
   have D:=List.length_pos_iff.2 (hG g bU)
   simp only [List.flatten_cons,List.length_cons,List.length_append]; omega
 have C:=B G h.ok.some_
 rw [List.length_take] at A; omega
theorem mu (h0: -1≤(f x).Hi) (hx:L[i]? =some x) (hg:(G++[[]])[(G++[([]:List Int)]).length-1]? =some g) (h:jU f (L.take i) G last) (hl:last<(f x).Lo):jU f (L.take (i+1)) ((G++[[]]).set ((G++[([]:List Int)]).length-1) (g++[x])) (max last (f x).Hi):=by
 have A:(G++[([]:List Int)]).length-1=G.length:=by simp
 rw [A] at hg ⊢
 simp at hg
 subst hg
 rw [jF hx]
 have B:(G++[([]:List Int)]).set G.length ([]++[x])=G++[[x]]:=by simp
 rw [B]
 exact G0 h0 h hl
theorem lM (h0: -1≤(f x).Hi) (hf: ∀ i∈L,(f i).Lo≤(f i).Hi) (hup:zw (fun u=>(f u).Lo) L) (hx:L[i]? =some x) (hg:G[G.length-1]? =some g) (h:jU f (L.take i) G last) (hl: ¬ last<(f x).Lo):jU f (L.take (i+1)) (G.set (G.length-1) (g++[x])) (max last (f x).Hi):=by
 obtain ⟨A,F⟩:=List.getElem?_eq_some_iff.1 hg
 obtain ⟨G',y,rfl⟩: ∃ G' y,G=G'++[y]:=⟨G.dropLast,G.getLast (by intro e; subst e; simp at A),(List.dropLast_concat_getLast _).symm⟩
 have D:(G'++[y]).length-1=G'.length:=by simp
 simp only [D] at hg ⊢
 simp at hg
 subst hg
 have E:(G'++[y]).set G'.length (y++[x])=G'++[y++[x]]:=by simp
 rw [jF hx,E]
 refine Dl h0 (fun i hi=>hf i (List.mem_of_mem_take hi)) (fun a ha=>?_) h hl
 obtain ⟨C,B⟩:=List.getElem?_eq_some_iff.1 hx
 obtain ⟨q,hq,rfl⟩:=List.mem_iff_getElem.1 ha
 rw [List.length_take] at hq
 rw [List.getElem_take]
 have:=List.pairwise_iff_getElem.1 hup q i om C om
 rw [B] at this
 exact this
theorem Ah (hlo:0≤(f x).Lo) (h:jU f (L.take i) G last) (hl: ¬ last<(f x).Lo):1≤G.length:=by
 rcases h.at_ with ⟨_,e⟩|⟨a,ha,_⟩
 ·omega
 ·exact List.length_pos_iff.2 (Fy h (fun e=>by rw [e] at ha; cases ha))
/-- the first groups are in order -/
def kY (G:List (List Int)) (j:Nat):List (List Int):=(G.take j).map cp++G.drop j
theorem za (h:G.length≤j):kY G j=G.map cp:=by unfold kY; rw [List.take_of_length_le h,List.drop_eq_nil_of_le h,List.append_nil]
theorem yB:(kY G j).length=G.length:=by unfold kY; rw [List.length_append,List.length_map,List.length_take,List.length_drop]; omega
theorem Cu (h:G[j]? =some g):(kY G j)[j]? =some g:=by
 have hj:=(List.getElem?_eq_some_iff.1 h).1
 unfold kY
 rw [List.getElem?_append_right (by rw [List.length_map,List.length_take]; omega),List.length_map,List.length_take,Nat.min_eq_left om,Nat.sub_self,List.getElem?_drop]
 simpa using h
theorem zm (h:G[j]? =some g):(kY G j).set j (cp g)=kY G (j+1):=by
 have hj:=(List.getElem?_eq_some_iff.1 h).1
 unfold kY
 rw [List.set_append_right _ _ (by rw [List.length_map,List.length_take]; omega),List.length_map,List.length_take,Nat.min_eq_left om,Nat.sub_self,List.drop_eq_getElem_cons hj,List.set_cons_zero,List.take_add_one,h]
 simp
theorem Ex {gz:List RA}:List.zipWith j5 (G.map cp) gz=List.zipWith j5 G gz:=by
 induction G generalizing gz with
 |nil=>rfl
 |cons g G ih=>
  cases gz with
  |nil=>rfl
  |cons a gz=>simp only [List.map_cons,List.zipWith_cons_cons,ih]; simp [j5]
end
end
section
open Go.RowKit
theorem yg (l:List aA) (az:List RA): ∀ v∈(List.zipWith aA.cells l az).flatten,v.oneCell'=true:=by
 induction l generalizing az with
 |nil=>intro v hv; simp at hv
 |cons x l ih=>
  cases az with
  |nil=>intro v hv; simp at hv
  |cons a az=>
   intro v hv
   rw [List.zipWith_cons_cons,List.flatten_cons,jH] at hv
   rcases hv with hv|hv
   ·simp [aA.cells,eD.cells] at hv
    rcases hv with rfl|rfl<;>rfl
   ·exact ih az v hv
theorem c_ {l:List aA} {az:List RA} (h:az.length=l.length):(List.zipWith aA.cells l az).length=l.length:=by simp [h]
theorem eM {l:List aA} {bz:List RA}:(bf (aR aA.owns l bz)).wr=true:=by
 show (aR aA.owns l bz).all (·.wr)=true
 rw [dI]
 intro X hX
 obtain ⟨k,m,a,_,_,h⟩:=hU hX
 simp only [aA.owns,bD] at h
 subst h; rfl
/-- what is known of new rows -/
def ov (l:List aA) (bz:List RA):Prop:= ∀ (k:Nat) m (a:RA),l[k]? =some m→bz[k]? =some a→m.br.length≤a.2
theorem Da {l:List aA} {bz:List RA} {i:Nat} {x:aA} {nw:RA} (h:ov l bz) (hb:bz.length=i) (hx:l[i]? =some x) (hc:x.br.length≤nw.2):ov l (bz++[nw]):=fun k m a hm ha=>by
 by_cases e:k<bz.length
 ·rw [List.getElem?_append_left e] at ha
  exact h k m a hm ha
 ·rw [List.getElem?_append_right om] at ha
  have hk:k-bz.length=0:=by
   rcases Nat.eq_zero_or_pos (k-bz.length) with A|A
   ·exact A
   ·rw [List.getElem?_eq_none (by simp; omega)] at ha; cases ha
  rw [hk] at ha
  simp at ha
  have:k=i:=by omega
  subst this
  rw [hx] at hm; cases hm
  subst ha; exact hc
theorem dg: ∀ (m:aA) (a:RA) (w:World),(∀ X∈aA.owns m a,X.holds w)→ ∀ X∈aA.jx m a,X.holds w:=fun m a w h X hX=>by
 simp only [aA.jx,bD] at hX
 subst hX
 have:=oN (h _ (List.mem_singleton.2 rfl))
 simpa using this
theorem fh.JK {l:aU} {az bz:List RA} (h:fh l az) (hb:bz.length=l.ak.length) (hc:ov l.ak bz):fh l bz:=⟨h.wJ,h.side,h.wI,hb,h.v8,fun k m a hm ha=>⟨hc k m a hm ha,by
 obtain ⟨A,B⟩: ∃ A,az[k]? =some A:=⟨az[k]'(by rw [h.pQ]; exact (List.getElem?_eq_some_iff.1 hm).1),eC _⟩
 exact (h.LQ k m A hm B).2⟩⟩
section
variable {E:dM} {ops:Array Oper} {Q:cd} {rest:List Oper} {D:List Deferred} {L:List (Nat×Value)} {C:List aj}
end
end
section
open Go.RowKit
def lO (m:av) (a:RA):List aj:=[own a.1 a.2 Iv 2 (m.cH.ay.map aK.cells)]
def gG (m:List av) (a:cb):List aj:=own a.1.1 a.1.2 wx 7 (List.zipWith av.cells m a.2)::aR lO m a.2
theorem Jw: ∀ (m:av) (a:RA) (w:World),(∀ X∈lO m a,X.holds w)→ ∀ X∈av.jx m a,X.holds w:=fun m a w h X hX=>by
 simp only [av.jx,bD] at hX
 subst hX
 have:=oN (h _ (List.mem_singleton.2 rfl))
 simpa using this
theorem l6 {m:List av} {asl:List RA} (h:asl.length=m.length):(List.zipWith av.cells m asl).length=m.length:=by simp [h]
theorem bW {m:List (List av)} {asl:List cb} (h:asl.length=m.length):(List.zipWith cm m asl).length=m.length:=by simp [h]
theorem H2 {m:List av} {asl:List RA}:(aR lO m asl).all (·.wr)=true:=by
 rw [dI]
 intro X hX
 obtain ⟨k,d,a,_,_,h⟩:=hU hX
 simp only [lO,bD] at h
 subst h; rfl
theorem iH {m:List (List av)} {asl:List cb}:(bf (aR gG m asl)).wr=true:=by
 show (aR gG m asl).all (·.wr)=true
 rw [dI]
 intro X hX
 obtain ⟨k,d,a,_,_,h⟩:=hU hX
 rcases List.mem_cons.1 h with rfl|h
 ·rfl
 ·exact List.all_eq_true.1 H2 X h
theorem HC (l:List av) (az:List RA): ∀ v∈(List.zipWith av.cells l az).flatten,v.oneCell'=true:=by
 induction l generalizing az with
 |nil=>intro v hv; simp at hv
 |cons x l ih=>
  cases az with
  |nil=>intro v hv; simp at hv
  |cons a az=>
   intro v hv
   rw [List.zipWith_cons_cons,List.flatten_cons,jH] at hv
   rcases hv with hv|hv
   ·simp [av.cells,aV.cells,eJ.cells,ab.cells] at hv
    rcases hv with rfl|rfl|rfl|rfl|rfl|rfl|rfl<;>rfl
   ·exact ih az v hv
theorem Cz (l:List (List av)) (az:List cb): ∀ v∈(List.zipWith cm l az).flatten,v.oneCell'=true:=by
 induction l generalizing az with
 |nil=>intro v hv; simp at hv
 |cons x l ih=>
  cases az with
  |nil=>intro v hv; simp at hv
  |cons a az=>
   intro v hv
   rw [List.zipWith_cons_cons,List.flatten_cons,jH] at hv
   rcases hv with hv|hv
   ·simp [cm] at hv; subst hv; rfl
   ·exact ih az v hv
/-- every heat has as many places as descents -/
def mI (H:List (List av)) (hz:List cb):Prop:=hz.length=H.length∧ ∀ (k:Nat) h (a:cb),H[k]? =some h→hz[k]? =some a→a.2.length=h.length
theorem Ia {a:OA} {c e sz n:Nat} {es:List (List Value)} {w:World} (h:(own a c e sz es).holds w) (hn:es.length=n):(rd a n sz es).holds w:=by subst hn; exact oN h
theorem cD {C:List aj} {H:List (List av)} {hz:List cb} (i:Nat) (hC:C[i]? =some (bf (aR gG H hz))) (hh:mI H hz):jf C (eR (aR ja H hz)).holds:=fun w hw X hX=>by
 have hb:=hw _ (aN hC)
 obtain ⟨k,m,a,A,B,D⟩:=hU hX
 rcases List.mem_cons.1 D with rfl|D
 ·exact Ia (hb.1 _ (bY A B bU)) (l6 (hh.2 k m a A B))
 ·obtain ⟨q,d,b,E,F,G⟩:=hU D
  exact Jw d b w (fun Y hY=>hb.1 Y (bY A B (cL _ (bY E F hY)))) X G
section
variable {α:Type}
def iB (bz az:List α) (i:Nat):List α:=bz++az.drop i
variable {bz az:List α} {i:Nat} {a b:α}
theorem fU (hb:bz.length=i) (hi:i≤az.length):(iB bz az i).length=az.length:=by simp [iB,hb]; omega
theorem sw (h:az.length≤i):iB bz az i=bz:=by unfold iB; rw [List.drop_eq_nil_of_le h,List.append_nil]
theorem vw (hb:bz.length=i) (h:az[i]? =some a):(iB bz az i)[i]? =some a:=by
 unfold iB
 rw [List.getElem?_append_right om,hb,Nat.sub_self,List.getElem?_drop]
 simpa using h
theorem DW (hb:bz.length=i):(iB (bz++[b]) az (i+1))[i]? =some b:=by
 unfold iB
 rw [List.getElem?_append_left (by simp; omega),List.getElem?_append_right om,hb,Nat.sub_self]; rfl
theorem EZ (hb:bz.length=i) (h:az[i]? =some a):(iB bz az i).set i b=iB (bz++[b]) az (i+1):=by
 unfold iB
 have hi:=(List.getElem?_eq_some_iff.1 h).1
 rw [List.set_append_right _ _ om,hb,Nat.sub_self,List.drop_eq_getElem_cons hi,List.set_cons_zero]
 simp
theorem sK {M β:Type} {c:M→α→β} {l:List M} {x:M} (hx:l[i]? =some x) (hb:bz.length=i) (h:az[i]? =some a):(List.zipWith c l (iB bz az i)).set i (c x b)=List.zipWith c l (iB (bz++[b]) az (i+1)):=by
 rw [l9,EZ hb h]
 congr 1
 obtain ⟨hi,rfl⟩:=List.getElem?_eq_some_iff.1 hx
 exact List.set_getElem_self hi
theorem o0 {M:Type} {f:M→α→List aj} {l:List M} {x:M} (hx:l[i]? =some x) (hb:bz.length=i):aR f (l.take i) bz++f x b=aR f (l.take (i+1)) (bz++[b]):=by
 have hi:=(List.getElem?_eq_some_iff.1 hx).1
 rw [List.take_add_one,hx,Option.toList_some,j0 (by rw [List.length_take,hb]; omega)]
 simp [aR]
end
theorem wv: ∀ {l:List (List av)} {u v:List cb},u.map (·.1)=v.map (·.1)→List.zipWith cm l u=List.zipWith cm l v
 |[],u,v,_=>by simp
 |x::l,[],[],_=>rfl
 |x::l,[],b::v,h=>by simp at h
 |x::l,a::u,[],h=>by simp at h
 |x::l,a::u,b::v,h=>by
  simp only [List.map_cons,List.cons.injEq] at h
  rw [List.zipWith_cons_cons,List.zipWith_cons_cons,wv h.2]
  have e:cm x a=cm x b:=by simp only [cm,h.1]
  rw [e]
theorem C7 {l:List (List av)} {hz ha:List cb} {p:RA} {x y:List RA} {i:Nat}:List.zipWith cm l (iB (hz++[(p,x)]) ha i)=List.zipWith cm l (iB (hz++[(p,y)]) ha i):=wv (by simp [iB])
theorem G8 {H:List (List av)} {hz:List cb} {i:Nat} {x:List av} {b:cb} (hx:H[i]? =some x) (h: ∀ (k:Nat) y (a:cb),H[k]? =some y→hz[k]? =some a→a.2.length=y.length) (hb:hz.length=i) (hl:b.2.length=x.length): ∀ (k:Nat) y (a:cb),H[k]? =some y→(hz++[b])[k]? =some a→a.2.length=y.length:=fun k y a hy ha=>by
 by_cases e:k<hz.length
 ·rw [List.getElem?_append_left e] at ha
  exact h k y a hy ha
 ·rw [List.getElem?_append_right om] at ha
  have hk:k-hz.length=0:=by
   rcases Nat.eq_zero_or_pos (k-hz.length) with A|A
   ·exact A
   ·rw [List.getElem?_eq_none (by simp; omega)] at ha; cases ha
  rw [hk] at ha
  simp at ha
  have:k=i:=by omega
  subst this
  rw [hx] at hy; cases hy
  subst ha; exact hl
theorem zR {S:BS} {w0 w:World} {C:List aj} {A:aj} {Y Z:List aj} (h:St S w0 (A::bf Y::bf Z::C) w):St S w0 (bf (Z++A::Y)::C) w:=by
 have D:St S w0 (bf Y::A::bf Z::C) w:=h.perm (List.Perm.swap _ _ _)
 have E:St S w0 (Y++(A::bf Z::C)) w:=D.iy
 have F:St S w0 (bf Z::(A::Y)++C) w:=E.perm (by
  have B:(Y++(A::bf Z::C)).Perm ((A::bf Z::C)++Y):=List.perm_append_comm
  refine B.trans ?_
  show (A::bf Z::(C++Y)).Perm (bf Z::A::(Y++C))
  exact (List.Perm.swap _ _ _).trans (((List.perm_append_comm (l₁:=C) (l₂:=Y)).cons A).cons _))
 have G:St S w0 (Z++((A::Y)++C)) w:=F.iy
 have H:St S w0 ((Z++A::Y)++C) w:=by simpa using G
 exact H.tied
theorem Cv {S:BS} {w0 w:World} {C:List aj} {A:aj} {Y Z:List aj} (h:St S w0 (bf (A::Y++Z)::C) w):St S w0 (A::bf Y::bf Z::C) w:=by
 have D:St S w0 ((A::Y++Z)++C) w:=h.iy
 have E:St S w0 (Z++(A::(Y++C))) w:=D.perm (by
  show (A::(Y++Z)++C).Perm (Z++(A::(Y++C)))
  have B:(A::(Y++Z)++C).Perm (A::(Z++(Y++C))):=by
   show (A::((Y++Z)++C)).Perm _
   refine List.Perm.cons A ?_
   rw [← List.append_assoc]
   exact List.perm_append_comm.append_right C
  exact B.trans (List.perm_middle (a:=A) (l₁:=Z) (l₂:=Y++C)).symm)
 have F:=E.tied
 have G:St S w0 (Y++(A::bf Z::C)) w:=F.perm (by
  show (bf Z::A::(Y++C)).Perm (Y++(A::bf Z::C))
  have B:(Y++(A::bf Z::C)).Perm (A::bf Z::(Y++C)):=by
   have:=List.perm_append_comm (l₁:=Y) (l₂:=A::bf Z::C)
   refine this.trans ?_
   show (A::bf Z::(C++Y)).Perm _
   exact (List.perm_append_comm.cons _).cons _
  exact (B.trans (List.Perm.swap _ _ _)).symm)
 have H:=G.tied
 exact H.perm (List.Perm.swap _ _ _)
theorem rL {H:List (List av)} {hz:List cb} {k:Nat} {h:List av} {a:cb} (hh:H[k]? =some h) (ha:hz[k]? =some a):(aR gG H hz).Perm (own a.1.1 a.1.2 wx 7 (List.zipWith av.cells h a.2)::aR lO h a.2++dV gG H hz k):=iZ hh ha
theorem JN {E:dM} {K:Act→World→Prop} {D:List Deferred} {L:List (Nat×Value)} {C:List aj} {a:OA} {c e sz:Nat} {es:List (List Value)} (i:Nat) (hC:C[i]? =some (own a c e sz es)) (k:es.length≤c→KJ E K D L C):KJ E K D L C:=fun act w hf hs=>k (Aa (hs.holds _ (aN hC))) act w hf hs
abbrev GN (C:List aj) (i j k:Nat):List Nat:=k::j::i::(List.range C.length).filter fun q=>q != i&&q != j&&q != k
section
variable {E:dM} {ops:Array Oper} {Q:cd} {rest:List Oper} {D:List Deferred} {L:List (Nat×Value)} {C C1:List aj} {K:Act→World→Prop}
variable {H:List (List av)} {hz:List cb} {h h':List av} {a a':cb} {k:Nat} {X:aj} {Y Z Z':List aj}
/-- i: the others, j: what hangs on the row, q: the row -/
theorem Jm (i j q:Nat) (hn:decide (GN C i j q).Nodup=true) (hC:jz C (GN C i j q)=some (X::bf Y::bf Z::C1)) (e:Z++X::Y=Z') (hk:KJ E K D L (bf Z'::C1)):KJ E K D L C:=fun a w hf hs=>by
 subst e; exact hk a w hf (zR (St.jC _ hn (gN hC) hs))
theorem E3 {c:Code} (i:Nat) (hh:H[k]? =some h) (ha:hz[k]? =some a) (hn:decide (CF C i).Nodup=true) (hC:jz C (CF C i)=some (bf (aR gG H hz)::C1))
 (hk:WJ E c Q D L (own a.1.1 a.1.2 wx 7 (List.zipWith av.cells h a.2)::bf (aR lO h a.2)::bf (dV gG H hz k)::C1)):WJ E c Q D L C:=fun act w hf hs=>
 hk act w hf (Cv (iY (rL hh ha) (St.jC _ hn (gN hC) hs)))
theorem FE {S:BS} {w0 w:World} (hk:k<H.length) (hk2:k<hz.length) (hs:St S w0 (own a'.1.1 a'.1.2 wx 7 (List.zipWith av.cells h' a'.2)::bf (aR lO h' a'.2)::bf (dV gG H hz k)::C) w):St S w0 (bf (aR gG (H.set k h') (hz.set k a'))::C) w:=by
 have B:=zR hs
 refine iY ?_ B
 have A:=rL (H:=H.set k h') (hz:=hz.set k a') (List.getElem?_set_self hk) (List.getElem?_set_self hk2)
 rw [oU] at A
 exact (List.perm_append_comm).trans A.symm
end
theorem tI {H:List (List av)} {hz:List cb} {k:Nat} {h h':List av} {a:cb} {bs:List RA} (hh:H[k]? =some h) (ha:hz[k]? =some a) (hl:h'.length=h.length):List.zipWith cm (H.set k h') (hz.set k (a.1,bs))=List.zipWith cm H hz:=by
 rw [← l9]
 have e:cm h' (a.1,bs)=cm h a:=by simp only [cm,hl]
 rw [e]
 have hz':=dE (f:=cm) hh ha
 obtain ⟨hi,A⟩:=List.getElem?_eq_some_iff.1 hz'
 rw [← A]
 exact List.set_getElem_self hi
theorem GP {S:BS} {w0 w:World} {C:List aj} {h:List av} {bs:List RA} {i:Nat} {d:av} {b:RA} {d':av} (hd:h[i]? =some d) (hb:bs[i]? =some b) (hs':d'.cH.ay=[]) (hs:St S w0 (bf (aR lO h bs)::C) w):St S w0 (bf (aR lO (h.set i d') (bs.set i (none,0)))::C) w:=by
 have A:=(iY (iZ hd hb) hs).iy
 have B:St S w0 (dV lO h bs i++C) w:=St.take (by simpa using A) (List.sublist_append_right (lO d b) (dV lO h bs i++C))
 have D:=B.pH Iv 2
 have E:St S w0 ((lO d' (none,0)++dV lO (h.set i d') (bs.set i (none,0)) i)++C) w:=by
  rw [oU]
  simpa [lO,hs'] using D
 exact iY (iZ (List.getElem?_set_self (List.getElem?_eq_some_iff.1 hd).1) (List.getElem?_set_self (List.getElem?_eq_some_iff.1 hb).1)).symm E.tied
theorem dG.JK {r:bQ} {az bz:List RA} {ha hz:List cb} (h:dG r az ha) (hb:bz.length=r.ai.ak.length) (hc:ov r.ai.ak bz) (hh:mI r.aq hz):dG r bz hz:=⟨h.line.JK hb hc,h.gT,h.draw,h.g9,hh.1,fun k x a hx ha'=>by
 obtain ⟨A,C⟩: ∃ A,ha[k]? =some A:=⟨ha[k]'(by rw [h.has]; exact (List.getElem?_eq_some_iff.1 hx).1),eC _⟩
 have B:=h.mU k x A hx C
 exact ⟨B.len,hh.2 k x a hx ha',B.sig⟩⟩
end
section
open Go.RowKit
def iP (t:ab):av:=⟨false,true,t,⟨0,0,[]⟩⟩
def e_ (H:List (List av)) (h i:Int) (t:ab):List (List av):=H.set h.toNat ((H[h.toNat]?.getD []).set i.toNat (iP t))
def g0 (r:bQ) (h i:Int) (t:ab):bQ:=⟨r.ai,r.aI,r.bu,r.gf,e_ r.aq h i t⟩
@[simp] theorem Kw {r:bQ} {h i:Int} {t:ab}:(g0 r h i t).ai=r.ai:=rfl
@[simp] theorem Jy {r:bQ} {h i:Int} {t:ab}:(g0 r h i t).aI=r.aI:=rfl
@[simp] theorem Ky {r:bQ} {h i:Int} {t:ab}:(g0 r h i t).bu=r.bu:=rfl
theorem sR {m:fp} {i:Int} {s:ab}:(cR m i s).length≤m.length:=by
 unfold cR
 refine Nat.le_trans (List.length_filter_le _ _) ?_
 rw [List.length_map,List.length_range]; exact Nat.le_refl _
noncomputable def mC (r:bQ) (h i:Int) (t:ab):Int:=if ((0≤h∧h≤(r.aq.length:Int)-1)∧qY r i)∧hO t then (if ((r.aq[h.toNat]?).bind (·[i.toNat]?)).any (·.Out)=true then 8 else 0) else 2
noncomputable def ej (r:bQ) (h i:Int) (t:ab):Int:=if cc r=0 then mC r h i t else cc r
noncomputable def dC (r:bQ) (h i:Int) (t:ab):List Int:=if ej r h i t=0 then (cp ((ax r).map (·.1))).filter (fun k=> !decide (cR (ax r) k (ar (ax r) k)=cR (ax (g0 r h i t)) k (ar (ax (g0 r h i t)) k))) else []
section
variable {r:bQ} {h i:Int} {t:ab} {ht:List av} {d:av}
theorem rl {H:List (List av)} (hh:H[h.toNat]? =some ht):e_ H h i t=H.set h.toNat (ht.set i.toNat (iP t)):=by unfold e_; rw [hh]; rfl
theorem gr {H:List (List av)}:(e_ H h i t).length=H.length:=by unfold e_; rw [List.length_set]
theorem jT (q: ¬ (((0≤h∧h≤(r.aq.length:Int)-1)∧0≤i∧i≤(r.aI.length:Int)-1)∧hO t)):mC r h i t=2:=if_neg q
theorem AN (q:((0≤h∧h≤(r.aq.length:Int)-1)∧0≤i∧i≤(r.aI.length:Int)-1)∧hO t) (h1:r.aq[h.toNat]? =some ht) (h2:ht[i.toNat]? =some d):mC r h i t=if d.Out=true then 8 else 0:=by
 unfold mC
 rw [if_pos (show ((0≤h∧h≤(r.aq.length:Int)-1)∧qY r i)∧hO t from q),h1,Option.bind_some,h2,Option.any_some]
theorem pg (q:((0≤h∧h≤(r.aq.length:Int)-1)∧0≤i∧i≤(r.aI.length:Int)-1)∧hO t) (h1:r.aq[h.toNat]? =some ht) (h2:ht[i.toNat]? =some d) (ho:d.Out=true):mC r h i t=8:=by rw [AN q h1 h2,if_pos ho]
theorem Ie (q:((0≤h∧h≤(r.aq.length:Int)-1)∧0≤i∧i≤(r.aI.length:Int)-1)∧hO t) (h1:r.aq[h.toNat]? =some ht) (h2:ht[i.toNat]? =some d) (ho:d.Out=false):mC r h i t=0:=by rw [AN q h1 h2,if_neg (by rw [ho]; decide)]
/-- what it means that there is no error -/
theorem uy (e:mC r h i t=0):((0≤h∧h≤(r.aq.length:Int)-1)∧qY r i)∧hO t∧((r.aq[h.toNat]?).bind (·[i.toNat]?)).any (·.Out)=false:=by
 unfold mC at e
 split at e
 ·rename_i q
  split at e
  ·cases e
  ·rename_i A; exact ⟨q.1,q.2,by simpa using A⟩
 ·cases e
theorem wA (e:ej r h i t=0):cc r=0∧mC r h i t=0:=by
 unfold ej at e
 split at e
 ·exact ⟨asm,e⟩
 ·exact absurd e asm
theorem oG (e: ¬ cc r=0):ej r h i t=cc r:=if_neg e
theorem l1 (e:cc r=0):ej r h i t=mC r h i t:=if_pos e
theorem xe {H:List (List av)} {k:Nat} {y:List av} (hy:(e_ H h i t)[k]? =some y): ∃ x,H[k]? =some x∧y.length=x.length∧ ∀ d∈y,d∈x∨d=iP t:=by
 unfold e_ at hy
 rw [List.getElem?_set] at hy
 split at hy
 ·rename_i e
  split at hy
  ·rename_i hl
   have A:H[h.toNat]? =some H[h.toNat]:=eC hl
   rw [A] at hy
   simp only [Option.getD_some,Option.some.injEq] at hy
   subst hy
   refine ⟨H[h.toNat],by rw [← e]; exact A,by rw [List.length_set],fun d hd=>?_⟩
   exact List.mem_or_eq_of_mem_set hd
  ·cases hy
 ·exact ⟨y,hy,U,fun d hd=> .inl hd⟩
theorem zF (hr:eQ r) (ht:hO t):eQ (g0 r h i t):=⟨hr.num,hr.zI,by
 have:=hr.nh
 show 1≤((e_ r.aq h i t).length:Int)∧((e_ r.aq h i t).length:Int)≤3
 rw [gr]; exact this,hr.ids,hr.draw,fun y hy=>by
 obtain ⟨k,hk⟩:=List.mem_iff_getElem?.1 hy
 obtain ⟨x,hx,hl,hm⟩:=xe hk
 have A:=hr.mU x (aN hx)
 refine ⟨hl.trans A.1,fun d hd=>?_⟩
 rcases hm d hd with q|rfl
 ·exact A.2 d q
 ·unfold g3
  rw [if_neg (by simp [iP]),if_pos (by rfl)]
  exact ⟨ht,by simp [mm,iP]⟩⟩
theorem th (e:ej r h i t=0):cc (g0 r h i t)=0:=by
 obtain ⟨A,B⟩:=wA e
 obtain ⟨C,D⟩:=gQ A
 unfold cc
 rw [if_pos (show dN (g0 r h i t).ai=0 from C),if_pos (zF D (uy B).2.1)]
theorem dG.rep {az bz:List RA} {ha hz:List cb} (hin:dG r az ha) (hb:bz.length=r.ai.ak.length) (hc:ov r.ai.ak bz) (hh:mI (e_ r.aq h i t) hz):dG (g0 r h i t) bz hz:=⟨hin.line.JK hb hc,hin.gT,hin.draw,by
 show (e_ r.aq h i t).length≤1000000
 rw [gr]; exact hin.g9,hh.1,fun k y a hy ha'=>by
 obtain ⟨x,hx,hl,hm⟩:=xe hy
 obtain ⟨b,hb⟩: ∃ b,ha[k]? =some b:=⟨ha[k]'(by rw [hin.has]; exact (List.getElem?_eq_some_iff.1 hx).1),eC _⟩
 have A:=hin.mU k x b hx hb
 refine ⟨by rw [hl]; exact A.len,hh.2 k y a hy ha',fun d hd=>?_⟩
 rcases hm d hd with q|rfl
 ·exact A.sig d q
 ·simp [iP]⟩
theorem FR {H:List (List av)} {k q:Nat}:((e_ H h i t)[k]?).bind (·[q]?)=(H[k]?).bind (·[q]?)∨(k=h.toNat∧q=i.toNat∧(∃ d,(H[k]?).bind (·[q]?)=some d)∧((e_ H h i t)[k]?).bind (·[q]?)=some (iP t)):=by
 by_cases e:h.toNat=k
 ·cases hk:H[k]? with
  |none=>
   left
   have:(e_ H h i t)[k]? =none:=by rw [List.getElem?_eq_none_iff,gr]; exact List.getElem?_eq_none_iff.1 hk
   rw [this]
  |some x=>
   have B:(e_ H h i t)[k]? =some (x.set i.toNat (iP t)):=by
    subst e
    rw [rl hk]
    exact List.getElem?_set_self (List.getElem?_eq_some_iff.1 hk).1
   rw [B,Option.bind_some,Option.bind_some]
   by_cases A:i.toNat=q
   ·cases hq:x[q]? with
    |none=>
     left
     rw [List.getElem?_eq_none_iff,List.length_set]; exact List.getElem?_eq_none_iff.1 hq
    |some d=>
     right
     subst A
     exact ⟨e.symm,U,⟨d,U⟩,List.getElem?_set_self (List.getElem?_eq_some_iff.1 hq).1⟩
   ·left; rw [List.getElem?_set_ne A]
 ·left
  unfold e_
  rw [List.getElem?_set_ne e]
theorem tW {l:aU} {H:List (List av)} {q:Nat} (ho:((H[h.toNat]?).bind (·[i.toNat]?)).any (·.Out)=false): ∀ n,(eo l (e_ H h i t) q n).isSome=(eo l H q n).isSome
 |0=>rfl
 |n+1=>by
  have ih:=tW (l:=l) (q:=q) ho n
  unfold eo
  rcases FR (H:=H) (h:=h) (i:=i) (t:=t) (k:=n) (q:=q) with e|⟨rfl,rfl,⟨d,hd⟩,e⟩
  ·rw [e]
   cases e1:eo l (e_ H h i t) q n<;>cases e2:eo l H q n<;>simp_all
   cases (H[n]?).bind (·[q]?) with
   |none=>rfl
   |some d=>by_cases c:d.Out=true<;>simp [c]
  ·rw [e,hd]
   have A:d.Out=false:=by rw [hd] at ho; simpa using ho
   cases e1:eo l (e_ H h i t) i.toNat h.toNat<;>cases e2:eo l H i.toNat h.toNat<;>simp_all [iP]
theorem IH {r:bQ} {k:Nat} {x:Int}:(dn r k).lookup x=if 0≤x∧x<(r.aI.length:Int) then eo r.ai r.aq x.toNat k else none:=by
 by_cases c:0≤x∧x<(r.aI.length:Int)
 ·rw [if_pos c]
  have:=nZ (f:=fun q=>eo r.ai r.aq q k) r.aI.length x.toNat
  rw [if_pos om,show (x.toNat:Int)=x by omega] at this
  exact this
 ·rw [if_neg c]
  cases e:(dn r k).lookup x with
  |none=>rfl
  |some v=>
   exfalso
   obtain ⟨q,hq,A,_⟩:=uj ((sc s5).2 e)
   simp only at A
   omega
theorem D5 (e:mC r h i t=0) (k:Int):((ax (g0 r h i t)).lookup k).isSome=((ax r).lookup k).isSome:=by
 obtain ⟨_,_,ho⟩:=uy e
 unfold ax
 rw [IH,IH]
 show (if 0≤k∧k<(r.aI.length:Int) then eo r.ai (e_ r.aq h i t) k.toNat (e_ r.aq h i t).length else none).isSome=_
 rw [gr]
 split
 ·exact tW ho _
 ·rfl
theorem xb {m:fp} {k:Int} (h:k∈cp (m.map (·.1))):m.lookup k≠none:=by
 obtain ⟨p,hp,rfl⟩:=List.mem_map.1 (eX.mem_iff.1 h)
 intro e
 exact absurd (List.lookup_eq_none_iff.1 e p hp) sm
theorem JV {hz:List cb} {hza:cb} (hh:mI r.aq hz) (h1:r.aq[h.toNat]? =some ht) (h2:hz[h.toNat]? =some hza):mI (e_ r.aq h i t) (hz.set h.toNat (hza.1,hza.2.set i.toNat (none,0))):=by
 refine ⟨by rw [List.length_set,gr]; exact hh.1,fun k y a hy ha=>?_⟩
 rw [rl h1] at hy
 rw [List.getElem?_set] at hy ha
 by_cases e:h.toNat=k
 ·rw [if_pos e,if_pos (List.getElem?_eq_some_iff.1 h1).1] at hy
  rw [if_pos e,if_pos (List.getElem?_eq_some_iff.1 h2).1] at ha
  cases hy; cases ha
  simp only [List.length_set]
  exact hh.2 _ _ _ h1 h2
 ·rw [if_neg e] at hy ha
  exact hh.2 k y a hy ha
theorem r0 (e: ¬ ej r h i t=0):dC r h i t=[]:=if_neg e
theorem yz (e:ej r h i t=0):dC r h i t=(cp ((ax r).map (·.1))).filter (fun k=> !decide (cR (ax r) k (ar (ax r) k)=cR (ax (g0 r h i t)) k (ar (ax (g0 r h i t)) k))):=if_pos e
end
section
variable {E:dM} {Q:cd} {D:List Deferred} {L:List (Nat×Value)} {C C1:List aj} {c:Code}
variable {H:List (List av)} {hz:List cb} {h h':List av} {a a':cb} {k:Nat} {bs:List RA} {i:Nat} {d d':av} {b:RA}
theorem EG (j:Nat) (hd:h[i]? =some d) (hb:bs[i]? =some b) (hs':d'.cH.ay=[]) (hn:decide (CF C j).Nodup=true) (hC:jz C (CF C j)=some (bf (aR lO h bs)::C1))
 (hk:WJ E c Q D L (bf (aR lO (h.set i d') (bs.set i (none,0)))::C1)):WJ E c Q D L C:=fun act w hf hs=>hk act w hf (GP hd hb hs' (St.jC _ hn (gN hC) hs))
theorem zS (i j q:Nat) (hk:k<H.length) (hk2:k<hz.length) (hn:decide (GN C i j q).Nodup=true) (hC:jz C (GN C i j q)=some (own a'.1.1 a'.1.2 wx 7 (List.zipWith av.cells h' a'.2)::bf (aR lO h' a'.2)::bf (dV gG H hz k)::C1))
 (hr:WJ E c Q D L (bf (aR gG (H.set k h') (hz.set k a'))::C1)):WJ E c Q D L C:=fun act w hf hs=>hr act w hf (FE hk hk2 (St.jC _ hn (gN hC) hs))
end
end
section
set_option maxRecDepth 20000
def nW (x y:Int):av:=iP ⟨x,y⟩
def an:bQ:=⟨g_,[4,7,9],[2,0,1],2,[[⟨false,false,cZ,j3⟩,nW 2600 2600,nW 2580 2609],[nW 2555 2559,nW 2540 2549,nW 2570 2575]]⟩
theorem pD {l:aU} {x y:Int} (h:hO ⟨x,y⟩):g3 l (nW x y):=by rw [xQ ⟨rfl,rfl⟩]; exact ⟨h,rfl,rfl,rfl⟩
theorem JX:eQ an:=by
 refine ⟨dc,dc,dc,fun i x hx=>?_,dc,fun h hh=>?_⟩
 ·match i with
  |0=>simp [an] at hx; subst hx; exact ⟨dc,fun y h=>absurd h dc⟩
  |1=>simp [an] at hx; subst hx; exact ⟨dc,fun y _ h=>by simp [an] at h; omega⟩
  |2=>simp [an] at hx; subst hx; exact ⟨dc,fun y _ h=>by simp [an] at h; omega⟩
  |n+3=>simp [an] at hx
 ·simp only [an,cO,List.not_mem_nil,or_false] at hh
  rcases hh with rfl|rfl
  ·refine ⟨U,fun d hd=>?_⟩
   simp only [cO,List.not_mem_nil,or_false] at hd
   rcases hd with rfl|rfl|rfl
   ·rw [wQ ⟨rfl,rfl⟩]; exact ⟨zf.1,rfl⟩
   ·exact pD dc
   ·exact pD dc
  ·refine ⟨U,fun d hd=>?_⟩
   simp only [cO,List.not_mem_nil,or_false] at hd
   rcases hd with rfl|rfl|rfl<;>exact pD dc
theorem jl:cc an=0:=by unfold cc; rw [if_pos (show dN an.ai=0 from Fb),if_pos JX]
theorem IW:js an 0 0=0∧fz an 0 0=⟨2596,2602⟩:=by
 have h:js an 0 0=0:=by unfold js; rw [if_pos jl]; decide
 refine ⟨h,?_⟩
 unfold fz
 rw [if_pos h]
 show cy g_ ⟨false,false,cZ,j3⟩=_
 rw [uQ ⟨rfl,rfl⟩]; exact zf.2
/-- the sums of a race of three sleds and two heats, all of which run -/
theorem Ey {l:aU} {ids dr:List Int} {t:Int} {H:List (List av)} {a b c d e f:av} (hH:H=[[a,b,c],[d,e,f]]) (hi:ids.length=3) (hoa: ∀ x∈[a,b,c,d,e,f],x.Out=false):
 ax ⟨l,ids,dr,t,H⟩=[(0,⟨(cy l a).Lo/10+(cy l d).Lo/10,(cy l a).Hi/10+(cy l d).Hi/10⟩),(1,⟨(cy l b).Lo/10+(cy l e).Lo/10,(cy l b).Hi/10+(cy l e).Hi/10⟩),(2,⟨(cy l c).Lo/10+(cy l f).Lo/10,(cy l c).Hi/10+(cy l f).Hi/10⟩)]∧
 dn ⟨l,ids,dr,t,H⟩ 1=[(0,⟨(cy l a).Lo/10,(cy l a).Hi/10⟩),(1,⟨(cy l b).Lo/10,(cy l b).Hi/10⟩),(2,⟨(cy l c).Lo/10,(cy l c).Hi/10⟩)]:=by
 subst hH
 simp only [cO,List.not_mem_nil,or_false,forall_eq_or_imp,forall_eq] at hoa
 obtain ⟨A,B,C,D,E,F⟩:=hoa
 simp [ax,dn,hi,List.range_succ,eo,A,B,C,D,E,F]
def Hk:fp:=[(0,⟨514,515⟩),(1,⟨514,514⟩),(2,⟨515,517⟩)]
def Hs:fp:=[(0,⟨514,515⟩),(1,⟨514,514⟩),(2,⟨516,516⟩)]
def LI:fp:=[(0,⟨259,260⟩),(1,⟨260,260⟩),(2,⟨258,260⟩)]
theorem uR:cy g_ ⟨false,false,cZ,j3⟩=⟨2596,2602⟩:=by rw [uQ ⟨rfl,rfl⟩]; exact zf.2
theorem j4 {l:aU} {x y:Int}:cy l (nW x y)=⟨x,y⟩:=Ap ⟨rfl,rfl⟩
theorem oo:ax an=Hk∧dn an 1=LI:=by
 obtain ⟨A,B⟩:=Ey (l:=g_) (ids:=[4,7,9]) (dr:=[2,0,1]) (t:=2) (H:=an.aq) rfl rfl dc
 refine ⟨A.trans ?_,B.trans ?_⟩
 ·rw [uR,j4,j4,j4,j4,j4]; rfl
 ·rw [uR,j4,j4]; rfl
def ji:bQ:=g0 an 0 2 ⟨2590,2599⟩
theorem v9:ej an 0 2 ⟨2590,2599⟩=0:=by unfold ej; rw [if_pos jl]; unfold mC; decide
theorem rM:cc ji=0:=th v9
theorem ER:ax ji=Hs:=by
 obtain ⟨A,B⟩:=Ey (l:=g_) (ids:=[4,7,9]) (dr:=[2,0,1]) (t:=2) (H:=ji.aq) (a:=⟨false,false,cZ,j3⟩) (b:=nW 2600 2600) (c:=nW 2590 2599) (d:=nW 2555 2559) (e:=nW 2540 2549) (f:=nW 2570 2575) rfl rfl dc
 refine A.trans ?_
 rw [uR,j4,j4,j4,j4,j4]; rfl
/-- ranks, as they can be reckoned -/
def zE (m:fp) (i:Int) (own:ab):List Int:=((List.range m.length).map fun (k:Nat)=>(k:Int)+1).filter fun k=>(g7 m i own).any fun n=>decide ((gd m i n:Int)+1≤k∧k≤(jd m i n:Int)+1)
theorem z3 {m:fp} {i:Int} {own:ab}:cR m i own=zE m i own:=by
 unfold cR zE
 congr 1
 funext k
 rw [Bool.eq_iff_iff,decide_eq_true_eq,List.any_eq_true]
 simp only [decide_eq_true_eq,o4]
theorem rD {r:bQ} {m:fp} {i:Int} {s:ab} (he:cc r=0) (hm:ax r=m) (hi:qY r i) (hl:m.lookup i=some s):gU r i=0∧mY r i=s∧gF r i=zE m i s:=by
 have h:gU r i=0:=by unfold gU; rw [if_pos he,if_pos hi,hm,hl]; rfl
 refine ⟨h,?_,?_⟩
 ·unfold mY ar; rw [if_pos h,hm,hl]; rfl
 ·unfold gF ar; rw [if_pos h,hm,hl,z3]; rfl
theorem uO {r:bQ} {m:fp} {a b:Int} {s t:ab} (he:cc r=0) (hm:ax r=m) (hi:qY r a∧qY r b∧a≠b) (hs:m.lookup a=some s) (ht:m.lookup b=some t):je r a b=0∧qc r a b=xA s t∧mO r a b=oD s t:=by
 have h:je r a b=0:=by unfold je; rw [if_pos he,if_pos hi,hm,hs,ht]; simp
 refine ⟨h,?_,?_⟩
 ·unfold qc ar; rw [if_pos h,hm,hs,ht]; rfl
 ·unfold mO ar; rw [if_pos h,hm,hs,ht]; rfl
theorem jV:gU an 0=0∧mY an 0=⟨514,515⟩∧gF an 0=[1,2]:=by have h:=rD (i:=0) (s:=⟨514,515⟩) jl oo.1 dc rfl; exact ⟨h.1,h.2.1,h.2.2.trans dc⟩
theorem pA:gU an 2=0∧mY an 2=⟨515,517⟩∧gF an 2=[2,3]:=by have h:=rD (i:=2) (s:=⟨515,517⟩) jl oo.1 dc rfl; exact ⟨h.1,h.2.1,h.2.2.trans dc⟩
theorem FD:gU ji 2=0∧mY ji 2=⟨516,516⟩:=by have h:=rD (i:=2) (s:=⟨516,516⟩) rM ER dc rfl; exact ⟨h.1,h.2.1⟩
theorem uK:je an 1 2=0∧qc an 1 2=2∧mO an 1 2=0:=by have h:=uO (a:=1) (b:=2) (s:=⟨514,514⟩) (t:=⟨515,517⟩) jl oo.1 dc rfl rfl; exact ⟨h.1,h.2.1.trans dc,h.2.2.trans dc⟩
theorem vf:je an 0 1=0∧qc an 0 1=0∧mO an 0 1=1:=by have h:=uO (a:=0) (b:=1) (s:=⟨514,515⟩) (t:=⟨514,514⟩) jl oo.1 dc rfl rfl; exact ⟨h.1,h.2.1.trans dc,h.2.2.trans dc⟩
theorem F2:e8 an 1=0∧e9 an 1=[0,2,1]:=by
 have h:e8 an 1=0:=by unfold e8; rw [if_pos jl]; decide
 refine ⟨h,?_⟩
 unfold e9
 rw [if_pos h,if_neg dc]
 unfold qw
 rw [show dn an (1:Int).toNat=LI from oo.2]
 decide
theorem C3:e8 an 2=0∧e9 an 2=[0,1,2]:=by
 have h:e8 an 2=0:=by unfold e8; rw [if_pos jl]; decide
 refine ⟨h,?_⟩
 unfold e9
 rw [if_pos h,if_neg dc]
 unfold qw
 rw [show dn an (2:Int).toNat=Hk from oo.1]
 decide
theorem H3:cw an=[[0,1,2]]:=by
 refine (nL jl ?_ ?_).symm
 ·rw [oo.1]
  refine ⟨dc,dc,sm,fun g hg t A B=>?_⟩
  rw [List.mem_singleton.1 hg] at A B ⊢
  simp [Hk,ar,List.lookup] at A B ⊢
  omega
 ·intro g hg; rw [List.mem_singleton.1 hg]; decide
theorem D7:cw ji=[[0,1],[2]]:=by
 refine (nL rM ?_ ?_).symm
 ·rw [ER]
  refine ⟨dc,dc,?_,fun g hg t A B=>?_⟩
  ·simp [x_,Hs,ar,List.lookup]
  ·simp only [cO,List.not_mem_nil,or_false] at hg
   rcases hg with rfl|rfl<;>(simp [Hs,ar,List.lookup] at A B ⊢; omega)
 ·intro g hg; simp only [cO,List.not_mem_nil,or_false] at hg; rcases hg with rfl|rfl<;>decide
theorem GJ:dC an 0 2 ⟨2590,2599⟩=[2]:=by
 unfold dC
 rw [if_pos v9,oo.1,show ax (g0 an 0 2 ⟨2590,2599⟩)=Hs from ER]
 simp only [z3]
 rw [show cp (Hk.map (·.1))=[0,1,2] from qW (n:=3) dc]
 decide
end
section
open Go.RowKit
section
variable {E:dM} {ops:Array Oper} {Q:cd} {rest:List Oper} {D:List Deferred} {L:List (Nat×Value)} {C C1:List aj}
end
theorem xO {C:List aj}: ∀ {a b:List Nat} {X Y:List aj},jz C a=some X→jz C b=some Y→jz C (a++b)=some (X++Y)
 |[],b,X,Y,h,h2=>by cases h; exact h2
 |i::a,b,X,Y,h,h2=>by
  unfold jz at h
  split at h
  ·rename_i A hA
   split at h
   ·rename_i l hl
    cases h
    have ih:=xO hl h2
    show (match C[i]? with
     |some A=>match jz C (a++b) with
      |some l=>some (A::l)
      |none=>none
     |none=>none)=_
    rw [hA,ih]; rfl
   ·cases h
  ·cases h
theorem n_ {E:dM} {ops:Array Oper} {Q:cd} {rest:List Oper} {D:List Deferred} {L:List (Nat×Value)} {C C1:List aj} (X:List aj) (i1 i2:List Nat) (h1:jz C i1=some X) (h2:jz C i2=some C1) (h:RJ E ops Q rest D L (bf X::C1)) (hn:decide (i1++i2).Nodup=true:=by rfl):RJ E ops Q rest D L C:=fun a w hf hs=>h a w hf (St.tied (St.jC _ hn (gN (xO h1 h2)) hs))
theorem yN {E:dM} {c:Code} {Q:cd} {D:List Deferred} {L:List (Nat×Value)} {C C1:List aj} (ix:List Nat) (hC:jz C ix=some C1) (h:WJ E c Q D L C1) (hn:decide ix.Nodup=true:=by rfl):WJ E c Q D L C:=fun a w hf hs=>h a w hf (St.jC _ hn (gN hC) hs)
theorem iT {E:dM} {ops:Array Oper} {Q:cd} {rest:List Oper} {D:List Deferred} {L:List (Nat×Value)} {C C1:List aj} (ix:List Nat) (hn:decide ix.Nodup=true) (hC:jz C ix=some C1) (h:RJ E ops Q rest D L C1):RJ E ops Q rest D L C:=fun a w hf hs=>h a w hf (St.jC _ hn (gN hC) hs)
theorem kE {M A B:Type} {f:M→A→List B} {n:Nat} (h: ∀ m a,(f m a).length=n): ∀ {ms:List M} {asl:List A},∀ x∈List.zipWith f ms asl,x.length=n
 |[],asl,x,hx=>by simp at hx
 |m::ms,[],x,hx=>by simp at hx
 |m::ms,a::asl,x,hx=>by
  rw [List.zipWith_cons_cons] at hx
  rcases List.mem_cons.1 hx with rfl|hx
  ·exact h m a
  ·exact kE h x hx
theorem An (m:av) (a:RA):(av.cells m a).length=7:=rfl
theorem EM (m:List av) (a:cb):(cm m a).length=1:=rfl
theorem zq (m:List Int) (a:RA):(j5 m a).length=1:=rfl
def Du:List av:=[⟨false,false,cZ,j3⟩,nW 2600 2600,nW 2580 2609]
def mB:List av:=[nW 2555 2559,nW 2540 2549,nW 2570 2575]
theorem Dp {p q s t u v x y:RA}:mI an.aq [(p,[s,t,u]),(q,[v,x,y])]:=⟨rfl,fun k h a hk ha=>by
 match k with
 |0=>simp [an] at hk ha; subst hk; subst ha; rfl
 |1=>simp [an] at hk ha; subst hk; subst ha; rfl
 |n+2=>simp at ha⟩
theorem Ka {bz:List RA} {hz:List cb} (h:fh g_ bz) (hh:mI an.aq hz):dG an bz hz:=⟨h,dc,dc,dc,hh.1,fun k x a hx ha=>by
 have hm:=aN hx
 have hs:=hh.2 k x a hx ha
 simp only [an,cO,List.not_mem_nil,or_false] at hm
 rcases hm with rfl|rfl
 ·exact ⟨dc,hs,dc⟩
 ·exact ⟨dc,hs,dc⟩⟩
end
section
open Go.RowKit
def Lh (b:Bool):List Value:=[.bool b]
@[simp] theorem GK (b:Bool):(Lh b).length=1:=rfl
end
section
section
variable {r:bQ} {i:Nat} {x:List av} {d:av}
end
section
variable {r:bQ} {i k:Nat} {x:Int}
end
section
variable {r:bQ} {i k n:Nat} {s:ab} {l:aU} {hs:List (List av)}
end
section
variable {r:bQ} {i x:Int} {own s:ab} {k:Nat} {ys zs:List Int}
end
section
variable {B:List Bool} {P Q:Int→Prop} {k x:Nat} {m:fp} {i y a b:Int} {ys:List Int}
end
theorem ye {r:bQ} {i:Int}:(gF r i).length≤r.aI.length:=by
 unfold gF
 split
 ·unfold cR
  refine Nat.le_trans (List.length_filter_le _ _) ?_
  rw [List.length_map,List.length_range]
  exact qy
 ·simp
end
section
theorem Av: ∀ {m:fp} {a:Int} {s:ab},m.lookup a=some s→(a,s)∈m
 |[],a,s,h=>by cases h
 |(b,u)::m,a,s,h=>by
  by_cases e:a=b
  ·subst e
   simp [List.lookup] at h; subst h; exact bU
  ·have:(a==b)=false:=by simpa using e
   simp only [List.lookup,this] at h
   exact cL _ (Av h)
theorem AP: ∀ {m:fp} {a:Int} {s:ab},(m.map (·.1)).Nodup→(a,s)∈m→m.lookup a=some s
 |[],a,s,_,h=>by cases h
 |(b,u)::m,a,s,hn,h=>by
  rw [List.map_cons,List.nodup_cons] at hn
  rcases List.mem_cons.1 h with e|h
  ·cases e; simp [List.lookup]
  ·have e:a≠b:=fun e=>hn.1 (by rw [← e]; exact List.mem_map_of_mem (f:=(·.1)) h)
   have:(a==b)=false:=by simpa using e
   simp only [List.lookup,this]
   exact AP hn.2 h
/-- sums, each of another sled -/
structure p0 (m:fp):Prop where
 nd:(m.map (·.1)).Nodup
 le: ∀ p∈m,p.2.Lo≤p.2.Hi
section
variable {m:fp} {a b i n:Int} {s t own:ab}
theorem p0.at (h:p0 m) (hs:m.lookup a=some s):s.Lo≤s.Hi:=h.le _ (Av hs)
theorem p0.one (h:p0 m) (hs:m.lookup a=some s) {p:Int×ab} (hp:p∈m) (e:p.1=a):p.2=s:=by
 obtain ⟨x,y⟩:=p
 cases e
 have:=AP h.nd hp
 rw [hs] at this; cases this; rfl
/-- who is surely tied has the same ranks -/
theorem BF (h:p0 m) (hs:m.lookup a=some s) (ht:m.lookup b=some s) (he:s.Lo=s.Hi):cR m a s=cR m b s:=by
 have C:gd m a s.Lo=gd m b s.Lo:=by
  rw [lz,lz]
  apply List.countP_congr
  intro p hp
  simp only [dj,decide_eq_true_eq,Bool.not_eq_true',decide_eq_false_iff_not]
  exact ⟨fun q=>⟨q.1,fun e=>by have:=h.one ht hp e; rw [this] at q; omega⟩,fun q=>⟨q.1,fun e=>by have:=h.one hs hp e; rw [this] at q; omega⟩⟩
 have D:jd m a s.Lo=jd m b s.Lo:=by
  rw [nm,nm]
  apply List.countP_congr
  intro p hp
  simp only [dj,decide_eq_true_eq,Bool.not_eq_true',decide_eq_false_iff_not]
  exact ⟨fun q=>⟨q.1,fun e=>by have:=h.one ht hp e; rw [this] at q; omega⟩,fun q=>⟨q.1,fun e=>by have:=h.one hs hp e; rw [this] at q; omega⟩⟩
 unfold cR
 congr 1
 funext k
 rw [Lt,w5 (h.at hs),w5 (h.at hs)]
 constructor<;>rintro ⟨x,A,B,E,F⟩<;>(have:x=s.Lo:=by omega)<;>subst this<;>exact ⟨s.Lo,A,B,om,om⟩
end
section
variable {r:bQ} {a b i:Int} {s t:ab}
theorem Fi (h:cc r=0):je r a a=2:=by unfold je; rw [if_pos h,if_neg fun q=>q.2.2 rfl]
/-- what is known of two sleds that have sums -/
structure IB (r:bQ) (a b:Int) (s t:ab):Prop where
 ne:a≠b
 Ke:p0 (ax r)
 sa:(ax r).lookup a=some s
 sb:(ax r).lookup b=some t
 ea:gU r a=0
 eb:gU r b=0
 va:mY r a=s
 vb:mY r b=t
 ra:gF r a=cR (ax r) a s
 rb:gF r b=cR (ax r) b t
 N0:qc r a b=xA s t
 FZ:qc r b a=xA t s
 tied:mO r a b=oD s t
theorem IB.tie (h:IB r a b s t) (e:mO r a b=2):s=t∧s.Lo=s.Hi∧gF r a=gF r b∧qc r a b=0∧qc r b a=0:=by
 rw [h.tied] at e
 unfold oD at e
 split at e
 ·rename_i q
  obtain ⟨rfl,q⟩:=q
  have hb:xA s s=0:=by unfold xA; rw [if_neg om,if_neg om]
  exact ⟨U,q,by rw [h.ra,h.rb,BF h.Ke h.sa h.sb q],h.N0.trans hb,h.FZ.trans hb⟩
 ·split at e<;>cases e
end
end
section
section
variable {r:bQ} {h i:Nat} {ht:List av} {d:av} {bl:List Int} {n:Int} {out:Bool}
structure CX (r:bQ) (h i:Nat) (d:av):Prop where
 off:d.Out=true→js r ↑h ↑i=6
 on:d.Out=false→js r ↑h ↑i=0∧fz r ↑h ↑i=cy r.ai d
 b:0≤(fz r ↑h ↑i).Lo∧(fz r ↑h ↑i).Lo≤(fz r ↑h ↑i).Hi∧(fz r ↑h ↑i).Hi≤86400000
 at_:(r.aq[h]?).bind (·[i]?)=some d
theorem CX.same (q:CX r h i d):d.Out=decide (js r ↑h ↑i=6):=by
 cases ho:d.Out with
 |true=>rw [q.off ho]; rfl
 |false=>rw [(q.on ho).1]; rfl
end
section
variable {r:bQ} {i:Nat} {k:Int}
end
end
section
set_option maxRecDepth 20000
theorem De:e8 an 0=0∧e9 an 0=[2,0,1]:=by
 have h:e8 an 0=0:=by unfold e8; rw [if_pos jl]; decide
 refine ⟨h,?_⟩
 unfold e9
 rw [if_pos h,if_pos dc]; rfl
theorem ET:e8 an 3=2:=by unfold e8; rw [if_pos jl]; decide
theorem pf:gU an 1=0∧mY an 1=⟨514,514⟩∧gF an 1=[1]:=by have h:=rD (i:=1) (s:=⟨514,514⟩) jl oo.1 dc rfl; exact ⟨h.1,h.2.1,h.2.2.trans dc⟩
theorem uW:je an 0 2=0∧qc an 0 2=1∧mO an 0 2=1:=by have h:=uO (a:=0) (b:=2) (s:=⟨514,515⟩) (t:=⟨515,517⟩) jl oo.1 dc rfl rfl; exact ⟨h.1,h.2.1.trans dc,h.2.2.trans dc⟩
theorem EK:gU an 3=2:=by unfold gU; rw [if_pos jl]; decide
theorem Jr:je an 1 1=2:=Fi jl
theorem Hh:ej an 0 0 ⟨0,2⟩=2:=by unfold ej; rw [if_pos jl]; unfold mC; decide
/-- no speed -/
def qf:bQ:=⟨⟨an.ai.aO,0,an.ai.ak,an.ai.ag,an.ai.ct,an.ai.er,an.ai.dx⟩,an.aI,an.bu,an.gf,an.aq⟩
theorem Dh:gU qf 9=50:=by
 have h:dN qf.ai=50:=m_ wW fun q=>absurd q.head.1.1 dc
 have he:cc qf=50:=by rw [tm (by rw [h]; decide),h]
 rw [rK (by rw [he]; decide),he]
/-- the draw has one twice -/
def uC:bQ:=⟨an.ai,an.aI,[1,0,1],an.gf,an.aq⟩
theorem Hb:gU uC 9=60:=by
 have he:cc uC=60:=iI (show dN an.ai=0 from Fb) fun q=>by
  have h:=q.draw.mem_iff (a:=2)
  have A:(2:Int)∈(List.range uC.aI.length).map fun (k:Nat)=>(k:Int):=by decide
  exact absurd (h.2 A) dc
 rw [rK (by rw [he]; decide),he]
/-- one is out -/
def xX:av:=⟨true,false,cZ,⟨0,0,[]⟩⟩
def dq:bQ:=⟨an.ai,an.aI,an.bu,an.gf,[Du,[xX,nW 2540 2549,nW 2570 2575]]⟩
theorem kf:cc dq=0:=by
 obtain ⟨B,A⟩:=gQ jl
 refine wG B ⟨A.num,A.zI,A.nh,A.ids,A.draw,fun h hh=>?_⟩
 simp only [dq,cO,List.not_mem_nil,or_false] at hh
 rcases hh with rfl|rfl
 ·exact A.mU _ (bU ..)
 ·refine ⟨U,fun d hd=>?_⟩
  simp only [cO,List.not_mem_nil,or_false] at hd
  rcases hd with rfl|rfl|rfl
  ·rw [xK rfl]; exact ⟨rfl,rfl,rfl,rfl,rfl⟩
  ·exact pD dc
  ·exact pD dc
def Hv:fp:=[(1,⟨514,514⟩),(2,⟨515,517⟩)]
theorem pZ:ax dq=Hv:=by
 have A:cy g_ (nW 2600 2600)=⟨2600,2600⟩:=j4
 have B:cy g_ (nW 2580 2609)=⟨2580,2609⟩:=j4
 have C:cy g_ (nW 2540 2549)=⟨2540,2549⟩:=j4
 have D:cy g_ (nW 2570 2575)=⟨2570,2575⟩:=j4
 have E:eo dq.ai dq.aq 0 2=none:=by simp [eo,dq,Du,xX]
 have F:eo dq.ai dq.aq 1 2=some ⟨514,514⟩:=by
  have h:eo dq.ai dq.aq 1 2=some ⟨0+(cy g_ (nW 2600 2600)).Lo/10+(cy g_ (nW 2540 2549)).Lo/10,0+(cy g_ (nW 2600 2600)).Hi/10+(cy g_ (nW 2540 2549)).Hi/10⟩:=rfl
  rw [h,A,C]; rfl
 have G:eo dq.ai dq.aq 2 2=some ⟨515,517⟩:=by
  have h:eo dq.ai dq.aq 2 2=some ⟨0+(cy g_ (nW 2580 2609)).Lo/10+(cy g_ (nW 2570 2575)).Lo/10,0+(cy g_ (nW 2580 2609)).Hi/10+(cy g_ (nW 2570 2575)).Hi/10⟩:=rfl
  rw [h,B,D]; rfl
 show (List.range 3).filterMap (fun q=>(eo dq.ai dq.aq q 2).map fun s=>((q:Int),s))=Hv
 simp only [List.range_succ,List.range_zero,List.nil_append,List.cons_append,List.filterMap_cons,List.filterMap_nil,E,F,G,Option.map_none,Option.map_some]
 rfl
theorem CV:gU dq 0=6:=tu kf dc (by rw [pZ]; rfl)
theorem BO:js dq 1 0=6:=by unfold js; rw [if_pos kf]; decide
theorem Bl:je dq 0 1=6:=pS kf dc (.inl (by rw [pZ]; rfl))
theorem qv:ej dq 1 0 ⟨1,2⟩=8:=by unfold ej; rw [if_pos kf]; unfold mC; decide
theorem w6:cw dq=[[1],[2]]:=by
 refine (nL kf ?_ ?_).symm
 ·rw [pZ]
  refine ⟨dc,dc,?_,fun g hg t A B=>?_⟩
  ·simp [x_,Hv,ar,List.lookup]
  ·simp only [cO,List.not_mem_nil,or_false] at hg
   rcases hg with rfl|rfl<;>(simp [Hv,ar,List.lookup] at A B ⊢; omega)
 ·intro g hg; simp only [cO,List.not_mem_nil,or_false] at hg; rcases hg with rfl|rfl<;>decide
section
variable {bz:List RA} {hz:List cb} {a:cb}
theorem H_ (h:dG an bz hz):dG qf bz hz:=⟨⟨h.line.wJ,h.line.side,h.line.wI,h.line.pQ,h.line.v8,h.line.LQ⟩,h.gT,h.draw,h.g9,h.has,h.mU⟩
theorem JA (h:dG an bz hz):dG uC bz hz:=⟨h.line,h.gT,dc,h.g9,h.has,h.mU⟩
theorem JW (h:mI an.aq hz): ∃ y,hz[1]? =some y:=⟨hz[1]'(by rw [h.1]; decide),eC _⟩
theorem Kf (h:mI an.aq hz) (ha:hz[1]? =some a):mI dq.aq (hz.set 1 (a.1,a.2.set 0 (none,0))):=by
 refine ⟨by rw [List.length_set]; exact h.1,fun k y b hy hb=>?_⟩
 match k with
 |0=>
  rw [List.getElem?_set_ne dc] at hb
  simp [dq] at hy
  subst hy
  exact h.2 0 Du b U hb
 |1=>
  rw [List.getElem?_set_self (by rw [h.1]; decide)] at hb
  simp [dq] at hy
  cases hb; subst hy
  have:=h.2 1 mB a rfl ha
  rw [List.length_set]; exact this
 |n+2=>simp [dq] at hy
theorem Kj (h:dG an bz hz) {kz:List cb} (hk:mI dq.aq kz):dG dq bz kz:=⟨h.line,h.gT,h.draw,dc,hk.1,fun k x b hx hb=>by
 have hm:=aN hx
 have hs:=hk.2 k x b hx hb
 simp only [dq,cO,List.not_mem_nil,or_false] at hm
 rcases hm with rfl|rfl
 ·exact ⟨dc,hs,dc⟩
 ·exact ⟨dc,hs,dc⟩⟩
end
end
section
open Go.RowKit
section
variable {K:Type} [DecidableEq K] {kV:K→Value}
variable {E:dM} {ops:Array Oper} {Q:cd} {rest:List Oper} {D:List Deferred} {L:List (Nat×Value)} {C:List aj}
variable {ty:TypeId} {ps:String} {af:Array Edge} {g:Option (Nat×Bool)}
theorem mz {t kt et:TypeId} {xm xk:Operand} {ts:Array TypeId} {b:Nat} {x:K} {m m':List (K×Value)} {C':List aj} (i:Nat) (hg:gX ops L g=true) (hm:ev L xm=some (.map (some b))) (hk:ev L xk=some (kV x)) (hts:ts[0]? =some t)
 (ht:E.P.underlying t=some (.map kt et)) (hkt:qd E.P kt kV) (hC:C[i]? =some (fJ kV b m)) (hm':bR m x=m') (hC':C.set i (fJ kV b m')=C') (k:RJ E ops Q rest D L C'):
 RJ E ops Q (⟨none,.call {callee:= .builtin .delete,args:= #[xm,xk],argTypes:=ts},ty,ps,af,g⟩::rest) D L C:=by
 subst hm' hC'
 intro a w A hs
 unfold oj
 rw [if_pos (cV A hg)]
 obtain ⟨es,c,he,hi⟩:=hs.holds _ (aN hC)
 have B:(getObj b).run E.P w= .ok (.map es c) w:=MapKept.run_getObj_map he
 rcases l5 (P:=E.P) (w:=w) (x:=x) hkt hi with ⟨F,G⟩|⟨j,AA,F,G,H⟩
 ·refine fc (v:= .tuple #[]) (w':={w with heap:=w.heap.setIfInBounds b (.map es c)}) sm ?_ ?_
  ·simp [execOp,resolve,invoke,builtin,A.ev hm,A.ev hk,Builtin.delete_,hts,run_underlying ht,B,fX hkt,F,MapKept.run_setObj_map _ he]
  ·refine k _ _ ⟨A.defers,A.size,A.at_⟩ (hs.x5 (b:=b) i hC U U (kl _) (fun _ h=>h) ⟨_,_,mq he,?_⟩)
   rw [yn G]; exact hi
 ·refine fc (v:= .tuple #[]) (w':={w with heap:=w.heap.setIfInBounds b (.map (es.eraseIdxIfInBounds j) c)}) sm ?_ ?_
  ·simp [execOp,resolve,invoke,builtin,A.ev hm,A.ev hk,Builtin.delete_,hts,run_underlying ht,B,fX hkt,F,MapKept.run_setObj_map _ he]
  ·exact k _ _ ⟨A.defers,A.size,A.at_⟩ (hs.x5 (b:=b) i hC U U (kl _) (fun _ h=>h) ⟨_,_,mq he,hi.del G⟩)
end
end
section
open Go.RowKit
section
variable {r:bQ} {h i:Int} {t:ab} {k:Nat}
end
/-- there is a table -/
theorem uT {r:bQ} (he:cc r=0): ∃ G,fF (ar (ax r)) ((ax r).map (·.1)) G∧xS G:=by
 have key: ∀ (L:List Int),zw (fun u=>(ar (ax r) u).Lo) L→ ∀ i,i≤L.length→ ∃ G last,jU (ar (ax r)) (L.take i) G last:=fun L B i=>by
  induction i with
  |zero=>intro _; exact ⟨[],-1,AQ⟩
  |succ i ih=>
   intro hi
   obtain ⟨G,last,hG⟩:=ih om
   have hx:L[i]? =some (L[i]'om):=eC _
   have C:=fg (i:=L[i]'om) (lR he)
   by_cases hl:last<(ar (ax r) (L[i]'om)).Lo
   ·obtain ⟨g,hg⟩: ∃ g,(G++[[]])[(G++[([]:List Int)]).length-1]? =some g:=⟨_,eC sm⟩
    exact ⟨_,_,mu om hx hg hG hl⟩
   ·have hp:=Ah C.1 hG hl
    obtain ⟨g,hg⟩: ∃ g,G[G.length-1]? =some g:=⟨_,eC om⟩
    exact ⟨_,_,lM om (fun u _=>(fg (i:=u) (lR he)).2.1) B hx hg hG hl⟩
 obtain ⟨G,last,hG⟩:=key (di (fun u=>(ar (ax r) u).Lo) ((ax r).map (·.1))) qn _ (Nat.le_refl _)
 have A:=qI hG.ok
 rw [List.take_length] at A
 exact ⟨_,m6 A.1 nF,A.2⟩
theorem nA {r:bQ}:(cw r).length≤1000000∧ ∀ l∈cw r,l.length≤1000000:=by
 by_cases he:cc r=0
 ·have E:(ax r).length≤5:=l8 he
  have A: ∃ G,fF (ar (ax r)) ((ax r).map (·.1)) G∧xS G:=by
   refine Classical.byContradiction fun hn=>?_
   exact hn (uT he)
  obtain ⟨G,hG,hA⟩:=A
  rw [← nL he hG hA]
  have C:=hG.perm.length_eq
  rw [List.length_map] at C
  have B: ∀ G:List (List Int),(∀ g∈G,g≠[])→G.length≤G.flatten.length:=fun G=>by
   induction G with
   |nil=>intro _; simp
   |cons g G ih=>
    intro hG
    have B:=ih fun y hy=>hG y (cL _ hy)
    have D:=List.length_pos_iff.2 (hG g bU)
    simp only [List.flatten_cons,List.length_cons,List.length_append]; omega
  refine ⟨by have:=B G hG.some_; omega,fun l hl=>?_⟩
  have D:l.length≤G.flatten.length:=(List.sublist_flatten_of_mem hl).length_le
  omega
 ·rw [xz he]; simp
theorem wO {r:bQ} {h i:Int} {t:ab}:(dC r h i t).length≤r.aI.length:=by
 unfold dC
 split
 ·refine Nat.le_trans (List.length_filter_le _ _) ?_
  rw [e5,List.length_map]
  exact qy
 ·simp
end
section
open Go.RowKit
section
variable {P:Program} {t:TypeId} {x y:Operand}
theorem nE {e:TypeId} {a:OA} {n c:Nat} (ht:P.underlying t=some (.slice e)):fM P .eql t x y (.slice a n c) (.slice none 0 0) (.bool (decide (a=none))):=fun w=>by
 have A:(Op.equal t (.slice a n c) (.slice none 0 0)).run P w= .ok (decide (a=none)) w:=by
  unfold Op.equal
  show (Op.equalIn (9999+1) t (.slice a n c) (.slice none 0 0)).run P w=_
  unfold Op.equalIn
  cases a<;>simp [run_underlying ht]
 have B:eqGuard .eql t x y (.slice a n c) (.slice none 0 0)=pure ():=rfl
 rw [B]
 show (Sem.run P (do let b ← Op.equal t (.slice a n c) (.slice none 0 0); pure (vB b)) w)=_
 simp [A]
end
section
variable {E:dM} {ops:Array Oper} {Q:cd} {rest:List Oper} {D:List Deferred} {L:List (Nat×Value)} {C:List aj}
variable {dst:Option Tmp} {d:Nat} {ty:TypeId} {ps:String} {af:Array Edge} {g:Option (Nat×Bool)}
/-- a row that lies nowhere is empty -/
theorem jR {a:OA} {n sz:Nat} {es:List (List Value)} (hR:jf C (rd a n sz es).holds) (ha:a=none) (hz:0<sz) (k:es=[]→RJ E ops Q rest D L C):RJ E ops Q rest D L C:=fun act w hf hs=>by
 refine k ?_ act w hf hs
 obtain ⟨F,G,B⟩:=hs.has hR
 rcases Nat.eq_zero_or_pos (n*sz) with h|h
 ·have:n=0:=by
   rcases Nat.mul_eq_zero.1 h with h|h
   ·exact h
   ·omega
  exact nV om
 ·obtain ⟨ad,A,_⟩:=B h
  rw [ha] at A; cases A
theorem DS {a:OA} {c e sz:Nat} {es:List (List Value)} (i:Nat) (hC:C[i]? =some (own a c e sz es)) (k:es.length≤c→RJ E ops Q rest D L C):RJ E ops Q rest D L C:=fun act w hf hs=>
 k (Aa (hs.holds _ (aN hC))) act w hf hs
theorem jr {A:aj} (i:Nat) (h:C[i]? =some A.ro):jf C A.holds:=fun w hw=>by
 have B:=hw A.ro (aN h)
 exact B
/-- the end of a row is set to zero: it is no more of it -/
theorem GY {x:Operand} {t e sz by_ k n c c':Nat} {z:Value} {a:OA} {es:List (List Value)} (i:Nat) (hg:gX ops L g=true) (hx:ev L x=some (.slice (vu a c k sz) (n-k) c')) (ht:tA E.P t=some (e,sz,by_,z)) (hz1: ∀ v∈z.cells.toList,v.oneCell'=true)
 (hC:C[i]? =some (own a c e sz es)) (hn:n=es.length) (hk:k≤n) (K:RJ E ops Q rest D L (C.set i (own a c e sz (es.take k)))):
 RJ E ops Q (⟨none,.call {callee:= .builtin .clear,args:= #[x],argTypes:= #[t]},ty,ps,af,g⟩::rest) D L C:=by
 intro act w A F
 obtain ⟨inf,hu,hi,f,h3,h4,s⟩:=yh ht
 unfold oj
 rw [if_pos (cV A hg)]
 subst hn
 obtain ⟨W,N⟩:(own a c e sz es).holds w:=F.holds _ (aN hC)
 have B: ∀ y∈es.take k,y.length=sz:=fun y hy=>W y (List.mem_of_mem_take hy)
 have V:(es.take k).flatten=es.flatten.take (k*sz):=by
  have h:=List.take_append_drop k es
  have l:es.flatten=(es.take k).flatten++(es.drop k).flatten:=by rw [← List.flatten_append,h]
  have m:(es.take k).flatten.length=k*sz:=by rw [fV B,List.length_take]; congr 1; omega
  rw [l,← m,List.take_left]
 by_cases r:es.length-k=0
 ·have AA:es.take k=es:=List.take_of_length_le om
  refine fc sm (w':=w) (v:= .tuple #[]) ?_ ?_
  ·rw [r] at hx
   cases hs:vu a c k sz with
   |none=>rw [hs] at hx; simp [execOp,resolve,invoke,builtin,Builtin.clear_,A.ev hx,run_underlying hu]
   |some q=>rw [hs] at hx; simp [execOp,resolve,invoke,builtin,Builtin.clear_,A.ev hx,run_underlying hu]
  ·rw [AA] at K
   exact K _ _ A (by
    have:C.set i (own a c e sz es)=C:=by
     apply List.ext_getElem?
     intro q
     rw [List.getElem?_set]
     by_cases j:i=q
     ·subst j; rw [if_pos rfl,if_pos (List.getElem?_eq_some_iff.1 hC).1,hC]
     ·rw [if_neg j]
    rw [this]; exact F)
 ·rcases N.2 with ⟨l,m⟩|⟨gg,cap,cur,hv,AC,M,Y,T,J,G⟩
  ·omega
  ·injection hv with Z AO d
   subst Z d
   have R:vu (some (⟨gg,0,none⟩:Addr)) c k sz=some ⟨gg,k*sz,none⟩:=by
    unfold vu; rw [if_neg om]; simp [Addr.add_lit]
   rw [R] at hx
   have H:(Builtin.zeroCells z.cells (es.length-k)).toList.length=(es.length-k)*sz:=by
    rw [Array.length_toList,size_zeroCells,s]
   have p:k*sz+(es.length-k)*sz=es.length*sz:=by rw [← Nat.add_mul]; congr 1; omega
   have o:es.length*sz≤cur.size:=by rw [J]; exact Nat.mul_le_mul_right _ Y
   have h1': ∀ v∈(Builtin.zeroCells z.cells (es.length-k)).toList,v.oneCell'=true:=fun v hv=>by
    refine hz1 v ?_
    simp [Builtin.zeroCells] at hv
    obtain ⟨q,hq,hv⟩:=hv
    have O:0<z.cells.size:=by
     rcases Nat.eq_zero_or_pos z.cells.size with AB|AB
     ·rw [AB] at hq; simp at hq
     ·exact AB
    have X:q % z.cells.size<z.cells.size:=Nat.mod_lt _ O
    rw [getElem!_pos z.cells _ X] at hv
    rw [← hv]; simp
   have hst':=run_storeCells_at E.P gg (k*sz) e (Builtin.zeroCells z.cells (es.length-k)).toList 0 cur w M (by rw [H]; omega) h1'
   simp only [Nat.add_zero] at hst'
   obtain ⟨q,hq⟩: ∃ q,es.length-k=q+1:=⟨es.length-k-1,om⟩
   refine fc sm (w':=w.setRow gg (cur.toList.take (k*sz)++(Builtin.zeroCells z.cells (es.length-k)).toList++cur.toList.drop (k*sz+(Builtin.zeroCells z.cells (es.length-k)).toList.length)).toArray) (v:= .tuple #[]) ?_ ?_
   ·rw [hq] at hx hst' ⊢
    simp [execOp,resolve,invoke,builtin,Builtin.clear_,A.ev hx,run_underlying hu,zeroValue,typeInfo,hi,f,hst']
   ·refine K _ _ A ?_
    refine F.move i hC (row:=some gg) (fun b hb=>by cases hb; exact ⟨_,rfl,rfl⟩) rfl ⟨rfl,rfl,rfl,sm,fun k' _ hk'=>setRow_other w gg k' _ (fun e=>hk' (by simp [e]))⟩ (fun y hy=>by
     obtain ⟨ad,AB,rfl⟩:=hy
     cases AB; exact .inl rfl) ?_
    refine ⟨B,?_,.inr ⟨gg,c,_,U,Nat.zero_le _,setRow_heap w gg cur _ e _ M,?_,T,?_,?_⟩⟩
    ·exact fV B
    ·rw [List.length_take]; omega
    ·simp only [List.size_toArray,List.length_append,List.length_take,List.length_drop,Array.length_toList,H]
     have:=J
     simp only [Array.length_toList] at H
     omega
    ·have u:(es.take k).length*sz=k*sz:=by rw [List.length_take]; congr 1; omega
     have S:(cur.toList.take (k*sz)).length=k*sz:=by rw [List.length_take,Array.length_toList]; omega
     rw [u,V,← G,List.take_take,Nat.min_eq_left om]
     show List.take (k*sz) (_++_++_)=_
     rw [List.append_assoc,List.take_left' S]
end
end
section
open Go.RowKit
theorem HX (l:List Int) (lA:OA) (lC:Nat) (f:Value) (p:Int→Bool) (X:aj) (hf: ∀ x0,x0∈l→zl Tryz.prog f [.int .i64 x0] [X] (.bool (p x0))) (hlen:l.length≤1000000):
 dQ Tryz.prog 86 [(vS lA l.length lC),f] [(rd lA l.length 1 (l.map iC)),X] (vI (pN p l)):=by
 refine bx kr Tryz.func86 U U fun R Q hQ hN=>?_
 try dsimp only
 refine WS fun _ G=>a_ 1 U<|RK G<|al fun _ H=>WS fun _ AA=>rP 3 [] I ?_
 refine RK AA<|aF ?_
 have B:(0≤l.length)∧((l.take 0).any p=false):=by simp
 refine bX (ι:={z:Nat // (z≤l.length)∧((l.take z).any p=false)}) [0,1,7] [0,1] U U (fun z=>[(8,(vI (z.1:Int)))]) (fun z=>[]) (fun _=>rfl) (fun _=>rfl) (fun z=>l.length-z.1) ⟨0,B⟩ (aT U) (aJ [0,1]) ?_
 clear B
 rintro ⟨i,⟨N,A⟩⟩ J4 F
 try dsimp only
 refine WS fun _ J=>rP 1 [] I ?_
 refine RK J<|al fun _ K=>cu U (aZ fun P=>?_) (aY fun P=>?_)
 ·refine bq<|ah<|ah<|aD<|KK H<|WS fun _ E=>rP 1 [] I ?_
  refine RK E<|aB<|Q1 hQ U U U ?_
  exact cI (oF om A).symm
 refine WK K<|al fun _ L=>aF<|WS fun _ M=>a_ 2 U<|RK M<|WS fun _ C=>rP 3 [] I ?_
 obtain ⟨x,hx⟩:=aQ l i om
 have O:=cG iC hx
 refine rS (IA i U (aS 0 U) b0 dc om om)<|rS (g4 i 0 (vI x) U cz (aS 0 U) O U dc U)<|rS (SX (oO U U U (hf x (aN hx)) (bj [1])) U U)<|RK C<|dF U (fun hp=>?_) (fun hp=>?_)
 ·refine WS fun _ D=>rP 2 [] I ?_
  refine RK D<|aB<|Q1 hQ U U U ?_
  exact cI (sP hx hp A).symm
 refine cJ<|aH<|KK L<|au<|rP 2 [] I ?_
 refine aG ?_
 refine bc (F ⟨(i+1),⟨om,ss hx A hp⟩⟩ _ _ _ U os (aT U) (aJ [0,1]))
theorem oI (l:List Int) (lA:OA) (lC:Nat) (f:Value) (p:Int→Bool) (X:aj) (hf: ∀ x0,x0∈l→zl Tryz.prog f [.int .i64 x0] [X] (.bool (p x0))) (hlen:l.length≤1000000):
 dQ Tryz.prog 63 [(vS lA l.length lC),f] [(rd lA l.length 1 (l.map iC)),X] (vB (l.any p)):=by
 refine bx kr Tryz.func63 U U fun C Q hQ hN=>?_
 try dsimp only
 refine WS fun _ A=>a_ 1 U<|RK A<|WS fun _ B=>a_ 2 U<|rS (CL (HX l lA lC f p X (by exact hf) hlen) (bj [0,1]) U)<|rP 2 [] I ?_
 refine RK B<|aB<|Q1 hQ U U U ?_
 exact cB qg
theorem Cd (n lo hi:Int) (g1 g2:Nat):
 dQ Tryz.prog 139 [(vI n),(vP g1),(vP g2)] [(bJ g1 3 [(vI lo)]),(bJ g2 3 [(vI hi)])] (vB (decide (n<lo∨hi<n))):=by
 refine bx kr Tryz.func139 U U fun D Q hQ hN=>?_
 try dsimp only
 refine WS fun _ B=>a_ 1 U<|RK B<|WS fun _ A=>rP 4 [] (mr 0 U I) ?_
 refine eH (t:=8) U (aY fun C=>?_) (aZ fun C=>?_)
 ·refine rP 5 [] I ?_
  refine RK A<|aB<|Q1 hQ U U U ?_
  exact cB (g6 om).symm
 refine rP 5 [] (mr 1 U I) ?_
 refine RK A<|aB<|Q1 hQ U U U ?_
 exact cB (decide_eq_decide.2 om)
theorem ml (lo hi:Int) (l:List Int) (lA:OA) (lC:Nat) (hlen:l.length≤1000000):
 dQ Tryz.prog 113 [(vI lo),(vI hi),(vS lA l.length lC)] [(rd lA l.length 1 (l.map iC))] (vB (mP lo hi l)):=by
 refine bx kr Tryz.func113 U U fun F Q hQ hN=>?_
 try dsimp only
 refine WS fun _ D=>qo U U fun A=>qo U U fun B=>a_ 1 U<|RK D<|WS fun _ E=>rP 1 [] I ?_
 refine rS (FU U) ?_
 refine rS (CL (oI l lA lC (Value.func (.func 139) [].toArray [(vP A),(vP B)].toArray) (fun C=>(decide (C<lo∨hi<C))) (eR [(bJ A 3 [(vI lo)]),(bJ B 3 [(vI hi)])]) (by intro C _; exact kK (fi:=[]) (ca:=[(vP A),(vP B)]) (jP (Cd C lo hi A B) (bj [0,1]))) hlen) (cY 2 U U<|ae (jO (bj [1,0]))<|aC) U) ?_
 refine rP 2 [] I ?_
 refine RK E<|aB ?_
 exact Q1 hQ U U U U
theorem rF (s:ab) (lo hi:Int):
 dQ Tryz.prog 114 [(vA (ab.cells s)),(vI lo),(vI hi)] [] (vB (decide (s.Lo≤s.Hi∧lo≤s.Lo∧s.Hi≤hi))):=by
 refine bx kr Tryz.func114 U U fun F Q hQ hN=>?_
 try dsimp only
 refine WS fun _ B=>g5 U fun E=>a_ 1 U<|RK B<|WS fun _ A=>rP 6 [] (mc 0 U I) ?_
 refine ck (xs:=[.tmp 10,.tmp 12]) (cs:=[(vI s.Lo),(vI s.Hi)]) U b0 gI U U U U (by simp [Value.cells]) U U fun C=>?_
 refine rS (CL (dQ.eq (ml lo hi ([s.Lo,s.Hi]) (some ⟨C,0,none⟩) 2 (by (simp; done))) nS) (ae (aP 0 U U (by simp [aW]) U)<|aC) U) ?_
 refine rP 1 [] I ?_
 refine bH (t:=15) U (aZ fun D=>?_) (aY fun D=>?_)
 ·refine rP 7 [] I ?_
  refine RK A<|aB<|Q1 hQ U U U ?_
  exact cB (df om).symm
 refine rP 7 [] (mc 1 U I) ?_
 refine RK A<|aB<|Q1 hQ U U U ?_
 exact cB (decide_eq_decide.2 om)
theorem wk (ts:List ao) (tsA:OA) (tsC:Nat) (hlen:ts.length≤1000000) (hside: ∀ x∈ts,0≤x.jy∧x.jy≤255):
 dQ Tryz.prog 82 [(vA (bK.cells (bK.mk (ba.mk tsA ts.length tsC))))] [(rd tsA ts.length 9 (ts.map ao.cells))] (vI (if cv ts=true then 0 else 10)):=by
 refine bx kr Tryz.func82 U U fun w0 Q hQ hN=>?_
 try dsimp only
 refine WS fun _ v=>g5 U fun b2=>a_ 1 U<|RK v<|vm U<|al fun _ w=>WS fun _ y=>rP 3 [] (mc 0 U I) ?_
 refine ck (xs:=[.tmp 11]) (cs:=[(vI (ts.length:Int))]) U b0 gI U U U U (by simp [Value.cells]) U U fun b5=>?_
 refine rS (CL (dQ.eq (ml 1 12 ([(ts.length:Int)]) (some ⟨b5,0,none⟩) 1 (by (simp; done))) bZ) (ae (aP 0 U U (by simp [aW]) U)<|aC) U) ?_
 refine rP 1 [] I ?_
 refine RK y<|dF U (bL fun h6=>?_) (bM fun h6=>?_)
 ·refine WS fun _ AC=>rP 1 [] I ?_
  refine RK AC<|aB<|Q1 hQ U U U ?_
  exact cI (if_neg (by rw [wF om]; decide)).symm
 refine WK w<|WS fun _ AO=>a_ 1 U<|RK AO<|WS fun _ A0=>a_ 1 U<|RK A0<|al fun _ J=>u6<|KK J<|al fun _ B=>WS fun _ K=>rP 4 [] (mc 1 U I) ?_
 refine RK K<|aF ?_
 have D:(0≤ts.length)∧(en (-1) ts=en (gE ts 0) (ts.drop 0))∧(-1≤gE ts 0)∧(gE ts 0≤9999):=by (refine ⟨om,rfl,by simp [gE],by simp [gE]⟩)
 refine bX (ι:={z:Nat // (z≤ts.length)∧(en (-1) ts=en (gE ts z) (ts.drop z))∧(-1≤gE ts z)∧(gE ts z≤9999)}) [1,4,16,17] [1,2] U U (fun z=>[(3,(vI (gE ts z.1))),(18,(vI (z.1:Int)))]) (fun z=>[]) (fun _=>rfl) (fun _=>rfl) (fun z=>ts.length-z.1) ⟨0,D⟩ (aT U) (aJ [1,2]) ?_
 clear D
 rintro ⟨i,⟨A1,A,A2,A3⟩⟩ J13 E
 try dsimp only
 refine WS fun _ L=>rP 1 [] I ?_
 refine RK L<|al fun _ M=>cu U (aZ fun k=>?_) (aY fun k=>?_)
 ·refine bq<|ah<|ah<|aD<|KK B<|WS fun _ O=>rP 2 [] I ?_
  refine RK O<|aB<|Q1 hQ U U U ?_
  exact cI (if_pos (wb A om om)).symm
 refine WK M<|al fun _ F=>aF<|WS fun _ N=>?_
 obtain ⟨x,hx⟩:=aQ ts i om
 have A4:=cG ao.cells hx
 refine rS (IA i U (aS 1 U) Cm dc om om) ?_
 have A8:=hside x (aN hx)
 refine rS (r_ i 0 (ao.cells x) U cz (aS 1 U) A4 U dc U U)<|AL U Ir fun A5=>fw U KF U<|RK N ?_
 refine pG (ι:=Unit) [1,3,4,6,16,17,18] [0,1,2] U U (fun z=>[(7,(vB (decide (x.jy=0∧x.eB.Lo=0∧x.eB.Hi=0))))]) (fun z=>[]) (fun _=>rfl) (fun _=>rfl) ?_ fun K20 G=>?_
 ·intro _
  try dsimp only
  refine pG (ι:=Unit) [1,3,4,6,7,16,17,18] [0,1,2] U U (fun z=>[(8,(vB (decide ((1≤x.jy∧x.jy≤2)∧x.eB.Lo≤x.eB.Hi∧500≤x.eB.Lo∧x.eB.Hi≤20000))))]) (fun z=>[]) (fun _=>rfl) (fun _=>rfl) ?_ fun K21 H=>?_
  ·intro _
   try dsimp only
   refine al fun _ AB=>WS fun _ C=>rP 4 [] (mc 0 U I) ?_
   refine ck (xs:=[.tmp 44]) (cs:=[(vI x.Id)]) U b0 gI U U U U (by simp [Value.cells]) U U fun h=>?_
   refine rS (CL (dQ.eq (ml ((gE ts i)+1) 9999 ([x.Id]) (some ⟨h,0,none⟩) 1 (by (simp; done))) bZ) (ae (aP 0 U U (by simp [aW]) U)<|aC) U) ?_
   refine rP 2 [] I ?_
   refine eH (t:=48) U (bL fun o=>?_) (bM fun o=>?_)
   ·refine a_ 26 U<|RK C<|aX U<|WS fun _ P=>a_ 1 U<|RK P<|bq<|ah<|fT U<|ah<|ah<|aD<|KK B<|WS fun _ R=>rP 2 [] I ?_
    refine RK R<|aB<|Q1 hQ U U U ?_
    exact cI (if_neg (by rw [kP A hx (by simp only [cn,gn]; omega)]; decide)).symm
   refine a_ 1 U<|rS (LP (ab.cells x.l3) 1 U cz U U U)<|rS (CL (rF x.l3 1 30000) (aC) U)<|rP 3 [] I ?_
   refine eH (t:=54) U (bL fun p=>?_) (bM fun p=>?_)
   ·refine a_ 20 U<|RK C<|aX U<|WS fun _ S=>a_ 1 U<|RK S<|bq<|ah<|fT U<|ah<|ah<|aD<|KK B<|WS fun _ T=>rP 2 [] I ?_
    refine RK T<|aB<|Q1 hQ U U U ?_
    exact cI (if_neg (by rw [kP A hx (by simp only [cn,gn]; omega)]; decide)).symm
   refine a_ 1 U<|rS (LP (ab.cells x.nJ) 1 U cz U U U)<|rS (CL (rF x.nJ 0 5000) (aC) U)<|rP 3 [] I ?_
   refine eH (t:=60) U (bL fun q=>?_) (bM fun q=>?_)
   ·refine a_ 14 U<|RK C<|aX U<|WS fun _ AA=>a_ 1 U<|RK AA<|bq<|ah<|fT U<|ah<|ah<|aD<|KK B<|WS fun _ V=>rP 2 [] I ?_
    refine RK V<|aB<|Q1 hQ U U U ?_
    exact cI (if_neg (by rw [kP A hx (by simp only [cn,gn]; omega)]; decide)).symm
   refine rP 2 [] (mc 1 U I) ?_
   refine ck (xs:=[.tmp 62]) (cs:=[(vI x.CY)]) U b0 gI U U U U (by simp [Value.cells]) U U fun j=>?_
   refine rS (CL (dQ.eq (ml 0 5000 ([x.CY]) (some ⟨j,0,none⟩) 1 (by (simp; done))) bZ) (ae (aP 0 U U (by simp [aW]) U)<|aC) U) ?_
   refine rP 3 [] I ?_
   refine eH (t:=67) U (bL fun r=>?_) (bM fun r=>?_)
   ·refine a_ 7 U<|RK C<|aX U<|WS fun _ W=>a_ 1 U<|RK W<|bq<|ah<|fT U<|ah<|ah<|aD<|KK B<|WS fun _ X=>rP 2 [] I ?_
    refine RK X<|aB<|Q1 hQ U U U ?_
    exact cI (if_neg (by rw [kP A hx (by simp only [cn,gn]; omega)]; decide)).symm
   refine rP 3 [] I ?_
   refine bH (t:=70) U (bM fun s=>?_) (bL fun s=>?_)
   ·refine a_ 4 U<|RK C<|aM U<|WK AB<|au<|hE 3 [] (mc 2 U I) U<|aG<|aH<|KK F<|au<|rP 2 [] I ?_
    refine aG ?_
    have f:(vI (gE ts (i+1)))=(vI x.Id):=by rw [ib hx]
    refine bc (E ⟨(i+1),⟨om,nB A hx (by simp only [cn,gn]; omega),by rw [ib hx]; omega,by rw [ib hx]; omega⟩⟩ _ _ _ U os (du 4<|bO U f<|aT U) (aJ [3,4]))
   refine rP 4 [] I ?_
   refine RK C<|cu U (bM fun u=>?_) (bL fun u=>?_)
   ·refine WK AB<|au<|hE 3 [] (mc 2 U I) U<|aG<|aH<|KK F<|au<|rP 2 [] I ?_
    refine aG ?_
    have e:(vI (gE ts (i+1)))=(vI x.Id):=by rw [ib hx]
    refine bc (E ⟨(i+1),⟨om,nB A hx (by simp only [cn,gn]; omega),by rw [ib hx]; omega,by rw [ib hx]; omega⟩⟩ _ _ _ U os (du 4<|bO U e<|aT U) (aJ [3,4]))
   refine WS fun _ Y=>a_ 1 U<|RK Y<|bq<|ah<|fT U<|ah<|ah<|aD<|KK B<|WS fun _ Z=>rP 2 [] I ?_
   refine RK Z<|aB<|Q1 hQ U U U ?_
   exact cI (if_neg (by rw [kP A hx (by simp only [cn,gn]; omega)]; decide)).symm
  refine au<|rP 2 [] (mc 0 U I) ?_
  refine rS (SX (rC (m:=x.jy) U U MY nO (qS (by first|assumption|omega))) U U)<|ck (xs:=[.tmp 33]) (cs:=[(vI x.jy)]) U b0 gI U U U U (by simp [Value.cells]) U U fun g=>?_
  refine rS (CL (dQ.eq (ml 1 2 ([x.jy]) (some ⟨g,0,none⟩) 1 (by (simp; done))) bZ) (ae (aP 0 U U (by simp [aW]) U)<|aC) U) ?_
  refine rP 1 [] I ?_
  refine bH (t:=36) U (aZ fun n=>?_) (aY fun n=>?_)
  ·refine rP 5 [] I ?_
   refine aG ?_
   have d:(decide ((1≤x.jy∧x.jy≤2)∧x.eB.Lo≤x.eB.Hi∧500≤x.eB.Lo∧x.eB.Hi≤20000))=false:=df om
   refine bc (jB (du 8<|kJ U d<|ew.nil _) (aJ [1,2,3]) (H ()))
  refine a_ 1 U<|rS (LP (ab.cells x.eB) 1 U cz U U U)<|rS (CL (rF x.eB 500 20000) (aC) U)<|rP 2 [] I ?_
  refine aG ?_
  have c:(decide ((1≤x.jy∧x.jy≤2)∧x.eB.Lo≤x.eB.Hi∧500≤x.eB.Lo∧x.eB.Hi≤20000))=(decide (x.eB.Lo≤x.eB.Hi∧500≤x.eB.Lo∧x.eB.Hi≤20000)):=decide_eq_decide.2 om
  refine bc (jB (du 8<|kJ U c<|ew.nil _) (aJ [1,2,3]) (H ()))
 refine au<|hE 2 [] (mc 0 U I) U<|rS (BI U oy)<|rP 1 [] I ?_
 refine bH (t:=25) U (aZ fun l=>?_) (aY fun l=>?_)
 ·refine rP 6 [] I ?_
  refine aG ?_
  have b:(decide (x.jy=0∧x.eB.Lo=0∧x.eB.Hi=0))=false:=df om
  refine bc (jB (du 7<|kJ U b<|ew.nil _) (aJ [0,1,2]) (G ()))
 refine a_ 1 U<|rS (LP (ab.cells x.eB) 0 U cz U U U)<|rS (SX (bh (xs:=[]) (cs:=(ab.cells (ab.mk 0 0))) U U (bg jt U)) U U)<|rS (BI U (r6 _ _ x.eB (ab.mk 0 0)))<|rP 2 [] I ?_
 refine aG ?_
 have a:(decide (x.jy=0∧x.eB.Lo=0∧x.eB.Hi=0))=(decide (x.eB=(ab.mk 0 0))):=decide_eq_decide.2 (by (simp only [ab.ext_iff] at *; omega))
 refine bc (jB (du 7<|kJ U a<|ew.nil _) (aJ [0,1,2]) (G ()))
end
section
open Go.RowKit
theorem EE (n lo hi:Int) (g1 g2:Nat):
 dQ Tryz.prog 64 [(vI n),(vP g1),(vP g2)] [(bJ g1 3 [(vI lo)]),(bJ g2 3 [(vI hi)])] (vB (decide (n<lo∨hi<n))):=by
 refine bx kr Tryz.func64 U U fun D Q hQ hN=>?_
 try dsimp only
 refine WS fun _ B=>a_ 1 U<|RK B<|WS fun _ A=>rP 4 [] (mr 0 U I) ?_
 refine eH (t:=8) U (aY fun C=>?_) (aZ fun C=>?_)
 ·refine rP 5 [] I ?_
  refine RK A<|aB<|Q1 hQ U U U ?_
  exact cB (g6 om).symm
 refine rP 5 [] (mr 1 U I) ?_
 refine RK A<|aB<|Q1 hQ U U U ?_
 exact cB (decide_eq_decide.2 om)
theorem il (lo hi:Int) (l:List Int) (lA:OA) (lC:Nat) (hlen:l.length≤1000000):
 dQ Tryz.prog 37 [(vI lo),(vI hi),(vS lA l.length lC)] [(rd lA l.length 1 (l.map iC))] (vB (mP lo hi l)):=by
 refine bx kr Tryz.func37 U U fun F Q hQ hN=>?_
 try dsimp only
 refine WS fun _ D=>qo U U fun A=>qo U U fun B=>a_ 1 U<|RK D<|WS fun _ E=>rP 1 [] I ?_
 refine rS (FU U) ?_
 refine rS (CL (oI l lA lC (Value.func (.func 64) [].toArray [(vP A),(vP B)].toArray) (fun C=>(decide (C<lo∨hi<C))) (eR [(bJ A 3 [(vI lo)]),(bJ B 3 [(vI hi)])]) (by intro C _; exact kK (fi:=[]) (ca:=[(vP A),(vP B)]) (jP (EE C lo hi A B) (bj [0,1]))) hlen) (cY 2 U U<|ae (jO (bj [1,0]))<|aC) U) ?_
 refine rP 2 [] I ?_
 refine RK E<|aB ?_
 exact Q1 hQ U U U U
theorem AE (s:ab):
 dQ Tryz.prog 65 [(vA (ab.cells s))] [] (vB (decide (hO s))):=by
 refine bx kr Tryz.func65 U U fun F Q hQ hN=>?_
 try dsimp only
 refine WS fun _ B=>g5 U fun E=>a_ 1 U<|RK B<|WS fun _ A=>rP 4 [] (mc 0 U I) ?_
 refine ck (xs:=[.tmp 4,.tmp 6]) (cs:=[(vI s.Lo),(vI s.Hi)]) U b0 gI U U U U (by simp [Value.cells]) U U fun C=>?_
 refine rS (CL (dQ.eq (il 1 600000 ([s.Lo,s.Hi]) (some ⟨C,0,none⟩) 2 (by (simp; done))) nS) (ae (aP 0 U U (by simp [aW]) U)<|aC) U) ?_
 refine rP 1 [] I ?_
 refine bH (t:=9) U (aZ fun D=>?_) (aY fun D=>?_)
 ·refine rP 7 [] I ?_
  refine RK A<|aB<|Q1 hQ U U U ?_
  simp only [hO]
  exact cB (df om).symm
 refine rP 7 [] (mc 1 U I) ?_
 refine RK A<|aB<|Q1 hQ U U U ?_
 simp only [hO]
 exact cB (decide_eq_decide.2 om)
theorem F6 (d:av) (sgA:OA) (sgC:Nat):
 dQ Tryz.prog 198 [(vA (aV.cells (aV.mk d.Out d.eK d.Time (np d.cH sgA sgC))))] [(rd sgA d.cH.ay.length 2 (d.cH.ay.map aK.cells))] (vB (decide (mm d.cH))):=by
 refine bx kr Tryz.func198 U U fun F Q hQ hN=>?_
 try dsimp only
 refine WS fun _ B=>g5 U fun E=>a_ 1 U<|RK B<|WS fun _ A=>rP 5 [] (mc 0 U I) ?_
 refine bH (t:=7) U (aZ fun C=>?_) (aY fun C=>?_)
 ·refine rP 13 [] I ?_
  refine RK A<|aB<|Q1 hQ U U U ?_
  simp only [mm]
  exact cB (df om).symm
 refine rP 6 [] (mc 0 U I) ?_
 refine bH (t:=13) U (aZ fun D=>?_) (aY fun D=>?_)
 ·refine rP 7 [] I ?_
  refine RK A<|aB<|Q1 hQ U U U ?_
  simp only [mm]
  exact cB (df om).symm
 refine rP 7 [] (mc 0 U I) ?_
 refine RK A<|aB<|Q1 hQ U U U ?_
 simp only [mm]
 exact cB (decide_eq_decide.2 om)
theorem Mh (d:av) (sgA:OA) (sgC:Nat):
 dQ Tryz.prog 196 [(vA (aV.cells (aV.mk d.Out d.eK d.Time (np d.cH sgA sgC))))] [(rd sgA d.cH.ay.length 2 (d.cH.ay.map aK.cells))] (vB d.Out):=by
 refine bx kr Tryz.func196 U U fun D Q hQ hN=>?_
 try dsimp only
 refine WS fun _ A=>g5 U fun C=>a_ 1 U<|RK A<|WS fun _ B=>rP 3 [] (mc 0 U I) ?_
 refine RK B<|aB<|Q1 hQ U U U ?_
 rfl
theorem KG (d:av) (sgA:OA) (sgC:Nat):
 dQ Tryz.prog 199 [(vA (aV.cells (aV.mk d.Out d.eK d.Time (np d.cH sgA sgC))))] [(rd sgA d.cH.ay.length 2 (d.cH.ay.map aK.cells))] (vB d.eK):=by
 refine bx kr Tryz.func199 U U fun D Q hQ hN=>?_
 try dsimp only
 refine WS fun _ A=>g5 U fun C=>a_ 1 U<|RK A<|WS fun _ B=>rP 3 [] (mc 0 U I) ?_
 refine RK B<|aB<|Q1 hQ U U U ?_
 rfl
theorem Lx (d:av) (sgA:OA) (sgC:Nat):
 dQ Tryz.prog 201 [(vA (aV.cells (aV.mk d.Out d.eK d.Time (np d.cH sgA sgC))))] [(rd sgA d.cH.ay.length 2 (d.cH.ay.map aK.cells))] (vB true):=by
 refine bx kr Tryz.func201 U U fun D Q hQ hN=>?_
 try dsimp only
 refine WS fun _ A=>g5 U fun C=>a_ 1 U<|RK A<|WS fun _ B=>rP 1 [] I ?_
 refine RK B<|aB<|Q1 hQ U U U ?_
 rfl
end
section
open Go.RowKit
theorem vL (r:bQ) (kA:OA) (kC:Nat) (az:List RA) (cA:OA) (cC:Nat) (bA:OA) (bC:Nat) (slA:OA) (slC:Nat) (drA:OA) (drC:Nat) (ha:List cb) (heA:OA) (heC:Nat) (tz:List RA) (tA:OA) (tC:Nat) (ms:Value) (gw:Nat) (l:List Int) (lA:OA) (lC:Nat) (hin:dG r az ha) (hlen:l.length≤1000000):
 dQ Tryz.prog 38 [(vP gw),(vS lA l.length lC)] [(rd kA r.ai.aO.length 9 (r.ai.aO.map ao.cells)),(rd cA r.ai.ak.length 2 (List.zipWith aA.cells r.ai.ak az)),(eR (aR aA.jx r.ai.ak az)),(rd bA r.ai.ag.length 4 (r.ai.ag.map bG.cells)),(rd slA r.aI.length 1 (r.aI.map iC)),(rd drA r.bu.length 1 (r.bu.map iC)),(rd heA r.aq.length 1 (List.zipWith cm r.aq ha)),(eR (aR ja r.aq ha)),(rd tA ((cr r).length) 1 (List.zipWith BV (cr r) tz)),(eR (aR Gl (cr r) tz)),(bJ gw 91 (eu.cells (eu.mk (nM r kA kC cA cC bA bC slA slC drA drC heA heC) (ba.mk tA ((cr r).length) tC) ms))),(rd lA l.length 1 (l.map iC))] (vB (mP 0 ((r.aI.length:Int)-1) l)):=by
 have C:=hin.line
 have G:=hin.g9
 have H:=hin.has
 have E:=hin.gT
 have D:=hin.draw
 have F:=dy (r:=r)
 refine bx kr Tryz.func38 U U fun AA Q hQ hN=>?_
 try dsimp only
 refine WS fun _ A=>a_ 1 U<|RK A<|WS fun _ B=>a_ 1 U<|rS (SX (bk U U) U U)<|hE 6 [] (mr 10 U I) U<|rS (CL (il 0 ((r.aI.length:Int)-1) l lA lC hlen) (bj [11]) U)<|rP 1 [] I ?_
 refine RK B<|aB ?_
 exact Q1 hQ U U U U
theorem rR (a b:Bool):
 dQ Tryz.prog 39 [(vB a),(vB b)] [] (Value.int .u8 (if a=true then 2 else if b=true then 1 else 0)):=by
 refine bx kr Tryz.func39 U U fun J Q hQ hN=>?_
 try dsimp only
 refine WS fun _ C=>a_ 1 U<|RK C<|al fun _ D=>aF<|WS fun _ E=>rP 2 [] I ?_
 refine RK E<|dF U (fun A=>?_) (fun A=>?_)
 ·refine WS fun _ F=>rP 1 [] I ?_
  refine RK F<|aB<|Q1 hQ U U U ?_
  rw [if_pos A]
 refine WS fun _ G=>rP 2 [] I ?_
 refine RK G<|dF U (fun B=>?_) (fun B=>?_)
 ·refine WS fun _ H=>rP 1 [] I ?_
  refine RK H<|aB<|Q1 hQ U U U ?_
  (rw [if_neg (by rw [A]; decide),if_pos B])
 refine cJ<|aH<|KK D<|WS fun _ AA=>rP 1 [] I ?_
 refine RK AA<|aB<|Q1 hQ U U U ?_
 (rw [if_neg (by rw [A]; decide),if_neg (by rw [B]; decide)])
end
section
open Go.RowKit
theorem Jf {P:Program} {t:TypeId} {x y:Operand} {k e:TypeId} {p:Option Nat} (h:P.underlying t=some (.map k e)):fM P .eql t x y (.map p) (.map none) (.bool p.isNone):=fun w=>by
 have A:(Op.equal t (.map p) (.map none)).run P w= .ok p.isNone w:=by
  unfold Op.equal
  show (Op.equalIn (9999+1) t (.map p) (.map none)).run P w=_
  unfold Op.equalIn
  cases p<;>simp [run_underlying h]
 have B:eqGuard .eql t x y (.map p) (.map none)=pure ():=rfl
 rw [B]
 show (Sem.run P (do let b ← Op.equal t (.map p) (.map none); pure (vB b)) w)=_
 simp [A]
theorem zJ {P:Program} {r:Nat} {es:Array MapEntry} {clock:Nat} {w:World} (t:TypeId) (hb:w.heap[r]? =some (.map es clock)):
 (Extern.MapsClone.clone #[.iface t (.map (some r))]).run P w= .ok (.iface t (.map (some w.heap.size))) (w.alloc (.map es clock)):=by
 have e:Extern.MapsClone.clone #[.iface t (.map (some r))]=(getObj r >>= fun o=>match o with
  | .map entries clock=>(newObj (.map entries clock) >>= fun n=>pure (.iface t (.map (some n))))
  |_=>stuck "maps.clone: a map expected"):=rfl
 rw [e]
 simp [MapKept.run_getObj_map hb,Result.andThen,go_sem]
theorem w8 {P:Program} {xt t k e:TypeId} {v:Value} {w:World} (h:P.underlying t=some (.map k e)):(Instr.typeAssert (.iface t v) xt t false).run P w= .ok v w:=by
 simp [Instr.typeAssert,run_underlying h,go_sem,Result.andThen]
theorem lH {C:List aj} {g t:Nat} {cs:List Value} {n sz:Nat} {es:List (List Value)} (i:Nat) (hC:C[i]? =some (bJ g t cs).ro) (h1:es.length=n) (h2: ∀ e∈es,e.length=sz) (h3:es.flatten=cs):jf C (rd (some ⟨g,0,none⟩) n sz es).holds:=fun w hw=>
 qD (show (bJ g t cs).holds w from hw (bJ g t cs).ro (aN hC)) h1 h2 ⟨[],by simp [h3]⟩
section
variable {E:dM} {ops:Array Oper} {Q:cd} {rest:List Oper} {D:List Deferred} {L:List (Nat×Value)} {C:List aj}
variable {dst:Option Nat} {d:Nat} {ty:TypeId} {ps:String} {af:Array Edge} {g:Option (Nat×Bool)}
theorem Es {P:Program} {t k e:TypeId} {v:Value} {w:World} (h:P.underlying t=some (.map k e)):(Instr.makeInterface t v).run P w= .ok (.iface t v) w:=by
 simp [Instr.makeInterface,run_underlying h,Result.andThen]
theorem H5 {t k e:TypeId} {x:Operand} {v:Value} (hg:gX ops L g=true) (hx:ev L x=some v) (ht:E.P.underlying t=some (.map k e)):SD E ops ⟨dst,.makeInterface t x,ty,ps,af,g⟩ D L C (.iface t v):=
 cM hg sm fun a w hf _=>by
  have e:=hf.ev hx
  simp only [execOp,e]
  rw [Sem.run_bind,Es ht]
  simp
theorem Lq {xt t kt et:TypeId} {x:Operand} {v:Value} (hg:gX ops L g=true) (hx:ev L x=some (.iface t v)) (ht:E.P.underlying t=some (.map kt et)):SD E ops ⟨dst,.typeAssert x xt t false,ty,ps,af,g⟩ D L C v:=
 cM hg sm fun a w hf _=>by
  have e:=hf.ev hx
  simp only [execOp,e]
  rw [Sem.run_bind,w8 ht]
  simp
theorem C_ {K:Type} [DecidableEq K] {kV:K→Value} {x:Operand} {ts:Array TypeId} {f:FuncId} {fn:Func} {t b:Nat} {m:List (K×Value)} (hg:gX ops L g=true) (hx:ev L x=some (.iface t (.map (some b)))) (hf:E.P.funcs[f]? =some fn) (hname:(fn.name=="runtime.NumGoroutine")=false)
 (hb:fn.body.isNone=true) (hn:Extern.findNext fn=none) (he:Extern.find fn=some Extern.MapsClone.clone) (hC:jf C (fJ kV b m).holds) (hd:Nat.blt d E.n=true) (k: ∀ b',RJ E ops Q rest D ((d,.iface t (.map (some b')))::L) (fJ kV b' m::C)):
 RJ E ops Q (⟨some d,.call {callee:= .value (.func f),args:= #[x],argTypes:=ts},ty,ps,af,g⟩::rest) D L C:=by
 intro a w B hs
 have hd':d<E.n:=by rw [← Nat.blt_eq]; exact hd
 obtain ⟨es,c,F,hi⟩:=hC w hs.holds
 unfold oj
 rw [if_pos (cV B hg)]
 refine fc (v:= .iface t (.map (some w.heap.size))) (w':=w.alloc (.map es c)) sm ?_ ?_
 ·have e:=B.ev hx
  have G:a.eval (.func f)= .func (.func f) #[] #[]:=rfl
  simp [execOp,resolve,e,G,Deferred.ofValue,invoke,run_callFunc_extern hf hname hb hn he,zJ t F]
 ·refine k _ _ _ (B.put hd' _) (hs.grow (cU.alloc no w _) (N:=[fJ kV w.heap.size m]) ⟨fun A hA=>?_,fun A hA b hb=>?_,List.pairwise_singleton _ _⟩)
  ·simp at hA; subst hA; exact ⟨es,c,heap_alloc_new w _,hi⟩
  ·simp at hA; subst hA; exact Nat.le_of_eq (Eq.symm hb)
end
end
section
open Go.RowKit
theorem sW (lA:OA) (lN lC:Nat):
 kd Tryz.prog 60 [(vS lA lN lC)] [] (fun (x:Nat)=>(Value.func (.func 81) [].toArray [(vP x)].toArray)) (fun (x:Nat)=>True) (fun (x:Nat)=>[(bJ x 32 [(vS lA lN lC)])]):=by
 refine cS kr Tryz.func60 U U fun D Q hQ hN=>?_
 try dsimp only
 refine WS fun _ A=>qo U U fun C=>a_ 1 U<|RK A<|WS fun _ B=>rS (FU U)<|rP 1 [] I ?_
 refine RK B<|aB<|LX hQ C [0] [] I U U U U ?_
 trivial
theorem F0 (nl:List Int) (nlA:OA) (nlC g1:Nat) (hlen:nl.length≤12):
 HK Tryz.prog 81 [] [(vP g1)] [(rd nlA nl.length 1 (nl.map iC)),(bJ g1 32 [(vS nlA nl.length nlC)])] (nD nl):=by
 refine AM kr Tryz.func81 U U fun l J Z A0 T Q hY K AB hQ hN=>?_
 try dsimp only
 refine WS fun _ M=>rP 3 [] (mr 2 U I) ?_
 refine RK M<|aF ?_
 have F:(0≤nl.length)∧(J 0 A0)∧(Fo A0 T A0):=by exact ⟨Nat.zero_le _,K,AB⟩
 refine bX (ι:={z:Nat×aj // (z.1≤nl.length)∧(J z.1 z.2)∧(Fo A0 T z.2)}) [0,1,5,6] [1] U U (fun z=>[(7,(vI (z.1.1:Int)))]) (fun z=>[z.1.2]) (fun _=>rfl) (fun _=>rfl) (fun z=>nl.length-z.1.1) ⟨(0,A0),F⟩ (aT U) (aJ [1,0]) ?_
 clear F
 rintro ⟨⟨i,A⟩,⟨G,B,C⟩⟩ J2 L
 try dsimp only at G B C
 try dsimp only
 refine WS fun _ N=>rP 1 [] I ?_
 refine RK N<|al fun _ O=>cu U (aZ fun AA=>?_) (aY fun AA=>?_)
 ·refine bq<|ah<|ah<|aD ?_
  refine hN _ _ _ (fr (vs:=[]) trivial fun w hs=>Lz 1 U (by rw [pL]; have e:nl.length=i:=om; rw [e]; exact B) C hs)
 refine WK O<|al fun _ P=>aF<|WS fun _ R=>?_
 obtain ⟨x,hx⟩:=aQ nl i om
 have S:=cG iC hx
 refine rS (IA i U (aS 0 U) b0 dc om om)<|rS (g4 i 0 (vI x) U cz (aS 0 U) S U dc U)<|a_ 1 U<|RK R<|WS fun _ H=>rP 2 [] I ?_
 refine Ai 1 hY B C U U U (AV hx) U U (fun B9 E D=>?_) (fun B9 E D=>?_)
 rotate_left 1
 ·refine rP 1 [] I ?_
  refine RK H<|aX U<|aB ?_
  refine hQ _ _ _ (fr (vs:=[]) trivial fun w hs=>IQ 1 U E D hs)
 refine a_ 1 U<|RK H<|aM U<|cJ<|aH<|KK P<|au<|rP 2 [] I ?_
 refine aG ?_
 refine bc (L ⟨((i+1),B9),⟨om,E,D⟩⟩ _ _ _ U os (aT U) (aJ [0,1]))
end
section
open Go.RowKit
theorem HI (x:Int):
 dQ Tryz.prog 134 [(vI x)] [] (vB false):=by
 refine bx kr Tryz.func134 U U fun C Q hQ hN=>?_
 try dsimp only
 refine WS fun _ A=>a_ 1 U<|RK A<|WS fun _ B=>rP 4 [] I ?_
 refine RK B<|aB<|Q1 hQ U U U ?_
 simp
theorem Ig (x y:Int):
 dQ Tryz.prog 105 [(vI x),(vI y)] [] (vB (decide (x<y))):=by
 refine bx kr Tryz.func105 U U fun C Q hQ hN=>?_
 try dsimp only
 refine WS fun _ A=>a_ 1 U<|RK A<|WS fun _ B=>a_ 1 U<|rS (CL (HI x) (aC) U)<|rP 11 [] I ?_
 refine RK B<|aB<|Q1 hQ U U U ?_
 exact cB (decide_eq_decide.2 om)
theorem BT (l:List Int) (lA:OA) (lC:Nat) (hlen:l.length≤1000000):
 Bh Tryz.prog 99 [(vS lA l.length lC),(vI 0),(vI (l.length:Int))] [] (own lA lC 3 1 (l.map iC)) (fun (x:(List Int))=>(vT [])) (fun (x:(List Int))=>x.Perm l∧x.Pairwise (· ≤ ·)) (fun (x:(List Int))=>(own lA lC 3 1 (x.map iC))):=by
 refine kv kr Tryz.func99 U U fun g Q hQ hN=>?_
 try dsimp only
 refine WS fun _ X=>a_ 1 U<|rS (SX (bw (r:= .int .i64 1) U U U (fG ⟨dc,dc⟩)) U U)<|rP 1 [] I ?_
 refine RK X<|aF ?_
 have A:(1≤1∧(1≤l.length∨1=1))∧(l.length=l.length)∧(l.Perm l)∧(IZ l 1):=by exact ⟨om,rfl,List.Perm.refl _,HS⟩
 refine bX (ι:={z:Nat×(List Int) // (1≤z.1∧(z.1≤l.length∨z.1=1))∧(z.2.length=l.length)∧(z.2.Perm l)∧(IZ z.2 z.1)}) [0,1,2] [] U U (fun z=>[(6,(vI (z.1.1:Int)))]) (fun z=>[(own lA lC 3 1 (z.1.2.map iC))]) (fun _=>rfl) (fun _=>rfl) (fun z=>l.length-z.1.1) ⟨(1,l),A⟩ (aT U) (aJ [0]) ?_
 clear A
 rintro ⟨⟨i,m⟩,⟨K,AB,E,F⟩⟩ J2 M
 try dsimp only at K AB E F
 try dsimp only
 refine al fun _ Y=>WS fun _ Z=>rP 3 [] I ?_
 refine RK Z<|cu U (aZ fun e=>?_) (aY fun e=>?_)
 ·refine bq<|ah<|ah<|aD<|LM hN m 0 [] I U U U U ?_
  exact ⟨E,Gv F om⟩
 refine WK Y<|al fun _ O=>aF<|WS fun _ b=>rP 2 [] I ?_
 refine RK b<|aF ?_
 have A:(i≤i)∧(m.length=l.length)∧(m.Perm l)∧(JE m i i):=by exact ⟨Nat.le_refl _,AB,E,CC F om⟩
 refine bX (ι:={z:Nat×(List Int) // (z.1≤i)∧(z.2.length=l.length)∧(z.2.Perm l)∧(JE z.2 i z.1)}) [0,1,2,6] [] U U (fun z=>[(7,(vI (z.1.1:Int)))]) (fun z=>[(own lA lC 3 1 (z.1.2.map iC))]) (fun _=>rfl) (fun _=>rfl) (fun z=>z.1.1) ⟨(i,m),A⟩ (aT U) (aJ [0]) ?_
 clear A
 rintro ⟨⟨j,q⟩,⟨G,B,C,D⟩⟩ J8 W
 try dsimp only at G B C D
 try dsimp only
 refine al fun _ c=>al fun _ J=>dR cE 15 kr<|dP 4 [] I ?_
 refine j8 (t:=19) U (aZ fun hj=>?_) (aY fun hj=>?_)
 ·refine rH 11 U<|dJ<|RK J<|aM U<|bq<|ah<|ah<|aD<|aH<|KK O<|au<|rP 3 [] I ?_
  refine aG ?_
  refine bc (M ⟨((i+1),q),⟨om,B,C,by exact DA om D⟩⟩ _ _ _ U (by simp only []; omega) (aT U) (aJ [0]))
 refine dP 2 [] I ?_
 obtain ⟨x,hx⟩:=aQ q j om
 have L:=cG iC hx
 refine dS (IA j U (aa (n:=l.length) 0 U sq) b0 dc om om) ?_
 refine dS (g4 j 0 (vI x) U cz (aa (n:=q.length) 0 U sm) L U dc U)<|dP 3 [] I ?_
 obtain ⟨y,hy⟩:=aQ q (j-1) om
 have V:=cG iC hy
 refine dS (IA (j-1) U (aa (n:=l.length) 0 U sq) b0 dc om om) ?_
 refine dS (g4 (j-1) 0 (vI y) U cz (aa (n:=q.length) 0 U sm) V U dc U)<|dS (CL (Ig x y) (aC) U)<|dP 1 [] I ?_
 refine dJ<|RK J<|cu U (aZ fun H=>?_) (aY fun H=>?_)
 ·refine bq<|ah<|ah<|aD<|aH<|KK O<|au<|rP 3 [] I ?_
  refine aG ?_
  refine bc (M ⟨((i+1),q),⟨om,B,C,by exact Dv hx hy om G H D⟩⟩ _ _ _ U (by simp only []; omega) (aT U) (aJ [0]))
 refine WK c<|al fun _ N=>aF<|ek cE [15,16,17] [8,9,12,13,14] [] [] [0] U U U U U<|eS U (MV U)<|eS U (MV U)<|eS U (MV U)<|eS U (MV U)<|eS U (BI U (pJ ⟨om,om⟩))<|eS U (MV U)<|eS U (MV U)<|eS U (BI U (pJ ⟨om,om⟩)) ?_
 refine fS U (IA (j-1) U (aa (n:=l.length) 0 U sq) b0 dc om om) ?_
 refine fS U (g4 (j-1) 0 (vI y) U cz (aa (n:=q.length) 0 U sm) V U dc U)<|eS U (MV U)<|eS U (MV U) ?_
 refine fS U (IA j U (aa (n:=l.length) 0 U sq) b0 dc om om) ?_
 refine fS U (g4 j 0 (vI x) U cz (aa (n:=q.length) 0 U sm) L U dc U) ?_
 refine fS U (IA j U (aa (n:=l.length) 0 U sq) b0 dc om om) ?_
 refine e7 U<|cf U fun T12 P=>dk (k:=j) (o:=0) (vs:=[(vI y)]) (es':=(List.map iC (q.set j y))) (C':=[(own lA lC 3 1 (List.map iC (q.set j y)))]) 0 U U U xg U U U U L U dc (by exact (List.map_set (f:=iC) (l:=q) (i:=j) (a:=y)).symm) U<|aG (P _ _ (aJ []) ?_)
 refine cf U fun T13 R=>?_
 obtain ⟨d,AA⟩:=aQ (q.set j y) (j-1) os
 have hx15m:(List.map iC (q.set j y))[(j-1)]? =some (iC d):=by rw [eW,AA]; rfl
 refine rS (IA (j-1) U (aa (n:=l.length) 0 U sq) b0 dc om om) ?_
 refine aG (R _ _ (aJ []) ?_)
 refine cf U fun T16 S=>dk (k:=(j-1)) (o:=0) (vs:=[(vI x)]) (es':=(List.map iC ((q.set j y).set (j-1) x))) (C':=[(own lA lC 3 1 (List.map iC ((q.set j y).set (j-1) x)))]) 0 U U U xg U U U U hx15m U dc (by exact (List.map_set (f:=iC) (l:=(q.set j y)) (i:=(j-1)) (a:=x)).symm) U<|aG (S _ _ (aJ []) ?_)
 refine fH U<|aH<|KK N<|au<|rP 3 [] I ?_
 refine aG ?_
 have T:(vI (((j-1):Nat):Int))=(vI ((j:Int)-1)):=by exact cI om
 refine bc (W ⟨((j-1),((q.set j y).set (j-1) x)),⟨om,by simp; exact B,(CQ hx hy).trans C,DD hx hy om G H D⟩⟩ _ _ _ U (by simp only []; omega) (du 4<|bO U T<|ew.nil _) (aJ [0]))
theorem HZ (x:Int) (hx:0≤x∧x≤100):
 kd Tryz.prog 109 [(Value.int .u64 x)] [] (fun (x:Int)=>(vI x)) (fun (x:Int)=>True) (fun (x:Int)=>[]):=by
 refine cS kr Tryz.func109 U U fun N Q hQ hN=>?_
 try dsimp only
 refine WS fun _ D=>a_ 1 U<|RK D<|al fun _ E=>WS fun _ F=>rP 1 [] I ?_
 refine rS (BI U zO)<|RK F<|dF U (aY fun L=>?_) (aZ fun L=>?_)
 ·exfalso; omega
 refine WK E<|al fun _ G=>WS fun _ H=>rP 1 [] I ?_
 refine rS (BI U zO)<|RK H<|dF U (aY fun M=>?_) (aZ fun M=>?_)
 ·exfalso; omega
 refine WK G<|al fun _ AA=>WS fun _ J=>rP 1 [] I ?_
 refine rS (BI U zO)<|RK J<|dF U (aY fun C=>?_) (aZ fun C=>?_)
 ·exfalso; omega
 refine WK AA<|WS fun _ B=>a_ 2 U<|rS (SX (rC (m:=x) U U K2 MY (wo (by first|assumption|omega))) U U)<|I2 (k:=(x).toNat) U U U N8 om (Nat.lt_of_lt_of_le (m:=200) om (of_decide_eq_true kr)) U fun A K=>rS (SX (rC (m:=A) U U MY nO (qS (by first|assumption|omega))) U U)<|rP 2 [] I ?_
 refine RK B<|aB<|LX hQ (0+A) [] [] I U U U U ?_
 trivial
theorem Km (x:Int) (hx:0≤x∧x≤100):
 kd Tryz.prog 75 [(Value.int .u64 x)] [] (fun (x:Int)=>(vI x)) (fun (x:Int)=>True) (fun (x:Int)=>[]):=by
 refine cS kr Tryz.func75 U U fun F Q hQ hN=>?_
 try dsimp only
 refine WS fun _ A=>a_ 1 U<|RK A<|al fun _ B=>aM U<|WK B<|WS fun _ C=>rP 1 [] I ?_
 refine cX (HZ x hx) (aC) U fun E D=>?_
 try dsimp only
 refine rP 1 [] I ?_
 refine RK C<|aB<|LX hQ E [] [] I U U U U ?_
 trivial
theorem Mo (l:List Int) (lA:OA) (lC:Nat) (u:Int) (hlen:l.length≤12):
 Bh Tryz.prog 74 [(vS lA l.length lC),(vI 0),(vI (l.length:Int)),(vI u)] [] (own lA lC 3 1 (l.map iC)) (fun (x:(List Int))=>(vT [])) (fun (x:(List Int))=>x.Perm l∧x.Pairwise (· ≤ ·)) (fun (x:(List Int))=>(own lA lC 3 1 (x.map iC))):=by
 refine kv kr Tryz.func74 U U fun K Q hQ hN=>?_
 try dsimp only
 refine WS fun _ A=>a_ 1 U<|RK A<|WS fun _ B=>a_ 1 U<|RK B<|aF<|ig 1<|de fun R3 AA=>aF<|WS fun _ C=>a_ 4 U<|RK C<|al fun _ H=>WS fun _ D=>rP 2 [] I ?_
 refine RK D<|cu U (aZ fun G=>?_) (aY fun G=>?_)
 ·exfalso; omega
 refine WS fun _ E=>rP 3 [] I ?_
 refine g8 0 U U U U (BT l lA lC om) U jg U (fun J F=>?_)
 try dsimp only
 refine RK E<|aB<|LM hQ J 0 [] I U U U U ?_
 assumption
theorem vO (l:List Int) (lA:OA) (lC:Nat) (hlen:l.length≤12):
 Bh Tryz.prog 51 [(vS lA l.length lC)] [] (own lA lC 3 1 (l.map iC)) (fun (x:(List Int))=>(vT [])) (fun (x:(List Int))=>x.Perm l∧x.Pairwise (· ≤ ·)) (fun (x:(List Int))=>(own lA lC 3 1 (x.map iC))):=by
 refine kv kr Tryz.func51 U U fun F Q hQ hN=>?_
 try dsimp only
 refine WS fun _ A=>a_ 3 U<|RK A<|au<|rP 3 [] I ?_
 refine rS (SX (rC (m:=(l.length:Int)) U U nO L7 (vE (by first|assumption|omega))) U U)<|cX (Km (l.length:Int) om) (aC) U fun E B=>?_
 try dsimp only
 refine g8 0 U U U U (Mo l lA lC E hlen) U jg U (fun D C=>?_)
 try dsimp only
 refine aG<|LM hN D 0 [] I U U U U ?_
 assumption
end
section
open Go.RowKit
theorem El (nl:List Int) (nlA:OA) (nlC g1:Nat) (hlen:nl.length≤12):
 kd Tryz.prog 94 [(vS none 0 0),(Value.func (.func 81) [].toArray [(vP g1)].toArray)] [(rd nlA nl.length 1 (nl.map iC)),(bJ g1 32 [(vS nlA nl.length nlC)])] (fun (x:(OA)×Nat)=>(vS x.1 nl.length x.2)) (fun (x:(OA)×Nat)=>True) (fun (x:(OA)×Nat)=>[(own x.1 x.2 3 1 (nl.map iC))]):=by
 refine cS kr Tryz.func94 U U fun R Q hQ hN=>?_
 try dsimp only
 refine WS fun _ D=>qo U U fun J=>a_ 1 U<|RK D<|al fun _ E=>WS fun _ G=>rP 1 [] I ?_
 refine RK G<|aF<|iG 1 U (by exact fun _ h=>h)<|iG 3 U (by exact fun _ h=>h)<|gl 3 1 ?_
 refine zZ (L0:=[(2,(vP J))]) (F:=[(rd nlA nl.length 1 (nl.map iC)).ro,(bJ g1 32 [(vS nlA nl.length nlC)]).ro]) (xs:=(nD nl)) (fun k (y:(OA)×Nat)=>True) (fun k y=>[(own y.1 y.2 3 1 ((nl.take k).map iC)),(bJ J 32 [(vS y.1 ((nl.take k).length) y.2)]),(rd nlA nl.length 1 (nl.map iC)).ro]) (fun _ (_:Unit)=>False) (fun _ _=>[]) [0,3,4] [2,1] (none,0) U U (F0 nl nlA nlC g1 (by first|assumption|omega|(simp; done))) U U U (by trivial) (by simp only [List.forall_mem_cons,List.not_mem_nil,false_imp_iff,implies_true,and_true]; exact ⟨⟨_,sm,(dT (bI _))⟩,⟨_,sm,(dT (bI _))⟩⟩) (by exact yM) U (aT U) ?_ ?_ (fun _ _ _ h=>h.elim) (fun _ _ h=>h.elim)
 rotate_left 1
 ·rintro O ⟨a,c⟩ AA
  try dsimp only
  rw [tf]
  refine aH<|KK E<|WS fun _ A=>rP 2 [] (mc 4 U I) ?_
  refine RK A<|aB<|hQ _ _ _ (lK 0 U U<|fr (vs:=[(vS a nl.length c)]) ⟨U,trivial⟩ fun w hs=>FB (a,c) [3] ?_ ?_ U U U hs)
  ·rfl
  ·trivial
 rintro k x ⟨a,c⟩ l ra rb S T K5 Qr6 hx K H B L M
 obtain ⟨y,hy,rfl⟩:=Cf hx
 try dsimp only
 refine au<|rP 1 [] I ?_
 refine aG<|bc (H _ _ ?_)
 refine aF<|au<|rP 2 [] (mc 2 U I) ?_
 refine ck (xs:=[.tmp 9]) (cs:=[(vI y)]) U b0 gI U U U U (by simp [Value.cells]) U U fun P=>?_
 refine dL (es2:=(List.map iC (nl.take (k+1)))) (m':=(nl.take (k+1)).length) 2 U U U q8 U U sm (aP (es:=List.map iC [y]) 0 U U (by simp [aW]) U) (ku _) (by simp; omega) (by simp [maxLen]; omega) (by rw [jF hy]; simp) sm U fun N C=>?_
 try dsimp only
 refine Nr U xn U U<|aG<|aH ?_
 exact B (N,C) _ _ (by trivial) (aJ [1,2,3,4])
theorem BN (nl:List Int) (nlA:OA) (nlC g1:Nat) (hlen:nl.length≤12):
 kd Tryz.prog 67 [(Value.func (.func 81) [].toArray [(vP g1)].toArray)] [(rd nlA nl.length 1 (nl.map iC)),(bJ g1 32 [(vS nlA nl.length nlC)])] (fun (x:(OA)×Nat)=>(vS x.1 nl.length x.2)) (fun (x:(OA)×Nat)=>True) (fun (x:(OA)×Nat)=>[(own x.1 x.2 3 1 (nl.map iC))]):=by
 refine cS kr Tryz.func67 U U fun G Q hQ hN=>?_
 try dsimp only
 refine WS fun _ A=>a_ 1 U<|RK A<|WS fun _ B=>rP 1 [] I ?_
 refine cX (El nl nlA nlC g1 hlen) (bj [0,1]) U fun F E=>?_
 obtain ⟨C,D⟩:=F
 try dsimp only
 refine rP 1 [] I ?_
 refine RK B<|aB<|LX hQ (C,D) [0] [] I U U U U ?_
 trivial
theorem rT (nl:List Int) (nlA:OA) (nlC g1:Nat) (hlen:nl.length≤12):
 kd Tryz.prog 41 [(Value.func (.func 81) [].toArray [(vP g1)].toArray)] [(rd nlA nl.length 1 (nl.map iC)),(bJ g1 32 [(vS nlA nl.length nlC)])] (fun (x:(OA)×Nat)=>(vS x.1 nl.length x.2)) (fun (x:(OA)×Nat)=>True) (fun (x:(OA)×Nat)=>[(own x.1 x.2 3 1 ((cp nl).map iC))]):=by
 refine cS kr Tryz.func41 U U fun J Q hQ hN=>?_
 try dsimp only
 refine WS fun _ B=>a_ 1 U<|RK B<|WS fun _ C=>rP 1 [] I ?_
 refine cX (BN nl nlA nlC g1 hlen) (bj [0,1]) U fun AA H=>?_
 obtain ⟨F,G⟩:=AA
 try dsimp only
 refine a_ 1 U<|RK C<|WS fun _ D=>rP 1 [] I ?_
 refine g8 0 U U U U (vO nl F G hlen) U jg U (fun m A=>?_)
 try dsimp only
 refine RK D<|WS fun _ E=>?_
 obtain rfl:=ni A.1 A.2
 skip
 refine rP 2 [] I ?_
 refine RK E<|aB<|LX hQ (F,G) [0] [] I U U U U ?_
 trivial
end
section
open Go.RowKit
theorem Db (n lo hi:Int) (g1 g2:Nat):
 dQ Tryz.prog 140 [(vI n),(vP g1),(vP g2)] [(bJ g1 3 [(vI lo)]),(bJ g2 3 [(vI hi)])] (vB (decide (n<lo∨hi<n))):=by
 refine bx kr Tryz.func140 U U fun D Q hQ hN=>?_
 try dsimp only
 refine WS fun _ B=>a_ 1 U<|RK B<|WS fun _ A=>rP 4 [] (mr 0 U I) ?_
 refine eH (t:=8) U (aY fun C=>?_) (aZ fun C=>?_)
 ·refine rP 5 [] I ?_
  refine RK A<|aB<|Q1 hQ U U U ?_
  exact cB (g6 om).symm
 refine rP 5 [] (mr 1 U I) ?_
 refine RK A<|aB<|Q1 hQ U U U ?_
 exact cB (decide_eq_decide.2 om)
theorem gi (lo hi:Int) (l:List Int) (lA:OA) (lC:Nat) (hlen:l.length≤1000000):
 dQ Tryz.prog 116 [(vI lo),(vI hi),(vS lA l.length lC)] [(rd lA l.length 1 (l.map iC))] (vB (mP lo hi l)):=by
 refine bx kr Tryz.func116 U U fun F Q hQ hN=>?_
 try dsimp only
 refine WS fun _ D=>qo U U fun A=>qo U U fun B=>a_ 1 U<|RK D<|WS fun _ E=>rP 1 [] I ?_
 refine rS (FU U) ?_
 refine rS (CL (oI l lA lC (Value.func (.func 140) [].toArray [(vP A),(vP B)].toArray) (fun C=>(decide (C<lo∨hi<C))) (eR [(bJ A 3 [(vI lo)]),(bJ B 3 [(vI hi)])]) (by intro C _; exact kK (fi:=[]) (ca:=[(vP A),(vP B)]) (jP (Db C lo hi A B) (bj [0,1]))) hlen) (cY 2 U U<|ae (jO (bj [1,0]))<|aC) U) ?_
 refine rP 2 [] I ?_
 refine RK E<|aB ?_
 exact Q1 hQ U U U U
theorem Nv (n d:Int) (hd:2≤d):
 dQ Tryz.prog 142 [(vI n),(vI d)] [] (vI (KW n d)):=by
 refine bx kr Tryz.func142 U U fun C Q hQ hN=>?_
 try dsimp only
 refine WS fun _ A=>a_ 1 U<|RK A<|WS fun _ B=>a_ 2 U<|rS (BI U Jp)<|rS (BI U DK)<|a_ 1 U<|rS (BI U (Ko om (I9 (LL _) hd)))<|rP 1 [] I ?_
 refine RK B<|aB ?_
 exact Q1 hQ U U U U
theorem Ix (n d:Int) (hd:1≤d∧d≤1000000) (hn:0≤n∧n≤1000000000000000):
 dQ Tryz.prog 142 [(vI n),(vI d)] [] (vI (uP n d)):=by
 refine bx kr Tryz.func142 U U fun C Q hQ hN=>?_
 try dsimp only
 refine WS fun _ A=>a_ 1 U<|RK A<|WS fun _ B=>a_ 5 U<|rS (BI U (Aw om om om))<|rP 1 [] I ?_
 refine RK B<|aB ?_
 exact Q1 hQ U U U U
theorem As (c:aA) (sA:OA) (sC:Nat) (at_:Int) (hc:eU c) (ha:0≤at_∧at_≤90000000):
 dQ Tryz.prog 218 [(vA (eD.cells (eD.mk c.eL (ba.mk sA c.br.length sC)))),(vI at_)] [(rd sA c.br.length 3 (c.br.map cP.cells))] (vA (ab.cells (gP c at_))):=by
 have X:=hc.len
 have J:=hc.tp
 refine bx kr Tryz.func218 U U fun e Q hQ hN=>?_
 try dsimp only
 refine WS fun _ M=>g5 U fun b=>AL U dK fun d=>RK M<|WS fun _ N=>rS (SX (bh (xs:=[(0,.const (vI (-1099511627776))),(1,.const (vI 1099511627776))]) (cs:=(ab.cells (ab.mk (-1099511627776) 1099511627776))) U U (bg jt U)) U U)<|AL U dK fun W=>fw U cT U<|RK N<|al fun _ O=>al fun _ P=>?_
 have R:(ab.cells (ab.mk (-1099511627776) 1099511627776))=(ab.cells (eY c at_ 0)):=by rfl
 rw [R]
 refine au<|rP 4 [] (mc 2 U I) ?_
 refine RK P<|aF ?_
 have A:(0≤c.br.length):=by exact Nat.zero_le _
 refine bX (ι:={z:Nat // (z≤c.br.length)}) [1,2,4,5,11,12] [1,2,3] U U (fun z=>[(13,(vI (z.1:Int)))]) (fun z=>[(bJ W 40 (ab.cells (eY c at_ z.1)))]) (fun _=>rfl) (fun _=>rfl) (fun z=>c.br.length-z.1) ⟨0,A⟩ (aT U) (aJ [1,2,3,0]) ?_
 clear A
 rintro ⟨i,S⟩ J9 L
 try dsimp only
 refine WS fun _ B=>rP 1 [] I ?_
 refine RK B<|al fun _ C=>cu U (aZ fun K=>?_) (aY fun K=>?_)
 ·refine bq<|ah<|ah<|aD<|KK O<|WS fun _ G=>rP 1 [] (mc 3 U I) ?_
  refine fw U cT U<|RK G<|aB<|CW hQ [0] (mc 0 U I) U ?_
  rw [mJ (show c.br.length≤i by omega)]
 refine WK C<|al fun _ D=>aF<|WS fun _ E=>?_
 obtain ⟨x,hx⟩:=aQ c.br i om
 have AB:=cG cP.cells hx
 refine rS (IA i U (aS 2 U) ur dc om om)<|rS (r_ i 0 (cP.cells x) U cz (aS 2 U) AB U dc U U)<|AL U AK fun V=>fw U EN U<|RK E<|WS fun _ F=>rP 5 [0,1] (mc 2 U (mc 0 U I)) ?_
 have T:=hc.vj hx
 have Z:=wX hc ha i
 have Y:=AA J ha (show 0≤x.At∧x.At≤90000000 by omega)
 refine hE 5 [] (mc 0 U I) U<|rS (MX U)<|rS (BI U (IC ⟨om,om⟩))<|rS (CL (Ix (c.eL*(max (at_-x.At) (x.At-at_))) 1000000 om om) (aC) U)<|a_ 1 U<|RK F<|au<|rP 6 [0,1] (mc 4 U (mc 0 U I)) ?_
 have a:0≤uP (c.eL*max (at_-x.At) (x.At-at_)) 1000000∧uP (c.eL*max (at_-x.At) (x.At-at_)) 1000000≤90001:=vd J ha T.1
 refine a_ 1 U<|rS (MX U)<|rP 7 [0,1] (mc 4 U (mc 0 U I)) ?_
 refine rS (MN U)<|rS (SX (bh (xs:=[(0,.tmp 37),(1,.tmp 45)]) (cs:=(ab.cells (ab.mk (max ((eY c at_ i).Lo) (x.ff.Lo-(uP (c.eL*(max (at_-x.At) (x.At-at_))) 1000000))) (min ((eY c at_ i).Hi) (x.ff.Hi+(uP (c.eL*(max (at_-x.At) (x.At-at_))) 1000000)))))) U U (bg jt U)) U U)<|Kr U cT U<|aG<|aH<|KK D ?_
 have H:(ab.cells (ab.mk (max ((eY c at_ i).Lo) (x.ff.Lo-(uP (c.eL*(max (at_-x.At) (x.At-at_))) 1000000))) (min ((eY c at_ i).Hi) (x.ff.Hi+(uP (c.eL*(max (at_-x.At) (x.At-at_))) 1000000)))))=(ab.cells (eY c at_ (i+1))):=by rw [jS hx]; rfl
 rw [H]
 refine au<|rP 2 [] I ?_
 refine aG ?_
 have AC:(vI (((i+1):Nat):Int))=(vI ((i:Int)+1)):=by exact cI om
 refine bc (L ⟨(i+1),(by first|omega|(simp only []; omega))⟩ _ _ _ U os (du 6<|bO U AC<|ew.nil _) (aJ [1,2,3,4]))
theorem Jz (c:aA) (sA:OA) (sC:Nat) (hlen:c.br.length≤1000000) (hcap:c.br.length≤sC):
 dQ Tryz.prog 120 [(vA (eD.cells (eD.mk c.eL (ba.mk sA c.br.length sC))))] [(rd sA c.br.length 3 (c.br.map cP.cells))] (vB (decide (eU c))):=by
 refine bx kr Tryz.func120 U U fun w0 Q hQ hN=>?_
 try dsimp only
 refine WS fun _ B3=>g5 U fun b2=>a_ 1 U<|RK B3<|vm U<|al fun _ B7=>WS fun _ q=>rP 2 [] (mc 0 U I) ?_
 refine ck (xs:=[.tmp 11]) (cs:=[(vI c.eL)]) U b0 gI U U U U (by simp [Value.cells]) U U fun b5=>?_
 refine rS (CL (dQ.eq (gi 0 1000 ([c.eL]) (some ⟨b5,0,none⟩) 1 (by (simp; done))) bZ) (ae (aP 0 U U (by simp [aW]) U)<|aC) U) ?_
 refine rP 2 [] I ?_
 refine eH (t:=15) U (bL fun AB=>?_) (bM fun AB=>?_)
 ·refine a_ 7 U<|RK q<|aX U<|WS fun _ B9=>rP 1 [] I ?_
  refine RK B9<|aB<|Q1 hQ U U U ?_
  exact cB (df fun h=>AB h.tp).symm
 refine rP 3 [] (mc 1 U I) ?_
 refine ck (xs:=[.tmp 18]) (cs:=[(vI (c.br.length:Int))]) U b0 gI U U U U (by simp [Value.cells]) U U fun b7=>?_
 refine rS (CL (dQ.eq (gi 1 5 ([(c.br.length:Int)]) (some ⟨b7,0,none⟩) 1 (by (simp; done))) bZ) (ae (aP 0 U U (by simp [aW]) U)<|aC) U) ?_
 refine rP 2 [] I ?_
 refine RK q<|dF U (bL fun O=>?_) (bM fun O=>?_)
 ·refine WS fun _ CP=>rP 1 [] I ?_
  refine RK CP<|aB<|Q1 hQ U U U ?_
  exact cB (df fun h=>O (by have:=h.len; omega)).symm
 refine WK B7<|WS fun _ CY=>a_ 1 U<|RK CY<|WS fun _ R=>a_ 1 U<|RK R<|al fun _ S=>u6<|KK S<|al fun _ K=>WS fun _ T=>rP 4 [] (mc 2 U I) ?_
 refine RK T<|aF ?_
 have B:(0≤c.br.length)∧(oL c 0):=by exact ⟨Nat.zero_le _,BE⟩
 have r:(vI (jh c 0))=(vI (-1)):=by rw [lq rfl]
 refine bX (ι:={z:Nat // (z≤c.br.length)∧(oL c z)}) [1,2,4,24,25] [2,3] U U (fun z=>[(3,(vI (jh c z.1))),(26,(vI (z.1:Int)))]) (fun z=>[]) (fun _=>rfl) (fun _=>rfl) (fun z=>c.br.length-z.1) ⟨0,B⟩ (bO U r<|aT U) (aJ [2,3]) ?_
 clear B
 rintro ⟨i,⟨L,C⟩⟩ J15 P
 try dsimp only
 have C5: -1≤jh c i∧jh c i≤86400000:=Kh L C
 refine WS fun _ AA=>rP 1 [] I ?_
 refine RK AA<|al fun _ V=>cu U (aZ fun A6=>?_) (aY fun A6=>?_)
 ·refine bq<|ah<|ah<|aD<|KK K<|WS fun _ f=>rP 2 [] I ?_
  refine RK f<|aB<|Q1 hQ U U U ?_
  exact cB (g6 (CK AB om (by have e:i=c.br.length:=om; rw [← e]; exact C))).symm
 refine WK V<|al fun _ W=>aF<|WS fun _ X=>rP 1 [] I ?_
 obtain ⟨x,hx⟩:=aQ c.br i om
 have Cp:=cG cP.cells hx
 refine rS (IA i U (aS 1 U) ur dc om om)<|rS (r_ i 0 (cP.cells x) U cz (aS 1 U) Cp U dc U U)<|AL U AK fun Cx=>rP 1 [] I ?_
 refine fw U EN U<|RK X ?_
 refine pG (ι:=Unit) [1,2,3,5,6,24,25,26] [0,1,2] U U (fun z=>[(4,(vB (decide (fZ c i x))))]) (fun z=>[]) (fun _=>rfl) (fun _=>rfl) ?_ fun K22 G=>?_
 ·intro _
  try dsimp only
  refine al fun _ Y=>WS fun _ Z=>hE 3 [] (mc 1 U I) U<|rS (Nl i U ur om om)<|rP 2 [] I ?_
  refine RK Z<|aF ?_
  have B:(0≤i)∧((decide (fZ c i x))=(decide (jN c i x 0))):=by exact ⟨Nat.zero_le _,decide_eq_decide.2 zn.symm⟩
  refine bX (ι:={z:Nat×Bool // (z.1≤i)∧(z.2=(decide (jN c i x z.1)))}) [1,2,3,5,6,24,25,26,59,60] [0,1,2] U U (fun z=>[(4,(vB z.1.2)),(61,(vI (z.1.1:Int)))]) (fun z=>[]) (fun _=>rfl) (fun _=>rfl) (fun z=>i-z.1.1) ⟨(0,(decide (fZ c i x))),B⟩ (aT U) (aJ [0,1,2]) ?_
  clear B
  rintro ⟨⟨k,b⟩,⟨M,A⟩⟩ J25 F
  try dsimp only at M A
  try dsimp only
  refine WS fun _ a=>rP 1 [] I ?_
  refine RK a<|al fun _ d=>cu U (aZ fun A8=>?_) (aY fun A8=>?_)
  ·refine bq<|ah<|ah<|aD<|KK Y<|al fun _ m=>WS fun _ n=>rP 2 [] I ?_
   refine RK n<|dF U (fun D=>?_) (fun D=>?_)
   ·rw [Bool.not_eq_true'] at D
    refine bq<|ah<|fT U<|ah<|ah<|aD<|KK K<|WS fun _ p=>rP 2 [] I ?_
    refine RK p<|aB<|Q1 hQ U U U ?_
    exact cB (by have e:k=i:=om; rw [e] at A; rw [D] at A ⊢; exact (df (Er hx (of_decide_eq_false A.symm))).symm)
   rw [Bool.not_eq_false'] at D
   refine WK m<|au<|hE 3 [] (mc 0 U I) U<|aG<|aH<|KK W<|au<|rP 2 [] I ?_
   refine aG ?_
   have A0:(vB true)=(vB b):=by exact cB D.symm
   have A1:(vI (jh c (i+1)))=(vI x.At):=by rw [lE hx]
   have A2:(vI (((i+1):Nat):Int))=(vI ((i:Int)+1)):=by exact cI om
   refine bc (P ⟨(i+1),⟨om,BB C hx (by have e:k=i:=om; rw [e] at A; exact of_decide_eq_true (A.symm.trans D))⟩⟩ _ _ _ U os (ew.cons U<|ew.cons U<|bO U A0<|ew.cons U<|ew.cons U<|bO U A1<|bO U A2<|ew.nil _) (aJ [1,2]))
  refine WK d<|al fun _ H=>aF<|WS fun _ g=>?_
  obtain ⟨o,ho⟩:=aQ c.br k om
  have Ci:=cG cP.cells ho
  refine rS (Mm k U (aS 2 U) ur dc om om om)<|rS (r_ k 0 (cP.cells o) U cz (aS 2 U) Ci U dc U U)<|AL U AK fun C0=>fw U EN U<|RK g<|WS fun _ l=>hE 6 [0,1,2] (mc 2 U (mc 1 U (mc 0 U I))) U<|rS (BI U DK)<|rS (BI U I7)<|rS (CL (Nv (vR (c.eL*(vR (x.At-o.At)))) 1000000 om) (aC) U)<|a_ 1 U<|RK l<|au<|rP 2 [] I ?_
  refine bH (t:=75) U (fun J=>?_) (fun J=>?_)
  ·refine a_ 6 U<|a_ 16 U<|aG<|aH<|KK H<|au<|rP 2 [] I ?_
   refine aG ?_
   have AO:(vI (((k+1):Nat):Int))=(vI ((k:Int)+1)):=by exact cI om
   refine bc (F ⟨((k+1),false),⟨om,by exact (df fun h=>by have h2:=((o3 ho).1 h).1; rw [A] at J; exact absurd (g6 h2) (by rw [J]; decide)).symm⟩⟩ _ _ _ U os (du 11<|bO U AO<|ew.nil _) (aJ [1,2,3]))
  refine rP 6 [0,1] (mc 1 U (mc 0 U I)) ?_
  have A3:jN c i x k:=of_decide_eq_true (A.symm.trans J)
  obtain ⟨Ck,Di,Do⟩:=CM (fun j y hj hy=>(C j y hj hy).1) hx A3.1 om ho
  have N:=G9 AB Ck
  refine rP 5 [] I ?_
  refine bH (t:=86) U (aZ fun E=>?_) (aY fun E=>?_)
  ·refine a_ 11 U<|aG<|aH<|KK H<|au<|rP 2 [] I ?_
   refine aG ?_
   have AC:(vI (((k+1):Nat):Int))=(vI ((k:Int)+1)):=by exact cI om
   refine bc (F ⟨((k+1),false),⟨om,by exact (df fun h=>by have h2:=((o3 ho).1 h).2; rw [N] at E; exact E h2.1).symm⟩⟩ _ _ _ U os (du 11<|bO U AC<|ew.nil _) (aJ [1,2,3]))
  refine hE 11 [0,1] (mc 0 U (mc 1 U I)) U<|aG<|aH<|KK H<|au<|rP 2 [] I ?_
  refine aG ?_
  have w:(vI (((k+1):Nat):Int))=(vI ((k:Int)+1)):=by exact cI om
  refine bc (F ⟨((k+1),(decide ((o.ff.Lo-x.ff.Hi)≤(KW (vR (c.eL*(vR (x.At-o.At)))) 1000000)))),⟨om,by exact decide_eq_decide.2 (by rw [o3 ho,N]; rw [N] at E; exact ⟨fun h=>⟨A3,E,h⟩,fun h=>h.2.2⟩)⟩⟩ _ _ _ U os (du 11<|bO U w<|ew.nil _) (aJ [1,2,3]))
 refine au<|rP 4 [] (mc 0 U I) ?_
 refine ck (xs:=[.tmp 34]) (cs:=[(vI x.At)]) U b0 gI U U U U (by simp [Value.cells]) U U fun A4=>?_
 refine rS (CL (dQ.eq (gi ((jh c i)+1) 86400000 ([x.At]) (some ⟨A4,0,none⟩) 1 (by (simp; done))) bZ) (ae (aP 0 U U (by simp [aW]) U)<|aC) U) ?_
 refine rP 1 [] I ?_
 refine bH (t:=37) U (aZ fun A9=>?_) (aY fun A9=>?_)
 ·refine rP 19 [] I ?_
  refine aG ?_
  have v:(decide (fZ c i x))=false:=df (by unfold fZ; omega)
  refine bc (jB (du 8<|kJ U v<|ew.nil _) (aJ [1,2,3]) (G ()))
 refine rP 6 [] (mc 1 U I) ?_
 refine ck (xs:=[.tmp 40,.tmp 43]) (cs:=[(vI x.ff.Lo),(vI x.ff.Hi)]) U b0 gI U U U U (by simp [Value.cells]) U U fun A5=>?_
 refine rS (CL (dQ.eq (gi (-10000) 10000 ([x.ff.Lo,x.ff.Hi]) (some ⟨A5,0,none⟩) 2 (by (simp; done))) nS) (ae (aP 0 U U (by simp [aW]) U)<|aC) U) ?_
 refine rP 2 [] I ?_
 refine bH (t:=47) U (aZ fun Bi=>?_) (aY fun Bi=>?_)
 ·refine rP 9 [] I ?_
  refine aG ?_
  have u:(decide (fZ c i x))=false:=df (by unfold fZ; omega)
  refine bc (jB (du 8<|kJ U u<|ew.nil _) (aJ [2,3,4]) (G ()))
 refine rP 9 [] (mc 2 U I) ?_
 refine aG ?_
 have s:(decide (fZ c i x))=(decide (x.ff.Lo≤x.ff.Hi)):=decide_eq_decide.2 (by unfold fZ; omega)
 refine bc (jB (du 8<|kJ U s<|ew.nil _) (aJ [2,3,4]) (G ()))
theorem Ll (ms:List aA) (az:List RA) (k:Nat) (m:aA) (a:RA) (hm:ms[k]? =some m) (ha:az[k]? =some a) (hc:m.br.length≤a.2∧m.br.length≤1000000):
 dQ Tryz.prog 119 [(vA (eD.cells (eD.mk m.eL (ba.mk a.1 m.br.length a.2))))] [(eR (aR aA.jx ms az))] (vB (!(decide (eU m)))):=by
 obtain ⟨C,D⟩:=hc
 refine bx kr Tryz.func119 U U fun F Q hQ hN=>?_
 try dsimp only
 refine WS fun _ A=>g5 U fun E=>a_ 1 U<|RK A<|WS fun _ B=>hE 1 [] (mc 0 U I) U<|rS (CL (Jz m a.1 a.2 asm asm) (ae (show jf _ (rd a.1 m.br.length 3 (m.br.map cP.cells)).holds from (eh 1 U (bY hm ha (by simp [aA.jx]))))<|aC) U)<|rP 2 [] I ?_
 refine RK B<|aB ?_
 exact Q1 hQ U U U U
theorem CO (l:List aA) (az:List RA) (lA:OA) (lC:Nat) (f:Value) (p:aA→Bool) (X:aj) (hf: ∀ (k:Nat) m a,l[k]? =some m→az[k]? =some a→zl Tryz.prog f [.agg (aA.cells m a).toArray] [X] (.bool (p m))) (hlen:l.length≤1000000) (has:az.length=l.length):
 dQ Tryz.prog 141 [(vS lA l.length lC),f] [(rd lA l.length 2 (List.zipWith aA.cells l az)),(eR (aR aA.jx l az)),X] (vI (pN p l)):=by
 refine bx kr Tryz.func141 U U fun T Q hQ hN=>?_
 try dsimp only
 refine WS fun _ AA=>a_ 1 U<|RK AA<|al fun _ J=>WS fun _ K=>rP 3 [] I ?_
 refine RK K<|aF ?_
 have B:(0≤l.length)∧((l.take 0).any p=false):=by simp
 refine bX (ι:={z:Nat // (z≤l.length)∧((l.take z).any p=false)}) [0,1,7] [0,1,2] U U (fun z=>[(8,(vI (z.1:Int)))]) (fun z=>[]) (fun _=>rfl) (fun _=>rfl) (fun z=>l.length-z.1) ⟨0,B⟩ (aT U) (aJ [0,1,2]) ?_
 clear B
 rintro ⟨i,⟨P,A⟩⟩ J4 H
 try dsimp only
 refine WS fun _ L=>rP 1 [] I ?_
 refine RK L<|al fun _ M=>cu U (aZ fun S=>?_) (aY fun S=>?_)
 ·refine bq<|ah<|ah<|aD<|KK J<|WS fun _ E=>rP 1 [] I ?_
  refine RK E<|aB<|Q1 hQ U U U ?_
  exact cI (oF om A).symm
 refine WK M<|al fun _ N=>aF<|WS fun _ O=>a_ 2 U<|RK O<|WS fun _ C=>rP 3 [] I ?_
 obtain ⟨x,hx⟩:=aQ l i om
 obtain ⟨xa,G⟩:=aQ az i om
 have R:(List.zipWith aA.cells l az)[i]? =some (aA.cells x xa):=dE hx G
 refine rS (IA i U (aS 0 U) Cs dc om om)<|rS (r_ i 0 (eD.cells (eD.mk x.eL (ba.mk xa.1 x.br.length xa.2))) U cz (aS 0 U) R U dc U U)<|rS (SX (oO U U U (hf i x xa hx G) (bj [2])) U U)<|RK C<|dF U (fun hp=>?_) (fun hp=>?_)
 ·refine WS fun _ D=>rP 2 [] I ?_
  refine RK D<|aB<|Q1 hQ U U U ?_
  exact cI (sP hx hp A).symm
 refine cJ<|aH<|KK N<|au<|rP 2 [] I ?_
 refine aG ?_
 have F:(vI (((i+1):Nat):Int))=(vI ((i:Int)+1)):=by exact cI om
 refine bc (H ⟨(i+1),⟨om,ss hx A hp⟩⟩ _ _ _ U os (du 3<|bO U F<|ew.nil _) (aJ [0,1,2]))
theorem vp (l:List aA) (az:List RA) (lA:OA) (lC:Nat) (f:Value) (p:aA→Bool) (X:aj) (hf: ∀ (k:Nat) m a,l[k]? =some m→az[k]? =some a→zl Tryz.prog f [.agg (aA.cells m a).toArray] [X] (.bool (p m))) (hlen:l.length≤1000000) (has:az.length=l.length):
 dQ Tryz.prog 118 [(vS lA l.length lC),f] [(rd lA l.length 2 (List.zipWith aA.cells l az)),(eR (aR aA.jx l az)),X] (vB (l.any p)):=by
 refine bx kr Tryz.func118 U U fun C Q hQ hN=>?_
 try dsimp only
 refine WS fun _ A=>a_ 1 U<|RK A<|WS fun _ B=>a_ 2 U<|rS (CL (CO l az lA lC f p X (by exact hf) hlen has) (Hy 0 1 2 U U U U U U) U)<|rP 2 [] I ?_
 refine RK B<|aB<|Q1 hQ U U U ?_
 exact cB qg
theorem B6 (l:List bG) (lA:OA) (lC:Nat) (f:Value) (p:bG→Bool) (X:aj) (hf: ∀ x0,x0∈l→zl Tryz.prog f [.agg (bG.cells x0).toArray] [X] (.bool (p x0))) (hlen:l.length≤1000000):
 dQ Tryz.prog 143 [(vS lA l.length lC),f] [(rd lA l.length 4 (l.map bG.cells)),X] (vI (pN p l)):=by
 refine bx kr Tryz.func143 U U fun S Q hQ hN=>?_
 try dsimp only
 refine WS fun _ H=>a_ 1 U<|RK H<|al fun _ AA=>WS fun _ J=>rP 3 [] I ?_
 refine RK J<|aF ?_
 have B:(0≤l.length)∧((l.take 0).any p=false):=by simp
 refine bX (ι:={z:Nat // (z≤l.length)∧((l.take z).any p=false)}) [0,1,7] [0,1] U U (fun z=>[(8,(vI (z.1:Int)))]) (fun z=>[]) (fun _=>rfl) (fun _=>rfl) (fun z=>l.length-z.1) ⟨0,B⟩ (aT U) (aJ [0,1]) ?_
 clear B
 rintro ⟨i,⟨O,A⟩⟩ J4 G
 try dsimp only
 refine WS fun _ K=>rP 1 [] I ?_
 refine RK K<|al fun _ L=>cu U (aZ fun R=>?_) (aY fun R=>?_)
 ·refine bq<|ah<|ah<|aD<|KK AA<|WS fun _ E=>rP 1 [] I ?_
  refine RK E<|aB<|Q1 hQ U U U ?_
  exact cI (oF om A).symm
 refine WK L<|al fun _ M=>aF<|WS fun _ N=>a_ 2 U<|RK N<|WS fun _ C=>rP 3 [] I ?_
 obtain ⟨x,hx⟩:=aQ l i om
 have P:=cG bG.cells hx
 refine rS (IA i U (aS 0 U) Ba dc om om)<|rS (r_ i 0 (bG.cells x) U cz (aS 0 U) P U dc U U)<|rS (SX (oO U U U (hf x (aN hx)) (bj [1])) U U)<|RK C<|dF U (fun hp=>?_) (fun hp=>?_)
 ·refine WS fun _ D=>rP 2 [] I ?_
  refine RK D<|aB<|Q1 hQ U U U ?_
  exact cI (sP hx hp A).symm
 refine cJ<|aH<|KK M<|au<|rP 2 [] I ?_
 refine aG ?_
 have F:(vI (((i+1):Nat):Int))=(vI ((i:Int)+1)):=by exact cI om
 refine bc (G ⟨(i+1),⟨om,ss hx A hp⟩⟩ _ _ _ U os (du 3<|bO U F<|ew.nil _) (aJ [0,1]))
theorem u0 (l:List bG) (lA:OA) (lC:Nat) (f:Value) (p:bG→Bool) (X:aj) (hf: ∀ x0,x0∈l→zl Tryz.prog f [.agg (bG.cells x0).toArray] [X] (.bool (p x0))) (hlen:l.length≤1000000):
 dQ Tryz.prog 122 [(vS lA l.length lC),f] [(rd lA l.length 4 (l.map bG.cells)),X] (vB (l.any p)):=by
 refine bx kr Tryz.func122 U U fun C Q hQ hN=>?_
 try dsimp only
 refine WS fun _ A=>a_ 1 U<|RK A<|WS fun _ B=>a_ 2 U<|rS (CL (B6 l lA lC f p X (by exact hf) hlen) (bj [0,1]) U)<|rP 2 [] I ?_
 refine RK B<|aB<|Q1 hQ U U U ?_
 exact cB qg
end
section
open Go.RowKit
theorem mM (a:ab) (l:List ab) (lA:OA) (lC:Nat) (ha:ld a) (hl: ∀ z∈l,ld z) (hlen:l.length≤4):
 dQ Tryz.prog 147 [(vA (ab.cells a)),(vS lA l.length lC)] [(rd lA l.length 2 (l.map ab.cells))] (vA (ab.cells (iJ a l))):=by
 refine bx kr Tryz.func147 U U fun AA Q hQ hN=>?_
 try dsimp only
 refine WS fun _ AB=>g5 U fun R=>AL U dK fun T=>RK AB<|al fun _ J=>WS fun _ K=>rP 3 [] I ?_
 refine RK K<|aF ?_
 have A:(0≤l.length):=by exact Nat.zero_le _
 refine bX (ι:={z:Nat // (z≤l.length)}) [2,4,7,8] [0,2] U U (fun z=>[(9,(vI (z.1:Int)))]) (fun z=>[(bJ R 40 (ab.cells (iJ a (l.take z.1))))]) (fun _=>rfl) (fun _=>rfl) (fun z=>l.length-z.1) ⟨0,A⟩ (aT U) (aJ [0,2,1]) ?_
 clear A
 rintro ⟨i,N⟩ J6 H
 try dsimp only
 refine WS fun _ L=>rP 1 [] I ?_
 refine RK L<|al fun _ M=>cu U (aZ fun S=>?_) (aY fun S=>?_)
 ·refine bq<|ah<|ah<|aD<|KK J<|al fun _ D=>?_
  have G:(ab.cells (iJ a (l.take i)))=(ab.cells (iJ a l)):=by rw [C8 om]
  rw [G]
  refine au<|rP 1 [] (mc 2 U I) ?_
  refine fw U cT U<|RK D<|aB ?_
  exact CW hQ [0] (mc 0 U I) U U
 refine WK M<|al fun _ B=>aF<|WS fun _ C=>?_
 obtain ⟨x,hx⟩:=aQ l i om
 have O:=cG ab.cells hx
 refine rS (IA i U (aS 1 U) jZ dc om om)<|rS (r_ i 0 (ab.cells x) U cz (aS 1 U) O U dc U U)<|AL U dK fun P=>fw U cT U<|RK C<|au ?_
 have hb:=JJ ha hl i
 have hz:=hl x (aN hx)
 unfold ld at hz
 refine rP 10 [0,1,0,1] (mc 3 U (mc 0 U I)) ?_
 refine rS (SX (bh (xs:=[(0,.tmp 17),(1,.tmp 22)]) (cs:=(ab.cells (ab.mk (((iJ a (l.take i)).Lo)+x.Lo) (((iJ a (l.take i)).Hi)+x.Hi)))) U U (bg jt U)) U U)<|NV U cT U<|aG<|aH<|KK B ?_
 have E:(ab.cells (ab.mk (((iJ a (l.take i)).Lo)+x.Lo) (((iJ a (l.take i)).Hi)+x.Hi)))=(ab.cells (iJ a (l.take (i+1)))):=by rw [uq hx]; rfl
 rw [E]
 refine au<|rP 2 [] I ?_
 refine aG ?_
 have F:(vI ((i+1):Int))=(vI ((i:Int)+1)):=by exact cI om
 refine bc (H ⟨(i+1),(by first|omega|(simp only []; omega))⟩ _ _ _ U os (du 4<|bO U F<|ew.nil _) (aJ [1,2,3]))
theorem Am (ts:List ao) (tsA:OA) (tsC:Nat) (hlen:ts.length≤1000000) (hside: ∀ x∈ts,0≤x.jy∧x.jy≤255):
 dQ Tryz.prog 144 [(vA (bK.cells (bK.mk (ba.mk tsA ts.length tsC))))] [(rd tsA ts.length 9 (ts.map ao.cells))] (vT [(vA (db.cells (db.mk (bK.mk (ba.mk tsA ts.length tsC))))),(vI (if cv ts=true then 0 else 10))]):=by
 refine bx kr Tryz.func144 U U fun E Q hQ hN=>?_
 try dsimp only
 refine WS fun _ A=>g5 U fun C=>AL U Fk fun D=>a_ 1 U<|RK A<|al fun _ B=>dR cE 4 kr<|m7 1 [] (mc 1 U I) U<|dS (SX (bh (xs:=[(0,.tmp 4)]) (cs:=(db.cells (db.mk (bK.mk (ba.mk tsA ts.length tsC))))) U U (bg Lf U)) U U)<|m7 1 [] (mc 1 U I) U<|dS (CL (wk ts tsA tsC hlen hside) (bj [2]) U)<|dJ<|fw U Fm U<|rP 1 [] I ?_
 refine RK B<|aB ?_
 exact pP hQ [0] (mc 0 U I) U U
theorem HW (f:Int) (tsA:OA) (tsN tsC:Nat):
 kd Tryz.prog 161 [(vA (db.cells (db.mk (bK.mk (ba.mk tsA tsN tsC))))),(vI f)] [] (fun (x:Nat×Nat)=>(Value.func (.func 169) [].toArray [(Value.pointer (some ⟨x.1,0,none⟩)),(Value.pointer (some ⟨x.2,0,none⟩))].toArray)) (fun (x:Nat×Nat)=>True) (fun (x:Nat×Nat)=>[(bJ x.1 3 [(vI f)]),(bJ x.2 203 (db.cells (db.mk (bK.mk (ba.mk tsA tsN tsC)))))]):=by
 refine cS kr Tryz.func161 U U fun E Q hQ hN=>?_
 try dsimp only
 refine WS fun _ A=>g5 U fun C=>qo U U fun D=>a_ 1 U<|RK A<|WS fun _ B=>rS (FU U)<|rP 1 [] I ?_
 refine RK B<|aB<|LX hQ (D,C) [0,1] [] I U U U U ?_
 trivial
theorem BX (ts:List ao) (tsA:OA) (tsC:Nat) (f:Int) (g1 g2:Nat) (hst: ∀ x∈ts,cn x) (hlen:ts.length≤12) (hf:0≤f∧f≤ts.length):
 HK Tryz.prog 169 [] [(vP g1),(vP g2)] [(rd tsA ts.length 9 (ts.map ao.cells)),(bJ g1 3 [(vI f)]),(bJ g2 203 (db.cells (db.mk (bK.mk (ba.mk tsA ts.length tsC)))))] (o_ ts f.toNat):=by
 refine AM kr Tryz.func169 U U fun l J Z A0 p Q hY g d hQ hN=>?_
 try dsimp only
 refine WS fun _ h=>AL U dK fun n=>AL U dK fun o=>RK h<|WS fun _ i=>rP 2 [] (mr 4 U I) ?_
 refine RK i<|aF ?_
 have P:(0≤ts.length-f.toNat)∧(J 0 A0)∧(Fo A0 p A0):=by exact ⟨Nat.zero_le _,g,d⟩
 have m:(vI (f+(0:Int)))=(vI f):=by exact cI om
 refine bX (ι:={z:Nat×aj // (z.1≤ts.length-f.toNat)∧(J z.1 z.2)∧(Fo A0 p z.2)}) [0,1,2,4,5] [3,4,5] U U (fun z=>[(6,(vI (f+(z.1.1:Int))))]) (fun z=>[(bJ o 40 (ab.cells (fq ts f.toNat z.1.1))),(bJ n 40 (ab.cells (eO ts f.toNat z.1.1))),z.1.2]) (fun _=>rfl) (fun _=>rfl) (fun z=>ts.length-f.toNat-z.1.1) ⟨(0,A0),P⟩ (bO U m<|ew.nil _) (aJ [3,4,5,0,1,2]) ?_
 clear P
 rintro ⟨⟨k,A⟩,⟨W,R,S⟩⟩ J6 V
 try dsimp only at W R S
 try dsimp only
 refine al fun _ j=>WS fun _ X=>rP 3 [0,1] (mc 4 U (mc 3 U I)) ?_
 refine Ai 5 hY R S U U U (tH om) U U (fun B9 C B=>?_) (fun B9 C B=>?_)
 rotate_left 1
 ·refine rP 8 [] I ?_
  refine RK X<|aM U<|bq<|ah<|ah<|aD ?_
  refine hN _ _ _ (fr (vs:=[]) trivial fun w hs=>IQ 5 U C B hs)
 refine rP 8 [] (mr 2 U I) ?_
 refine RK X<|cu U (aZ fun c=>?_) (aY fun c=>?_)
 ·refine bq<|ah<|ah<|aD ?_
  refine hN _ _ _ (fr (vs:=[]) trivial fun w hs=>Lz 5 U (by rw [pI]; have e:ts.length-f.toNat+1=k+1:=om; rw [e]; exact C) B hs)
 refine WK j<|al fun _ M=>aF<|rv cE [0,1,2,3,4,5,6,7,10,11,12,13,14,15,16,17] [8,9,18,19,20,21] [true,false,false,false,false,false,false,false,true,false,false,false,false,false,false,false] [8,9,18] [(rd tsA ts.length 9 (ts.map ao.cells)).ro,(bJ g1 3 [(vI f)]).ro,(bJ g2 203 (db.cells (db.mk (bK.mk (ba.mk tsA ts.length tsC))))).ro,B9] [(rd tsA ts.length 9 (ts.map ao.cells)).ro,(bJ g1 3 [(vI f)]).ro,(bJ g2 203 (db.cells (db.mk (bK.mk (ba.mk tsA ts.length tsC))))).ro,(bJ o 40 (ab.cells (fq ts f.toNat k))),(bJ n 40 (ab.cells (eO ts f.toNat k))),B9] kr (aJ [0,1,2,5]) (aJ [0,1,2,3,4,5])<|fS U (LW 4 U cz U U)<|eS U (FA 0 U fI U)<|eS U (FA 0 U fI U)<|eS U (CT (vS tsA ts.length tsC) 2 U cz U U)<|eS U (MV U) ?_
 obtain ⟨x,hx⟩:=aQ ts (f.toNat+k) om
 have a:=cG ao.cells hx
 refine eS U (IA (f.toNat+k) U (aS 0 U) Cm dc om om) ?_
 have L:=hst x (aN hx)
 refine eS U (sV (((f.toNat+k)*9)+1) U (aS 0 U) (Nat.mul_pos om dc) fI U)<|eS U (r_ (f.toNat+k) 1 (ab.cells x.l3) U cz (aS 0 U) a U dc U U)<|fS U (LW 3 U cz U U)<|eS U (FA 0 U fI U)<|eS U (FA 0 U fI U)<|eS U (CT (vS tsA ts.length tsC) 2 U cz U U)<|eS U (MV U)<|eS U (IA (f.toNat+k) U (aS 0 U) Cm dc om om)<|eS U (sV (((f.toNat+k)*9)+3) U (aS 0 U) (Nat.mul_pos om dc) fI U)<|eS U (r_ (f.toNat+k) 3 (ab.cells x.nJ) U cz (aS 0 U) a U dc U U)<|e7 U<|eN [8,18] kr (b_ ?_<|b_ ?_<|fQ)
 rotate_left 1
 ·refine qQ (rem':=[8,9,19,20,21]) U kr fun T14 N=>ck (xs:=[.tmp 39]) (cs:=(ab.cells x.nJ)) U jZ dK U U U U (by simp [Value.cells,ab.aL]) U U fun T=>aG (N _ _ (aJ [1,2,3,6]) (aJ [1,2,3,4,5,6]) ?_)
  refine N1 8<|qQ (rem':=[9,19,20,21]) U kr fun T16 D=>ck (xs:=[.tmp 29]) (cs:=(ab.cells x.l3)) U jZ dK U U U U (by simp [Value.cells,ab.aL]) U U fun AA=>aG (D _ _ (aJ [2,3,4,7]) (aJ [2,3,4,5,6,7]) ?_)
  refine N1 9<|qQ (rem':=[19,20,21]) U kr fun T18 O=>?_
  refine rS (CL (dQ.eq (mM (eO ts f.toNat k) ([x.l3]) (some ⟨AA,0,none⟩) 1 (by exact nI hst om) (by intro z hz; simp only [bD] at hz; subst hz; exact qh L) sm) kR) (ae (aP 0 rfl rfl (by simp [ab.aL]) rfl)<|aC) rfl) ?_
  refine aG (O _ _ (aJ [2,3,4,7]) (aJ [2,3,4,5,6,7]) ?_)
  refine N1 19<|NO U U [20,21] fun T19 E=>?_
  refine rS (CL (dQ.eq (mM (fq ts f.toNat k) ([x.nJ]) (some ⟨T,0,none⟩) 1 (by exact rZ hst om) (by intro z hz; simp only [bD] at hz; subst hz; exact qk L) sm) kR) (ae (aP 1 rfl rfl (by simp [ab.aL]) rfl)<|aC) rfl) ?_
  refine aG (E _ _ (aJ [2,3,4,7]) ?_)
  refine N1 20<|NO U U [21] fun T20 F=>I1 U cT U<|aG (F _ _ (aJ [2,3,4,7]) ?_)
  refine N1 21<|NO U U [] fun T21 G=>Iz U cT U<|aG (G _ _ (aJ [2,3,4,7]) ?_)
  refine sv<|aH<|KK M ?_
  have H:(ab.cells (ky (eO ts f.toNat k) x.l3))=(ab.cells (eO ts f.toNat (k+1))):=by rw [oV hx]
  rw [H]
  have AB:(ab.cells (ky (fq ts f.toNat k) x.nJ))=(ab.cells (fq ts f.toNat (k+1))):=by rw [oZ hx]
  rw [AB]
  refine au<|rP 3 [] I ?_
  refine aG ?_
  have K:(vI (f+(((k+1):Nat):Int)))=(vI ((f+(k:Int))+1)):=by exact cI om
  refine bc (V ⟨((k+1),B9),⟨om,C,B⟩⟩ _ _ _ U os (du 5<|bO U K<|ew.nil _) (aJ [2,3,4,5,6,7]))
 refine qQ (rem':=[9,18,19,20,21]) U kr fun T14 N=>ck (xs:=[.tmp 29]) (cs:=(ab.cells x.l3)) U jZ dK U U U U (by simp [Value.cells,ab.aL]) U U fun T=>aG (N _ _ (aJ [1,2,3,6]) (aJ [1,2,3,4,5,6]) ?_)
 refine eN [9,18] kr (b_ ?_<|b_ ?_<|fQ)
 rotate_left 1
 ·refine qQ (rem':=[9,19,20,21]) U kr fun T16 D=>ck (xs:=[.tmp 39]) (cs:=(ab.cells x.nJ)) U jZ dK U U U U (by simp [Value.cells,ab.aL]) U U fun AA=>aG (D _ _ (aJ [2,3,4,7]) (aJ [2,3,4,5,6,7]) ?_)
  refine N1 9<|qQ (rem':=[19,20,21]) U kr fun T18 O=>?_
  refine rS (CL (dQ.eq (mM (eO ts f.toNat k) ([x.l3]) (some ⟨T,0,none⟩) 1 (by exact nI hst om) (by intro z hz; simp only [bD] at hz; subst hz; exact qh L) sm) kR) (ae (aP 1 rfl rfl (by simp [ab.aL]) rfl)<|aC) rfl) ?_
  refine aG (O _ _ (aJ [2,3,4,7]) (aJ [2,3,4,5,6,7]) ?_)
  refine N1 19<|NO U U [20,21] fun T19 E=>?_
  refine rS (CL (dQ.eq (mM (fq ts f.toNat k) ([x.nJ]) (some ⟨AA,0,none⟩) 1 (by exact rZ hst om) (by intro z hz; simp only [bD] at hz; subst hz; exact qk L) sm) kR) (ae (aP 0 rfl rfl (by simp [ab.aL]) rfl)<|aC) rfl) ?_
  refine aG (E _ _ (aJ [2,3,4,7]) ?_)
  refine N1 20<|NO U U [21] fun T20 F=>I1 U cT U<|aG (F _ _ (aJ [2,3,4,7]) ?_)
  refine N1 21<|NO U U [] fun T21 G=>Iz U cT U<|aG (G _ _ (aJ [2,3,4,7]) ?_)
  refine sv<|aH<|KK M ?_
  have H:(ab.cells (ky (eO ts f.toNat k) x.l3))=(ab.cells (eO ts f.toNat (k+1))):=by rw [oV hx]
  rw [H]
  have AB:(ab.cells (ky (fq ts f.toNat k) x.nJ))=(ab.cells (fq ts f.toNat (k+1))):=by rw [oZ hx]
  rw [AB]
  refine au<|rP 3 [] I ?_
  refine aG ?_
  have K:(vI (f+(((k+1):Nat):Int)))=(vI ((f+(k:Int))+1)):=by exact cI om
  refine bc (V ⟨((k+1),B9),⟨om,C,B⟩⟩ _ _ _ U os (du 5<|bO U K<|ew.nil _) (aJ [2,3,4,5,6,7]))
 refine qQ (rem':=[18,19,20,21]) U kr fun T16 D=>?_
 refine rS (CL (dQ.eq (mM (eO ts f.toNat k) ([x.l3]) (some ⟨T,0,none⟩) 1 (by exact nI hst om) (by intro z hz; simp only [bD] at hz; subst hz; exact qh L) sm) kR) (ae (aP 0 rfl rfl (by simp [ab.aL]) rfl)<|aC) rfl) ?_
 refine aG (D _ _ (aJ [1,2,3,6]) (aJ [1,2,3,4,5,6]) ?_)
 refine N1 18<|qQ (rem':=[19,20,21]) U kr fun T17 Y=>ck (xs:=[.tmp 39]) (cs:=(ab.cells x.nJ)) U jZ dK U U U U (by simp [Value.cells,ab.aL]) U U fun b=>aG (Y _ _ (aJ [2,3,4,7]) (aJ [2,3,4,5,6,7]) ?_)
 refine N1 19<|NO U U [20,21] fun T19 E=>?_
 refine rS (CL (dQ.eq (mM (fq ts f.toNat k) ([x.nJ]) (some ⟨b,0,none⟩) 1 (by exact rZ hst om) (by intro z hz; simp only [bD] at hz; subst hz; exact qk L) sm) kR) (ae (aP 0 rfl rfl (by simp [ab.aL]) rfl)<|aC) rfl) ?_
 refine aG (E _ _ (aJ [2,3,4,7]) ?_)
 refine N1 20<|NO U U [21] fun T20 F=>I1 U cT U<|aG (F _ _ (aJ [2,3,4,7]) ?_)
 refine N1 21<|NO U U [] fun T21 G=>Iz U cT U<|aG (G _ _ (aJ [2,3,4,7]) ?_)
 refine sv<|aH<|KK M ?_
 have H:(ab.cells (ky (eO ts f.toNat k) x.l3))=(ab.cells (eO ts f.toNat (k+1))):=by rw [oV hx]
 rw [H]
 have AB:(ab.cells (ky (fq ts f.toNat k) x.nJ))=(ab.cells (fq ts f.toNat (k+1))):=by rw [oZ hx]
 rw [AB]
 refine au<|rP 3 [] I ?_
 refine aG ?_
 have K:(vI (f+(((k+1):Nat):Int)))=(vI ((f+(k:Int))+1)):=by exact cI om
 refine bc (V ⟨((k+1),B9),⟨om,C,B⟩⟩ _ _ _ U os (du 5<|bO U K<|ew.nil _) (aJ [2,3,4,5,6,7]))
theorem Ed (ts:List ao) (tsA:OA) (tsC:Nat) (f t:Int) (hst: ∀ x∈ts,cn x) (hlen:ts.length≤12) (hf:0≤f∧f≤t∧t≤ts.length):
 dQ Tryz.prog 146 [(vA (db.cells (db.mk (bK.mk (ba.mk tsA ts.length tsC))))),(vI f),(vI t)] [(rd tsA ts.length 9 (ts.map ao.cells))] (vT [(vA (ab.cells (eO ts f.toNat (t-f).toNat))),(vA (ab.cells (fq ts f.toNat (t-f).toNat)))]):=by
 refine bx kr Tryz.func146 U U fun w0 Q hQ hN=>?_
 try dsimp only
 refine WS fun _ M=>g5 U fun a=>qo U U fun b=>qo U U fun d=>AL U dK fun e=>AL U dK fun g=>RK M<|al fun _ AA=>WS fun _ V=>rP 2 [0,1] (mc 4 U (mc 3 U I)) ?_
 refine cX (HW f tsA ts.length tsC) (aC) U fun u n=>?_
 obtain ⟨B,C⟩:=u
 try dsimp only
 refine RK V<|aF<|iG 7 U (by exact fun _ h=>h) ?_
 refine zZ (L0:=[(3,(vP a)),(4,(vP b)),(5,(vP d)),(6,(vP e)),(7,(vP g))]) (F:=[(rd tsA ts.length 9 (ts.map ao.cells)).ro,(bJ B 3 [(vI f)]),(bJ C 203 (db.cells (db.mk (bK.mk (ba.mk tsA ts.length tsC)))))]) (xs:=(o_ ts f.toNat)) (fun k (y:ab×ab×Int)=>(k≤(t-f).toNat)∧(y.2.2=f+(k:Int))) (fun k y=>[(bJ g 40 (ab.cells y.2.1)),(bJ e 40 (ab.cells y.1)),(bJ d 3 [(vI t)]),(bJ b 3 [(vI y.2.2)]),(bJ a 203 (db.cells (db.mk (bK.mk (ba.mk tsA ts.length tsC))))),(rd tsA ts.length 9 (ts.map ao.cells)).ro]) (fun c (z:Unit)=>(c= .exit 0)) (fun _ z=>[(bJ g 40 (ab.cells (fq ts f.toNat (t-f).toNat))),(bJ e 40 (ab.cells (eO ts f.toNat (t-f).toNat))),(bJ d 3 [(vI t)]),(bJ b 3 [(vI t)]),(bJ a 203 (db.cells (db.mk (bK.mk (ba.mk tsA ts.length tsC))))),(rd tsA ts.length 9 (ts.map ao.cells)).ro]) [3,4,5,6,7,8] [0,1,2] (cZ,cZ,f) U U (BX ts tsA tsC f B C (by first|assumption|omega|(simp; done)) (by first|assumption|omega|(simp; done)) om) U U U (by exact ⟨Nat.zero_le _,sm⟩) (by simp only [List.forall_mem_cons,List.not_mem_nil,false_imp_iff,implies_true,and_true]; exact ⟨⟨_,sm,(dT (bI _))⟩,⟨_,sm,(bI _)⟩,⟨_,sm,(bI _)⟩⟩) (by exact yU) U (aT U) ?_ ?_ ?_ ?_
 rotate_left 1
 ·rintro q ⟨v,z2,m⟩ J
  obtain ⟨A,K⟩:=J
  try dsimp only at A K
  try dsimp only
  exfalso; rw [pI] at A; omega
 ·rintro r id _ Y
  have hc:=Y
  cases hc
  try dsimp only
  refine aD<|KK AA<|al fun _ D=>ek cE [2,3] [] [] [0,1,2,3,4,5,6,7,8,9] [] U U U U U<|eS U (LW 5 U cz U U)<|eS U (LW 4 U cz U U)<|e7 U<|cf U fun T30 E=>Iz U cT U<|aG (E _ _ (aJ [0,1,2,3,4,5,6,7,8,9]) ?_)
  refine cf U fun T31 G=>Kr U cT U<|aG (G _ _ (aJ [0,1,2,3,4,5,6,7,8,9]) ?_)
  refine fH U<|KK D<|aB<|hQ _ _ _ (lK 0 U U<|fr (vs:=[(vA (ab.cells (eO ts f.toNat (t-f).toNat))),(vA (ab.cells (fq ts f.toNat (t-f).toNat)))]) ⟨⟨_,U,.inl ⟨_,_,cz,mx (vs:=(ab.cells (eO ts f.toNat (t-f).toNat))) 5 U U,U,U⟩⟩,⟨_,U,.inl ⟨_,_,cz,mx (vs:=(ab.cells (fq ts f.toNat (t-f).toNat))) 4 U U,U,U⟩⟩,trivial⟩ fun w hs=>yV ?_ hs)
  show (vT [(vA (ab.cells (eO ts f.toNat (t-f).toNat))),(vA (ab.cells (fq ts f.toNat (t-f).toNat)))])=(vT [(vA (ab.cells (eO ts f.toNat (t-f).toNat))),(vA (ab.cells (fq ts f.toNat (t-f).toNat)))])
  clear hs w hQ hN G T31 E T30 D V AA M
  rfl
 ·rintro s _ Z
  cases Z
 rintro k x ⟨v,z2,m⟩ l ra rb S w1 K13 Qr14 hx AB N H L j
 obtain ⟨hk,rfl⟩:=BL hx
 obtain ⟨A,K⟩:=AB
 try dsimp only at A K
 try dsimp only
 refine WS fun _ O=>AL U dK fun o=>fw U cT U<|RK O<|au<|AL U dK fun p=>fw U cT U<|aG<|jB (fun _ _ h=>h) (aJ [2,0,1,3,4,5,6,7,8])<|bc (N _ _ ?_)
 refine aF<|al fun _ P=>al fun _ R=>ek cE [2,3] [] [] [0,1,2,5,6,7,8] [] U U U U U<|eS U (LW 2 U cz U U)<|eS U (LW 1 U cz U U)<|e7 U<|cf U fun T21 W=>Kr U cT U<|aG (W _ _ (aJ [0,1,2,5,6,7,8]) ?_)
 refine cf U fun T22 X=>NV U cT U<|aG (X _ _ (aJ [0,1,2,5,6,7,8]) ?_)
 refine fH U<|KK R<|WS fun _ T=>rP 3 [0,1] (mc 6 U (mc 5 U I)) ?_
 refine RK T<|dF U (aY fun i=>?_) (aZ fun i=>?_)
 ·refine bq<|ah<|fT U ?_
  rw [show m=t from by omega]
  obtain rfl:k=(t-f).toNat:=by omega
  exact L _ () _ _ (by exact U) (aJ [0,3,4,5,6,7,8])
 refine WK P<|au<|rP 2 [] (mc 6 U I) ?_
 refine N7 U xg U U<|aG<|aH ?_
 exact H ((eO ts f.toNat k),(fq ts f.toNat k),(m+1)) _ _ (by refine ⟨om,?_⟩; dsimp only; omega) (aJ [0,3,4,5,6,7,8])
end
section
open Go.RowKit
theorem AX (i:Int) (s:cx) (ts:List ao) (tsA:OA) (tsC g1:Nat) (hst: ∀ x∈ts,cn x) (hlen:ts.length≤12):
 dQ Tryz.prog 160 [(vI i),(vA (cx.cells s)),(vP g1)] [(rd tsA ts.length 9 (ts.map ao.cells)),(bJ g1 203 (db.cells (db.mk (bK.mk (ba.mk tsA ts.length tsC)))))] (vB (!(decide (eI ts s)))):=by
 refine bx kr Tryz.func160 U U fun AA Q hQ hN=>?_
 try dsimp only
 refine WS fun _ C=>g5 U fun G=>rP 1 [] I ?_
 refine RK C<|al fun _ A=>rv cE [0,1,2,3,4,5,6] [7,8,9,10,11,12,13,14,15,16,17,18,19,20,21,22,23,24,25,26] [false,false,false,false,false,false,false] [] [(bJ G 111 (cx.cells s)),(rd tsA ts.length 9 (ts.map ao.cells)).ro,(bJ g1 203 (db.cells (db.mk (bK.mk (ba.mk tsA ts.length tsC))))).ro] [] kr (aJ [0,1,2]) (aJ [])<|eS U (FA 0 U fI U)<|eS U (FA 0 U fI U)<|eS U (CT (vS tsA ts.length tsC) 2 U cz U U)<|eS U (LN U KR)<|eS U (BI U (pJ ⟨om,om⟩))<|eS U (FA 0 U fI U)<|eS U (L1 (vI s.bB) 0 U cz U U)<|e7 U<|N1 7<|NO U U [8,9,10,11,12,13,14,15,16,17,18,19,20,21,22,23,24,25,26] fun T4 D=>ck (xs:=[.tmp 12]) (cs:=[(vI s.bB)]) U b0 gI U U U U (by simp [Value.cells]) U U fun H=>RD D 1 U<|Dz [14,15,16,17,18,19,20,21,22,23,24,25,26,27,28,29,30,31,5] kr kr U _ U U (aJ [1,2,3]) ?_
 refine dS (CL (dQ.eq (ml 0 ((ts.length:Int)-1) ([s.bB]) (some ⟨H,0,none⟩) 1 (by (simp; done))) bZ) (ae (aP 0 U U (by simp [aW]) U)<|aC) U) ?_
 refine dP 2 [] I ?_
 refine vn (t:=16) U (bL fun B=>?_) (bM fun B=>?_)
 ·refine rH 9 U<|dP 7 [] I ?_
  refine dJ<|RK A<|aB<|Q1 hQ U U U ?_
  (refine cB ?_; rw [df (Ec om)]; rfl)
 refine rH 1 U<|dS (LP (ab.cells s.o7) 1 U cz U U U)<|dP 5 [0,1] (mr 3 U (mc 1 U I)) ?_
 obtain ⟨x,hx⟩:=aQ ts ((s.bB).toNat) om
 have E:=cG ao.cells hx
 refine dS (IA ((s.bB).toNat) U (aS 2 U) Cm dc om om)<|dS (sV ((((s.bB).toNat)*9)+1) U (aS 2 U) (Nat.mul_pos om dc) fI U) ?_
 have F:=(hst x (aN hx)).2.1
 simp only [gn] at F
 refine dS (sV ((((s.bB).toNat)*9)+1) U (aS 2 U) (Nat.mul_pos om dc) fI U)<|dS (g4 ((s.bB).toNat) 1 (vI x.l3.Lo) U cz (aS 2 U) E U dc U)<|rH 1 U<|dS (CL (rF s.o7 0 (x.l3.Lo-1)) (aC) U)<|dP 3 [] I ?_
 refine dJ<|RK A<|aB<|Q1 hQ U U U ?_
 exact congrArg (fun b=>vB (!b)) (decide_eq_decide.2 (Dq om hx).symm)
theorem zo (l:List cx) (lA:OA) (lC:Nat) (f:Value) (p:Int→cx→Bool) (X:aj) (hf: ∀ x0 x1,(∃ k:Nat,x0=(k:Int)∧l[k]? =some x1)→zl Tryz.prog f [.int .i64 x0,.agg (cx.cells x1).toArray] [X] (.bool (p x0 x1))) (hlen:l.length≤1000000):
 kd Tryz.prog 159 [(vS lA l.length lC),f] [(rd lA l.length 3 (l.map cx.cells)),X] (fun (x:(OA)×Nat)=>(vS x.1 ((Fv (fun jj yy=>p (jj:Int) yy) l).length) x.2)) (fun (x:(OA)×Nat)=>True) (fun (x:(OA)×Nat)=>[(own x.1 x.2 3 1 ((Fv (fun jj yy=>p (jj:Int) yy) l).map iC))]):=by
 refine cS kr Tryz.func159 U U fun W Q hQ hN=>?_
 try dsimp only
 refine WS fun _ L=>a_ 1 U<|RK L<|WS fun _ M=>a_ 1 U<|RK M<|al fun _ N=>WS fun _ O=>rP 3 [] I ?_
 refine RK O<|aF<|gl 3 1 ?_
 have A:(0≤l.length):=by exact Nat.zero_le _
 refine bX (ι:={z:Nat×(OA)×Nat // (z.1≤l.length)}) [0,1,8,9] [1,2] U U (fun z=>[(5,(vS z.1.2.1 ((o1 (fun jj yy=>p (jj:Int) yy) l z.1.1).length) z.1.2.2)),(10,(vI (z.1.1:Int)))]) (fun z=>[(own z.1.2.1 z.1.2.2 3 1 ((o1 (fun jj yy=>p (jj:Int) yy) l z.1.1).map iC))]) (fun _=>rfl) (fun _=>rfl) (fun z=>l.length-z.1.1) ⟨(0,none,0),A⟩ (aT U) (aJ [1,2,0]) ?_
 clear A
 rintro ⟨⟨i,a,c⟩,B⟩ J5 C
 try dsimp only at B
 try dsimp only
 refine WS fun _ P=>rP 1 [] I ?_
 refine RK P<|al fun _ R=>cu U (aZ fun V=>?_) (aY fun V=>?_)
 ·refine bq<|ah<|ah<|aD<|KK N<|WS fun _ F=>?_
  rw [Ik (p:=fun (i:Nat) x=>p (i:Int) x) (show i=l.length by omega)]
  refine rP 2 [] I ?_
  refine RK F<|aB<|LX hQ (a,c) [2] [] I U U U U ?_
  trivial
 refine WK R<|al fun _ G=>aF<|WS fun _ D=>rP 1 [] I ?_
 obtain ⟨x,hx⟩:=aQ l i om
 have S:=cG cx.cells hx
 refine rS (IA i U (aS 0 U) Dr dc om om)<|rS (r_ i 0 (cx.cells x) U cz (aS 0 U) S U dc U U)<|AL U w9 fun T=>a_ 1 U<|fw U EC U<|RK D<|WS fun _ E=>rP 3 [] (mc 0 U I) ?_
 refine rS (SX (oO U U U (hf (i:Int) x ⟨i,U,hx⟩) (bj [2])) U U)<|RK E<|cu U (fun hp=>?_) (fun hp=>?_)
 ·refine cJ<|aH<|KK G<|au ?_
  rw [← HP (p:=fun (i:Nat) x=>p (i:Int) x) hx hp]
  refine rP 2 [] I ?_
  refine aG ?_
  have AB:(vI (((i+1):Nat):Int))=(vI ((i:Int)+1)):=by exact cI om
  refine bc (C ⟨((i+1),a,c),(by first|omega|(simp only []; omega))⟩ _ _ _ U os (du 5<|bO U AB<|ew.nil _) (aJ [1,2,3]))
 refine au<|rP 2 [] I ?_
 refine ck (xs:=[.tmp 20]) (cs:=[(vI (i:Int))]) U b0 gI U U U U (by simp [Value.cells]) U U fun AA=>?_
 refine dL (es2:=(List.map iC (o1 (fun jj yy=>p (jj:Int) yy) l (i+1)))) (m':=(o1 (fun jj yy=>p (jj:Int) yy) l (i+1)).length) 4 U U U q8 U U sm (aP (es:=List.map iC [(i:Int)]) 0 U U (by simp [aW]) U) (ku _) (by have:=xB (p:=fun (i:Nat) x=>p (i:Int) x) (l:=l) (n:=i); simp; omega) (by have:=xB (p:=fun (i:Nat) x=>p (i:Int) x) (l:=l) (n:=i); simp only [maxLen]; omega) (by rw [F5 hx hp]; simp) sm U fun J K=>?_
 try dsimp only
 refine a_ 1 U<|aG<|aH<|KK G<|au<|rP 2 [] I ?_
 refine aG ?_
 have H:(vI (((i+1):Nat):Int))=(vI ((i:Int)+1)):=by exact cI om
 refine bc (C ⟨((i+1),J,K),(by first|omega|(simp only []; omega))⟩ _ _ _ U os (du 5<|bO U H<|ew.nil _) (aJ [2,3,4]))
theorem vZ (ts:List ao) (tsA:OA) (tsC:Nat) (l:List cx) (lA:OA) (lC:Nat) (hst: ∀ x∈ts,cn x) (hlen:ts.length≤12) (hl:l.length≤4):
 dQ Tryz.prog 145 [(vA (db.cells (db.mk (bK.mk (ba.mk tsA ts.length tsC))))),(vS lA l.length lC)] [(rd tsA ts.length 9 (ts.map ao.cells)),(rd lA l.length 3 (l.map cx.cells))] (vB (decide (∀ s∈l,eI ts s))):=by
 refine bx kr Tryz.func145 U U fun J Q hQ hN=>?_
 try dsimp only
 refine WS fun _ B=>g5 U fun A=>a_ 1 U<|RK B<|WS fun _ C=>rP 1 [] I ?_
 refine rS (FU U) ?_
 refine cX (zo l lA lC (Value.func (.func 160) [].toArray [(vP A)].toArray) (fun E D=>(!(decide (eI ts D)))) (eR [(rd tsA ts.length 9 (ts.map ao.cells)),(bJ A 203 (db.cells (db.mk (bK.mk (ba.mk tsA ts.length tsC)))))]) (by intro E D _; exact kK (fi:=[]) (ca:=[(vP A)]) (jP (AX E D ts tsA tsC A (by first|assumption|omega) (by first|assumption|omega)) (bj [0,1]))) om) (cY 2 U U<|ae (jO (bj [1,0]))<|aC) U fun G F=>?_
 obtain ⟨H,AA⟩:=G
 try dsimp only
 refine rP 3 [] I ?_
 refine RK C<|aB<|Q1 hQ U U U ?_
 exact congrArg Value.bool (decide_eq_decide.2 (by rw [show ∀ n:Nat,((n:Int)=0)↔n=0 from fun n=>by omega,Bv]; simp only [Bool.not_eq_false',decide_eq_true_eq]; exact ⟨fun h s hs=>by obtain ⟨k,hk⟩:=List.getElem?_of_mem hs; exact h k s hk,fun h k s hk=>h s (List.mem_of_getElem? hk)⟩))
theorem yC (z:ab) (hz:ld z):
 dQ Tryz.prog 162 [(vA (ab.cells z))] [] (vA (ab.cells (nQ z))):=by
 unfold ld at hz
 refine bx kr Tryz.func162 U U fun E Q hQ hN=>?_
 try dsimp only
 refine WS fun _ A=>g5 U fun C=>AL U dK fun D=>RK A<|WS fun _ B=>hE 2 [] (mc 1 U I) U<|rS (NG U ⟨om,om⟩)<|rP 2 [] (mc 1 U I) ?_
 refine rS (NG U ⟨om,om⟩)<|rS (SX (bh (xs:=[(0,.tmp 5),(1,.tmp 8)]) (cs:=(ab.cells (ab.mk (-z.Hi) (-z.Lo)))) U U (bg jt U)) U U)<|fw U cT U<|RK B<|aB ?_
 exact CW hQ [0] (mc 0 U I) U U
theorem Ml (ts:List ao) (tsA:OA) (tsC:Nat) (s:cx) (hlen:ts.length≤1000000) (hside: ∀ x∈ts,0≤x.jy∧x.jy≤255):
 dQ Tryz.prog 124 [(vA (bK.cells (bK.mk (ba.mk tsA ts.length tsC)))),(vA (cx.cells s))] [(rd tsA ts.length 9 (ts.map ao.cells))] (vT [(vA (ab.cells (Kz ts s))),(vI (Bf ts s))]):=by
 refine bx kr Tryz.func124 U U fun Z Q hQ hN=>?_
 try dsimp only
 refine WS fun _ K=>g5 U fun V=>g5 U fun W=>AL U dK fun X=>a_ 1 U<|RK K<|WS fun _ L=>hE 1 [] (mc 2 U I) U<|rS (CL (Am ts tsA tsC hlen hside) (bj [3]) U)<|a_ 3 U<|AL U Fk fun Y=>fw U Fm U<|a_ 1 U<|RK L<|al fun _ M=>WS fun _ N=>rP 2 [] I ?_
 refine RK N<|dF U (bL fun he=>?_) (bM fun he=>?_)
 ·refine WS fun _ O=>rS (SX (bh (xs:=[]) (cs:=(ab.cells (ab.mk 0 0))) U U (bg jt U)) U U)<|a_ 1 U<|vU U cT U<|rP 1 [] I ?_
  refine RK O<|aB<|pP hQ [0] (mc 1 U I) U ?_
  (have e:=Jj (s:=s) (tF he).1; rw [e.1,e.2,(tF he).2]<;>rfl)
 refine WK M<|al fun _ C=>WS fun _ D=>?_
 have B:=yp he
 have H:=m1 B
 have R:=oS B
 refine rP 2 [0,1] (mc 0 U (mc 2 U I)) ?_
 refine ck (xs:=[.tmp 20]) (cs:=(cx.cells s)) U Dr w9 U U U U (by simp [Value.cells,cx.aL]) U U fun AB=>?_
 refine rS (CL (dQ.eq (vZ ts tsA tsC ([s]) (some ⟨AB,0,none⟩) 1 asm asm (by (simp; done))) zy) (cY 5 U U<|ae (aP 0 U U (by simp [cx.aL]) U)<|aC) U) ?_
 refine rP 1 [] I ?_
 refine RK D<|dF U (bL fun A=>?_) (bM fun A=>?_)
 ·refine WS fun _ E=>rS (SX (bh (xs:=[]) (cs:=(ab.cells (ab.mk 0 0))) U U (bg jt U)) U U)<|Io U cT U<|rP 1 [] I ?_
  refine RK E<|aB<|pP hQ [0] (mc 2 U I) U ?_
  (have e:=I8 B A; rw [e.1,e.2]<;>rfl)
 refine WK C<|WS fun _ F=>?_
 have AA:=A.1
 have P:=zk H A
 refine hE 3 [0,1] (mc 1 U (mc 3 U I)) U<|rS (CL (Ed ts tsA tsC 0 s.bB asm asm om) (bj [5]) U)<|a_ 3 U<|AL U dK fun S=>AL U dK fun T=>vU U cT U<|fw U cT U<|RK F<|WS fun _ G=>rP 2 [] (mc 1 U I) ?_
 refine rS (LP (ab.cells s.o7) 5 U cz U U U)<|ck (xs:=[.tmp 34]) (cs:=(ab.cells s.o7)) U jZ dK U U U U (by simp [Value.cells,ab.aL]) U U fun J=>?_
 refine rS (CL (dQ.eq (mM (eO ts (0:Int).toNat (s.bB-0).toNat) ([s.o7]) (some ⟨J,0,none⟩) 1 (by exact nI H om) (by intro z hz; simp only [bD] at hz; subst hz; exact P) sm) kR) (ae (aP 0 rfl rfl (by simp [ab.aL]) rfl)<|aC) rfl) ?_
 refine Iz U cT U<|rP 1 [] I ?_
 refine RK G<|aB<|pP hQ [0] (mc 5 U I) U ?_
 (have e:=ID B A; rw [e.1,e.2]; unfold Gj; rw [show (s.bB-0).toNat=s.bB.toNat by rw [Int.sub_zero]]<;>rfl)
theorem Hg (ts:List ao) (tsA:OA) (tsC:Nat) (p:cx) (q:cx) (hlen:ts.length≤1000000) (hside: ∀ x∈ts,0≤x.jy∧x.jy≤255):
 dQ Tryz.prog 148 [(vA (bK.cells (bK.mk (ba.mk tsA ts.length tsC)))),(vA (cx.cells p)),(vA (cx.cells q))] [(rd tsA ts.length 9 (ts.map ao.cells))] (vT [(vA (ab.cells (pV ts p q))),(vI (kB ts p q))]):=by
 refine bx kr Tryz.func148 U U fun w Q hQ hN=>?_
 try dsimp only
 refine WS fun _ c=>g5 U fun r=>g5 U fun s=>g5 U fun t=>AL U dK fun u=>a_ 1 U<|RK c<|WS fun _ d=>hE 1 [] (mc 3 U I) U<|rS (CL (Am ts tsA tsC hlen hside) (bj [4]) U)<|a_ 3 U<|AL U Fk fun v=>fw U Fm U<|a_ 1 U<|RK d<|al fun _ g=>WS fun _ h=>rP 2 [] I ?_
 refine RK h<|dF U (bL fun he=>?_) (bM fun he=>?_)
 ·refine WS fun _ G=>rS (SX (bh (xs:=[]) (cs:=(ab.cells (ab.mk 0 0))) U U (bg jt U)) U U)<|a_ 1 U<|vU U cT U<|rP 1 [] I ?_
  refine RK G<|aB<|pP hQ [0] (mc 1 U I) U ?_
  (have e:=CI (a:=p) (b:=q) (tF he).1; rw [e.1,e.2,(tF he).2]<;>rfl)
 refine WK g<|al fun _ H=>WS fun _ AB=>?_
 have A:=yp he
 have F:=m1 A
 have j:=oS A
 refine rP 3 [0,1,2] (mc 0 U (mc 3 U (mc 2 U I))) ?_
 refine ck (xs:=[.tmp 22,.tmp 23]) (cs:=((cx.cells p)++(cx.cells q))) U Dr w9 U U U U (by simp [Value.cells,cx.aL]) U U fun X=>?_
 refine rS (CL (dQ.eq (vZ ts tsA tsC ([p,q]) (some ⟨X,0,none⟩) 2 asm asm (by (simp; done))) yI) (cY 6 U U<|ae (aP 0 U U (by simp [cx.aL]) U)<|aC) U) ?_
 refine rP 1 [] I ?_
 refine RK AB<|dF U (bL fun D=>?_) (bM fun D=>?_)
 ·refine WS fun _ J=>rS (SX (bh (xs:=[]) (cs:=(ab.cells (ab.mk 0 0))) U U (bg jt U)) U U)<|Io U cT U<|rP 1 [] I ?_
  refine RK J<|aB<|pP hQ [0] (mc 2 U I) U ?_
  (have e:=BG A D; rw [e.1,e.2]<;>rfl)
 refine WK H<|WS fun _ K=>?_
 obtain ⟨hp,hq⟩:=D
 have n:=hp.1
 have o:=hq.1
 have i:=zk F hp
 have W:=zk F hq
 have V:=vi i
 have B:=nI F (f:=(min p.bB q.bB).toNat) (k:=(max p.bB q.bB-min p.bB q.bB).toNat) om
 refine hE 5 [0,1,2] (mc 1 U (mc 4 U (mc 3 U I))) U<|rS (MN U)<|hE 4 [0,1] (mc 4 U (mc 3 U I)) U<|rS (MX U)<|rS (CL (Ed ts tsA tsC (min p.bB q.bB) (max p.bB q.bB) asm asm om) (bj [6]) U)<|a_ 3 U<|AL U dK fun l=>AL U dK fun m=>vU U cT U<|fw U cT U<|RK K<|al fun _ C=>WS fun _ L=>rP 5 [0,1] (mc 5 U (mc 6 U I)) ?_
 refine RK L<|cu U (aZ fun E=>?_) (aY fun E=>?_)
 ·refine WK C<|al fun _ N=>ek cE [6,7,8] [] [] [0,1,2,3,5,6,7,8] [] U U U U U<|eS U (LW 1 U cz U U)<|eS U (FA 1 U fI U)<|eS U (LP (ab.cells q.o7) 4 U cz U U U)<|eS U (FA 1 U fI U)<|eS U (LP (ab.cells p.o7) 5 U cz U U U)<|eS U (CL (yC p.o7 asm) (aC) U)<|eS U (AG U)<|e7 U<|cf U fun T26 S=>ck (xs:=[.tmp 52,.tmp 55]) (cs:=((ab.cells q.o7)++(ab.cells (nQ p.o7)))) U jZ dK U U U U (by simp [Value.cells,ab.aL]) U U fun Z=>aG (S _ _ (aJ [1,2,3,4,6,7,8,9]) ?_)
  refine cf U fun T28 T=>?_
  refine rS (CL (dQ.eq (mM (eO ts (min p.bB q.bB).toNat ((max p.bB q.bB)-(min p.bB q.bB)).toNat) ([q.o7,(nQ p.o7)]) (some ⟨Z,0,none⟩) 2 (by first|exact B|exact vi B) (by intro z hz; simp only [cO,List.not_mem_nil,or_false] at hz; rcases hz with rfl|rfl; exact W; exact V) sm) wB) (ae (aP 0 rfl rfl (by simp [ab.aL]) rfl)<|aC) rfl) ?_
  refine aG (T _ _ (aJ [1,2,3,4,6,7,8,9]) ?_)
  refine cf U fun T29 AA=>Iz U cT U<|aG (AA _ _ (aJ [1,2,3,4,6,7,8,9]) ?_)
  refine fH U<|KK N<|aB<|pP hQ [0] (mc 5 U I) U ?_
  (have e:=sf A ⟨hp,hq⟩; rw [e.1,e.2]; unfold kG vG; rw [if_neg E]<;>rfl)
 refine au<|rP 1 [] (mc 1 U I) ?_
 refine rS (CL (yC (eO ts (min p.bB q.bB).toNat ((max p.bB q.bB)-(min p.bB q.bB)).toNat) asm) (aC) U)<|vU U cT U<|RK C<|al fun _ M=>ek cE [6,7,8] [] [] [0,1,2,3,5,6,7,8] [] U U U U U<|eS U (LW 1 U cz U U)<|eS U (FA 1 U fI U)<|eS U (LP (ab.cells q.o7) 4 U cz U U U)<|eS U (FA 1 U fI U)<|eS U (LP (ab.cells p.o7) 5 U cz U U U)<|eS U (CL (yC p.o7 asm) (aC) U)<|eS U (AG U)<|e7 U<|cf U fun T21 O=>ck (xs:=[.tmp 52,.tmp 55]) (cs:=((ab.cells q.o7)++(ab.cells (nQ p.o7)))) U jZ dK U U U U (by simp [Value.cells,ab.aL]) U U fun Y=>aG (O _ _ (aJ [1,2,3,4,6,7,8,9]) ?_)
 refine cf U fun T23 P=>?_
 refine rS (CL (dQ.eq (mM (nQ (eO ts (min p.bB q.bB).toNat ((max p.bB q.bB)-(min p.bB q.bB)).toNat)) ([q.o7,(nQ p.o7)]) (some ⟨Y,0,none⟩) 2 (by first|exact B|exact vi B) (by intro z hz; simp only [cO,List.not_mem_nil,or_false] at hz; rcases hz with rfl|rfl; exact W; exact V) sm) wB) (ae (aP 0 rfl rfl (by simp [ab.aL]) rfl)<|aC) rfl) ?_
 refine aG (P _ _ (aJ [1,2,3,4,6,7,8,9]) ?_)
 refine cf U fun T24 R=>Iz U cT U<|aG (R _ _ (aJ [1,2,3,4,6,7,8,9]) ?_)
 refine fH U<|KK M<|aB<|pP hQ [0] (mc 5 U I) U ?_
 (have e:=sf A ⟨hp,hq⟩; rw [e.1,e.2]; unfold kG vG; rw [if_pos E]<;>rfl)
end
section
open Go.RowKit
theorem Jx (l:aU) (kA:OA) (kC:Nat) (az:List RA) (cA:OA) (cC:Nat) (bA:OA) (bC:Nat) (hin:fh l az):
 dQ Tryz.prog 115 [(vA (cj.cells (mW l kA kC cA cC bA bC)))] [(rd kA l.aO.length 9 (l.aO.map ao.cells)),(rd cA l.ak.length 2 (List.zipWith aA.cells l.ak az)),(eR (aR aA.jx l.ak az)),(rd bA l.ag.length 4 (l.ag.map bG.cells))] (vB (decide (iU l))):=by
 have R:=hin.wJ
 have P:=hin.wI
 have N:=hin.pQ
 have O:=hin.v8
 refine bx kr Tryz.func115 U U fun T Q hQ hN=>?_
 try dsimp only
 refine WS fun _ G=>g5 U fun S=>a_ 1 U<|RK G<|WS fun _ A=>rP 2 [] (mc 0 U I) ?_
 refine ck (xs:=[.tmp 4]) (cs:=[(vI l.gV)]) U b0 gI U U U U (by simp [Value.cells]) U U fun H=>?_
 refine rS (CL (dQ.eq (gi 1 5000 ([l.gV]) (some ⟨H,0,none⟩) 1 (by (simp; done))) bZ) (ae (aP 0 U U (by simp [aW]) U)<|aC) U) ?_
 refine rP 1 [] I ?_
 refine bH (t:=7) U (aZ fun K=>?_) (aY fun K=>?_)
 ·refine rP 36 [] I ?_
  refine RK A<|aB<|Q1 hQ U U U ?_
  exact cB (df (by unfold iU; omega)).symm
 refine rP 3 [] (mc 1 U I) ?_
 refine ck (xs:=[.tmp 10]) (cs:=[(vI (l.ak.length:Int))]) U b0 gI U U U U (by simp [Value.cells]) U U fun AA=>?_
 refine rS (CL (dQ.eq (gi 1 4 ([(l.ak.length:Int)]) (some ⟨AA,0,none⟩) 1 (by (simp; done))) bZ) (ae (aP 0 U U (by simp [aW]) U)<|aC) U) ?_
 refine rP 2 [] I ?_
 refine bH (t:=14) U (aZ fun L=>?_) (aY fun L=>?_)
 ·refine rP 29 [] I ?_
  refine RK A<|aB<|Q1 hQ U U U ?_
  exact cB (df (by unfold iU; omega)).symm
 refine rP 3 [] (mc 2 U I) ?_
 refine ck (xs:=[.tmp 17]) (cs:=[(vI (l.ag.length:Int))]) U b0 gI U U U U (by simp [Value.cells]) U U fun J=>?_
 refine rS (CL (dQ.eq (gi 1 6 ([(l.ag.length:Int)]) (some ⟨J,0,none⟩) 1 (by (simp; done))) bZ) (ae (aP 0 U U (by simp [aW]) U)<|aC) U) ?_
 refine rP 2 [] I ?_
 refine bH (t:=21) U (aZ fun M=>?_) (aY fun M=>?_)
 ·refine rP 22 [] I ?_
  refine RK A<|aB<|Q1 hQ U U U ?_
  exact cB (df (by unfold iU; omega)).symm
 refine rP 6 [] (mc 3 U I) ?_
 refine ck (xs:=[.tmp 27]) (cs:=[(vI l.ct)]) U b0 gI U U U U (by simp [Value.cells]) U U fun B=>?_
 refine rS (CL (dQ.eq (gi 0 ((l.ag.length:Int)-1) ([l.ct]) (some ⟨B,0,none⟩) 1 (by (simp; done))) bZ) (ae (aP 0 U U (by simp [aW]) U)<|aC) U) ?_
 refine rP 2 [] I ?_
 refine bH (t:=31) U (aZ fun E=>?_) (aY fun E=>?_)
 ·refine rP 12 [] I ?_
  refine RK A<|aB<|Q1 hQ U U U ?_
  exact cB (df (by unfold iU; omega)).symm
 refine rP 2 [] (mc 4 U I) ?_
 refine ck (xs:=[.tmp 33]) (cs:=[(vI l.er)]) U b0 gI U U U U (by simp [Value.cells]) U U fun C=>?_
 refine rS (CL (dQ.eq (gi 0 3 ([l.er]) (some ⟨C,0,none⟩) 1 (by (simp; done))) bZ) (ae (aP 0 U U (by simp [aW]) U)<|aC) U) ?_
 refine rP 2 [] I ?_
 refine bH (t:=37) U (aZ fun F=>?_) (aY fun F=>?_)
 ·refine rP 6 [] I ?_
  refine RK A<|aB<|Q1 hQ U U U ?_
  exact cB (df (by unfold iU; omega)).symm
 refine rP 2 [] (mc 5 U I) ?_
 refine ck (xs:=[.tmp 39]) (cs:=[(vI l.dx)]) U b0 gI U U U U (by simp [Value.cells]) U U fun D=>?_
 refine rS (CL (dQ.eq (gi 0 3 ([l.dx]) (some ⟨D,0,none⟩) 1 (by (simp; done))) bZ) (ae (aP 0 U U (by simp [aW]) U)<|aC) U) ?_
 refine rP 2 [] I ?_
 refine RK A<|aB<|Q1 hQ U U U ?_
 exact cB (decide_eq_decide.2 (by unfold iU; omega))
theorem JB (l:aU) (kA:OA) (kC:Nat) (az:List RA) (cA:OA) (cC:Nat) (bA:OA) (bC:Nat) (hin:fh l az):
 dQ Tryz.prog 117 [(vA (cj.cells (mW l kA kC cA cC bA bC)))] [(rd kA l.aO.length 9 (l.aO.map ao.cells)),(rd cA l.ak.length 2 (List.zipWith aA.cells l.ak az)),(eR (aR aA.jx l.ak az)),(rd bA l.ag.length 4 (l.ag.map bG.cells))] (vB (decide (∀ c∈l.ak,eU c))):=by
 have H:=hin.wJ
 have G:=hin.wI
 have E:=hin.pQ
 have F:=hin.v8
 refine bx kr Tryz.func117 U U fun K Q hQ hN=>?_
 try dsimp only
 refine WS fun _ C=>g5 U fun J=>a_ 1 U<|RK C<|WS fun _ D=>rP 2 [] (mc 0 U I) ?_
 refine rS (CL (vp l.ak az cA cC (Value.func (.func 119) [].toArray [].toArray) (fun m=>(!(decide (eU m)))) (eR (aR aA.jx l.ak az)) (by intro AA m a B A; exact kK (fi:=[]) (ca:=[]) (Ll l.ak az AA m a (by exact B) (by exact A) (by exact hin.LQ _ _ _ B A))) asm asm) (Hy 2 3 3 U U U U U U) U) ?_
 refine rP 2 [] I ?_
 refine RK D<|aB<|Q1 hQ U U U ?_
 exact cB (by rw [Bool.eq_iff_iff,decide_eq_true_eq]; exact zp)
theorem Jg (b:bG) (l:aU) (kA:OA) (kC:Nat) (az:List RA) (cA:OA) (cC:Nat) (bA:OA) (bC g1:Nat) (hin:fh l az) (htr:cv l.aO=true):
 dQ Tryz.prog 123 [(vA (bG.cells b)),(vP g1)] [(rd kA l.aO.length 9 (l.aO.map ao.cells)),(rd cA l.ak.length 2 (List.zipWith aA.cells l.ak az)),(eR (aR aA.jx l.ak az)),(rd bA l.ag.length 4 (l.ag.map bG.cells)),(bJ g1 31 (cj.cells (mW l kA kC cA cC bA bC)))] (vB (!(decide (j2 l b)))):=by
 have J:=hin.wJ
 have H:=hin.wI
 have F:=hin.pQ
 have G:=hin.v8
 have AA:=hin.side
 refine bx kr Tryz.func123 U U fun M Q hQ hN=>?_
 try dsimp only
 refine WS fun _ C=>g5 U fun K=>a_ 1 U<|RK C<|WS fun _ D=>a_ 1 U<|rS (NY (bK.cells (bK.mk (ba.mk kA l.aO.length kC))) 5 U cz U U U)<|a_ 1 U<|rS (LP (cx.cells b.oT) 0 U cz U U U)<|rS (CL (Ml l.aO kA kC b.oT asm asm) (bj [1]) U)<|a_ 3 U<|AL U dK fun L=>fw U cT U<|a_ 1 U<|RK D<|WS fun _ B=>rP 3 [] I ?_
 refine eH (t:=16) U (bL fun A=>?_) (bM fun A=>?_)
 ·refine rP 11 [] I ?_
  refine RK B<|aB<|Q1 hQ U U U ?_
  (refine cB ?_; rw [df (fun h:j2 l b=>A ((AS htr).2 h.1))]; rfl)
 refine rP 6 [0,1] (mr 6 U (mc 1 U I)) ?_
 refine ck (xs:=[.tmp 22]) (cs:=[(vI b.l_)]) U b0 gI U U U U (by simp [Value.cells]) U U fun E=>?_
 refine rS (CL (dQ.eq (gi 0 ((l.ak.length:Int)-1) ([b.l_]) (some ⟨E,0,none⟩) 1 (by (simp; done))) bZ) (ae (aP 0 U U (by simp [aW]) U)<|aC) U) ?_
 refine rP 3 [] I ?_
 refine RK B<|aB<|Q1 hQ U U U ?_
 (refine cB ?_; refine congrArg Bool.not (decide_eq_decide.2 ⟨fun h=>⟨(AS htr).1 A,om,om⟩,fun h=>by have:=h.2; omega⟩))
theorem Jb (l:aU) (kA:OA) (kC:Nat) (az:List RA) (cA:OA) (cC:Nat) (bA:OA) (bC:Nat) (hin:fh l az) (htr:cv l.aO=true):
 dQ Tryz.prog 121 [(vA (cj.cells (mW l kA kC cA cC bA bC)))] [(rd kA l.aO.length 9 (l.aO.map ao.cells)),(rd cA l.ak.length 2 (List.zipWith aA.cells l.ak az)),(eR (aR aA.jx l.ak az)),(rd bA l.ag.length 4 (l.ag.map bG.cells))] (vB (decide (∀ b∈l.ag,j2 l b))):=by
 have H:=hin.wJ
 have G:=hin.wI
 have E:=hin.pQ
 have F:=hin.v8
 refine bx kr Tryz.func121 U U fun AA Q hQ hN=>?_
 try dsimp only
 refine WS fun _ B=>g5 U fun A=>a_ 1 U<|RK B<|WS fun _ C=>rP 2 [] (mc 0 U I) ?_
 refine rS (FU U) ?_
 refine rS (CL (u0 l.ag bA bC (Value.func (.func 123) [].toArray [(vP A)].toArray) (fun D=>(!(decide (j2 l D)))) (eR [(rd kA l.aO.length 9 (l.aO.map ao.cells)),(rd cA l.ak.length 2 (List.zipWith aA.cells l.ak az)),(eR (aR aA.jx l.ak az)),(rd bA l.ag.length 4 (l.ag.map bG.cells)),(bJ A 31 (cj.cells (mW l kA kC cA cC bA bC)))]) (by intro D _; exact kK (fi:=[]) (ca:=[(vP A)]) (jP (Jg D l kA kC az cA cC bA bC A (by first|assumption|omega) (by first|assumption|omega)) (bj [0,1,2,3,4]))) asm) (cY 4 U U<|ae (jO (bj [1,2,3,4,0]))<|aC) U) ?_
 refine rP 2 [] I ?_
 refine RK C<|aB<|Q1 hQ U U U ?_
 exact cB (by rw [Bool.eq_iff_iff,decide_eq_true_eq]; exact Bo)
theorem IT (l:aU) (kA:OA) (kC:Nat) (az:List RA) (cA:OA) (cC:Nat) (bA:OA) (bC:Nat) (n:Int) (hin:fh l az) (htr:cv l.aO=true) (hbk: ∀ b∈l.ag,j2 l b) (hn:0≤n∧n<(l.ag.length:Int)):
 dQ Tryz.prog 126 [(vA (cj.cells (mW l kA kC cA cC bA bC))),(vI n)] [(rd kA l.aO.length 9 (l.aO.map ao.cells)),(rd cA l.ak.length 2 (List.zipWith aA.cells l.ak az)),(eR (aR aA.jx l.ak az)),(rd bA l.ag.length 4 (l.ag.map bG.cells))] (vI (lj l n.toNat)):=by
 have P:=hin.wJ
 have N:=hin.wI
 have L:=hin.pQ
 have M:=hin.v8
 have O:=hin.side
 refine bx kr Tryz.func126 U U fun AA Q hQ hN=>?_
 try dsimp only
 refine WS fun _ E=>g5 U fun R=>a_ 1 U<|RK E<|WS fun _ F=>rP 3 [] (mc 0 U I) ?_
 obtain ⟨x,hx⟩:=aQ l.ag ((n).toNat) om
 have J:=cG bG.cells hx
 refine rS (IA ((n).toNat) U (aS 4 U) Ba dc om om)<|rS (sV (((n).toNat)*4) U (aS 4 U) (Nat.mul_pos om dc) fI U)<|rS (r_ ((n).toNat) 0 (cx.cells x.oT) U cz (aS 4 U) J U dc U U)<|AL U w9 fun S=>fw U EC U<|RK F<|WS fun _ G=>a_ 1 U<|rS (LP (bK.cells (bK.mk (ba.mk kA l.aO.length kC))) 1 U cz U U U)<|hE 1 [] (mc 0 U I) U<|rS (CL (Ml l.aO kA kC x.oT asm asm) (bj [2]) U)<|a_ 3 U<|AL U dK fun T=>fw U cT U<|a_ 1 U<|RK G<|al fun _ C=>WS fun _ H=>rP 2 [] I ?_
 refine RK H<|cu U (aZ fun D=>?_) (aY fun D=>?_)
 ·refine WK C<|WS fun _ B=>rP 3 [] (mc 0 U I) ?_
  refine RK B<|aB<|Q1 hQ U U U ?_
  (refine congrArg (Value.int .i64) ?_; rw [show n.toNat=0 by omega] at hx ⊢; rw [CJ hx,(ID htr (hbk _ (List.mem_of_getElem? hx)).1).2])
 refine ek cE [14] [] [] [1,2,3,4,5,6] [] U U U U U<|eS U (FA 0 U fI U)<|eS U (LP (bK.cells (bK.mk (ba.mk kA l.aO.length kC))) 1 U cz U U U)<|eS U (FA 3 U fI U)<|eS U (L1 (vS bA l.ag.length bC) 1 U cz U U)<|eS U (MV U)<|eS U (BI U (pJ ⟨om,om⟩)) ?_
 obtain ⟨y,hy⟩:=aQ l.ag (((n-1)).toNat) om
 have K:=cG bG.cells hy
 refine eS U (IA (((n-1)).toNat) U (aS 5 U) Ba dc om om)<|eS U (sV ((((n-1)).toNat)*4) U (aS 5 U) (Nat.mul_pos om dc) fI U)<|eS U (r_ (((n-1)).toNat) 0 (cx.cells y.oT) U cz (aS 5 U) K U dc U U)<|eS U (LW 0 U cz U U)<|eS U (CL (Hg l.aO kA kC y.oT x.oT asm asm) (bj [2]) U)<|eS U (MV U)<|eS U (EX U)<|eS U (EX U)<|e7 U<|cf U fun T9 AB=>fw U cT U<|aG (AB _ _ (aJ [1,2,3,4,5,6]) ?_)
 refine fH U<|KK C<|WS fun _ A=>rP 3 [] (mc 0 U I) ?_
 refine RK A<|aB<|Q1 hQ U U U ?_
 (refine congrArg (Value.int .i64) ?_; rw [D9 om hx (by rw [show n.toNat-1=(n-1).toNat by omega]; exact hy),(sf htr ⟨(hbk _ (List.mem_of_getElem? hy)).1,(hbk _ (List.mem_of_getElem? hx)).1⟩).2])
theorem Kl (l:aU) (kA:OA) (kC:Nat) (az:List RA) (cA:OA) (cC:Nat) (bA:OA) (bC:Nat) (hin:fh l az) (htr:cv l.aO=true) (hbk: ∀ b∈l.ag,j2 l b):
 dQ Tryz.prog 125 [(vA (cj.cells (mW l kA kC cA cC bA bC)))] [(rd kA l.aO.length 9 (l.aO.map ao.cells)),(rd cA l.ak.length 2 (List.zipWith aA.cells l.ak az)),(eR (aR aA.jx l.ak az)),(rd bA l.ag.length 4 (l.ag.map bG.cells))] (vB (decide (∀ i,i<l.ag.length→1≤lj l i))):=by
 have V:=hin.wJ
 have AA:=hin.wI
 have S:=hin.pQ
 have T:=hin.v8
 refine bx kr Tryz.func125 U U fun X Q hQ hN=>?_
 try dsimp only
 refine WS fun _ J=>g5 U fun W=>a_ 1 U<|RK J<|al fun _ K=>WS fun _ L=>rP 4 [] (mc 0 U I) ?_
 refine RK L<|aF ?_
 have A:(0≤l.ag.length)∧(∀ j,j<0→1≤lj l j):=by exact ⟨Nat.zero_le _,fun j hj=>absurd hj (Nat.not_lt_zero _)⟩
 refine bX (ι:={z:Nat // (z≤l.ag.length)∧(∀ j,j<z→1≤lj l j)}) [1,6] [0,1,2,3,4] U U (fun z=>[(7,(vI (z.1:Int)))]) (fun z=>[]) (fun _=>rfl) (fun _=>rfl) (fun z=>l.ag.length-z.1) ⟨0,A⟩ (aT U) (aJ [0,1,2,3,4]) ?_
 clear A
 rintro ⟨i,⟨P,B⟩⟩ J5 AB
 try dsimp only
 refine WS fun _ M=>rP 1 [] I ?_
 refine RK M<|al fun _ N=>cu U (aZ fun R=>?_) (aY fun R=>?_)
 ·refine bq<|ah<|ah<|aD<|KK K<|WS fun _ G=>rP 1 [] I ?_
  refine RK G<|aB<|Q1 hQ U U U ?_
  exact cB (g6 (fun j hj=>B j om)).symm
 refine WK N<|al fun _ O=>aF<|WS fun _ D=>a_ 2 U<|RK D<|WS fun _ E=>hE 2 [] (mc 0 U I) U<|rS (CL (IT l kA kC az cA cC bA bC (i:Int) hin htr hbk om) (bj [1,2,3,4]) U)<|rP 1 [] I ?_
 refine RK E<|dF U (aY fun C=>?_) (aZ fun C=>?_)
 ·refine WS fun _ F=>rP 1 [] I ?_
  refine RK F<|aB<|Q1 hQ U U U ?_
  exact cB (df (fun h=>by have:=h i om; simp only [Int.toNat_natCast] at C; omega)).symm
 refine cJ<|aH<|KK O<|au<|rP 2 [] I ?_
 refine aG ?_
 have H:(vI (((i+1):Nat):Int))=(vI ((i:Int)+1)):=by exact cI om
 refine bc (AB ⟨(i+1),⟨om,fun j hj=>by rcases Nat.lt_or_ge j i with q|q; exact B j q; (obtain rfl:j=i:=by omega); simp only [Int.toNat_natCast] at C; omega⟩⟩ _ _ _ rfl os (ew.cons rfl<|ew.cons rfl<|bO rfl H<|ew.nil _) (aJ [0,1,2,3,4]))
end
section
open Go.RowKit
theorem Jc:
 dQ Tryz.prog 83 [] [] (vA ((eZ.cells (eZ.mk (Value.func (.func 115) [].toArray [].toArray)))++(eZ.cells (eZ.mk (Value.func (.func 117) [].toArray [].toArray)))++(eZ.cells (eZ.mk (Value.func (.func 121) [].toArray [].toArray)))++(eZ.cells (eZ.mk (Value.func (.func 125) [].toArray [].toArray))))):=by
 refine bx kr Tryz.func83 U U fun D Q hQ hN=>?_
 try dsimp only
 refine WS fun _ A=>AL U LB fun C=>RK A<|WS fun _ B=>rS (SX (bh (xs:=[(0,.func 115)]) (cs:=(eZ.cells (eZ.mk (Value.func (.func 115) [].toArray [].toArray)))) U U (bg Au U)) U U)<|rS (SX (bh (xs:=[(0,.func 117)]) (cs:=(eZ.cells (eZ.mk (Value.func (.func 117) [].toArray [].toArray)))) U U (bg Au U)) U U)<|rS (SX (bh (xs:=[(0,.func 121)]) (cs:=(eZ.cells (eZ.mk (Value.func (.func 121) [].toArray [].toArray)))) U U (bg Au U)) U U)<|rS (SX (bh (xs:=[(0,.func 125)]) (cs:=(eZ.cells (eZ.mk (Value.func (.func 125) [].toArray [].toArray)))) U U (bg Au U)) U U)<|rS (SX (bh (xs:=[(0,.tmp 1),(1,.tmp 2),(2,.tmp 3),(3,.tmp 4)]) (cs:=((eZ.cells (eZ.mk (Value.func (.func 115) [].toArray [].toArray)))++(eZ.cells (eZ.mk (Value.func (.func 117) [].toArray [].toArray)))++(eZ.cells (eZ.mk (Value.func (.func 121) [].toArray [].toArray)))++(eZ.cells (eZ.mk (Value.func (.func 125) [].toArray [].toArray))))) U U (bg Ln U)) U U)<|fw U KC U<|RK B<|aB ?_
 exact CW hQ [0] (mc 0 U I) U U
theorem xr (l:aU) (kA:OA) (kC:Nat) (az:List RA) (cA:OA) (cC:Nat) (bA:OA) (bC:Nat) (hin:fh l az):
 dQ Tryz.prog 61 [(vA (cj.cells (mW l kA kC cA cC bA bC)))] [(rd kA l.aO.length 9 (l.aO.map ao.cells)),(rd cA l.ak.length 2 (List.zipWith aA.cells l.ak az)),(eR (aR aA.jx l.ak az)),(rd bA l.ag.length 4 (l.ag.map bG.cells))] (vI (dN l)):=by
 have A3:=hin.wJ
 have A1:=hin.wI
 have AO:=hin.pQ
 have A0:=hin.v8
 have A2:=hin.side
 refine bx kr Tryz.func61 U U fun w0 Q hQ hN=>?_
 try dsimp only
 refine WS fun _ m=>g5 U fun b2=>a_ 1 U<|RK m<|al fun _ n=>WS fun _ o=>a_ 1 U<|rS (LP (bK.cells (bK.mk (ba.mk kA l.aO.length kC))) 0 U cz U U U)<|rS (CL (wk l.aO kA kC asm asm) (bj [1]) U)<|a_ 1 U<|RK o<|WS fun _ p=>rP 2 [] I ?_
 refine RK p<|dF U (bL fun B=>?_) (bM fun B=>?_)
 ·refine WS fun _ q=>rP 2 [] I ?_
  refine RK q<|aB<|Q1 hQ U U U ?_
  (refine cI ?_; rw [(tF B).2,BW (tF B).1])
 refine WK n<|al fun _ s=>WS fun _ t=>?_
 have A:=yp B
 refine rS (CL Jc (aC) U)<|a_ 1 U<|RK t<|aF<|ig 5<|de fun R9 u=>WS fun _ C=>rS (SX (bw (r:= .bool true) U U U fj) U U)<|RK C<|al fun _ D=>aX U<|WK D<|al fun _ E=>aF<|WS fun _ F=>rS (SX (pj (vs:=(eZ.cells (eZ.mk (Value.func (.func 115) [].toArray [].toArray)))) 0 U U U Az cz U dc U) U U)<|AL U AD fun x=>fw U zW U<|RK F<|WS fun _ G=>hE 3 [0,1] (mc 0 U (mc 1 U I)) U<|rS (CL (Jx l kA kC az cA cC bA bC hin) (bj [2,3,4,5]) U)<|rP 1 [] I ?_
 refine RK G<|dF U (bL fun g=>?_) (bM fun g=>?_)
 ·refine WS fun _ H=>rP 1 [] I ?_
  refine RK H<|aB<|Q1 hQ U U U ?_
  exact cI (m_ A fun h=>absurd h.head asm).symm
 refine cJ<|aH<|KK E<|au<|rS (SX (bw (r:= .int .i64 1) U U U (fG ⟨dc,dc⟩)) U U)<|a_ 1 U<|RK u<|de fun R18 d=>WS fun _ AB=>rS (SX (bw (r:= .bool true) U U U fj) U U)<|RK AB<|al fun _ J=>aX U<|WK J<|al fun _ K=>aF<|WS fun _ L=>rS (SX (pj (vs:=(eZ.cells (eZ.mk (Value.func (.func 117) [].toArray [].toArray)))) 1 U U U Az cz U dc U) U U)<|AL U AD fun y=>fw U zW U<|RK L<|WS fun _ M=>hE 3 [0,1] (mc 0 U (mc 2 U I)) U<|rS (CL (JB l kA kC az cA cC bA bC hin) (bj [3,4,5,6]) U)<|rP 1 [] I ?_
 refine RK M<|dF U (bL fun i=>?_) (bM fun i=>?_)
 ·refine WS fun _ N=>rP 1 [] I ?_
  refine RK N<|aB<|Q1 hQ U U U ?_
  exact cI (m_ A fun h=>absurd h.clock asm).symm
 refine cJ<|aH<|KK K<|au<|rS (SX (bw (r:= .int .i64 2) U U U (fG ⟨dc,dc⟩)) U U)<|a_ 1 U<|RK d<|de fun R27 e=>WS fun _ O=>rS (SX (bw (r:= .bool true) U U U fj) U U)<|RK O<|al fun _ P=>aX U<|WK P<|al fun _ R=>aF<|WS fun _ S=>rS (SX (pj (vs:=(eZ.cells (eZ.mk (Value.func (.func 121) [].toArray [].toArray)))) 2 U U U Az cz U dc U) U U)<|AL U AD fun z=>fw U zW U<|RK S<|WS fun _ T=>hE 3 [0,1] (mc 0 U (mc 3 U I)) U<|rS (CL (Jb l kA kC az cA cC bA bC hin asm) (bj [4,5,6,7]) U)<|rP 1 [] I ?_
 refine RK T<|dF U (bL fun j=>?_) (bM fun j=>?_)
 ·refine WS fun _ AA=>rP 1 [] I ?_
  refine RK AA<|aB<|Q1 hQ U U U ?_
  exact cI (m_ A fun h=>absurd h.CP asm).symm
 refine cJ<|aH<|KK R<|au<|rS (SX (bw (r:= .int .i64 3) U U U (fG ⟨dc,dc⟩)) U U)<|a_ 1 U<|RK e<|de fun R36 f=>WS fun _ V=>rS (SX (bw (r:= .bool true) U U U fj) U U)<|RK V<|al fun _ W=>aX U<|WK W<|al fun _ X=>aF<|WS fun _ Y=>rS (SX (pj (vs:=(eZ.cells (eZ.mk (Value.func (.func 125) [].toArray [].toArray)))) 3 U U U Az cz U dc U) U U)<|AL U AD fun AC=>fw U zW U<|RK Y<|WS fun _ Z=>hE 3 [0,1] (mc 0 U (mc 4 U I)) U<|rS (CL (Kl l kA kC az cA cC bA bC hin asm asm) (bj [5,6,7,8]) U)<|rP 1 [] I ?_
 refine RK Z<|dF U (bL fun k=>?_) (bM fun k=>?_)
 ·refine WS fun _ a=>rP 1 [] I ?_
  refine RK a<|aB<|Q1 hQ U U U ?_
  exact cI (m_ A fun h=>absurd h.NI asm).symm
 refine cJ<|aH<|KK X<|au<|rS (SX (bw (r:= .int .i64 4) U U U (fG ⟨dc,dc⟩)) U U)<|a_ 1 U<|RK f<|de fun R45 w=>WS fun _ b=>rS (SX (bw (r:= .bool false) U U U fj) U U)<|RK b<|al fun _ v=>aM U<|bq<|ah<|ah<|aD<|KK s<|WS fun _ c=>rP 1 [] I ?_
 refine RK c<|aB<|Q1 hQ U U U ?_
 exact cI (xR A (B0 asm asm asm asm)).symm
theorem v7 (lo hi:Int) (f:Value) (p:Int→Bool) (X:aj) (r:Int) (hf: ∀ x0,0≤x0∧x0<hi→zl Tryz.prog f [.int .i64 x0] [X] (.bool (p x0))) (hb:0≤lo∧lo≤r∧r≤hi∧hi≤100000000) (hno: ∀ x,lo≤x→x<r→p x=false) (hyes: ∀ x,r≤x→x<hi→p x=true):
 dQ Tryz.prog 216 [(vI lo),(vI hi),f] [X] (vI r):=by
 refine bx kr Tryz.func216 U U fun N Q hQ hN=>?_
 try dsimp only
 refine WS fun _ F=>rP 1 [] I ?_
 refine RK F<|al fun _ G=>aF ?_
 have A:(lo≤lo∧lo≤r)∧(r≤hi∧hi≤hi):=by omega
 refine bX (ι:={z:Int×Int // (lo≤z.1∧z.1≤r)∧(r≤z.2∧z.2≤hi)}) [2] [0] U U (fun z=>[(0,(vI z.1.1)),(1,(vI z.1.2))]) (fun z=>[]) (fun _=>rfl) (fun _=>rfl) (fun z=>(z.1.2-z.1.1).toNat) ⟨(lo,hi),A⟩ (aT U) (aJ [0]) ?_
 clear A
 rintro ⟨⟨a,b⟩,⟨B,C⟩⟩ J3 D
 try dsimp only at B C
 try dsimp only
 refine al fun _ H=>WS fun _ AA=>rP 3 [] I ?_
 refine RK AA<|cu U (aZ fun M=>?_) (aY fun M=>?_)
 ·refine bq<|ah<|ah<|aD<|KK G<|WS fun _ L=>rP 2 [] I ?_
  refine RK L<|aB<|Q1 hQ U U U ?_
  exact cI om
 refine WK H<|aF<|WS fun _ J=>a_ 4 U<|rS (BI U (Aw om om om))<|a_ 2 U<|RK J<|WS fun _ K=>rP 2 [] I ?_
 refine rS (SX (oO U U U (hf (a+((b-a)/2)) om) (bj [0])) U U)<|RK K<|dF U (fun hp=>?_) (fun hp=>?_)
 ·refine au<|rP 2 [] I ?_
  refine aG<|aH ?_
  refine bc (D ⟨(a,(a+((b-a)/2))),(by dsimp only; rcases Int.lt_or_le (a+(b-a)/2) r with q|q; (have E:=hno _ om q; (rw [E] at hp; cases hp)); (have E:=hyes _ q om; (refine ⟨⟨om,om⟩,om,om⟩)))⟩ _ _ _ rfl (by simp only []; omega) (aT rfl) (aJ [0]))
 refine au<|rP 3 [] I ?_
 refine aG<|aH ?_
 refine bc (D ⟨(((a+((b-a)/2))+1),b),(by dsimp only; rcases Int.lt_or_le (a+(b-a)/2) r with q|q; (have E:=hno _ om q; (refine ⟨⟨om,om⟩,om,om⟩)); (have E:=hyes _ q om; (rw [E] at hp; cases hp)))⟩ _ _ _ rfl (by simp only []; omega) (aT rfl) (aJ [0]))
theorem Ga (u:Int) (c:aA) (sA:OA) (sC g1:Nat) (s:aK) (g2:Nat) (hc:eU c) (hu:0≤u∧u≤90000000):
 dQ Tryz.prog 217 [(vI u),(vP g1),(vP g2)] [(rd sA c.br.length 3 (c.br.map cP.cells)),(bJ g1 119 (eD.cells (eD.mk c.eL (ba.mk sA c.br.length sC)))),(bJ g2 123 (aK.cells s))] (vB (decide (s.Read≤u+(gP c u).Hi))):=by
 have C:=si hc hu
 refine bx kr Tryz.func217 U U fun D Q hQ hN=>?_
 try dsimp only
 refine WS fun _ A=>a_ 1 U<|RK A<|al fun _ B=>dR cE 10 kr<|m7 3 [] (mr 1 U I) U<|dS (CL (As c sA sC u hc hu) (bj [0]) U)<|dS (SX (kh (v:=(vI ((gP c u).Hi))) U U fI yP U) U U)<|dP 5 [] (mr 2 U I) ?_
 refine dJ<|RK B<|aB ?_
 exact Q1 hQ U U U U
theorem E1 (u:Int) (c:aA) (sA:OA) (sC g1:Nat) (s:aK) (g2:Nat) (hc:eU c) (hu:0≤u∧u≤90000000):
 dQ Tryz.prog 219 [(vI u),(vP g1),(vP g2)] [(rd sA c.br.length 3 (c.br.map cP.cells)),(bJ g1 119 (eD.cells (eD.mk c.eL (ba.mk sA c.br.length sC)))),(bJ g2 123 (aK.cells s))] (vB (decide (s.Read<u+(gP c u).Lo))):=by
 have C:=si hc hu
 refine bx kr Tryz.func219 U U fun D Q hQ hN=>?_
 try dsimp only
 refine WS fun _ A=>a_ 1 U<|RK A<|al fun _ B=>dR cE 10 kr<|m7 3 [] (mr 1 U I) U<|dS (CL (As c sA sC u hc hu) (bj [0]) U)<|dS (SX (kh (v:=(vI ((gP c u).Lo))) U U fI zb U) U U)<|dP 5 [] (mr 2 U I) ?_
 refine dJ<|RK B<|aB ?_
 exact Q1 hQ U U U U
theorem EJ (l:aU) (kA:OA) (kC:Nat) (az:List RA) (cA:OA) (cC:Nat) (bA:OA) (bC:Nat) (s:aK) (hin:fh l az) (hok:lP l) (hs:(0≤s.fP∧s.fP≤(l.ag.length:Int)-1)∧0≤s.Read∧s.Read≤86400000):
 dQ Tryz.prog 208 [(vA (cj.cells (mW l kA kC cA cC bA bC))),(vA (aK.cells s))] [(rd kA l.aO.length 9 (l.aO.map ao.cells)),(rd cA l.ak.length 2 (List.zipWith aA.cells l.ak az)),(eR (aR aA.jx l.ak az)),(rd bA l.ag.length 4 (l.ag.map bG.cells))] (vA (ab.cells (dW l s))):=by
 have V:=hin.wJ
 have S:=hin.wI
 have P:=hin.pQ
 have R:=hin.v8
 refine bx kr Tryz.func208 U U fun Z Q hQ hN=>?_
 try dsimp only
 refine WS fun _ AB=>g5 U fun X=>g5 U fun D=>AL U dK fun Y=>RK AB<|al fun _ J=>ek cE [11,12] [] [] [0,1,2,3,4,5,6] [] U U U U U<|eS U (FA 2 U fI U)<|eS U (L1 (vS cA l.ak.length cC) 2 U cz U U)<|eS U (FA 3 U fI U)<|eS U (L1 (vS bA l.ag.length bC) 2 U cz U U)<|eS U (FA 0 U fI U)<|eS U (L1 (vI s.fP) 1 U cz U U) ?_
 obtain ⟨y,hy⟩:=aQ l.ag ((s.fP).toNat) om
 have O:=cG bG.cells hy
 refine eS U (IA ((s.fP).toNat) U (aS 6 U) Ba dc om om)<|eS U (sV ((((s.fP).toNat)*4)+3) U (aS 6 U) (Nat.mul_pos om dc) fI U)<|eS U (g4 ((s.fP).toNat) 3 (vI y.l_) U cz (aS 6 U) O U dc U) ?_
 have W:=(hok.CP _ (aN hy)).2
 obtain ⟨x,hx⟩:=aQ l.ak ((y.l_).toNat) om
 obtain ⟨xa,F⟩:=aQ az ((y.l_).toNat) om
 have N:(List.zipWith aA.cells l.ak az)[(y.l_).toNat]? =some (aA.cells x xa):=dE hx F
 refine eS U (IA ((y.l_).toNat) U (aS 4 U) Cs dc om om)<|eS U (r_ ((y.l_).toNat) 0 (eD.cells (eD.mk x.eL (ba.mk xa.1 x.br.length xa.2))) U cz (aS 4 U) N U dc U U)<|e7 U<|cf U fun T6 L=>AL U IN fun E=>aG (L _ _ (aJ [1,2,3,4,5,6,7]) ?_)
 refine cf U fun T8 M=>fw U Lg U<|aG (M _ _ (aJ [1,2,3,4,5,6,7]) ?_)
 refine fH U<|KK J<|WS fun _ K=>?_
 have A:=hok.clock _ (aN hx)
 have AA:=kW (p:=iW x s.Read) (n:=86400001)
 have T:=kW (p:=iR x s.Read) (n:=86400001)
 refine rS (FU U) ?_
 refine rS (CL (v7 0 86400001 (Value.func (.func 217) [].toArray [(vP E),(vP D)].toArray) (fun B=>(decide (s.Read≤B+(gP x B).Hi))) (eR [(rd xa.1 x.br.length 3 (x.br.map cP.cells)),(bJ E 119 (eD.cells (eD.mk x.eL (ba.mk xa.1 x.br.length xa.2)))),(bJ D 123 (aK.cells s))]) (fW (iW x s.Read) 86400001) (by intro B _; exact kK (fi:=[]) (ca:=[(vP E),(vP D)]) (jP (Ga B x xa.1 xa.2 E s D (by first|assumption|omega) (by first|assumption|omega)) (Hy 0 1 2 U U U U U U))) om (by intro z G hz; exact (n7 A G om).1 hz) (by intro z hz H; exact (n7 A om H).2.1 hz)) (ae (jO (ae (show jf _ (rd xa.1 x.br.length 3 (x.br.map cP.cells)).holds from (eh 6 U (bY hx F (by simp [aA.jx]))))<|cY 0 U U<|cY 2 U U<|aC))<|aC) U) ?_
 refine rS (FU U) ?_
 refine rS (CL (v7 0 86400001 (Value.func (.func 219) [].toArray [(vP E),(vP D)].toArray) (fun C=>(decide (s.Read<C+(gP x C).Lo))) (eR [(rd xa.1 x.br.length 3 (x.br.map cP.cells)),(bJ E 119 (eD.cells (eD.mk x.eL (ba.mk xa.1 x.br.length xa.2)))),(bJ D 123 (aK.cells s))]) (fW (iR x s.Read) 86400001) (by intro C _; exact kK (fi:=[]) (ca:=[(vP E),(vP D)]) (jP (E1 C x xa.1 xa.2 E s D (by first|assumption|omega) (by first|assumption|omega)) (Hy 0 1 2 U U U U U U))) om (by intro z G hz; exact (n7 A G om).2.2.1 hz) (by intro z hz H; exact (n7 A om H).2.2.2 hz)) (ae (jO (ae (show jf _ (rd xa.1 x.br.length 3 (x.br.map cP.cells)).holds from (eh 6 U (bY hx F (by simp [aA.jx]))))<|cY 0 U U<|cY 2 U U<|aC))<|aC) U) ?_
 refine rP 1 [] I ?_
 refine rS (SX (bh (xs:=[(0,.tmp 18),(1,.tmp 21)]) (cs:=(ab.cells (ab.mk (fW (iW x s.Read) 86400001) ((fW (iR x s.Read) 86400001)-1)))) U U (bg jt U)) U U)<|vU U cT U<|RK K<|aB<|CW hQ [0] (mc 1 U I) U ?_
 unfold dW pE; rw [yk hy hx]
end
section
open Go.RowKit
structure Ea (S:BS) (w0:World) (X:aj) (C0:List aj) (w:World) (S':BS):Prop where
 st:St S w0 (X::C0) w
 w_: ∀ b,S'.w b↔ ∃ A∈C0,A.wf b
theorem yv {A B:aj} (h:x9 A B):x9 A.ro B:=fun b C D=>⟨fun h=>h,(h b C D).2⟩
theorem FC {E:dM} {c:Code} {Q:cd} {D:List Deferred} {L:List (Nat×Value)} {C C0:List aj} {X:aj} (i:Nat) (hn:decide (i::(List.range C.length).filter fun k=>k != i).Nodup=true) (hC:jC C (i::(List.range C.length).filter fun k=>k != i)=X::C0)
 (h: ∀ w S',Ea E.S E.w0 X C0 w S'→WJ ⟨E.P,E.r,E.n,S',w⟩ c Q D L (X.ro::C0)):WJ E c Q D L C:=fun a w hf hs=>by
 have F:=St.jC _ hn hC hs
 obtain ⟨G,H⟩:=List.pairwise_cons.1 F.sep
 refine h w ⟨fun b=> ∃ A∈C0,A.wf b,fun _=>True⟩ ⟨F,fun b=>Iff.rfl⟩ a w hf ⟨cU.refl _ _,fun A hA=>?_,List.Pairwise.cons (fun B hB=>yv (G B hB)) H,fun A hA b hb=>?_,fun A hA b hb=> .inr trivial⟩
 ·rcases List.mem_cons.1 hA with rfl|hA
  ·exact F.holds X (bU ..)
  ·exact F.holds A (cL _ hA)
 ·rcases List.mem_cons.1 hA with rfl|hA
  ·exact hb.elim
  ·exact .inr ⟨A,hA,hb⟩
theorem JC {E:dM} {S':BS} {w:World} {K:Act→World→Prop} {D:List Deferred} {L:List (Nat×Value)} {C0 C1 C2:List aj} {X:aj} (hz:Ea E.S E.w0 X C0 w S') (is:List Nat) (hn:decide is.Nodup=true) (hC:jC C2 is=C1) (hwr:C1.all (·.wr)=true)
 (h:KJ E K D L (X::C1)):KJ ⟨E.P,E.r,E.n,S',w⟩ K D L C2:=fun a w' hf hs=>by
 have F:=St.jC is hn hC hs
 have C:=hz.st
 obtain ⟨J,M⟩:=List.pairwise_cons.1 C.sep
 have AA: ∀ b,X.d_ b→ ¬ S'.w b:=fun b hb hw=>by
  obtain ⟨A,hA,hw⟩:=(hz.w_ b).1 hw
  exact (J A hA b hb (A.jc b hw)).2 hw
 have G: ∀ b,S'.w b→E.w0.heap.size≤b∨E.S.w b:=fun b hb=>by
  obtain ⟨A,hA,hw⟩:=(hz.w_ b).1 hb
  exact C.own A (cL _ hA) b hw
 have H: ∀ A∈C1,∀ b,A.d_ b→w.heap.size≤b∨S'.w b:=fun A hA b hb=>F.own A hA b (A.whole (List.all_eq_true.1 hwr A hA) b hb)
 refine h a w' hf ⟨?_,fun A hA=>?_,List.Pairwise.cons (fun B hB b hb hb'=>?_) F.sep,fun A hA b hb=>?_,fun A hA b hb=>?_⟩
 ·refine ⟨F.keeps.os.trans C.keeps.os,F.keeps.tape.trans C.keeps.tape,F.keeps.output.trans C.keeps.output,Nat.le_trans C.keeps.size F.keeps.size,fun k hk hn'=>?_⟩
  refine (F.keeps.block k (Nat.lt_of_lt_of_le hk C.keeps.size) fun hw=>?_).trans (C.keeps.block k hk hn')
  rcases G k hw with q|q
  ·omega
  ·exact hn' q
 ·rcases List.mem_cons.1 hA with rfl|hA
  ·have hh:=C.holds A (bU ..)
   exact A.mg w w' (fun b hb=>F.keeps.block b (A.lt w hh b hb) (AA b hb)) hh
  ·exact F.holds A hA
 ·exfalso
  have hl:=X.lt w (C.holds X (bU ..)) b hb
  rcases H B hB b hb' with q|q
  ·omega
  ·exact AA b hb q
 ·rcases List.mem_cons.1 hA with rfl|hA
  ·exact C.own A (bU ..) b hb
  ·rcases F.own A hA b hb with q|q
   ·exact .inl (Nat.le_trans C.keeps.size q)
   ·exact G b q
 ·rcases List.mem_cons.1 hA with rfl|hA
  ·exact C.seen A (bU ..) b hb
  ·rcases H A hA b hb with q|q
   ·exact .inl (Nat.le_trans C.keeps.size q)
   ·obtain ⟨B,hB,hw⟩:=(hz.w_ b).1 q
    exact C.seen B (cL _ hB) b (B.jc b hw)
/-- put back, as it was -/
theorem CB {M A:Type} {f:M→A→List aj} {S:BS} {w0 w:World} {C:List aj} {ms:List M} {asl:List A} {k:Nat} {m:M} {a:A} {X:aj} (hm:ms[k]? =some m) (ha:asl[k]? =some a) (hf:f m a=[X]) (h:St S w0 (X::bf (dV f ms asl k)::C) w):St S w0 (bf (aR f ms asl)::C) w:=by
 have B:St S w0 (bf (dV f ms asl k)::X::C) w:=h.perm (List.Perm.swap _ _ _)
 have D:St S w0 ((f m a++dV f ms asl k)++C) w:=by
  rw [hf]
  exact B.iy.perm (List.perm_middle (a:=X) (l₁:=dV f ms asl k) (l₂:=C))
 exact iY (iZ hm ha).symm D.tied
theorem Fq {E:dM} {K:Act→World→Prop} {D:List Deferred} {L:List (Nat×Value)} {C C1:List aj} {M A:Type} {f:M→A→List aj} {ms:List M} {asl:List A} {k:Nat} {m:M} {a:A} {X:aj} (i j:Nat) (hm:ms[k]? =some m) (ha:asl[k]? =some a) (hf:f m a=[X])
 (hn:decide (j::i::(List.range C.length).filter fun k=>k != i&&k != j).Nodup=true) (hC:jC C (j::i::(List.range C.length).filter fun k=>k != i&&k != j)=X::bf (dV f ms asl k)::C1)
 (h:KJ E K D L (bf (aR f ms asl)::C1)):KJ E K D L C:=fun a w hf' hs=>h a w hf' (CB hm ha hf (St.jC _ hn hC hs))
theorem tU {M A:Type} {f:M→A→List aj} {ms:List M} {asl:List A} {m:M} {a:A} {X:aj} (hl:ms.length=asl.length) (hf:f m a=[X]):aR f ms asl++[X]=aR f (ms++[m]) (asl++[a]):=by
 rw [j0 hl,← hf]; simp [aR]
theorem uD {E:dM} {K:Act→World→Prop} {D:List Deferred} {L:List (Nat×Value)} {C C1:List aj} {M A:Type} {f:M→A→List aj} {ms:List M} {asl:List A} {m:M} {a:A} {X:aj} (i j:Nat) (hf:f m a=[X])
 (hn:decide (j::i::(List.range C.length).filter fun k=>k != i&&k != j).Nodup=true) (hC:jC C (j::i::(List.range C.length).filter fun k=>k != i&&k != j)=X::bf (aR f ms asl)::C1)
 (h:KJ E K D L (bf (aR f (m::ms) (a::asl))::C1)):KJ E K D L C:=fun b w hf' hs=>by
 have B:=St.jC _ hn hC hs
 have F:St E.S E.w0 (bf (aR f ms asl)::X::C1) w:=B.perm (List.Perm.swap _ _ _)
 have G:St E.S E.w0 (aR f (m::ms) (a::asl)++C1) w:=by
  show St E.S E.w0 ((f m a++aR f ms asl)++C1) w
  rw [hf]
  exact F.iy.perm (List.perm_middle (a:=X) (l₁:=aR f ms asl) (l₂:=C1))
 exact h b w hf' G.tied
end
section
open Go.RowKit
abbrev jE (r:Nat):aj:=jw r (.deferred (some []))
theorem GB (rs:List Nat):(bf (rs.map jE)).wr=true:=by
 show (rs.map jE).all (·.wr)=true
 rw [dI]
 intro X hX
 obtain ⟨r,_,rfl⟩:=List.mem_map.1 hX
 rfl
theorem rq {E:dM} {c:Code} {Q:cd} {D:List Deferred} {L:List (Nat×Value)} {C:List aj} {ι:Type} (Di:ι→List Deferred) (Li:ι→List (Nat×Value)) (Ci:ι→List aj) (μ:ι→Nat) (x0:ι)
 (hD:D=Di x0) (h0:ew L (Li x0)) (hC: ∀ w,St E.S E.w0 C w→St E.S E.w0 (Ci x0) w)
 (round: ∀ x (J:Act→World→Prop),(∀ y D' L' C',D'=Di y→μ y<μ x→ew L' (Li y)→(∀ w,St E.S E.w0 C' w→St E.S E.w0 (Ci y) w)→KJ E J D' L' C')→WJ E c (Exit.then J Q) (Di x) (Li x) (Ci x)):WJ E (.loop c) Q D L C:=by
 intro a w hf hs
 subst hD
 have H: ∃ x,Fr E.n (Di x) (Li x) a∧St E.S E.w0 (Ci x) w:=⟨x0,hf.sub h0,hC w hs⟩
 clear hf hs
 have key: ∀ (m:Nat) (a:Act) (w:World),(∃ x,μ x=m∧Fr E.n (Di x) (Li x) a∧St E.S E.w0 (Ci x) w)→(Code.loop c).wpIn (Fw E.r) 0 E.P Q a w:=by
  intro m a w hx
  refine wpIn_loop (fun a w=> ∃ x,Fr E.n (Di x) (Li x) a∧St E.S E.w0 (Ci x) w) (fun a w=>leastOf fun k=> ∃ x,μ x=k∧Fr E.n (Di x) (Li x) a∧St E.S E.w0 (Ci x) w) (by obtain ⟨x,_,h⟩:=hx; exact ⟨x,h⟩) ?_
  intro a w hx
  have F: ∃ k,∃ x,μ x=k∧Fr E.n (Di x) (Li x) a∧St E.S E.w0 (Ci x) w:=by obtain ⟨x,h⟩:=hx; exact ⟨_,x,rfl,h⟩
  obtain ⟨x,K,AA,M⟩:=(leastOf_spec F).1
  refine round x _ ?_ a w AA M
  intro y D' L' C' hD G A B a' w' hf' hs'
  subst hD
  refine ⟨⟨y,hf'.sub A,B _ hs'⟩,?_⟩
  rw [← K]
  exact Nat.lt_of_le_of_lt ((leastOf_spec ⟨_,y,U,hf'.sub A,B _ hs'⟩).2 _ ⟨y,U,hf'.sub A,B _ hs'⟩) G
 obtain ⟨x,h⟩:=H
 exact key _ a w ⟨x,U,h⟩
theorem St.Ny {S:BS} {w0 w:World} {C X:List aj} {A:aj} (h:St S w0 (A::bf X::C) w):St S w0 (bf (A::X)::C) w:=by
 have B:St S w0 (bf X::A::C) w:=h.perm (List.Perm.swap _ _ _)
 have D:St S w0 ((A::X)++C) w:=B.iy.perm (List.perm_middle (a:=A) (l₁:=X) (l₂:=C))
 exact D.tied
theorem DX {E:dM} {K:Act→World→Prop} {D:List Deferred} {L:List (Nat×Value)} {C C1 X:List aj} {A:aj} (i j:Nat) (hn:decide (j::i::(List.range C.length).filter fun k=>k != i&&k != j).Nodup=true) (hC:jC C (j::i::(List.range C.length).filter fun k=>k != i&&k != j)=A::bf X::C1)
 (h:KJ E K D L (bf (A::X)::C1)):KJ E K D L C:=fun a w hf hs=>h a w hf ((St.jC _ hn hC hs).Ny)
theorem JH {E:dM} {K:Act→World→Prop} {D:List Deferred} {L:List (Nat×Value)} {C:List aj} (h:KJ E K D L (bf []::C)):KJ E K D L C:=fun a w hf hs=>h a w hf hs.Jn
theorem J0 {E:dM} {K:Act→World→Prop} {D:List Deferred} {L:List (Nat×Value)} (C1 C2:List aj) (h:KJ E K D L (bf C1::C2)):KJ E K D L (C1++C2):=fun a w hf hs=>h a w hf (St.tied hs)
theorem Ii {E:dM} {fn:Func} {R:Ending→World→Prop} {D:List Deferred} {L:List (Nat×Value)} {C C1:List aj} {rs:List Nat} (i:Nat) (hn:decide (i::(List.range C.length).filter fun k=>k != i).Nodup=true) (hC:jC C (i::(List.range C.length).filter fun k=>k != i)=bf (rs.map jE)::C1)
 (h:LJ E fn R D L C1):LJ E fn R (rs.map jA++D) L C:=by
 have key: ∀ rs:List Nat,LJ E fn R (rs.map jA++D) L (bf (rs.map jE)::C1):=by
  intro rs
  induction rs with
  |nil=>exact fun a w hf hs=>h a w hf (hs.take (List.sublist_cons_self _ _))
  |cons r rs ih=>
   have A:LJ E fn R (jA r::(rs.map jA++D)) L (jE r::bf (rs.map jE)::C1):=lK 0 rfl rfl (fun a w hf hs=>ih a w hf (hs.take (List.sublist_cons_self _ _)))
   intro a w hf hs
   refine A a w hf ?_
   have B:St E.S E.w0 ((jE r::rs.map jE)++C1) w:=St.iy (C1:=jE r::rs.map jE) hs
   have F:St E.S E.w0 (rs.map jE++(jE r::C1)) w:=B.perm (List.perm_middle (a:=jE r) (l₁:=rs.map jE) (l₂:=C1)).symm
   exact F.tied.perm (List.Perm.swap _ _ _)
 exact fun a w hf hs=>key rs a w hf (St.jC _ hn hC hs)
theorem DO {E:dM} {fn:Func} {R:Ending→World→Prop} {L:List (Nat×Value)} {C C1:List aj} {rs:List Nat} (i:Nat) (hn:decide (i::(List.range C.length).filter fun k=>k != i).Nodup=true) (hC:jC C (i::(List.range C.length).filter fun k=>k != i)=bf (rs.map jE)::C1)
 (h:LJ E fn R [] L C1):LJ E fn R (rs.map jA) L C:=by
 have:=Ii (D:=[]) i hn hC h
 rwa [List.append_nil] at this
end
section
open Go.RowKit
theorem E0 (fs:List FM) (fb:List Nat):(bf (aR k8 fs fb)).wr=true:=by
 show (aR k8 fs fb).all (·.wr)=true
 rw [dI]
 intro X hX
 obtain ⟨k,m,a,_,_,h⟩:=hU hX
 simp only [k8,bD] at h
 subst h; rfl
theorem KQ (fs:List TM) (fb:List Nat):(bf (aR og fs fb)).wr=true:=by
 show (aR og fs fb).all (·.wr)=true
 rw [dI]
 intro X hX
 obtain ⟨k,m,a,_,_,h⟩:=hU hX
 simp only [og,bD] at h
 subst h; rfl
end
section
def dh (bl:List Nat) (n:Nat):List (Option Nat):=bl.map some++List.replicate (n-bl.length) none
def fu (bl:List Nat) (n:Nat):List (Option Nat):=List.replicate (n-bl.length) none++bl.map some
theorem oc {bl:List Nat} {n:Nat} (h:bl.length≤n):(dh bl n).length=n:=by simp [dh]; omega
theorem tg {bl:List Nat} {n:Nat} (h:bl.length≤n):(fu bl n).length=n:=by simp [fu]; omega
theorem uG {n:Nat}:List.replicate n none=dh [] n:=by simp [dh]
theorem Cg {n:Nat}:List.replicate n none=fu [] n:=by simp [fu]
theorem tQ {bl:List Nat} {n:Nat} (h:bl.length=n):dh bl n=bl.map some:=by simp [dh,h]
theorem Bd {bl:List Nat} {n:Nat} (h:bl.length=n):fu bl n=bl.map some:=by simp [fu,h]
theorem lZ {bl:List Nat} {n k g:Nat} (h:bl[k]? =some g):(dh bl n)[k]? =some (some g):=by
 have hk:=(List.getElem?_eq_some_iff.1 h).1
 unfold dh
 rw [List.getElem?_append_left (by simpa using hk),eW,h]; rfl
theorem pw {bl:List Nat} {n k i g:Nat} (h:bl[i]? =some g) (hk:k=n-bl.length+i):(fu bl n)[k]? =some (some g):=by
 subst hk
 unfold fu
 rw [List.getElem?_append_right sm,eW,List.length_replicate,Nat.add_sub_cancel_left,h]; rfl
theorem p6 {bl:List Nat} {n k g:Nat} (hk:k=bl.length) (h:bl.length<n):(dh bl n).set k (some g)=dh (bl++[g]) n:=by
 subst hk
 unfold dh
 rw [List.set_append_right _ _ sm]
 have e:n-bl.length=(n-(bl++[g]).length)+1:=by simp; omega
 rw [e,List.replicate_succ]
 simp
theorem Bn {bl:List Nat} {n k g:Nat} (hk:k+1+bl.length=n):(fu bl n).set k (some g)=fu (g::bl) n:=by
 unfold fu
 have e:n-bl.length=k+1:=by omega
 have A:n-(g::bl).length=k:=by simp; omega
 rw [e,A,List.set_append_left _ _ sm,List.replicate_succ',List.set_append_right _ _ sm]
 simp
theorem ou {l:List (Option Nat)} {k g:Nat} (h:l[k]? =some (some g)):(l.map oC)[k]? =some (oC (some g)):=by rw [eW,h]; rfl
theorem u7 {α:Type} {l:List α} {x:α} {k:Nat} (h:k=l.length):(l++[x])[k]? =some x:=by subst h; simp
theorem Eu {α:Type} {l:List α} {x y:α} {k:Nat} (h:l[k]? =some y):(l++[x])[k]? =some y:=by rw [List.getElem?_append_left (List.getElem?_eq_some_iff.1 h).1]; exact h
structure mQ (w:bp) (fs:List FM):Prop where
 all: ∀ (b:Nat) m,fs[b]? =some m→pc m (fwd w b)∧(m.map (·.1)).Nodup
structure fy (w:bp) (k:Nat) (bs:List FM):Prop where
 all: ∀ (i:Nat) m,bs[i]? =some m→qR m (back w (k+i))∧(m.map (·.1)).Nodup
variable {w:bp} {b:Nat} {mb m left:List (aw×Int)} {o:Int×ab} {os:List (Int×ab)} {p:aw×Int}
theorem mQ.first:mQ w [[(⟨0,0⟩,w.Start)]]:=⟨fun b m h=>by
 match b with
 |0=>simp at h; subst h; exact ⟨Br,sm⟩
 |n+1=>simp at h⟩
theorem mQ.add {fs:List FM} (h:mQ w fs) (hl:fs.length=b+1) (hmb:fs[b]? =some mb) (hm:rW w b m) (hd:ij w b mb m left) (h0:left=[]):mQ w (fs++[m]):=⟨fun i x hx=>by
 rcases Nat.lt_or_ge i fs.length with q|q
 ·rw [List.getElem?_append_left q] at hx; exact h.all i x hx
 ·rw [List.getElem?_append_right q] at hx
  have hi:i-fs.length=0:=by
   rcases Nat.eq_zero_or_pos (i-fs.length) with z|z
   ·exact z
   ·rw [List.getElem?_eq_none (by simp; omega)] at hx; cases hx
  rw [hi] at hx
  simp at hx; subst hx
  obtain rfl:i=b+1:=by omega
  have A:=h.all b mb hmb
  exact ⟨Em A.2 A.1 hm.snd (hd.fin h0),hm.keys⟩⟩
theorem mQ.ok {fs:List FM} (h:mQ w fs) (hl:fs.length=w.n+1):sI w fs:=⟨hl,fun b m hm=>(h.all b m hm).1,fun b m hm=>(h.all b m hm).2⟩
theorem fy.none_:fy w b []:=⟨fun i m h=>by simp at h⟩
theorem fy.last (hb:w.n≤b):fy w b [[(⟨0,0⟩,w.gk)]]:=⟨fun i m h=>by
 match i with
 |0=>simp at h; subst h; exact ⟨FQ om,sm⟩
 |n+1=>simp at h⟩
theorem fy.add {bs:List FM} (h:fy w (b+1) bs) (hb:b<w.n) (hmb:bs[0]? =some mb) (hm:q_ w b m) (hd:gZ w b mb m left) (h0:left=[]):fy w b (m::bs):=⟨fun i x hx=>by
 match i with
 |0=>
  simp at hx; subst hx
  have A:=h.all 0 mb hmb
  exact ⟨Ff hb A.2 A.1 hm.snd hm.zero (hd.fin h0),hm.keys⟩
 |n+1=>
  have:=h.all n x (by simpa using hx)
  rw [show b+1+n=b+(n+1) by omega] at this
  exact this⟩
theorem fy.ok {bs:List FM} (h:fy w 0 bs) (hl:bs.length=w.n+1):pT w bs:=⟨hl,fun b m hm=>by have:=(h.all b m hm).1; rwa [Nat.zero_add] at this,fun b m hm=>(h.all b m hm).2⟩
/-- on the way through one entry's options -/
structure kq (w:bp) (b:Nat) (mb left m:List (aw×Int)) (p:aw×Int) (os:List (Int×ab)):Prop where
 on:rW w b m
 ph:ij w b mb m left
 done:gH w b m p os
structure kX (w:bp) (b:Nat) (mb left m:List (aw×Int)) (p:aw×Int) (os:List (Int×ab)):Prop where
 on:q_ w b m
 ph:gZ w b mb m left
 done:gu w b m p os
theorem kq.start (h:rW w b m) (h2:ij w b mb m left):kq w b mb left m p []:=⟨h,h2,fun o ho=>by cases ho⟩
theorem kX.start (h:q_ w b m) (h2:gZ w b mb m left):kX w b mb left m p []:=⟨h,h2,fun o ho=>by cases ho⟩
theorem BM {q:aw×Int} (h:(m.lookup q.1).isSome=false∨q.2<(m.lookup q.1).getD 0):mo m q=dB m q.1 q.2:=by
 unfold mo
 cases e:m.lookup q.1 with
 |none=>rfl
 |some v=>rw [e] at h; simp at h; simp only; rw [if_pos h]
theorem yr {q:aw×Int} (h:(m.lookup q.1).isSome=true) (h2: ¬ q.2<(m.lookup q.1).getD 0):mo m q=m:=by
 unfold mo
 cases e:m.lookup q.1 with
 |none=>rw [e] at h; cases h
 |some v=>rw [e] at h2; simp only [Option.getD_some] at h2; simp only; rw [if_neg h2]
theorem AY {q:aw×Int} (h:(m.lookup q.1).isSome=false∨(m.lookup q.1).getD 0<q.2):lT m q=dB m q.1 q.2:=by
 unfold lT
 cases e:m.lookup q.1 with
 |none=>rfl
 |some v=>rw [e] at h; simp at h; simp only; rw [if_pos h]
theorem yw {q:aw×Int} (h:(m.lookup q.1).isSome=true) (h2: ¬ (m.lookup q.1).getD 0<q.2):lT m q=m:=by
 unfold lT
 cases e:m.lookup q.1 with
 |none=>rw [e] at h; cases h
 |some v=>rw [e] at h2; simp only [Option.getD_some] at h2; simp only; rw [if_neg h2]
theorem vg {t:aw} {v y:Int} (hy:w.mN[b]? =some y) (h:max (v+y) o.2.Lo≤min o.2.Hi w.gk):iO w b (t,v) o=some (dm t (eA o.1),max (v+y) o.2.Lo):=by
 have e:=kS hy
 subst e
 exact Df h
theorem Dj {t:aw} {v y:Int} (hy:w.mN[b]? =some y) (h: ¬ max (v+y) o.2.Lo≤min o.2.Hi w.gk):iO w b (t,v) o=none:=by
 have e:=kS hy
 subst e
 exact Hf h
theorem uZ {t:aw} {v y:Int} (hy:w.mN[b]? =some y) (h:o.2.Lo≤min v o.2.Hi):lh w b (t,v) o=some (dm t (eA o.1),min v o.2.Hi-y):=by
 have e:=kS hy
 subst e
 exact Eo h
theorem kq.set {q:aw×Int} (h:kq w b mb left m p os) (hp:p∈fwd w b) (ho:o∈gh w b) (he:iO w b p o=some q) (hs:(m.lookup q.1).isSome=false∨q.2<(m.lookup q.1).getD 0):kq w b mb left (dB m q.1 q.2) p (os++[o]):=by
 rw [← BM hs]
 exact ⟨h.on.add hp ho he,h.ph.lower qH,h.done.EB he⟩
theorem kq.mg {q:aw×Int} (h:kq w b mb left m p os) (he:iO w b p o=some q) (hs:(m.lookup q.1).isSome=true) (h2: ¬ q.2<(m.lookup q.1).getD 0):kq w b mb left m p (os++[o]):=by
 have:=h.done.EB he
 rw [yr hs h2] at this
 exact ⟨h.on,h.ph,this⟩
theorem kq.skip (h:kq w b mb left m p os) (he:iO w b p o=none):kq w b mb left m p (os++[o]):=⟨h.on,h.ph,h.done.none_ he⟩
theorem kX.set {q:aw×Int} (hb:b<w.n) (h:kX w b mb left m p os) (hp:p∈back w (b+1)) (ho:o∈gh w b) (he:lh w b p o=some q) (hs:(m.lookup q.1).isSome=false∨(m.lookup q.1).getD 0<q.2):kX w b mb left (dB m q.1 q.2) p (os++[o]):=by
 rw [← AY hs]
 exact ⟨h.on.add hb hp ho he,h.ph.upper nC,h.done.EB he⟩
theorem kX.mg {q:aw×Int} (h:kX w b mb left m p os) (he:lh w b p o=some q) (hs:(m.lookup q.1).isSome=true) (h2: ¬ (m.lookup q.1).getD 0<q.2):kX w b mb left m p (os++[o]):=by
 have:=h.done.EB he
 rw [yw hs h2] at this
 exact ⟨h.on,h.ph,this⟩
theorem kX.skip (h:kX w b mb left m p os) (he:lh w b p o=none):kX w b mb left m p (os++[o]):=⟨h.on,h.ph,h.done.none_ he⟩
theorem kq.next {t:aw} {v:Int} (hn:(left.map (·.1)).Nodup) (hm:(t,v)∈left) (h:kq w b mb left m (t,v) os) (ho: ∀ o∈gh w b,o∈os):ij w b mb m (bR left t):=h.ph.next hn hm h.done ho
theorem kX.next {t:aw} {v:Int} (hn:(left.map (·.1)).Nodup) (hm:(t,v)∈left) (h:kX w b mb left m (t,v) os) (ho: ∀ o∈gh w b,o∈os):gZ w b mb m (bR left t):=h.ph.next hn hm h.done ho
theorem mQ.mem {fs:List FM} (h:mQ w fs) (hm:fs[b]? =some mb) (hp:p∈mb):p∈fwd w b:=(h.all b mb hm).1.1 _ _ ((dU (h.all b mb hm).2).1 hp)
theorem fy.NR {bs:List FM} {k:Nat} (h:fy w k bs) (hk:k=b+1) (hm:bs[0]? =some mb) (hp:p∈mb):p∈back w (b+1):=by
 subst hk
 exact (h.all 0 mb hm).1.1 _ _ ((dU (h.all 0 mb hm).2).1 hp)
theorem fy.end_ {bs:List FM} {k j:Nat} (h:fy w k bs) (hj:bs.length=0) (hk:j=b) (hb:w.n≤b):fy w j ([(⟨0,0⟩,w.gk)]::bs):=by
 subst hk
 rw [nV hj]
 exact fy.last hb
theorem fy.more {bs:List FM} {k j:Nat} (h:fy w k bs) (hk:k=b+1) (hj:j=b) (hb:b<w.n) (hmb:bs[0]? =some mb) (hm:q_ w b m) (hd:gZ w b mb m left) (h0:left=[]):fy w j (m::bs):=by
 subst hk hj
 exact h.add hb hmb hm hd h0
end
section
open Go.RowKit
theorem ki {a:OA} {c e sz n:Nat} {es:List (List Value)} (h:es.length=n):Gm (own a c e sz es) (rd a n sz es):=by subst h; exact GA
theorem px {L:List aj}:Gm (bf L) (eR L):=⟨fun w h=>h.1,fun b h=>h⟩
theorem Ho {b:Nat} {fb:List Nat} {g:Nat} (h:fb.length=b):aR og (List.replicate b ([]:TM)) fb++[fJ iV g (bo cW [])]=aR og (List.replicate (b+1) ([]:TM)) (fb++[g]):=by
 rw [List.replicate_succ']
 exact tU (by rw [List.length_replicate]; exact h.symm) U
theorem Nw {α:Type} {ms:List α} {fb:List Nat} {n:Nat} (h:fb.length=n) (h2:ms.length=n):List.map oC (dh fb n)=List.zipWith eV ms fb:=by
 rw [tQ h]; exact (vy om).symm
theorem rp {l:aU} {r:cK} {i:Nat} {x:aK} (hx:r.ay[i]? =some x) (h: ¬ kO l r.ay i x): ¬ f_ l r:=fun q=>h (q.sig i x hx)
end
section
open Go.RowKit
theorem oW (ln:cj) (ri:eJ) (e:List Int) (tms:List TM) (e_A:OA) (e_C:Nat) (tb:List Nat) (t_A:OA) (t_C:Nat) (fA:OA) (fN fC:Nat) (bA:OA) (bN bC:Nat) (gw b:Nat) (g1 g2:Nat) (hb:b<tms.length) (htb:tb.length=tms.length):
 zC Tryz.prog 220 [] [(vP g1),(vP g2)] [(rd e_A e.length 1 (e.map iC)),(rd t_A tms.length 1 (List.zipWith eV tms tb)),(eR (aR og tms tb)),(bJ gw 274 (bE.cells (bE.mk ln ri (ba.mk e_A e.length e_C) (ba.mk t_A tms.length t_C) (ba.mk fA fN fC) (ba.mk bA bN bC)))),(bJ g1 263 [(vP gw)]),(bJ g2 3 [(vI (b:Int))])] ([]:List (Int×ab)) (fun ys x ys'=> ∃ o,o∈gh (bT ln ri e tms) b∧x=IK o∧ys'=ys++[o]) (fun ys=> ∀ o∈gh (bT ln ri e tms) b,o∈ys):=by
 refine o9 kr Tryz.func220 U U fun l J Z A0 d Q hY V AA hQ hN=>?_
 try dsimp only
 refine al fun _ X=>al fun _ R=>dR cE 12 kr<|m7 2 [] (mr 5 U I) U<|dS (SX (bk U U) U U)<|m7 4 [0,1] (mr 4 U (mr 5 U I)) U<|dS (SX (bk U U) U U)<|dP 3 [] (mr 4 U I) ?_
 refine dS (SX (bh (xs:=[(0,.tmp 11),(1,.tmp 16)]) (cs:=(ab.cells (ab.mk ri.Start ri.gk))) U U (bg jt U)) U U)<|dJ<|iE (k:=([]:List (Int×ab))) (k':=(([]:List (Int×ab))++[((-1),(ab.mk ri.Start ri.gk))])) 0 (by first|exact hsz|exact Nat.le_refl _) hY V AA U U U (by exact ⟨(-1,⟨ri.Start,ri.gk⟩),bU ..,U,U⟩) U U (fun B3 N M=>?_) (fun B3 N M=>?_)
 rotate_left 1
 ·refine rP 1 [] I ?_
  refine RK R<|aX U<|aB ?_
  refine hQ _ _ _ (fr (vs:=[]) trivial fun w hs=>oB 0 U N M hs)
 refine a_ 1 U<|RK R<|aM U<|WK X<|al fun _ Y=>dR cE 7 kr<|m7 1 [] (mr 5 U I) U<|dS (SX (bk U U) U U)<|dP 3 [0,1] (mr 4 U (mr 6 U I)) ?_
 obtain ⟨x,hx⟩:=aQ tms b om
 obtain ⟨xa,L⟩:=aQ tb b om
 have a:(List.zipWith eV tms tb)[b]? =some (eV x xa):=dE hx L
 refine dS (IA b U (aS 2 U) Ax dc om om)<|dS (g4 b 0 (Value.map (some xa)) U cz (aS 2 U) a U dc U)<|dJ<|ic (kV:=iV) (m:=bo cW x) 3 U U lf U ⟨⟨(fJ iV xa (bo cW x)),(bY hx L (by simp [og])),U⟩,fun h=>h⟩ (show jf _ (fJ iV xa (bo cW x)).holds from eh 3 U (bY hx L (by simp [og]))) U fun j=>?_
 try dsimp only
 refine RK Y<|aF ?_
 have G:(∀ o∈x,o∈x∨o∈(([]:List (Int×ab))++[((-1),(ab.mk ri.Start ri.gk))]))∧(∀ o∈x,o∈x)∧(J (([]:List (Int×ab))++[((-1),(ab.mk ri.Start ri.gk))]) B3)∧(Fo A0 d B3)∧((-1,(⟨ri.Start,ri.gk⟩:ab))∈(([]:List (Int×ab))++[((-1),(ab.mk ri.Start ri.gk))])):=by exact ⟨fun o ho=> .inl ho,fun o ho=>ho,asm,asm,sm⟩
 refine bX (ι:={z:TM×(List (Int×ab))×aj // (∀ o∈x,o∈z.1∨o∈z.2.1)∧(∀ o∈z.1,o∈x)∧(J z.2.1 z.2.2)∧(Fo A0 d z.2.2)∧((-1,(⟨ri.Start,ri.gk⟩:ab))∈z.2.1)}) [0,1,2,27] [2,3,4,6,7] U U (fun z=>[]) (fun z=>[(ti iV j xa (bo cW x) (bo cW z.1.1) none),z.1.2.2]) (fun _=>rfl) (fun _=>rfl) (fun z=>z.1.1.length) ⟨(x,(([]:List (Int×ab))++[((-1),(ab.mk ri.Start ri.gk))]),B3),G⟩ (ew.nil _) (aJ [2,3,4,6,7,0,1]) ?_
 clear G
 rintro ⟨⟨left,ys,A⟩,⟨B,C,D,E,F⟩⟩ J8 W
 try dsimp only at B C D E F
 try dsimp only
 refine WS fun _ S=>gL (dv nO).inj (f:=cW) 5 U U U U (fun T=>?_) (fun i z hm hn=>?_)
 ·refine rP 1 [] I ?_
  refine RK S<|al fun _ c=>aM U<|bq<|ah<|ah<|aD ?_
  refine hN _ _ _ (fr (vs:=[]) trivial fun w hs=>Fg 6 U (by exact Cc hx B T F) D E hs)
 try dsimp only
 refine a_ 1 U<|RK S<|al fun _ O=>aX U<|WK O<|aF<|WS fun _ P=>rS (SX (gJ 5 U U U) U U)<|a_ 2 U<|AL U dK fun g=>a_ 1 U<|fw U cT U<|RK P<|WS fun _ K=>rP 3 [] (mc 0 U I) ?_
 refine iE (k:=ys) (k':=(ys++[(i,z)])) 7 (by first|exact hsz|exact Nat.le_refl _) hY D E U U U (by exact ⟨(i,z),(sS hx).2 (.inr (C _ hm)),U,U⟩) U U (fun B15 AB H=>?_) (fun B15 AB H=>?_)
 rotate_left 1
 ·refine rP 1 [] I ?_
  refine RK K<|aX U<|aB ?_
  refine hQ _ _ _ (fr (vs:=[]) trivial fun w hs=>oB 7 U AB H hs)
 refine rP 1 [] I ?_
 refine RK K<|aM U<|cJ<|aH<|fm 6 U ef U ?_
 refine bc (W ⟨((bR left i),(ys++[(i,z)]),B15),⟨BR hn hm B,jW C,asm,asm,by simp [F]⟩⟩ _ _ _ U (dD hm) (aT U) (aJ [1,2,3,4,5,6,7]))
theorem qA (gw b:Nat):
 kd Tryz.prog 212 [(vP gw),(vI (b:Int))] [] (fun (x:Nat×Nat)=>(Value.func (.func 220) [].toArray [(Value.pointer (some ⟨x.1,0,none⟩)),(Value.pointer (some ⟨x.2,0,none⟩))].toArray)) (fun (x:Nat×Nat)=>True) (fun (x:Nat×Nat)=>[(bJ x.1 263 [(vP gw)]),(bJ x.2 3 [(vI (b:Int))])]):=by
 refine cS kr Tryz.func212 U U fun E Q hQ hN=>?_
 try dsimp only
 refine WS fun _ A=>qo U U fun C=>qo U U fun D=>a_ 1 U<|RK A<|WS fun _ B=>rS (FU U)<|rP 1 [] I ?_
 refine RK B<|aB<|LX hQ (C,D) [1,0] [] I U U U U ?_
 trivial
theorem FK (gw b:Nat):
 kd Tryz.prog 207 [(vP gw),(vI (b:Int))] [] (fun (x:Nat×Nat)=>(Value.func (.func 211) [].toArray [(Value.pointer (some ⟨x.1,0,none⟩)),(Value.pointer (some ⟨x.2,0,none⟩))].toArray)) (fun (x:Nat×Nat)=>True) (fun (x:Nat×Nat)=>[(bJ x.1 263 [(vP gw)]),(bJ x.2 3 [(vI (b:Int))])]):=by
 refine cS kr Tryz.func207 U U fun E Q hQ hN=>?_
 try dsimp only
 refine WS fun _ A=>qo U U fun C=>qo U U fun D=>a_ 1 U<|RK A<|WS fun _ B=>rS (FU U)<|rP 1 [] I ?_
 refine RK B<|aB<|LX hQ (C,D) [1,0] [] I U U U U ?_
 trivial
end
section
open Go.RowKit
theorem mj:qd Tryz.prog 280 c5:=Gw Ip (fun x y w=>Jv 9998 x y w) (fun x y h=>by cases x; cases y; simp [aw.cells] at h; simp [h]) (fun x=>by simp [aw.cells,Instr.sameBits]) (fun x w=>⟨_,rfl,fun p hp=>by
 simp only [cO,List.not_mem_nil,or_false] at hp
 rcases hp with rfl|rfl
 ·exact ⟨⟨_,hZ cz U w⟩,_,nO⟩
 ·exact ⟨⟨_,hZ cz U w⟩,_,nO⟩⟩)
theorem FI (s:Int):
 dQ Tryz.prog 215 [(vI s)] [] (vA (aw.cells (eA s))):=by
 refine bx kr Tryz.func215 U U fun H Q hQ hN=>?_
 try dsimp only
 refine WS fun _ B=>AL U pt fun G=>RK B<|al fun _ C=>WS fun _ D=>rP 2 [] I ?_
 refine RK D<|dF U (aY fun A=>?_) (aZ fun A=>?_)
 ·refine WS fun _ E=>rS (SX (bh (xs:=[(1,.const (vI 1))]) (cs:=(aw.cells (aw.mk 0 1))) U U (bg xq U)) U U)<|fw U ot U<|RK E<|aB<|CW hQ [0] (mc 0 U I) U ?_
  unfold eA; first|rw [if_pos A]|rw [if_neg A]
 refine WK C<|WS fun _ F=>rS (SX (bh (xs:=[(0,.const (vI 1))]) (cs:=(aw.cells (aw.mk 1 0))) U U (bg xq U)) U U)<|fw U ot U<|RK F<|aB<|CW hQ [0] (mc 0 U I) U ?_
 unfold eA; first|rw [if_pos A]|rw [if_neg A]
theorem rn (x:aw) (y:aw) (hx:(0≤x.right∧x.right≤1000)∧0≤x.eP∧x.eP≤1000) (hy:(0≤y.right∧y.right≤1000)∧0≤y.eP∧y.eP≤1000):
 dQ Tryz.prog 214 [(vA (aw.cells x)),(vA (aw.cells y))] [] (vA (aw.cells (dm x y))):=by
 refine bx kr Tryz.func214 U U fun F Q hQ hN=>?_
 try dsimp only
 refine WS fun _ A=>g5 U fun C=>g5 U fun D=>AL U pt fun E=>RK A<|WS fun _ B=>rP 10 [0,1,0,1] (mc 2 U (mc 1 U I)) ?_
 refine rS (SX (bh (xs:=[(0,.tmp 9),(1,.tmp 14)]) (cs:=(aw.cells (aw.mk (x.right+y.right) (x.eP+y.eP)))) U U (bg xq U)) U U)<|fw U ot U<|RK B<|aB ?_
 exact CW hQ [0] (mc 0 U I) U U
theorem IM (ln:cj) (ri:eJ) (e:List Int) (tms:List TM) (e_A:OA) (e_C:Nat) (tb:List Nat) (t_A:OA) (t_C:Nat) (fs:List FM) (bs:List FM) (fb:List Nat) (f_A:OA) (f_C:Nat) (bb:List Nat) (b_A:OA) (b_C gw:Nat) (x:aw) (hx:(0≤x.right∧x.right≤1000)∧0≤x.eP∧x.eP≤1000) (hn:ri.ay.n≤1000):
 dQ Tryz.prog 213 [(vP gw),(vA (aw.cells x))] [(rd e_A e.length 1 (e.map iC)),(rd t_A tms.length 1 (List.zipWith eV tms tb)),(eR (aR og tms tb)),(rd f_A fs.length 1 (List.zipWith eV fs fb)),(eR (aR k8 fs fb)),(rd b_A bs.length 1 (List.zipWith eV bs bb)),(eR (aR k8 bs bb)),(bJ gw 274 (bE.cells (bE.mk ln ri (ba.mk e_A e.length e_C) (ba.mk t_A tms.length t_C) (ba.mk f_A fs.length f_C) (ba.mk b_A bs.length b_C))))] (vB (lg (bT ln ri e tms) x)):=by
 refine bx kr Tryz.func213 U U fun E Q hQ hN=>?_
 try dsimp only
 refine WS fun _ C=>g5 U fun D=>a_ 1 U<|RK C<|al fun _ B=>dR cE 26 kr<|m7 3 [] (mc 0 U I) U<|dS (SX (bk U U) U U)<|dP 5 [] (mr 8 U I) ?_
 refine j8 (t:=13) U (aZ fun A=>?_) (aY fun A=>?_)
 ·refine dP 17 [] I ?_
  refine dJ<|RK B<|aB<|Q1 hQ U U U ?_
  exact cB (df (fun h=>A h.1)).symm
 refine rH 1 U<|dS (SX (bk U U) U U)<|m7 8 [0,1] (mr 8 U (mc 0 U I)) U<|dS (SX (bk U U) U U)<|dP 6 [] (mr 8 U I) ?_
 refine dJ<|RK B<|aB<|Q1 hQ U U U ?_
 exact cB (decide_eq_decide.2 ⟨fun h=>⟨A,h⟩,fun h=>h.2⟩)
end
section
open Go.RowKit
theorem A_ (ln:cj) (ri:eJ) (e:List Int) (tms:List TM) (e_A:OA) (e_C:Nat) (tb:List Nat) (t_A:OA) (t_C:Nat) (fs:List FM) (bs:List FM) (fb:List Nat) (f_A:OA) (f_C:Nat) (bb:List Nat) (b_A:OA) (b_C gw:Nat) (b g1 g2:Nat) (mf:FM) (mb:FM) (hb:b<e.length) (hw:BZ (bT ln ri e tms)) (htb:tb.length=tms.length) (hfw:sI (bT ln ri e tms) fs) (hfb:fb.length=fs.length) (hbw:pT (bT ln ri e tms) bs) (hbb:bb.length=bs.length) (hsg:ri.ay.n≤1000) (hm1:fs[b]? =some mf) (hm2:bs[b+1]? =some mb):
 zC Tryz.prog 211 [] [(vP g1),(vP g2)] [(rd e_A e.length 1 (e.map iC)),(rd t_A tms.length 1 (List.zipWith eV tms tb)),(eR (aR og tms tb)),(rd f_A fs.length 1 (List.zipWith eV fs fb)),(eR (aR k8 fs fb)),(rd b_A bs.length 1 (List.zipWith eV bs bb)),(eR (aR k8 bs bb)),(bJ gw 274 (bE.cells (bE.mk ln ri (ba.mk e_A e.length e_C) (ba.mk t_A tms.length t_C) (ba.mk f_A fs.length f_C) (ba.mk b_A bs.length b_C)))),(bJ g1 263 [(vP gw)]),(bJ g2 3 [(vI (b:Int))])] ([]:List (Int×ab)) (fun ys x ys'=> ∃ q,q∈mS (bT ln ri e tms) b mf mb∧x=IK q∧ys'=ys++[q]) (fun ys=> ∀ q∈mS (bT ln ri e tms) b mf mb,q∈ys):=by
 have J6:e.length≤6:=hw.n
 have J7:tms.length=e.length:=hw.times
 have JQ:fs.length=e.length+1:=hfw.len
 have JO:bs.length=e.length+1:=hbw.len
 refine o9 kr Tryz.func211 U U fun l J Z A0 w0 Q hY Eq Ej hQ hN=>?_
 try dsimp only
 refine WS fun _ E9=>qo U U fun b2=>RK E9<|WS fun _ FS=>rP 2 [0,1] (mr 10 U (mr 11 U I)) ?_
 refine cX (qA gw b) (aC) U fun y4 J8=>?_
 obtain ⟨C2,C5⟩:=y4
 try dsimp only
 refine RK FS<|aF<|iG 4 U (by exact fun _ h=>h)<|iG 6 U (by exact fun _ h=>h)<|iG 8 U (by exact fun _ h=>h)<|iG 14 U (by exact fun _ h=>h) ?_
 refine ko (L0:=[(0,(Value.func (.yield l) #[] #[])),(1,(vP g1)),(2,(vP g2)),(3,(vP b2))]) (F:=[(rd e_A e.length 1 (e.map iC)).ro,(rd t_A tms.length 1 (List.zipWith eV tms tb)).ro,(eR (aR og tms tb)).ro,(bJ gw 274 (bE.cells (bE.mk ln ri (ba.mk e_A e.length e_C) (ba.mk t_A tms.length t_C) (ba.mk f_A fs.length f_C) (ba.mk b_A bs.length b_C)))).ro,(bJ C2 263 [(vP gw)]),(bJ C5 3 [(vI (b:Int))])]) (fun k (y:(List (Int×ab))×aj)=>(jD (bT ln ri e tms) b mf mb k y.1)∧(J y.1 y.2)∧(Fo A0 w0 y.2)) (fun k y=>[(bJ b2 277 [(Value.func (.yield l) #[] #[])]),y.2,(rd e_A e.length 1 (e.map iC)).ro,(rd t_A tms.length 1 (List.zipWith eV tms tb)).ro,(eR (aR og tms tb)).ro,(rd f_A fs.length 1 (List.zipWith eV fs fb)).ro,(eR (aR k8 fs fb)).ro,(rd b_A bs.length 1 (List.zipWith eV bs bb)).ro,(eR (aR k8 bs bb)).ro,(bJ gw 274 (bE.cells (bE.mk ln ri (ba.mk e_A e.length e_C) (ba.mk t_A tms.length t_C) (ba.mk f_A fs.length f_C) (ba.mk b_A bs.length b_C)))).ro,(bJ g1 263 [(vP gw)]).ro,(bJ g2 3 [(vI (b:Int))]).ro]) (fun c (z:aj)=>(c= .ret∧(Z z)∧(Fo A0 w0 z))) (fun _ z=>[(bJ b2 277 [(Value.func (.yield l) #[] #[])]),z,(rd e_A e.length 1 (e.map iC)).ro,(rd t_A tms.length 1 (List.zipWith eV tms tb)).ro,(eR (aR og tms tb)).ro,(rd f_A fs.length 1 (List.zipWith eV fs fb)).ro,(eR (aR k8 fs fb)).ro,(rd b_A bs.length 1 (List.zipWith eV bs bb)).ro,(eR (aR k8 bs bb)).ro,(bJ gw 274 (bE.cells (bE.mk ln ri (ba.mk e_A e.length e_C) (ba.mk t_A tms.length t_C) (ba.mk f_A fs.length f_C) (ba.mk b_A bs.length b_C)))).ro,(bJ g1 263 [(vP gw)]).ro,(bJ g2 3 [(vI (b:Int))]).ro]) [6,7,8,9,10,11,12,13,14,15,16,17] [3,2,1,0,4,5] (([]:List (Int×ab)),A0) rfl rfl (oW ln ri e tms e_A e_C tb t_A t_C f_A fs.length f_C b_A bs.length b_C gw b C2 C5 om om) rfl rfl rfl (by exact ⟨jD.nil,Eq,Ej⟩) (by simp only [List.forall_mem_cons,List.not_mem_nil,false_imp_iff,implies_true,and_true]; exact ⟨⟨_,aN (i:=0) rfl,(dT (bI _))⟩,⟨_,aN (i:=1) rfl,(dT (bI _))⟩,⟨_,aN (i:=2) rfl,(dT (bI _))⟩,⟨_,aN (i:=3) rfl,(dT (bI _))⟩,⟨_,aN (i:=4) rfl,(bI _)⟩,⟨_,aN (i:=5) rfl,(bI _)⟩⟩) (by rintro k x k2 ⟨o,_,rfl,_⟩; rfl) rfl (aT rfl) ?_ ?_ ?_ ?_
 rotate_left 1
 ·rintro KM k ⟨ys,A⟩ Ck A1
  obtain ⟨X,Y,a⟩:=A1
  try dsimp only at X Y a
  try dsimp only
  refine aH ?_
  refine hN _ _ _ (lK 0 U U<|fr (vs:=[]) trivial fun w hs=>Fg 8 U (by exact jD.fin X Ck) Y a hs)
 ·rintro Kd id A C0
  simp at C0
 ·rintro Ke A C1
  obtain ⟨hc,Fn,GE⟩:=C1
  try dsimp only
  refine hQ _ _ _ (lK 0 U U<|fr (vs:=[]) trivial fun w hs=>oB 8 U Fn GE hs)
 rintro k x k2 ⟨ys,A⟩ lr ra rb S w1 K8 Qr9 GT hx AO FZ CP IV Di
 obtain ⟨o,ho,rfl,rfl⟩:=hx
 obtain ⟨X,Y,a⟩:=AO
 try dsimp only at X Y a
 try dsimp only
 refine WS fun _ A6=>rP 1 [] I ?_
 refine RK A6<|au<|AL U dK fun Id=>fw U cT U<|aG<|jB (fun _ _ h=>h) (aJ [1,0,2,3,4,5,6,7,8,9,10,11,12,13])<|bc (FZ _ _ ?_)
 refine aF<|al fun _ A7=>dR cE 7 kr<|m7 1 [] (mr 12 U I) U<|dS (SX (bk U U) U U)<|dP 3 [0,1] (mr 11 U (mr 13 U I)) ?_
 obtain ⟨ga,s⟩:=aQ fb b om
 have Cp:(List.zipWith eV fs fb)[b]? =some (eV mf ga):=dE hm1 s
 refine dS (IA b U (aS 7 U) lx dc om om)<|dS (g4 b 0 (Value.map (some ga)) U cz (aS 7 U) Cp U dc U)<|dJ<|ic (kV:=c5) (m:=bo iV mf) 8 U U lS U ⟨⟨(fJ c5 ga (bo iV mf)),(bY hm1 s (by simp [k8])),U⟩,fun h=>h⟩ (show jf _ (fJ c5 ga (bo iV mf)).holds from eh 8 U (bY hm1 s (by simp [k8]))) U fun H1=>?_
 try dsimp only
 refine RK A7<|aF ?_
 have C:(∀ p∈mf,p∈mf)∧(kH (bT ln ri e tms) b mf mb o mf ys)∧(jD (bT ln ri e tms) b mf mb k ys)∧(J ys A)∧(Fo A0 w0 A):=by exact ⟨fun p hp=>hp,kH.start,X,Y,a⟩
 refine bX (ι:={z:FM×(List (Int×ab))×aj // (∀ p∈z.1,p∈mf)∧(kH (bT ln ri e tms) b mf mb o z.1 z.2.1)∧(jD (bT ln ri e tms) b mf mb k z.2.1)∧(J z.2.1 z.2.2)∧(Fo A0 w0 z.2.2)}) [0,1,2,3,4,5,23] [1,2,3,5,6,7,8,9,10,11,12,13,14] U U (fun z=>[]) (fun z=>[(ti c5 H1 ga (bo iV mf) (bo iV z.1.1) none),z.1.2.2]) (fun _=>rfl) (fun _=>rfl) (fun z=>z.1.1.length) ⟨(mf,ys,A),C⟩ (ew.nil _) (aJ [1,2,3,5,6,7,8,9,10,11,12,13,14,0,4]) ?_
 clear C
 rintro ⟨⟨left,ys,A⟩,⟨K,M,N,O,P⟩⟩ J15 A5
 try dsimp only at K M N O P
 try dsimp only
 refine WS fun _ j=>gL mj.inj (f:=iV) 13 U U U U (fun EB=>?_) (fun t v hm hn=>?_)
 ·refine rP 1 [] I ?_
  refine RK j<|al fun _ IO=>aM U<|bq<|ah<|ah<|aD<|aH ?_
  exact CP (ys,A) _ _ (by exact ⟨jD.next N M EB,O,P⟩) (aJ [0,2,14,3,4,5,6,7,8,9,10,11,12])
 try dsimp only
 refine a_ 1 U<|RK j<|al fun _ A8=>aX U<|WK A8<|aF<|WS fun _ A9=>rS (SX (gJ 13 U U U) U U)<|a_ 2 U<|AL U pt fun If=>fw U ot U<|a_ 1 U<|RK A9<|al fun _ Bi=>dR cE 8 kr<|m7 1 [] (mr 12 U I) U<|dS (SX (bk U U) U U)<|dP 4 [0,1] (mr 11 U (mr 13 U I)) ?_
 obtain ⟨gb,AC⟩:=aQ bb (b+1) om
 have Cx:(List.zipWith eV bs bb)[(b+1)]? =some (eV mb gb):=dE hm2 AC
 refine dS (IA (b+1) U (aS 9 U) lx dc om om)<|dS (g4 (b+1) 0 (Value.map (some gb)) U cz (aS 9 U) Cx U dc U)<|dJ<|ic (kV:=c5) (m:=bo iV mb) 10 U U lS U ⟨⟨(fJ c5 gb (bo iV mb)),(bY hm2 AC (by simp [k8])),U⟩,fun h=>h⟩ (show jf _ (fJ c5 gb (bo iV mb)).holds from eh 10 U (bY hm2 AC (by simp [k8]))) U fun IE=>?_
 try dsimp only
 refine RK Bi<|aF ?_
 have C:(∀ p∈mb,p∈mb)∧(ks (bT ln ri e tms) b mb o (t,v) mb ys)∧(kH (bT ln ri e tms) b mf mb o left ys)∧(jD (bT ln ri e tms) b mf mb k ys)∧(J ys A)∧(Fo A0 w0 A):=by exact ⟨fun p hp=>hp,ks.start,M,N,O,P⟩
 refine bX (ι:={z:FM×(List (Int×ab))×aj // (∀ p∈z.1,p∈mb)∧(ks (bT ln ri e tms) b mb o (t,v) z.1 z.2.1)∧(kH (bT ln ri e tms) b mf mb o left z.2.1)∧(jD (bT ln ri e tms) b mf mb k z.2.1)∧(J z.2.1 z.2.2)∧(Fo A0 w0 z.2.2)}) [0,1,2,3,4,5,6,7,23,37] [1,2,3,4,5,6,7,8,9,10,11,12,13,14,15] U U (fun z=>[]) (fun z=>[(ti c5 IE gb (bo iV mb) (bo iV z.1.1) none),z.1.2.2]) (fun _=>rfl) (fun _=>rfl) (fun z=>z.1.1.length) ⟨(mb,ys,A),C⟩ (ew.nil _) (aJ [1,2,3,4,5,6,7,8,9,10,11,12,13,14,15,0,16]) ?_
 clear C
 rintro ⟨⟨l2,T,A2⟩,⟨B,D,E,G,H,AB⟩⟩ J23 V
 try dsimp only at B D E G H AB
 try dsimp only
 refine WS fun _ r=>gL mj.inj (f:=iV) 15 U U U U (fun EQ=>?_) (fun u z L A3=>?_)
 ·refine rP 1 [] I ?_
  refine RK r<|al fun _ IR=>aM U<|bq<|ah<|ah<|aD<|aH<|fm 14 U ef U ?_
  refine bc (A5 ⟨((bR left t),T,A2),⟨jW K,kH.next hn hm E D EQ,G,H,AB⟩⟩ _ _ _ U (dD hm) (aT U) (aJ [1,2,3,4,5,6,7,8,9,10,11,12,13,14,16]))
 try dsimp only
 refine a_ 1 U<|RK r<|al fun _ B3=>aX U<|WK B3<|aF<|WS fun _ B7=>rS (SX (gJ 15 U U U) U U)<|a_ 2 U<|AL U pt fun In=>fw U ot U<|rP 1 [] I ?_
 refine RK B7<|al fun _ B9=>ek cE [17,18] [] [] [0,1,2,3,4,5,6,7,8,9,10,11,12,13,14,15,16,17] [] U U U U U<|eS U (MV U)<|eS U (My 13 U cz U)<|eS U (SX (bk U U) U U)<|eS U (FA 10 U fI U)<|eS U (CT (vS e_A e.length e_C) 12 U cz U U)<|eS U (My 14 U cz U) ?_
 obtain ⟨y,hy⟩:=aQ e b om
 have Go:=cG iC hy
 refine eS U (IA b U (aS 5 U) b0 dc om om)<|eS U (g4 b 0 (vI y) U cz (aS 5 U) Go U dc U) ?_
 have Jn:=hw.least y (aN hy)
 have Fj:=Fp hw _ _ (hfw.mem hm1 (K _ hm))
 have Fd:=Dd hw (hbw.mem hm2 (B _ L))
 have J2:=rN o.1
 have J3:=hw.opt ho
 dsimp only at Fj Fd
 refine eS U (BI U (fG ⟨om,om⟩))<|eS U (FA 0 U fI U)<|eS U (L1 (vI o.2.Lo) 3 U cz U U)<|eS U (MX U)<|eS U (MV U)<|eS U (FA 1 U fI U)<|eS U (L1 (vI o.2.Hi) 3 U cz U U)<|eS U (MN U)<|eS U (SX (bh (xs:=[(0,.tmp 54),(1,.tmp 58)]) (cs:=(ab.cells (ab.mk (max (v+y) o.2.Lo) (min z o.2.Hi)))) U U (bg jt U)) U U)<|e7 U<|cf U fun T30 CY=>AL U dK fun JK=>aG (CY _ _ (aJ [1,2,3,4,5,6,7,8,9,10,11,12,13,14,15,16,17,18]) ?_)
 refine cf U fun T32 Ci=>fw U cT U<|aG (Ci _ _ (aJ [1,2,3,4,5,6,7,8,9,10,11,12,13,14,15,16,17,18]) ?_)
 refine fH U<|KK B9<|al fun _ R=>dR cE 19 kr<|dP 6 [] (mc 0 U I) ?_
 refine j8 (t:=65) U (aZ fun d=>?_) (aY fun d=>?_)
 ·refine rH 3 U<|rH 10 U<|dJ<|rP 3 [] I ?_
  refine RK R<|aM U<|cJ<|aH<|fm 17 U ef U ?_
  refine bc (V ⟨((bR l2 u),T,A2),⟨jW B,ks.skip A3 L D (by exact B5 hy d),E,G,H,AB⟩⟩ _ _ _ U (dD L) (aT U) (aJ [2,3,4,5,6,7,8,9,10,11,12,13,14,15,16,17,18]))
 refine dP 3 [0,1,2] (mr 14 U (mc 2 U (mc 1 U I))) ?_
 have J5:(0≤(dm t u).right∧(dm t u).right≤1000)∧0≤(dm t u).eP∧(dm t u).eP≤1000:=by simp only [dm]; omega
 have J4:(0≤(dm (dm t u) (eA o.1)).right∧(dm (dm t u) (eA o.1)).right≤1000)∧0≤(dm (dm t u) (eA o.1)).eP∧(dm (dm t u) (eA o.1)).eP≤1000:=by simp only [dm]; omega
 refine dS (CL (rn t u om om) (aC) U)<|rH 1 U<|dS (CL (FI o.1) (aC) U)<|dS (CL (rn (dm t u) (eA o.1) asm om) (aC) U)<|dS (CL (IM ln ri e tms e_A e_C tb t_A t_C fs bs fb f_A f_C bb b_A b_C gw (dm (dm t u) (eA o.1)) asm hsg) (bj [6,7,8,9,10,11,12,13]) U)<|dP 2 [] I ?_
 refine j8 (t:=75) U (fun g=>?_) (fun g=>?_)
 ·refine rH 3 U<|dJ<|rP 3 [] I ?_
  refine RK R<|aM U<|cJ<|aH<|fm 17 U ef U ?_
  refine bc (V ⟨((bR l2 u),T,A2),⟨jW B,ks.skip A3 L D (by exact BQ g),E,G,H,AB⟩⟩ _ _ _ U (dD L) (aT U) (aJ [2,3,4,5,6,7,8,9,10,11,12,13,14,15,16,17,18]))
 refine dP 3 [0,1] (mc 5 U (mc 0 U I)) ?_
 refine dJ<|iE (k:=T) (k':=(T++[(o.1,(ab.mk (max (v+y) o.2.Lo) (min z o.2.Hi)))])) 18 (by first|exact GT|exact Nat.le_refl _) hY H AB U U U (by exact ⟨(o.1,_),fB.2 ⟨o,ho,(t,v),K _ hm,(u,z),B _ L,(wR hy d g)⟩,U,U⟩) U U (fun B34 W AA=>?_) (fun B34 W AA=>?_)
 rotate_left 1
 ·refine rP 2 [] I ?_
  refine RK R<|aX U<|aB ?_
  exact Di B34 _ _ (by exact ⟨U,W,AA⟩) (aJ [3,5,18,6,7,8,9,10,11,12,13,14,15])
 refine rP 2 [] I ?_
 refine RK R<|aM U<|cJ<|aH<|fm 17 U ef U ?_
 refine bc (V ⟨((bR l2 u),(T++[(o.1,(ab.mk (max (v+y) o.2.Lo) (min z o.2.Hi)))]),B34),⟨jW B,ks.NB A3 L D (wR hy d g),E.app,G.app,W,AA⟩⟩ _ _ _ U (dD L) (aT U) (aJ [2,3,4,5,6,7,8,9,10,11,12,13,14,15,16,17,18]))
end
section
open Go.RowKit
theorem BD (ln:cj) (ri:eJ) (e:List Int) (tms:List TM) (e_A:OA) (e_C:Nat) (tb:List Nat) (t_A:OA) (t_C:Nat) (fs:List FM) (bs:List FM) (fb:List Nat) (f_A:OA) (f_C:Nat) (bb:List Nat) (b_A:OA) (b_C gw:Nat) (hw:BZ (bT ln ri e tms)) (hsg:ri.ay.n≤1000) (hn:ln.ag.n=e.length) (hfw:sI (bT ln ri e tms) fs) (hfb:fb.length=fs.length):
 kd Tryz.prog 210 [(vP gw)] [(rd e_A e.length 1 (e.map iC)),(rd t_A tms.length 1 (List.zipWith eV tms tb)),(eR (aR og tms tb)),(rd f_A fs.length 1 (List.zipWith eV fs fb)),(eR (aR k8 fs fb)),(rd b_A bs.length 1 (List.zipWith eV bs bb)),(eR (aR k8 bs bb)),(bJ gw 274 (bE.cells (bE.mk ln ri (ba.mk e_A e.length e_C) (ba.mk t_A tms.length t_C) (ba.mk f_A fs.length f_C) (ba.mk b_A bs.length b_C))))] (fun (x:(OA)×Nat)=>(vS x.1 ((iv (bT ln ri e tms)).length) x.2)) (fun (x:(OA)×Nat)=>True) (fun (x:(OA)×Nat)=>[(own x.1 x.2 3 1 ((iv (bT ln ri e tms)).map iC))]):=by
 have y:e.length≤6:=hw.n
 have u:fs.length=e.length+1:=hfw.len
 refine cS kr Tryz.func210 U U fun w0 Q hQ hN=>?_
 try dsimp only
 refine WS fun _ X=>a_ 1 U<|RK X<|WS fun _ Y=>a_ 1 U<|RK Y<|al fun _ Z=>WS fun _ b=>a_ 1 U<|rS (SX (bk U U) U U)<|rP 6 [] (mr 7 U I) ?_
 refine RK b<|aF<|gl 3 1 ?_
 have A:(0≤e.length+1):=by exact Nat.zero_le _
 refine bX (ι:={z:Nat×(OA)×Nat // (z.1≤e.length+1)}) [0,12] [1,2,3,4,5,6,7,8] U U (fun z=>[(3,(vS z.1.2.1 ((iz (bT ln ri e tms) z.1.1).length) z.1.2.2)),(13,(vI (z.1.1:Int)))]) (fun z=>[(own z.1.2.1 z.1.2.2 3 1 ((iz (bT ln ri e tms) z.1.1).map iC))]) (fun _=>rfl) (fun _=>rfl) (fun z=>e.length+1-z.1.1) ⟨(0,none,0),A⟩ (aT U) (aJ [1,2,3,4,5,6,7,8,0]) ?_
 clear A
 rintro ⟨⟨n,a,c⟩,G⟩ J5 AB
 try dsimp only at G
 try dsimp only
 refine WS fun _ d=>rP 1 [] I ?_
 refine RK d<|al fun _ g=>cu U (aZ fun s=>?_) (aY fun s=>?_)
 ·refine bq<|ah<|ah<|aD<|KK Z<|WS fun _ P=>?_
  rw [show iz (bT ln ri e tms) n=iv (bT ln ri e tms) by (obtain rfl:n=e.length+1:=by omega); rfl]
  refine rP 2 [] I ?_
  refine RK P<|aB<|LX hQ (a,c) [8] [] I U U U U ?_
  trivial
 refine WK g<|al fun _ R=>aF<|WS fun _ J=>a_ 2 U<|RK J<|WS fun _ K=>a_ 1 U<|rS (SX (bk U U) U U)<|rP 3 [] (mr 7 U I) ?_
 obtain ⟨m,B⟩:=aQ fs n om
 obtain ⟨ma,hm0a⟩:=aQ fb n om
 have hm0m:(List.zipWith eV fs fb)[n]? =some (eV m ma):=dE B hm0a
 refine rS (IA n U (aS 3 U) lx dc om om)<|rS (g4 n 0 (Value.map (some ma)) U cz (aS 3 U) hm0m U dc U)<|ic (kV:=c5) (m:=bo iV m) 4 U U lS U ⟨⟨(fJ c5 ma (bo iV m)),(bY B hm0a (by simp [k8])),U⟩,fun h=>h⟩ (show jf _ (fJ c5 ma (bo iV m)).holds from eh 4 U (bY B hm0a (by simp [k8]))) U fun l=>?_
 try dsimp only
 refine RK K<|aF ?_
 have A:(∀ p∈m,p∈m)∧(∀ p∈m,p∈m∨lg (bT ln ri e tms) p.1=false):=by exact ⟨fun p hp=>hp,fun p hp=> .inl hp⟩
 refine bX (ι:={z:FM // (∀ p∈z,p∈m)∧(∀ p∈m,p∈z∨lg (bT ln ri e tms) p.1=false)}) [0,3,4,12,13,23] [1,2,3,4,5,6,7,8,9] U U (fun z=>[]) (fun z=>[(ti c5 l ma (bo iV m) (bo iV z.1) none)]) (fun _=>rfl) (fun _=>rfl) (fun z=>z.1.length) ⟨m,A⟩ (ew.nil _) (aJ [1,2,3,4,5,6,7,8,9,0]) ?_
 clear A
 rintro ⟨left,⟨C,D⟩⟩ J13 H
 try dsimp only
 refine WS fun _ F=>gL mj.inj (f:=iV) 9 U U U U (fun W=>?_) (fun t v hm i=>?_)
 ·refine a_ 1 U<|RK F<|al fun _ o=>aM U<|bq<|ah<|ah<|aD<|aH<|KK R<|au<|rP 2 [] I ?_
  refine aG ?_
  rw [← BJ (w:=(bT ln ri e tms)) (k:=n) ((xM (hfw.min _ _ B) (hfw.keys _ _ B)).symm.trans (Fu D W))]
  have S:(vI (((n+1):Nat):Int))=(vI ((n:Int)+1)):=by exact cI om
  refine bc (AB ⟨((n+1),a,c),(by first|omega|(simp only []; omega))⟩ _ _ _ U os (du 3<|bO U S<|ew.nil _) (aJ [0,1,2,3,4,5,6,7,8]))
 try dsimp only
 refine a_ 1 U<|RK F<|al fun _ L=>aX U<|WK L<|aF<|WS fun _ M=>rS (SX (gJ 9 U U U) U U)<|a_ 1 U<|AL U pt fun q=>fw U ot U<|RK M<|WS fun _ N=>rP 2 [] (mc 0 U I) ?_
 have j:=Fp hw _ _ (hfw.mem B (C _ hm))
 dsimp only at j
 refine rS (CL (IM ln ri e tms e_A e_C tb t_A t_C fs bs fb f_A f_C bb b_A b_C gw t om hsg) (bj [1,2,3,4,5,6,7,8]) U)<|RK N<|cu U (fun E=>?_) (fun E=>?_)
 ·refine cJ<|aH<|fm 10 U ef U ?_
  refine bc (H ⟨(bR left t),⟨jW C,DH i hm D (by first|exact E|simpa using E)⟩⟩ _ _ _ U (dD hm) (aT U) (aJ [1,2,3,4,5,6,7,8,9,10]))
 refine WS fun _ O=>rP 2 [] I ?_
 refine ck (xs:=[.tmp 32]) (cs:=[(vI (n:Int))]) U b0 gI U U U U (by simp [Value.cells]) U U fun r=>?_
 have hy:iA (bT ln ri e tms) (fwd (bT ln ri e tms) n)=true:=(xM (hfw.min _ _ B) (hfw.keys _ _ B)).symm.trans (Gu (C _ hm) E)
 refine dL (es2:=(List.map iC (iz (bT ln ri e tms) (n+1)))) (m':=(iz (bT ln ri e tms) (n+1)).length) 10 U U U q8 U U sm (aP (es:=List.map iC [(n:Int)]) 0 U U (by simp [aW]) U) (ku _) (by have:=s6 (w:=(bT ln ri e tms)) (k:=n); first|omega|(simp; omega)) (by have:=s6 (w:=(bT ln ri e tms)) (k:=n); simp only [maxLen]; omega) (by rw [yT hy]; simp) sm U fun AA V=>?_
 try dsimp only
 refine a_ 1 U<|RK O<|bq<|fT U<|ah<|aD<|aH<|KK R<|au<|rP 2 [] I ?_
 refine aG ?_
 have T:(vI (((n+1):Nat):Int))=(vI ((n:Int)+1)):=by exact cI om
 refine bc (AB ⟨((n+1),AA,V),(by first|omega|(simp only []; omega))⟩ _ _ _ U os (du 3<|bO U T<|ew.nil _) (aJ [2,3,4,5,6,7,8,9,10]))
end
end Go.Proofs.YtadjgjnicdcjbaaGreatDoor
