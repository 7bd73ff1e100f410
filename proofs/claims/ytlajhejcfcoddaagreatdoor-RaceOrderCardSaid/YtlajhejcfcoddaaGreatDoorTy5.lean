/-
 The statement raceOrder_said, part 5 of 8: RaceV, RankP, OrdX, TabP, NestS, Grp, Twin, Fresh, Rep, Ex6, Win6, BoolC, RaceR, Tied6, Sel6, Ord7, Cut7, Rep6, Tab7, Bits, Ord6, Ord8, MapD, Rr1, B1, Rc1, Rs3, B4, B2, B3, B5, B6, Frozen, MarkD, Marks, Follow, OpenM.
 Conditions: none.
-/
import Derived.Test.YtlajhejcfcoddaaGreatDoorTy1
import Derived.Test.YtlajhejcfcoddaaGreatDoorTy2
import Derived.Test.YtlajhejcfcoddaaGreatDoorTy3
import Derived.Test.YtlajhejcfcoddaaGreatDoorTy4
import Derived.KernelRfl
namespace Go.Proofs.YtlajhejcfcoddaaGreatDoor
set_option maxRecDepth 100000
set_option maxHeartbeats 4000000
set_option linter.unusedVariables false
section
def aF (m:g8) (i:Int):aa:=(m.lookup i).getD dH
def sH (r:bT) (i:Int):Prop:=0≤i∧i≤(r.aL.length:Int)-1
instance (r:bT) (i:Int):Decidable (sH r i):=by unfold sH; infer_instance
noncomputable def j6 (r:bT) (i:Int):Int:=if cD r=0 then (if sH r i then (if (aG r).lookup i=none then 6 else 0) else 2) else cD r
noncomputable def px (r:bT) (i:Int):aa:=if j6 r i=0 then aF (aG r) i else dH
noncomputable def n9 (r:bT) (a b:Int):Int:=if cD r=0 then (if sH r a∧sH r b∧a≠b then (if (aG r).lookup a=none∨(aG r).lookup b=none then 6 else 0) else 2) else cD r
def BD (s t:aa):Int:=if s.Hi<t.Lo then 2 else if s.Lo<t.Hi then 1 else 0
def rX (s t:aa):Int:=if s=t∧s.Lo=s.Hi then 2 else if s.Lo≤t.Hi∧t.Lo≤s.Hi then 1 else 0
noncomputable def vE (r:bT) (a b:Int):Int:=if n9 r a b=0 then BD (aF (aG r) a) (aF (aG r) b) else 0
noncomputable def qv (r:bT) (a b:Int):Int:=if n9 r a b=0 then rX (aF (aG r) a) (aF (aG r) b) else 0
noncomputable def jm (r:bT) (i:Int):List Int:=if j6 r i=0 then dU (aG r) i (aF (aG r) i) else []
noncomputable def mV (r:bT) (h i:Int):Int:=if cD r=0 then (if (0≤h∧h≤(r.an.length:Int)-1)∧sH r i then (if ((r.an[h.toNat]?).bind (·[i.toNat]?)).any (·.Out)=true then 6 else 0) else 2) else cD r
noncomputable def iA (r:bT) (h i:Int):aa:=if mV r h i=0 then ((((r.an[h.toNat]?).bind (·[i.toNat]?)).map (dI r.ao)).getD dH) else dH
noncomputable def qx (r:bT) (h:Nat):List Int:=let l:=ek (fun i=>(aF (dB r h) i).Hi) (r.bE.filter fun i=>((dB r h).lookup i).isSome); kW (min r.gJ.toNat l.length) l
noncomputable def gO (r:bT) (h:Int):Int:=if cD r=0 then (if 0≤h∧h≤(r.an.length:Int) then 0 else 2) else cD r
noncomputable def cj (r:bT) (h:Int):List Int:=if gO r h=0 then (if h=0 then r.bE else qx r h.toNat) else []
section
variable {r:bT} {i a b:Int}
theorem uQ {m:g8} {i:Int} (h:(m.lookup i).isSome=true): ¬ m.lookup i=none:=fun e=>by rw [e] at h; cases h
theorem uX {m:g8} {i:Int} (h:(m.lookup i).isSome=false):m.lookup i=none:=by cases e:m.lookup i with |none=>rfl|some v=>rw [e] at h; cases h
theorem uI (h:j6 r i=0):cD r=0∧sH r i∧(aG r).lookup i≠none:=by
 unfold j6 at h
 split at h
 ·split at h
  ·split at h
   ·cases h
   ·exact ⟨asm,asm,asm⟩
  ·cases h
 ·exact absurd h asm
theorem yN (h:n9 r a b=0):cD r=0∧(sH r a∧sH r b∧a≠b)∧(aG r).lookup a≠none∧(aG r).lookup b≠none:=by
 unfold n9 at h
 split at h
 ·split at h
  ·split at h
   ·cases h
   ·rename_i _ _ q
    exact ⟨asm,asm,fun e=>q (.inl e),fun e=>q (.inr e)⟩
  ·cases h
 ·exact absurd h asm
theorem zB {k:Nat} {p:Int×aa} (h:p∈dB r k): ∃ q:Nat,q<r.aL.length∧p.1=(q:Int)∧ff r.ao r.an q k=some p.2:=by
 unfold dB at h
 obtain ⟨q,hq,e⟩:=List.mem_filterMap.1 h
 obtain ⟨s,hs,rfl⟩:=Option.map_eq_some_iff.1 e
 exact ⟨q,List.mem_range.1 hq,U,hs⟩
theorem Gk {k:Nat} (h:cD r=0) (hk:k≤r.an.length): ∀ p∈dB r k,0≤p.2.Lo∧p.2.Lo≤p.2.Hi∧p.2.Hi≤30000000:=fun p hp=>by
 obtain ⟨q,_,_,hs⟩:=zB hp
 have A:=Aa (fM h).2.z3 hk hs
 have B:=(fM h).2.nh
 omega
theorem oL (h:cD r=0): ∀ p∈aG r,0≤p.2.Lo∧p.2.Lo≤p.2.Hi∧p.2.Hi≤30000000:=Gk h (Nat.le_refl _)
theorem uu {k:Nat}:(dB r k).length≤r.aL.length:=by
 unfold dB
 refine Nat.le_trans (List.length_filterMap_le _ _) ?_
 rw [List.length_range]; exact Nat.le_refl _
theorem mu (h:cD r=0):(aG r).length≤5:=by
 have A:=uu (r:=r) (k:=r.an.length)
 have B:=(fM h).2.num
 unfold aG; omega
theorem Of {s t:aa}:(if decide (s.Hi<t.Lo)=true then (2:Int) else if decide (s.Lo<t.Hi)=true then 1 else 0)=BD s t:=by simp only [decide_eq_true_eq]; rfl
theorem MB {s t:aa} (h:s=t):(if decide (max s.Lo t.Lo=min s.Hi t.Hi)=true then (2:Int) else if decide (max s.Lo t.Lo≤min s.Hi t.Hi)=true then 1 else 0)=rX s t:=by
 subst h
 simp only [decide_eq_true_eq,rX,Int.max_self,Int.min_self,true_and,and_self]
theorem OQ {s t:aa} (hs:s.Lo≤s.Hi) (ht:t.Lo≤t.Hi) (h: ¬ s=t):(if false=true then (2:Int) else if decide (max s.Lo t.Lo≤min s.Hi t.Hi)=true then 1 else 0)=rX s t:=by
 unfold rX
 rw [if_neg dc,if_neg (fun q:s=t∧s.Lo=s.Hi=>h q.1)]
 by_cases c:s.Lo≤t.Hi∧t.Lo≤s.Hi
 ·rw [if_pos c,if_pos (fR I)]
 ·rw [if_neg c,if_neg (by rw [decide_eq_true_eq]; omega)]
theorem I_ (h: ¬ cD r=0):j6 r i=cD r:=if_neg h
theorem L9 (h:cD r=0) (hi: ¬ (0≤i∧i≤(r.aL.length:Int)-1)):j6 r i=2:=by unfold j6; rw [if_pos h,if_neg (show ¬ sH r i from hi)]
theorem zu (h:cD r=0) (hi:0≤i∧i≤(r.aL.length:Int)-1) (hl:((aG r).lookup i).isSome=false):j6 r i=6:=by unfold j6; rw [if_pos h,if_pos (show sH r i from hi),if_pos (uX hl)]
theorem F_ (h:cD r=0) (hi:0≤i∧i≤(r.aL.length:Int)-1) (hl:((aG r).lookup i).isSome=true):j6 r i=0:=by unfold j6; rw [if_pos h,if_pos (show sH r i from hi),if_neg (uQ hl)]
theorem MA (h: ¬ cD r=0):n9 r a b=cD r:=if_neg h
theorem De (h:cD r=0) (hi: ¬ ((0≤a∧a≤(r.aL.length:Int)-1)∧(0≤b∧b≤(r.aL.length:Int)-1)∧a≠b)):n9 r a b=2:=by unfold n9; rw [if_pos h,if_neg (show ¬ (sH r a∧sH r b∧a≠b) from hi)]
theorem yB (h:cD r=0) (hi:(0≤a∧a≤(r.aL.length:Int)-1)∧(0≤b∧b≤(r.aL.length:Int)-1)∧a≠b) (hl:((aG r).lookup a).isSome=false∨((aG r).lookup b).isSome=false):n9 r a b=6:=by
 unfold n9; rw [if_pos h,if_pos (show sH r a∧sH r b∧a≠b from hi),if_pos (hl.imp uX uX)]
theorem M0 (h:cD r=0) (hi:(0≤a∧a≤(r.aL.length:Int)-1)∧(0≤b∧b≤(r.aL.length:Int)-1)∧a≠b) (h1:((aG r).lookup a).isSome=true) (h2:((aG r).lookup b).isSome=true):n9 r a b=0:=by
 unfold n9; rw [if_pos h,if_pos (show sH r a∧sH r b∧a≠b from hi),if_neg (fun q=>q.elim (uQ h1) (uQ h2))]
end
end
section
abbrev qV:=List (Int×Bool)
def jl (m:qV) (P:Int→Prop):Prop:=(m.map (·.1)).Nodup∧ ∀ k,k∈m.map (·.1)↔P k
section
variable {m:qV} {P Q:Int→Prop} {k:Int}
theorem jl.yn (h:jl m P) (e: ∀ k,P k↔Q k):jl m Q:=⟨h.1,fun k=>(h.2 k).trans (e k)⟩
theorem MG (h: ∀ k,¬ P k):jl [] P:=⟨List.Pairwise.nil,fun k=>⟨fun q=>by simp at q,fun q=>absurd q (h k)⟩⟩
theorem H0:k∈m.map (·.1)↔(m.lookup k).isSome=true:=by
 induction m with
 |nil=>simp
 |cons p m ih=>
  obtain ⟨a,b⟩:=p
  by_cases e:k=a
  ·subst e; simp [List.lookup]
  ·have:(k==a)=false:=by simpa using e
   simp only [List.map_cons,bx,e,false_or,List.lookup,this]
   exact ih
theorem Mg {b:Bool} (h:jl m P) (hk: ¬ P k):jl (dW m k b) fun q=>P q∨q=k:=by
 have hn:(m.lookup k).isSome=false:=by
  rw [Bool.eq_false_iff]
  exact fun q=>hk ((h.2 k).1 (H0.2 q))
 unfold dW
 rw [hn]
 simp only [Bool.false_eq_true,if_false]
 refine ⟨?_,fun q=>?_⟩
 ·rw [List.map_append]
  refine List.nodup_append.2 ⟨h.1,sm,fun a ha b hb e=>?_⟩
  simp at hb
  subst hb; subst e
  exact hk ((h.2 _).1 ha)
 ·rw [List.map_append,dJ,h.2 q]
  simp
theorem B0 (h:jl m P):jl (cG m k) fun q=>P q∧q≠k:=by
 have hs:((cG m k).map (·.1)).Sublist (m.map (·.1)):=List.Sublist.map _ List.filter_sublist
 refine ⟨h.1.sublist hs,fun q=>?_⟩
 constructor
 ·intro hq
  obtain ⟨p,hp,rfl⟩:=bX.1 hq
  obtain ⟨A,B⟩:=ki.1 hp
  exact ⟨(h.2 _).1 (List.mem_map_of_mem A),B⟩
 ·rintro ⟨A,B⟩
  obtain ⟨p,hp,rfl⟩:=bX.1 ((h.2 q).2 A)
  exact List.mem_map_of_mem (ki.2 ⟨hp,B⟩)
end
/-- two rows that go up and have the same numbers, each once -/
theorem rh {a b:List Int} (ha:a.Pairwise (· ≤ ·)) (hb:b.Pairwise (· ≤ ·)) (na:a.Nodup) (nb:b.Nodup) (h: ∀ x,x∈a↔x∈b):a=b:=
 rU ((List.perm_ext_iff_of_nodup na nb).2 h) ha hb
def LH (l:List Int):Nat:=if l.length=2∧l[1]? =l[0]? then 1 else l.length
theorem zW {l:List Int} {x y:Int} (h:l.length=2) (h0:l[0]? =some y) (h1:l[1]? =some x) (e:x=y):LH l=1:=if_pos ⟨h,by rw [h0,h1,e]⟩
theorem B5 {l:List Int} {x y:Int} (h:l.length=2) (h0:l[0]? =some y) (h1:l[1]? =some x) (e: ¬ x=y):LH l=l.length:=if_neg fun q=>e (by have:=q.2; rw [h0,h1] at this; exact Option.some.inj this)
theorem KE (a b:Int):(a=b∧LH (dv [a,b])=1)∨(¬ a=b∧LH (dv [a,b])=2):=by
 have hl:(dv [a,b]).length=2:=by simp
 have hp:(dv [a,b]).Perm [a,b]:=fK
 match hs:dv [a,b],hl with
 |[x,y],_=>
  rw [hs] at hp
  by_cases e:a=b
  ·subst e
   left
   refine ⟨U,zW U U U ?_⟩
   have A:x∈[a,a]:=hp.mem_iff.1 sm
   have B:y∈[a,a]:=hp.mem_iff.1 sm
   simp at A B; omega
  ·right
   refine ⟨e,(B5 (x:=y) (y:=x) U U U fun q=>?_).trans U⟩
   subst q
   have A:=hp.nodup_iff.2 (show [a,b].Nodup by simp [e])
   simp at A
section
variable {m left:g8} {i n x:Int} {y:aa}
theorem lL {p:Int×aa→Bool} (hn:(left.map (·.1)).Nodup) (hm:(x,y)∈left):left.countP p=(cG left x).countP p+(if p (x,y)=true then 1 else 0):=by
 induction left with
 |nil=>cases hm
 |cons q left ih=>
  obtain ⟨a,b⟩:=q
  simp only [List.map_cons,List.nodup_cons] at hn
  rcases bx.1 hm with e|hm
  ·cases e
   have A:cG ((x,y)::left) x=left:=by
    unfold cG
    rw [List.filter_cons_of_neg sm]
    exact List.filter_eq_self.2 fun q hq=>by
     have:q.1≠x:=fun e=>hn.1 (e▸List.mem_map_of_mem hq)
     simpa using this
   rw [A,List.countP_cons]
  ·have B:a≠x:=fun e=>hn.1 (e▸List.mem_map_of_mem (f:=fun z:Int×aa=>z.1) hm)
   have A:cG ((a,b)::left) x=(a,b)::cG left x:=by
    unfold cG
    rw [List.filter_cons_of_pos (by simpa using B)]
   rw [A,List.countP_cons,List.countP_cons,ih hn.2 hm]
   omega
theorem oz:ja left i n=left.countP fun p=>decide (p.2.Hi<n)&& !decide (p.1=i):=by unfold ja mZ; rw [List.countP_filter]
theorem qB:k9 left i n=left.countP fun p=>decide (p.2.Lo<n)&& !decide (p.1=i):=by unfold k9 mZ; rw [List.countP_filter]
theorem GY (hn:(left.map (·.1)).Nodup) (hm:(x,y)∈left) (h:x=i):ja left i n=ja (cG left x) i n:=by
 rw [oz,oz,lL hn hm]; simp [h]
theorem Kz (hn:(left.map (·.1)).Nodup) (hm:(x,y)∈left) (h:x=i):k9 left i n=k9 (cG left x) i n:=by
 rw [qB,qB,lL hn hm]; simp [h]
theorem yD (hn:(left.map (·.1)).Nodup) (hm:(x,y)∈left) (h: ¬ x=i) (hy:y.Hi<n):ja left i n=ja (cG left x) i n+1:=by
 rw [oz,oz,lL hn hm]; simp [h,hy]
theorem Dd (hn:(left.map (·.1)).Nodup) (hm:(x,y)∈left) (h: ¬ x=i) (hy: ¬ y.Hi<n):ja left i n=ja (cG left x) i n:=by
 rw [oz,oz,lL hn hm]; simp [h,hy]
theorem BG (hn:(left.map (·.1)).Nodup) (hm:(x,y)∈left) (h: ¬ x=i) (hy:y.Lo<n):k9 left i n=k9 (cG left x) i n+1:=by
 rw [qB,qB,lL hn hm]; simp [h,hy]
theorem Gz (hn:(left.map (·.1)).Nodup) (hm:(x,y)∈left) (h: ¬ x=i) (hy: ¬ y.Lo<n):k9 left i n=k9 (cG left x) i n:=by
 rw [qB,qB,lL hn hm]; simp [h,hy]
theorem zx:ja [] i n=0:=rfl
theorem Da:k9 [] i n=0:=rfl
theorem Gt:ja m i n≤m.length:=by unfold ja mZ; exact Nat.le_trans List.countP_le_length (List.length_filter_le _ _)
theorem L6:k9 m i n≤m.length:=by unfold k9 mZ; exact Nat.le_trans List.countP_le_length (List.length_filter_le _ _)
end
def oK {β:Type} (m left:List (Int×β)) (ys:List Int):Prop:=(ys++left.map (·.1)).Perm (m.map (·.1))
theorem vx {β:Type} {m:List (Int×β)}:oK m m []:=List.Perm.refl _
theorem xD {β:Type} {m:List (Int×β)} {ys:List Int} (h:oK m [] ys):ys.Perm (m.map (·.1)):=by simpa [oK] using h
theorem IE {β:Type} {left:List (Int×β)} {x:Int} {y:β} (hn:(left.map (·.1)).Nodup) (hm:(x,y)∈left):(left.map (·.1)).Perm (x::(cG left x).map (·.1)):=by
 induction left with
 |nil=>cases hm
 |cons q left ih=>
  obtain ⟨a,b⟩:=q
  simp only [List.map_cons,List.nodup_cons] at hn
  rcases bx.1 hm with e|hm
  ·cases e
   have A:cG ((x,y)::left) x=left:=by
    unfold cG
    rw [List.filter_cons_of_neg sm]
    exact List.filter_eq_self.2 fun q hq=>by
     have:q.1≠x:=fun e=>hn.1 (e▸List.mem_map_of_mem hq)
     simpa using this
   rw [A]; exact List.Perm.refl _
  ·have B:a≠x:=fun e=>hn.1 (e▸List.mem_map_of_mem (f:=fun z:Int×β=>z.1) hm)
   have A:cG ((a,b)::left) x=(a,b)::cG left x:=by
    unfold cG
    rw [List.filter_cons_of_pos (by simpa using B)]
   rw [A,List.map_cons,List.map_cons]
   exact ((ih hn.2 hm).cons a).trans (List.Perm.swap _ _ _)
theorem oh {β:Type} {m left:List (Int×β)} {ys:List Int} {x:Int} {y:β} (hn:(left.map (·.1)).Nodup) (hm:(x,y)∈left) (h:oK m left ys):oK m (cG left x) (ys++[x]):=by
 unfold oK at h ⊢
 refine List.Perm.trans ?_ h
 rw [List.append_assoc]
 exact (IE hn hm).symm.append_left ys
theorem gj {β:Type} {m left:List (Int×β)} {x:Int} (h: ∀ p∈left,p∈m): ∀ p∈cG left x,p∈m:=fun p hp=>h p (ki.1 hp).1
theorem g0 {m:g8} {i:Int} (h: ∀ p∈m,0≤p.2.Lo∧p.2.Lo≤p.2.Hi∧p.2.Hi≤30000000):0≤(aF m i).Lo∧(aF m i).Lo≤(aF m i).Hi∧(aF m i).Hi≤30000000:=by
 unfold aF
 cases e:m.lookup i with
 |none=>simp [dH]
 |some v=>
  have hm:(i,v)∈m:=by
   clear h
   induction m with
   |nil=>cases e
   |cons p m ih=>
    obtain ⟨a,b⟩:=p
    by_cases c:i=a
    ·subst c; simp [List.lookup] at e; subst e; exact cm
    ·have:(i==a)=false:=by simpa using c
     simp only [List.lookup,this] at e
     exact cV _ (ih e)
  simpa using h _ hm
/-- not reached by the numbers so far -/
def uE (m:g8) (i:Int) (ys:List Int) (k:Int):Prop:=(1≤k∧k≤(m.length:Int))∧ ∀ n∈ys,¬ ((ja m i n:Int)+1≤k∧k≤(k9 m i n:Int)+1)
section
variable {m:g8} {i:Int} {own:aa} {ys:List Int} {nev ranks:qV} {n a b:Int}
theorem Jo (h:jl nev fun k=>1≤k∧k≤(m.length:Int)):jl nev (uE m i []):=h.yn fun k=>⟨fun h=>⟨h,fun n hn=>by cases hn⟩,fun h=>h.1⟩
theorem L_ (ha:a=(ja m i n:Int)+1) (hb:b=(k9 m i n:Int)+1) (h:jl nev fun q=>uE m i ys q∧ ¬ (a≤q∧q≤b)):jl nev (uE m i (ys++[n])):=by
 subst ha hb
 refine h.yn fun k=>?_
 unfold uE
 constructor
 ·rintro ⟨⟨B,A⟩,C⟩
  refine ⟨B,fun x hx=>?_⟩
  rcases dJ.1 hx with hx|hx
  ·exact A x hx
  ·rw [bJ] at hx; subst hx; exact C
 ·rintro ⟨B,A⟩
  exact ⟨⟨B,fun x hx=>A x (List.mem_append_left _ hx)⟩,A n sm⟩
theorem D2 {P:Int→Prop} {k:Int} (hk:a≤k) (h:jl nev fun q=>P q∧ ¬ (a≤q∧q<k)):jl (cG nev k) fun q=>P q∧ ¬ (a≤q∧q<k+1):=
 (B0 (k:=k) h).yn fun q=>by
  constructor
  ·rintro ⟨⟨B,A⟩,E⟩; exact ⟨B,fun ⟨C,D⟩=>A ⟨C,I⟩⟩
  ·rintro ⟨B,A⟩; exact ⟨⟨B,fun ⟨C,D⟩=>A ⟨C,I⟩⟩,fun e=>A ⟨I,I⟩⟩
theorem Ge (hall: ∀ n,n∈ys↔n∈jS m i own) {k:Int} (hk:1≤k∧k≤(m.length:Int)): ¬ uE m i ys k↔se m i own k:=by
 unfold uE se
 constructor
 ·intro h
  refine Classical.byContradiction fun q=>h ⟨hk,fun n hn hc=>q ⟨n,(hall n).1 hn,hc.1,hc.2⟩⟩
 ·rintro ⟨n,hn,A,B⟩ h
  exact h.2 n ((hall n).2 hn) ⟨A,B⟩
/-- the ranks, from what is left of the map -/
theorem E9 (hi:m.lookup i≠none) (hall: ∀ n,n∈ys↔n∈jS m i own) (h:jl ranks fun k=>(1≤k∧k≤(m.length:Int))∧ ¬ uE m i ys k):dv (ranks.map (·.1))=dU m i own:=by
 refine rh lj ?_ ((fK (l:=ranks.map (·.1))).nodup_iff.2 h.1) ?_ fun k=>?_
 ·unfold dU
  refine List.Pairwise.filter _ ?_
  rw [List.pairwise_map]
  exact List.pairwise_lt_range.imp fun h=>by omega
 ·unfold dU
  refine List.Pairwise.filter _ ?_
  rw [List.pairwise_map]
  exact List.pairwise_lt_range.imp fun h=>by omega
 ·rw [(fK (l:=ranks.map (·.1))).mem_iff,h.2 k,Ia hi]
  constructor
  ·rintro ⟨A,B⟩; exact (Ge hall A).1 B
  ·intro A
   have hk:1≤k∧k≤(m.length:Int):=by
    obtain ⟨n,_,B,C⟩:=A
    have:=LQ hi (x:=n)
    omega
   exact ⟨hk,(Ge hall hk).2 A⟩
end
section
variable {nw left rk:qV} {N R:Int→Prop} {u:Int} {v:Bool}
theorem N9 (hl: ∀ p∈left,p∈nw) (hk:jl nw N) (hm:(u,v)∈left) (h:jl rk fun w=>R w∧ ¬ (N w∧w ∉ left.map (·.1))):jl (cG rk u) fun w=>R w∧ ¬ (N w∧w ∉ (cG left u).map (·.1)):=
 (B0 (k:=u) h).yn fun w=>by
  have hd:w∈(cG left u).map (·.1)↔w∈left.map (·.1)∧w≠u:=by
   constructor
   ·intro q
    obtain ⟨p,hp,rfl⟩:=bX.1 q
    exact ⟨List.mem_map_of_mem (ki.1 hp).1,(ki.1 hp).2⟩
   ·rintro ⟨D,E⟩
    obtain ⟨p,hp,rfl⟩:=bX.1 D
    exact List.mem_map_of_mem (ki.2 ⟨hp,E⟩)
  constructor
  ·rintro ⟨⟨B,A⟩,C⟩
   exact ⟨B,fun q=>A ⟨q.1,fun z=>q.2 (hd.2 ⟨z,C⟩)⟩⟩
  ·rintro ⟨B,A⟩
   refine ⟨⟨B,fun q=>A ⟨q.1,fun z=>q.2 (hd.1 z).1⟩⟩,fun e=>A ⟨?_,fun z=>(hd.1 z).2 e⟩⟩
   subst e
   exact (hk.2 _).1 (List.mem_map_of_mem (f:=fun z:Int×Bool=>z.1) (hl _ hm))
theorem Jq {n:Nat} (h:jl rk R) (hR: ∀ k,R k→1≤k∧k≤(n:Int)):rk.length≤n:=by
 have hp:((List.range n).map fun (k:Nat)=>(k:Int)+1).Pairwise (· < ·):=by
  rw [List.pairwise_map]
  exact List.pairwise_lt_range.imp fun h=>by omega
 have e:dv (rk.map (·.1))=((List.range n).map fun (k:Nat)=>(k:Int)+1).filter fun k=>decide (k∈rk.map (·.1)):=by
  refine rh lj ((hp.filter _).imp fun h=>by omega) ((fK (l:=rk.map (·.1))).nodup_iff.2 h.1) ((hp.filter _).imp fun h=>by omega) fun k=>?_
  rw [(fK (l:=rk.map (·.1))).mem_iff,List.mem_filter,decide_eq_true_eq]
  refine ⟨fun q=>⟨?_,q⟩,fun q=>q.2⟩
  have:=hR k ((h.2 k).1 q)
  exact bX.2 ⟨(k-1).toNat,List.mem_range.2 I,I⟩
 have A:=congrArg List.length e
 have B:=List.length_filter_le (fun k=>decide (k∈rk.map (·.1))) ((List.range n).map fun (k:Nat)=>(k:Int)+1)
 rw [gF,List.length_map] at A
 rw [List.length_map,List.length_range] at B
 omega
end
section
variable {m left:g8} {i x n:Int} {own y:aa} {ys:List Int}
/-- what was told so far: all of those who are not left -/
def zc (m:g8) (i:Int) (own:aa) (left:g8) (ys:List Int):Prop:=(∀ n∈ys,n∈jS m i own)∧own.Lo∈ys∧ ∀ p∈m,p.1≠i→p ∉ left→ ∀ n∈[p.2.Lo+1,p.2.Hi+1],own.Lo≤n∧n≤own.Hi→n∈ys
theorem m8 {p:Int×aa} (hp:p∈m) (hi:p.1≠i) (hn:n=p.2.Lo+1∨n=p.2.Hi+1) (hb:own.Lo≤n∧n≤own.Hi):n∈jS m i own:=
 cV _ (List.mem_filter.2 ⟨List.mem_flatMap.2 ⟨p,List.mem_filter.2 ⟨hp,by simpa using hi⟩,by simpa using hn⟩,fR hb⟩)
theorem KF:zc m i own m [own.Lo]:=⟨fun n hn=>by rw [bJ] at hn; subst hn; exact cm,sm,fun p hp _ hl=>absurd hp hl⟩
theorem Oy (h:zc m i own [] ys) (n:Int):n∈ys↔n∈jS m i own:=by
 refine ⟨h.1 n,fun hn=>?_⟩
 rcases bx.1 hn with rfl|hn
 ·exact h.2.1
 ·obtain ⟨C,D⟩:=List.mem_filter.1 hn
  obtain ⟨p,hp,hx⟩:=List.mem_flatMap.1 C
  obtain ⟨A,B⟩:=List.mem_filter.1 hp
  exact h.2.2 p A (by simpa using B) sm n hx (of_decide_eq_true D)
theorem ly {ys':List Int} (hm:(left.map (·.1)).Nodup) (hx:(x,y)∈left) (hl: ∀ p∈left,p∈m) (h:zc m i own left ys) (hs: ∀ n∈ys,n∈ys') (hn: ∀ n∈ys',n∈ys∨n∈jS m i own)
 (hy:x≠i→ ∀ n∈[y.Lo+1,y.Hi+1],own.Lo≤n∧n≤own.Hi→n∈ys'):zc m i own (cG left x) ys':=by
 refine ⟨fun n A=>?_,hs _ h.2.1,fun p hp hi B n A hb=>?_⟩
 ·rcases hn n A with q|q
  ·exact h.1 n q
  ·exact q
 ·by_cases e:p∈left
  ·have C:p.1=x:=by
    refine Classical.byContradiction fun q=>B (ki.2 ⟨e,q⟩)
   have E:p=(x,y):=by
    obtain ⟨G,H⟩:=p
    simp only at C; subst C
    have F:=(jv hm).1 e
    have D:=(jv hm).1 hx
    rw [F] at D; cases D; rfl
   subst E
   exact hy hi n A hb
  ·exact hs n (h.2.2 p hp hi e n A hb)
end
section
variable {r:bT} {h i:Int} {ht:List aw} {d:aw}
theorem oV (he: ¬ cD r=0):mV r h i=cD r:=if_neg he
theorem o_ (he:cD r=0) (hi: ¬ ((0≤h∧h≤(r.an.length:Int)-1)∧0≤i∧i≤(r.aL.length:Int)-1)):mV r h i=2:=by
 unfold mV; rw [if_pos he,if_neg (show ¬ ((0≤h∧h≤(r.an.length:Int)-1)∧sH r i) from hi)]
theorem Cq (he:cD r=0) (hi:(0≤h∧h≤(r.an.length:Int)-1)∧0≤i∧i≤(r.aL.length:Int)-1) (h1:r.an[h.toNat]? =some ht) (h2:ht[i.toNat]? =some d):mV r h i=if d.Out=true then 6 else 0:=by
 unfold mV; rw [if_pos he,if_pos (show (0≤h∧h≤(r.an.length:Int)-1)∧sH r i from hi),h1]
 simp [h2]
theorem nT (he:cD r=0) (hi:(0≤h∧h≤(r.an.length:Int)-1)∧0≤i∧i≤(r.aL.length:Int)-1) (h1:r.an[h.toNat]? =some ht) (h2:ht[i.toNat]? =some d) (ho:d.Out=true):mV r h i=6:=by rw [Cq he hi h1 h2,if_pos ho]
theorem qk (he:cD r=0) (hi:(0≤h∧h≤(r.an.length:Int)-1)∧0≤i∧i≤(r.aL.length:Int)-1) (h1:r.an[h.toNat]? =some ht) (h2:ht[i.toNat]? =some d) (ho:d.Out=false):mV r h i=0∧iA r h i=dI r.ao d:=by
 have e:mV r h i=0:=by rw [Cq he hi h1 h2,if_neg (by rw [ho]; decide)]
 refine ⟨e,?_⟩
 unfold iA
 rw [if_pos e,h1]
 simp [h2]
end
theorem yC {r:bT} {i:Int} (h: ¬ j6 r i=0):jm r i=[]:=if_neg h
theorem yW {r:bT} {i:Int} (h:j6 r i=0):jm r i=dU (aG r) i (aF (aG r) i):=if_pos h
end
section
open Go.RowKit
section
variable {key:Int→Int} {l q m:List Int} {i j:Nat} {x y:Int}
theorem It:1=1∧l=[]∨tW key l 1 l:=by
 cases l with
 |nil=>exact .inl ⟨rfl,rfl⟩
 |cons a l=>exact .inr (Ju sm)
theorem M5 (h:i<l.length) (hd:i=1∧l=[]∨tW key l i m):tW key l i m:=by
 rcases hd with ⟨_,rfl⟩|hd
 ·simp at h
 ·exact hd
theorem JL (hi: ¬ i<l.length) (hl:m.length=l.length) (hd:i=1∧l=[]∨tW key l i m):m=ek key l:=by
 rcases hd with ⟨_,rfl⟩|hd
 ·exact jR hl
 ·exact LO I hd
theorem Kx (hx:q[j]? =some x) (hy:q[j-1]? =some y) (h: ∀ z∈q,z∈l): ∀ z∈(q.set j y).set (j-1) x,z∈l:=fun z hz=>by
 rcases List.mem_or_eq_of_mem_set hz with hz|rfl
 ·rcases List.mem_or_eq_of_mem_set hz with hz|rfl
  ·exact h z hz
  ·exact h _ (aT hy)
 ·exact h _ (aT hx)
theorem wE {p:Int→Bool} (hx:l[i]? =some x) (h:p x=true):(l.take (i+1)).filter p=(l.take i).filter p++[x]:=by
 rw [j8 hx,List.filter_append]; simp [h]
theorem GF {p:Int→Bool} (hx:l[i]? =some x) (h:p x=false):(l.take (i+1)).filter p=(l.take i).filter p:=by
 rw [j8 hx,List.filter_append]; simp [h]
end
section
variable {r:bT} {h:Int} {n:Nat}
theorem D8 (e: ¬ cD r=0):gO r h=cD r:=if_neg e
theorem Em (e:cD r=0) (q: ¬ (0≤h∧h≤(r.an.length:Int))):gO r h=2:=by unfold gO; rw [if_pos e,if_neg q]
theorem lT (e:cD r=0) (q:0≤h∧h≤(r.an.length:Int)):gO r h=0:=by unfold gO; rw [if_pos e,if_pos q]
theorem sv (hd:r.bE.length≤12):(cj r h).length≤12:=by
 unfold cj
 split
 ·split
  ·exact hd
  ·unfold qx
   simp only [iS,kJ]
   exact Nat.le_trans (List.length_filter_le _ _) hd
 ·simp
theorem yO (e: ¬ gO r h=0):cj r h=[]:=if_neg e
theorem mF (e:gO r h=0) (q:h=0):cj r h=r.bE:=by unfold cj; rw [if_pos e,if_pos q]
theorem qP (e:gO r (n:Int)=0) (q: ¬ (n:Int)=0):cj r (n:Int)=qx r n:=by unfold cj; rw [if_pos e,if_neg q,Int.toNat_natCast]
theorem zU {k:Nat} {l:List Int} (hl:l=ek (fun i=>(aF (dB r n) i).Hi) (r.bE.filter fun i=>((dB r n).lookup i).isSome)) (hk:k=min r.gJ.toNat l.length):kW k l=qx r n:=by subst hl; subst hk; rfl
theorem RZ {m:g8} {l:List Int} (hb: ∀ p∈m,0≤p.2.Lo∧p.2.Lo≤p.2.Hi∧p.2.Hi≤30000000): ∀ x∈l,0≤(aF m x).Hi∧(aF m x).Hi≤30000000:=fun x _=>by have:=g0 (i:=x) hb; omega
theorem RV {m:g8} {l:List Int} (hb: ∀ p∈m,0≤p.2.Lo∧p.2.Lo≤p.2.Hi∧p.2.Hi≤30000000): ∀ x∈l,0≤(aF m x).Lo∧(aF m x).Lo≤30000000:=fun x _=>by have:=g0 (i:=x) hb; omega
end
end
section
def IQ (f:Int→aa) (g:List Int):Prop:= ∀ t,(∃ a∈g,(f a).Lo<t)→(∃ b∈g,t≤(f b).Lo)→ ∃ c∈g,(f c).Lo<t∧t≤(f c).Hi
def J1 (f:Int→aa) (g h:List Int):Prop:= ∀ a∈g,∀ b∈h,(f a).Hi<(f b).Lo
structure hO (f:Int→aa) (keys:List Int) (G:List (List Int)):Prop where
 perm:G.flatten.Perm keys
 some_: ∀ g∈G,g≠[]
 apart:G.Pairwise (J1 f)
 tight: ∀ g∈G,IQ f g
def AN (G:List (List Int)):Prop:= ∀ g∈G,g.Pairwise (· ≤ ·)
section
variable {f:Int→aa} {keys:List Int} {G G':List (List Int)} {g h:List Int} {x:Int}
theorem wx: ∀ {g:List Int},g≠[]→ ∃ a∈g,∀ b∈g,(f a).Lo≤(f b).Lo
 |[],h=>absurd rfl h
 |[a],_=>⟨a,sm,fun b hb=>by simp at hb; subst hb; omega⟩
 |a::b::g,_=>by
  obtain ⟨c,hc,hm⟩:=wx (g:=b::g) sm
  rcases Int.le_total (f a).Lo (f c).Lo with q|q
  ·refine ⟨a,sm,fun d hd=>?_⟩
   rcases bx.1 hd with rfl|hd
   ·omega
   ·have:=hm d hd; omega
  ·refine ⟨c,cV _ hc,fun d hd=>?_⟩
   rcases bx.1 hd with rfl|hd
   ·exact q
   ·exact hm d hd
/-- the first group is what no cut parts from the least -/
theorem q7 (hf: ∀ i∈keys,(f i).Lo≤(f i).Hi) (h:hO f keys (g::G)) {a:Int} (ha:a∈keys) (hm: ∀ b∈keys,(f a).Lo≤(f b).Lo) {b:Int} (hb:b∈keys):b∈g↔ ∀ t,(f a).Lo<t→t≤(f b).Lo→ ∃ c∈keys,(f c).Lo<t∧t≤(f c).Hi:=by
 have hk: ∀ x,x∈keys↔x∈g∨x∈G.flatten:=fun x=>by rw [← h.perm.mem_iff,List.flatten_cons,dJ]
 have A:=List.pairwise_cons.1 h.apart
 have B:a∈g:=by
  rcases (hk a).1 ha with q|q
  ·exact q
  ·obtain ⟨y,hy⟩:=List.exists_mem_of_ne_nil _ (h.some_ g cm)
   obtain ⟨g',hg',hag'⟩:=List.mem_flatten.1 q
   have F:=A.1 g' hg' y hy a hag'
   have H:=hm y ((hk y).2 (.inl hy))
   have E:=hf y ((hk y).2 (.inl hy))
   omega
 constructor
 ·intro AA t F H
  obtain ⟨c,hc,E⟩:=h.tight g cm t ⟨a,B,F⟩ ⟨b,AA,H⟩
  exact ⟨c,(hk c).2 (.inl hc),E⟩
 ·intro C
  rcases (hk b).1 hb with q|q
  ·exact q
  ·exfalso
   obtain ⟨d,hd,D⟩:=wx (f:=f) (g:=G.flatten) (fun e=>by rw [e] at q; cases q)
   obtain ⟨g',hg',hdg'⟩:=List.mem_flatten.1 hd
   have F:=A.1 g' hg' a B d hdg'
   have H:=hf a ha
   have E:=D b q
   obtain ⟨c,hc,K,L⟩:=C (f d).Lo I E
   rcases (hk c).1 hc with J|J
   ·have:=A.1 g' hg' c J d hdg'; omega
   ·have:=D c J; omega
theorem vg (h:hO f keys (g::G)):hO f G.flatten G:=
 ⟨List.Perm.refl _,fun x hx=>h.some_ x (cV _ hx),(List.pairwise_cons.1 h.apart).2,fun x hx=>h.tight x (cV _ hx)⟩
theorem qs {k2:List Int} (h:hO f keys G) (p:keys.Perm k2):hO f k2 G:=⟨h.perm.trans p,h.some_,h.apart,h.tight⟩
theorem r8: ∀ {G G':List (List Int)} {keys:List Int},keys.Nodup→(∀ i∈keys,(f i).Lo≤(f i).Hi)→hO f keys G→hO f keys G'→AN G→AN G'→G=G'
 |[],[],keys,_,_,_,_,_,_=>rfl
 |[],g'::G',keys,_,_,h,h',_,_=>by
  exfalso
  have F:keys=[]:=List.Perm.eq_nil (by simpa using h.perm.symm)
  subst F
  have:=h'.perm.eq_nil
  simp at this
  exact h'.some_ g' cm this.1
 |g::G,[],keys,_,_,h,h',_,_=>by
  exfalso
  have F:keys=[]:=List.Perm.eq_nil (by simpa using h'.perm.symm)
  subst F
  have:=h.perm.eq_nil
  simp at this
  exact h.some_ g cm this.1
 |g::G,g'::G',keys,hn,hf,h,h',ha,ha'=>by
  have H:keys≠[]:=fun e=>by
   subst e
   have:=h.perm.eq_nil
   simp at this
   exact h.some_ g cm this.1
  obtain ⟨a,A,B⟩:=wx (f:=f) H
  have D:=h.perm.nodup_iff.2 hn
  have E:=h'.perm.nodup_iff.2 hn
  rw [List.flatten_cons,List.nodup_append] at D E
  have Al: ∀ b∈g,b∈keys:=fun b hb=>h.perm.mem_iff.1 (by rw [List.flatten_cons]; exact List.mem_append_left _ hb)
  have C: ∀ b∈g',b∈keys:=fun b hb=>h'.perm.mem_iff.1 (by rw [List.flatten_cons]; exact List.mem_append_left _ hb)
  have e:g=g':=by
   refine rh (ha g cm) (ha' g' cm) D.1 E.1 fun b=>?_
   constructor
   ·intro hb
    exact (q7 hf h' A B (Al b hb)).2 ((q7 hf h A B (Al b hb)).1 hb)
   ·intro hb
    exact (q7 hf h A B (C b hb)).2 ((q7 hf h' A B (C b hb)).1 hb)
  subst e
  have p:G.flatten.Perm G'.flatten:=by
   have:=h.perm.trans h'.perm.symm
   rw [List.flatten_cons,List.flatten_cons] at this
   exact (List.perm_append_left_iff g).1 this
  rw [r8 (G:=G) (G':=G') D.2.1 (fun i hi=>hf i (h.perm.mem_iff.1 (by rw [List.flatten_cons]; exact List.mem_append_right _ hi))) (vg h) (qs (vg h') p.symm) (fun x hx=>ha x (cV _ hx)) (fun x hx=>ha' x (cV _ hx))]
/-- groups, each one put in order -/
theorem vd (h:hO f keys G):hO f keys (G.map dv)∧AN (G.map dv):=by
 have hp: ∀ G:List (List Int),(G.map dv).flatten.Perm G.flatten:=fun G=>by
  induction G with
  |nil=>simp
  |cons g G ih=>simp only [List.map_cons,List.flatten_cons]; exact fK.append ih
 have hm: ∀ {g:List Int} {x:Int},x∈dv g↔x∈g:=fK.mem_iff
 refine ⟨⟨(hp G).trans h.perm,fun g hg=>?_,?_,fun g hg=>?_⟩,fun g hg=>?_⟩
 ·obtain ⟨y,hy,rfl⟩:=bX.1 hg
  intro e
  have:=(fK (l:=y)).symm
  rw [e] at this
  exact h.some_ y hy this.eq_nil
 ·rw [List.pairwise_map]
  exact h.apart.imp fun q a ha b hb=>q a (hm.1 ha) b (hm.1 hb)
 ·obtain ⟨y,hy,rfl⟩:=bX.1 hg
  rintro t ⟨a,ha,A⟩ ⟨b,hb,B⟩
  obtain ⟨c,hc,C⟩:=h.tight y hy t ⟨a,hm.1 ha,A⟩ ⟨b,hm.1 hb,B⟩
  exact ⟨c,hm.2 hc,C⟩
 ·obtain ⟨y,hy,rfl⟩:=bX.1 hg
  exact lj
end
/-- so far: groups, and the greatest of all -/
structure mL (f:Int→aa) (p:List Int) (G:List (List Int)) (last:Int):Prop where
 ok:hO f p G
 Rt: ∀ a∈p,(f a).Hi≤last
 at_:p=[]∧last= -1∨ ∃ a∈p,(f a).Hi=last
section
variable {f:Int→aa} {p:List Int} {G:List (List Int)} {g:List Int} {x last:Int}
theorem GK:mL f [] [] (-1):=⟨⟨sm,fun g hg=>(by cases hg),List.Pairwise.nil,fun g hg=>by cases hg⟩,fun a ha=>(by cases ha),.inl ⟨rfl,rfl⟩⟩
theorem Ix:IQ f [x]:=by
 rintro t ⟨a,ha,A⟩ ⟨b,hb,B⟩
 simp at ha hb; subst ha hb; omega
theorem rr (h0: -1≤(f x).Hi) (h:mL f p G last):(∀ a∈p++[x],(f a).Hi≤max last (f x).Hi)∧((p++[x])=[]∧max last (f x).Hi= -1∨ ∃ a∈p++[x],(f a).Hi=max last (f x).Hi):=by
 refine ⟨fun a ha=>?_,.inr ?_⟩
 ·rcases dJ.1 ha with ha|ha
  ·have:=h.Rt a ha; omega
  ·rw [bJ] at ha; subst ha; omega
 ·rcases Int.le_total last (f x).Hi with q|q
  ·exact ⟨x,sm,I⟩
  ·rcases h.at_ with ⟨rfl,e⟩|⟨a,ha,e⟩
   ·exact ⟨x,sm,I⟩
   ·exact ⟨a,List.mem_append_left _ ha,I⟩
theorem NV (h0: -1≤(f x).Hi) (h:mL f p G last) (hl:last<(f x).Lo):mL f (p++[x]) (G++[[x]]) (max last (f x).Hi):=by
 have A: ∀ y∈G,∀ a∈y,a∈p:=fun y hy a ha=>h.ok.perm.mem_iff.1 (List.mem_flatten.2 ⟨y,hy,ha⟩)
 refine ⟨⟨?_,fun y hy=>?_,?_,fun y hy=>?_⟩,(rr h0 h).1,(rr h0 h).2⟩
 ·rw [List.flatten_append]
  exact h.ok.perm.append sm
 ·rcases dJ.1 hy with hy|hy
  ·exact h.ok.some_ y hy
  ·rw [bJ] at hy; subst hy; simp
 ·rw [List.pairwise_append]
  refine ⟨h.ok.apart,List.pairwise_singleton _ _,fun y hy z hz a ha b hb=>?_⟩
  rw [bJ] at hz; subst hz
  rw [bJ] at hb; subst hb
  have:=h.Rt a (A y hy a ha); omega
 ·rcases dJ.1 hy with hy|hy
  ·exact h.ok.tight y hy
  ·rw [bJ] at hy; subst hy; exact Ix
theorem Jv (h0: -1≤(f x).Hi) (hf: ∀ i∈p,(f i).Lo≤(f i).Hi) (hx: ∀ a∈p,(f a).Lo≤(f x).Lo) (h:mL f p (G++[g]) last) (hl: ¬ last<(f x).Lo):mL f (p++[x]) (G++[g++[x]]) (max last (f x).Hi):=by
 have A: ∀ y∈G++[g],∀ a∈y,a∈p:=fun y hy a ha=>h.ok.perm.mem_iff.1 (List.mem_flatten.2 ⟨y,hy,ha⟩)
 have C:=List.pairwise_append.1 h.ok.apart
 have B:=h.ok.some_ g sm
 refine ⟨⟨?_,fun y hy=>?_,?_,fun y hy=>?_⟩,(rr h0 h).1,(rr h0 h).2⟩
 ·have:=h.ok.perm
  rw [List.flatten_append] at this ⊢
  simp only [List.flatten_cons,List.flatten_nil,List.append_nil] at this ⊢
  rw [← List.append_assoc]
  exact this.append_right _
 ·rcases dJ.1 hy with hy|hy
  ·exact h.ok.some_ y (List.mem_append_left _ hy)
  ·rw [bJ] at hy; subst hy; simp
 ·rw [List.pairwise_append]
  refine ⟨C.1,List.pairwise_singleton _ _,fun y hy z hz a ha b hb=>?_⟩
  rw [bJ] at hz; subst hz
  rcases dJ.1 hb with hb|hb
  ·exact C.2.2 y hy g sm a ha b hb
  ·rw [bJ] at hb; subst hb
   obtain ⟨c,hc⟩:=List.exists_mem_of_ne_nil _ B
   have K:=C.2.2 y hy g sm a ha c hc
   have H:=hx c (A g sm c hc)
   omega
 ·rcases dJ.1 hy with hy|hy
  ·exact h.ok.tight y (List.mem_append_left _ hy)
  ·rw [bJ] at hy; subst hy
   rintro t ⟨a,ha,K⟩ ⟨b,hb,H⟩
   by_cases D: ∃ b∈g,t≤(f b).Lo
   ·obtain ⟨b',hb',L⟩:=D
    have AA:a∈g:=by
     rcases dJ.1 ha with q|q
     ·exact q
     ·rw [bJ] at q; subst q
      have:=hx b' (A g sm b' hb'); omega
    obtain ⟨c,hc,M⟩:=h.ok.tight g sm t ⟨a,AA,K⟩ ⟨b',hb',L⟩
    exact ⟨c,List.mem_append_left _ hc,M⟩
   ·have J: ∀ c∈g,(f c).Lo<t:=fun c hc=>by
     refine Classical.byContradiction fun q=>D ⟨c,hc,I⟩
    have N:t≤(f x).Lo:=by
     rcases dJ.1 hb with q|q
     ·exact absurd ⟨b,q,H⟩ D
     ·rw [bJ] at q; subst q; exact H
    rcases h.at_ with ⟨e,_⟩|⟨c,hc,e⟩
    ·exfalso
     obtain ⟨c,hc⟩:=List.exists_mem_of_ne_nil _ B
     have:=A g sm c hc
     rw [e] at this; cases this
    ·have E:c∈g:=by
      obtain ⟨y,hy,F⟩:=List.mem_flatten.1 (h.ok.perm.mem_iff.2 hc)
      rcases dJ.1 hy with hy|hy
      ·exfalso
       obtain ⟨d,hd⟩:=List.exists_mem_of_ne_nil _ B
       have L:=C.2.2 y hy g sm c F d hd
       have M:=hf d (A g sm d hd)
       have O:=h.Rt d (A g sm d hd)
       omega
      ·rw [bJ] at hy; subst hy; exact F
     exact ⟨c,List.mem_append_left _ E,J c E,I⟩
theorem JC (h:mL f p G last) (hp:p≠[]):G≠[]:=fun e=>by
 subst e
 exact hp (by simpa using h.ok.perm.symm.eq_nil)
end
end
section
open Go.RowKit
/-- a map, or nil -/
def oC (o:Option Nat):List Value:=[Value.map o]
theorem AB {α:Type}: ∀ {ms:List α} {asl:List Nat},ms.length=asl.length→List.zipWith gN ms asl=(asl.map some).map oC
 |[],[],_=>rfl
 |[],_::_,h=>by simp at h
 |_::_,[],h=>by simp at h
 |x::ms,y::asl,h=>by simp only [List.zipWith_cons_cons,List.map_cons,AB (ms:=ms) (asl:=asl) (by simpa using h)]; rfl
/-- what stands for all but one -/
def fE {M A:Type} (f:M→A→List au) (ms:List M) (asl:List A) (k:Nat):List au:=aU f (ms.take k) (asl.take k)++aU f (ms.drop (k+1)) (asl.drop (k+1))
theorem kY {M A:Type} {f:M→A→List au}: ∀ {ms:List M} {asl:List A} {k:Nat} {m:M} {a:A},ms[k]? =some m→asl[k]? =some a→(aU f ms asl).Perm (f m a++fE f ms asl k)
 |[],_,k,m,a,h,_=>by simp at h
 |_::_,[],k,m,a,_,h=>by simp at h
 |x::ms,y::asl,0,m,a,h,h2=>by
  simp at h h2; subst h h2
  simp [fE,aU]
 |x::ms,y::asl,k+1,m,a,h,h2=>by
  have ih:=kY (f:=f) (ms:=ms) (asl:=asl) (k:=k) (by simpa using h) (by simpa using h2)
  show (f x y++aU f ms asl).Perm (f m a++fE f (x::ms) (y::asl) (k+1))
  have e:fE f (x::ms) (y::asl) (k+1)=f x y++fE f ms asl k:=by simp [fE,aU,List.append_assoc]
  rw [e]
  refine (ih.append_left (f x y)).trans ?_
  rw [← List.append_assoc,← List.append_assoc]
  exact List.perm_append_comm.append_right _
theorem GZ {M A:Type} {f:M→A→List au} {ms:List M} {asl:List A} {k:Nat} {m':M}:fE f (ms.set k m') asl k=fE f ms asl k:=by
 unfold fE
 rw [List.take_set_of_le (Nat.le_refl k),List.drop_set_of_lt (Nat.lt_succ_self k)]
theorem kZ {S:BS} {w0 w:World} {C X Y:List au} (hp:X.Perm Y) (h:St S w0 (bw X::C) w):St S w0 (bw Y::C) w:=by
 have A:St S w0 (X++C) w:=h.ir
 exact (A.perm (hp.append_right C)).tied
theorem St.out {M A:Type} {f:M→A→List au} {S:BS} {w0 w:World} {C:List au} {ms:List M} {asl:List A} {k:Nat} {m:M} {a:A} {X:au} (hm:ms[k]? =some m) (ha:asl[k]? =some a) (hf:f m a=[X]) (h:St S w0 (bw (aU f ms asl)::C) w):St S w0 (X::bw (fE f ms asl k)::C) w:=by
 have B:=(kZ (kY hm ha) h).ir
 rw [hf] at B
 have D:St S w0 (fE f ms asl k++(X::C)) w:=B.perm (List.perm_middle (a:=X) (l₁:=fE f ms asl k) (l₂:=C)).symm
 exact D.tied.perm (List.Perm.swap _ _ _)
theorem St.back {M A:Type} {f:M→A→List au} {S:BS} {w0 w:World} {C:List au} {ms:List M} {asl:List A} {k:Nat} {m':M} {a:A} {X:au} (hk:k<ms.length) (ha:asl[k]? =some a) (hf:f m' a=[X]) (h:St S w0 (X::bw (fE f ms asl k)::C) w):St S w0 (bw (aU f (ms.set k m') asl)::C) w:=by
 have B:St S w0 (bw (fE f ms asl k)::X::C) w:=h.perm (List.Perm.swap _ _ _)
 have D:=B.ir
 have E:St S w0 ((f m' a++fE f (ms.set k m') asl k)++C) w:=by
  rw [hf,GZ]
  exact D.perm (List.perm_middle (a:=X) (l₁:=fE f ms asl k) (l₂:=C))
 exact kZ (kY (List.getElem?_set_self hk) ha).symm E.tied
section
variable {E:fh} {ops:Array Oper} {Q:cZ} {rest:List Oper} {D:List Deferred} {L:List (Nat×Value)} {C C1:List au}
variable {M A:Type} {f:M→A→List au} {ms:List M} {asl:List A} {k:Nat} {m:M} {a:A} {X:au}
theorem Gh {c:Code} (i:Nat) (hm:ms[k]? =some m) (ha:asl[k]? =some a) (hf:f m a=[X]) (hn:decide (i::(List.range C.length).filter fun k=>k != i).Nodup=true) (hC:kq C (i::(List.range C.length).filter fun k=>k != i)=bw (aU f ms asl)::C1)
 (h:WJ E c Q D L (X::bw (fE f ms asl k)::C1)):WJ E c Q D L C:=fun a w hf' hs=>h a w hf' (St.out hm ha hf (St.kq _ hn hC hs))
theorem IP {K:Act→World→Prop} (i j:Nat) (hk:k<ms.length) (ha:asl[k]? =some a) (hf:f m a=[X]) (hn:decide (j::i::(List.range C.length).filter fun k=>k != i&&k != j).Nodup=true) (hC:kq C (j::i::(List.range C.length).filter fun k=>k != i&&k != j)=X::bw (fE f ms asl k)::C1)
 (h:KJ E K D L (bw (aU f (ms.set k m) asl)::C1)):KJ E K D L C:=fun a w hf' hs=>h a w hf' (St.back hk ha hf (St.kq _ hn hC hs))
end
end
section
open Go.RowKit
def nq (l:List Int) (a:RA):List Value:=[vS a.1 l.length a.2]
def RC (l:List Int) (a:RA):List au:=[rd a.1 l.length 1 (l.map iC)]
def sU (l:List Int) (a:RA):List au:=[own a.1 a.2 Uh 1 (l.map iC)]
theorem FK: ∀ (m:List Int) (a:RA) (w:World),(∀ X∈sU m a,X.holds w)→ ∀ X∈RC m a,X.holds w:=fun m a w h X hX=>by
 simp only [RC,bJ] at hX
 subst hX
 have:=mP (h _ (bJ.2 rfl))
 simpa using this
theorem Ku {l:List (List Int)} {bz:List RA}:(bw (aU sU l bz)).wr=true:=by
 show (aU sU l bz).all (·.wr)=true
 rw [cT]
 intro X hX
 obtain ⟨k,m,a,_,_,h⟩:=jX hX
 simp only [sU,bJ] at h
 subst h; rfl
theorem lp {ls:List (List Int)} {az:List RA} (h:az.length=ls.length):(List.zipWith nq ls az).length=ls.length:=by simp [h]
theorem Ns (l:List (List Int)) (az:List RA): ∀ v∈(List.zipWith nq l az).flatten,v.oneCell'=true:=by
 induction l generalizing az with
 |nil=>intro v hv; simp at hv
 |cons x l ih=>
  cases az with
  |nil=>intro v hv; simp at hv
  |cons a az=>
   intro v hv
   rw [List.zipWith_cons_cons,List.flatten_cons,dJ] at hv
   rcases hv with hv|hv
   ·simp [nq] at hv; subst hv; rfl
   ·exact ih az v hv
section
variable {M A:Type} {f:M→A→List au} {ms:List M} {asl:List A} {k:Nat} {m:M} {a:A} {X:au}
theorem sJ:fE f (ms.set k m) (asl.set k a) k=fE f ms asl k:=by
 unfold fE
 rw [List.take_set_of_le (Nat.le_refl k),List.drop_set_of_lt (Nat.lt_succ_self k),List.take_set_of_le (Nat.le_refl k),List.drop_set_of_lt (Nat.lt_succ_self k)]
theorem St.Sb {S:BS} {w0 w:World} {C:List au} (hk:k<ms.length) (hk2:k<asl.length) (hf:f m a=[X]) (h:St S w0 (X::bw (fE f ms asl k)::C) w):St S w0 (bw (aU f (ms.set k m) (asl.set k a))::C) w:=by
 have A:St S w0 (bw (fE f ms asl k)::X::C) w:=h.perm (List.Perm.swap _ _ _)
 have B:=A.ir
 have D:St S w0 ((f m a++fE f (ms.set k m) (asl.set k a) k)++C) w:=by
  rw [hf,sJ]
  exact B.perm (List.perm_middle (a:=X) (l₁:=fE f ms asl k) (l₂:=C))
 exact kZ (kY (List.getElem?_set_self hk) (List.getElem?_set_self hk2)).symm D.tied
theorem qZ {β:Type} {c:M→A→β}:(List.zipWith c ms asl).set k (c m a)=List.zipWith c (ms.set k m) (asl.set k a):=by
 apply List.ext_getElem?
 intro j
 rw [List.getElem?_set]
 by_cases e:k=j
 ·subst e
  rw [if_pos rfl,List.length_zipWith,List.getElem?_zipWith,List.getElem?_set,List.getElem?_set,if_pos rfl,if_pos rfl]
  by_cases B:k<ms.length
  ·by_cases C:k<asl.length
   ·rw [if_pos I,if_pos B,if_pos C]
   ·rw [if_neg I,if_pos B,if_neg C]
  ·rw [if_neg I,if_neg B]
 ·rw [if_neg e,List.getElem?_zipWith,List.getElem?_zipWith,List.getElem?_set_ne e,List.getElem?_set_ne e]
variable {E:fh} {ops:Array Oper} {Q:cZ} {rest:List Oper} {D:List Deferred} {L:List (Nat×Value)} {C C1:List au}
abbrev Cs (C:List au) (i j:Nat):List Nat:=j::i::(List.range C.length).filter fun k=>k != i&&k != j
abbrev HW (C:List au) (i:Nat):List Nat:=i::(List.range C.length).filter fun k=>k != i
theorem FV (i j:Nat) (hk:k<ms.length) (hk2:k<asl.length) (hf:f m a=[X]) (hn:decide (Cs C i j).Nodup=true) (hC:lH C (Cs C i j)=some (X::bw (fE f ms asl k)::C1))
 (h:RJ E ops Q rest D L (bw (aU f (ms.set k m) (asl.set k a))::C1)):RJ E ops Q rest D L C:=fun a w hf' hs=>h a w hf' (St.Sb hk hk2 hf (St.kq _ hn (jE hC) hs))
theorem E0 {c:Code} (i:Nat) (hm:ms[k]? =some m) (ha:asl[k]? =some a) (hf:f m a=[X]) (hn:decide (HW C i).Nodup=true) (hC:lH C (HW C i)=some (bw (aU f ms asl)::C1))
 (h:WJ E c Q D L (X::bw (fE f ms asl k)::C1)):WJ E c Q D L C:=fun a w hf' hs=>h a w hf' (St.out hm ha hf (St.kq _ hn (jE hC) hs))
theorem OD {K:Act→World→Prop} (i j:Nat) (hk:k<ms.length) (ha:asl[k]? =some a) (hf:f m a=[X]) (hn:decide (Cs C i j).Nodup=true) (hC:lH C (Cs C i j)=some (X::bw (fE f ms asl k)::C1))
 (h:KJ E K D L (bw (aU f (ms.set k m) asl)::C1)):KJ E K D L C:=fun a w hf' hs=>h a w hf' (St.back hk ha hf (St.kq _ hn (jE hC) hs))
theorem QL {Y Y':List au} (i j:Nat) (hn:decide (Cs C i j).Nodup=true) (hC:lH C (Cs C i j)=some (X::bw Y::C1)) (e:Y++[X]=Y') (h:RJ E ops Q rest D L (bw Y'::C1)):RJ E ops Q rest D L C:=fun a w hf hs=>h a w hf ((St.kq _ hn (jE hC) hs).tie e)
theorem E_ {K:Act→World→Prop} {Y Y':List au} (i j:Nat) (hn:decide (Cs C i j).Nodup=true) (hC:lH C (Cs C i j)=some (X::bw Y::C1)) (e:Y++[X]=Y') (h:KJ E K D L (bw Y'::C1)):KJ E K D L C:=fun a w hf hs=>h a w hf ((St.kq _ hn (jE hC) hs).tie e)
end
theorem EF {M A:Type} {f:M→A→List au} {ms:List M} {asl:List A} {m:M} {a:A} {X:au} (h:ms.length=asl.length) (hf:f m a=[X]):aU f ms asl++[X]=aU f (ms++[m]) (asl++[a]):=by
 rw [iN h]; simp [aU,hf]
theorem HK {M A β:Type} {f:M→A→β} {ms:List M} {asl:List A} {m:M} {a:A} (h:ms.length=asl.length):List.zipWith f ms asl++List.zipWith f [m] [a]=List.zipWith f (ms++[m]) (asl++[a]):=(List.zipWith_append h).symm
theorem wR {r:bT} {k:Nat}:((dB r k).map (·.1)).Nodup:=by
 unfold dB
 rw [List.map_filterMap]
 refine List.Pairwise.filterMap _ ?_ (List.nodup_range (n:=r.aL.length))
 intro a b A x hx y hy e
 subst e
 simp only [Option.map_map,Option.map_eq_some_iff,Function.comp] at hx hy
 obtain ⟨_,_,rfl⟩:=hx
 obtain ⟨_,_,h⟩:=hy
 exact A I
noncomputable def dN (r:bT):List (List Int):=if cD r=0 then Classical.epsilon (fun G=>hO (aF (aG r)) ((aG r).map (·.1)) G∧AN G) else []
theorem C5 {r:bT} (h: ¬ cD r=0):dN r=[]:=if_neg h
theorem tO {r:bT} {G:List (List Int)} (he:cD r=0) (h1:hO (aF (aG r)) ((aG r).map (·.1)) G) (h2:AN G):G=dN r:=by
 unfold dN
 rw [if_pos he]
 have A:=Classical.epsilon_spec (p:=fun G=>hO (aF (aG r)) ((aG r).map (·.1)) G∧AN G) ⟨G,h1,h2⟩
 exact r8 wR (fun i hi=>(g0 (oL he)).2.1) h1 A.1 h2 A.2
section
variable {f:Int→aa} {L:List Int} {G:List (List Int)} {g:List Int} {x last:Int} {i j:Nat}
theorem AY (h:mL f (L.take i) G last) (hg:g∈G):g.length≤L.length:=by
 have A:=h.ok.perm.length_eq
 have B:g.length≤G.flatten.length:=(List.sublist_flatten_of_mem hg).length_le
 rw [List.length_take] at A; omega
theorem Fl (h:mL f (L.take i) G last):G.length≤L.length:=by
 have A:=h.ok.perm.length_eq
 have B: ∀ G:List (List Int),(∀ g∈G,g≠[])→G.length≤G.flatten.length:=fun G=>by
  induction G with
  |nil=>intro _; simp
  |cons g G ih=>
   intro hG
   have C:=ih fun y hy=>hG y (cV _ hy)
   have D:=List.length_pos_iff.2 (hG g cm)
   simp only [List.flatten_cons,List.length_cons,List.length_append]; omega
 have C:=B G h.ok.some_
 rw [List.length_take] at A; omega
theorem py (h0: -1≤(f x).Hi) (hx:L[i]? =some x) (hg:(G++[[]])[(G++[([]:List Int)]).length-1]? =some g) (h:mL f (L.take i) G last) (hl:last<(f x).Lo):mL f (L.take (i+1)) ((G++[[]]).set ((G++[([]:List Int)]).length-1) (g++[x])) (max last (f x).Hi):=by
 have A:(G++[([]:List Int)]).length-1=G.length:=by simp
 rw [A] at hg ⊢
 simp at hg
 subst hg
 rw [j8 hx]
 have B:(G++[([]:List Int)]).set G.length ([]++[x])=G++[[x]]:=by simp
 rw [B]
 exact NV h0 h hl
theorem oO (h0: -1≤(f x).Hi) (hf: ∀ i∈L,(f i).Lo≤(f i).Hi) (hup:C4 (fun u=>(f u).Lo) L) (hx:L[i]? =some x) (hg:G[G.length-1]? =some g) (h:mL f (L.take i) G last) (hl: ¬ last<(f x).Lo):mL f (L.take (i+1)) (G.set (G.length-1) (g++[x])) (max last (f x).Hi):=by
 obtain ⟨A,F⟩:=aS.1 hg
 obtain ⟨G',y,rfl⟩: ∃ G' y,G=G'++[y]:=⟨G.dropLast,G.getLast (by intro e; subst e; simp at A),(List.dropLast_concat_getLast _).symm⟩
 have D:(G'++[y]).length-1=G'.length:=by simp
 simp only [D] at hg ⊢
 simp at hg
 subst hg
 have E:(G'++[y]).set G'.length (y++[x])=G'++[y++[x]]:=by simp
 rw [j8 hx,E]
 refine Jv h0 (fun i hi=>hf i (List.mem_of_mem_take hi)) (fun a ha=>?_) h hl
 obtain ⟨C,B⟩:=aS.1 hx
 obtain ⟨q,hq,rfl⟩:=List.mem_iff_getElem.1 ha
 rw [List.length_take] at hq
 rw [List.getElem_take]
 have:=ed.1 hup q i I C I
 rw [B] at this
 exact this
theorem Gn (hlo:0≤(f x).Lo) (h:mL f (L.take i) G last) (hl: ¬ last<(f x).Lo):1≤G.length:=by
 rcases h.at_ with ⟨_,e⟩|⟨a,ha,_⟩
 ·omega
 ·exact List.length_pos_iff.2 (JC h (fun e=>by rw [e] at ha; cases ha))
/-- the first groups are in order -/
def n7 (G:List (List Int)) (j:Nat):List (List Int):=(G.take j).map dv++G.drop j
theorem DR (h:G.length≤j):n7 G j=G.map dv:=by unfold n7; rw [List.take_of_length_le h,List.drop_eq_nil_of_le h,List.append_nil]
theorem DW:(n7 G j).length=G.length:=by unfold n7; rw [List.length_append,List.length_map,List.length_take,List.length_drop]; omega
theorem GQ (h:G[j]? =some g):(n7 G j)[j]? =some g:=by
 have hj:=(aS.1 h).1
 unfold n7
 rw [List.getElem?_append_right (by rw [List.length_map,List.length_take]; omega),List.length_map,List.length_take,Nat.min_eq_left I,Nat.sub_self,List.getElem?_drop]
 simpa using h
theorem EI (h:G[j]? =some g):(n7 G j).set j (dv g)=n7 G (j+1):=by
 have hj:=(aS.1 h).1
 unfold n7
 rw [List.set_append_right _ _ (by rw [List.length_map,List.length_take]; omega),List.length_map,List.length_take,Nat.min_eq_left I,Nat.sub_self,List.drop_eq_getElem_cons hj,List.set_cons_zero,List.take_add_one,h]
 simp
theorem Mk {gz:List RA}:List.zipWith nq (G.map dv) gz=List.zipWith nq G gz:=by
 induction G generalizing gz with
 |nil=>rfl
 |cons g G ih=>
  cases gz with
  |nil=>rfl
  |cons a gz=>simp only [List.map_cons,List.zipWith_cons_cons,ih]; simp [nq]
end
end
section
open Go.RowKit
theorem x8 (l:List ar) (az:List RA): ∀ v∈(List.zipWith ar.cells l az).flatten,v.oneCell'=true:=by
 induction l generalizing az with
 |nil=>intro v hv; simp at hv
 |cons x l ih=>
  cases az with
  |nil=>intro v hv; simp at hv
  |cons a az=>
   intro v hv
   rw [List.zipWith_cons_cons,List.flatten_cons,dJ] at hv
   rcases hv with hv|hv
   ·simp [ar.cells,dq.cells] at hv
    rcases hv with rfl|rfl<;>rfl
   ·exact ih az v hv
theorem fG {l:List ar} {az:List RA} (h:az.length=l.length):(List.zipWith ar.cells l az).length=l.length:=by simp [h]
/-- addresses, of which some are new -/
def rQ (bz az:List RA) (i:Nat):List RA:=bz++az.drop i
theorem qM {bz az:List RA} {i:Nat} (hb:bz.length=i) (hi:i≤az.length):(rQ bz az i).length=az.length:=by simp [rQ,hb]; omega
theorem Je {bz az:List RA} {i:Nat} (h:az.length≤i):rQ bz az i=bz:=by unfold rQ; rw [List.drop_eq_nil_of_le h,List.append_nil]
theorem Gf {bz az:List RA} {i:Nat} {a:RA} (hb:bz.length=i) (h:az[i]? =some a):(rQ bz az i)[i]? =some a:=by
 unfold rQ
 rw [List.getElem?_append_right I,hb,Nat.sub_self,List.getElem?_drop]
 simpa using h
theorem KV {bz az:List RA} {i:Nat} {a b:RA} (hb:bz.length=i) (h:az[i]? =some a):(rQ bz az i).set i b=rQ (bz++[b]) az (i+1):=by
 unfold rQ
 have hi:=(aS.1 h).1
 rw [List.set_append_right _ _ I,hb,Nat.sub_self,List.drop_eq_getElem_cons hi,List.set_cons_zero]
 simp
theorem OU {l:List ar} {bz az:List RA} {i:Nat} {x:ar} {xa nw:RA} (hx:l[i]? =some x) (hb:bz.length=i) (ha:az[i]? =some xa):
 (List.zipWith ar.cells l (rQ bz az i)).set i (ar.cells x nw)=List.zipWith ar.cells l (rQ (bz++[nw]) az (i+1)):=by
 rw [← KV hb ha]
 apply List.ext_getElem?
 intro k
 rw [List.getElem?_set]
 by_cases e:i=k
 ·subst e
  have A:=Gf hb ha
  have B:=(aS.1 A).1
  have C:=(aS.1 hx).1
  rw [if_pos rfl,List.getElem?_zipWith,hx,List.getElem?_set_self B,if_pos (by simp; omega)]
 ·rw [if_neg e,List.getElem?_zipWith,List.getElem?_zipWith,List.getElem?_set_ne e]
theorem Hp {l:List ar} {bz:List RA} {i:Nat} {x:ar} {nw:RA} (hx:l[i]? =some x) (hb:bz.length=i):aU ar.owns (l.take i) bz++ar.owns x nw=aU ar.owns (l.take (i+1)) (bz++[nw]):=by
 have hi:=(aS.1 hx).1
 rw [List.take_add_one,hx,Option.toList_some,iN (by rw [List.length_take,hb]; omega)]
 simp [aU]
theorem fI {l:List ar} {bz:List RA}:(bw (aU ar.owns l bz)).wr=true:=by
 show (aU ar.owns l bz).all (·.wr)=true
 rw [cT]
 intro X hX
 obtain ⟨k,m,a,_,_,h⟩:=jX hX
 simp only [ar.owns,bJ] at h
 subst h; rfl
/-- what is known of new rows -/
def oj (l:List ar) (bz:List RA):Prop:= ∀ (k:Nat) m (a:RA),l[k]? =some m→bz[k]? =some a→m.bq.length≤a.2
theorem CK {l:List ar} {bz:List RA} {i:Nat} {x:ar} {nw:RA} (h:oj l bz) (hb:bz.length=i) (hx:l[i]? =some x) (hc:x.bq.length≤nw.2):oj l (bz++[nw]):=fun k m a hm ha=>by
 by_cases e:k<bz.length
 ·rw [List.getElem?_append_left e] at ha
  exact h k m a hm ha
 ·rw [List.getElem?_append_right I] at ha
  have hk:k-bz.length=0:=by
   rcases Nat.eq_zero_or_pos (k-bz.length) with A|A
   ·exact A
   ·rw [List.getElem?_eq_none (by simp; omega)] at ha; cases ha
  rw [hk] at ha
  simp at ha
  have:k=i:=by omega
  subst this
  rw [hx] at hm; cases hm
  subst ha; exact hc
theorem iB: ∀ (m:ar) (a:RA) (w:World),(∀ X∈ar.owns m a,X.holds w)→ ∀ X∈ar.g4 m a,X.holds w:=fun m a w h X hX=>by
 simp only [ar.g4,bJ] at hX
 subst hX
 have:=mP (h _ (bJ.2 rfl))
 simpa using this
theorem er.Nr {l:aZ} {az bz:List RA} (h:er l az) (hb:bz.length=l.ai.length) (hc:oj l.ai bz):er l bz:=⟨h.sQ,h.side,h.sr,hb,h.sj,fun k m a hm ha=>⟨hc k m a hm ha,by
 obtain ⟨A,B⟩: ∃ A,az[k]? =some A:=⟨az[k]'(by rw [h.od]; exact (aS.1 hm).1),eM _⟩
 exact (h.RE k m A hm B).2⟩⟩
section
variable {E:fh} {ops:Array Oper} {Q:cZ} {rest:List Oper} {D:List Deferred} {L:List (Nat×Value)} {C:List au}
theorem SF {a:OA} {c e sz:Nat} {es:List (List Value)} (i:Nat) (hC:C[i]? =some (own a c e sz es)) (k:es.length≤c→RJ E ops Q rest D L C):RJ E ops Q rest D L C:=fun act w hf hs=>
 k (AR (hs.holds _ (aT hC))) act w hf hs
end
end
section
open Go.RowKit
def ni (m:aw) (a:RA):List au:=[own a.1 a.2 PJ 2 (m.cv.ah.map aK.cells)]
def im (m:List aw) (a:cy):List au:=own a.1.1 a.1.2 Ce 7 (List.zipWith aw.cells m a.2)::aU ni m a.2
theorem Qo: ∀ (m:aw) (a:RA) (w:World),(∀ X∈ni m a,X.holds w)→ ∀ X∈aw.g4 m a,X.holds w:=fun m a w h X hX=>by
 simp only [aw.g4,bJ] at hX
 subst hX
 have:=mP (h _ (bJ.2 rfl))
 simpa using this
theorem jZ {m:List aw} {asl:List RA} (h:asl.length=m.length):(List.zipWith aw.cells m asl).length=m.length:=by simp [h]
theorem dx {m:List (List aw)} {asl:List cy} (h:asl.length=m.length):(List.zipWith ct m asl).length=m.length:=by simp [h]
theorem OL {m:List aw} {asl:List RA}:(aU ni m asl).all (·.wr)=true:=by
 rw [cT]
 intro X hX
 obtain ⟨k,d,a,_,_,h⟩:=jX hX
 simp only [ni,bJ] at h
 subst h; rfl
theorem jU {m:List (List aw)} {asl:List cy}:(bw (aU im m asl)).wr=true:=by
 show (aU im m asl).all (·.wr)=true
 rw [cT]
 intro X hX
 obtain ⟨k,d,a,_,_,h⟩:=jX hX
 rcases bx.1 h with rfl|h
 ·rfl
 ·exact cT.1 OL X h
theorem Gp (l:List aw) (az:List RA): ∀ v∈(List.zipWith aw.cells l az).flatten,v.oneCell'=true:=by
 induction l generalizing az with
 |nil=>intro v hv; simp at hv
 |cons x l ih=>
  cases az with
  |nil=>intro v hv; simp at hv
  |cons a az=>
   intro v hv
   rw [List.zipWith_cons_cons,List.flatten_cons,dJ] at hv
   rcases hv with hv|hv
   ·simp [aw.cells,bp.cells,dY.cells,aa.cells] at hv
    rcases hv with rfl|rfl|rfl|rfl|rfl|rfl|rfl<;>rfl
   ·exact ih az v hv
theorem zV (l:List (List aw)) (az:List cy): ∀ v∈(List.zipWith ct l az).flatten,v.oneCell'=true:=by
 induction l generalizing az with
 |nil=>intro v hv; simp at hv
 |cons x l ih=>
  cases az with
  |nil=>intro v hv; simp at hv
  |cons a az=>
   intro v hv
   rw [List.zipWith_cons_cons,List.flatten_cons,dJ] at hv
   rcases hv with hv|hv
   ·simp [ct] at hv; subst hv; rfl
   ·exact ih az v hv
/-- every heat has as many places as descents -/
def qh (H:List (List aw)) (hz:List cy):Prop:=hz.length=H.length∧ ∀ (k:Nat) h (a:cy),H[k]? =some h→hz[k]? =some a→a.2.length=h.length
theorem OC {a:OA} {c e sz n:Nat} {es:List (List Value)} {w:World} (h:(own a c e sz es).holds w) (hn:es.length=n):(rd a n sz es).holds w:=by subst hn; exact mP h
theorem gQ {C:List au} {H:List (List aw)} {hz:List cy} (i:Nat) (hC:C[i]? =some (bw (aU im H hz))) (hh:qh H hz):jc C (fc (aU iw H hz)).holds:=fun w hw X hX=>by
 have hb:=hw _ (aT hC)
 obtain ⟨k,m,a,A,B,D⟩:=jX hX
 rcases bx.1 D with rfl|D
 ·exact OC (hb.1 _ (bV A B cm)) (jZ (hh.2 k m a A B))
 ·obtain ⟨q,d,b,E,F,G⟩:=jX D
  exact Qo d b w (fun Y hY=>hb.1 Y (bV A B (cV _ (bV E F hY)))) X G
section
variable {α:Type}
def iY (bz az:List α) (i:Nat):List α:=bz++az.drop i
variable {bz az:List α} {i:Nat} {a b:α}
theorem eH (hb:bz.length=i) (hi:i≤az.length):(iY bz az i).length=az.length:=by simp [iY,hb]; omega
theorem qY (h:az.length≤i):iY bz az i=bz:=by unfold iY; rw [List.drop_eq_nil_of_le h,List.append_nil]
theorem ti (hb:bz.length=i) (h:az[i]? =some a):(iY bz az i)[i]? =some a:=by
 unfold iY
 rw [List.getElem?_append_right I,hb,Nat.sub_self,List.getElem?_drop]
 simpa using h
theorem By (hb:bz.length=i):(iY (bz++[b]) az (i+1))[i]? =some b:=by
 unfold iY
 rw [List.getElem?_append_left (by simp; omega),List.getElem?_append_right I,hb,Nat.sub_self]; rfl
theorem LC (hb:bz.length=i) (h:az[i]? =some a):(iY bz az i).set i b=iY (bz++[b]) az (i+1):=by
 unfold iY
 have hi:=(aS.1 h).1
 rw [List.set_append_right _ _ I,hb,Nat.sub_self,List.drop_eq_getElem_cons hi,List.set_cons_zero]
 simp
theorem qA {M β:Type} {c:M→α→β} {l:List M} {x:M} (hx:l[i]? =some x) (hb:bz.length=i) (h:az[i]? =some a):(List.zipWith c l (iY bz az i)).set i (c x b)=List.zipWith c l (iY (bz++[b]) az (i+1)):=by
 rw [qZ,LC hb h]
 congr 1
 obtain ⟨hi,rfl⟩:=aS.1 hx
 exact List.set_getElem_self hi
theorem nJ {M:Type} {f:M→α→List au} {l:List M} {x:M} (hx:l[i]? =some x) (hb:bz.length=i):aU f (l.take i) bz++f x b=aU f (l.take (i+1)) (bz++[b]):=by
 have hi:=(aS.1 hx).1
 rw [List.take_add_one,hx,Option.toList_some,iN (by rw [List.length_take,hb]; omega)]
 simp [aU]
end
theorem Cc: ∀ {l:List (List aw)} {u v:List cy},u.map (·.1)=v.map (·.1)→List.zipWith ct l u=List.zipWith ct l v
 |[],u,v,_=>by simp
 |x::l,[],[],_=>rfl
 |x::l,[],b::v,h=>by simp at h
 |x::l,a::u,[],h=>by simp at h
 |x::l,a::u,b::v,h=>by
  simp only [List.map_cons,List.cons.injEq] at h
  rw [List.zipWith_cons_cons,List.zipWith_cons_cons,Cc h.2]
  have e:ct x a=ct x b:=by simp only [ct,h.1]
  rw [e]
theorem BF {l:List (List aw)} {hz ha:List cy} {p:RA} {x y:List RA} {i:Nat}:List.zipWith ct l (iY (hz++[(p,x)]) ha i)=List.zipWith ct l (iY (hz++[(p,y)]) ha i):=Cc (by simp [iY])
theorem Gr {H:List (List aw)} {hz:List cy} {i:Nat} {x:List aw} {b:cy} (hx:H[i]? =some x) (h: ∀ (k:Nat) y (a:cy),H[k]? =some y→hz[k]? =some a→a.2.length=y.length) (hb:hz.length=i) (hl:b.2.length=x.length): ∀ (k:Nat) y (a:cy),H[k]? =some y→(hz++[b])[k]? =some a→a.2.length=y.length:=fun k y a hy ha=>by
 by_cases e:k<hz.length
 ·rw [List.getElem?_append_left e] at ha
  exact h k y a hy ha
 ·rw [List.getElem?_append_right I] at ha
  have hk:k-hz.length=0:=by
   rcases Nat.eq_zero_or_pos (k-hz.length) with A|A
   ·exact A
   ·rw [List.getElem?_eq_none (by simp; omega)] at ha; cases ha
  rw [hk] at ha
  simp at ha
  have:k=i:=by omega
  subst this
  rw [hx] at hy; cases hy
  subst ha; exact hl
theorem FN {S:BS} {w0 w:World} {C:List au} {A:au} {Y Z:List au} (h:St S w0 (A::bw Y::bw Z::C) w):St S w0 (bw (Z++A::Y)::C) w:=by
 have D:St S w0 (bw Y::A::bw Z::C) w:=h.perm (List.Perm.swap _ _ _)
 have E:St S w0 (Y++(A::bw Z::C)) w:=D.ir
 have F:St S w0 (bw Z::(A::Y)++C) w:=E.perm (by
  have B:(Y++(A::bw Z::C)).Perm ((A::bw Z::C)++Y):=List.perm_append_comm
  refine B.trans ?_
  show (A::bw Z::(C++Y)).Perm (bw Z::A::(Y++C))
  exact (List.Perm.swap _ _ _).trans (((List.perm_append_comm (l₁:=C) (l₂:=Y)).cons A).cons _))
 have G:St S w0 (Z++((A::Y)++C)) w:=F.ir
 have H:St S w0 ((Z++A::Y)++C) w:=by simpa using G
 exact H.tied
theorem Ii {S:BS} {w0 w:World} {C:List au} {A:au} {Y Z:List au} (h:St S w0 (bw (A::Y++Z)::C) w):St S w0 (A::bw Y::bw Z::C) w:=by
 have D:St S w0 ((A::Y++Z)++C) w:=h.ir
 have E:St S w0 (Z++(A::(Y++C))) w:=D.perm (by
  show (A::(Y++Z)++C).Perm (Z++(A::(Y++C)))
  have B:(A::(Y++Z)++C).Perm (A::(Z++(Y++C))):=by
   show (A::((Y++Z)++C)).Perm _
   refine List.Perm.cons A ?_
   rw [← List.append_assoc]
   exact List.perm_append_comm.append_right C
  exact B.trans (List.perm_middle (a:=A) (l₁:=Z) (l₂:=Y++C)).symm)
 have F:=E.tied
 have G:St S w0 (Y++(A::bw Z::C)) w:=F.perm (by
  show (bw Z::A::(Y++C)).Perm (Y++(A::bw Z::C))
  have B:(Y++(A::bw Z::C)).Perm (A::bw Z::(Y++C)):=by
   have:=List.perm_append_comm (l₁:=Y) (l₂:=A::bw Z::C)
   refine this.trans ?_
   show (A::bw Z::(C++Y)).Perm _
   exact (List.perm_append_comm.cons _).cons _
  exact (B.trans (List.Perm.swap _ _ _)).symm)
 have H:=G.tied
 exact H.perm (List.Perm.swap _ _ _)
theorem wD {H:List (List aw)} {hz:List cy} {k:Nat} {h:List aw} {a:cy} (hh:H[k]? =some h) (ha:hz[k]? =some a):(aU im H hz).Perm (own a.1.1 a.1.2 Ce 7 (List.zipWith aw.cells h a.2)::aU ni h a.2++fE im H hz k):=kY hh ha
theorem P6 {E:fh} {K:Act→World→Prop} {D:gV} {L:di} {C:List au} {a:OA} {c e sz:Nat} {es:List (List Value)} (i:Nat) (hC:C[i]? =some (own a c e sz es)) (k:es.length≤c→KJ E K D L C):KJ E K D L C:=fun act w hf hs=>k (AR (hs.holds _ (aT hC))) act w hf hs
abbrev Oa (C:List au) (i j k:Nat):List Nat:=k::j::i::(List.range C.length).filter fun q=>q != i&&q != j&&q != k
section
variable {E:fh} {ops:Array Oper} {Q:cZ} {rest:List Oper} {D:List Deferred} {L:List (Nat×Value)} {C C1:List au} {K:Act→World→Prop}
variable {H:List (List aw)} {hz:List cy} {h h':List aw} {a a':cy} {k:Nat} {X:au} {Y Z Z':List au}
/-- i: the others, j: what hangs on the row, q: the row -/
theorem My (i j q:Nat) (hn:decide (Oa C i j q).Nodup=true) (hC:lH C (Oa C i j q)=some (X::bw Y::bw Z::C1)) (e:Z++X::Y=Z') (hk:KJ E K D L (bw Z'::C1)):KJ E K D L C:=fun a w hf hs=>by
 subst e; exact hk a w hf (FN (St.kq _ hn (jE hC) hs))
theorem Q4 {c:Code} (i:Nat) (hh:H[k]? =some h) (ha:hz[k]? =some a) (hn:decide (HW C i).Nodup=true) (hC:lH C (HW C i)=some (bw (aU im H hz)::C1))
 (hk:WJ E c Q D L (own a.1.1 a.1.2 Ce 7 (List.zipWith aw.cells h a.2)::bw (aU ni h a.2)::bw (fE im H hz k)::C1)):WJ E c Q D L C:=fun act w hf hs=>
 hk act w hf (Ii (kZ (wD hh ha) (St.kq _ hn (jE hC) hs)))
theorem Kn {S:BS} {w0 w:World} (hk:k<H.length) (hk2:k<hz.length) (hs:St S w0 (own a'.1.1 a'.1.2 Ce 7 (List.zipWith aw.cells h' a'.2)::bw (aU ni h' a'.2)::bw (fE im H hz k)::C) w):St S w0 (bw (aU im (H.set k h') (hz.set k a'))::C) w:=by
 have B:=FN hs
 refine kZ ?_ B
 have A:=wD (H:=H.set k h') (hz:=hz.set k a') (List.getElem?_set_self hk) (List.getElem?_set_self hk2)
 rw [sJ] at A
 exact (List.perm_append_comm).trans A.symm
end
theorem HT {H:List (List aw)} {hz:List cy} {k:Nat} {h h':List aw} {a:cy} {bs:List RA} (hh:H[k]? =some h) (ha:hz[k]? =some a) (hl:h'.length=h.length):List.zipWith ct (H.set k h') (hz.set k (a.1,bs))=List.zipWith ct H hz:=by
 rw [← qZ]
 have e:ct h' (a.1,bs)=ct h a:=by simp only [ct,hl]
 rw [e]
 have hz':=dG (f:=ct) hh ha
 obtain ⟨hi,A⟩:=aS.1 hz'
 rw [← A]
 exact List.set_getElem_self hi
theorem Nl {S:BS} {w0 w:World} {C:List au} {h:List aw} {bs:List RA} {i:Nat} {d:aw} {b:RA} {d':aw} (hd:h[i]? =some d) (hb:bs[i]? =some b) (hs':d'.cv.ah=[]) (hs:St S w0 (bw (aU ni h bs)::C) w):St S w0 (bw (aU ni (h.set i d') (bs.set i (none,0)))::C) w:=by
 have A:=(kZ (kY hd hb) hs).ir
 have B:St S w0 (fE ni h bs i++C) w:=St.take (by simpa using A) (List.sublist_append_right (ni d b) (fE ni h bs i++C))
 have D:=B.rH PJ 2
 have E:St S w0 ((ni d' (none,0)++fE ni (h.set i d') (bs.set i (none,0)) i)++C) w:=by
  rw [sJ]
  simpa [ni,hs'] using D
 exact kZ (kY (List.getElem?_set_self (aS.1 hd).1) (List.getElem?_set_self (aS.1 hb).1)).symm E.tied
theorem eO.Nr {r:bT} {az bz:List RA} {ha hz:List cy} (h:eO r az ha) (hb:bz.length=r.ao.ai.length) (hc:oj r.ao.ai bz) (hh:qh r.an hz):eO r bz hz:=⟨h.line.Nr hb hc,h.iI,h.draw,h.iH,hh.1,fun k x a hx ha'=>by
 obtain ⟨A,C⟩: ∃ A,ha[k]? =some A:=⟨ha[k]'(by rw [h.has]; exact (aS.1 hx).1),eM _⟩
 have B:=h.nN k x A hx C
 exact ⟨B.len,hh.2 k x a hx ha',B.sig⟩⟩
end
section
open Go.RowKit
def kM (t:aa):aw:=⟨false,true,t,⟨0,0,[]⟩⟩
def gW (H:List (List aw)) (h i:Int) (t:aa):List (List aw):=H.set h.toNat ((H[h.toNat]?.getD []).set i.toNat (kM t))
def jL (r:bT) (h i:Int) (t:aa):bT:=⟨r.ao,r.aL,r.bE,r.gJ,gW r.an h i t⟩
@[simp] theorem Rx {r:bT} {h i:Int} {t:aa}:(jL r h i t).ao=r.ao:=rfl
@[simp] theorem Rm {r:bT} {h i:Int} {t:aa}:(jL r h i t).aL=r.aL:=rfl
@[simp] theorem RB {r:bT} {h i:Int} {t:aa}:(jL r h i t).bE=r.bE:=rfl
theorem w6 {m:g8} {i:Int} {s:aa}:(dU m i s).length≤m.length:=by
 unfold dU
 refine Nat.le_trans (List.length_filter_le _ _) ?_
 rw [List.length_map,List.length_range]; exact Nat.le_refl _
noncomputable def qG (r:bT) (h i:Int) (t:aa):Int:=if ((0≤h∧h≤(r.an.length:Int)-1)∧sH r i)∧iW t then (if ((r.an[h.toNat]?).bind (·[i.toNat]?)).any (·.Out)=true then 8 else 0) else 2
noncomputable def gT (r:bT) (h i:Int) (t:aa):Int:=if cD r=0 then qG r h i t else cD r
noncomputable def e8 (r:bT) (h i:Int) (t:aa):List Int:=if gT r h i t=0 then (dv ((aG r).map (·.1))).filter (fun k=> !decide (dU (aG r) k (aF (aG r) k)=dU (aG (jL r h i t)) k (aF (aG (jL r h i t)) k))) else []
section
variable {r:bT} {h i:Int} {t:aa} {ht:List aw} {d:aw}
theorem v7 {H:List (List aw)} (hh:H[h.toNat]? =some ht):gW H h i t=H.set h.toNat (ht.set i.toNat (kM t)):=by unfold gW; rw [hh]; rfl
theorem jn {H:List (List aw)}:(gW H h i t).length=H.length:=by unfold gW; rw [List.length_set]
theorem mH (q: ¬ (((0≤h∧h≤(r.an.length:Int)-1)∧0≤i∧i≤(r.aL.length:Int)-1)∧iW t)):qG r h i t=2:=if_neg q
theorem FB (q:((0≤h∧h≤(r.an.length:Int)-1)∧0≤i∧i≤(r.aL.length:Int)-1)∧iW t) (h1:r.an[h.toNat]? =some ht) (h2:ht[i.toNat]? =some d):qG r h i t=if d.Out=true then 8 else 0:=by
 unfold qG
 rw [if_pos (show ((0≤h∧h≤(r.an.length:Int)-1)∧sH r i)∧iW t from q),h1,Option.bind_some,h2,Option.any_some]
theorem td (q:((0≤h∧h≤(r.an.length:Int)-1)∧0≤i∧i≤(r.aL.length:Int)-1)∧iW t) (h1:r.an[h.toNat]? =some ht) (h2:ht[i.toNat]? =some d) (ho:d.Out=true):qG r h i t=8:=by rw [FB q h1 h2,if_pos ho]
theorem ON (q:((0≤h∧h≤(r.an.length:Int)-1)∧0≤i∧i≤(r.aL.length:Int)-1)∧iW t) (h1:r.an[h.toNat]? =some ht) (h2:ht[i.toNat]? =some d) (ho:d.Out=false):qG r h i t=0:=by rw [FB q h1 h2,if_neg (by rw [ho]; decide)]
/-- what it means that there is no error -/
theorem zK (e:qG r h i t=0):((0≤h∧h≤(r.an.length:Int)-1)∧sH r i)∧iW t∧((r.an[h.toNat]?).bind (·[i.toNat]?)).any (·.Out)=false:=by
 unfold qG at e
 split at e
 ·rename_i q
  split at e
  ·cases e
  ·rename_i A; exact ⟨q.1,q.2,by simpa using A⟩
 ·cases e
theorem C6 (e:gT r h i t=0):cD r=0∧qG r h i t=0:=by
 unfold gT at e
 split at e
 ·exact ⟨asm,e⟩
 ·exact absurd e asm
theorem sf (e: ¬ cD r=0):gT r h i t=cD r:=if_neg e
theorem o7 (e:cD r=0):gT r h i t=qG r h i t:=if_pos e
theorem CD {H:List (List aw)} {k:Nat} {y:List aw} (hy:(gW H h i t)[k]? =some y): ∃ x,H[k]? =some x∧y.length=x.length∧ ∀ d∈y,d∈x∨d=kM t:=by
 unfold gW at hy
 rw [List.getElem?_set] at hy
 split at hy
 ·rename_i e
  split at hy
  ·rename_i hl
   have A:H[h.toNat]? =some H[h.toNat]:=eM hl
   rw [A] at hy
   simp only [Option.getD_some,Option.some.injEq] at hy
   subst hy
   refine ⟨H[h.toNat],by rw [← e]; exact A,by rw [List.length_set],fun d hd=>?_⟩
   exact List.mem_or_eq_of_mem_set hd
  ·cases hy
 ·exact ⟨y,hy,U,fun d hd=> .inl hd⟩
theorem D4 (hr:eP r) (ht:iW t):eP (jL r h i t):=⟨hr.num,hr.sP,by
 have:=hr.nh
 show 1≤((gW r.an h i t).length:Int)∧((gW r.an h i t).length:Int)≤3
 rw [jn]; exact this,hr.ids,hr.draw,fun y hy=>by
 obtain ⟨k,hk⟩:=List.mem_iff_getElem?.1 hy
 obtain ⟨x,hx,hl,hm⟩:=CD hk
 have A:=hr.nN x (aT hx)
 refine ⟨hl.trans A.1,fun d hd=>?_⟩
 rcases hm d hd with q|rfl
 ·exact A.2 d q
 ·unfold iy
  rw [if_neg (by simp [kM]),if_pos (by rfl)]
  exact ⟨ht,by simp [mB,kM]⟩⟩
theorem yV (e:gT r h i t=0):cD (jL r h i t)=0:=by
 obtain ⟨A,B⟩:=C6 e
 obtain ⟨C,D⟩:=fM A
 unfold cD
 rw [if_pos (show dC (jL r h i t).ao=0 from C),if_pos (D4 D (zK B).2.1)]
theorem eO.rep {az bz:List RA} {ha hz:List cy} (hin:eO r az ha) (hb:bz.length=r.ao.ai.length) (hc:oj r.ao.ai bz) (hh:qh (gW r.an h i t) hz):eO (jL r h i t) bz hz:=⟨hin.line.Nr hb hc,hin.iI,hin.draw,by
 show (gW r.an h i t).length≤1000000
 rw [jn]; exact hin.iH,hh.1,fun k y a hy ha'=>by
 obtain ⟨x,hx,hl,hm⟩:=CD hy
 obtain ⟨b,hb⟩: ∃ b,ha[k]? =some b:=⟨ha[k]'(by rw [hin.has]; exact (aS.1 hx).1),eM _⟩
 have A:=hin.nN k x b hx hb
 refine ⟨by rw [hl]; exact A.len,hh.2 k y a hy ha',fun d hd=>?_⟩
 rcases hm d hd with q|rfl
 ·exact A.sig d q
 ·simp [kM]⟩
theorem KN {H:List (List aw)} {k q:Nat}:((gW H h i t)[k]?).bind (·[q]?)=(H[k]?).bind (·[q]?)∨(k=h.toNat∧q=i.toNat∧(∃ d,(H[k]?).bind (·[q]?)=some d)∧((gW H h i t)[k]?).bind (·[q]?)=some (kM t)):=by
 by_cases e:h.toNat=k
 ·cases hk:H[k]? with
  |none=>
   left
   have:(gW H h i t)[k]? =none:=by rw [List.getElem?_eq_none_iff,jn]; exact List.getElem?_eq_none_iff.1 hk
   rw [this]
  |some x=>
   have B:(gW H h i t)[k]? =some (x.set i.toNat (kM t)):=by
    subst e
    rw [v7 hk]
    exact List.getElem?_set_self (aS.1 hk).1
   rw [B,Option.bind_some,Option.bind_some]
   by_cases A:i.toNat=q
   ·cases hq:x[q]? with
    |none=>
     left
     rw [List.getElem?_eq_none_iff,List.length_set]; exact List.getElem?_eq_none_iff.1 hq
    |some d=>
     right
     subst A
     exact ⟨e.symm,U,⟨d,U⟩,List.getElem?_set_self (aS.1 hq).1⟩
   ·left; rw [List.getElem?_set_ne A]
 ·left
  unfold gW
  rw [List.getElem?_set_ne e]
theorem zI {l:aZ} {H:List (List aw)} {q:Nat} (ho:((H[h.toNat]?).bind (·[i.toNat]?)).any (·.Out)=false): ∀ n,(ff l (gW H h i t) q n).isSome=(ff l H q n).isSome
 |0=>rfl
 |n+1=>by
  have ih:=zI (l:=l) (q:=q) ho n
  unfold ff
  rcases KN (H:=H) (h:=h) (i:=i) (t:=t) (k:=n) (q:=q) with e|⟨rfl,rfl,⟨d,hd⟩,e⟩
  ·rw [e]
   cases e1:ff l (gW H h i t) q n<;>cases e2:ff l H q n<;>simp_all
   cases (H[n]?).bind (·[q]?) with
   |none=>rfl
   |some d=>by_cases c:d.Out=true<;>simp [c]
  ·rw [e,hd]
   have A:d.Out=false:=by rw [hd] at ho; simpa using ho
   cases e1:ff l (gW H h i t) i.toNat h.toNat<;>cases e2:ff l H i.toNat h.toNat<;>simp_all [kM]
theorem Pk {r:bT} {k:Nat} {x:Int}:(dB r k).lookup x=if 0≤x∧x<(r.aL.length:Int) then ff r.ao r.an x.toNat k else none:=by
 by_cases c:0≤x∧x<(r.aL.length:Int)
 ·rw [if_pos c]
  have:=nx (f:=fun q=>ff r.ao r.an q k) r.aL.length x.toNat
  rw [if_pos I,show (x.toNat:Int)=x by omega] at this
  exact this
 ·rw [if_neg c]
  cases e:(dB r k).lookup x with
  |none=>rfl
  |some v=>
   exfalso
   obtain ⟨q,hq,A,_⟩:=zB ((wY wR).2 e)
   simp only at A
   omega
theorem Ll (e:qG r h i t=0) (k:Int):((aG (jL r h i t)).lookup k).isSome=((aG r).lookup k).isSome:=by
 obtain ⟨_,_,ho⟩:=zK e
 unfold aG
 rw [Pk,Pk]
 show (if 0≤k∧k<(r.aL.length:Int) then ff r.ao (gW r.an h i t) k.toNat (gW r.an h i t).length else none).isSome=_
 rw [jn]
 split
 ·exact zI ho _
 ·rfl
theorem Dr {m:g8} {k:Int} (h:k∈dv (m.map (·.1))):m.lookup k≠none:=by
 obtain ⟨p,hp,rfl⟩:=bX.1 (fK.mem_iff.1 h)
 intro e
 exact absurd (List.lookup_eq_none_iff.1 e p hp) sm
theorem QK {hz:List cy} {hza:cy} (hh:qh r.an hz) (h1:r.an[h.toNat]? =some ht) (h2:hz[h.toNat]? =some hza):qh (gW r.an h i t) (hz.set h.toNat (hza.1,hza.2.set i.toNat (none,0))):=by
 refine ⟨by rw [List.length_set,jn]; exact hh.1,fun k y a hy ha=>?_⟩
 rw [v7 h1] at hy
 rw [List.getElem?_set] at hy ha
 by_cases e:h.toNat=k
 ·rw [if_pos e,if_pos (aS.1 h1).1] at hy
  rw [if_pos e,if_pos (aS.1 h2).1] at ha
  cases hy; cases ha
  simp only [List.length_set]
  exact hh.2 _ _ _ h1 h2
 ·rw [if_neg e] at hy ha
  exact hh.2 k y a hy ha
theorem xN (e: ¬ gT r h i t=0):e8 r h i t=[]:=if_neg e
theorem DY (e:gT r h i t=0):e8 r h i t=(dv ((aG r).map (·.1))).filter (fun k=> !decide (dU (aG r) k (aF (aG r) k)=dU (aG (jL r h i t)) k (aF (aG (jL r h i t)) k))):=if_pos e
end
section
variable {E:fh} {Q:cZ} {D:List Deferred} {L:List (Nat×Value)} {C C1:List au} {c:Code}
variable {H:List (List aw)} {hz:List cy} {h h':List aw} {a a':cy} {k:Nat} {bs:List RA} {i:Nat} {d d':aw} {b:RA}
theorem QI (j:Nat) (hd:h[i]? =some d) (hb:bs[i]? =some b) (hs':d'.cv.ah=[]) (hn:decide (HW C j).Nodup=true) (hC:lH C (HW C j)=some (bw (aU ni h bs)::C1))
 (hk:WJ E c Q D L (bw (aU ni (h.set i d') (bs.set i (none,0)))::C1)):WJ E c Q D L C:=fun act w hf hs=>hk act w hf (Nl hd hb hs' (St.kq _ hn (jE hC) hs))
theorem OP (i j q:Nat) (hk:k<H.length) (hk2:k<hz.length) (hn:decide (Oa C i j q).Nodup=true) (hC:lH C (Oa C i j q)=some (own a'.1.1 a'.1.2 Ce 7 (List.zipWith aw.cells h' a'.2)::bw (aU ni h' a'.2)::bw (fE im H hz k)::C1))
 (hr:WJ E c Q D L (bw (aU im (H.set k h') (hz.set k a'))::C1)):WJ E c Q D L C:=fun act w hf hs=>hr act w hf (Kn hk hk2 (St.kq _ hn (jE hC) hs))
end
end
section
set_option maxRecDepth 20000
def Bv (x y:Int):aw:=kM ⟨x,y⟩
def aP:bT:=⟨m_,[4,7,9],[2,0,1],2,[[⟨false,false,dH,mQ⟩,Bv 2600 2600,Bv 2580 2609],[Bv 2555 2559,Bv 2540 2549,Bv 2570 2575]]⟩
theorem AW {l:aZ} {x y:Int} (h:iW ⟨x,y⟩):iy l (Bv x y):=by rw [tF ⟨rfl,rfl⟩]; exact ⟨h,rfl,rfl,rfl⟩
theorem QV:eP aP:=by
 refine ⟨dc,dc,dc,fun i x hx=>?_,dc,fun h hh=>?_⟩
 ·match i with
  |0=>simp [aP] at hx; subst hx; exact ⟨dc,fun y h=>absurd h dc⟩
  |1=>simp [aP] at hx; subst hx; exact ⟨dc,fun y _ h=>by simp [aP] at h; omega⟩
  |2=>simp [aP] at hx; subst hx; exact ⟨dc,fun y _ h=>by simp [aP] at h; omega⟩
  |n+3=>simp [aP] at hx
 ·simp only [aP,bx,List.not_mem_nil,or_false] at hh
  rcases hh with rfl|rfl
  ·refine ⟨U,fun d hd=>?_⟩
   simp only [bx,List.not_mem_nil,or_false] at hd
   rcases hd with rfl|rfl|rfl
   ·rw [sW ⟨rfl,rfl⟩]; exact ⟨EN.1,rfl⟩
   ·exact AW dc
   ·exact AW dc
  ·refine ⟨U,fun d hd=>?_⟩
   simp only [bx,List.not_mem_nil,or_false] at hd
   rcases hd with rfl|rfl|rfl<;>exact AW dc
theorem qR:cD aP=0:=by unfold cD; rw [if_pos (show dC aP.ao=0 from PH),if_pos QV]
theorem Pn:mV aP 0 0=0∧iA aP 0 0=⟨2596,2602⟩:=by
 have h:mV aP 0 0=0:=by unfold mV; rw [if_pos qR]; decide
 refine ⟨h,?_⟩
 unfold iA
 rw [if_pos h]
 show dI m_ ⟨false,false,dH,mQ⟩=_
 rw [vV ⟨rfl,rfl⟩]; exact EN.2
/-- the sums of a race of three sleds and two heats, all of which run -/
theorem K9 {l:aZ} {ids dr:List Int} {t:Int} {H:List (List aw)} {a b c d e f:aw} (hH:H=[[a,b,c],[d,e,f]]) (hi:ids.length=3) (hoa: ∀ x∈[a,b,c,d,e,f],x.Out=false):
 aG ⟨l,ids,dr,t,H⟩=[(0,⟨(dI l a).Lo/10+(dI l d).Lo/10,(dI l a).Hi/10+(dI l d).Hi/10⟩),(1,⟨(dI l b).Lo/10+(dI l e).Lo/10,(dI l b).Hi/10+(dI l e).Hi/10⟩),(2,⟨(dI l c).Lo/10+(dI l f).Lo/10,(dI l c).Hi/10+(dI l f).Hi/10⟩)]∧
 dB ⟨l,ids,dr,t,H⟩ 1=[(0,⟨(dI l a).Lo/10,(dI l a).Hi/10⟩),(1,⟨(dI l b).Lo/10,(dI l b).Hi/10⟩),(2,⟨(dI l c).Lo/10,(dI l c).Hi/10⟩)]:=by
 subst hH
 simp only [bx,List.not_mem_nil,or_false,forall_eq_or_imp,forall_eq] at hoa
 obtain ⟨A,B,C,D,E,F⟩:=hoa
 simp [aG,dB,hi,List.range_succ,ff,A,B,C,D,E,F]
def Nj:g8:=[(0,⟨514,515⟩),(1,⟨514,514⟩),(2,⟨515,517⟩)]
def OG:g8:=[(0,⟨514,515⟩),(1,⟨514,514⟩),(2,⟨516,516⟩)]
def Sr:g8:=[(0,⟨259,260⟩),(1,⟨260,260⟩),(2,⟨258,260⟩)]
theorem AQ:dI m_ ⟨false,false,dH,mQ⟩=⟨2596,2602⟩:=by rw [vV ⟨rfl,rfl⟩]; exact EN.2
theorem p6 {l:aZ} {x y:Int}:dI l (Bv x y)=⟨x,y⟩:=Ab ⟨rfl,rfl⟩
theorem vk:aG aP=Nj∧dB aP 1=Sr:=by
 obtain ⟨A,B⟩:=K9 (l:=m_) (ids:=[4,7,9]) (dr:=[2,0,1]) (t:=2) (H:=aP.an) rfl rfl dc
 refine ⟨A.trans ?_,B.trans ?_⟩
 ·rw [AQ,p6,p6,p6,p6,p6]; rfl
 ·rw [AQ,p6,p6]; rfl
def lu:bT:=jL aP 0 2 ⟨2590,2599⟩
theorem Ds:gT aP 0 2 ⟨2590,2599⟩=0:=by unfold gT; rw [if_pos qR]; unfold qG; decide
theorem xC:cD lu=0:=yV Ds
theorem IJ:aG lu=OG:=by
 obtain ⟨A,B⟩:=K9 (l:=m_) (ids:=[4,7,9]) (dr:=[2,0,1]) (t:=2) (H:=lu.an) (a:=⟨false,false,dH,mQ⟩) (b:=Bv 2600 2600) (c:=Bv 2590 2599) (d:=Bv 2555 2559) (e:=Bv 2540 2549) (f:=Bv 2570 2575) rfl rfl dc
 refine A.trans ?_
 rw [AQ,p6,p6,p6,p6,p6]; rfl
/-- ranks, as they can be reckoned -/
def EJ (m:g8) (i:Int) (own:aa):List Int:=((List.range m.length).map fun (k:Nat)=>(k:Int)+1).filter fun k=>(jS m i own).any fun n=>decide ((ja m i n:Int)+1≤k∧k≤(k9 m i n:Int)+1)
theorem FW {m:g8} {i:Int} {own:aa}:dU m i own=EJ m i own:=by
 unfold dU EJ
 congr 1
 funext k
 rw [Bool.eq_iff_iff,decide_eq_true_eq,List.any_eq_true]
 simp only [decide_eq_true_eq,se]
theorem Ak {r:bT} {m:g8} {i:Int} {s:aa} (he:cD r=0) (hm:aG r=m) (hi:sH r i) (hl:m.lookup i=some s):j6 r i=0∧px r i=s∧jm r i=EJ m i s:=by
 have h:j6 r i=0:=by unfold j6; rw [if_pos he,if_pos hi,hm,hl]; rfl
 refine ⟨h,?_,?_⟩
 ·unfold px aF; rw [if_pos h,hm,hl]; rfl
 ·unfold jm aF; rw [if_pos h,hm,hl,FW]; rfl
theorem Gm {r:bT} {m:g8} {a b:Int} {s t:aa} (he:cD r=0) (hm:aG r=m) (hi:sH r a∧sH r b∧a≠b) (hs:m.lookup a=some s) (ht:m.lookup b=some t):n9 r a b=0∧vE r a b=BD s t∧qv r a b=rX s t:=by
 have h:n9 r a b=0:=by unfold n9; rw [if_pos he,if_pos hi,hm,hs,ht]; simp
 refine ⟨h,?_,?_⟩
 ·unfold vE aF; rw [if_pos h,hm,hs,ht]; rfl
 ·unfold qv aF; rw [if_pos h,hm,hs,ht]; rfl
theorem mC:j6 aP 0=0∧px aP 0=⟨514,515⟩∧jm aP 0=[1,2]:=by have h:=Ak (i:=0) (s:=⟨514,515⟩) qR vk.1 dc rfl; exact ⟨h.1,h.2.1,h.2.2.trans dc⟩
theorem Ch:j6 aP 2=0∧px aP 2=⟨515,517⟩∧jm aP 2=[2,3]:=by have h:=Ak (i:=2) (s:=⟨515,517⟩) qR vk.1 dc rfl; exact ⟨h.1,h.2.1,h.2.2.trans dc⟩
theorem Lp:j6 lu 2=0∧px lu 2=⟨516,516⟩:=by have h:=Ak (i:=2) (s:=⟨516,516⟩) xC IJ dc rfl; exact ⟨h.1,h.2.1⟩
theorem AU:n9 aP 1 2=0∧vE aP 1 2=2∧qv aP 1 2=0:=by have h:=Gm (a:=1) (b:=2) (s:=⟨514,514⟩) (t:=⟨515,517⟩) qR vk.1 dc rfl rfl; exact ⟨h.1,h.2.1.trans dc,h.2.2.trans dc⟩
theorem Aw:n9 aP 0 1=0∧vE aP 0 1=0∧qv aP 0 1=1:=by have h:=Gm (a:=0) (b:=1) (s:=⟨514,515⟩) (t:=⟨514,514⟩) qR vk.1 dc rfl rfl; exact ⟨h.1,h.2.1.trans dc,h.2.2.trans dc⟩
theorem Lm:gO aP 1=0∧cj aP 1=[0,2,1]:=by
 have h:gO aP 1=0:=by unfold gO; rw [if_pos qR]; decide
 refine ⟨h,?_⟩
 unfold cj
 rw [if_pos h,if_neg dc]
 unfold qx
 rw [show dB aP (1:Int).toNat=Sr from vk.2]
 decide
theorem IS:gO aP 2=0∧cj aP 2=[0,1,2]:=by
 have h:gO aP 2=0:=by unfold gO; rw [if_pos qR]; decide
 refine ⟨h,?_⟩
 unfold cj
 rw [if_pos h,if_neg dc]
 unfold qx
 rw [show dB aP (2:Int).toNat=Nj from vk.1]
 decide
theorem NY:dN aP=[[0,1,2]]:=by
 refine (tO qR ?_ ?_).symm
 ·rw [vk.1]
  refine ⟨dc,dc,sm,fun g hg t A B=>?_⟩
  rw [bJ.1 hg] at A B ⊢
  simp [Nj,aF,List.lookup] at A B ⊢
  omega
 ·intro g hg; rw [bJ.1 hg]; decide
theorem ME:dN lu=[[0,1],[2]]:=by
 refine (tO xC ?_ ?_).symm
 ·rw [IJ]
  refine ⟨dc,dc,?_,fun g hg t A B=>?_⟩
  ·simp [J1,OG,aF,List.lookup]
  ·simp only [bx,List.not_mem_nil,or_false] at hg
   rcases hg with rfl|rfl<;>(simp [OG,aF,List.lookup] at A B ⊢; omega)
 ·intro g hg; simp only [bx,List.not_mem_nil,or_false] at hg; rcases hg with rfl|rfl<;>decide
theorem Ol:e8 aP 0 2 ⟨2590,2599⟩=[2]:=by
 unfold e8
 rw [if_pos Ds,vk.1,show aG (jL aP 0 2 ⟨2590,2599⟩)=OG from IJ]
 simp only [FW]
 rw [show dv (Nj.map (·.1))=[0,1,2] from vf (n:=3) dc]
 decide
end
section
open Go.RowKit
section
variable {E:fh} {ops:Array Oper} {Q:cZ} {rest:List Oper} {D:List Deferred} {L:List (Nat×Value)} {C C1:List au}
end
theorem Cr {C:List au}: ∀ {a b:List Nat} {X Y:List au},lH C a=some X→lH C b=some Y→lH C (a++b)=some (X++Y)
 |[],b,X,Y,h,h2=>by cases h; exact h2
 |i::a,b,X,Y,h,h2=>by
  unfold lH at h
  split at h
  ·rename_i A hA
   split at h
   ·rename_i l hl
    cases h
    have ih:=Cr hl h2
    show (match C[i]? with
     |some A=>match lH C (a++b) with
      |some l=>some (A::l)
      |none=>none
     |none=>none)=_
    rw [hA,ih]; rfl
   ·cases h
  ·cases h
theorem uj {E:fh} {ops:Array Oper} {Q:cZ} {rest:List Oper} {D:gV} {L:di} {C C1:List au} (X:List au) (i1 i2:List Nat) (h1:lH C i1=some X) (h2:lH C i2=some C1) (h:RJ E ops Q rest D L (bw X::C1)) (hn:decide (i1++i2).Nodup=true:=by rfl):RJ E ops Q rest D L C:=fun a w hf hs=>h a w hf (St.tied (St.kq _ hn (jE (Cr h1 h2)) hs))
theorem Rr {E:fh} {c:Code} {Q:cZ} {D:gV} {L:di} {C C1:List au} (ix:List Nat) (hC:lH C ix=some C1) (h:WJ E c Q D L C1) (hn:decide ix.Nodup=true:=by rfl):WJ E c Q D L C:=fun a w hf hs=>h a w hf (St.kq _ hn (jE hC) hs)
theorem qX {E:fh} {ops:Array Oper} {Q:cZ} {rest:List Oper} {D:gV} {L:di} {C C1:List au} (ix:List Nat) (hn:decide ix.Nodup=true) (hC:lH C ix=some C1) (h:RJ E ops Q rest D L C1):RJ E ops Q rest D L C:=fun a w hf hs=>h a w hf (St.kq _ hn (jE hC) hs)
theorem pa {M A B:Type} {f:M→A→List B} {n:Nat} (h: ∀ m a,(f m a).length=n): ∀ {ms:List M} {asl:List A},∀ x∈List.zipWith f ms asl,x.length=n
 |[],asl,x,hx=>by simp at hx
 |m::ms,[],x,hx=>by simp at hx
 |m::ms,a::asl,x,hx=>by
  rw [List.zipWith_cons_cons] at hx
  rcases bx.1 hx with rfl|hx
  ·exact h m a
  ·exact pa h x hx
theorem Gd (m:aw) (a:RA):(aw.cells m a).length=7:=rfl
theorem KA (m:List aw) (a:cy):(ct m a).length=1:=rfl
theorem Lu (m:List Int) (a:RA):(nq m a).length=1:=rfl
def T_:List aw:=[⟨false,false,dH,mQ⟩,Bv 2600 2600,Bv 2580 2609]
def Up:List aw:=[Bv 2555 2559,Bv 2540 2549,Bv 2570 2575]
theorem I7 {p q s t u v x y:RA}:qh aP.an [(p,[s,t,u]),(q,[v,x,y])]:=⟨rfl,fun k h a hk ha=>by
 match k with
 |0=>simp [aP] at hk ha; subst hk; subst ha; rfl
 |1=>simp [aP] at hk ha; subst hk; subst ha; rfl
 |n+2=>simp at ha⟩
theorem Q9 {bz:List RA} {hz:List cy} (h:er m_ bz) (hh:qh aP.an hz):eO aP bz hz:=⟨h,dc,dc,dc,hh.1,fun k x a hx ha=>by
 have hm:=aT hx
 have hs:=hh.2 k x a hx ha
 simp only [aP,bx,List.not_mem_nil,or_false] at hm
 rcases hm with rfl|rfl
 ·exact ⟨dc,hs,dc⟩
 ·exact ⟨dc,hs,dc⟩⟩
end
section
open Go.RowKit
def p7 (b:Bool):List Value:=[.bool b]
@[simp] theorem AK (b:Bool):(p7 b).length=1:=rfl
theorem G6 (l:List Bool): ∀ v∈(l.map p7).flatten,v.oneCell'=true:=mE (fun s=>rfl) l
end
section
def lS (r:bT) (i:Nat):Prop:= ∀ (j:Nat) x,j<i→r.an[j]? =some x→ ¬ oW x
def np (x:List aw) (i:Nat):Prop:= ∀ (j:Nat) d,j<i→x[j]? =some d→ ¬ 15<(d.cv.ah.length:Int)
section
variable {r:bT} {i:Nat} {x:List aw} {d:aw}
theorem BN:lS r 0:=fun j x hj=>absurd hj (Nat.not_lt_zero _)
theorem Bw (h:lS r i) (hx:r.an[i]? =some x) (ho: ¬ oW x):lS r (i+1):=fun j y hj hy=>by
 rcases Nat.lt_or_ge j i with q|q
 ·exact h j y q hy
 ·obtain rfl:j=i:=by omega
  rw [hx] at hy; cases hy; exact ho
theorem Df:np x 0:=fun j x hj=>absurd hj (Nat.not_lt_zero _)
theorem Cv (h:np x i) (hx:x[i]? =some d) (ho: ¬ 15<(d.cv.ah.length:Int)):np x (i+1):=fun j y hj hy=>by
 rcases Nat.lt_or_ge j i with q|q
 ·exact h j y q hy
 ·obtain rfl:j=i:=by omega
  rw [hx] at hy; cases hy; exact ho
theorem Ee (hl: ¬ 8<(x.length:Int)) (h:np x i) (hi:x.length≤i): ¬ oW x:=by
 rintro (q|⟨d,hd,q⟩)
 ·exact hl q
 ·obtain ⟨j,hj⟩:=List.getElem?_of_mem hd
  exact h j d (by have:=(aS.1 hj).1; omega) hj q
theorem Hv (h1: ¬ lW r.ao) (h2: ¬ 8<(r.aL.length:Int)∧ ¬ 8<(r.bE.length:Int)∧ ¬ 5<(r.an.length:Int)) (h:lS r i) (hi:r.an.length≤i): ¬ nX r:=by
 rintro ((q|q)|⟨x,hx,q⟩)
 ·exact h1 q
 ·omega
 ·obtain ⟨j,hj⟩:=List.getElem?_of_mem hx
  exact h j x (by have:=(aS.1 hj).1; omega) hj q
theorem pL (h:lW r.ao∨8<(r.aL.length:Int)∨8<(r.bE.length:Int)∨5<(r.an.length:Int)):nX r:= .inl h
theorem CU (hx:r.an[i]? =some x) (h:8<(x.length:Int)):nX r:= .inr ⟨x,aT hx,.inl h⟩
theorem Ez {j:Nat} (hx:r.an[i]? =some x) (hd:x[j]? =some d) (h:15<(d.cv.ah.length:Int)):nX r:= .inr ⟨x,aT hx,.inr ⟨d,aT hd,h⟩⟩
end
noncomputable def o5 (l:aZ) (d:aw):aa:=if d.Out=true then dH else dI l d
theorem Ja {l:aZ} {d:aw} (h:iy l d):o5 l d=dI l d:=by
 unfold o5
 split
 ·rename_i q
  rw [Gx q]
  rw [qT q] at h
  exact h.2.1.symm
 ·rfl
theorem AF {l:aZ} {d:aw} (h:d.Out=true):o5 l d=dH:=if_pos h
theorem Gv {l:aZ} {d:aw} (h:d.Out=false∧d.eU=true):o5 l d=d.Time:=by unfold o5; rw [if_neg (by rw [h.1]; decide),Ab h]
theorem FE {l:aZ} {d:aw} (h:d.Out=false∧d.eU=false):o5 l d=Ax l d.cv:=by unfold o5; rw [if_neg (by rw [h.1]; decide),vV h]
def S5 (r:bT) (j:Nat):Prop:= ∀ x,r.aL[j]? =some x→(0≤x∧x≤9999)∧ ∀ y,0<j→r.aL[j-1]? =some y→y<x
def Ls (r:bT) (j:Nat):Prop:= ∀ x,r.bE[j]? =some x→(0≤x∧x≤(r.aL.length:Int)-1)∧ ∀ (k:Nat) y,k<j→r.bE[k]? =some y→y≠x
def xj (r:bT) (i:Nat):Prop:= ∀ j,j<i→S5 r j∧Ls r j
section
variable {r:bT} {i k:Nat} {x:Int}
theorem Kq:xj r 0:=fun j hj=>absurd hj (Nat.not_lt_zero _)
theorem BM (h:xj r i) (h1:S5 r i) (h2:Ls r i):xj r (i+1):=fun j hj=>by
 rcases Nat.lt_or_ge j i with q|q
 ·exact h j q
 ·obtain rfl:j=i:=by omega
  exact ⟨h1,h2⟩
theorem xW {l:List Int} {u v:Int} (h: ∀ (q:Nat) y,q<k→l[q]? =some y→y≠v) (hx:l[k]? =some u) (hne: ¬ u=v): ∀ (q:Nat) y,q<k+1→l[q]? =some y→y≠v:=fun q y hq hy=>by
 rcases Nat.lt_or_ge q k with c|c
 ·exact h q y c hy
 ·obtain rfl:q=k:=by omega
  rw [hx] at hy; cases hy; exact hne
theorem Jt (hl:r.bE.length=r.aL.length) (h:xj r r.aL.length):r.bE.Perm (Ha r.aL.length):=by
 have nd:r.bE.Nodup:=by
  rw [List.nodup_iff_pairwise_ne,ed]
  intro a b ha hb A
  exact ((h b I).2 _ (eM hb)).2 a _ A (eM ha)
 have hm: ∀ x∈r.bE,x∈Ha r.aL.length:=fun x hx=>by
  obtain ⟨j,hj⟩:=List.getElem?_of_mem hx
  have:=((h j (by have:=(aS.1 hj).1; omega)).2 x hj).1
  exact bX.2 ⟨x.toNat,List.mem_range.2 I,I⟩
 have ndu:(Ha r.aL.length).Nodup:=by
  unfold Ha
  rw [List.nodup_iff_pairwise_ne,List.pairwise_map]
  exact List.pairwise_lt_range.imp fun h=>by omega
 have e:dv r.bE=(Ha r.aL.length).filter fun x=>decide (x∈r.bE):=by
  refine rh lj ((xG _).filter _) (fK.nodup_iff.2 nd) (ndu.filter _) fun x=>?_
  rw [fK.mem_iff,List.mem_filter,decide_eq_true_eq]
  exact ⟨fun q=>⟨hm x q,q⟩,fun q=>q.2⟩
 have B:=congrArg List.length e
 rw [gF,hl] at B
 have C:(Ha r.aL.length).filter (fun x=>decide (x∈r.bE))=Ha r.aL.length:=List.filter_sublist.eq_of_length (by rw [← B]; simp)
 rw [C] at e
 rw [← e]; exact fK.symm
theorem HS {n:Nat} (h1:1≤(r.aL.length:Int)∧(r.aL.length:Int)≤5) (h2:r.bE.length=r.aL.length) (h3:0≤r.gJ∧r.gJ≤5) (h4:1≤(r.an.length:Int)∧(r.an.length:Int)≤3)
 (hn:n=r.aL.length) (h6:xj r n) (h7:kh r i) (hi:r.an.length≤i):eP r:=by
 subst hn
 refine ⟨h1,h3,h4,fun k x hx=>(h6 k (aS.1 hx).1).1 x hx,Jt h2 h6,fun h hh=>?_⟩
 obtain ⟨j,hj⟩:=List.getElem?_of_mem hh
 exact h7 j h (by have:=(aS.1 hj).1; omega) hj
theorem eP.Kj (h:eP r) (hx:r.bE[i]? =some x):0≤x∧x≤(r.aL.length:Int)-1:=by
 obtain ⟨k,hk,rfl⟩:=bX.1 (h.draw.mem_iff.1 (aT hx))
 have:=List.mem_range.1 hk
 omega
theorem eP.PW (h:eP r):r.bE.Nodup:=by
 refine h.draw.nodup_iff.2 ?_
 rw [List.nodup_iff_pairwise_ne,List.pairwise_map]
 exact List.pairwise_lt_range.imp fun h=>by omega
theorem eP.Rn (h:eP r) {u v:Int} (hki:k<i) (hu:r.bE[k]? =some u) (hv:r.bE[i]? =some v): ¬ u=v:=by
 have A:=h.PW
 rw [List.nodup_iff_pairwise_ne,ed] at A
 obtain ⟨a,ea⟩:=aS.1 hu
 obtain ⟨b,eb⟩:=aS.1 hv
 subst ea eb
 exact A k i a b hki
end
section
variable {r:bT} {i k n:Nat} {s:aa} {l:aZ} {hs:List (List aw)}
end
section
variable {r:bT} {i x:Int} {own s:aa} {k:Nat} {ys zs:List Int}
end
section
variable {B:List Bool} {P Q:Int→Prop} {k x:Nat} {m:g8} {i y a b:Int} {ys:List Int}
end
theorem Ea {r:bT} {i:Int}:(jm r i).length≤r.aL.length:=by
 unfold jm
 split
 ·unfold dU
  refine Nat.le_trans (List.length_filter_le _ _) ?_
  rw [List.length_map,List.length_range]
  exact uu
 ·simp
end
section
theorem Gy: ∀ {m:g8} {a:Int} {s:aa},m.lookup a=some s→(a,s)∈m
 |[],a,s,h=>by cases h
 |(b,u)::m,a,s,h=>by
  by_cases e:a=b
  ·subst e
   simp [List.lookup] at h; subst h; exact cm
  ·have:(a==b)=false:=by simpa using e
   simp only [List.lookup,this] at h
   exact cV _ (Gy h)
theorem Gg: ∀ {m:g8} {a:Int} {s:aa},(m.map (·.1)).Nodup→(a,s)∈m→m.lookup a=some s
 |[],a,s,_,h=>by cases h
 |(b,u)::m,a,s,hn,h=>by
  rw [List.map_cons,List.nodup_cons] at hn
  rcases bx.1 h with e|h
  ·cases e; simp [List.lookup]
  ·have e:a≠b:=fun e=>hn.1 (by rw [← e]; exact List.mem_map_of_mem (f:=(·.1)) h)
   have:(a==b)=false:=by simpa using e
   simp only [List.lookup,this]
   exact Gg hn.2 h
/-- sums, each of another sled -/
structure uM (m:g8):Prop where
 nd:(m.map (·.1)).Nodup
 le: ∀ p∈m,p.2.Lo≤p.2.Hi
section
variable {m:g8} {a b i n:Int} {s t own:aa}
theorem uM.at (h:uM m) (hs:m.lookup a=some s):s.Lo≤s.Hi:=h.le _ (Gy hs)
theorem uM.one (h:uM m) (hs:m.lookup a=some s) {p:Int×aa} (hp:p∈m) (e:p.1=a):p.2=s:=by
 obtain ⟨x,y⟩:=p
 cases e
 have:=Gg h.nd hp
 rw [hs] at this; cases this; rfl
/-- who is surely tied has the same ranks -/
theorem Iy (h:uM m) (hs:m.lookup a=some s) (ht:m.lookup b=some s) (he:s.Lo=s.Hi):dU m a s=dU m b s:=by
 have C:ja m a s.Lo=ja m b s.Lo:=by
  rw [oz,oz]
  apply List.countP_congr
  intro p hp
  simp only [cU,decide_eq_true_eq,Bool.not_eq_true',decide_eq_false_iff_not]
  exact ⟨fun q=>⟨q.1,fun e=>by have:=h.one ht hp e; rw [this] at q; omega⟩,fun q=>⟨q.1,fun e=>by have:=h.one hs hp e; rw [this] at q; omega⟩⟩
 have D:k9 m a s.Lo=k9 m b s.Lo:=by
  rw [qB,qB]
  apply List.countP_congr
  intro p hp
  simp only [cU,decide_eq_true_eq,Bool.not_eq_true',decide_eq_false_iff_not]
  exact ⟨fun q=>⟨q.1,fun e=>by have:=h.one ht hp e; rw [this] at q; omega⟩,fun q=>⟨q.1,fun e=>by have:=h.one hs hp e; rw [this] at q; omega⟩⟩
 unfold dU
 congr 1
 funext k
 rw [gi,Br (h.at hs),Br (h.at hs)]
 constructor<;>rintro ⟨x,A,B,E,F⟩<;>(have:x=s.Lo:=by omega)<;>subst this<;>exact ⟨s.Lo,A,B,I,I⟩
end
section
variable {r:bT} {a b i:Int} {s t:aa}
/-- what is known of two sleds that have sums -/
structure O8 (r:bT) (a b:Int) (s t:aa):Prop where
 ne:a≠b
 Qg:uM (aG r)
 sa:(aG r).lookup a=some s
 sb:(aG r).lookup b=some t
 ea:j6 r a=0
 eb:j6 r b=0
 va:px r a=s
 vb:px r b=t
 ra:jm r a=dU (aG r) a s
 rb:jm r b=dU (aG r) b t
 V7:vE r a b=BD s t
 LD:vE r b a=BD t s
 tied:qv r a b=rX s t
theorem Nb (he:cD r=0) (hi:sH r i) (hl:(aG r).lookup i=some s):j6 r i=0∧px r i=s∧jm r i=dU (aG r) i s:=by
 have h:j6 r i=0:=by unfold j6; rw [if_pos he,if_pos hi,hl]; rfl
 have A:aF (aG r) i=s:=by unfold aF; rw [hl]; rfl
 exact ⟨h,by unfold px; rw [if_pos h,A],by rw [yW h,A]⟩
theorem O8.tie (h:O8 r a b s t) (e:qv r a b=2):s=t∧s.Lo=s.Hi∧jm r a=jm r b∧vE r a b=0∧vE r b a=0:=by
 rw [h.tied] at e
 unfold rX at e
 split at e
 ·rename_i q
  obtain ⟨rfl,q⟩:=q
  have hb:BD s s=0:=by unfold BD; rw [if_neg I,if_neg I]
  exact ⟨U,q,by rw [h.ra,h.rb,Iy h.Qg h.sa h.sb q],h.V7.trans hb,h.LD.trans hb⟩
 ·split at e<;>cases e
end
end
section
section
variable {r:bT} {h i:Nat} {ht:List aw} {d:aw} {bl:List Int} {n:Int} {out:Bool}
structure KY (r:bT) (h i:Nat) (d:aw):Prop where
 off:d.Out=true→mV r ↑h ↑i=6
 on:d.Out=false→mV r ↑h ↑i=0∧iA r ↑h ↑i=dI r.ao d
 b:0≤(iA r ↑h ↑i).Lo∧(iA r ↑h ↑i).Lo≤(iA r ↑h ↑i).Hi∧(iA r ↑h ↑i).Hi≤86400000
 at_:(r.an[h]?).bind (·[i]?)=some d
theorem KY.same (q:KY r h i d):d.Out=decide (mV r ↑h ↑i=6):=by
 cases ho:d.Out with
 |true=>rw [q.off ho]; rfl
 |false=>rw [(q.on ho).1]; rfl
end
/-- the sums of the first sleds -/
noncomputable def j1 (r:bT) (i:Nat):g8:=(List.range i).filterMap fun q=>(ff r.ao r.an q r.an.length).map fun s=>((q:Int),s)
section
variable {r:bT} {i:Nat} {k:Int}
theorem vw:j1 r (i+1)=j1 r i++((ff r.ao r.an i r.an.length).map fun s=>((i:Int),s)).toList:=by
 unfold j1
 rw [List.range_succ,List.filterMap_append]
 cases h:ff r.ao r.an i r.an.length<;>simp [h]
theorem Eh:(j1 r i).lookup (i:Int)=none:=by
 rw [gU]
 intro p hp e
 unfold j1 at hp
 obtain ⟨q,hq,A⟩:=List.mem_filterMap.1 hp
 obtain ⟨s,_,rfl⟩:=Option.map_eq_some_iff.1 A
 have:=List.mem_range.1 hq
 simp only at e; omega
theorem Bn (hi:i<r.aL.length):(aG r).lookup (i:Int)=ff r.ao r.an i r.an.length:=by unfold aG; rw [Ca,if_pos hi]
theorem BZ (he:cD r=0) (hi:sH r k):(j6 r k=0∧((aG r).lookup k).isSome=true)∨(j6 r k=6∧((aG r).lookup k).isSome=false):=by
 cases h:((aG r).lookup k).isSome with
 |true=>exact .inl ⟨F_ he hi h,rfl⟩
 |false=>exact .inr ⟨zu he hi h,rfl⟩
theorem BU (he:cD r=0) (hi:i<r.aL.length) (h:j6 r (i:Int)=0):dW (j1 r i) (i:Int) (px r (i:Int))=j1 r (i+1):=by
 obtain ⟨_,A,hl⟩:=uI h
 obtain ⟨s,hs⟩:=Option.ne_none_iff_exists'.1 hl
 have e:ff r.ao r.an i r.an.length=some s:=(Bn hi).symm.trans hs
 have hv:=(Nb he A hs).2.1
 rw [vw,e,hv]
 unfold dW; rw [Eh]; rfl
theorem zP (he:cD r=0) (hi:i<r.aL.length) (h: ¬ j6 r (i:Int)=0):j1 r i=j1 r (i+1):=by
 have A:sH r (i:Int):=by unfold sH; omega
 rcases BZ he A with ⟨C,_⟩|⟨_,B⟩
 ·exact absurd C h
 ·rw [Bn hi] at B
  rw [vw,Option.isSome_eq_false_iff.1 B |> Option.isNone_iff_eq_none.1]
  simp
end
end
section
def iK (key pos:Int→Int) (a b:Int):Prop:=key a<key b∨(key a=key b∧pos a<pos b)
section
variable {key pos:Int→Int} {L D acc:List Int} {x:Int} {r:bT}
theorem D3 (h:L.Pairwise (iK key pos)) (hp: ∀ y∈L,pos y<pos x):(uc key L x).Pairwise (iK key pos):=by
 have hu:C4 key L:=by unfold C4; exact h.imp fun q=>by unfold iK at q; omega
 obtain ⟨A,B,rfl,hA,hB⟩:=w5 x hu
 rw [sK hA hB]
 rw [List.pairwise_append] at h ⊢
 refine ⟨h.1,List.pairwise_cons.2 ⟨fun y hy=> .inl (hB y hy),h.2.1⟩,fun y hy z hz=>?_⟩
 rcases bx.1 hz with rfl|hz
 ·have C:=hA y hy
  have D:=hp y (List.mem_append_left _ hy)
  unfold iK
  omega
 ·exact h.2.2 y hy z hz
theorem xe: ∀ {D acc:List Int},acc.Pairwise (iK key pos)→(∀ y∈acc,∀ x∈D,pos y<pos x)→D.Pairwise (fun a b=>pos a<pos b)→(D.foldl (uc key) acc).Pairwise (iK key pos)
 |[],acc,h,_,_=>h
 |x::D,acc,h,hp,hd=>by
  rw [List.pairwise_cons] at hd
  refine xe (D:=D) (D3 h fun y hy=>hp y hy x cm) (fun y hy z hz=>?_) hd.2
  rcases bx.1 (yS.mem_iff.1 hy) with rfl|hy
  ·exact hd.1 z hz
  ·exact hp y hy z (cV _ hz)
theorem Ho (hd:D.Pairwise fun a b=>pos a<pos b):(ek key D).Pairwise (iK key pos):=xe List.Pairwise.nil (fun y h=>by cases h) hd
theorem HM {k:Nat}:(kW k L).Perm L:=by
 unfold kW
 refine ((List.reverse_perm _).append_right _).trans ?_
 rw [List.take_append_drop]
/-- how the neighbours lie in an order that turned round -/
theorem Lf {k x:Nat} (hk:k≤L.length):(kW k L)[x]? =if x<k then L[k-1-x]? else L[x]? :=by
 unfold kW
 by_cases c:x<k
 ·rw [if_pos c,List.getElem?_append_left (by rw [List.length_reverse,List.length_take]; omega),List.getElem?_reverse (by rw [List.length_take]; omega),List.getElem?_take]
  rw [List.length_take,Nat.min_eq_left hk,if_pos I]
 ·rw [if_neg c,List.getElem?_append_right (by rw [List.length_reverse,List.length_take]; omega),List.getElem?_drop]
  rw [List.length_reverse,List.length_take,Nat.min_eq_left hk]
  congr 1; omega
theorem yf {k x:Nat} {i j o:Int} (h:L.Pairwise (iK key pos)) (hk:k≤L.length) (hx:0<x) (hi:(kW k L)[x]? =some i) (hj:(kW k L)[x-1]? =some j) (ho:(kW k L)[0]? =some o):
 (x<k→iK key pos i j)∧(k<x→iK key pos j i)∧(x=k→iK key pos o i):=by
 have hp: ∀ {a b:Nat} {u v:Int},a<b→L[a]? =some u→L[b]? =some v→iK key pos u v:=fun {a b u v} A hu hv=>by
  obtain ⟨ha,rfl⟩:=aS.1 hu
  obtain ⟨hb,rfl⟩:=aS.1 hv
  exact ed.1 h a b ha hb A
 rw [Lf hk] at hi hj ho
 refine ⟨fun q=>?_,fun q=>?_,fun q=>?_⟩
 ·rw [if_pos q] at hi; rw [if_pos I] at hj
  exact hp I hi hj
 ·rw [if_neg I] at hi; rw [if_neg I] at hj
  exact hp I hj hi
 ·rw [if_neg I] at hi; rw [if_pos I] at ho
  exact hp I ho hi
end
def iq (l:List Int) (i:Nat):List (Int×Int):=((l.take i).zipIdx).map fun p=>(p.1,(p.2:Int))
def CX (l:List Int) (k:Int):Int:=((iq l l.length).lookup k).getD 0
section
variable {l:List Int} {i:Nat} {x k:Int}
theorem w4:(iq l i).map (·.1)=l.take i:=by
 unfold iq
 rw [List.map_map]
 have:((·.1)∘fun p:Int×Nat=>(p.1,(p.2:Int)))=Prod.fst:=rfl
 rw [this,List.zipIdx_map_fst]
theorem H3 (hn:l.Nodup) (hx:l[i]? =some x):dW (iq l i) x (i:Int)=iq l (i+1):=by
 have hi:=(aS.1 hx).1
 have D:(iq l i).lookup x=none:=gU.2 fun p hp e=>by
  have B:p.1∈l.take i:=by rw [← w4 (l:=l) (i:=i)]; exact bX.2 ⟨p,hp,rfl⟩
  rw [e] at B
  obtain ⟨j,hj,A⟩:=List.mem_iff_getElem.1 B
  rw [List.length_take] at hj
  rw [List.getElem_take] at A
  obtain ⟨_,C⟩:=aS.1 hx
  rw [List.nodup_iff_pairwise_ne,ed] at hn
  exact hn j i I hi I (A.trans C.symm)
 unfold dW
 rw [D]
 show iq l i++[(x,(i:Int))]=_
 unfold iq
 rw [j8 hx,List.zipIdx_append,List.map_append,List.length_take,Nat.min_eq_left I]
 simp
theorem ML (hn:l.Nodup) (hx:l[i]? =some x):CX l x=(i:Int):=by
 have hi:=(aS.1 hx).1
 have hm:(x,(i:Int))∈iq l l.length:=by
  unfold iq
  rw [List.take_length]
  exact bX.2 ⟨(x,i),List.mk_mem_zipIdx_iff_getElem?.2 hx,U⟩
 unfold CX
 rw [(jv (by rw [w4,List.take_length]; exact hn)).1 hm]; rfl
theorem PY (hn:l.Nodup):l.Pairwise fun a b=>CX l a<CX l b:=by
 rw [ed]
 intro a b ha hb A
 rw [ML hn (eM ha),ML hn (eM hb)]
 omega
end
def jz (r:bT) (h:Nat):bT:=⟨r.ao,r.aL,r.bE,r.gJ,r.an.take h⟩
section
variable {r:bT} {h:Nat}
theorem KU (he:cD r=0) (h1:1≤h) (h2:h≤r.an.length):cD (jz r h)=0:=by
 obtain ⟨hl,ho⟩:=fM he
 have hn:=ho.nh
 have:eP (jz r h):=⟨ho.num,ho.sP,by show 1≤((r.an.take h).length:Int)∧_; rw [show (jz r h).an.length=h from by show (r.an.take h).length=h; rw [List.length_take]; omega,List.length_take]; omega,ho.ids,ho.draw,fun x hx=>ho.nN x (List.mem_of_mem_take hx)⟩
 unfold cD
 rw [if_pos (show dC (jz r h).ao=0 from hl),if_pos this]
theorem zE {l:aZ} {H:List (List aw)} {q:Nat}: ∀ {n h:Nat},n≤h→ff l (H.take h) q n=ff l H q n
 |0,h,_=>rfl
 |n+1,h,hn=>by
  unfold ff
  rw [zE (n:=n) (h:=h) I,List.getElem?_take,if_pos I]
theorem tx (h2:h≤r.an.length):dB (jz r h) h=dB r h∧aG (jz r h)=dB r h:=by
 have e:dB (jz r h) h=dB r h:=by
  unfold dB
  apply l6
  intro q _
  show (ff r.ao (r.an.take h) q h).map _=_
  rw [zE (Nat.le_refl h)]
 refine ⟨e,?_⟩
 unfold aG
 rw [show (jz r h).an.length=h from by show (r.an.take h).length=h; rw [List.length_take]; omega]
 exact e
/-- the order depends on the heats before alone -/
theorem HB (he:cD r=0) (h1:1≤h) (h2:h≤r.an.length):cj (jz r h) (h:Int)=cj r (h:Int)∧gO r (h:Int)=0∧gO (jz r h) (h:Int)=0:=by
 have hc:=KU he h1 h2
 have A:(jz r h).an.length=h:=by show (r.an.take h).length=h; rw [List.length_take]; omega
 have B:gO r (h:Int)=0:=by unfold gO; rw [if_pos he,if_pos I]
 have C:gO (jz r h) (h:Int)=0:=by unfold gO; rw [if_pos hc,A,if_pos I]
 refine ⟨?_,B,C⟩
 unfold cj
 rw [if_pos B,if_pos C,if_neg I,if_neg I]
 unfold qx
 rw [Int.toNat_natCast,(tx h2).1]; rfl
end
end
section
open Go.RowKit
theorem KO {a:OA} {c e sz n:Nat} {es:List (List Value)} (hn:n≤es.length):(∀ w,(own a c e sz es).holds w→(rd a n sz (es.take n)).holds w)∧(∀ b,(rd a n sz (es.take n)).eZ b→(own a c e sz es).eZ b)∧ ∀ b,(rd a n sz (es.take n)).wf b→(own a c e sz es).wf b:=
 ⟨fun w h=>Ft (C:=[rd a es.length sz es]) (aA 0 rfl) hn w (fun A hA=>by rw [bJ.1 hA]; exact mP h),fun b h=>h.2,fun b h=>h.elim⟩
theorem O0 {X Y Z:List au} (h:Z=X++Y):(∀ w,(bw Z).holds w→(bw X).holds w)∧(∀ b,(bw X).eZ b→(bw Z).eZ b)∧ ∀ b,(bw X).wf b→(bw Z).wf b:=by
 subst h
 exact ⟨fun w q=>⟨fun A hA=>q.1 A (List.mem_append_left _ hA),(List.pairwise_append.1 q.2).1⟩,fun b ⟨A,hA,q⟩=>⟨A,List.mem_append_left _ hA,q⟩,fun b ⟨A,hA,q⟩=>⟨A,List.mem_append_left _ hA,q⟩⟩
theorem G7 {M A:Type} {f:M→A→List au} {ms:List M} {asl:List A} {n:Nat} (hl:ms.length=asl.length):aU f ms asl=aU f (ms.take n) (asl.take n)++aU f (ms.drop n) (asl.drop n):=by
 rw [← iN (by rw [List.length_take,List.length_take,hl]),List.take_append_drop,List.take_append_drop]
theorem Kg {M A B:Type} {f:M→A→B} {ms:List M} {asl:List A} {n:Nat}:(List.zipWith f ms asl).take n=List.zipWith f (ms.take n) (asl.take n):=List.take_zipWith
theorem JV {r:bT} {hz:List cy} {n:Nat} (h:qh r.an hz):qh (jz r n).an (hz.take n):=⟨by show (hz.take n).length=(r.an.take n).length; rw [List.length_take,List.length_take,h.1],fun k x a hx ha=>by
 have hx:(r.an.take n)[k]? =some x:=hx
 rw [List.getElem?_take] at hx ha
 split at hx
 ·rename_i q
  rw [if_pos q] at ha
  exact h.2 k x a hx ha
 ·cases hx⟩
theorem QR {r:bT} {az:List RA} {ha:List cy} {n:Nat} (h:eO r az ha):eO (jz r n) az (ha.take n):=⟨h.line,h.iI,h.draw,by have:=h.iH; show (r.an.take n).length≤1000000; rw [List.length_take]; omega,by show (ha.take n).length=(r.an.take n).length; rw [List.length_take,List.length_take,h.has],fun k x a hx hb=>by
 have hx:(r.an.take n)[k]? =some x:=hx
 rw [List.getElem?_take] at hx hb
 split at hx
 ·rename_i q
  rw [if_pos q] at hb
  exact h.nN k x a hx hb
 ·cases hx⟩
theorem FX {r:bT} {n:Nat} (h:n≤r.an.length):(jz r n).an.length=n:=by show (r.an.take n).length=n; rw [List.length_take]; omega
end
section
open Go.RowKit
section
variable {r:bT} {h i:Int} {t:aa} {k:Nat}
end
/-- there is a table -/
theorem AV {r:bT} (he:cD r=0): ∃ G,hO (aF (aG r)) ((aG r).map (·.1)) G∧AN G:=by
 have key: ∀ (L:List Int),C4 (fun u=>(aF (aG r) u).Lo) L→ ∀ i,i≤L.length→ ∃ G last,mL (aF (aG r)) (L.take i) G last:=fun L B i=>by
  induction i with
  |zero=>intro _; exact ⟨[],-1,GK⟩
  |succ i ih=>
   intro hi
   obtain ⟨G,last,hG⟩:=ih I
   have hx:L[i]? =some (L[i]'I):=eM _
   have C:=g0 (i:=L[i]'I) (oL he)
   by_cases hl:last<(aF (aG r) (L[i]'I)).Lo
   ·obtain ⟨g,hg⟩: ∃ g,(G++[[]])[(G++[([]:List Int)]).length-1]? =some g:=⟨_,eM sm⟩
    exact ⟨_,_,py I hx hg hG hl⟩
   ·have hp:=Gn C.1 hG hl
    obtain ⟨g,hg⟩: ∃ g,G[G.length-1]? =some g:=⟨_,eM I⟩
    exact ⟨_,_,oO I (fun u _=>(g0 (i:=u) (oL he)).2.1) B hx hg hG hl⟩
 obtain ⟨G,last,hG⟩:=key (ek (fun u=>(aF (aG r) u).Lo) ((aG r).map (·.1))) uD _ (Nat.le_refl _)
 have A:=vd hG.ok
 rw [List.take_length] at A
 exact ⟨_,qs A.1 oH,A.2⟩
theorem vr {r:bT}:(dN r).length≤1000000∧ ∀ l∈dN r,l.length≤1000000:=by
 by_cases he:cD r=0
 ·have E:(aG r).length≤5:=mu he
  have A: ∃ G,hO (aF (aG r)) ((aG r).map (·.1)) G∧AN G:=by
   refine Classical.byContradiction fun hn=>?_
   exact hn (AV he)
  obtain ⟨G,hG,hA⟩:=A
  rw [← tO he hG hA]
  have C:=hG.perm.length_eq
  rw [List.length_map] at C
  have B: ∀ G:List (List Int),(∀ g∈G,g≠[])→G.length≤G.flatten.length:=fun G=>by
   induction G with
   |nil=>intro _; simp
   |cons g G ih=>
    intro hG
    have B:=ih fun y hy=>hG y (cV _ hy)
    have D:=List.length_pos_iff.2 (hG g cm)
    simp only [List.flatten_cons,List.length_cons,List.length_append]; omega
  refine ⟨by have:=B G hG.some_; omega,fun l hl=>?_⟩
  have D:l.length≤G.flatten.length:=(List.sublist_flatten_of_mem hl).length_le
  omega
 ·rw [C5 he]; simp
theorem BJ {r:bT} {h i:Int} {t:aa}:(e8 r h i t).length≤r.aL.length:=by
 unfold e8
 split
 ·refine Nat.le_trans (List.length_filter_le _ _) ?_
  rw [gF,List.length_map]
  exact uu
 ·simp
end
section
section
variable {f:Int→aa} {g:List Int}
end
def tj (pre:List Int):List (Int×Bool):=pre.map fun k=>(k,true)
section
variable {pre:List Int} {k:Int}
theorem Gb (h:k ∉ pre):(tj pre).lookup k=none:=gU.2 fun p hp e=>by
 obtain ⟨x,hx,rfl⟩:=bX.1 hp
 exact h (by rw [← e]; exact hx)
theorem Mh (h:k ∉ pre):dW (tj pre) k true=tj (pre++[k]):=by
 unfold dW
 rw [Gb h]
 simp [tj]
end
structure ze (r:bT) (G:List (List Int)):Prop where
 ok:hO (aF (aG r)) ((aG r).map (·.1)) G
 Wk:AN G
 nd:G.flatten.Nodup
section
variable {r:bT} {G:List (List Int)} {g h:List Int} {a b x:Nat} {i k:Int}
theorem ze.nodup (ht:ze r G) (hg:G[a]? =some g):g.Nodup:=by
 have A:=ht.nd
 unfold List.Nodup at A
 rw [List.pairwise_flatten] at A
 exact A.1 g (aT hg)
theorem ze.count (ht:ze r G):G.flatten.length=(aG r).length:=by
 have:=ht.ok.perm.length_eq
 rw [List.length_map] at this; exact this
end
section
variable {r:bT} {g:List Int} {s x y:Nat} {p:Bool} {i k:Int}
end
theorem ze.small {r:bT} {G:List (List Int)} {g:List Int} {a:Nat} (ht:ze r G) (he:cD r=0) (hg:G[a]? =some g):g.length≤5:=by
 have A:=(List.sublist_flatten_of_mem (aT hg)).length_le
 have B:=ht.count
 have C:=mu he
 omega
end
section
open Go.RowKit
section
variable {P:Program} {t:TypeId} {x y:Operand}
theorem qq {e:TypeId} {a:OA} {n c:Nat} (ht:P.underlying t=some (.slice e)):iu P .eql t x y (.slice a n c) (.slice none 0 0) (.bool (decide (a=none))):=fun w=>by
 have A:(Op.equal t (.slice a n c) (.slice none 0 0)).run P w= .ok (decide (a=none)) w:=by
  unfold Op.equal
  show (Op.equalIn (9999+1) t (.slice a n c) (.slice none 0 0)).run P w=_
  unfold Op.equalIn
  cases a<;>simp [run_underlying ht]
 have B:eqGuard .eql t x y (.slice a n c) (.slice none 0 0)=pure ():=rfl
 rw [B]
 show (Sem.run P (do let b ← Op.equal t (.slice a n c) (.slice none 0 0); pure (vB b)) w)=_
 simp [A]
end
section
variable {E:fh} {ops:Array Oper} {Q:cZ} {rest:List Oper} {D:List Deferred} {L:List (Nat×Value)} {C:List au}
variable {dst:Option Tmp} {d:Nat} {ty:TypeId} {ps:String} {af:Array Edge} {g:Option (Nat×Bool)}
/-- a row that lies nowhere is empty -/
theorem mx {a:OA} {n sz:Nat} {es:List (List Value)} (hR:jc C (rd a n sz es).holds) (ha:a=none) (hz:0<sz) (k:es=[]→RJ E ops Q rest D L C):RJ E ops Q rest D L C:=fun act w hf hs=>by
 refine k ?_ act w hf hs
 obtain ⟨F,G,B⟩:=hs.has hR
 rcases Nat.eq_zero_or_pos (n*sz) with h|h
 ·have:n=0:=by
   rcases Nat.mul_eq_zero.1 h with h|h
   ·exact h
   ·omega
  exact jR I
 ·obtain ⟨ad,A,_⟩:=B h
  rw [ha] at A; cases A
theorem DU {a:OA} {c e sz:Nat} {es:List (List Value)} (i:Nat) (hC:C[i]? =some (own a c e sz es)) (k:es.length≤c→RJ E ops Q rest D L C):RJ E ops Q rest D L C:=fun act w hf hs=>
 k (AR (hs.holds _ (aT hC))) act w hf hs
theorem iM {A:au} (i:Nat) (h:C[i]? =some A.ro):jc C A.holds:=fun w hw=>by
 have B:=hw A.ro (aT h)
 exact B
/-- the end of a row is set to zero: it is no more of it -/
theorem Nz {x:Operand} {t e sz by_ k n c c':Nat} {z:Value} {a:OA} {es:List (List Value)} (i:Nat) (hg:jI ops L g=true) (hx:ev L x=some (.slice (Al a c k sz) (n-k) c')) (ht:tA E.P t=some (e,sz,by_,z)) (hz1: ∀ v∈z.cells.toList,v.oneCell'=true)
 (hC:C[i]? =some (own a c e sz es)) (hn:n=es.length) (hk:k≤n) (K:RJ E ops Q rest D L (C.set i (own a c e sz (es.take k)))):
 RJ E ops Q (⟨none,.call {callee:= .builtin .clear,args:= #[x],argTypes:= #[t]},ty,ps,af,g⟩::rest) D L C:=by
 intro act w A F
 obtain ⟨inf,hu,hi,f,h3,h4,s⟩:=Ew ht
 unfold rR
 rw [if_pos (eg A hg)]
 subst hn
 obtain ⟨W,N⟩:(own a c e sz es).holds w:=F.holds _ (aT hC)
 have B: ∀ y∈es.take k,y.length=sz:=fun y hy=>W y (List.mem_of_mem_take hy)
 have V:(es.take k).flatten=es.flatten.take (k*sz):=by
  have h:=List.take_append_drop k es
  have l:es.flatten=(es.take k).flatten++(es.drop k).flatten:=by rw [← List.flatten_append,h]
  have m:(es.take k).flatten.length=k*sz:=by rw [iR B,List.length_take]; congr 1; omega
  rw [l,← m,List.take_left]
 by_cases r:es.length-k=0
 ·have AA:es.take k=es:=List.take_of_length_le I
  refine g3 sm (w':=w) (v:= .tuple #[]) ?_ ?_
  ·rw [r] at hx
   cases hs:Al a c k sz with
   |none=>rw [hs] at hx; simp [execOp,resolve,invoke,builtin,Builtin.clear_,A.ev hx,run_underlying hu]
   |some q=>rw [hs] at hx; simp [execOp,resolve,invoke,builtin,Builtin.clear_,A.ev hx,run_underlying hu]
  ·rw [AA] at K
   exact K _ _ A (by
    have:C.set i (own a c e sz es)=C:=by
     apply List.ext_getElem?
     intro q
     rw [List.getElem?_set]
     by_cases j:i=q
     ·subst j; rw [if_pos rfl,if_pos (aS.1 hC).1,hC]
     ·rw [if_neg j]
    rw [this]; exact F)
 ·rcases N.2 with ⟨l,m⟩|⟨gg,cap,cur,hv,AC,M,Y,T,J,G⟩
  ·omega
  ·injection hv with Z AO d
   subst Z d
   have R:Al (some (⟨gg,0,none⟩:Addr)) c k sz=some ⟨gg,k*sz,none⟩:=by
    unfold Al; rw [if_neg I]; simp [Addr.add_lit]
   rw [R] at hx
   have H:(Builtin.zeroCells z.cells (es.length-k)).toList.length=(es.length-k)*sz:=by
    rw [Array.length_toList,size_zeroCells,s]
   have p:k*sz+(es.length-k)*sz=es.length*sz:=by rw [← Nat.add_mul]; congr 1; omega
   have o:es.length*sz≤cur.size:=by rw [J]; exact Nat.mul_le_mul_right _ Y
   have h1': ∀ v∈(Builtin.zeroCells z.cells (es.length-k)).toList,v.oneCell'=true:=fun v hv=>by
    refine hz1 v ?_
    simp [Builtin.zeroCells] at hv
    obtain ⟨q,hq,hv⟩:=hv
    have O:0<z.cells.size:=by
     rcases Nat.eq_zero_or_pos z.cells.size with AB|AB
     ·rw [AB] at hq; simp at hq
     ·exact AB
    have X:q % z.cells.size<z.cells.size:=Nat.mod_lt _ O
    rw [getElem!_pos z.cells _ X] at hv
    rw [← hv]; simp
   have hst':=run_storeCells_at E.P gg (k*sz) e (Builtin.zeroCells z.cells (es.length-k)).toList 0 cur w M (by rw [H]; omega) h1'
   simp only [Nat.add_zero] at hst'
   obtain ⟨q,hq⟩: ∃ q,es.length-k=q+1:=⟨es.length-k-1,I⟩
   refine g3 sm (w':=w.setRow gg (cur.toList.take (k*sz)++(Builtin.zeroCells z.cells (es.length-k)).toList++cur.toList.drop (k*sz+(Builtin.zeroCells z.cells (es.length-k)).toList.length)).toArray) (v:= .tuple #[]) ?_ ?_
   ·rw [hq] at hx hst' ⊢
    simp [execOp,resolve,invoke,builtin,Builtin.clear_,A.ev hx,run_underlying hu,zeroValue,typeInfo,hi,f,hst']
   ·refine K _ _ A ?_
    refine F.move i hC (row:=some gg) (fun b hb=>by cases hb; exact ⟨_,rfl,rfl⟩) rfl ⟨rfl,rfl,rfl,sm,fun k' _ hk'=>setRow_other w gg k' _ (fun e=>hk' (by simp [e]))⟩ (fun y hy=>by
     obtain ⟨ad,AB,rfl⟩:=hy
     cases AB; exact .inl rfl) ?_
    refine ⟨B,?_,.inr ⟨gg,c,_,U,Nat.zero_le _,setRow_heap w gg cur _ e _ M,?_,T,?_,?_⟩⟩
    ·exact iR B
    ·rw [List.length_take]; omega
    ·simp only [List.size_toArray,List.length_append,List.length_take,List.length_drop,Array.length_toList,H]
     have:=J
     simp only [Array.length_toList] at H
     omega
    ·have u:(es.take k).length*sz=k*sz:=by rw [List.length_take]; congr 1; omega
     have S:(cur.toList.take (k*sz)).length=k*sz:=by rw [List.length_take,Array.length_toList]; omega
     rw [u,V,← G,List.take_take,Nat.min_eq_left I]
     show List.take (k*sz) (_++_++_)=_
     rw [List.append_assoc,List.take_left' S]
end
end
section
open Go.RowKit
section
variable {r:bT} {n q:Nat} {x:Int}
theorem Et:(dB r n).lookup (q:Int)=if q<r.aL.length then ff r.ao r.an q n else none:=nx _ _
end
section
variable {key:Int→Int} {l D:List Int} {x y u:Int} {k n i:Nat}
end
end
section
instance {key pos:Int→Int} {a b:Int}:Decidable (iK key pos a b):=by unfold iK; infer_instance
noncomputable def Hq (r:bT) (n:Nat):Int→Int:=fun u=>(aF (aG (jz r n)) u).Hi
section
variable {r:bT} {n x k:Nat} {i j o:Int}
theorem pP (h:eP r):r.bE.Nodup:=by
 rw [h.draw.nodup_iff,List.nodup_iff_pairwise_ne,List.pairwise_map]
 have hr:(List.range r.aL.length).Pairwise (· ≠ ·):=by rw [← List.nodup_iff_pairwise_ne]; exact List.nodup_range
 exact hr.imp fun q e=>q I
/-- what the order is made of -/
noncomputable def yw (r:bT) (n:Nat):List Int:=ek (Hq r n) (r.bE.filter fun u=>((dB r n).lookup u).isSome)
theorem El (he:cD r=0) (h1:1≤n) (h2:n≤r.an.length):cj r (n:Int)=kW (min r.gJ.toNat (yw r n).length) (yw r n):=by
 rw [qP (lT he I) I]
 unfold qx yw Hq
 rw [(tx h2).2]
theorem wy (he:cD r=0) (h1:1≤n) (h2:n≤r.an.length):(cj r (n:Int)).Perm (r.bE.filter fun u=>((dB r n).lookup u).isSome):=by
 rw [El he h1 h2]
 exact HM.trans oH
theorem zt (he:cD r=0):(yw r n).Pairwise (iK (Hq r n) (CX r.bE)):=
 Ho ((PY (pP (fM he).2)).sublist List.filter_sublist)
theorem BX:(dB r n).map (·.1)=((List.range r.aL.length).map fun (k:Nat)=>(k:Int)).filter fun u=>((dB r n).lookup u).isSome:=by
 have hk: ∀ q,q<r.aL.length→(dB r n).lookup (q:Int)=ff r.ao r.an q n:=fun q hq=>by
  have:=Et (r:=r) (n:=n) (q:=q)
  rwa [if_pos hq] at this
 rw [List.filter_map]
 have e:(List.range r.aL.length).filter ((fun u=>((dB r n).lookup u).isSome)∘fun (k:Nat)=>(k:Int))=(List.range r.aL.length).filter fun q=>(ff r.ao r.an q n).isSome:=by
  apply List.filter_congr
  intro q hq
  simp only [Function.comp_def]
  rw [hk q (List.mem_range.1 hq)]
 rw [e]
 unfold dB
 generalize List.range r.aL.length=L
 induction L with
 |nil=>rfl
 |cons q L ih=>
  cases hs:ff r.ao r.an q n with
  |none=>rw [List.filterMap_cons_none (by rw [hs]; rfl),ih,List.filter_cons_of_neg (by rw [hs]; decide)]
  |some s=>rw [List.filterMap_cons_some (b:=((q:Int),s)) (by rw [hs]; rfl),List.map_cons,ih,List.filter_cons_of_pos (by rw [hs]; rfl),List.map_cons]
theorem OO (he:cD r=0) (h1:1≤n) (h2:n≤r.an.length):(cj r (n:Int)).length=(aG (jz r n)).length:=by
 rw [(wy he h1 h2).length_eq,(tx h2).2,← (show ((dB r n).map (·.1)).length=(dB r n).length from List.length_map _),BX]
 exact ((fM he).2.draw.filter _).length_eq
theorem Ig (he:cD r=0) (h1:1≤n) (h2:n≤r.an.length):(cj r (n:Int)).Nodup:=by
 rw [(wy he h1 h2).nodup_iff]
 exact (pP (fM he).2).sublist List.filter_sublist
theorem Ly (he:cD r=0) (h1:1≤n) (h2:n≤r.an.length) (hi:(cj r (n:Int))[x]? =some i):((aG (jz r n)).lookup i).isSome=true:=by
 have h:=(wy he h1 h2).mem_iff.1 (aT hi)
 rw [(tx h2).2]
 exact (List.mem_filter.1 h).2
theorem Ga (he:cD r=0) (h1:1≤n) (h2:n≤r.an.length) (hi:(cj r (n:Int))[x]? =some i):i ∉ (cj r (n:Int)).take x:=fun hm=>by
 have hd:=Ig he h1 h2
 obtain ⟨q,hq⟩:=List.mem_iff_getElem?.1 hm
 rw [List.getElem?_take] at hq
 split at hq
 ·rename_i c
  obtain ⟨A,B⟩:=aS.1 hq
  obtain ⟨C,D⟩:=aS.1 hi
  rw [List.nodup_iff_pairwise_ne,ed] at hd
  exact hd q x A C c (B.trans D.symm)
 ·cases hq
theorem iQ (he:cD r=0) (h1:1≤n) (h2:n≤r.an.length) (hk:min r.gJ ((cj r (n:Int)).length:Int)=(k:Int)) (hx:0<x) (hi:(cj r (n:Int))[x]? =some i) (hj:(cj r (n:Int))[x-1]? =some j):
 ((x:Int)<(k:Int)→iK (Hq r n) (CX r.bE) i j)∧((k:Int)<(x:Int)→iK (Hq r n) (CX r.bE) j i):=by
 have e:=El he h1 h2
 have A:min r.gJ.toNat (yw r n).length=k:=by
  have hl:(cj r (n:Int)).length=(yw r n).length:=by rw [e,iS]
  have:=(fM he).2.sP
  omega
 rw [A] at e
 rw [e] at hi hj
 obtain ⟨o,ho⟩: ∃ o,(kW k (yw r n))[0]? =some o:=⟨_,eM (by have:=(aS.1 hi).1; omega)⟩
 have h:=yf (zt he) I hx hi hj ho
 exact ⟨fun q=>h.1 I,fun q=>h.2.1 I⟩
theorem po (he:cD r=0) (h1:1≤n) (h2:n≤r.an.length) (hk:min r.gJ ((cj r (n:Int)).length:Int)=(k:Int)) (hx:0<x) (hi:(cj r (n:Int))[x]? =some i) (ho:(cj r (n:Int))[0]? =some o) (hxk:(x:Int)=(k:Int)):iK (Hq r n) (CX r.bE) o i:=by
 have e:=El he h1 h2
 have A:min r.gJ.toNat (yw r n).length=k:=by
  have hl:(cj r (n:Int)).length=(yw r n).length:=by rw [e,iS]
  have:=(fM he).2.sP
  omega
 rw [A] at e
 rw [e] at hi ho
 obtain ⟨j,hj⟩: ∃ j,(kW k (yw r n))[x-1]? =some j:=⟨_,eM (by have:=(aS.1 hi).1; omega)⟩
 exact (yf (zt he) I hx hi hj ho).2.2 I
end
section
variable {E:fh} {c:Code} {Q:cZ} {D:List Deferred} {L:List (Nat×Value)} {C C':List au}
theorem Ko {A B:au} (i:Nat) (hC:C[i]? =some A) (hh:(∀ w,A.holds w→B.holds w)∧(∀ b,B.eZ b→A.eZ b)∧ ∀ b,B.wf b→A.wf b) (hC':MJ C i B=some C') (h:WJ E c Q D L C'):WJ E c Q D L C:=fun a w hf hs=>h a w hf ((Ad hC')▸hs.imp i hC hh.1 hh.2.1 hh.2.2)
theorem Iv {r:bT} {a:OA} {ca e n:Nat} {hz:List cy} (h:hz.length=r.an.length) (hn:n≤r.an.length):(∀ w,(own a ca e 1 (List.zipWith ct r.an hz)).holds w→(rd a (jz r n).an.length 1 (List.zipWith ct (jz r n).an (hz.take n))).holds w)∧(∀ b,(rd a (jz r n).an.length 1 (List.zipWith ct (jz r n).an (hz.take n))).eZ b→(own a ca e 1 (List.zipWith ct r.an hz)).eZ b)∧ ∀ b,(rd a (jz r n).an.length 1 (List.zipWith ct (jz r n).an (hz.take n))).wf b→(own a ca e 1 (List.zipWith ct r.an hz)).wf b:=by
 rw [FX hn,show List.zipWith ct (jz r n).an (hz.take n)=(List.zipWith ct r.an hz).take n from Kg.symm]
 exact KO (by rw [dx h]; exact hn)
end
end
section
open Go.RowKit
section
variable {K:Type} [DecidableEq K] {kV:K→Value}
variable {E:fh} {ops:Array Oper} {Q:cZ} {rest:List Oper} {D:List Deferred} {L:List (Nat×Value)} {C:List au}
variable {ty:TypeId} {ps:String} {af:Array Edge} {g:Option (Nat×Bool)}
theorem pS {t kt et:TypeId} {xm xk:Operand} {ts:Array TypeId} {b:Nat} {x:K} {m m':List (K×Value)} {C':List au} (i:Nat) (hg:jI ops L g=true) (hm:ev L xm=some (.map (some b))) (hk:ev L xk=some (kV x)) (hts:ts[0]? =some t)
 (ht:E.P.underlying t=some (.map kt et)) (hkt:uz E.P kt kV) (hC:C[i]? =some (g_ kV b m)) (hm':cG m x=m') (hC':C.set i (g_ kV b m')=C') (k:RJ E ops Q rest D L C'):
 RJ E ops Q (⟨none,.call {callee:= .builtin .delete,args:= #[xm,xk],argTypes:=ts},ty,ps,af,g⟩::rest) D L C:=by
 subst hm' hC'
 intro a w A hs
 unfold rR
 rw [if_pos (eg A hg)]
 obtain ⟨es,c,he,hi⟩:=hs.holds _ (aT hC)
 have B:(getObj b).run E.P w= .ok (.map es c) w:=MapKept.run_getObj_map he
 rcases pg (P:=E.P) (w:=w) (x:=x) hkt hi with ⟨F,G⟩|⟨j,AA,F,G,H⟩
 ·refine g3 (v:= .tuple #[]) (w':={w with heap:=w.heap.setIfInBounds b (.map es c)}) sm ?_ ?_
  ·simp [execOp,resolve,invoke,builtin,A.ev hm,A.ev hk,Builtin.delete_,hts,run_underlying ht,B,i_ hkt,F,MapKept.run_setObj_map _ he]
  ·refine k _ _ ⟨A.defers,A.size,A.at_⟩ (hs.Dz (b:=b) i hC U U (nj _) (fun _ h=>h) ⟨_,_,pj he,?_⟩)
   rw [D_ G]; exact hi
 ·refine g3 (v:= .tuple #[]) (w':={w with heap:=w.heap.setIfInBounds b (.map (es.eraseIdxIfInBounds j) c)}) sm ?_ ?_
  ·simp [execOp,resolve,invoke,builtin,A.ev hm,A.ev hk,Builtin.delete_,hts,run_underlying ht,B,i_ hkt,F,MapKept.run_setObj_map _ he]
  ·exact k _ _ ⟨A.defers,A.size,A.at_⟩ (hs.Dz (b:=b) i hC U U (nj _) (fun _ h=>h) ⟨_,_,pj he,hi.del G⟩)
end
end
section
open Go.RowKit
theorem pb (n lo hi:Int):
 ep Tryz.prog 149 [(vI n),(vI lo),(vI hi)] [] (vB (decide (lo≤n∧n≤hi))):=by
 refine bG kr Tryz.func149 U U fun D Q hQ hN=>?_
 try dsimp only
 refine WS fun _ B=>bh 1 U<|RK B<|WS fun _ A=>rP 4 [] mn ?_
 refine dh (t:=10) U (aN fun C=>?_) (aO fun C=>?_)
 ·refine rP 5 [] mn ?_
  refine RK A<|aq<|Q1 hQ U U U ?_
  exact cB (gi.2 I)
 refine rP 5 [] mn ?_
 refine RK A<|aq<|Q1 hQ U U U ?_
 exact cB (cq I).symm
theorem FZ (r:cJ) (sgA:OA) (sgC:Nat):
 ep Tryz.prog 177 [(vA (dY.cells (lQ r sgA sgC)))] [(rd sgA r.ah.length 2 (r.ah.map aK.cells))] (vB (decide (mB r))):=by
 refine bG kr Tryz.func177 U U fun F Q hQ hN=>?_
 try dsimp only
 refine WS fun _ B=>fQ U fun E=>bh 1 U<|RK B<|WS fun _ A=>rP 4 [] (mc 0 U mn) ?_
 refine bY (t:=6) U (aO fun C=>?_) (aN fun C=>?_)
 ·refine rP 11 [] mn ?_
  refine RK A<|aq<|Q1 hQ U U U ?_
  simp only [mB]
  exact cB (cq I).symm
 refine rP 5 [] (mc 0 U mn) ?_
 refine bY (t:=11) U (aO fun D=>?_) (aN fun D=>?_)
 ·refine rP 6 [] mn ?_
  refine RK A<|aq<|Q1 hQ U U U ?_
  simp only [mB]
  exact cB (cq I).symm
 refine rP 6 [] (mc 0 U mn) ?_
 refine RK A<|aq<|Q1 hQ U U U ?_
 simp only [mB]
 exact cB (gi.2 I)
theorem Ny (s:aa):
 ep Tryz.prog 22 [(vA (aa.cells s))] [] (vB (decide (iW s))):=by
 refine bG kr Tryz.func22 U U fun F Q hQ hN=>?_
 try dsimp only
 refine WS fun _ B=>fQ U fun E=>bh 1 U<|RK B<|WS fun _ A=>rP 4 [] (mc 0 U mn) ?_
 refine bY (t:=6) U (aO fun C=>?_) (aN fun C=>?_)
 ·refine rP 12 [] mn ?_
  refine RK A<|aq<|Q1 hQ U U U ?_
  simp only [iW]
  exact cB (cq I).symm
 refine rP 7 [] (mc 0 U mn) ?_
 refine bY (t:=13) U (aO fun D=>?_) (aN fun D=>?_)
 ·refine rP 5 [] mn ?_
  refine RK A<|aq<|Q1 hQ U U U ?_
  simp only [iW]
  exact cB (cq I).symm
 refine rP 5 [] (mc 0 U mn) ?_
 refine RK A<|aq<|Q1 hQ U U U ?_
 simp only [iW]
 exact cB (gi.2 I)
theorem kX (la:List Int) (laA:OA) (laC:Nat) (lb:List Int) (lbA:OA) (lbC:Nat) (h1:la.length≤1000000) (h2:lb.length≤1000000):
 ep Tryz.prog 10 [(vS laA la.length laC),(vS lbA lb.length lbC)] [(rd laA la.length 1 (la.map iC)),(rd lbA lb.length 1 (lb.map iC))] (vB (decide (la=lb))):=by
 refine bG kr Tryz.func10 U U fun V Q hQ hN=>?_
 try dsimp only
 refine WS fun _ J=>bh 1 U<|RK J<|aj fun _ K=>WS fun _ L=>rP 5 [] mn ?_
 refine RK L<|cH U (bu fun hl=>?_) (br fun hl=>?_)
 ·refine WS fun _ M=>rP 1 [] mn ?_
  refine RK M<|aq<|Q1 hQ U U U ?_
  exact cB (cq (fun e=>by subst e; omega)).symm
 refine WK K<|aj fun _ N=>WS fun _ O=>rP 1 [] mn ?_
 refine RK O<|ax ?_
 have A:(0≤la.length)∧(la.take 0=lb.take 0):=by simp
 refine bL (ι:={z:Nat // (z≤la.length)∧(la.take z=lb.take z)}) [0,1] [0,1] U U (fun z=>[(5,(vI (z.1:Int)))]) (fun z=>[]) (fun _=>rfl) (fun _=>rfl) (fun z=>la.length-z.1) ⟨0,A⟩ (aV U) (aH [0,1]) ?_
 clear A
 rintro ⟨i,⟨S,B⟩⟩ J7 AB
 try dsimp only
 refine aj fun _ P=>WS fun _ R=>rP 4 [] mn ?_
 refine RK R<|bQ U (aO fun H=>?_) (aN fun H=>?_)
 ·refine bD<|ab<|ab<|ay<|KK N<|WS fun _ F=>rP 1 [] mn ?_
  refine RK F<|aq<|Q1 hQ U U U ?_
  exact cB (fR (nU I B I)).symm
 refine WK P<|aj fun _ C=>ax<|aj fun _ D=>dK cE 9 kr<|dP 2 [] mn ?_
 obtain ⟨x,hx⟩:=aJ la i I
 have T:=bK iC hx
 refine dS (IA i U (aA 0 U) cw dc I I)<|dS (fT i 0 (vI x) U cd (aA 0 U) T U dc U)<|dP 2 [] mn ?_
 obtain ⟨y,hy⟩:=aJ lb i I
 have AA:=bK iC hy
 refine dS (IA i U (aA 1 U) cw dc I I)<|dS (fT i 0 (vI y) U cd (aA 1 U) AA U dc U)<|dP 1 [] mn ?_
 refine cR<|RK D<|cH U (bu fun h=>?_) (br fun h=>?_)
 ·refine WS fun _ E=>rP 1 [] mn ?_
  refine RK E<|aq<|Q1 hQ U U U ?_
  exact cB (cq (nH hx hy h)).symm
 refine bZ<|aB<|KK C<|ak<|rP 3 [] mn ?_
 refine aC ?_
 have G:(vI (((i+1):Nat):Int))=(vI ((i:Int)+1)):=by exact cI I
 refine aR (AB ⟨(i+1),⟨I,u0 B hx hy h⟩⟩ _ _ _ U os (du.cons U<|du.cons U<|aY U G<|du.nil _) (aH [0,1]))
end
section
open Go.RowKit
theorem o4 (n lo hi:Int):
 ep Tryz.prog 89 [(vI n),(vI lo),(vI hi)] [] (vB (decide (lo≤n∧n≤hi))):=by
 refine bG kr Tryz.func89 U U fun D Q hQ hN=>?_
 try dsimp only
 refine WS fun _ B=>bh 1 U<|RK B<|WS fun _ A=>rP 4 [] mn ?_
 refine dh (t:=10) U (aN fun C=>?_) (aO fun C=>?_)
 ·refine rP 5 [] mn ?_
  refine RK A<|aq<|Q1 hQ U U U ?_
  exact cB (gi.2 I)
 refine rP 5 [] mn ?_
 refine RK A<|aq<|Q1 hQ U U U ?_
 exact cB (cq I).symm
theorem pO (s:aa) (lo hi:Int):
 ep Tryz.prog 90 [(vA (aa.cells s)),(vI lo),(vI hi)] [] (vB (decide (s.Lo≤s.Hi∧lo≤s.Lo∧s.Hi≤hi))):=by
 refine bG kr Tryz.func90 U U fun E Q hQ hN=>?_
 try dsimp only
 refine WS fun _ B=>fQ U fun D=>bh 1 U<|RK B<|WS fun _ A=>fu 5 [] (mc 0 U mn) U<|rS (CL (o4 s.Lo lo s.Hi) (aI) U)<|rP 1 [] mn ?_
 refine bY (t:=13) U (aO fun C=>?_) (aN fun C=>?_)
 ·refine rP 6 [] mn ?_
  refine RK A<|aq<|Q1 hQ U U U ?_
  exact cB (cq I).symm
 refine rP 6 [] (mc 0 U mn) ?_
 refine RK A<|aq<|Q1 hQ U U U ?_
 exact cB (gi.2 I)
theorem Nd (t:List al) (tA:OA) (tC:Nat):
 ep Tryz.prog 55 [(vA (bB.cells (bB.mk (bo.mk tA t.length tC))))] [(rd tA t.length 9 (t.map al.cells))] (vB (decide (20<(t.length:Int)))):=by
 refine bG kr Tryz.func55 U U fun D Q hQ hN=>?_
 try dsimp only
 refine WS fun _ A=>fQ U fun C=>bh 1 U<|RK A<|WS fun _ B=>rP 5 [] (mc 0 U mn) ?_
 refine RK B<|aq ?_
 exact Q1 hQ U U U U
theorem On (l:List Int) (lA:OA) (lC:Nat) (f:Value) (p:Int→Bool) (X:au) (hf: ∀ x0,x0∈l→DO Tryz.prog f [.int .i64 x0] [X] (.bool (p x0))) (hlen:l.length≤1000000):
 ep Tryz.prog 115 [(vS lA l.length lC),f] [(rd lA l.length 1 (l.map iC)),X] (vI (tY p l)):=by
 refine bG kr Tryz.func115 U U fun R Q hQ hN=>?_
 try dsimp only
 refine WS fun _ G=>bh 1 U<|RK G<|aj fun _ H=>WS fun _ AA=>rP 3 [] mn ?_
 refine RK AA<|ax ?_
 have B:(0≤l.length)∧((l.take 0).any p=false):=by simp
 refine bL (ι:={z:Nat // (z≤l.length)∧((l.take z).any p=false)}) [0,1,7] [0,1] U U (fun z=>[(8,(vI (z.1:Int)))]) (fun z=>[]) (fun _=>rfl) (fun _=>rfl) (fun z=>l.length-z.1) ⟨0,B⟩ (aV U) (aH [0,1]) ?_
 clear B
 rintro ⟨i,⟨N,A⟩⟩ J4 F
 try dsimp only
 refine WS fun _ J=>rP 1 [] mn ?_
 refine RK J<|aj fun _ K=>bQ U (aO fun P=>?_) (aN fun P=>?_)
 ·refine bD<|ab<|ab<|ay<|KK H<|WS fun _ E=>rP 1 [] mn ?_
  refine RK E<|aq<|Q1 hQ U U U ?_
  exact cI (sM I A).symm
 refine WK K<|aj fun _ L=>ax<|WS fun _ M=>bh 2 U<|RK M<|WS fun _ C=>rP 3 [] mn ?_
 obtain ⟨x,hx⟩:=aJ l i I
 have O:=bK iC hx
 refine rS (IA i U (aA 0 U) cw dc I I)<|rS (fT i 0 (vI x) U cd (aA 0 U) O U dc U)<|rS (SX (sD U U U (hf x (aT hx)) (bg [1])) U U)<|RK C<|cH U (fun hp=>?_) (fun hp=>?_)
 ·refine WS fun _ D=>rP 2 [] mn ?_
  refine RK D<|aq<|Q1 hQ U U U ?_
  exact cI (xp hx hp A).symm
 refine bZ<|aB<|KK L<|ak<|rP 2 [] mn ?_
 refine aC ?_
 refine aR (F ⟨(i+1),⟨I,xb hx A hp⟩⟩ _ _ _ U os (aV U) (aH [0,1]))
theorem sw (l:List Int) (lA:OA) (lC:Nat) (f:Value) (p:Int→Bool) (X:au) (hf: ∀ x0,x0∈l→DO Tryz.prog f [.int .i64 x0] [X] (.bool (p x0))) (hlen:l.length≤1000000):
 ep Tryz.prog 76 [(vS lA l.length lC),f] [(rd lA l.length 1 (l.map iC)),X] (vB (l.any p)):=by
 refine bG kr Tryz.func76 U U fun C Q hQ hN=>?_
 try dsimp only
 refine WS fun _ A=>bh 1 U<|RK A<|WS fun _ B=>bh 2 U<|rS (CL (On l lA lC f p X (by exact hf) hlen) (bg [0,1]) U)<|rP 2 [] mn ?_
 refine RK B<|aq<|Q1 hQ U U U ?_
 exact cB uw
theorem G4 (n lo hi:Int) (g1 g2:Nat):
 ep Tryz.prog 179 [(vI n),(vP g1),(vP g2)] [(cb g1 3 [(vI lo)]),(cb g2 3 [(vI hi)])] (vB (decide (n<lo∨hi<n))):=by
 refine bG kr Tryz.func179 U U fun D Q hQ hN=>?_
 try dsimp only
 refine WS fun _ B=>bh 1 U<|RK B<|WS fun _ A=>rP 4 [] (mr 0 U mn) ?_
 refine dh (t:=8) U (aN fun C=>?_) (aO fun C=>?_)
 ·refine rP 5 [] mn ?_
  refine RK A<|aq<|Q1 hQ U U U ?_
  exact cB (fR I).symm
 refine rP 5 [] (mr 1 U mn) ?_
 refine RK A<|aq<|Q1 hQ U U U ?_
 exact cB (gi.2 I)
theorem o8 (lo hi:Int) (l:List Int) (lA:OA) (lC:Nat) (hlen:l.length≤1000000):
 ep Tryz.prog 151 [(vI lo),(vI hi),(vS lA l.length lC)] [(rd lA l.length 1 (l.map iC))] (vB (p8 lo hi l)):=by
 refine bG kr Tryz.func151 U U fun F Q hQ hN=>?_
 try dsimp only
 refine WS fun _ D=>uC U U fun A=>uC U U fun B=>bh 1 U<|RK D<|WS fun _ E=>rP 1 [] mn ?_
 refine rS (FU U) ?_
 refine rS (CL (sw l lA lC (Value.func (.func 179) [].toArray [(vP A),(vP B)].toArray) (fun C=>(decide (C<lo∨hi<C))) (fc [(cb A 3 [(vI lo)]),(cb B 3 [(vI hi)])]) (by intro C _; exact nZ (fi:=[]) (ca:=[(vP A),(vP B)]) (mm (G4 C lo hi A B) (bg [0,1]))) hlen) (fj 2 U U<|av (mh (bg [1,0]))<|aI) U) ?_
 refine rP 2 [] mn ?_
 refine RK E<|aq ?_
 exact Q1 hQ U U U U
theorem we (s:aa) (lo hi:Int):
 ep Tryz.prog 152 [(vA (aa.cells s)),(vI lo),(vI hi)] [] (vB (decide (s.Lo≤s.Hi∧lo≤s.Lo∧s.Hi≤hi))):=by
 refine bG kr Tryz.func152 U U fun F Q hQ hN=>?_
 try dsimp only
 refine WS fun _ B=>fQ U fun E=>bh 1 U<|RK B<|WS fun _ A=>rP 6 [] (mc 0 U mn) ?_
 refine df (xs:=[.tmp 10,.tmp 12]) (cs:=[(vI s.Lo),(vI s.Hi)]) U cw js U U U U (by simp [Value.cells]) U U fun C=>?_
 refine rS (CL (ep.eq (o8 lo hi ([s.Lo,s.Hi]) (some ⟨C,0,none⟩) 2 (by (simp; done))) re) (av (bf 0 U U (by simp [bI]) U)<|aI) U) ?_
 refine rP 1 [] mn ?_
 refine bY (t:=15) U (aO fun D=>?_) (aN fun D=>?_)
 ·refine rP 7 [] mn ?_
  refine RK A<|aq<|Q1 hQ U U U ?_
  exact cB (cq I).symm
 refine rP 7 [] (mc 1 U mn) ?_
 refine RK A<|aq<|Q1 hQ U U U ?_
 exact cB (gi.2 I)
theorem v8 (ts:List al) (tsA:OA) (tsC:Nat) (hlen:ts.length≤1000000):
 ep Tryz.prog 56 [(vA (bB.cells (bB.mk (bo.mk tsA ts.length tsC))))] [(rd tsA ts.length 9 (ts.map al.cells))] (vB (c_ ts)):=by
 refine bG kr Tryz.func56 U U fun w0 Q hQ hN=>?_
 try dsimp only
 refine WS fun _ Di=>fQ U fun b2=>bh 1 U<|RK Di<|aj fun _ Dk=>WS fun _ Do=>fu 3 [] (mc 0 U mn) U<|rS (CL (o4 (ts.length:Int) 1 12) (aI) U)<|rP 1 [] mn ?_
 refine RK Do<|cH U (bu fun h5=>?_) (br fun h5=>?_)
 ·refine WS fun _ Dz=>rP 1 [] mn ?_
  refine RK Dz<|aq<|Q1 hQ U U U ?_
  exact cB (ot I).symm
 refine WK Dk<|aj fun _ EQ=>WS fun _ Eq=>rP 1 [] mn ?_
 refine RK Eq<|ax ?_
 have E:(0≤ts.length)∧(eV (-1) ts=eV (gp ts 0) (ts.drop 0))∧(-1≤gp ts 0):=by (refine ⟨I,rfl,by simp [gp]⟩)
 refine bL (ι:={z:Nat // (z≤ts.length)∧(eV (-1) ts=eV (gp ts z) (ts.drop z))∧(-1≤gp ts z)}) [1] [0,1] U U (fun z=>[(3,(vI (z.1:Int)))]) (fun z=>[]) (fun _=>rfl) (fun _=>rfl) (fun z=>ts.length-z.1) ⟨0,E⟩ (aV U) (aH [0,1]) ?_
 clear E
 rintro ⟨i,⟨FS,A,Fd⟩⟩ J9 D
 try dsimp only
 have hz:i=0→gp ts i= -1:=Bl
 refine aj fun _ K=>WS fun _ L=>rP 5 [] (mc 0 U mn) ?_
 refine RK L<|bQ U (aO fun v=>?_) (aN fun v=>?_)
 ·refine bD<|ab<|ab<|ay<|KK EQ<|WS fun _ u=>rP 1 [] mn ?_
  refine RK u<|aq<|Q1 hQ U U U ?_
  exact cB (vh A I I).symm
 refine WK K<|aj fun _ C=>ax<|WS fun _ M=>rP 3 [] (mc 0 U mn) ?_
 obtain ⟨x,hx⟩:=aJ ts i I
 have Fm:=bK al.cells hx
 refine rS (IA i U (aA 1 U) w8 dc I I)<|rS (oT i 0 (al.cells x) U cd (aA 1 U) Fm U dc U U)<|AL U GI fun F5=>fX U JU U<|RK M<|aj fun _ F=>aj fun _ B=>dK cE 38 kr<|mT 2 [] (mc 0 U mn) U<|dS (CL (o4 x.Id 0 9999) (aI) U)<|dP 2 [] mn ?_
 refine jf (t:=26) U (bu fun w=>?_) (br fun w=>?_)
 ·refine l5 11 U<|l5 22 U<|cR<|RK B<|aQ U<|WS fun _ N=>rP 1 [] mn ?_
  refine RK N<|aq<|Q1 hQ U U U ?_
  exact cB (dT A hx (by simp only [bP,dZ]; omega)).symm
 refine dP 3 [] mn ?_
 refine jy (t:=29) U (aO fun AC=>?_) (aN fun AC=>?_)
 ·refine l5 8 U<|l5 6 U<|dS (LP (aa.cells x.kD) 0 U cd U U U)<|dS (CL (pO x.kD 1 30000) (aI) U)<|dP 3 [] mn ?_
  refine jf (t:=48) U (bu fun B3=>?_) (br fun B3=>?_)
  ·refine l5 11 U<|cR<|RK B<|aQ U<|WS fun _ e=>rP 1 [] mn ?_
   refine RK e<|aq<|Q1 hQ U U U ?_
   exact cB (dT A hx (by simp only [bP,dZ]; omega)).symm
  refine l5 1 U<|dS (LP (aa.cells x.lO) 0 U cd U U U)<|dS (CL (pO x.lO 0 5000) (aI) U)<|dP 3 [] mn ?_
  refine jf (t:=54) U (bu fun B7=>?_) (br fun B7=>?_)
  ·refine l5 5 U<|cR<|RK B<|aQ U<|WS fun _ f=>rP 1 [] mn ?_
   refine RK f<|aq<|Q1 hQ U U U ?_
   exact cB (dT A hx (by simp only [bP,dZ]; omega)).symm
  refine mT 2 [] (mc 0 U mn) U<|dS (CL (o4 x.Ai 0 5000) (aI) U)<|dP 2 [] mn ?_
  refine cR<|RK B<|cH U (bu fun B9=>?_) (br fun B9=>?_)
  ·refine WS fun _ g=>rP 1 [] mn ?_
   refine RK g<|aq<|Q1 hQ U U U ?_
   exact cB (dT A hx (by simp only [bP,dZ]; omega)).symm
  refine WK F<|WS fun _ h=>fu 2 [] (mc 0 U mn) U<|RK h<|ax<|WS fun _ j=>rS (BI U mJ)<|rP 1 [] mn ?_
  refine RK j<|cH U (aN fun Ci=>?_) (aO fun Ci=>?_)
  ·refine WS fun _ AB=>rP 5 [] (mc 0 U mn) ?_
   refine dh (t:=68) U (bu fun Ck=>?_) (br fun Ck=>?_)
   ·refine bh 5 U<|RK AB<|aQ U<|WS fun _ k=>rP 1 [] mn ?_
    refine RK k<|aq<|Q1 hQ U U U ?_
    exact cB (dT A hx (by simp only [bP,dZ]; omega)).symm
   refine rP 5 [] (mc 0 U mn) ?_
   refine RK AB<|bQ U (br fun Cp=>?_) (bu fun Cp=>?_)
   ·refine bZ<|aB<|aB<|KK C<|ak<|rP 3 [] mn ?_
    refine aC ?_
    refine aR (D ⟨(i+1),⟨I,gX A hx (by simp only [bP,dZ]; omega),by rw [f_ hx]; omega⟩⟩ _ _ _ U os (aV U) (aH [1,2]))
   refine WS fun _ l=>rP 1 [] mn ?_
   refine RK l<|aq<|Q1 hQ U U U ?_
   exact cB (dT A hx (by simp only [bP,dZ]; omega)).symm
  refine aj fun _ J=>WS fun _ m=>rS (BI U mJ)<|rP 1 [] mn ?_
  refine RK m<|cH U (aN fun Cx=>?_) (aO fun Cx=>?_)
  ·refine WK J<|bQ U (aO fun C0=>?_) (aN fun C0=>?_)
   ·refine WS fun _ p=>rP 1 [] mn ?_
    refine RK p<|aq<|Q1 hQ U U U ?_
    exact cB (ot I).symm
   refine WS fun _ n=>bh 1 U<|rS (LP (aa.cells x.eL) 0 U cd U U U)<|rS (CL (pO x.eL 500 20000) (aI) U)<|rP 1 [] mn ?_
   refine RK n<|bQ U (br fun C1=>?_) (bu fun C1=>?_)
   ·refine bZ<|aB<|aB<|KK C<|ak<|rP 3 [] mn ?_
    refine aC ?_
    refine aR (D ⟨(i+1),⟨I,gX A hx (by simp only [bP,dZ]; omega),by rw [f_ hx]; omega⟩⟩ _ _ _ U os (aV U) (aH [1,2]))
   refine WS fun _ o=>rP 1 [] mn ?_
   refine RK o<|aq<|Q1 hQ U U U ?_
   exact cB (dT A hx (by simp only [bP,dZ]; omega)).symm
  refine ak<|rS (BI U mJ)<|rP 1 [] mn ?_
  refine RK J<|bQ U (aO fun C2=>?_) (aN fun C2=>?_)
  ·refine WS fun _ s=>rP 1 [] mn ?_
   refine RK s<|aq<|Q1 hQ U U U ?_
   exact cB (dT A hx (by simp only [bP,dZ]; omega)).symm
  refine WS fun _ q=>bh 1 U<|rS (LP (aa.cells x.eL) 0 U cd U U U)<|rS (CL (pO x.eL 500 20000) (aI) U)<|rP 1 [] mn ?_
  refine RK q<|bQ U (br fun C3=>?_) (bu fun C3=>?_)
  ·refine bZ<|aB<|aB<|KK C<|ak<|rP 3 [] mn ?_
   refine aC ?_
   refine aR (D ⟨(i+1),⟨I,gX A hx (by simp only [bP,dZ]; omega),by rw [f_ hx]; omega⟩⟩ _ _ _ U os (aV U) (aH [1,2]))
  refine WS fun _ r=>rP 1 [] mn ?_
  refine RK r<|aq<|Q1 hQ U U U ?_
  exact cB (dT A hx (by simp only [bP,dZ]; omega)).symm
 refine dP 6 [0,1] (mc 0 U (mc 1 U mn)) ?_
 obtain ⟨y,hy⟩:=aJ ts (i-1) I
 have Fn:=bK al.cells hy
 refine dS (IA (i-1) U (aA 2 U) w8 dc I I)<|dS (mW ((i-1)*9) U (aA 2 U) (Nat.mul_pos I dc) fp U) ?_
 have GT:=D9 I hy
 refine dS (fT (i-1) 0 (vI y.Id) U cd (aA 2 U) Fn U dc U)<|dP 4 [] mn ?_
 refine jf (t:=42) U (aN fun AO=>?_) (aO fun AO=>?_)
 ·refine l5 17 U<|cR<|RK B<|aQ U<|WS fun _ O=>rP 1 [] mn ?_
  refine RK O<|aq<|Q1 hQ U U U ?_
  exact cB (dT A hx (by simp only [bP,dZ]; omega)).symm
 refine l5 1 U<|dS (LP (aa.cells x.kD) 0 U cd U U U)<|dS (CL (pO x.kD 1 30000) (aI) U)<|dP 3 [] mn ?_
 refine jf (t:=48) U (bu fun As=>?_) (br fun As=>?_)
 ·refine l5 11 U<|cR<|RK B<|aQ U<|WS fun _ P=>rP 1 [] mn ?_
  refine RK P<|aq<|Q1 hQ U U U ?_
  exact cB (dT A hx (by simp only [bP,dZ]; omega)).symm
 refine l5 1 U<|dS (LP (aa.cells x.lO) 0 U cd U U U)<|dS (CL (pO x.lO 0 5000) (aI) U)<|dP 3 [] mn ?_
 refine jf (t:=54) U (bu fun A0=>?_) (br fun A0=>?_)
 ·refine l5 5 U<|cR<|RK B<|aQ U<|WS fun _ R=>rP 1 [] mn ?_
  refine RK R<|aq<|Q1 hQ U U U ?_
  exact cB (dT A hx (by simp only [bP,dZ]; omega)).symm
 refine mT 2 [] (mc 0 U mn) U<|dS (CL (o4 x.Ai 0 5000) (aI) U)<|dP 2 [] mn ?_
 refine cR<|RK B<|cH U (bu fun A1=>?_) (br fun A1=>?_)
 ·refine WS fun _ S=>rP 1 [] mn ?_
  refine RK S<|aq<|Q1 hQ U U U ?_
  exact cB (dT A hx (by simp only [bP,dZ]; omega)).symm
 refine WK F<|WS fun _ T=>fu 2 [] (mc 0 U mn) U<|RK T<|ax<|WS fun _ AA=>rS (BI U mJ)<|rP 1 [] mn ?_
 refine RK AA<|cH U (aN fun A2=>?_) (aO fun A2=>?_)
 ·refine WS fun _ G=>rP 5 [] (mc 0 U mn) ?_
  refine dh (t:=68) U (bu fun A3=>?_) (br fun A3=>?_)
  ·refine bh 5 U<|RK G<|aQ U<|WS fun _ V=>rP 1 [] mn ?_
   refine RK V<|aq<|Q1 hQ U U U ?_
   exact cB (dT A hx (by simp only [bP,dZ]; omega)).symm
  refine rP 5 [] (mc 0 U mn) ?_
  refine RK G<|bQ U (br fun A4=>?_) (bu fun A4=>?_)
  ·refine bZ<|aB<|aB<|KK C<|ak<|rP 3 [] mn ?_
   refine aC ?_
   refine aR (D ⟨(i+1),⟨I,gX A hx (by simp only [bP,dZ]; omega),by rw [f_ hx]; omega⟩⟩ _ _ _ U os (aV U) (aH [1,2]))
  refine WS fun _ W=>rP 1 [] mn ?_
  refine RK W<|aq<|Q1 hQ U U U ?_
  exact cB (dT A hx (by simp only [bP,dZ]; omega)).symm
 refine aj fun _ H=>WS fun _ X=>rS (BI U mJ)<|rP 1 [] mn ?_
 refine RK X<|cH U (aN fun A5=>?_) (aO fun A5=>?_)
 ·refine WK H<|bQ U (aO fun A6=>?_) (aN fun A6=>?_)
  ·refine WS fun _ a=>rP 1 [] mn ?_
   refine RK a<|aq<|Q1 hQ U U U ?_
   exact cB (ot I).symm
  refine WS fun _ Y=>bh 1 U<|rS (LP (aa.cells x.eL) 0 U cd U U U)<|rS (CL (pO x.eL 500 20000) (aI) U)<|rP 1 [] mn ?_
  refine RK Y<|bQ U (br fun A7=>?_) (bu fun A7=>?_)
  ·refine bZ<|aB<|aB<|KK C<|ak<|rP 3 [] mn ?_
   refine aC ?_
   refine aR (D ⟨(i+1),⟨I,gX A hx (by simp only [bP,dZ]; omega),by rw [f_ hx]; omega⟩⟩ _ _ _ U os (aV U) (aH [1,2]))
  refine WS fun _ Z=>rP 1 [] mn ?_
  refine RK Z<|aq<|Q1 hQ U U U ?_
  exact cB (dT A hx (by simp only [bP,dZ]; omega)).symm
 refine ak<|rS (BI U mJ)<|rP 1 [] mn ?_
 refine RK H<|bQ U (aO fun A8=>?_) (aN fun A8=>?_)
 ·refine WS fun _ d=>rP 1 [] mn ?_
  refine RK d<|aq<|Q1 hQ U U U ?_
  exact cB (dT A hx (by simp only [bP,dZ]; omega)).symm
 refine WS fun _ b=>bh 1 U<|rS (LP (aa.cells x.eL) 0 U cd U U U)<|rS (CL (pO x.eL 500 20000) (aI) U)<|rP 1 [] mn ?_
 refine RK b<|bQ U (br fun A9=>?_) (bu fun A9=>?_)
 ·refine bZ<|aB<|aB<|KK C<|ak<|rP 3 [] mn ?_
  refine aC ?_
  refine aR (D ⟨(i+1),⟨I,gX A hx (by simp only [bP,dZ]; omega),by rw [f_ hx]; omega⟩⟩ _ _ _ U os (aV U) (aH [1,2]))
 refine WS fun _ c=>rP 1 [] mn ?_
 refine RK c<|aq<|Q1 hQ U U U ?_
 exact cB (dT A hx (by simp only [bP,dZ]; omega)).symm
theorem BQ (ts:List al) (tsA:OA) (tsC:Nat) (hlen:ts.length≤1000000) (hside: ∀ x∈ts,0≤x.jo∧x.jo≤255):
 ep Tryz.prog 110 [(vA (bB.cells (bB.mk (bo.mk tsA ts.length tsC))))] [(rd tsA ts.length 9 (ts.map al.cells))] (vI (if c_ ts=true then 0 else 10)):=by
 refine bG kr Tryz.func110 U U fun w0 Q hQ hN=>?_
 try dsimp only
 refine WS fun _ v=>fQ U fun b2=>bh 1 U<|RK v<|AD U<|aj fun _ w=>WS fun _ y=>rP 3 [] (mc 0 U mn) ?_
 refine df (xs:=[.tmp 11]) (cs:=[(vI (ts.length:Int))]) U cw js U U U U (by simp [Value.cells]) U U fun b5=>?_
 refine rS (CL (ep.eq (o8 1 12 ([(ts.length:Int)]) (some ⟨b5,0,none⟩) 1 (by (simp; done))) cY) (av (bf 0 U U (by simp [bI]) U)<|aI) U) ?_
 refine rP 1 [] mn ?_
 refine RK y<|cH U (bu fun h6=>?_) (br fun h6=>?_)
 ·refine WS fun _ AC=>rP 1 [] mn ?_
  refine RK AC<|aq<|Q1 hQ U U U ?_
  exact cI (if_neg (by rw [ot I]; decide)).symm
 refine WK w<|WS fun _ AO=>bh 1 U<|RK AO<|WS fun _ As=>bh 1 U<|RK As<|aj fun _ J=>A_<|KK J<|aj fun _ B=>WS fun _ K=>rP 4 [] (mc 1 U mn) ?_
 refine RK K<|ax ?_
 have D:(0≤ts.length)∧(eV (-1) ts=eV (gp ts 0) (ts.drop 0))∧(-1≤gp ts 0)∧(gp ts 0≤9999):=by (refine ⟨I,rfl,by simp [gp],by simp [gp]⟩)
 refine bL (ι:={z:Nat // (z≤ts.length)∧(eV (-1) ts=eV (gp ts z) (ts.drop z))∧(-1≤gp ts z)∧(gp ts z≤9999)}) [1,4,16,17] [1,2] U U (fun z=>[(3,(vI (gp ts z.1))),(18,(vI (z.1:Int)))]) (fun z=>[]) (fun _=>rfl) (fun _=>rfl) (fun z=>ts.length-z.1) ⟨0,D⟩ (aV U) (aH [1,2]) ?_
 clear D
 rintro ⟨i,⟨A0,A,A1,A2⟩⟩ J13 E
 try dsimp only
 refine WS fun _ L=>rP 1 [] mn ?_
 refine RK L<|aj fun _ M=>bQ U (aO fun k=>?_) (aN fun k=>?_)
 ·refine bD<|ab<|ab<|ay<|KK B<|WS fun _ O=>rP 2 [] mn ?_
  refine RK O<|aq<|Q1 hQ U U U ?_
  exact cI (if_pos (vh A I I)).symm
 refine WK M<|aj fun _ F=>ax<|WS fun _ N=>?_
 obtain ⟨x,hx⟩:=aJ ts i I
 have A3:=bK al.cells hx
 refine rS (IA i U (aA 1 U) w8 dc I I) ?_
 have A7:=hside x (aT hx)
 refine rS (oT i 0 (al.cells x) U cd (aA 1 U) A3 U dc U U)<|AL U GI fun A4=>fX U JU U<|RK N ?_
 refine oJ (ι:=Unit) [1,3,4,6,16,17,18] [0,1,2] U U (fun z=>[(7,(vB (decide (x.jo=0∧x.eL.Lo=0∧x.eL.Hi=0))))]) (fun z=>[]) (fun _=>rfl) (fun _=>rfl) ?_ fun K20 G=>?_
 ·intro _
  try dsimp only
  refine oJ (ι:=Unit) [1,3,4,6,7,16,17,18] [0,1,2] U U (fun z=>[(8,(vB (decide ((1≤x.jo∧x.jo≤2)∧x.eL.Lo≤x.eL.Hi∧500≤x.eL.Lo∧x.eL.Hi≤20000))))]) (fun z=>[]) (fun _=>rfl) (fun _=>rfl) ?_ fun K21 H=>?_
  ·intro _
   try dsimp only
   refine aj fun _ AB=>WS fun _ C=>rP 4 [] (mc 0 U mn) ?_
   refine df (xs:=[.tmp 44]) (cs:=[(vI x.Id)]) U cw js U U U U (by simp [Value.cells]) U U fun h=>?_
   refine rS (CL (ep.eq (o8 ((gp ts i)+1) 9999 ([x.Id]) (some ⟨h,0,none⟩) 1 (by (simp; done))) cY) (av (bf 0 U U (by simp [bI]) U)<|aI) U) ?_
   refine rP 2 [] mn ?_
   refine dh (t:=48) U (bu fun o=>?_) (br fun o=>?_)
   ·refine bh 26 U<|RK C<|aQ U<|WS fun _ P=>bh 1 U<|RK P<|bD<|ab<|iU U<|ab<|ab<|ay<|KK B<|WS fun _ R=>rP 2 [] mn ?_
    refine RK R<|aq<|Q1 hQ U U U ?_
    exact cI (if_neg (by rw [dT A hx (by simp only [bP,dZ]; omega)]; decide)).symm
   refine bh 1 U<|rS (LP (aa.cells x.kD) 1 U cd U U U)<|rS (CL (we x.kD 1 30000) (aI) U)<|rP 3 [] mn ?_
   refine dh (t:=54) U (bu fun p=>?_) (br fun p=>?_)
   ·refine bh 20 U<|RK C<|aQ U<|WS fun _ S=>bh 1 U<|RK S<|bD<|ab<|iU U<|ab<|ab<|ay<|KK B<|WS fun _ T=>rP 2 [] mn ?_
    refine RK T<|aq<|Q1 hQ U U U ?_
    exact cI (if_neg (by rw [dT A hx (by simp only [bP,dZ]; omega)]; decide)).symm
   refine bh 1 U<|rS (LP (aa.cells x.lO) 1 U cd U U U)<|rS (CL (we x.lO 0 5000) (aI) U)<|rP 3 [] mn ?_
   refine dh (t:=60) U (bu fun q=>?_) (br fun q=>?_)
   ·refine bh 14 U<|RK C<|aQ U<|WS fun _ AA=>bh 1 U<|RK AA<|bD<|ab<|iU U<|ab<|ab<|ay<|KK B<|WS fun _ V=>rP 2 [] mn ?_
    refine RK V<|aq<|Q1 hQ U U U ?_
    exact cI (if_neg (by rw [dT A hx (by simp only [bP,dZ]; omega)]; decide)).symm
   refine rP 2 [] (mc 1 U mn) ?_
   refine df (xs:=[.tmp 62]) (cs:=[(vI x.Ai)]) U cw js U U U U (by simp [Value.cells]) U U fun j=>?_
   refine rS (CL (ep.eq (o8 0 5000 ([x.Ai]) (some ⟨j,0,none⟩) 1 (by (simp; done))) cY) (av (bf 0 U U (by simp [bI]) U)<|aI) U) ?_
   refine rP 3 [] mn ?_
   refine dh (t:=67) U (bu fun r=>?_) (br fun r=>?_)
   ·refine bh 7 U<|RK C<|aQ U<|WS fun _ W=>bh 1 U<|RK W<|bD<|ab<|iU U<|ab<|ab<|ay<|KK B<|WS fun _ X=>rP 2 [] mn ?_
    refine RK X<|aq<|Q1 hQ U U U ?_
    exact cI (if_neg (by rw [dT A hx (by simp only [bP,dZ]; omega)]; decide)).symm
   refine rP 3 [] mn ?_
   refine bY (t:=70) U (br fun s=>?_) (bu fun s=>?_)
   ·refine bh 4 U<|RK C<|aW U<|WK AB<|ak<|fu 3 [] (mc 2 U mn) U<|aC<|aB<|KK F<|ak<|rP 2 [] mn ?_
    refine aC ?_
    have f:(vI (gp ts (i+1)))=(vI x.Id):=by rw [f_ hx]
    refine aR (E ⟨(i+1),⟨I,gX A hx (by simp only [bP,dZ]; omega),by rw [f_ hx]; omega,by rw [f_ hx]; omega⟩⟩ _ _ _ U os (cK 4<|aY U f<|aV U) (aH [3,4]))
   refine rP 4 [] mn ?_
   refine RK C<|bQ U (br fun u=>?_) (bu fun u=>?_)
   ·refine WK AB<|ak<|fu 3 [] (mc 2 U mn) U<|aC<|aB<|KK F<|ak<|rP 2 [] mn ?_
    refine aC ?_
    have e:(vI (gp ts (i+1)))=(vI x.Id):=by rw [f_ hx]
    refine aR (E ⟨(i+1),⟨I,gX A hx (by simp only [bP,dZ]; omega),by rw [f_ hx]; omega,by rw [f_ hx]; omega⟩⟩ _ _ _ U os (cK 4<|aY U e<|aV U) (aH [3,4]))
   refine WS fun _ Y=>bh 1 U<|RK Y<|bD<|ab<|iU U<|ab<|ab<|ay<|KK B<|WS fun _ Z=>rP 2 [] mn ?_
   refine RK Z<|aq<|Q1 hQ U U U ?_
   exact cI (if_neg (by rw [dT A hx (by simp only [bP,dZ]; omega)]; decide)).symm
  refine ak<|rP 2 [] (mc 0 U mn) ?_
  refine rS (SX (tT (m:=x.jo) U U Rw mY (qS (by first|assumption|omega))) U U)<|df (xs:=[.tmp 33]) (cs:=[(vI x.jo)]) U cw js U U U U (by simp [Value.cells]) U U fun g=>?_
  refine rS (CL (ep.eq (o8 1 2 ([x.jo]) (some ⟨g,0,none⟩) 1 (by (simp; done))) cY) (av (bf 0 U U (by simp [bI]) U)<|aI) U) ?_
  refine rP 1 [] mn ?_
  refine bY (t:=36) U (aO fun n=>?_) (aN fun n=>?_)
  ·refine rP 5 [] mn ?_
   refine aC ?_
   have d:(decide ((1≤x.jo∧x.jo≤2)∧x.eL.Lo≤x.eL.Hi∧500≤x.eL.Lo∧x.eL.Hi≤20000))=false:=cq I
   refine aR (jT (cK 8<|nV U d<|du.nil _) (aH [1,2,3]) (H ()))
  refine bh 1 U<|rS (LP (aa.cells x.eL) 1 U cd U U U)<|rS (CL (we x.eL 500 20000) (aI) U)<|rP 2 [] mn ?_
  refine aC ?_
  have c:(decide ((1≤x.jo∧x.jo≤2)∧x.eL.Lo≤x.eL.Hi∧500≤x.eL.Lo∧x.eL.Hi≤20000))=(decide (x.eL.Lo≤x.eL.Hi∧500≤x.eL.Lo∧x.eL.Hi≤20000)):=gi.2 I
  refine aR (jT (cK 8<|nV U c<|du.nil _) (aH [1,2,3]) (H ()))
 refine ak<|fu 2 [] (mc 0 U mn) U<|rS (BI U mJ)<|rP 1 [] mn ?_
 refine bY (t:=25) U (aO fun l=>?_) (aN fun l=>?_)
 ·refine rP 6 [] mn ?_
  refine aC ?_
  have b:(decide (x.jo=0∧x.eL.Lo=0∧x.eL.Hi=0))=false:=cq I
  refine aR (jT (cK 7<|nV U b<|du.nil _) (aH [0,1,2]) (G ()))
 refine bh 1 U<|rS (LP (aa.cells x.eL) 0 U cd U U U)<|rS (SX (bk (xs:=[]) (cs:=(aa.cells (aa.mk 0 0))) U U (bj gv U)) U U)<|rS (BI U (ua _ _ x.eL (aa.mk 0 0)))<|rP 2 [] mn ?_
 refine aC ?_
 have a:(decide (x.jo=0∧x.eL.Lo=0∧x.eL.Hi=0))=(decide (x.eL=(aa.mk 0 0))):=gi.2 (by (simp only [aa.ext_iff] at *; omega))
 refine aR (jT (cK 7<|nV U a<|du.nil _) (aH [0,1,2]) (G ()))
theorem QA (ts:List al) (tsA:OA) (tsC:Nat) (hlen:ts.length≤1000000):
 ld Tryz.prog 80 [(vA (bB.cells (bB.mk (bo.mk tsA ts.length tsC))))] [(rd tsA ts.length 9 (ts.map al.cells))] (fun (x:(OA)×Nat)=>(vA (bB.cells (bB.mk (bo.mk x.1 ts.length x.2))))) (fun (x:(OA)×Nat)=>True) (fun (x:(OA)×Nat)=>[(own x.1 x.2 153 9 (ts.map al.cells))]):=by
 refine dg kr Tryz.func80 U U fun H Q hQ hN=>?_
 try dsimp only
 refine WS fun _ A=>fQ U fun F=>AL U VJ fun G=>RK A<|WS fun _ B=>lJ U w8 U fun E=>rP 2 [] (mc 2 U mn) ?_
 refine cW (es:=(List.map al.cells [])) (C':=[own (some ⟨E,0,none⟩) 0 153 9 (List.map al.cells []),_,_,_]) 0 U sm U (by simp [maxLen]) U ?_
 refine cL (es2:=(List.map al.cells ts)) (m':=ts.length) 0 U U U RS U U sm (aA 3 U) (nQ _) os (by first|(simp only [maxLen]; omega)|(simp [maxLen]; omega)) sm sm U fun C D=>?_
 try dsimp only
 refine rS (SX (bk (xs:=[(0,.tmp 6)]) (cs:=(bB.cells (bB.mk (bo.mk C ts.length D)))) U U (bj Uo U)) U U)<|sT U SV U<|RK B<|aq<|LX hQ (C,D) [0] [0] (mc 1 U mn) U U U U ?_
 trivial
end
section
open Go.RowKit
theorem Lv (n lo hi:Int) (g1 g2:Nat):
 ep Tryz.prog 77 [(vI n),(vP g1),(vP g2)] [(cb g1 3 [(vI lo)]),(cb g2 3 [(vI hi)])] (vB (decide (n<lo∨hi<n))):=by
 refine bG kr Tryz.func77 U U fun D Q hQ hN=>?_
 try dsimp only
 refine WS fun _ B=>bh 1 U<|RK B<|WS fun _ A=>rP 4 [] (mr 0 U mn) ?_
 refine dh (t:=8) U (aN fun C=>?_) (aO fun C=>?_)
 ·refine rP 5 [] mn ?_
  refine RK A<|aq<|Q1 hQ U U U ?_
  exact cB (fR I).symm
 refine rP 5 [] (mr 1 U mn) ?_
 refine RK A<|aq<|Q1 hQ U U U ?_
 exact cB (gi.2 I)
theorem kg (lo hi:Int) (l:List Int) (lA:OA) (lC:Nat) (hlen:l.length≤1000000):
 ep Tryz.prog 39 [(vI lo),(vI hi),(vS lA l.length lC)] [(rd lA l.length 1 (l.map iC))] (vB (p8 lo hi l)):=by
 refine bG kr Tryz.func39 U U fun F Q hQ hN=>?_
 try dsimp only
 refine WS fun _ D=>uC U U fun A=>uC U U fun B=>bh 1 U<|RK D<|WS fun _ E=>rP 1 [] mn ?_
 refine rS (FU U) ?_
 refine rS (CL (sw l lA lC (Value.func (.func 77) [].toArray [(vP A),(vP B)].toArray) (fun C=>(decide (C<lo∨hi<C))) (fc [(cb A 3 [(vI lo)]),(cb B 3 [(vI hi)])]) (by intro C _; exact nZ (fi:=[]) (ca:=[(vP A),(vP B)]) (mm (Lv C lo hi A B) (bg [0,1]))) hlen) (fj 2 U U<|av (mh (bg [1,0]))<|aI) U) ?_
 refine rP 2 [] mn ?_
 refine RK E<|aq ?_
 exact Q1 hQ U U U U
theorem F7 (s:aa):
 ep Tryz.prog 107 [(vA (aa.cells s))] [] (vB (decide (iW s))):=by
 refine bG kr Tryz.func107 U U fun F Q hQ hN=>?_
 try dsimp only
 refine WS fun _ B=>fQ U fun E=>bh 1 U<|RK B<|WS fun _ A=>rP 4 [] (mc 0 U mn) ?_
 refine df (xs:=[.tmp 4,.tmp 6]) (cs:=[(vI s.Lo),(vI s.Hi)]) U cw js U U U U (by simp [Value.cells]) U U fun C=>?_
 refine rS (CL (ep.eq (kg 1 600000 ([s.Lo,s.Hi]) (some ⟨C,0,none⟩) 2 (by (simp; done))) re) (av (bf 0 U U (by simp [bI]) U)<|aI) U) ?_
 refine rP 1 [] mn ?_
 refine bY (t:=9) U (aO fun D=>?_) (aN fun D=>?_)
 ·refine rP 7 [] mn ?_
  refine RK A<|aq<|Q1 hQ U U U ?_
  simp only [iW]
  exact cB (cq I).symm
 refine rP 7 [] (mc 1 U mn) ?_
 refine RK A<|aq<|Q1 hQ U U U ?_
 simp only [iW]
 exact cB (gi.2 I)
theorem Kk (d:aw) (sgA:OA) (sgC:Nat):
 ep Tryz.prog 217 [(vA (bp.cells (bp.mk d.Out d.eU d.Time (lQ d.cv sgA sgC))))] [(rd sgA d.cv.ah.length 2 (d.cv.ah.map aK.cells))] (vB (decide (mB d.cv))):=by
 refine bG kr Tryz.func217 U U fun F Q hQ hN=>?_
 try dsimp only
 refine WS fun _ B=>fQ U fun E=>bh 1 U<|RK B<|WS fun _ A=>rP 5 [] (mc 0 U mn) ?_
 refine bY (t:=7) U (aO fun C=>?_) (aN fun C=>?_)
 ·refine rP 13 [] mn ?_
  refine RK A<|aq<|Q1 hQ U U U ?_
  simp only [mB]
  exact cB (cq I).symm
 refine rP 6 [] (mc 0 U mn) ?_
 refine bY (t:=13) U (aO fun D=>?_) (aN fun D=>?_)
 ·refine rP 7 [] mn ?_
  refine RK A<|aq<|Q1 hQ U U U ?_
  simp only [mB]
  exact cB (cq I).symm
 refine rP 7 [] (mc 0 U mn) ?_
 refine RK A<|aq<|Q1 hQ U U U ?_
 simp only [mB]
 exact cB (gi.2 I)
theorem TO (d:aw) (sgA:OA) (sgC:Nat):
 ep Tryz.prog 215 [(vA (bp.cells (bp.mk d.Out d.eU d.Time (lQ d.cv sgA sgC))))] [(rd sgA d.cv.ah.length 2 (d.cv.ah.map aK.cells))] (vB d.Out):=by
 refine bG kr Tryz.func215 U U fun D Q hQ hN=>?_
 try dsimp only
 refine WS fun _ A=>fQ U fun C=>bh 1 U<|RK A<|WS fun _ B=>rP 3 [] (mc 0 U mn) ?_
 refine RK B<|aq<|Q1 hQ U U U ?_
 rfl
theorem Sw (d:aw) (sgA:OA) (sgC:Nat):
 ep Tryz.prog 218 [(vA (bp.cells (bp.mk d.Out d.eU d.Time (lQ d.cv sgA sgC))))] [(rd sgA d.cv.ah.length 2 (d.cv.ah.map aK.cells))] (vB d.eU):=by
 refine bG kr Tryz.func218 U U fun D Q hQ hN=>?_
 try dsimp only
 refine WS fun _ A=>fQ U fun C=>bh 1 U<|RK A<|WS fun _ B=>rP 3 [] (mc 0 U mn) ?_
 refine RK B<|aq<|Q1 hQ U U U ?_
 rfl
theorem S7 (d:aw) (sgA:OA) (sgC:Nat):
 ep Tryz.prog 220 [(vA (bp.cells (bp.mk d.Out d.eU d.Time (lQ d.cv sgA sgC))))] [(rd sgA d.cv.ah.length 2 (d.cv.ah.map aK.cells))] (vB true):=by
 refine bG kr Tryz.func220 U U fun D Q hQ hN=>?_
 try dsimp only
 refine WS fun _ A=>fQ U fun C=>bh 1 U<|RK A<|WS fun _ B=>rP 1 [] mn ?_
 refine RK B<|aq<|Q1 hQ U U U ?_
 rfl
end
section
open Go.RowKit
theorem J0 (r:bT) (kA:OA) (kC:Nat) (az:List RA) (cA:OA) (cC:Nat) (bA:OA) (bC:Nat) (slA:OA) (slC:Nat) (drA:OA) (drC:Nat) (ha:List cy) (heA:OA) (heC:Nat) (tz:List RA) (tA:OA) (tC:Nat) (ms:Value) (gw h:Nat) (gm g1 g2:Nat) (hin:eO r az ha) (htz:tz.length=r.an.length) (hh:h<r.an.length) (hok:kh r (h+1)):
 Dx Tryz.prog 78 [(vI (h:Int)),(vP g1),(vP g2)] [(rd kA r.ao.aM.length 9 (r.ao.aM.map al.cells)),(rd cA r.ao.ai.length 2 (List.zipWith ar.cells r.ao.ai az)),(fc (aU ar.g4 r.ao.ai az)),(rd bA r.ao.ae.length 4 (r.ao.ae.map bH.cells)),(rd slA r.aL.length 1 (r.aL.map iC)),(rd drA r.bE.length 1 (r.bE.map iC)),(rd heA r.an.length 1 (List.zipWith ct r.an ha)),(fc (aU iw r.an ha)),(rd tA ((cS r).length) 1 (List.zipWith Eb (cS r) tz)),(fc (aU MW (cS r) tz)),(cb gw 112 (fV.cells (fV.mk (oQ r kA kC cA cC bA bC slA slC drA drC heA heC) (bo.mk tA ((cS r).length) tC) ms))),(cb g1 94 [(vP gw)]),(cb g2 40 [(Value.map (some gm))])] (g_ iV gm (bM dD (eB r.ao r.an r.aL.length h 0))) (fun (x:Unit)=>(vT [])) (fun (x:Unit)=>True) (fun (x:Unit)=>(g_ iV gm (bM dD (eB r.ao r.an r.aL.length (h+1) 0)))):=by
 have v:=hin.line
 have A4:=hin.iH
 have A5:=hin.has
 have Ai:=hin.iI
 have AC:=hin.draw
 have As:=dE (r:=r)
 refine mO kr Tryz.func78 U U fun w0 Q hQ hN=>?_
 try dsimp only
 refine WS fun _ g=>fu 1 [] (mr 12 U mn) U<|rS (SX (bO U U) U U)<|rP 3 [] (mr 11 U mn) ?_
 obtain ⟨ht,B⟩:=aJ r.an h I
 obtain ⟨A,C⟩:=aJ ha h I
 have Z:(List.zipWith ct r.an ha)[h]? =some (ct ht A):=dG B C
 have s:=hin.nN _ _ _ B C
 have AO:=s.od
 have N:=hok h ht I B
 obtain ⟨tr,G⟩:=aJ (cS r) h I
 obtain ⟨tra,F⟩:=aJ tz h I
 have c:(List.zipWith Eb (cS r) tz)[h]? =some (Eb tr tra):=dG G F
 refine rS (IA h U (aA 9 U) FD dc I I)<|rS (fT h 0 (vS tra.1 tr.length tra.2) U cd (aA 9 U) c U dc U) ?_
 have AB:=zC B G
 have A1:tr.length=r.aL.length:=by rw [AB,List.length_map]; exact N.1
 have A0:=N.1
 refine rP 2 [] mn ?_
 refine RK g<|ax ?_
 have E:(0≤r.aL.length):=by exact Nat.zero_le _
 refine bL (ι:={z:Nat // (z≤r.aL.length)}) [0,1,2,14,15] [1,2,3,4,5,6,7,8,9,10,11,12,13] U U (fun z=>[(16,(vI (z.1:Int)))]) (fun z=>[(g_ iV gm (bM dD (eB r.ao r.an r.aL.length h z.1)))]) (fun _=>rfl) (fun _=>rfl) (fun z=>r.aL.length-z.1) ⟨0,E⟩ (aV U) (aH [1,2,3,4,5,6,7,8,9,10,11,12,13,0]) ?_
 clear E
 rintro ⟨i,u⟩ J2 K
 try dsimp only
 have a:i<r.aL.length→(eB r.ao r.an r.aL.length h i).lookup (i:Int)=ff r.ao r.an i h:=Ki
 refine WS fun _ k=>rP 1 [] mn ?_
 refine RK k<|aj fun _ m=>bQ U (aO fun h5=>?_) (aN fun h5=>?_)
 ·refine bD<|ab<|ab<|ay ?_
  rw [show (eB r.ao r.an r.aL.length h i)=(eB r.ao r.an r.aL.length (h+1) 0) from by rw [show i=r.aL.length by omega]; exact NX]
  refine LM hN () 13 [] mn U U U U ?_
  trivial
 refine WK m<|aj fun _ L=>ax<|WS fun _ n=>rP 1 [] mn ?_
 obtain ⟨x,hx⟩:=aJ tr i I
 have y:=bK aa.cells hx
 refine rS (IA i U (show jc _ (rd tra.1 tr.length 2 (tr.map aa.cells)).holds from (dk 9 U (bV G F (by simp [MW])))) gY dc I I)<|rS (oT i 0 (aa.cells x) U cd (show jc _ (rd tra.1 tr.length 2 (tr.map aa.cells)).holds from (dk 9 U (bV G F (by simp [MW])))) y U dc U U)<|AL U dp fun b8=>bh 1 U<|fX U cx U<|RK n<|WS fun _ o=>fu 2 [] (mr 13 U mn) U<|rS (SX (j_ (kV:=iV) (x:=(i:Int)) (l:=(eB r.ao r.an r.aL.length h i)) (f:=dD) (z:=(aa.mk 0 0)) U U U k8 (db mY) rO (by exact aA 14 U)) U U)<|bh 3 U<|AL U dp fun A2=>fX U cx U<|bh 1 U<|RK o<|aj fun _ P=>WS fun _ H=>fu 1 [] (mr 13 U mn) U<|rS (SX (bO U U) U U)<|fu 4 [] (mr 12 U mn) U<|rS (IA h U (aA 8 U) nA dc I I)<|rS (fT h 0 (vS A.1.1 ht.length A.1.2) U cd (aA 8 U) Z U dc U)<|rP 1 [] mn ?_
 obtain ⟨d,hd⟩:=aJ ht i I
 obtain ⟨da,p⟩:=aJ A.2 i I
 have q:(List.zipWith aw.cells ht A.2)[i]? =some (aw.cells d da):=dG hd p
 refine rS (IA i U (show jc _ (rd A.1.1 ht.length 7 (List.zipWith aw.cells ht A.2)).holds from (dk 9 U (bV B C cm))) ug dc I I)<|rS (mW (i*7) U (show jc _ (rd A.1.1 ht.length 7 (List.zipWith aw.cells ht A.2)).holds from (dk 9 U (bV B C cm))) (Nat.mul_pos I dc) fp U)<|rS (fT i 0 (vB d.Out) U cd (show jc _ (rd A.1.1 ht.length 7 (List.zipWith aw.cells ht A.2)).holds from (dk 9 U (bV B C cm))) q U dc U)<|rP 1 [] mn ?_
 refine dh (t:=39) U (fun J=>?_) (fun J=>?_)
 ·refine bh 3 U<|RK H<|aQ U<|WS fun _ R=>rP 2 [] (mr 14 U mn) ?_
  have T:(cG (eB r.ao r.an r.aL.length h i) (i:Int))=(eB r.ao r.an r.aL.length h (i+1)):=by exact Gq (by exact H4 B hd J)
  refine pS (kV:=iV) (x:=(i:Int)) (C':=[_,_,_,_,_,_,_,_,_,_,_,_,_,_,_,(g_ iV gm (bM dD (eB r.ao r.an r.aL.length h (i+1))))]) 15 U U U U k8 (db mY) U ((l0 _ _ _).symm.trans (congrArg _ T)) U<|RK R<|bD<|ab<|ay<|KK L<|ak<|rP 2 [] mn ?_
  refine aC ?_
  have AA:(vI (((i+1):Nat):Int))=(vI ((i:Int)+1)):=by exact cI I
  refine aR (K ⟨(i+1),(by first|omega|(simp only []; omega))⟩ _ _ _ U os (cK 5<|aY U AA<|du.nil _) (aH [2,3,4,5,6,7,8,9,10,11,12,13,14,15]))
 refine rP 3 [] mn ?_
 refine RK H<|cH U (fun D=>?_) (fun D=>?_)
 ·rw [Bool.not_eq_true'] at D
  refine WS fun _ S=>rP 2 [] (mr 14 U mn) ?_
  have V:(cG (eB r.ao r.an r.aL.length h i) (i:Int))=(eB r.ao r.an r.aL.length h (i+1)):=by exact Gq (by exact ED ((a I).symm.trans (Option.not_isSome_iff_eq_none.1 (by rw [D]; decide))))
  refine pS (kV:=iV) (x:=(i:Int)) (C':=[_,_,_,_,_,_,_,_,_,_,_,_,_,_,_,(g_ iV gm (bM dD (eB r.ao r.an r.aL.length h (i+1))))]) 15 U U U U k8 (db mY) U ((l0 _ _ _).symm.trans (congrArg _ V)) U<|RK S<|bD<|ab<|ay<|KK L<|ak<|rP 2 [] mn ?_
  refine aC ?_
  have W:(vI (((i+1):Nat):Int))=(vI ((i:Int)+1)):=by exact cI I
  refine aR (K ⟨(i+1),(by first|omega|(simp only []; omega))⟩ _ _ _ U os (cK 5<|aY U W<|du.nil _) (aH [2,3,4,5,6,7,8,9,10,11,12,13,14,15]))
 rw [Bool.not_eq_false'] at D
 refine WK P<|ak ?_
 obtain ⟨O,b⟩:=Option.isSome_iff_exists.1 D
 have M:ff r.ao r.an i h=some O:=(a I).symm.trans b
 have e:=L5 AB hx hd
 have A6:=Aa (fun j x hj hx=>hok j x I hx) I M
 have w:=F1 (N.2 d (aT hd))
 rw [← e] at w
 rw [show ((List.lookup (i:Int) (eB r.ao r.an r.aL.length h i)).getD (aa.mk 0 0))=O from by rw [b]; rfl]
 refine fu 6 [0,1,2] (mr 14 U (mc 0 U (mc 1 U mn))) U<|rS (BI U (tD I I I))<|fu 5 [0,1] (mc 0 U (mc 1 U mn)) U<|rS (BI U (tD I I I))<|rP 1 [] mn ?_
 refine rS (SX (bk (xs:=[(0,.tmp 52),(1,.tmp 58)]) (cs:=(aa.cells (aa.mk (O.Lo+(x.Lo/10)) (O.Hi+(x.Hi/10))))) U U (bj gv U)) U U) ?_
 have X:(dW (eB r.ao r.an r.aL.length h i) (i:Int) (aa.mk (O.Lo+(x.Lo/10)) (O.Hi+(x.Hi/10))))=(eB r.ao r.an r.aL.length h (i+1)):=by exact Ov I (by rw [M]; rfl) (by rw [e]; exact ES B hd (by rw [J]; decide) M)
 refine ic (kV:=iV) (x:=(i:Int)) (C':=[_,_,_,_,_,_,_,_,_,_,_,_,_,_,_,(g_ iV gm (bM dD (eB r.ao r.an r.aL.length h (i+1))))]) 15 U U U U k8 (db mY) U ((fW _ _ _ _).symm.trans (congrArg _ X)) U<|aC<|aB<|KK L<|ak<|rP 2 [] mn ?_
 refine aC ?_
 have Y:(vI (((i+1):Nat):Int))=(vI ((i:Int)+1)):=by exact cI I
 refine aR (K ⟨(i+1),(by first|omega|(simp only []; omega))⟩ _ _ _ U os (cK 5<|aY U Y<|du.nil _) (aH [2,3,4,5,6,7,8,9,10,11,12,13,14,15]))
theorem PG (r:bT) (kA:OA) (kC:Nat) (az:List RA) (cA:OA) (cC:Nat) (bA:OA) (bC:Nat) (slA:OA) (slC:Nat) (drA:OA) (drC:Nat) (ha:List cy) (heA:OA) (heC:Nat) (tz:List RA) (tA:OA) (tC:Nat) (ms:Value) (gw n:Nat) (hin:eO r az ha) (htz:tz.length=r.an.length) (hn:n≤r.an.length) (hok:kh r n):
 ld Tryz.prog 41 [(vP gw),(vI (n:Int))] [(rd kA r.ao.aM.length 9 (r.ao.aM.map al.cells)),(rd cA r.ao.ai.length 2 (List.zipWith ar.cells r.ao.ai az)),(fc (aU ar.g4 r.ao.ai az)),(rd bA r.ao.ae.length 4 (r.ao.ae.map bH.cells)),(rd slA r.aL.length 1 (r.aL.map iC)),(rd drA r.bE.length 1 (r.bE.map iC)),(rd heA r.an.length 1 (List.zipWith ct r.an ha)),(fc (aU iw r.an ha)),(rd tA ((cS r).length) 1 (List.zipWith Eb (cS r) tz)),(fc (aU MW (cS r) tz)),(cb gw 112 (fV.cells (fV.mk (oQ r kA kC cA cC bA bC slA slC drA drC heA heC) (bo.mk tA ((cS r).length) tC) ms)))] (fun (x:Nat)=>(Value.map (some x))) (fun (x:Nat)=>True) (fun (x:Nat)=>[(g_ iV x (bM dD (dB r n)))]):=by
 have c:=hin.line
 have m:=hin.iH
 have o:=hin.has
 have e:=hin.iI
 have d:=hin.draw
 have f:=dE (r:=r)
 refine dg kr Tryz.func41 U U fun q Q hQ hN=>?_
 try dsimp only
 refine WS fun _ V=>uC U U fun k=>rP 1 [] mn ?_
 refine RK V<|WS fun _ W=>lx (kV:=iV) U U fun B=>?_
 try dsimp only
 refine AL U P5 fun l=>D7 U Jg U U<|RK W<|aj fun _ X=>WS fun _ Y=>fu 1 [] (mc 2 U mn) U<|rS (SX (bO U U) U U)<|rP 5 [] (mr 13 U mn) ?_
 refine RK Y<|ax ?_
 skip
 have A:(0≤r.aL.length):=by exact Nat.zero_le _
 refine bL (ι:={z:Nat // (z≤r.aL.length)}) [1,2,5,15] [0,2,3,4,5,6,7,8,9,10,11,12,13] U U (fun z=>[(16,(vI (z.1:Int)))]) (fun z=>[(g_ iV B (bM dD (eB r.ao r.an z.1 0 0)))]) (fun _=>rfl) (fun _=>rfl) (fun z=>r.aL.length-z.1) ⟨0,A⟩ (aV U) (aH [0,2,3,4,5,6,7,8,9,10,11,12,13,1]) ?_
 clear A
 rintro ⟨i,a⟩ J8 AA
 try dsimp only
 refine WS fun _ Z=>rP 1 [] mn ?_
 refine RK Z<|aj fun _ D=>cH U (aN fun S=>?_) (aO fun S=>?_)
 ·refine WK D<|aj fun _ E=>ax<|WS fun _ F=>bh 2 U<|RK F<|ak<|rP 2 [] (mc 0 U mn) ?_
  refine rS (SX (bk (xs:=[]) (cs:=(aa.cells (aa.mk 0 0))) U U (bj gv U)) U U) ?_
  have O:(dW (eB r.ao r.an i 0 0) (i:Int) (aa.mk 0 0))=(eB r.ao r.an (i+1) 0 0):=by exact O2
  refine ic (kV:=iV) (x:=(i:Int)) (C':=[_,_,_,_,_,_,_,_,_,_,_,_,_,(g_ iV B (bM dD (eB r.ao r.an (i+1) 0 0)))]) 13 U U U U k8 (db mY) U ((fW _ _ _ _).symm.trans (congrArg _ O)) U<|aC<|aB<|KK E<|ak<|rP 2 [] mn ?_
  refine aC ?_
  have P:(vI (((i+1):Nat):Int))=(vI ((i:Int)+1)):=by exact cI I
  refine aR (AA ⟨(i+1),(by first|omega|(simp only []; omega))⟩ _ _ _ U os (cK 4<|aY U P<|du.nil _) (aH [0,1,2,3,4,5,6,7,8,9,10,11,12,13]))
 refine bD<|ab<|ab<|ay<|KK X<|WS fun _ G=>rS (FU U)<|bh 1 U<|RK G<|aj fun _ H=>WS fun _ AB=>rP 2 [] mn ?_
 refine RK AB<|ax ?_
 rw [show (eB r.ao r.an i 0 0)=(eB r.ao r.an r.aL.length 0 0) from by rw [show i=r.aL.length by omega]]
 have A:(0≤n):=by exact Nat.zero_le _
 refine bL (ι:={z:Nat // (z≤n)}) [2,5,7,24] [0,1,2,3,4,5,6,7,8,9,10,11,12] U U (fun z=>[(25,(vI (z.1:Int)))]) (fun z=>[(g_ iV B (bM dD (eB r.ao r.an r.aL.length z.1 0)))]) (fun _=>rfl) (fun _=>rfl) (fun z=>n-z.1) ⟨0,A⟩ (aV U) (aH [0,1,2,3,4,5,6,7,8,9,10,11,12,13]) ?_
 clear A
 rintro ⟨h,b⟩ J19 C
 try dsimp only
 refine WS fun _ J=>rP 1 [] mn ?_
 refine RK J<|aj fun _ K=>bQ U (aO fun T=>?_) (aN fun T=>?_)
 ·refine bD<|ab<|ab<|ay<|KK H<|aj fun _ N=>?_
  rw [show (eB r.ao r.an r.aL.length h 0)=(dB r n) from by rw [show h=n by omega]; exact Nu]
  refine ak<|rP 2 [] (mc 0 U mn) ?_
  refine RK N<|aq<|LX hQ B [13] [] mn U U U U ?_
  trivial
 refine WK K<|aj fun _ L=>ax<|WS fun _ M=>bh 2 U<|RK M<|ak<|rP 2 [] mn ?_
 refine jd 13 U U U U (J0 r kA kC az cA cC bA bC slA slC drA drC ha heA heC tz tA tC ms gw h B k l hin htz I (by exact fun j x hj hx=>hok j x I hx)) U (ei 2 U U (dQ (bS _)) (ei 3 U U (dQ (bS _)) (ei 4 U U (dQ (bS _)) (ei 5 U U (dQ (bS _)) (ei 6 U U (dQ (bS _)) (ei 7 U U (dQ (bS _)) (ei 8 U U (dQ (bS _)) (ei 9 U U (dQ (bS _)) (ei 10 U U (dQ (bS _)) (ei 11 U U (dQ (bS _)) (ei 12 U U (dQ (bS _)) (ei 1 U U (bS _) (ei 0 U U (bS _) ks))))))))))))) U (fun p g=>?_)
 try dsimp only
 refine aC<|aB<|KK L<|ak<|rP 2 [] mn ?_
 refine aC ?_
 have R:(vI (((h+1):Nat):Int))=(vI ((h:Int)+1)):=by exact cI I
 refine aR (C ⟨(h+1),(by first|omega|(simp only []; omega))⟩ _ _ _ U os (cK 4<|aY U R<|du.nil _) (aH [0,1,2,3,4,5,6,7,8,9,10,11,12,13]))
end
section
open Go.RowKit
theorem JW (n lo hi:Int) (g1 g2:Nat):
 ep Tryz.prog 100 [(vI n),(vP g1),(vP g2)] [(cb g1 3 [(vI lo)]),(cb g2 3 [(vI hi)])] (vB (decide (n<lo∨hi<n))):=by
 refine bG kr Tryz.func100 U U fun D Q hQ hN=>?_
 try dsimp only
 refine WS fun _ B=>bh 1 U<|RK B<|WS fun _ A=>rP 4 [] (mr 0 U mn) ?_
 refine dh (t:=8) U (aN fun C=>?_) (aO fun C=>?_)
 ·refine rP 5 [] mn ?_
  refine RK A<|aq<|Q1 hQ U U U ?_
  exact cB (fR I).symm
 refine rP 5 [] (mr 1 U mn) ?_
 refine RK A<|aq<|Q1 hQ U U U ?_
 exact cB (gi.2 I)
theorem je (lo hi:Int) (l:List Int) (lA:OA) (lC:Nat) (hlen:l.length≤1000000):
 ep Tryz.prog 60 [(vI lo),(vI hi),(vS lA l.length lC)] [(rd lA l.length 1 (l.map iC))] (vB (p8 lo hi l)):=by
 refine bG kr Tryz.func60 U U fun F Q hQ hN=>?_
 try dsimp only
 refine WS fun _ D=>uC U U fun A=>uC U U fun B=>bh 1 U<|RK D<|WS fun _ E=>rP 1 [] mn ?_
 refine rS (FU U) ?_
 refine rS (CL (sw l lA lC (Value.func (.func 100) [].toArray [(vP A),(vP B)].toArray) (fun C=>(decide (C<lo∨hi<C))) (fc [(cb A 3 [(vI lo)]),(cb B 3 [(vI hi)])]) (by intro C _; exact nZ (fi:=[]) (ca:=[(vP A),(vP B)]) (mm (JW C lo hi A B) (bg [0,1]))) hlen) (fj 2 U U<|av (mh (bg [1,0]))<|aI) U) ?_
 refine rP 2 [] mn ?_
 refine RK E<|aq ?_
 exact Q1 hQ U U U U
theorem US (n d:Int) (hd:2≤d):
 ep Tryz.prog 95 [(vI n),(vI d)] [] (vI (Tl n d)):=by
 refine bG kr Tryz.func95 U U fun C Q hQ hN=>?_
 try dsimp only
 refine WS fun _ A=>bh 1 U<|RK A<|WS fun _ B=>bh 2 U<|rS (BI U Qy)<|rS (BI U JB)<|bh 1 U<|rS (BI U (Rh I (QY (Tx _) hd)))<|rP 1 [] mn ?_
 refine RK B<|aq ?_
 exact Q1 hQ U U U U
theorem Pu (n d:Int) (hd:1≤d∧d≤1000000) (hn:0≤n∧n≤1000000000000000):
 ep Tryz.prog 95 [(vI n),(vI d)] [] (vI (pk n d)):=by
 refine bG kr Tryz.func95 U U fun C Q hQ hN=>?_
 try dsimp only
 refine WS fun _ A=>bh 1 U<|RK A<|WS fun _ B=>bh 5 U<|rS (BI U (tD I I I))<|rP 1 [] mn ?_
 refine RK B<|aq ?_
 exact Q1 hQ U U U U
theorem Gc (c:ar) (sA:OA) (sC:Nat) (at_:Int) (hc:e_ c) (ha:0≤at_∧at_≤90000000):
 ep Tryz.prog 139 [(vA (dq.cells (dq.mk c.dw (bo.mk sA c.bq.length sC)))),(vI at_)] [(rd sA c.bq.length 3 (c.bq.map cz.cells))] (vA (aa.cells (iz c at_))):=by
 have X:=hc.len
 have J:=hc.rV
 refine bG kr Tryz.func139 U U fun e Q hQ hN=>?_
 try dsimp only
 refine WS fun _ M=>fQ U fun b=>AL U dp fun d=>RK M<|WS fun _ N=>rS (SX (bk (xs:=[(0,.const (vI (-1099511627776))),(1,.const (vI 1099511627776))]) (cs:=(aa.cells (aa.mk (-1099511627776) 1099511627776))) U U (bj gv U)) U U)<|AL U dp fun W=>fX U cx U<|RK N<|aj fun _ O=>aj fun _ P=>?_
 have R:(aa.cells (aa.mk (-1099511627776) 1099511627776))=(aa.cells (gG c at_ 0)):=by rfl
 rw [R]
 refine ak<|rP 4 [] (mc 2 U mn) ?_
 refine RK P<|ax ?_
 have A:(0≤c.bq.length):=by exact Nat.zero_le _
 refine bL (ι:={z:Nat // (z≤c.bq.length)}) [1,2,4,5,11,12] [1,2,3] U U (fun z=>[(13,(vI (z.1:Int)))]) (fun z=>[(cb W 45 (aa.cells (gG c at_ z.1)))]) (fun _=>rfl) (fun _=>rfl) (fun z=>c.bq.length-z.1) ⟨0,A⟩ (aV U) (aH [1,2,3,0]) ?_
 clear A
 rintro ⟨i,S⟩ J9 L
 try dsimp only
 refine WS fun _ B=>rP 1 [] mn ?_
 refine RK B<|aj fun _ C=>bQ U (aO fun K=>?_) (aN fun K=>?_)
 ·refine bD<|ab<|ab<|ay<|KK O<|WS fun _ G=>rP 1 [] (mc 3 U mn) ?_
  refine fX U cx U<|RK G<|aq<|IC hQ [0] (mc 0 U mn) U ?_
  rw [nS (show c.bq.length≤i by omega)]
 refine WK C<|aj fun _ D=>ax<|WS fun _ E=>?_
 obtain ⟨x,hx⟩:=aJ c.bq i I
 have AA:=bK cz.cells hx
 refine rS (IA i U (aA 2 U) vJ dc I I)<|rS (oT i 0 (cz.cells x) U cd (aA 2 U) AA U dc U U)<|AL U yv fun V=>fX U AX U<|RK E<|WS fun _ F=>rP 5 [0,1] (mc 2 U (mc 0 U mn)) ?_
 have T:=hc.uq hx
 have Z:=Bj hc ha i
 have Y:=FP J ha (show 0≤x.At∧x.At≤90000000 by omega)
 refine fu 5 [] (mc 0 U mn) U<|rS (MX U)<|rS (BI U (Gu ⟨I,I⟩))<|rS (CL (Pu (c.dw*(max (at_-x.At) (x.At-at_))) 1000000 I I) (aI) U)<|bh 1 U<|RK F<|ak<|rP 6 [0,1] (mc 4 U (mc 0 U mn)) ?_
 have a:0≤pk (c.dw*max (at_-x.At) (x.At-at_)) 1000000∧pk (c.dw*max (at_-x.At) (x.At-at_)) 1000000≤90001:=ux J ha T.1
 refine bh 1 U<|rS (MX U)<|rP 7 [0,1] (mc 4 U (mc 0 U mn)) ?_
 refine rS (MN U)<|rS (SX (bk (xs:=[(0,.tmp 37),(1,.tmp 45)]) (cs:=(aa.cells (aa.mk (max ((gG c at_ i).Lo) (x.eI.Lo-(pk (c.dw*(max (at_-x.At) (x.At-at_))) 1000000))) (min ((gG c at_ i).Hi) (x.eI.Hi+(pk (c.dw*(max (at_-x.At) (x.At-at_))) 1000000)))))) U U (bj gv U)) U U)<|PI U cx U<|aC<|aB<|KK D ?_
 have H:(aa.cells (aa.mk (max ((gG c at_ i).Lo) (x.eI.Lo-(pk (c.dw*(max (at_-x.At) (x.At-at_))) 1000000))) (min ((gG c at_ i).Hi) (x.eI.Hi+(pk (c.dw*(max (at_-x.At) (x.At-at_))) 1000000)))))=(aa.cells (gG c at_ (i+1))):=by rw [jW hx]; rfl
 rw [H]
 refine ak<|rP 2 [] mn ?_
 refine aC ?_
 have AB:(vI (((i+1):Nat):Int))=(vI ((i:Int)+1)):=by exact cI I
 refine aR (L ⟨(i+1),(by first|omega|(simp only []; omega))⟩ _ _ _ U os (cK 6<|aY U AB<|du.nil _) (aH [1,2,3,4]))
theorem Rj (c:ar) (sA:OA) (sC:Nat) (hlen:c.bq.length≤1000000) (hcap:c.bq.length≤sC):
 ep Tryz.prog 157 [(vA (dq.cells (dq.mk c.dw (bo.mk sA c.bq.length sC))))] [(rd sA c.bq.length 3 (c.bq.map cz.cells))] (vB (decide (e_ c))):=by
 refine bG kr Tryz.func157 U U fun w0 Q hQ hN=>?_
 try dsimp only
 refine WS fun _ A9=>fQ U fun b2=>bh 1 U<|RK A9<|AD U<|aj fun _ B3=>WS fun _ q=>rP 2 [] (mc 0 U mn) ?_
 refine df (xs:=[.tmp 11]) (cs:=[(vI c.dw)]) U cw js U U U U (by simp [Value.cells]) U U fun b5=>?_
 refine rS (CL (ep.eq (je 0 1000 ([c.dw]) (some ⟨b5,0,none⟩) 1 (by (simp; done))) cY) (av (bf 0 U U (by simp [bI]) U)<|aI) U) ?_
 refine rP 2 [] mn ?_
 refine dh (t:=15) U (bu fun AB=>?_) (br fun AB=>?_)
 ·refine bh 7 U<|RK q<|aQ U<|WS fun _ B7=>rP 1 [] mn ?_
  refine RK B7<|aq<|Q1 hQ U U U ?_
  exact cB (cq fun h=>AB h.rV).symm
 refine rP 3 [] (mc 1 U mn) ?_
 refine df (xs:=[.tmp 18]) (cs:=[(vI (c.bq.length:Int))]) U cw js U U U U (by simp [Value.cells]) U U fun b7=>?_
 refine rS (CL (ep.eq (je 1 5 ([(c.bq.length:Int)]) (some ⟨b7,0,none⟩) 1 (by (simp; done))) cY) (av (bf 0 U U (by simp [bI]) U)<|aI) U) ?_
 refine rP 2 [] mn ?_
 refine RK q<|cH U (bu fun O=>?_) (br fun O=>?_)
 ·refine WS fun _ B9=>rP 1 [] mn ?_
  refine RK B9<|aq<|Q1 hQ U U U ?_
  exact cB (cq fun h=>O (by have:=h.len; omega)).symm
 refine WK B3<|WS fun _ Ci=>bh 1 U<|RK Ci<|WS fun _ R=>bh 1 U<|RK R<|aj fun _ S=>A_<|KK S<|aj fun _ K=>WS fun _ T=>rP 4 [] (mc 2 U mn) ?_
 refine RK T<|ax ?_
 have B:(0≤c.bq.length)∧(su c 0):=by exact ⟨Nat.zero_le _,Hy⟩
 have r:(vI (kp c 0))=(vI (-1)):=by rw [gI rfl]
 refine bL (ι:={z:Nat // (z≤c.bq.length)∧(su c z)}) [1,2,4,24,25] [2,3] U U (fun z=>[(3,(vI (kp c z.1))),(26,(vI (z.1:Int)))]) (fun z=>[]) (fun _=>rfl) (fun _=>rfl) (fun z=>c.bq.length-z.1) ⟨0,B⟩ (aY U r<|aV U) (aH [2,3]) ?_
 clear B
 rintro ⟨i,⟨L,C⟩⟩ J15 P
 try dsimp only
 have Di: -1≤kp c i∧kp c i≤86400000:=QO L C
 refine WS fun _ AA=>rP 1 [] mn ?_
 refine RK AA<|aj fun _ V=>bQ U (aO fun A4=>?_) (aN fun A4=>?_)
 ·refine bD<|ab<|ab<|ay<|KK K<|WS fun _ f=>rP 2 [] mn ?_
  refine RK f<|aq<|Q1 hQ U U U ?_
  exact cB (fR (GR AB I (by have e:i=c.bq.length:=I; rw [← e]; exact C))).symm
 refine WK V<|aj fun _ W=>ax<|WS fun _ X=>rP 1 [] mn ?_
 obtain ⟨x,hx⟩:=aJ c.bq i I
 have Cx:=bK cz.cells hx
 refine rS (IA i U (aA 1 U) vJ dc I I)<|rS (oT i 0 (cz.cells x) U cd (aA 1 U) Cx U dc U U)<|AL U yv fun C0=>rP 1 [] mn ?_
 refine fX U AX U<|RK X ?_
 refine oJ (ι:=Unit) [1,2,3,5,6,24,25,26] [0,1,2] U U (fun z=>[(4,(vB (decide (fB c i x))))]) (fun z=>[]) (fun _=>rfl) (fun _=>rfl) ?_ fun K22 G=>?_
 ·intro _
  try dsimp only
  refine aj fun _ Y=>WS fun _ Z=>fu 3 [] (mc 1 U mn) U<|rS (UE i U vJ I I)<|rP 2 [] mn ?_
  refine RK Z<|ax ?_
  have B:(0≤i)∧((decide (fB c i x))=(decide (mj c i x 0))):=by exact ⟨Nat.zero_le _,gi.2 EZ.symm⟩
  refine bL (ι:={z:Nat×Bool // (z.1≤i)∧(z.2=(decide (mj c i x z.1)))}) [1,2,3,5,6,24,25,26,59,60] [0,1,2] U U (fun z=>[(4,(vB z.1.2)),(61,(vI (z.1.1:Int)))]) (fun z=>[]) (fun _=>rfl) (fun _=>rfl) (fun z=>i-z.1.1) ⟨(0,(decide (fB c i x))),B⟩ (aV U) (aH [0,1,2]) ?_
  clear B
  rintro ⟨⟨k,b⟩,⟨M,A⟩⟩ J25 F
  try dsimp only at M A
  try dsimp only
  refine WS fun _ a=>rP 1 [] mn ?_
  refine RK a<|aj fun _ d=>bQ U (aO fun A6=>?_) (aN fun A6=>?_)
  ·refine bD<|ab<|ab<|ay<|KK Y<|aj fun _ m=>WS fun _ n=>rP 2 [] mn ?_
   refine RK n<|cH U (fun D=>?_) (fun D=>?_)
   ·rw [Bool.not_eq_true'] at D
    refine bD<|ab<|iU U<|ab<|ab<|ay<|KK K<|WS fun _ p=>rP 2 [] mn ?_
    refine RK p<|aq<|Q1 hQ U U U ?_
    exact cB (by have e:k=i:=I; rw [e] at A; rw [D] at A ⊢; exact (cq (KP hx (of_decide_eq_false A.symm))).symm)
   rw [Bool.not_eq_false'] at D
   refine WK m<|ak<|fu 3 [] (mc 0 U mn) U<|aC<|aB<|KK W<|ak<|rP 2 [] mn ?_
   refine aC ?_
   have Ai:(vB true)=(vB b):=by exact cB D.symm
   have As:(vI (kp c (i+1)))=(vI x.At):=by rw [oE hx]
   have A0:(vI (((i+1):Nat):Int))=(vI ((i:Int)+1)):=by exact cI I
   refine aR (P ⟨(i+1),⟨I,Hu C hx (by have e:k=i:=I; rw [e] at A; exact of_decide_eq_true (A.symm.trans D))⟩⟩ _ _ _ U os (du.cons U<|du.cons U<|aY U Ai<|du.cons U<|du.cons U<|aY U As<|aY U A0<|du.nil _) (aH [1,2]))
  refine WK d<|aj fun _ H=>ax<|WS fun _ g=>?_
  obtain ⟨o,ho⟩:=aJ c.bq k I
  have Ck:=bK cz.cells ho
  refine rS (TK k U (aA 2 U) vJ dc I I I)<|rS (oT k 0 (cz.cells o) U cd (aA 2 U) Ck U dc U U)<|AL U yv fun C1=>fX U AX U<|RK g<|WS fun _ l=>fu 6 [0,1,2] (mc 2 U (mc 1 U (mc 0 U mn))) U<|rS (BI U JB)<|rS (BI U PT)<|rS (CL (US (Bg (c.dw*(Bg (x.At-o.At)))) 1000000 I) (aI) U)<|bh 1 U<|RK l<|ak<|rP 2 [] mn ?_
  refine bY (t:=75) U (fun J=>?_) (fun J=>?_)
  ·refine bh 6 U<|bh 16 U<|aC<|aB<|KK H<|ak<|rP 2 [] mn ?_
   refine aC ?_
   have AO:(vI (((k+1):Nat):Int))=(vI ((k:Int)+1)):=by exact cI I
   refine aR (F ⟨((k+1),false),⟨I,by exact (cq fun h=>by have h2:=((sN ho).1 h).1; rw [A] at J; exact absurd (fR h2) (by rw [J]; decide)).symm⟩⟩ _ _ _ U os (cK 11<|aY U AO<|du.nil _) (aH [1,2,3]))
  refine rP 6 [0,1] (mc 1 U (mc 0 U mn)) ?_
  have A1:mj c i x k:=of_decide_eq_true (A.symm.trans J)
  obtain ⟨Cp,Dk,Do⟩:=uo (fun j y hj hy=>(C j y hj hy).1) hx A1.1 I ho
  have N:=N6 AB Cp
  refine rP 5 [] mn ?_
  refine bY (t:=86) U (aO fun E=>?_) (aN fun E=>?_)
  ·refine bh 11 U<|aC<|aB<|KK H<|ak<|rP 2 [] mn ?_
   refine aC ?_
   have AC:(vI (((k+1):Nat):Int))=(vI ((k:Int)+1)):=by exact cI I
   refine aR (F ⟨((k+1),false),⟨I,by exact (cq fun h=>by have h2:=((sN ho).1 h).2; rw [N] at E; exact E h2.1).symm⟩⟩ _ _ _ U os (cK 11<|aY U AC<|du.nil _) (aH [1,2,3]))
  refine fu 11 [0,1] (mc 0 U (mc 1 U mn)) U<|aC<|aB<|KK H<|ak<|rP 2 [] mn ?_
  refine aC ?_
  have w:(vI (((k+1):Nat):Int))=(vI ((k:Int)+1)):=by exact cI I
  refine aR (F ⟨((k+1),(decide ((o.eI.Lo-x.eI.Hi)≤(Tl (Bg (c.dw*(Bg (x.At-o.At)))) 1000000)))),⟨I,by exact gi.2 (by rw [sN ho,N]; rw [N] at E; exact ⟨fun h=>⟨A1,E,h⟩,fun h=>h.2.2⟩)⟩⟩ _ _ _ U os (cK 11<|aY U w<|du.nil _) (aH [1,2,3]))
 refine ak<|rP 4 [] (mc 0 U mn) ?_
 refine df (xs:=[.tmp 34]) (cs:=[(vI x.At)]) U cw js U U U U (by simp [Value.cells]) U U fun A2=>?_
 refine rS (CL (ep.eq (je ((kp c i)+1) 86400000 ([x.At]) (some ⟨A2,0,none⟩) 1 (by (simp; done))) cY) (av (bf 0 U U (by simp [bI]) U)<|aI) U) ?_
 refine rP 1 [] mn ?_
 refine bY (t:=37) U (aO fun A7=>?_) (aN fun A7=>?_)
 ·refine rP 19 [] mn ?_
  refine aC ?_
  have v:(decide (fB c i x))=false:=cq (by unfold fB; omega)
  refine aR (jT (cK 8<|nV U v<|du.nil _) (aH [1,2,3]) (G ()))
 refine rP 6 [] (mc 1 U mn) ?_
 refine df (xs:=[.tmp 40,.tmp 43]) (cs:=[(vI x.eI.Lo),(vI x.eI.Hi)]) U cw js U U U U (by simp [Value.cells]) U U fun A3=>?_
 refine rS (CL (ep.eq (je (-10000) 10000 ([x.eI.Lo,x.eI.Hi]) (some ⟨A3,0,none⟩) 2 (by (simp; done))) re) (av (bf 0 U U (by simp [bI]) U)<|aI) U) ?_
 refine rP 2 [] mn ?_
 refine bY (t:=47) U (aO fun A8=>?_) (aN fun A8=>?_)
 ·refine rP 9 [] mn ?_
  refine aC ?_
  have u:(decide (fB c i x))=false:=cq (by unfold fB; omega)
  refine aR (jT (cK 8<|nV U u<|du.nil _) (aH [2,3,4]) (G ()))
 refine rP 9 [] (mc 2 U mn) ?_
 refine aC ?_
 have s:(decide (fB c i x))=(decide (x.eI.Lo≤x.eI.Hi)):=gi.2 (by unfold fB; omega)
 refine aR (jT (cK 8<|nV U s<|du.nil _) (aH [2,3,4]) (G ()))
theorem TH (ms:List ar) (az:List RA) (k:Nat) (m:ar) (a:RA) (hm:ms[k]? =some m) (ha:az[k]? =some a) (hc:m.bq.length≤a.2∧m.bq.length≤1000000):
 ep Tryz.prog 156 [(vA (dq.cells (dq.mk m.dw (bo.mk a.1 m.bq.length a.2))))] [(fc (aU ar.g4 ms az))] (vB (!(decide (e_ m)))):=by
 obtain ⟨C,D⟩:=hc
 refine bG kr Tryz.func156 U U fun F Q hQ hN=>?_
 try dsimp only
 refine WS fun _ A=>fQ U fun E=>bh 1 U<|RK A<|WS fun _ B=>fu 1 [] (mc 0 U mn) U<|rS (CL (Rj m a.1 a.2 asm asm) (av (show jc _ (rd a.1 m.bq.length 3 (m.bq.map cz.cells)).holds from (dk 1 U (bV hm ha (by simp [ar.g4]))))<|aI) U)<|rP 2 [] mn ?_
 refine RK B<|aq ?_
 exact Q1 hQ U U U U
theorem He (l:List ar) (az:List RA) (lA:OA) (lC:Nat) (f:Value) (p:ar→Bool) (X:au) (hf: ∀ (k:Nat) m a,l[k]? =some m→az[k]? =some a→DO Tryz.prog f [.agg (ar.cells m a).toArray] [X] (.bool (p m))) (hlen:l.length≤1000000) (has:az.length=l.length):
 ep Tryz.prog 180 [(vS lA l.length lC),f] [(rd lA l.length 2 (List.zipWith ar.cells l az)),(fc (aU ar.g4 l az)),X] (vI (tY p l)):=by
 refine bG kr Tryz.func180 U U fun T Q hQ hN=>?_
 try dsimp only
 refine WS fun _ AA=>bh 1 U<|RK AA<|aj fun _ J=>WS fun _ K=>rP 3 [] mn ?_
 refine RK K<|ax ?_
 have B:(0≤l.length)∧((l.take 0).any p=false):=by simp
 refine bL (ι:={z:Nat // (z≤l.length)∧((l.take z).any p=false)}) [0,1,7] [0,1,2] U U (fun z=>[(8,(vI (z.1:Int)))]) (fun z=>[]) (fun _=>rfl) (fun _=>rfl) (fun z=>l.length-z.1) ⟨0,B⟩ (aV U) (aH [0,1,2]) ?_
 clear B
 rintro ⟨i,⟨P,A⟩⟩ J4 H
 try dsimp only
 refine WS fun _ L=>rP 1 [] mn ?_
 refine RK L<|aj fun _ M=>bQ U (aO fun S=>?_) (aN fun S=>?_)
 ·refine bD<|ab<|ab<|ay<|KK J<|WS fun _ E=>rP 1 [] mn ?_
  refine RK E<|aq<|Q1 hQ U U U ?_
  exact cI (sM I A).symm
 refine WK M<|aj fun _ N=>ax<|WS fun _ O=>bh 2 U<|RK O<|WS fun _ C=>rP 3 [] mn ?_
 obtain ⟨x,hx⟩:=aJ l i I
 obtain ⟨xa,G⟩:=aJ az i I
 have R:(List.zipWith ar.cells l az)[i]? =some (ar.cells x xa):=dG hx G
 refine rS (IA i U (aA 0 U) vD dc I I)<|rS (oT i 0 (dq.cells (dq.mk x.dw (bo.mk xa.1 x.bq.length xa.2))) U cd (aA 0 U) R U dc U U)<|rS (SX (sD U U U (hf i x xa hx G) (bg [2])) U U)<|RK C<|cH U (fun hp=>?_) (fun hp=>?_)
 ·refine WS fun _ D=>rP 2 [] mn ?_
  refine RK D<|aq<|Q1 hQ U U U ?_
  exact cI (xp hx hp A).symm
 refine bZ<|aB<|KK N<|ak<|rP 2 [] mn ?_
 refine aC ?_
 have F:(vI (((i+1):Nat):Int))=(vI ((i:Int)+1)):=by exact cI I
 refine aR (H ⟨(i+1),⟨I,xb hx A hp⟩⟩ _ _ _ U os (cK 3<|aY U F<|du.nil _) (aH [0,1,2]))
theorem Ba (l:List ar) (az:List RA) (lA:OA) (lC:Nat) (f:Value) (p:ar→Bool) (X:au) (hf: ∀ (k:Nat) m a,l[k]? =some m→az[k]? =some a→DO Tryz.prog f [.agg (ar.cells m a).toArray] [X] (.bool (p m))) (hlen:l.length≤1000000) (has:az.length=l.length):
 ep Tryz.prog 155 [(vS lA l.length lC),f] [(rd lA l.length 2 (List.zipWith ar.cells l az)),(fc (aU ar.g4 l az)),X] (vB (l.any p)):=by
 refine bG kr Tryz.func155 U U fun C Q hQ hN=>?_
 try dsimp only
 refine WS fun _ A=>bh 1 U<|RK A<|WS fun _ B=>bh 2 U<|rS (CL (He l az lA lC f p X (by exact hf) hlen has) (Oq 0 1 2 U U U U U U) U)<|rP 2 [] mn ?_
 refine RK B<|aq<|Q1 hQ U U U ?_
 exact cB uw
theorem HQ (l:List bH) (lA:OA) (lC:Nat) (f:Value) (p:bH→Bool) (X:au) (hf: ∀ x0,x0∈l→DO Tryz.prog f [.agg (bH.cells x0).toArray] [X] (.bool (p x0))) (hlen:l.length≤1000000):
 ep Tryz.prog 181 [(vS lA l.length lC),f] [(rd lA l.length 4 (l.map bH.cells)),X] (vI (tY p l)):=by
 refine bG kr Tryz.func181 U U fun S Q hQ hN=>?_
 try dsimp only
 refine WS fun _ H=>bh 1 U<|RK H<|aj fun _ AA=>WS fun _ J=>rP 3 [] mn ?_
 refine RK J<|ax ?_
 have B:(0≤l.length)∧((l.take 0).any p=false):=by simp
 refine bL (ι:={z:Nat // (z≤l.length)∧((l.take z).any p=false)}) [0,1,7] [0,1] U U (fun z=>[(8,(vI (z.1:Int)))]) (fun z=>[]) (fun _=>rfl) (fun _=>rfl) (fun z=>l.length-z.1) ⟨0,B⟩ (aV U) (aH [0,1]) ?_
 clear B
 rintro ⟨i,⟨O,A⟩⟩ J4 G
 try dsimp only
 refine WS fun _ K=>rP 1 [] mn ?_
 refine RK K<|aj fun _ L=>bQ U (aO fun R=>?_) (aN fun R=>?_)
 ·refine bD<|ab<|ab<|ay<|KK AA<|WS fun _ E=>rP 1 [] mn ?_
  refine RK E<|aq<|Q1 hQ U U U ?_
  exact cI (sM I A).symm
 refine WK L<|aj fun _ M=>ax<|WS fun _ N=>bh 2 U<|RK N<|WS fun _ C=>rP 3 [] mn ?_
 obtain ⟨x,hx⟩:=aJ l i I
 have P:=bK bH.cells hx
 refine rS (IA i U (aA 0 U) uG dc I I)<|rS (oT i 0 (bH.cells x) U cd (aA 0 U) P U dc U U)<|rS (SX (sD U U U (hf x (aT hx)) (bg [1])) U U)<|RK C<|cH U (fun hp=>?_) (fun hp=>?_)
 ·refine WS fun _ D=>rP 2 [] mn ?_
  refine RK D<|aq<|Q1 hQ U U U ?_
  exact cI (xp hx hp A).symm
 refine bZ<|aB<|KK M<|ak<|rP 2 [] mn ?_
 refine aC ?_
 have F:(vI (((i+1):Nat):Int))=(vI ((i:Int)+1)):=by exact cI I
 refine aR (G ⟨(i+1),⟨I,xb hx A hp⟩⟩ _ _ _ U os (cK 3<|aY U F<|du.nil _) (aH [0,1]))
theorem Ac (l:List bH) (lA:OA) (lC:Nat) (f:Value) (p:bH→Bool) (X:au) (hf: ∀ x0,x0∈l→DO Tryz.prog f [.agg (bH.cells x0).toArray] [X] (.bool (p x0))) (hlen:l.length≤1000000):
 ep Tryz.prog 159 [(vS lA l.length lC),f] [(rd lA l.length 4 (l.map bH.cells)),X] (vB (l.any p)):=by
 refine bG kr Tryz.func159 U U fun C Q hQ hN=>?_
 try dsimp only
 refine WS fun _ A=>bh 1 U<|RK A<|WS fun _ B=>bh 2 U<|rS (CL (HQ l lA lC f p X (by exact hf) hlen) (bg [0,1]) U)<|rP 2 [] mn ?_
 refine RK B<|aq<|Q1 hQ U U U ?_
 exact cB uw
end
section
open Go.RowKit
theorem pG (a:aa) (l:List aa) (lA:OA) (lC:Nat) (ha:lF a) (hl: ∀ z∈l,lF z) (hlen:l.length≤4):
 ep Tryz.prog 175 [(vA (aa.cells a)),(vS lA l.length lC)] [(rd lA l.length 2 (l.map aa.cells))] (vA (aa.cells (kI a l))):=by
 refine bG kr Tryz.func175 U U fun AA Q hQ hN=>?_
 try dsimp only
 refine WS fun _ AB=>fQ U fun R=>AL U dp fun T=>RK AB<|aj fun _ J=>WS fun _ K=>rP 3 [] mn ?_
 refine RK K<|ax ?_
 have A:(0≤l.length):=by exact Nat.zero_le _
 refine bL (ι:={z:Nat // (z≤l.length)}) [2,4,7,8] [0,2] U U (fun z=>[(9,(vI (z.1:Int)))]) (fun z=>[(cb R 45 (aa.cells (kI a (l.take z.1))))]) (fun _=>rfl) (fun _=>rfl) (fun z=>l.length-z.1) ⟨0,A⟩ (aV U) (aH [0,2,1]) ?_
 clear A
 rintro ⟨i,N⟩ J6 H
 try dsimp only
 refine WS fun _ L=>rP 1 [] mn ?_
 refine RK L<|aj fun _ M=>bQ U (aO fun S=>?_) (aN fun S=>?_)
 ·refine bD<|ab<|ab<|ay<|KK J<|aj fun _ D=>?_
  have G:(aa.cells (kI a (l.take i)))=(aa.cells (kI a l)):=by rw [K3 I]
  rw [G]
  refine ak<|rP 1 [] (mc 2 U mn) ?_
  refine fX U cx U<|RK D<|aq ?_
  exact IC hQ [0] (mc 0 U mn) U U
 refine WK M<|aj fun _ B=>ax<|WS fun _ C=>?_
 obtain ⟨x,hx⟩:=aJ l i I
 have O:=bK aa.cells hx
 refine rS (IA i U (aA 1 U) gY dc I I)<|rS (oT i 0 (aa.cells x) U cd (aA 1 U) O U dc U U)<|AL U dp fun P=>fX U cx U<|RK C<|ak ?_
 have hb:=QZ ha hl i
 have hz:=hl x (aT hx)
 unfold lF at hz
 refine rP 10 [0,1,0,1] (mc 3 U (mc 0 U mn)) ?_
 refine rS (SX (bk (xs:=[(0,.tmp 17),(1,.tmp 22)]) (cs:=(aa.cells (aa.mk (((kI a (l.take i)).Lo)+x.Lo) (((kI a (l.take i)).Hi)+x.Hi)))) U U (bj gv U)) U U)<|UH U cx U<|aC<|aB<|KK B ?_
 have E:(aa.cells (aa.mk (((kI a (l.take i)).Lo)+x.Lo) (((kI a (l.take i)).Hi)+x.Hi)))=(aa.cells (kI a (l.take (i+1)))):=by rw [yM hx]; rfl
 rw [E]
 refine ak<|rP 2 [] mn ?_
 refine aC ?_
 have F:(vI ((i+1):Int))=(vI ((i:Int)+1)):=by exact cI I
 refine aR (H ⟨(i+1),(by first|omega|(simp only []; omega))⟩ _ _ _ U os (cK 4<|aY U F<|du.nil _) (aH [1,2,3]))
theorem GB (ts:List al) (tsA:OA) (tsC:Nat) (hlen:ts.length≤1000000) (hside: ∀ x∈ts,0≤x.jo∧x.jo≤255):
 ep Tryz.prog 172 [(vA (bB.cells (bB.mk (bo.mk tsA ts.length tsC))))] [(rd tsA ts.length 9 (ts.map al.cells))] (vT [(vA (eE.cells (eE.mk (bB.mk (bo.mk tsA ts.length tsC))))),(vI (if c_ ts=true then 0 else 10))]):=by
 refine bG kr Tryz.func172 U U fun E Q hQ hN=>?_
 try dsimp only
 refine WS fun _ A=>fQ U fun C=>AL U Mq fun D=>bh 1 U<|RK A<|aj fun _ B=>dK cE 4 kr<|mT 1 [] (mc 1 U mn) U<|dS (SX (bk (xs:=[(0,.tmp 4)]) (cs:=(eE.cells (eE.mk (bB.mk (bo.mk tsA ts.length tsC))))) U U (bj RX U)) U U)<|mT 1 [] (mc 1 U mn) U<|dS (CL (BQ ts tsA tsC hlen hside) (bg [2]) U)<|cR<|fX U Mu U<|rP 1 [] mn ?_
 refine RK B<|aq ?_
 exact lG hQ [0] (mc 0 U mn) U U
theorem OT (f:Int) (tsA:OA) (tsN tsC:Nat):
 ld Tryz.prog 186 [(vA (eE.cells (eE.mk (bB.mk (bo.mk tsA tsN tsC))))),(vI f)] [] (fun (x:Nat×Nat)=>(Value.func (.func 190) [].toArray [(Value.pointer (some ⟨x.1,0,none⟩)),(Value.pointer (some ⟨x.2,0,none⟩))].toArray)) (fun (x:Nat×Nat)=>True) (fun (x:Nat×Nat)=>[(cb x.1 3 [(vI f)]),(cb x.2 237 (eE.cells (eE.mk (bB.mk (bo.mk tsA tsN tsC)))))]):=by
 refine dg kr Tryz.func186 U U fun E Q hQ hN=>?_
 try dsimp only
 refine WS fun _ A=>fQ U fun C=>uC U U fun D=>bh 1 U<|RK A<|WS fun _ B=>rS (FU U)<|rP 1 [] mn ?_
 refine RK B<|aq<|LX hQ (D,C) [0,1] [] mn U U U U ?_
 trivial
theorem Hd (ts:List al) (tsA:OA) (tsC:Nat) (f:Int) (g1 g2:Nat) (hst: ∀ x∈ts,bP x) (hlen:ts.length≤12) (hf:0≤f∧f≤ts.length):
 Oo Tryz.prog 190 [] [(vP g1),(vP g2)] [(rd tsA ts.length 9 (ts.map al.cells)),(cb g1 3 [(vI f)]),(cb g2 237 (eE.cells (eE.mk (bB.mk (bo.mk tsA ts.length tsC)))))] (te ts f.toNat):=by
 refine Fs kr Tryz.func190 U U fun l J Z A0 p Q hY g d hQ hN=>?_
 try dsimp only
 refine WS fun _ h=>AL U dp fun n=>AL U dp fun o=>RK h<|WS fun _ i=>rP 2 [] (mr 4 U mn) ?_
 refine RK i<|ax ?_
 have P:(0≤ts.length-f.toNat)∧(J 0 A0)∧(Fo A0 p A0):=by exact ⟨Nat.zero_le _,g,d⟩
 have m:(vI (f+(0:Int)))=(vI f):=by exact cI I
 refine bL (ι:={z:Nat×au // (z.1≤ts.length-f.toNat)∧(J z.1 z.2)∧(Fo A0 p z.2)}) [0,1,2,4,5] [3,4,5] U U (fun z=>[(6,(vI (f+(z.1.1:Int))))]) (fun z=>[(cb o 45 (aa.cells (gr ts f.toNat z.1.1))),(cb n 45 (aa.cells (eK ts f.toNat z.1.1))),z.1.2]) (fun _=>rfl) (fun _=>rfl) (fun z=>ts.length-f.toNat-z.1.1) ⟨(0,A0),P⟩ (aY U m<|du.nil _) (aH [3,4,5,0,1,2]) ?_
 clear P
 rintro ⟨⟨k,A⟩,⟨W,R,S⟩⟩ J6 V
 try dsimp only at W R S
 try dsimp only
 refine aj fun _ j=>WS fun _ X=>rP 3 [0,1] (mc 4 U (mc 3 U mn)) ?_
 refine Fp 5 hY R S U U U (yJ I) U U (fun B9 C B=>?_) (fun B9 C B=>?_)
 rotate_left 1
 ·refine rP 8 [] mn ?_
  refine RK X<|aW U<|bD<|ab<|ab<|ay ?_
  refine hN _ _ _ (hE (vs:=[]) trivial fun w hs=>PE 5 U C B hs)
 refine rP 8 [] (mr 2 U mn) ?_
 refine RK X<|bQ U (aO fun c=>?_) (aN fun c=>?_)
 ·refine bD<|ab<|ab<|ay ?_
  refine hN _ _ _ (hE (vs:=[]) trivial fun w hs=>SG 5 U (by rw [tw]; have e:ts.length-f.toNat+1=k+1:=I; rw [e]; exact C) B hs)
 refine WK j<|aj fun _ M=>ax<|pw cE [0,1,2,3,4,5,6,7,10,11,12,13,14,15,16,17] [8,9,18,19,20,21] [true,false,false,false,false,false,false,false,true,false,false,false,false,false,false,false] [8,9,18] [(rd tsA ts.length 9 (ts.map al.cells)).ro,(cb g1 3 [(vI f)]).ro,(cb g2 237 (eE.cells (eE.mk (bB.mk (bo.mk tsA ts.length tsC))))).ro,B9] [(rd tsA ts.length 9 (ts.map al.cells)).ro,(cb g1 3 [(vI f)]).ro,(cb g2 237 (eE.cells (eE.mk (bB.mk (bo.mk tsA ts.length tsC))))).ro,(cb o 45 (aa.cells (gr ts f.toNat k))),(cb n 45 (aa.cells (eK ts f.toNat k))),B9] kr (aH [0,1,2,5]) (aH [0,1,2,3,4,5])<|fS U (LW 4 U cd U U)<|eS U (FA 0 U fp U)<|eS U (FA 0 U fp U)<|eS U (IB (vS tsA ts.length tsC) 2 U cd U U)<|eS U (MV U) ?_
 obtain ⟨x,hx⟩:=aJ ts (f.toNat+k) I
 have a:=bK al.cells hx
 refine eS U (IA (f.toNat+k) U (aA 0 U) w8 dc I I) ?_
 have L:=hst x (aT hx)
 refine eS U (mW (((f.toNat+k)*9)+1) U (aA 0 U) (Nat.mul_pos I dc) fp U)<|eS U (oT (f.toNat+k) 1 (aa.cells x.kD) U cd (aA 0 U) a U dc U U)<|fS U (LW 3 U cd U U)<|eS U (FA 0 U fp U)<|eS U (FA 0 U fp U)<|eS U (IB (vS tsA ts.length tsC) 2 U cd U U)<|eS U (MV U)<|eS U (IA (f.toNat+k) U (aA 0 U) w8 dc I I)<|eS U (mW (((f.toNat+k)*9)+3) U (aA 0 U) (Nat.mul_pos I dc) fp U)<|eS U (oT (f.toNat+k) 3 (aa.cells x.lO) U cd (aA 0 U) a U dc U U)<|eT U<|iX [8,18] kr (eN ?_<|eN ?_<|kB)
 rotate_left 1
 ·refine vn (rem':=[8,9,19,20,21]) U kr fun T14 N=>df (xs:=[.tmp 39]) (cs:=(aa.cells x.lO)) U gY dp U U U U (by simp [Value.cells,aa.aX]) U U fun T=>aC (N _ _ (aH [1,2,3,6]) (aH [1,2,3,4,5,6]) ?_)
  refine N1 8<|vn (rem':=[9,19,20,21]) U kr fun T16 D=>df (xs:=[.tmp 29]) (cs:=(aa.cells x.kD)) U gY dp U U U U (by simp [Value.cells,aa.aX]) U U fun AA=>aC (D _ _ (aH [2,3,4,7]) (aH [2,3,4,5,6,7]) ?_)
  refine N1 9<|vn (rem':=[19,20,21]) U kr fun T18 O=>?_
  refine rS (CL (ep.eq (pG (eK ts f.toNat k) ([x.kD]) (some ⟨AA,0,none⟩) 1 (by exact qH hst I) (by intro z hz; simp only [bJ] at hz; subst hz; exact uh L) sm) nM) (av (bf 0 rfl rfl (by simp [aa.aX]) rfl)<|aI) rfl) ?_
  refine aC (O _ _ (aH [2,3,4,7]) (aH [2,3,4,5,6,7]) ?_)
  refine N1 19<|NO U U [20,21] fun T19 E=>?_
  refine rS (CL (ep.eq (pG (gr ts f.toNat k) ([x.lO]) (some ⟨T,0,none⟩) 1 (by exact wZ hst I) (by intro z hz; simp only [bJ] at hz; subst hz; exact um L) sm) nM) (av (bf 1 rfl rfl (by simp [aa.aX]) rfl)<|aI) rfl) ?_
  refine aC (E _ _ (aH [2,3,4,7]) ?_)
  refine N1 20<|NO U U [21] fun T20 F=>OH U cx U<|aC (F _ _ (aH [2,3,4,7]) ?_)
  refine N1 21<|NO U U [] fun T21 G=>ID U cx U<|aC (G _ _ (aH [2,3,4,7]) ?_)
  refine p_<|aB<|KK M ?_
  have H:(aa.cells (mI (eK ts f.toNat k) x.kD))=(aa.cells (eK ts f.toNat (k+1))):=by rw [pM hx]
  rw [H]
  have AB:(aa.cells (mI (gr ts f.toNat k) x.lO))=(aa.cells (gr ts f.toNat (k+1))):=by rw [pN hx]
  rw [AB]
  refine ak<|rP 3 [] mn ?_
  refine aC ?_
  have K:(vI (f+(((k+1):Nat):Int)))=(vI ((f+(k:Int))+1)):=by exact cI I
  refine aR (V ⟨((k+1),B9),⟨I,C,B⟩⟩ _ _ _ U os (cK 5<|aY U K<|du.nil _) (aH [2,3,4,5,6,7]))
 refine vn (rem':=[9,18,19,20,21]) U kr fun T14 N=>df (xs:=[.tmp 29]) (cs:=(aa.cells x.kD)) U gY dp U U U U (by simp [Value.cells,aa.aX]) U U fun T=>aC (N _ _ (aH [1,2,3,6]) (aH [1,2,3,4,5,6]) ?_)
 refine iX [9,18] kr (eN ?_<|eN ?_<|kB)
 rotate_left 1
 ·refine vn (rem':=[9,19,20,21]) U kr fun T16 D=>df (xs:=[.tmp 39]) (cs:=(aa.cells x.lO)) U gY dp U U U U (by simp [Value.cells,aa.aX]) U U fun AA=>aC (D _ _ (aH [2,3,4,7]) (aH [2,3,4,5,6,7]) ?_)
  refine N1 9<|vn (rem':=[19,20,21]) U kr fun T18 O=>?_
  refine rS (CL (ep.eq (pG (eK ts f.toNat k) ([x.kD]) (some ⟨T,0,none⟩) 1 (by exact qH hst I) (by intro z hz; simp only [bJ] at hz; subst hz; exact uh L) sm) nM) (av (bf 1 rfl rfl (by simp [aa.aX]) rfl)<|aI) rfl) ?_
  refine aC (O _ _ (aH [2,3,4,7]) (aH [2,3,4,5,6,7]) ?_)
  refine N1 19<|NO U U [20,21] fun T19 E=>?_
  refine rS (CL (ep.eq (pG (gr ts f.toNat k) ([x.lO]) (some ⟨AA,0,none⟩) 1 (by exact wZ hst I) (by intro z hz; simp only [bJ] at hz; subst hz; exact um L) sm) nM) (av (bf 0 rfl rfl (by simp [aa.aX]) rfl)<|aI) rfl) ?_
  refine aC (E _ _ (aH [2,3,4,7]) ?_)
  refine N1 20<|NO U U [21] fun T20 F=>OH U cx U<|aC (F _ _ (aH [2,3,4,7]) ?_)
  refine N1 21<|NO U U [] fun T21 G=>ID U cx U<|aC (G _ _ (aH [2,3,4,7]) ?_)
  refine p_<|aB<|KK M ?_
  have H:(aa.cells (mI (eK ts f.toNat k) x.kD))=(aa.cells (eK ts f.toNat (k+1))):=by rw [pM hx]
  rw [H]
  have AB:(aa.cells (mI (gr ts f.toNat k) x.lO))=(aa.cells (gr ts f.toNat (k+1))):=by rw [pN hx]
  rw [AB]
  refine ak<|rP 3 [] mn ?_
  refine aC ?_
  have K:(vI (f+(((k+1):Nat):Int)))=(vI ((f+(k:Int))+1)):=by exact cI I
  refine aR (V ⟨((k+1),B9),⟨I,C,B⟩⟩ _ _ _ U os (cK 5<|aY U K<|du.nil _) (aH [2,3,4,5,6,7]))
 refine vn (rem':=[18,19,20,21]) U kr fun T16 D=>?_
 refine rS (CL (ep.eq (pG (eK ts f.toNat k) ([x.kD]) (some ⟨T,0,none⟩) 1 (by exact qH hst I) (by intro z hz; simp only [bJ] at hz; subst hz; exact uh L) sm) nM) (av (bf 0 rfl rfl (by simp [aa.aX]) rfl)<|aI) rfl) ?_
 refine aC (D _ _ (aH [1,2,3,6]) (aH [1,2,3,4,5,6]) ?_)
 refine N1 18<|vn (rem':=[19,20,21]) U kr fun T17 Y=>df (xs:=[.tmp 39]) (cs:=(aa.cells x.lO)) U gY dp U U U U (by simp [Value.cells,aa.aX]) U U fun b=>aC (Y _ _ (aH [2,3,4,7]) (aH [2,3,4,5,6,7]) ?_)
 refine N1 19<|NO U U [20,21] fun T19 E=>?_
 refine rS (CL (ep.eq (pG (gr ts f.toNat k) ([x.lO]) (some ⟨b,0,none⟩) 1 (by exact wZ hst I) (by intro z hz; simp only [bJ] at hz; subst hz; exact um L) sm) nM) (av (bf 0 rfl rfl (by simp [aa.aX]) rfl)<|aI) rfl) ?_
 refine aC (E _ _ (aH [2,3,4,7]) ?_)
 refine N1 20<|NO U U [21] fun T20 F=>OH U cx U<|aC (F _ _ (aH [2,3,4,7]) ?_)
 refine N1 21<|NO U U [] fun T21 G=>ID U cx U<|aC (G _ _ (aH [2,3,4,7]) ?_)
 refine p_<|aB<|KK M ?_
 have H:(aa.cells (mI (eK ts f.toNat k) x.kD))=(aa.cells (eK ts f.toNat (k+1))):=by rw [pM hx]
 rw [H]
 have AB:(aa.cells (mI (gr ts f.toNat k) x.lO))=(aa.cells (gr ts f.toNat (k+1))):=by rw [pN hx]
 rw [AB]
 refine ak<|rP 3 [] mn ?_
 refine aC ?_
 have K:(vI (f+(((k+1):Nat):Int)))=(vI ((f+(k:Int))+1)):=by exact cI I
 refine aR (V ⟨((k+1),B9),⟨I,C,B⟩⟩ _ _ _ U os (cK 5<|aY U K<|du.nil _) (aH [2,3,4,5,6,7]))
theorem Jz (ts:List al) (tsA:OA) (tsC:Nat) (f t:Int) (hst: ∀ x∈ts,bP x) (hlen:ts.length≤12) (hf:0≤f∧f≤t∧t≤ts.length):
 ep Tryz.prog 174 [(vA (eE.cells (eE.mk (bB.mk (bo.mk tsA ts.length tsC))))),(vI f),(vI t)] [(rd tsA ts.length 9 (ts.map al.cells))] (vT [(vA (aa.cells (eK ts f.toNat (t-f).toNat))),(vA (aa.cells (gr ts f.toNat (t-f).toNat)))]):=by
 refine bG kr Tryz.func174 U U fun w0 Q hQ hN=>?_
 try dsimp only
 refine WS fun _ M=>fQ U fun a=>uC U U fun b=>uC U U fun d=>AL U dp fun e=>AL U dp fun g=>RK M<|aj fun _ AA=>WS fun _ V=>rP 2 [0,1] (mc 4 U (mc 3 U mn)) ?_
 refine cX (OT f tsA ts.length tsC) (aI) U fun u n=>?_
 obtain ⟨B,C⟩:=u
 try dsimp only
 refine RK V<|ax<|kF 7 U (by exact fun _ h=>h) ?_
 refine Gs (L0:=[(3,(vP a)),(4,(vP b)),(5,(vP d)),(6,(vP e)),(7,(vP g))]) (F:=[(rd tsA ts.length 9 (ts.map al.cells)).ro,(cb B 3 [(vI f)]),(cb C 237 (eE.cells (eE.mk (bB.mk (bo.mk tsA ts.length tsC)))))]) (xs:=(te ts f.toNat)) (fun k (y:aa×aa×Int)=>(k≤(t-f).toNat)∧(y.2.2=f+(k:Int))) (fun k y=>[(cb g 45 (aa.cells y.2.1)),(cb e 45 (aa.cells y.1)),(cb d 3 [(vI t)]),(cb b 3 [(vI y.2.2)]),(cb a 237 (eE.cells (eE.mk (bB.mk (bo.mk tsA ts.length tsC))))),(rd tsA ts.length 9 (ts.map al.cells)).ro]) (fun c (z:Unit)=>(c= .exit 0)) (fun _ z=>[(cb g 45 (aa.cells (gr ts f.toNat (t-f).toNat))),(cb e 45 (aa.cells (eK ts f.toNat (t-f).toNat))),(cb d 3 [(vI t)]),(cb b 3 [(vI t)]),(cb a 237 (eE.cells (eE.mk (bB.mk (bo.mk tsA ts.length tsC))))),(rd tsA ts.length 9 (ts.map al.cells)).ro]) [3,4,5,6,7,8] [0,1,2] (dH,dH,f) U U (Hd ts tsA tsC f B C (by first|assumption|omega|(simp; done)) (by first|assumption|omega|(simp; done)) I) U U U (by exact ⟨Nat.zero_le _,sm⟩) (by simp only [List.forall_mem_cons,List.not_mem_nil,false_imp_iff,implies_true,and_true]; exact ⟨⟨_,sm,(dQ (bS _))⟩,⟨_,sm,(bS _)⟩,⟨_,sm,(bS _)⟩⟩) (by exact D1) U (aV U) ?_ ?_ ?_ ?_
 rotate_left 1
 ·rintro q ⟨v,z2,m⟩ J
  obtain ⟨A,K⟩:=J
  try dsimp only at A K
  try dsimp only
  exfalso; rw [tw] at A; omega
 ·rintro r id _ Y
  have hc:=Y
  cases hc
  try dsimp only
  refine ay<|KK AA<|aj fun _ D=>dF cE [2,3] [] [] [0,1,2,3,4,5,6,7,8,9] [] U U U U U<|eS U (LW 5 U cd U U)<|eS U (LW 4 U cd U U)<|eT U<|cf U fun T30 E=>ID U cx U<|aC (E _ _ (aH [0,1,2,3,4,5,6,7,8,9]) ?_)
  refine cf U fun T31 G=>PI U cx U<|aC (G _ _ (aH [0,1,2,3,4,5,6,7,8,9]) ?_)
  refine fF U<|KK D<|aq<|hQ _ _ _ (oN 0 U U<|hE (vs:=[(vA (aa.cells (eK ts f.toNat (t-f).toNat))),(vA (aa.cells (gr ts f.toNat (t-f).toNat)))]) ⟨⟨_,U,.inl ⟨_,_,cd,pE (vs:=(aa.cells (eK ts f.toNat (t-f).toNat))) 5 U U,U,U⟩⟩,⟨_,U,.inl ⟨_,_,cd,pE (vs:=(aa.cells (gr ts f.toNat (t-f).toNat))) 4 U U,U,U⟩⟩,trivial⟩ fun w hs=>EU ?_ hs)
  show (vT [(vA (aa.cells (eK ts f.toNat (t-f).toNat))),(vA (aa.cells (gr ts f.toNat (t-f).toNat)))])=(vT [(vA (aa.cells (eK ts f.toNat (t-f).toNat))),(vA (aa.cells (gr ts f.toNat (t-f).toNat)))])
  clear hs w hQ hN G T31 E T30 D V AA M
  rfl
 ·rintro s _ Z
  cases Z
 rintro k x ⟨v,z2,m⟩ l ra rb S w1 K13 Qr14 hx AB N H L j
 obtain ⟨hk,rfl⟩:=Ir hx
 obtain ⟨A,K⟩:=AB
 try dsimp only at A K
 try dsimp only
 refine WS fun _ O=>AL U dp fun o=>fX U cx U<|RK O<|ak<|AL U dp fun p=>fX U cx U<|aC<|jT (fun _ _ h=>h) (aH [2,0,1,3,4,5,6,7,8])<|aR (N _ _ ?_)
 refine ax<|aj fun _ P=>aj fun _ R=>dF cE [2,3] [] [] [0,1,2,5,6,7,8] [] U U U U U<|eS U (LW 2 U cd U U)<|eS U (LW 1 U cd U U)<|eT U<|cf U fun T21 W=>PI U cx U<|aC (W _ _ (aH [0,1,2,5,6,7,8]) ?_)
 refine cf U fun T22 X=>UH U cx U<|aC (X _ _ (aH [0,1,2,5,6,7,8]) ?_)
 refine fF U<|KK R<|WS fun _ T=>rP 3 [0,1] (mc 6 U (mc 5 U mn)) ?_
 refine RK T<|cH U (aN fun i=>?_) (aO fun i=>?_)
 ·refine bD<|ab<|iU U ?_
  rw [show m=t from by omega]
  obtain rfl:k=(t-f).toNat:=by omega
  exact L _ () _ _ (by exact U) (aH [0,3,4,5,6,7,8])
 refine WK P<|ak<|rP 2 [] (mc 6 U mn) ?_
 refine Wf U Cw U U<|aC<|aB ?_
 exact H ((eK ts f.toNat k),(gr ts f.toNat k),(m+1)) _ _ (by refine ⟨I,?_⟩; dsimp only; omega) (aH [0,3,4,5,6,7,8])
end
section
open Go.RowKit
theorem H9 (i:Int) (s:cM) (ts:List al) (tsA:OA) (tsC g1:Nat) (hst: ∀ x∈ts,bP x) (hlen:ts.length≤12):
 ep Tryz.prog 185 [(vI i),(vA (cM.cells s)),(vP g1)] [(rd tsA ts.length 9 (ts.map al.cells)),(cb g1 237 (eE.cells (eE.mk (bB.mk (bo.mk tsA ts.length tsC)))))] (vB (!(decide (fy ts s)))):=by
 refine bG kr Tryz.func185 U U fun AA Q hQ hN=>?_
 try dsimp only
 refine WS fun _ C=>fQ U fun G=>rP 1 [] mn ?_
 refine RK C<|aj fun _ A=>pw cE [0,1,2,3,4,5,6] [7,8,9,10,11,12,13,14,15,16,17,18,19,20,21,22,23,24,25,26] [false,false,false,false,false,false,false] [] [(cb G 158 (cM.cells s)),(rd tsA ts.length 9 (ts.map al.cells)).ro,(cb g1 237 (eE.cells (eE.mk (bB.mk (bo.mk tsA ts.length tsC))))).ro] [] kr (aH [0,1,2]) (aH [])<|eS U (FA 0 U fp U)<|eS U (FA 0 U fp U)<|eS U (IB (vS tsA ts.length tsC) 2 U cd U U)<|eS U (LN U Qe)<|eS U (BI U (r_ ⟨I,I⟩))<|eS U (FA 0 U fp U)<|eS U (L1 (vI s.a_) 0 U cd U U)<|eT U<|N1 7<|NO U U [8,9,10,11,12,13,14,15,16,17,18,19,20,21,22,23,24,25,26] fun T4 D=>df (xs:=[.tmp 12]) (cs:=[(vI s.a_)]) U cw js U U U U (by simp [Value.cells]) U U fun H=>RD D 1 U<|JK [14,15,16,17,18,19,20,21,22,23,24,25,26,27,28,29,30,31,5] kr kr U _ U U (aH [1,2,3]) ?_
 refine dS (CL (ep.eq (o8 0 ((ts.length:Int)-1) ([s.a_]) (some ⟨H,0,none⟩) 1 (by (simp; done))) cY) (av (bf 0 U U (by simp [bI]) U)<|aI) U) ?_
 refine dP 2 [] mn ?_
 refine jf (t:=16) U (bu fun B=>?_) (br fun B=>?_)
 ·refine l5 9 U<|dP 7 [] mn ?_
  refine cR<|RK A<|aq<|Q1 hQ U U U ?_
  (refine cB ?_; rw [cq (Bi I)]; rfl)
 refine l5 1 U<|dS (LP (aa.cells s.mN) 1 U cd U U U)<|dP 5 [0,1] (mr 3 U (mc 1 U mn)) ?_
 obtain ⟨x,hx⟩:=aJ ts ((s.a_).toNat) I
 have E:=bK al.cells hx
 refine dS (IA ((s.a_).toNat) U (aA 2 U) w8 dc I I)<|dS (mW ((((s.a_).toNat)*9)+1) U (aA 2 U) (Nat.mul_pos I dc) fp U) ?_
 have F:=(hst x (aT hx)).2.1
 simp only [dZ] at F
 refine dS (mW ((((s.a_).toNat)*9)+1) U (aA 2 U) (Nat.mul_pos I dc) fp U)<|dS (fT ((s.a_).toNat) 1 (vI x.kD.Lo) U cd (aA 2 U) E U dc U)<|l5 1 U<|dS (CL (we s.mN 0 (x.kD.Lo-1)) (aI) U)<|dP 3 [] mn ?_
 refine cR<|RK A<|aq<|Q1 hQ U U U ?_
 exact congrArg (fun b=>vB (!b)) (gi.2 (CI I hx).symm)
theorem Fc (l:List cM) (lA:OA) (lC:Nat) (f:Value) (p:Int→cM→Bool) (X:au) (hf: ∀ x0 x1,(∃ k:Nat,x0=(k:Int)∧l[k]? =some x1)→DO Tryz.prog f [.int .i64 x0,.agg (cM.cells x1).toArray] [X] (.bool (p x0 x1))) (hlen:l.length≤1000000):
 ld Tryz.prog 184 [(vS lA l.length lC),f] [(rd lA l.length 3 (l.map cM.cells)),X] (fun (x:(OA)×Nat)=>(vS x.1 ((Km (fun jj yy=>p (jj:Int) yy) l).length) x.2)) (fun (x:(OA)×Nat)=>True) (fun (x:(OA)×Nat)=>[(own x.1 x.2 3 1 ((Km (fun jj yy=>p (jj:Int) yy) l).map iC))]):=by
 refine dg kr Tryz.func184 U U fun W Q hQ hN=>?_
 try dsimp only
 refine WS fun _ L=>bh 1 U<|RK L<|WS fun _ M=>bh 1 U<|RK M<|aj fun _ N=>WS fun _ O=>rP 3 [] mn ?_
 refine RK O<|ax<|fZ 3 1 ?_
 have A:(0≤l.length):=by exact Nat.zero_le _
 refine bL (ι:={z:Nat×(OA)×Nat // (z.1≤l.length)}) [0,1,8,9] [1,2] U U (fun z=>[(5,(vS z.1.2.1 ((sh (fun jj yy=>p (jj:Int) yy) l z.1.1).length) z.1.2.2)),(10,(vI (z.1.1:Int)))]) (fun z=>[(own z.1.2.1 z.1.2.2 3 1 ((sh (fun jj yy=>p (jj:Int) yy) l z.1.1).map iC))]) (fun _=>rfl) (fun _=>rfl) (fun z=>l.length-z.1.1) ⟨(0,none,0),A⟩ (aV U) (aH [1,2,0]) ?_
 clear A
 rintro ⟨⟨i,a,c⟩,B⟩ J5 C
 try dsimp only at B
 try dsimp only
 refine WS fun _ P=>rP 1 [] mn ?_
 refine RK P<|aj fun _ R=>bQ U (aO fun V=>?_) (aN fun V=>?_)
 ·refine bD<|ab<|ab<|ay<|KK N<|WS fun _ F=>?_
  rw [OM (p:=fun (i:Nat) x=>p (i:Int) x) (show i=l.length by omega)]
  refine rP 2 [] mn ?_
  refine RK F<|aq<|LX hQ (a,c) [2] [] mn U U U U ?_
  trivial
 refine WK R<|aj fun _ G=>ax<|WS fun _ D=>rP 1 [] mn ?_
 obtain ⟨x,hx⟩:=aJ l i I
 have S:=bK cM.cells hx
 refine rS (IA i U (aA 0 U) Kc dc I I)<|rS (oT i 0 (cM.cells x) U cd (aA 0 U) S U dc U U)<|AL U Dc fun T=>bh 1 U<|fX U Kf U<|RK D<|WS fun _ E=>rP 3 [] (mc 0 U mn) ?_
 refine rS (SX (sD U U U (hf (i:Int) x ⟨i,U,hx⟩) (bg [2])) U U)<|RK E<|bQ U (fun hp=>?_) (fun hp=>?_)
 ·refine bZ<|aB<|KK G<|ak ?_
  rw [← N3 (p:=fun (i:Nat) x=>p (i:Int) x) hx hp]
  refine rP 2 [] mn ?_
  refine aC ?_
  have AB:(vI (((i+1):Nat):Int))=(vI ((i:Int)+1)):=by exact cI I
  refine aR (C ⟨((i+1),a,c),(by first|omega|(simp only []; omega))⟩ _ _ _ U os (cK 5<|aY U AB<|du.nil _) (aH [1,2,3]))
 refine ak<|rP 2 [] mn ?_
 refine df (xs:=[.tmp 20]) (cs:=[(vI (i:Int))]) U cw js U U U U (by simp [Value.cells]) U U fun AA=>?_
 refine cL (es2:=(List.map iC (sh (fun jj yy=>p (jj:Int) yy) l (i+1)))) (m':=(sh (fun jj yy=>p (jj:Int) yy) l (i+1)).length) 4 U U U o2 U U sm (bf (es:=List.map iC [(i:Int)]) 0 U U (by simp [bI]) U) (jM _) (by have:=Cn (p:=fun (i:Nat) x=>p (i:Int) x) (l:=l) (n:=i); simp; omega) (by have:=Cn (p:=fun (i:Nat) x=>p (i:Int) x) (l:=l) (n:=i); simp only [maxLen]; omega) (by rw [MF hx hp]; simp) sm U fun J K=>?_
 try dsimp only
 refine bh 1 U<|aC<|aB<|KK G<|ak<|rP 2 [] mn ?_
 refine aC ?_
 have H:(vI (((i+1):Nat):Int))=(vI ((i:Int)+1)):=by exact cI I
 refine aR (C ⟨((i+1),J,K),(by first|omega|(simp only []; omega))⟩ _ _ _ U os (cK 5<|aY U H<|du.nil _) (aH [2,3,4]))
theorem BW (ts:List al) (tsA:OA) (tsC:Nat) (l:List cM) (lA:OA) (lC:Nat) (hst: ∀ x∈ts,bP x) (hlen:ts.length≤12) (hl:l.length≤4):
 ep Tryz.prog 173 [(vA (eE.cells (eE.mk (bB.mk (bo.mk tsA ts.length tsC))))),(vS lA l.length lC)] [(rd tsA ts.length 9 (ts.map al.cells)),(rd lA l.length 3 (l.map cM.cells))] (vB (decide (∀ s∈l,fy ts s))):=by
 refine bG kr Tryz.func173 U U fun J Q hQ hN=>?_
 try dsimp only
 refine WS fun _ B=>fQ U fun A=>bh 1 U<|RK B<|WS fun _ C=>rP 1 [] mn ?_
 refine rS (FU U) ?_
 refine cX (Fc l lA lC (Value.func (.func 185) [].toArray [(vP A)].toArray) (fun E D=>(!(decide (fy ts D)))) (fc [(rd tsA ts.length 9 (ts.map al.cells)),(cb A 237 (eE.cells (eE.mk (bB.mk (bo.mk tsA ts.length tsC)))))]) (by intro E D _; exact nZ (fi:=[]) (ca:=[(vP A)]) (mm (H9 E D ts tsA tsC A (by first|assumption|omega) (by first|assumption|omega)) (bg [0,1]))) I) (fj 2 U U<|av (mh (bg [1,0]))<|aI) U fun G F=>?_
 obtain ⟨H,AA⟩:=G
 try dsimp only
 refine rP 3 [] mn ?_
 refine RK C<|aq<|Q1 hQ U U U ?_
 exact congrArg Value.bool (decide_eq_decide.2 (by rw [show ∀ n:Nat,((n:Int)=0)↔n=0 from fun n=>by omega,HX]; simp only [Bool.not_eq_false',decide_eq_true_eq]; exact ⟨fun h s hs=>by obtain ⟨k,hk⟩:=List.getElem?_of_mem hs; exact h k s hk,fun h k s hk=>h s (List.mem_of_getElem? hk)⟩))
theorem EH (z:aa) (hz:lF z):
 ep Tryz.prog 176 [(vA (aa.cells z))] [] (vA (aa.cells (ou z))):=by
 unfold lF at hz
 refine bG kr Tryz.func176 U U fun E Q hQ hN=>?_
 try dsimp only
 refine WS fun _ A=>fQ U fun C=>AL U dp fun D=>RK A<|WS fun _ B=>fu 2 [] (mc 1 U mn) U<|rS (NG U ⟨I,I⟩)<|rP 2 [] (mc 1 U mn) ?_
 refine rS (NG U ⟨I,I⟩)<|rS (SX (bk (xs:=[(0,.tmp 5),(1,.tmp 8)]) (cs:=(aa.cells (aa.mk (-z.Hi) (-z.Lo)))) U U (bj gv U)) U U)<|fX U cx U<|RK B<|aq ?_
 exact IC hQ [0] (mc 0 U mn) U U
theorem Sv (ts:List al) (tsA:OA) (tsC:Nat) (s:cM) (hlen:ts.length≤1000000) (hside: ∀ x∈ts,0≤x.jo∧x.jo≤255):
 ep Tryz.prog 135 [(vA (bB.cells (bB.mk (bo.mk tsA ts.length tsC)))),(vA (cM.cells s))] [(rd tsA ts.length 9 (ts.map al.cells))] (vT [(vA (aa.cells (Qd ts s))),(vI (F0 ts s))]):=by
 refine bG kr Tryz.func135 U U fun Z Q hQ hN=>?_
 try dsimp only
 refine WS fun _ K=>fQ U fun V=>fQ U fun W=>AL U dp fun X=>bh 1 U<|RK K<|WS fun _ L=>fu 1 [] (mc 2 U mn) U<|rS (CL (GB ts tsA tsC hlen hside) (bg [3]) U)<|bh 3 U<|AL U Mq fun Y=>fX U Mu U<|bh 1 U<|RK L<|aj fun _ M=>WS fun _ N=>rP 2 [] mn ?_
 refine RK N<|cH U (bu fun he=>?_) (br fun he=>?_)
 ·refine WS fun _ O=>rS (SX (bk (xs:=[]) (cs:=(aa.cells (aa.mk 0 0))) U U (bj gv U)) U U)<|bh 1 U<|sT U cx U<|rP 1 [] mn ?_
  refine RK O<|aq<|lG hQ [0] (mc 1 U mn) U ?_
  (have e:=Me (s:=s) (zj he).1; rw [e.1,e.2,(zj he).2]<;>rfl)
 refine WK M<|aj fun _ C=>WS fun _ D=>?_
 have B:=EC he
 have H:=kd B
 have R:=kN B
 refine rP 2 [0,1] (mc 0 U (mc 2 U mn)) ?_
 refine df (xs:=[.tmp 20]) (cs:=(cM.cells s)) U Kc Dc U U U U (by simp [Value.cells,cM.aX]) U U fun AB=>?_
 refine rS (CL (ep.eq (BW ts tsA tsC ([s]) (some ⟨AB,0,none⟩) 1 asm asm (by (simp; done))) EK) (fj 5 U U<|av (bf 0 U U (by simp [cM.aX]) U)<|aI) U) ?_
 refine rP 1 [] mn ?_
 refine RK D<|cH U (bu fun A=>?_) (br fun A=>?_)
 ·refine WS fun _ E=>rS (SX (bk (xs:=[]) (cs:=(aa.cells (aa.mk 0 0))) U U (bj gv U)) U U)<|GG U cx U<|rP 1 [] mn ?_
  refine RK E<|aq<|lG hQ [0] (mc 2 U mn) U ?_
  (have e:=KX B A; rw [e.1,e.2]<;>rfl)
 refine WK C<|WS fun _ F=>?_
 have AA:=A.1
 have P:=qp H A
 refine fu 3 [0,1] (mc 1 U (mc 3 U mn)) U<|rS (CL (Jz ts tsA tsC 0 s.a_ asm asm I) (bg [5]) U)<|bh 3 U<|AL U dp fun S=>AL U dp fun T=>sT U cx U<|fX U cx U<|RK F<|WS fun _ G=>rP 2 [] (mc 1 U mn) ?_
 refine rS (LP (aa.cells s.mN) 5 U cd U U U)<|df (xs:=[.tmp 34]) (cs:=(aa.cells s.mN)) U gY dp U U U U (by simp [Value.cells,aa.aX]) U U fun J=>?_
 refine rS (CL (ep.eq (pG (eK ts (0:Int).toNat (s.a_-0).toNat) ([s.mN]) (some ⟨J,0,none⟩) 1 (by exact qH H I) (by intro z hz; simp only [bJ] at hz; subst hz; exact P) sm) nM) (av (bf 0 rfl rfl (by simp [aa.aX]) rfl)<|aI) rfl) ?_
 refine ID U cx U<|rP 1 [] mn ?_
 refine RK G<|aq<|lG hQ [0] (mc 5 U mn) U ?_
 (have e:=wo B A; rw [e.1,e.2]; unfold MT; rw [show (s.a_-0).toNat=s.a_.toNat by rw [Int.sub_zero]]<;>rfl)
theorem NF (ts:List al) (tsA:OA) (tsC:Nat) (p:cM) (q:cM) (hlen:ts.length≤1000000) (hside: ∀ x∈ts,0≤x.jo∧x.jo≤255):
 ep Tryz.prog 136 [(vA (bB.cells (bB.mk (bo.mk tsA ts.length tsC)))),(vA (cM.cells p)),(vA (cM.cells q))] [(rd tsA ts.length 9 (ts.map al.cells))] (vT [(vA (aa.cells (kR ts p q))),(vI (lZ ts p q))]):=by
 refine bG kr Tryz.func136 U U fun w Q hQ hN=>?_
 try dsimp only
 refine WS fun _ c=>fQ U fun r=>fQ U fun s=>fQ U fun t=>AL U dp fun u=>bh 1 U<|RK c<|WS fun _ d=>fu 1 [] (mc 3 U mn) U<|rS (CL (GB ts tsA tsC hlen hside) (bg [4]) U)<|bh 3 U<|AL U Mq fun v=>fX U Mu U<|bh 1 U<|RK d<|aj fun _ g=>WS fun _ h=>rP 2 [] mn ?_
 refine RK h<|cH U (bu fun he=>?_) (br fun he=>?_)
 ·refine WS fun _ G=>rS (SX (bk (xs:=[]) (cs:=(aa.cells (aa.mk 0 0))) U U (bj gv U)) U U)<|bh 1 U<|sT U cx U<|rP 1 [] mn ?_
  refine RK G<|aq<|lG hQ [0] (mc 1 U mn) U ?_
  (have e:=ui (a:=p) (b:=q) (zj he).1; rw [e.1,e.2,(zj he).2]<;>rfl)
 refine WK g<|aj fun _ H=>WS fun _ AB=>?_
 have A:=EC he
 have F:=kd A
 have j:=kN A
 refine rP 3 [0,1,2] (mc 0 U (mc 3 U (mc 2 U mn))) ?_
 refine df (xs:=[.tmp 22,.tmp 23]) (cs:=((cM.cells p)++(cM.cells q))) U Kc Dc U U U U (by simp [Value.cells,cM.aX]) U U fun X=>?_
 refine rS (CL (ep.eq (BW ts tsA tsC ([p,q]) (some ⟨X,0,none⟩) 2 asm asm (by (simp; done))) EL) (fj 6 U U<|av (bf 0 U U (by simp [cM.aX]) U)<|aI) U) ?_
 refine rP 1 [] mn ?_
 refine RK AB<|cH U (bu fun D=>?_) (br fun D=>?_)
 ·refine WS fun _ J=>rS (SX (bk (xs:=[]) (cs:=(aa.cells (aa.mk 0 0))) U U (bj gv U)) U U)<|GG U cx U<|rP 1 [] mn ?_
  refine RK J<|aq<|lG hQ [0] (mc 2 U mn) U ?_
  (have e:=pd A D; rw [e.1,e.2]<;>rfl)
 refine WK H<|WS fun _ K=>?_
 obtain ⟨hp,hq⟩:=D
 have n:=hp.1
 have o:=hq.1
 have i:=qp F hp
 have W:=qp F hq
 have V:=z8 i
 have B:=qH F (f:=(min p.a_ q.a_).toNat) (k:=(max p.a_ q.a_-min p.a_ q.a_).toNat) I
 refine fu 5 [0,1,2] (mc 1 U (mc 4 U (mc 3 U mn))) U<|rS (MN U)<|fu 4 [0,1] (mc 4 U (mc 3 U mn)) U<|rS (MX U)<|rS (CL (Jz ts tsA tsC (min p.a_ q.a_) (max p.a_ q.a_) asm asm I) (bg [6]) U)<|bh 3 U<|AL U dp fun l=>AL U dp fun m=>sT U cx U<|fX U cx U<|RK K<|aj fun _ C=>WS fun _ L=>rP 5 [0,1] (mc 5 U (mc 6 U mn)) ?_
 refine RK L<|bQ U (aO fun E=>?_) (aN fun E=>?_)
 ·refine WK C<|aj fun _ N=>dF cE [6,7,8] [] [] [0,1,2,3,5,6,7,8] [] U U U U U<|eS U (LW 1 U cd U U)<|eS U (FA 1 U fp U)<|eS U (LP (aa.cells q.mN) 4 U cd U U U)<|eS U (FA 1 U fp U)<|eS U (LP (aa.cells p.mN) 5 U cd U U U)<|eS U (CL (EH p.mN asm) (aI) U)<|eS U (AG U)<|eT U<|cf U fun T26 S=>df (xs:=[.tmp 52,.tmp 55]) (cs:=((aa.cells q.mN)++(aa.cells (ou p.mN)))) U gY dp U U U U (by simp [Value.cells,aa.aX]) U U fun Z=>aC (S _ _ (aH [1,2,3,4,6,7,8,9]) ?_)
  refine cf U fun T28 T=>?_
  refine rS (CL (ep.eq (pG (eK ts (min p.a_ q.a_).toNat ((max p.a_ q.a_)-(min p.a_ q.a_)).toNat) ([q.mN,(ou p.mN)]) (some ⟨Z,0,none⟩) 2 (by first|exact B|exact z8 B) (by intro z hz; simp only [bx,List.not_mem_nil,or_false] at hz; rcases hz with rfl|rfl; exact W; exact V) sm) CS) (av (bf 0 rfl rfl (by simp [aa.aX]) rfl)<|aI) rfl) ?_
  refine aC (T _ _ (aH [1,2,3,4,6,7,8,9]) ?_)
  refine cf U fun T29 AA=>ID U cx U<|aC (AA _ _ (aH [1,2,3,4,6,7,8,9]) ?_)
  refine fF U<|KK N<|aq<|lG hQ [0] (mc 5 U mn) U ?_
  (have e:=lg A ⟨hp,hq⟩; rw [e.1,e.2]; unfold j4 wW; rw [if_neg E]<;>rfl)
 refine ak<|rP 1 [] (mc 1 U mn) ?_
 refine rS (CL (EH (eK ts (min p.a_ q.a_).toNat ((max p.a_ q.a_)-(min p.a_ q.a_)).toNat) asm) (aI) U)<|sT U cx U<|RK C<|aj fun _ M=>dF cE [6,7,8] [] [] [0,1,2,3,5,6,7,8] [] U U U U U<|eS U (LW 1 U cd U U)<|eS U (FA 1 U fp U)<|eS U (LP (aa.cells q.mN) 4 U cd U U U)<|eS U (FA 1 U fp U)<|eS U (LP (aa.cells p.mN) 5 U cd U U U)<|eS U (CL (EH p.mN asm) (aI) U)<|eS U (AG U)<|eT U<|cf U fun T21 O=>df (xs:=[.tmp 52,.tmp 55]) (cs:=((aa.cells q.mN)++(aa.cells (ou p.mN)))) U gY dp U U U U (by simp [Value.cells,aa.aX]) U U fun Y=>aC (O _ _ (aH [1,2,3,4,6,7,8,9]) ?_)
 refine cf U fun T23 P=>?_
 refine rS (CL (ep.eq (pG (ou (eK ts (min p.a_ q.a_).toNat ((max p.a_ q.a_)-(min p.a_ q.a_)).toNat)) ([q.mN,(ou p.mN)]) (some ⟨Y,0,none⟩) 2 (by first|exact B|exact z8 B) (by intro z hz; simp only [bx,List.not_mem_nil,or_false] at hz; rcases hz with rfl|rfl; exact W; exact V) sm) CS) (av (bf 0 rfl rfl (by simp [aa.aX]) rfl)<|aI) rfl) ?_
 refine aC (P _ _ (aH [1,2,3,4,6,7,8,9]) ?_)
 refine cf U fun T24 R=>ID U cx U<|aC (R _ _ (aH [1,2,3,4,6,7,8,9]) ?_)
 refine fF U<|KK M<|aq<|lG hQ [0] (mc 5 U mn) U ?_
 (have e:=lg A ⟨hp,hq⟩; rw [e.1,e.2]; unfold j4 wW; rw [if_pos E]<;>rfl)
theorem rG (ts:List al) (tsA:OA) (tsC:Nat) (s:cM) (hst: ∀ x∈ts,bP x) (hlen:ts.length≤12):
 ep Tryz.prog 93 [(vA (bB.cells (bB.mk (bo.mk tsA ts.length tsC)))),(vA (cM.cells s))] [(rd tsA ts.length 9 (ts.map al.cells))] (vB (decide (fy ts s))):=by
 refine bG kr Tryz.func93 U U fun H Q hQ hN=>?_
 try dsimp only
 refine WS fun _ C=>fQ U fun F=>fQ U fun G=>bh 1 U<|RK C<|aj fun _ A=>dK cE 22 kr<|mT 6 [0,1] (mc 0 U (mc 1 U mn)) U<|dS (CL (o4 s.a_ 0 ((ts.length:Int)-1)) (aI) U)<|dP 1 [] mn ?_
 refine jy (t:=12) U (aO fun B=>?_) (aN fun B=>?_)
 ·refine l5 8 U<|dP 6 [] mn ?_
  refine cR<|RK A<|aq<|Q1 hQ U U U ?_
  (refine cB ?_; rw [cq (Bi I)])
 refine l5 1 U<|dS (LP (aa.cells s.mN) 0 U cd U U U)<|dP 4 [0,1] (mc 1 U (mc 0 U mn)) ?_
 obtain ⟨x,hx⟩:=aJ ts ((s.a_).toNat) I
 have D:=bK al.cells hx
 refine dS (IA ((s.a_).toNat) U (aA 2 U) w8 dc I I)<|dS (mW ((((s.a_).toNat)*9)+1) U (aA 2 U) (Nat.mul_pos I dc) fp U) ?_
 have E:=(hst x (aT hx)).2.1
 simp only [dZ] at E
 refine dS (mW ((((s.a_).toNat)*9)+1) U (aA 2 U) (Nat.mul_pos I dc) fp U)<|dS (fT ((s.a_).toNat) 1 (vI x.kD.Lo) U cd (aA 2 U) D U dc U)<|l5 1 U<|dS (CL (pO s.mN 0 (x.kD.Lo-1)) (aI) U)<|dP 2 [] mn ?_
 refine cR<|RK A<|aq<|Q1 hQ U U U ?_
 exact cB (gi.2 (CI I hx).symm)
theorem AA (ts:List al) (tsA:OA) (tsC:Nat) (f t:Int) (hst: ∀ x∈ts,bP x) (hlen:ts.length≤12) (hf:0≤f∧f≤t∧t≤ts.length):
 ep Tryz.prog 171 [(vA (bB.cells (bB.mk (bo.mk tsA ts.length tsC)))),(vI f),(vI t)] [(rd tsA ts.length 9 (ts.map al.cells))] (vT [(vA (aa.cells (eK ts f.toNat (t-f).toNat))),(vA (aa.cells (gr ts f.toNat (t-f).toNat)))]):=by
 refine bG kr Tryz.func171 U U fun i Q hQ hN=>?_
 try dsimp only
 refine WS fun _ R=>fQ U fun e=>AL U dp fun g=>AL U dp fun h=>RK R<|WS fun _ S=>AL U dp fun a=>AL U dp fun b=>RK S<|aj fun _ T=>WS fun _ AB=>rP 2 [] mn ?_
 refine RK AB<|ax ?_
 have A:(0≤(t-f).toNat):=by exact Nat.zero_le _
 have K:(vI (f+(0:Int)))=(vI f):=by exact cI I
 refine bL (ι:={z:Nat // (z≤(t-f).toNat)}) [1,2,3,6,7,8,9] [2,3,4,5] U U (fun z=>[(10,(vI (f+(z.1:Int))))]) (fun z=>[(cb b 45 (aa.cells (gr ts f.toNat z.1))),(cb a 45 (aa.cells (eK ts f.toNat z.1)))]) (fun _=>rfl) (fun _=>rfl) (fun z=>(t-f).toNat-z.1) ⟨0,A⟩ (aY U K<|du.nil _) (aH [2,3,4,5,0,1]) ?_
 clear A
 rintro ⟨k,V⟩ J11 B
 try dsimp only
 refine aj fun _ C=>WS fun _ D=>rP 3 [] mn ?_
 refine RK D<|bQ U (aO fun P=>?_) (aN fun P=>?_)
 ·refine bD<|ab<|ab<|ay<|KK T<|aj fun _ H=>dF cE [2,3] [] [] [2,3,4,5] [] U U U U U<|eS U (LW 3 U cd U U)<|eS U (LW 2 U cd U U)<|eT U<|cf U fun T23 AC=>sT U cx U<|aC (AC _ _ (aH [2,3,4,5]) ?_)
  refine cf U fun T24 J=>fX U cx U<|aC (J _ _ (aH [2,3,4,5]) ?_)
  refine fF U<|KK H<|aq<|lG hQ [0,1] (mc 1 U (mc 0 U mn)) U ?_
  obtain rfl:k=(t-f).toNat:=I; rfl
 refine WK C<|aj fun _ E=>ax<|WS fun _ F=>rP 3 [] (mc 2 U mn) ?_
 obtain ⟨x,hx⟩:=aJ ts (f.toNat+k) I
 have Y:=bK al.cells hx
 refine rS (IA (f.toNat+k) U (aA 3 U) w8 dc I I)<|rS (oT (f.toNat+k) 0 (al.cells x) U cd (aA 3 U) Y U dc U U)<|AL U GI fun Z=>fX U JU U<|RK F<|WS fun _ G=>?_
 have O:=hst x (aT hx)
 have d:=mq hst f.toNat k
 have c:=Gl hst f.toNat k
 have W:=O.2.1
 have X:=O.2.2.1
 simp only [dZ] at W X
 refine fu 12 [0,1,0,1] (mc 6 U (mc 0 U mn)) U<|rS (SX (bk (xs:=[(0,.tmp 28),(1,.tmp 34)]) (cs:=(aa.cells (aa.mk (((eK ts f.toNat k).Lo)+x.kD.Lo) (((eK ts f.toNat k).Hi)+x.kD.Hi)))) U U (bj gv U)) U U)<|OH U cx U<|RK G<|ak<|rP 12 [0,1,0,1] (mc 5 U (mc 0 U mn)) ?_
 refine rS (SX (bk (xs:=[(0,.tmp 41),(1,.tmp 47)]) (cs:=(aa.cells (aa.mk (((gr ts f.toNat k).Lo)+x.lO.Lo) (((gr ts f.toNat k).Hi)+x.lO.Hi)))) U U (bj gv U)) U U)<|ID U cx U<|aC<|aB<|KK E ?_
 have L:(aa.cells (aa.mk (((eK ts f.toNat k).Lo)+x.kD.Lo) (((eK ts f.toNat k).Hi)+x.kD.Hi)))=(aa.cells (eK ts f.toNat (k+1))):=by rw [pM hx]; rfl
 rw [L]
 have M:(aa.cells (aa.mk (((gr ts f.toNat k).Lo)+x.lO.Lo) (((gr ts f.toNat k).Hi)+x.lO.Hi)))=(aa.cells (gr ts f.toNat (k+1))):=by rw [pN hx]; rfl
 rw [M]
 refine ak<|rP 3 [] mn ?_
 refine aC ?_
 have N:(vI (f+(((k+1):Nat):Int)))=(vI ((f+(k:Int))+1)):=by exact cI I
 refine aR (B ⟨(k+1),(by first|omega|(simp only []; omega))⟩ _ _ _ U os (cK 7<|aY U N<|du.nil _) (aH [1,2,3,4,5,6]))
end
section
open Go.RowKit
theorem QN (l:aZ) (kA:OA) (kC:Nat) (az:List RA) (cA:OA) (cC:Nat) (bA:OA) (bC:Nat) (hin:er l az):
 ep Tryz.prog 153 [(vA (bW.cells (lh l kA kC cA cC bA bC)))] [(rd kA l.aM.length 9 (l.aM.map al.cells)),(rd cA l.ai.length 2 (List.zipWith ar.cells l.ai az)),(fc (aU ar.g4 l.ai az)),(rd bA l.ae.length 4 (l.ae.map bH.cells))] (vB (decide (gE l))):=by
 have R:=hin.sQ
 have P:=hin.sr
 have N:=hin.od
 have O:=hin.sj
 refine bG kr Tryz.func153 U U fun T Q hQ hN=>?_
 try dsimp only
 refine WS fun _ G=>fQ U fun S=>bh 1 U<|RK G<|WS fun _ A=>rP 2 [] (mc 0 U mn) ?_
 refine df (xs:=[.tmp 4]) (cs:=[(vI l.gH)]) U cw js U U U U (by simp [Value.cells]) U U fun H=>?_
 refine rS (CL (ep.eq (je 1 5000 ([l.gH]) (some ⟨H,0,none⟩) 1 (by (simp; done))) cY) (av (bf 0 U U (by simp [bI]) U)<|aI) U) ?_
 refine rP 1 [] mn ?_
 refine bY (t:=7) U (aO fun K=>?_) (aN fun K=>?_)
 ·refine rP 36 [] mn ?_
  refine RK A<|aq<|Q1 hQ U U U ?_
  exact cB (cq (by unfold gE; omega)).symm
 refine rP 3 [] (mc 1 U mn) ?_
 refine df (xs:=[.tmp 10]) (cs:=[(vI (l.ai.length:Int))]) U cw js U U U U (by simp [Value.cells]) U U fun AA=>?_
 refine rS (CL (ep.eq (je 1 4 ([(l.ai.length:Int)]) (some ⟨AA,0,none⟩) 1 (by (simp; done))) cY) (av (bf 0 U U (by simp [bI]) U)<|aI) U) ?_
 refine rP 2 [] mn ?_
 refine bY (t:=14) U (aO fun L=>?_) (aN fun L=>?_)
 ·refine rP 29 [] mn ?_
  refine RK A<|aq<|Q1 hQ U U U ?_
  exact cB (cq (by unfold gE; omega)).symm
 refine rP 3 [] (mc 2 U mn) ?_
 refine df (xs:=[.tmp 17]) (cs:=[(vI (l.ae.length:Int))]) U cw js U U U U (by simp [Value.cells]) U U fun J=>?_
 refine rS (CL (ep.eq (je 1 6 ([(l.ae.length:Int)]) (some ⟨J,0,none⟩) 1 (by (simp; done))) cY) (av (bf 0 U U (by simp [bI]) U)<|aI) U) ?_
 refine rP 2 [] mn ?_
 refine bY (t:=21) U (aO fun M=>?_) (aN fun M=>?_)
 ·refine rP 22 [] mn ?_
  refine RK A<|aq<|Q1 hQ U U U ?_
  exact cB (cq (by unfold gE; omega)).symm
 refine rP 6 [] (mc 3 U mn) ?_
 refine df (xs:=[.tmp 27]) (cs:=[(vI l.cr)]) U cw js U U U U (by simp [Value.cells]) U U fun B=>?_
 refine rS (CL (ep.eq (je 0 ((l.ae.length:Int)-1) ([l.cr]) (some ⟨B,0,none⟩) 1 (by (simp; done))) cY) (av (bf 0 U U (by simp [bI]) U)<|aI) U) ?_
 refine rP 2 [] mn ?_
 refine bY (t:=31) U (aO fun E=>?_) (aN fun E=>?_)
 ·refine rP 12 [] mn ?_
  refine RK A<|aq<|Q1 hQ U U U ?_
  exact cB (cq (by unfold gE; omega)).symm
 refine rP 2 [] (mc 4 U mn) ?_
 refine df (xs:=[.tmp 33]) (cs:=[(vI l.eh)]) U cw js U U U U (by simp [Value.cells]) U U fun C=>?_
 refine rS (CL (ep.eq (je 0 3 ([l.eh]) (some ⟨C,0,none⟩) 1 (by (simp; done))) cY) (av (bf 0 U U (by simp [bI]) U)<|aI) U) ?_
 refine rP 2 [] mn ?_
 refine bY (t:=37) U (aO fun F=>?_) (aN fun F=>?_)
 ·refine rP 6 [] mn ?_
  refine RK A<|aq<|Q1 hQ U U U ?_
  exact cB (cq (by unfold gE; omega)).symm
 refine rP 2 [] (mc 5 U mn) ?_
 refine df (xs:=[.tmp 39]) (cs:=[(vI l.cO)]) U cw js U U U U (by simp [Value.cells]) U U fun D=>?_
 refine rS (CL (ep.eq (je 0 3 ([l.cO]) (some ⟨D,0,none⟩) 1 (by (simp; done))) cY) (av (bf 0 U U (by simp [bI]) U)<|aI) U) ?_
 refine rP 2 [] mn ?_
 refine RK A<|aq<|Q1 hQ U U U ?_
 exact cB (gi.2 (by unfold gE; omega))
theorem Qb (l:aZ) (kA:OA) (kC:Nat) (az:List RA) (cA:OA) (cC:Nat) (bA:OA) (bC:Nat) (hin:er l az):
 ep Tryz.prog 154 [(vA (bW.cells (lh l kA kC cA cC bA bC)))] [(rd kA l.aM.length 9 (l.aM.map al.cells)),(rd cA l.ai.length 2 (List.zipWith ar.cells l.ai az)),(fc (aU ar.g4 l.ai az)),(rd bA l.ae.length 4 (l.ae.map bH.cells))] (vB (decide (∀ c∈l.ai,e_ c))):=by
 have H:=hin.sQ
 have G:=hin.sr
 have E:=hin.od
 have F:=hin.sj
 refine bG kr Tryz.func154 U U fun K Q hQ hN=>?_
 try dsimp only
 refine WS fun _ C=>fQ U fun J=>bh 1 U<|RK C<|WS fun _ D=>rP 2 [] (mc 0 U mn) ?_
 refine rS (CL (Ba l.ai az cA cC (Value.func (.func 156) [].toArray [].toArray) (fun m=>(!(decide (e_ m)))) (fc (aU ar.g4 l.ai az)) (by intro AA m a B A; exact nZ (fi:=[]) (ca:=[]) (TH l.ai az AA m a (by exact B) (by exact A) (by exact hin.RE _ _ _ B A))) asm asm) (Oq 2 3 3 U U U U U U) U) ?_
 refine rP 2 [] mn ?_
 refine RK D<|aq<|Q1 hQ U U U ?_
 exact cB (by rw [Bool.eq_iff_iff,decide_eq_true_eq]; exact En)
theorem Q8 (b:bH) (l:aZ) (kA:OA) (kC:Nat) (az:List RA) (cA:OA) (cC:Nat) (bA:OA) (bC g1:Nat) (hin:er l az) (htr:c_ l.aM=true):
 ep Tryz.prog 160 [(vA (bH.cells b)),(vP g1)] [(rd kA l.aM.length 9 (l.aM.map al.cells)),(rd cA l.ai.length 2 (List.zipWith ar.cells l.ai az)),(fc (aU ar.g4 l.ai az)),(rd bA l.ae.length 4 (l.ae.map bH.cells)),(cb g1 28 (bW.cells (lh l kA kC cA cC bA bC)))] (vB (!(decide (jV l b)))):=by
 have J:=hin.sQ
 have H:=hin.sr
 have F:=hin.od
 have G:=hin.sj
 have AA:=hin.side
 refine bG kr Tryz.func160 U U fun M Q hQ hN=>?_
 try dsimp only
 refine WS fun _ C=>fQ U fun K=>bh 1 U<|RK C<|WS fun _ D=>bh 1 U<|rS (V6 (bB.cells (bB.mk (bo.mk kA l.aM.length kC))) 5 U cd U U U)<|bh 1 U<|rS (LP (cM.cells b.mR) 0 U cd U U U)<|rS (CL (Sv l.aM kA kC b.mR asm asm) (bg [1]) U)<|bh 3 U<|AL U dp fun L=>fX U cx U<|bh 1 U<|RK D<|WS fun _ B=>rP 3 [] mn ?_
 refine dh (t:=16) U (bu fun A=>?_) (br fun A=>?_)
 ·refine rP 11 [] mn ?_
  refine RK B<|aq<|Q1 hQ U U U ?_
  (refine cB ?_; rw [cq (fun h:jV l b=>A ((Fu htr).2 h.1))]; rfl)
 refine rP 6 [0,1] (mr 6 U (mc 1 U mn)) ?_
 refine df (xs:=[.tmp 22]) (cs:=[(vI b.j0)]) U cw js U U U U (by simp [Value.cells]) U U fun E=>?_
 refine rS (CL (ep.eq (je 0 ((l.ai.length:Int)-1) ([b.j0]) (some ⟨E,0,none⟩) 1 (by (simp; done))) cY) (av (bf 0 U U (by simp [bI]) U)<|aI) U) ?_
 refine rP 3 [] mn ?_
 refine RK B<|aq<|Q1 hQ U U U ?_
 (refine cB ?_; refine congrArg Bool.not (gi.2 ⟨fun h=>⟨(Fu htr).1 A,I,I⟩,fun h=>by have:=h.2; omega⟩))
theorem Qv (l:aZ) (kA:OA) (kC:Nat) (az:List RA) (cA:OA) (cC:Nat) (bA:OA) (bC:Nat) (hin:er l az) (htr:c_ l.aM=true):
 ep Tryz.prog 158 [(vA (bW.cells (lh l kA kC cA cC bA bC)))] [(rd kA l.aM.length 9 (l.aM.map al.cells)),(rd cA l.ai.length 2 (List.zipWith ar.cells l.ai az)),(fc (aU ar.g4 l.ai az)),(rd bA l.ae.length 4 (l.ae.map bH.cells))] (vB (decide (∀ b∈l.ae,jV l b))):=by
 have H:=hin.sQ
 have G:=hin.sr
 have E:=hin.od
 have F:=hin.sj
 refine bG kr Tryz.func158 U U fun AA Q hQ hN=>?_
 try dsimp only
 refine WS fun _ B=>fQ U fun A=>bh 1 U<|RK B<|WS fun _ C=>rP 2 [] (mc 0 U mn) ?_
 refine rS (FU U) ?_
 refine rS (CL (Ac l.ae bA bC (Value.func (.func 160) [].toArray [(vP A)].toArray) (fun D=>(!(decide (jV l D)))) (fc [(rd kA l.aM.length 9 (l.aM.map al.cells)),(rd cA l.ai.length 2 (List.zipWith ar.cells l.ai az)),(fc (aU ar.g4 l.ai az)),(rd bA l.ae.length 4 (l.ae.map bH.cells)),(cb A 28 (bW.cells (lh l kA kC cA cC bA bC)))]) (by intro D _; exact nZ (fi:=[]) (ca:=[(vP A)]) (mm (Q8 D l kA kC az cA cC bA bC A (by first|assumption|omega) (by first|assumption|omega)) (bg [0,1,2,3,4]))) asm) (fj 4 U U<|av (mh (bg [1,2,3,4,0]))<|aI) U) ?_
 refine rP 2 [] mn ?_
 refine RK C<|aq<|Q1 hQ U U U ?_
 exact cB (by rw [Bool.eq_iff_iff,decide_eq_true_eq]; exact G3)
theorem Pp (l:aZ) (kA:OA) (kC:Nat) (az:List RA) (cA:OA) (cC:Nat) (bA:OA) (bC:Nat) (n:Int) (hin:er l az) (htr:c_ l.aM=true) (hbk: ∀ b∈l.ae,jV l b) (hn:0≤n∧n<(l.ae.length:Int)):
 ep Tryz.prog 96 [(vA (bW.cells (lh l kA kC cA cC bA bC))),(vI n)] [(rd kA l.aM.length 9 (l.aM.map al.cells)),(rd cA l.ai.length 2 (List.zipWith ar.cells l.ai az)),(fc (aU ar.g4 l.ai az)),(rd bA l.ae.length 4 (l.ae.map bH.cells))] (vI (mg l n.toNat)):=by
 have P:=hin.sQ
 have N:=hin.sr
 have L:=hin.od
 have M:=hin.sj
 have O:=hin.side
 refine bG kr Tryz.func96 U U fun AA Q hQ hN=>?_
 try dsimp only
 refine WS fun _ E=>fQ U fun R=>bh 1 U<|RK E<|WS fun _ F=>rP 3 [] (mc 0 U mn) ?_
 obtain ⟨x,hx⟩:=aJ l.ae ((n).toNat) I
 have J:=bK bH.cells hx
 refine rS (IA ((n).toNat) U (aA 4 U) uG dc I I)<|rS (mW (((n).toNat)*4) U (aA 4 U) (Nat.mul_pos I dc) fp U)<|rS (oT ((n).toNat) 0 (cM.cells x.mR) U cd (aA 4 U) J U dc U U)<|AL U Dc fun S=>fX U Kf U<|RK F<|WS fun _ G=>bh 1 U<|rS (LP (bB.cells (bB.mk (bo.mk kA l.aM.length kC))) 1 U cd U U U)<|fu 1 [] (mc 0 U mn) U<|rS (CL (Sv l.aM kA kC x.mR asm asm) (bg [2]) U)<|bh 3 U<|AL U dp fun T=>fX U cx U<|bh 1 U<|RK G<|aj fun _ C=>WS fun _ H=>rP 2 [] mn ?_
 refine RK H<|bQ U (aO fun D=>?_) (aN fun D=>?_)
 ·refine WK C<|WS fun _ B=>rP 3 [] (mc 0 U mn) ?_
  refine RK B<|aq<|Q1 hQ U U U ?_
  (refine congrArg (Value.int .i64) ?_; rw [show n.toNat=0 by omega] at hx ⊢; rw [zM hx,(wo htr (hbk _ (List.mem_of_getElem? hx)).1).2])
 refine dF cE [14] [] [] [1,2,3,4,5,6] [] U U U U U<|eS U (FA 0 U fp U)<|eS U (LP (bB.cells (bB.mk (bo.mk kA l.aM.length kC))) 1 U cd U U U)<|eS U (FA 3 U fp U)<|eS U (L1 (vS bA l.ae.length bC) 1 U cd U U)<|eS U (MV U)<|eS U (BI U (r_ ⟨I,I⟩)) ?_
 obtain ⟨y,hy⟩:=aJ l.ae (((n-1)).toNat) I
 have K:=bK bH.cells hy
 refine eS U (IA (((n-1)).toNat) U (aA 5 U) uG dc I I)<|eS U (mW ((((n-1)).toNat)*4) U (aA 5 U) (Nat.mul_pos I dc) fp U)<|eS U (oT (((n-1)).toNat) 0 (cM.cells y.mR) U cd (aA 5 U) K U dc U U)<|eS U (LW 0 U cd U U)<|eS U (CL (NF l.aM kA kC y.mR x.mR asm asm) (bg [2]) U)<|eS U (MV U)<|eS U (EX U)<|eS U (EX U)<|eT U<|cf U fun T9 AB=>fX U cx U<|aC (AB _ _ (aH [1,2,3,4,5,6]) ?_)
 refine fF U<|KK C<|WS fun _ A=>rP 3 [] (mc 0 U mn) ?_
 refine RK A<|aq<|Q1 hQ U U U ?_
 (refine congrArg (Value.int .i64) ?_; rw [Dl I hx (by rw [show n.toNat-1=(n-1).toNat by omega]; exact hy),(lg htr ⟨(hbk _ (List.mem_of_getElem? hy)).1,(hbk _ (List.mem_of_getElem? hx)).1⟩).2])
theorem Qu (l:aZ) (kA:OA) (kC:Nat) (az:List RA) (cA:OA) (cC:Nat) (bA:OA) (bC:Nat) (hin:er l az) (htr:c_ l.aM=true) (hbk: ∀ b∈l.ae,jV l b):
 ep Tryz.prog 161 [(vA (bW.cells (lh l kA kC cA cC bA bC)))] [(rd kA l.aM.length 9 (l.aM.map al.cells)),(rd cA l.ai.length 2 (List.zipWith ar.cells l.ai az)),(fc (aU ar.g4 l.ai az)),(rd bA l.ae.length 4 (l.ae.map bH.cells))] (vB (decide (∀ i,i<l.ae.length→1≤mg l i))):=by
 have V:=hin.sQ
 have AA:=hin.sr
 have S:=hin.od
 have T:=hin.sj
 refine bG kr Tryz.func161 U U fun X Q hQ hN=>?_
 try dsimp only
 refine WS fun _ J=>fQ U fun W=>bh 1 U<|RK J<|aj fun _ K=>WS fun _ L=>rP 4 [] (mc 0 U mn) ?_
 refine RK L<|ax ?_
 have A:(0≤l.ae.length)∧(∀ j,j<0→1≤mg l j):=by exact ⟨Nat.zero_le _,fun j hj=>absurd hj (Nat.not_lt_zero _)⟩
 refine bL (ι:={z:Nat // (z≤l.ae.length)∧(∀ j,j<z→1≤mg l j)}) [1,6] [0,1,2,3,4] U U (fun z=>[(7,(vI (z.1:Int)))]) (fun z=>[]) (fun _=>rfl) (fun _=>rfl) (fun z=>l.ae.length-z.1) ⟨0,A⟩ (aV U) (aH [0,1,2,3,4]) ?_
 clear A
 rintro ⟨i,⟨P,B⟩⟩ J5 AB
 try dsimp only
 refine WS fun _ M=>rP 1 [] mn ?_
 refine RK M<|aj fun _ N=>bQ U (aO fun R=>?_) (aN fun R=>?_)
 ·refine bD<|ab<|ab<|ay<|KK K<|WS fun _ G=>rP 1 [] mn ?_
  refine RK G<|aq<|Q1 hQ U U U ?_
  exact cB (fR (fun j hj=>B j I)).symm
 refine WK N<|aj fun _ O=>ax<|WS fun _ D=>bh 2 U<|RK D<|WS fun _ E=>fu 2 [] (mc 0 U mn) U<|rS (CL (Pp l kA kC az cA cC bA bC (i:Int) hin htr hbk I) (bg [1,2,3,4]) U)<|rP 1 [] mn ?_
 refine RK E<|cH U (aN fun C=>?_) (aO fun C=>?_)
 ·refine WS fun _ F=>rP 1 [] mn ?_
  refine RK F<|aq<|Q1 hQ U U U ?_
  exact cB (cq (fun h=>by have:=h i I; simp only [Int.toNat_natCast] at C; omega)).symm
 refine bZ<|aB<|KK O<|ak<|rP 2 [] mn ?_
 refine aC ?_
 have H:(vI (((i+1):Nat):Int))=(vI ((i:Int)+1)):=by exact cI I
 refine aR (AB ⟨(i+1),⟨I,fun j hj=>by rcases Nat.lt_or_ge j i with q|q; exact B j q; (obtain rfl:j=i:=by omega); simp only [Int.toNat_natCast] at C; omega⟩⟩ _ _ _ rfl os (du.cons rfl<|du.cons rfl<|aY rfl H<|du.nil _) (aH [0,1,2,3,4]))
end
section
open Go.RowKit
theorem QP:
 ep Tryz.prog 111 [] [] (vA ((gS.cells (gS.mk (Value.func (.func 153) [].toArray [].toArray)))++(gS.cells (gS.mk (Value.func (.func 154) [].toArray [].toArray)))++(gS.cells (gS.mk (Value.func (.func 158) [].toArray [].toArray)))++(gS.cells (gS.mk (Value.func (.func 161) [].toArray [].toArray))))):=by
 refine bG kr Tryz.func111 U U fun D Q hQ hN=>?_
 try dsimp only
 refine WS fun _ A=>AL U SA fun C=>RK A<|WS fun _ B=>rS (SX (bk (xs:=[(0,.func 153)]) (cs:=(gS.cells (gS.mk (Value.func (.func 153) [].toArray [].toArray)))) U U (bj FH U)) U U)<|rS (SX (bk (xs:=[(0,.func 154)]) (cs:=(gS.cells (gS.mk (Value.func (.func 154) [].toArray [].toArray)))) U U (bj FH U)) U U)<|rS (SX (bk (xs:=[(0,.func 158)]) (cs:=(gS.cells (gS.mk (Value.func (.func 158) [].toArray [].toArray)))) U U (bj FH U)) U U)<|rS (SX (bk (xs:=[(0,.func 161)]) (cs:=(gS.cells (gS.mk (Value.func (.func 161) [].toArray [].toArray)))) U U (bj FH U)) U U)<|rS (SX (bk (xs:=[(0,.tmp 1),(1,.tmp 2),(2,.tmp 3),(3,.tmp 4)]) (cs:=((gS.cells (gS.mk (Value.func (.func 153) [].toArray [].toArray)))++(gS.cells (gS.mk (Value.func (.func 154) [].toArray [].toArray)))++(gS.cells (gS.mk (Value.func (.func 158) [].toArray [].toArray)))++(gS.cells (gS.mk (Value.func (.func 161) [].toArray [].toArray))))) U U (bj Uq U)) U U)<|fX U Ta U<|RK B<|aq ?_
 exact IC hQ [0] (mc 0 U mn) U U
theorem BR (l:aZ) (kA:OA) (kC:Nat) (az:List RA) (cA:OA) (cC:Nat) (bA:OA) (bC:Nat) (hin:er l az):
 ep Tryz.prog 73 [(vA (bW.cells (lh l kA kC cA cC bA bC)))] [(rd kA l.aM.length 9 (l.aM.map al.cells)),(rd cA l.ai.length 2 (List.zipWith ar.cells l.ai az)),(fc (aU ar.g4 l.ai az)),(rd bA l.ae.length 4 (l.ae.map bH.cells))] (vI (dC l)):=by
 have A1:=hin.sQ
 have As:=hin.sr
 have AO:=hin.od
 have Ai:=hin.sj
 have A0:=hin.side
 refine bG kr Tryz.func73 U U fun w0 Q hQ hN=>?_
 try dsimp only
 refine WS fun _ m=>fQ U fun b2=>bh 1 U<|RK m<|aj fun _ n=>WS fun _ o=>bh 1 U<|rS (LP (bB.cells (bB.mk (bo.mk kA l.aM.length kC))) 0 U cd U U U)<|rS (CL (BQ l.aM kA kC asm asm) (bg [1]) U)<|bh 1 U<|RK o<|WS fun _ p=>rP 2 [] mn ?_
 refine RK p<|cH U (bu fun B=>?_) (br fun B=>?_)
 ·refine WS fun _ q=>rP 2 [] mn ?_
  refine RK q<|aq<|Q1 hQ U U U ?_
  (refine cI ?_; rw [(zj B).2,yI (zj B).1])
 refine WK n<|aj fun _ s=>WS fun _ t=>?_
 have A:=EC B
 refine rS (CL QP (aI) U)<|bh 1 U<|RK t<|ax<|j5 5<|eD fun R9 u=>WS fun _ C=>rS (SX (b_ (r:= .bool true) U U U g5) U U)<|RK C<|aj fun _ D=>aQ U<|WK D<|aj fun _ E=>ax<|WS fun _ F=>rS (SX (tv (vs:=(gS.cells (gS.mk (Value.func (.func 153) [].toArray [].toArray)))) 0 U U U FL cd U dc U) U U)<|AL U GC fun x=>fX U Fx U<|RK F<|WS fun _ G=>fu 3 [0,1] (mc 0 U (mc 1 U mn)) U<|rS (CL (QN l kA kC az cA cC bA bC hin) (bg [2,3,4,5]) U)<|rP 1 [] mn ?_
 refine RK G<|cH U (bu fun g=>?_) (br fun g=>?_)
 ·refine WS fun _ H=>rP 1 [] mn ?_
  refine RK H<|aq<|Q1 hQ U U U ?_
  exact cI (qN A fun h=>absurd h.head asm).symm
 refine bZ<|aB<|KK E<|ak<|rS (SX (b_ (r:= .int .i64 1) U U U (iD ⟨dc,dc⟩)) U U)<|bh 1 U<|RK u<|eD fun R18 d=>WS fun _ AB=>rS (SX (b_ (r:= .bool true) U U U g5) U U)<|RK AB<|aj fun _ J=>aQ U<|WK J<|aj fun _ K=>ax<|WS fun _ L=>rS (SX (tv (vs:=(gS.cells (gS.mk (Value.func (.func 154) [].toArray [].toArray)))) 1 U U U FL cd U dc U) U U)<|AL U GC fun y=>fX U Fx U<|RK L<|WS fun _ M=>fu 3 [0,1] (mc 0 U (mc 2 U mn)) U<|rS (CL (Qb l kA kC az cA cC bA bC hin) (bg [3,4,5,6]) U)<|rP 1 [] mn ?_
 refine RK M<|cH U (bu fun i=>?_) (br fun i=>?_)
 ·refine WS fun _ N=>rP 1 [] mn ?_
  refine RK N<|aq<|Q1 hQ U U U ?_
  exact cI (qN A fun h=>absurd h.clock asm).symm
 refine bZ<|aB<|KK K<|ak<|rS (SX (b_ (r:= .int .i64 2) U U U (iD ⟨dc,dc⟩)) U U)<|bh 1 U<|RK d<|eD fun R27 e=>WS fun _ O=>rS (SX (b_ (r:= .bool true) U U U g5) U U)<|RK O<|aj fun _ P=>aQ U<|WK P<|aj fun _ R=>ax<|WS fun _ S=>rS (SX (tv (vs:=(gS.cells (gS.mk (Value.func (.func 158) [].toArray [].toArray)))) 2 U U U FL cd U dc U) U U)<|AL U GC fun z=>fX U Fx U<|RK S<|WS fun _ T=>fu 3 [0,1] (mc 0 U (mc 3 U mn)) U<|rS (CL (Qv l kA kC az cA cC bA bC hin asm) (bg [4,5,6,7]) U)<|rP 1 [] mn ?_
 refine RK T<|cH U (bu fun j=>?_) (br fun j=>?_)
 ·refine WS fun _ AA=>rP 1 [] mn ?_
  refine RK AA<|aq<|Q1 hQ U U U ?_
  exact cI (qN A fun h=>absurd h.vK asm).symm
 refine bZ<|aB<|KK R<|ak<|rS (SX (b_ (r:= .int .i64 3) U U U (iD ⟨dc,dc⟩)) U U)<|bh 1 U<|RK e<|eD fun R36 f=>WS fun _ V=>rS (SX (b_ (r:= .bool true) U U U g5) U U)<|RK V<|aj fun _ W=>aQ U<|WK W<|aj fun _ X=>ax<|WS fun _ Y=>rS (SX (tv (vs:=(gS.cells (gS.mk (Value.func (.func 161) [].toArray [].toArray)))) 3 U U U FL cd U dc U) U U)<|AL U GC fun AC=>fX U Fx U<|RK Y<|WS fun _ Z=>fu 3 [0,1] (mc 0 U (mc 4 U mn)) U<|rS (CL (Qu l kA kC az cA cC bA bC hin asm asm) (bg [5,6,7,8]) U)<|rP 1 [] mn ?_
 refine RK Z<|cH U (bu fun k=>?_) (br fun k=>?_)
 ·refine WS fun _ a=>rP 1 [] mn ?_
  refine RK a<|aq<|Q1 hQ U U U ?_
  exact cI (qN A fun h=>absurd h.Ry asm).symm
 refine bZ<|aB<|KK X<|ak<|rS (SX (b_ (r:= .int .i64 4) U U U (iD ⟨dc,dc⟩)) U U)<|bh 1 U<|RK f<|eD fun R45 w=>WS fun _ b=>rS (SX (b_ (r:= .bool false) U U U g5) U U)<|RK b<|aj fun _ v=>aW U<|bD<|ab<|ab<|ay<|KK s<|WS fun _ c=>rP 1 [] mn ?_
 refine RK c<|aq<|Q1 hQ U U U ?_
 exact cI (yh A (zy asm asm asm asm)).symm
theorem Bo (lo hi:Int) (f:Value) (p:Int→Bool) (X:au) (r:Int) (hf: ∀ x0,0≤x0∧x0<hi→DO Tryz.prog f [.int .i64 x0] [X] (.bool (p x0))) (hb:0≤lo∧lo≤r∧r≤hi∧hi≤100000000) (hno: ∀ x,lo≤x→x<r→p x=false) (hyes: ∀ x,r≤x→x<hi→p x=true):
 ep Tryz.prog 137 [(vI lo),(vI hi),f] [X] (vI r):=by
 refine bG kr Tryz.func137 U U fun N Q hQ hN=>?_
 try dsimp only
 refine WS fun _ F=>rP 1 [] mn ?_
 refine RK F<|aj fun _ G=>ax ?_
 have A:(lo≤lo∧lo≤r)∧(r≤hi∧hi≤hi):=by omega
 refine bL (ι:={z:Int×Int // (lo≤z.1∧z.1≤r)∧(r≤z.2∧z.2≤hi)}) [2] [0] U U (fun z=>[(0,(vI z.1.1)),(1,(vI z.1.2))]) (fun z=>[]) (fun _=>rfl) (fun _=>rfl) (fun z=>(z.1.2-z.1.1).toNat) ⟨(lo,hi),A⟩ (aV U) (aH [0]) ?_
 clear A
 rintro ⟨⟨a,b⟩,⟨B,C⟩⟩ J3 D
 try dsimp only at B C
 try dsimp only
 refine aj fun _ H=>WS fun _ AA=>rP 3 [] mn ?_
 refine RK AA<|bQ U (aO fun M=>?_) (aN fun M=>?_)
 ·refine bD<|ab<|ab<|ay<|KK G<|WS fun _ L=>rP 2 [] mn ?_
  refine RK L<|aq<|Q1 hQ U U U ?_
  exact cI I
 refine WK H<|ax<|WS fun _ J=>bh 4 U<|rS (BI U (tD I I I))<|bh 2 U<|RK J<|WS fun _ K=>rP 2 [] mn ?_
 refine rS (SX (sD U U U (hf (a+((b-a)/2)) I) (bg [0])) U U)<|RK K<|cH U (fun hp=>?_) (fun hp=>?_)
 ·refine ak<|rP 2 [] mn ?_
  refine aC<|aB ?_
  refine aR (D ⟨(a,(a+((b-a)/2))),(by dsimp only; rcases Int.lt_or_le (a+(b-a)/2) r with q|q; (have E:=hno _ I q; (rw [E] at hp; cases hp)); (have E:=hyes _ q I; (refine ⟨⟨I,I⟩,I,I⟩)))⟩ _ _ _ rfl (by simp only []; omega) (aV rfl) (aH [0]))
 refine ak<|rP 3 [] mn ?_
 refine aC<|aB ?_
 refine aR (D ⟨(((a+((b-a)/2))+1),b),(by dsimp only; rcases Int.lt_or_le (a+(b-a)/2) r with q|q; (have E:=hno _ I q; (refine ⟨⟨I,I⟩,I,I⟩)); (have E:=hyes _ q I; (rw [E] at hp; cases hp)))⟩ _ _ _ rfl (by simp only []; omega) (aV rfl) (aH [0]))
theorem Kl (u:Int) (c:ar) (sA:OA) (sC g1:Nat) (s:aK) (g2:Nat) (hc:e_ c) (hu:0≤u∧u≤90000000):
 ep Tryz.prog 138 [(vI u),(vP g1),(vP g2)] [(rd sA c.bq.length 3 (c.bq.map cz.cells)),(cb g1 53 (dq.cells (dq.mk c.dw (bo.mk sA c.bq.length sC)))),(cb g2 107 (aK.cells s))] (vB (decide (s.Read≤u+(iz c u).Hi))):=by
 have C:=qL hc hu
 refine bG kr Tryz.func138 U U fun D Q hQ hN=>?_
 try dsimp only
 refine WS fun _ A=>bh 1 U<|RK A<|aj fun _ B=>dK cE 10 kr<|mT 3 [] (mr 1 U mn) U<|dS (CL (Gc c sA sC u hc hu) (bg [0]) U)<|dS (SX (iL (v:=(vI ((iz c u).Hi))) U U fp qQ U) U U)<|dP 5 [] (mr 2 U mn) ?_
 refine cR<|RK B<|aq ?_
 exact Q1 hQ U U U U
theorem KH (u:Int) (c:ar) (sA:OA) (sC g1:Nat) (s:aK) (g2:Nat) (hc:e_ c) (hu:0≤u∧u≤90000000):
 ep Tryz.prog 140 [(vI u),(vP g1),(vP g2)] [(rd sA c.bq.length 3 (c.bq.map cz.cells)),(cb g1 53 (dq.cells (dq.mk c.dw (bo.mk sA c.bq.length sC)))),(cb g2 107 (aK.cells s))] (vB (decide (s.Read<u+(iz c u).Lo))):=by
 have C:=qL hc hu
 refine bG kr Tryz.func140 U U fun D Q hQ hN=>?_
 try dsimp only
 refine WS fun _ A=>bh 1 U<|RK A<|aj fun _ B=>dK cE 10 kr<|mT 3 [] (mr 1 U mn) U<|dS (CL (Gc c sA sC u hc hu) (bg [0]) U)<|dS (SX (iL (v:=(vI ((iz c u).Lo))) U U fp Aj U) U U)<|dP 5 [] (mr 2 U mn) ?_
 refine cR<|RK B<|aq ?_
 exact Q1 hQ U U U U
theorem Js (l:aZ) (kA:OA) (kC:Nat) (az:List RA) (cA:OA) (cC:Nat) (bA:OA) (bC:Nat) (s:aK) (hin:er l az) (hok:lz l) (hs:(0≤s.gu∧s.gu≤(l.ae.length:Int)-1)∧0≤s.Read∧s.Read≤86400000):
 ep Tryz.prog 97 [(vA (bW.cells (lh l kA kC cA cC bA bC))),(vA (aK.cells s))] [(rd kA l.aM.length 9 (l.aM.map al.cells)),(rd cA l.ai.length 2 (List.zipWith ar.cells l.ai az)),(fc (aU ar.g4 l.ai az)),(rd bA l.ae.length 4 (l.ae.map bH.cells))] (vA (aa.cells (cN l s))):=by
 have V:=hin.sQ
 have S:=hin.sr
 have P:=hin.od
 have R:=hin.sj
 refine bG kr Tryz.func97 U U fun Z Q hQ hN=>?_
 try dsimp only
 refine WS fun _ AB=>fQ U fun X=>fQ U fun D=>AL U dp fun Y=>RK AB<|aj fun _ J=>dF cE [11,12] [] [] [0,1,2,3,4,5,6] [] U U U U U<|eS U (FA 2 U fp U)<|eS U (L1 (vS cA l.ai.length cC) 2 U cd U U)<|eS U (FA 3 U fp U)<|eS U (L1 (vS bA l.ae.length bC) 2 U cd U U)<|eS U (FA 0 U fp U)<|eS U (L1 (vI s.gu) 1 U cd U U) ?_
 obtain ⟨y,hy⟩:=aJ l.ae ((s.gu).toNat) I
 have O:=bK bH.cells hy
 refine eS U (IA ((s.gu).toNat) U (aA 6 U) uG dc I I)<|eS U (mW ((((s.gu).toNat)*4)+3) U (aA 6 U) (Nat.mul_pos I dc) fp U)<|eS U (fT ((s.gu).toNat) 3 (vI y.j0) U cd (aA 6 U) O U dc U) ?_
 have W:=(hok.vK _ (aT hy)).2
 obtain ⟨x,hx⟩:=aJ l.ai ((y.j0).toNat) I
 obtain ⟨xa,F⟩:=aJ az ((y.j0).toNat) I
 have N:(List.zipWith ar.cells l.ai az)[(y.j0).toNat]? =some (ar.cells x xa):=dG hx F
 refine eS U (IA ((y.j0).toNat) U (aA 4 U) vD dc I I)<|eS U (oT ((y.j0).toNat) 0 (dq.cells (dq.mk x.dw (bo.mk xa.1 x.bq.length xa.2))) U cd (aA 4 U) N U dc U U)<|eT U<|cf U fun T6 L=>AL U Oj fun E=>aC (L _ _ (aH [1,2,3,4,5,6,7]) ?_)
 refine cf U fun T8 M=>fX U Tv U<|aC (M _ _ (aH [1,2,3,4,5,6,7]) ?_)
 refine fF U<|KK J<|WS fun _ K=>?_
 have A:=hok.clock _ (aT hx)
 have AA:=ik (p:=gl x s.Read) (n:=86400001)
 have T:=ik (p:=gn x s.Read) (n:=86400001)
 refine rS (FU U) ?_
 refine rS (CL (Bo 0 86400001 (Value.func (.func 138) [].toArray [(vP E),(vP D)].toArray) (fun B=>(decide (s.Read≤B+(iz x B).Hi))) (fc [(rd xa.1 x.bq.length 3 (x.bq.map cz.cells)),(cb E 53 (dq.cells (dq.mk x.dw (bo.mk xa.1 x.bq.length xa.2)))),(cb D 107 (aK.cells s))]) (fz (gl x s.Read) 86400001) (by intro B _; exact nZ (fi:=[]) (ca:=[(vP E),(vP D)]) (mm (Kl B x xa.1 xa.2 E s D (by first|assumption|omega) (by first|assumption|omega)) (Oq 0 1 2 U U U U U U))) I (by intro z G hz; exact (kU A G I).1 hz) (by intro z hz H; exact (kU A I H).2.1 hz)) (av (mh (av (show jc _ (rd xa.1 x.bq.length 3 (x.bq.map cz.cells)).holds from (dk 6 U (bV hx F (by simp [ar.g4]))))<|fj 0 U U<|fj 2 U U<|aI))<|aI) U) ?_
 refine rS (FU U) ?_
 refine rS (CL (Bo 0 86400001 (Value.func (.func 140) [].toArray [(vP E),(vP D)].toArray) (fun C=>(decide (s.Read<C+(iz x C).Lo))) (fc [(rd xa.1 x.bq.length 3 (x.bq.map cz.cells)),(cb E 53 (dq.cells (dq.mk x.dw (bo.mk xa.1 x.bq.length xa.2)))),(cb D 107 (aK.cells s))]) (fz (gn x s.Read) 86400001) (by intro C _; exact nZ (fi:=[]) (ca:=[(vP E),(vP D)]) (mm (KH C x xa.1 xa.2 E s D (by first|assumption|omega) (by first|assumption|omega)) (Oq 0 1 2 U U U U U U))) I (by intro z G hz; exact (kU A G I).2.2.1 hz) (by intro z hz H; exact (kU A I H).2.2.2 hz)) (av (mh (av (show jc _ (rd xa.1 x.bq.length 3 (x.bq.map cz.cells)).holds from (dk 6 U (bV hx F (by simp [ar.g4]))))<|fj 0 U U<|fj 2 U U<|aI))<|aI) U) ?_
 refine rP 1 [] mn ?_
 refine rS (SX (bk (xs:=[(0,.tmp 18),(1,.tmp 21)]) (cs:=(aa.cells (aa.mk (fz (gl x s.Read) 86400001) ((fz (gn x s.Read) 86400001)-1)))) U U (bj gv U)) U U)<|sT U cx U<|RK K<|aq<|IC hQ [0] (mc 1 U mn) U ?_
 unfold cN qC; rw [wu hy hx]
end
section
open Go.RowKit
structure Mj (S:BS) (w0:World) (X:au) (C0:List au) (w:World) (S':BS):Prop where
 st:St S w0 (X::C0) w
 w_: ∀ b,S'.w b↔ ∃ A∈C0,A.wf b
theorem DV {A B:au} (h:DC A B):DC A.ro B:=fun b C D=>⟨fun h=>h,(h b C D).2⟩
theorem BL {E:fh} {c:Code} {Q:cZ} {D:gV} {L:di} {C C0:List au} {X:au} (i:Nat) (hn:decide (i::(List.range C.length).filter fun k=>k != i).Nodup=true) (hC:kq C (i::(List.range C.length).filter fun k=>k != i)=X::C0)
 (h: ∀ w S',Mj E.S E.w0 X C0 w S'→WJ ⟨E.P,E.r,E.n,S',w⟩ c Q D L (X.ro::C0)):WJ E c Q D L C:=fun a w hf hs=>by
 have F:=St.kq _ hn hC hs
 obtain ⟨G,H⟩:=List.pairwise_cons.1 F.sep
 refine h w ⟨fun b=> ∃ A∈C0,A.wf b,fun _=>True⟩ ⟨F,fun b=>Iff.rfl⟩ a w hf ⟨d_.refl _ _,fun A hA=>?_,List.Pairwise.cons (fun B hB=>DV (G B hB)) H,fun A hA b hb=>?_,fun A hA b hb=> .inr trivial⟩
 ·rcases bx.1 hA with rfl|hA
  ·exact F.holds X (cm ..)
  ·exact F.holds A (cV _ hA)
 ·rcases bx.1 hA with rfl|hA
  ·exact hb.elim
  ·exact .inr ⟨A,hA,hb⟩
theorem Af {E:fh} {S':BS} {w:World} {K:Act→World→Prop} {D:gV} {L:di} {C0 C1 C2:List au} {X:au} (hz:Mj E.S E.w0 X C0 w S') (is:List Nat) (hn:decide is.Nodup=true) (hC:kq C2 is=C1) (hwr:C1.all (·.wr)=true)
 (h:KJ E K D L (X::C1)):KJ ⟨E.P,E.r,E.n,S',w⟩ K D L C2:=fun a w' hf hs=>by
 have F:=St.kq is hn hC hs
 have C:=hz.st
 obtain ⟨J,M⟩:=List.pairwise_cons.1 C.sep
 have AA: ∀ b,X.eZ b→ ¬ S'.w b:=fun b hb hw=>by
  obtain ⟨A,hA,hw⟩:=(hz.w_ b).1 hw
  exact (J A hA b hb (A.kE b hw)).2 hw
 have G: ∀ b,S'.w b→E.w0.heap.size≤b∨E.S.w b:=fun b hb=>by
  obtain ⟨A,hA,hw⟩:=(hz.w_ b).1 hb
  exact C.own A (cV _ hA) b hw
 have H: ∀ A∈C1,∀ b,A.eZ b→w.heap.size≤b∨S'.w b:=fun A hA b hb=>F.own A hA b (A.whole (cT.1 hwr A hA) b hb)
 refine h a w' hf ⟨?_,fun A hA=>?_,List.Pairwise.cons (fun B hB b hb hb'=>?_) F.sep,fun A hA b hb=>?_,fun A hA b hb=>?_⟩
 ·refine ⟨F.keeps.os.trans C.keeps.os,F.keeps.tape.trans C.keeps.tape,F.keeps.output.trans C.keeps.output,Nat.le_trans C.keeps.size F.keeps.size,fun k hk hn'=>?_⟩
  refine (F.keeps.block k (Nat.lt_of_lt_of_le hk C.keeps.size) fun hw=>?_).trans (C.keeps.block k hk hn')
  rcases G k hw with q|q
  ·omega
  ·exact hn' q
 ·rcases bx.1 hA with rfl|hA
  ·have hh:=C.holds A (cm ..)
   exact A.oM w w' (fun b hb=>F.keeps.block b (A.lt w hh b hb) (AA b hb)) hh
  ·exact F.holds A hA
 ·exfalso
  have hl:=X.lt w (C.holds X (cm ..)) b hb
  rcases H B hB b hb' with q|q
  ·omega
  ·exact AA b hb q
 ·rcases bx.1 hA with rfl|hA
  ·exact C.own A (cm ..) b hb
  ·rcases F.own A hA b hb with q|q
   ·exact .inl (Nat.le_trans C.keeps.size q)
   ·exact G b q
 ·rcases bx.1 hA with rfl|hA
  ·exact C.seen A (cm ..) b hb
  ·rcases H A hA b hb with q|q
   ·exact .inl (Nat.le_trans C.keeps.size q)
   ·obtain ⟨B,hB,hw⟩:=(hz.w_ b).1 q
    exact C.seen B (cV _ hB) b (B.kE b hw)
/-- put back, as it was -/
theorem HG {M A:Type} {f:M→A→List au} {S:BS} {w0 w:World} {C:List au} {ms:List M} {asl:List A} {k:Nat} {m:M} {a:A} {X:au} (hm:ms[k]? =some m) (ha:asl[k]? =some a) (hf:f m a=[X]) (h:St S w0 (X::bw (fE f ms asl k)::C) w):St S w0 (bw (aU f ms asl)::C) w:=by
 have B:St S w0 (bw (fE f ms asl k)::X::C) w:=h.perm (List.Perm.swap _ _ _)
 have D:St S w0 ((f m a++fE f ms asl k)++C) w:=by
  rw [hf]
  exact B.ir.perm (List.perm_middle (a:=X) (l₁:=fE f ms asl k) (l₂:=C))
 exact kZ (kY hm ha).symm D.tied
theorem KD {E:fh} {K:Act→World→Prop} {D:gV} {L:di} {C C1:List au} {M A:Type} {f:M→A→List au} {ms:List M} {asl:List A} {k:Nat} {m:M} {a:A} {X:au} (i j:Nat) (hm:ms[k]? =some m) (ha:asl[k]? =some a) (hf:f m a=[X])
 (hn:decide (j::i::(List.range C.length).filter fun k=>k != i&&k != j).Nodup=true) (hC:kq C (j::i::(List.range C.length).filter fun k=>k != i&&k != j)=X::bw (fE f ms asl k)::C1)
 (h:KJ E K D L (bw (aU f ms asl)::C1)):KJ E K D L C:=fun a w hf' hs=>h a w hf' (HG hm ha hf (St.kq _ hn hC hs))
theorem zo {M A:Type} {f:M→A→List au} {ms:List M} {asl:List A} {m:M} {a:A} {X:au} (hl:ms.length=asl.length) (hf:f m a=[X]):aU f ms asl++[X]=aU f (ms++[m]) (asl++[a]):=by
 rw [iN hl,← hf]; simp [aU]
theorem zp {E:fh} {K:Act→World→Prop} {D:gV} {L:di} {C C1:List au} {M A:Type} {f:M→A→List au} {ms:List M} {asl:List A} {m:M} {a:A} {X:au} (i j:Nat) (hf:f m a=[X])
 (hn:decide (j::i::(List.range C.length).filter fun k=>k != i&&k != j).Nodup=true) (hC:kq C (j::i::(List.range C.length).filter fun k=>k != i&&k != j)=X::bw (aU f ms asl)::C1)
 (h:KJ E K D L (bw (aU f (m::ms) (a::asl))::C1)):KJ E K D L C:=fun b w hf' hs=>by
 have B:=St.kq _ hn hC hs
 have F:St E.S E.w0 (bw (aU f ms asl)::X::C1) w:=B.perm (List.Perm.swap _ _ _)
 have G:St E.S E.w0 (aU f (m::ms) (a::asl)++C1) w:=by
  show St E.S E.w0 ((f m a++aU f ms asl)++C1) w
  rw [hf]
  exact F.ir.perm (List.perm_middle (a:=X) (l₁:=aU f ms asl) (l₂:=C1))
 exact h b w hf' G.tied
end
section
open Go.RowKit
abbrev lR (r:Nat):au:=lE r (.deferred (some []))
theorem Nq (rs:List Nat):(bw (rs.map lR)).wr=true:=by
 show (rs.map lR).all (·.wr)=true
 rw [cT]
 intro X hX
 obtain ⟨r,_,rfl⟩:=bX.1 hX
 rfl
theorem wa {E:fh} {c:Code} {Q:cZ} {D:gV} {L:di} {C:List au} {ι:Type} (Di:ι→gV) (Li:ι→di) (Ci:ι→List au) (μ:ι→Nat) (x0:ι)
 (hD:D=Di x0) (h0:du L (Li x0)) (hC: ∀ w,St E.S E.w0 C w→St E.S E.w0 (Ci x0) w)
 (round: ∀ x (J:Act→World→Prop),(∀ y D' L' C',D'=Di y→μ y<μ x→du L' (Li y)→(∀ w,St E.S E.w0 C' w→St E.S E.w0 (Ci y) w)→KJ E J D' L' C')→WJ E c (Exit.then J Q) (Di x) (Li x) (Ci x)):WJ E (.loop c) Q D L C:=by
 intro a w hf hs
 subst hD
 have H: ∃ x,Fr E.n (Di x) (Li x) a∧St E.S E.w0 (Ci x) w:=⟨x0,hf.sub h0,hC w hs⟩
 clear hf hs
 have key: ∀ (m:Nat) (a:Act) (w:World),(∃ x,μ x=m∧Fr E.n (Di x) (Li x) a∧St E.S E.w0 (Ci x) w)→(Code.loop c).wpIn (Fw E.r) 0 E.P Q a w:=by
  intro m a w hx
  refine wpIn_loop (fun a w=> ∃ x,Fr E.n (Di x) (Li x) a∧St E.S E.w0 (Ci x) w) (fun a w=>leastOf fun k=> ∃ x,μ x=k∧Fr E.n (Di x) (Li x) a∧St E.S E.w0 (Ci x) w) (by obtain ⟨x,_,h⟩:=hx; exact ⟨x,h⟩) ?_
  intro a w hx
  have F: ∃ k,∃ x,μ x=k∧Fr E.n (Di x) (Li x) a∧St E.S E.w0 (Ci x) w:=by obtain ⟨x,h⟩:=hx; exact ⟨_,x,rfl,h⟩
  obtain ⟨x,K,AA,M⟩:=(leastOf_spec F).1
  refine round x _ ?_ a w AA M
  intro y D' L' C' hD G A B a' w' hf' hs'
  subst hD
  refine ⟨⟨y,hf'.sub A,B _ hs'⟩,?_⟩
  rw [← K]
  exact Nat.lt_of_le_of_lt ((leastOf_spec ⟨_,y,U,hf'.sub A,B _ hs'⟩).2 _ ⟨y,U,hf'.sub A,B _ hs'⟩) G
 obtain ⟨x,h⟩:=H
 exact key _ a w ⟨x,U,h⟩
theorem St.VW {S:BS} {w0 w:World} {C X:List au} {A:au} (h:St S w0 (A::bw X::C) w):St S w0 (bw (A::X)::C) w:=by
 have B:St S w0 (bw X::A::C) w:=h.perm (List.Perm.swap _ _ _)
 have D:St S w0 ((A::X)++C) w:=B.ir.perm (List.perm_middle (a:=A) (l₁:=X) (l₂:=C))
 exact D.tied
theorem Kd {E:fh} {K:Act→World→Prop} {D:gV} {L:di} {C C1 X:List au} {A:au} (i j:Nat) (hn:decide (j::i::(List.range C.length).filter fun k=>k != i&&k != j).Nodup=true) (hC:kq C (j::i::(List.range C.length).filter fun k=>k != i&&k != j)=A::bw X::C1)
 (h:KJ E K D L (bw (A::X)::C1)):KJ E K D L C:=fun a w hf hs=>h a w hf ((St.kq _ hn hC hs).VW)
theorem Eu {E:fh} {K:Act→World→Prop} {D:gV} {L:di} {C:List au} (h:KJ E K D L (bw []::C)):KJ E K D L C:=fun a w hf hs=>h a w hf hs.P8
theorem PX {E:fh} {K:Act→World→Prop} {D:gV} {L:di} (C1 C2:List au) (h:KJ E K D L (bw C1::C2)):KJ E K D L (C1++C2):=fun a w hf hs=>h a w hf (St.tied hs)
theorem NZ {E:fh} {fn:Func} {R:Ending→World→Prop} {D:gV} {L:di} {C C1:List au} {rs:List Nat} (i:Nat) (hn:decide (i::(List.range C.length).filter fun k=>k != i).Nodup=true) (hC:kq C (i::(List.range C.length).filter fun k=>k != i)=bw (rs.map lR)::C1)
 (h:LJ E fn R D L C1):LJ E fn R (rs.map lI++D) L C:=by
 have key: ∀ rs:List Nat,LJ E fn R (rs.map lI++D) L (bw (rs.map lR)::C1):=by
  intro rs
  induction rs with
  |nil=>exact fun a w hf hs=>h a w hf (hs.take (List.sublist_cons_self _ _))
  |cons r rs ih=>
   have A:LJ E fn R (lI r::(rs.map lI++D)) L (lR r::bw (rs.map lR)::C1):=oN 0 rfl rfl (fun a w hf hs=>ih a w hf (hs.take (List.sublist_cons_self _ _)))
   intro a w hf hs
   refine A a w hf ?_
   have B:St E.S E.w0 ((lR r::rs.map lR)++C1) w:=St.ir (C1:=lR r::rs.map lR) hs
   have F:St E.S E.w0 (rs.map lR++(lR r::C1)) w:=B.perm (List.perm_middle (a:=lR r) (l₁:=rs.map lR) (l₂:=C1)).symm
   exact F.tied.perm (List.Perm.swap _ _ _)
 exact fun a w hf hs=>key rs a w hf (St.kq _ hn hC hs)
theorem LF {E:fh} {fn:Func} {R:Ending→World→Prop} {L:di} {C C1:List au} {rs:List Nat} (i:Nat) (hn:decide (i::(List.range C.length).filter fun k=>k != i).Nodup=true) (hC:kq C (i::(List.range C.length).filter fun k=>k != i)=bw (rs.map lR)::C1)
 (h:LJ E fn R [] L C1):LJ E fn R (rs.map lI) L C:=by
 have:=NZ (D:=[]) i hn hC h
 rwa [List.append_nil] at this
end
section
open Go.RowKit
theorem IX (fs:List FM) (fb:List Nat):(bw (aU ob fs fb)).wr=true:=by
 show (aU ob fs fb).all (·.wr)=true
 rw [cT]
 intro X hX
 obtain ⟨k,m,a,_,_,h⟩:=jX hX
 simp only [ob,bJ] at h
 subst h; rfl
theorem Sm (fs:List TM) (fb:List Nat):(bw (aU rK fs fb)).wr=true:=by
 show (aU rK fs fb).all (·.wr)=true
 rw [cT]
 intro X hX
 obtain ⟨k,m,a,_,_,h⟩:=jX hX
 simp only [rK,bJ] at h
 subst h; rfl
end
section
def eG (bl:List Nat) (n:Nat):List (Option Nat):=bl.map some++List.replicate (n-bl.length) none
def hP (bl:List Nat) (n:Nat):List (Option Nat):=List.replicate (n-bl.length) none++bl.map some
theorem q_ {bl:List Nat} {n:Nat} (h:bl.length≤n):(eG bl n).length=n:=by simp [eG]; omega
theorem zF {bl:List Nat} {n:Nat} (h:bl.length≤n):(hP bl n).length=n:=by simp [hP]; omega
theorem zg {n:Nat}:List.replicate n none=eG [] n:=by simp [eG]
theorem Hk {n:Nat}:List.replicate n none=hP [] n:=by simp [hP]
theorem zG {bl:List Nat} {n:Nat} (h:bl.length=n):eG bl n=bl.map some:=by simp [eG,h]
theorem HY {bl:List Nat} {n:Nat} (h:bl.length=n):hP bl n=bl.map some:=by simp [hP,h]
theorem o3 {bl:List Nat} {n k g:Nat} (h:bl[k]? =some g):(eG bl n)[k]? =some (some g):=by
 have hk:=(aS.1 h).1
 unfold eG
 rw [List.getElem?_append_left (by simpa using hk),fH,h]; rfl
theorem tg {bl:List Nat} {n k i g:Nat} (h:bl[i]? =some g) (hk:k=n-bl.length+i):(hP bl n)[k]? =some (some g):=by
 subst hk
 unfold hP
 rw [List.getElem?_append_right sm,fH,List.length_replicate,Nat.add_sub_cancel_left,h]; rfl
theorem uK {bl:List Nat} {n k g:Nat} (hk:k=bl.length) (h:bl.length<n):(eG bl n).set k (some g)=eG (bl++[g]) n:=by
 subst hk
 unfold eG
 rw [List.set_append_right _ _ sm]
 have e:n-bl.length=(n-(bl++[g]).length)+1:=by simp; omega
 rw [e,List.replicate_succ]
 simp
theorem H5 {bl:List Nat} {n k g:Nat} (hk:k+1+bl.length=n):(hP bl n).set k (some g)=hP (g::bl) n:=by
 unfold hP
 have e:n-bl.length=k+1:=by omega
 have A:n-(g::bl).length=k:=by simp; omega
 rw [e,A,List.set_append_left _ _ sm,List.replicate_succ',List.set_append_right _ _ sm]
 simp
theorem rZ {l:List (Option Nat)} {k g:Nat} (h:l[k]? =some (some g)):(l.map oC)[k]? =some (oC (some g)):=by rw [fH,h]; rfl
theorem Bc {α:Type} {l:List α} {x:α} {k:Nat} (h:k=l.length):(l++[x])[k]? =some x:=by subst h; simp
theorem Ji {α:Type} {l:List α} {x y:α} {k:Nat} (h:l[k]? =some y):(l++[x])[k]? =some y:=by rw [List.getElem?_append_left (aS.1 h).1]; exact h
structure qe (w:bR) (fs:List FM):Prop where
 all: ∀ (b:Nat) m,fs[b]? =some m→s8 m (fwd w b)∧(m.map (·.1)).Nodup
structure ia (w:bR) (k:Nat) (bs:List FM):Prop where
 all: ∀ (i:Nat) m,bs[i]? =some m→u9 m (back w (k+i))∧(m.map (·.1)).Nodup
variable {w:bR} {b:Nat} {mb m left:List (aD×Int)} {o:Int×aa} {os:List (Int×aa)} {p:aD×Int}
theorem qe.first:qe w [[(⟨0,0⟩,w.Start)]]:=⟨fun b m h=>by
 match b with
 |0=>simp at h; subst h; exact ⟨Iw,sm⟩
 |n+1=>simp at h⟩
theorem qe.add {fs:List FM} (h:qe w fs) (hl:fs.length=b+1) (hmb:fs[b]? =some mb) (hm:xh w b m) (hd:jY w b mb m left) (h0:left=[]):qe w (fs++[m]):=⟨fun i x hx=>by
 rcases Nat.lt_or_ge i fs.length with q|q
 ·rw [List.getElem?_append_left q] at hx; exact h.all i x hx
 ·rw [List.getElem?_append_right q] at hx
  have hi:i-fs.length=0:=by
   rcases Nat.eq_zero_or_pos (i-fs.length) with z|z
   ·exact z
   ·rw [List.getElem?_eq_none (by simp; omega)] at hx; cases hx
  rw [hi] at hx
  simp at hx; subst hx
  obtain rfl:i=b+1:=by omega
  have A:=h.all b mb hmb
  exact ⟨KS A.2 A.1 hm.snd (hd.fin h0),hm.keys⟩⟩
theorem qe.ok {fs:List FM} (h:qe w fs) (hl:fs.length=w.n+1):xy w fs:=⟨hl,fun b m hm=>(h.all b m hm).1,fun b m hm=>(h.all b m hm).2⟩
theorem ia.none_:ia w b []:=⟨fun i m h=>by simp at h⟩
theorem ia.last (hb:w.n≤b):ia w b [[(⟨0,0⟩,w.gk)]]:=⟨fun i m h=>by
 match i with
 |0=>simp at h; subst h; exact ⟨LR I,sm⟩
 |n+1=>simp at h⟩
theorem ia.add {bs:List FM} (h:ia w (b+1) bs) (hb:b<w.n) (hmb:bs[0]? =some mb) (hm:vH w b m) (hd:jK w b mb m left) (h0:left=[]):ia w b (m::bs):=⟨fun i x hx=>by
 match i with
 |0=>
  simp at hx; subst hx
  have A:=h.all 0 mb hmb
  exact ⟨Mi hb A.2 A.1 hm.snd hm.zero (hd.fin h0),hm.keys⟩
 |n+1=>
  have:=h.all n x (by simpa using hx)
  rw [show b+1+n=b+(n+1) by omega] at this
  exact this⟩
theorem ia.ok {bs:List FM} (h:ia w 0 bs) (hl:bs.length=w.n+1):uH w bs:=⟨hl,fun b m hm=>by have:=(h.all b m hm).1; rwa [Nat.zero_add] at this,fun b m hm=>(h.all b m hm).2⟩
/-- on the way through one entry's options -/
structure nB (w:bR) (b:Nat) (mb left m:List (aD×Int)) (p:aD×Int) (os:List (Int×aa)):Prop where
 on:xh w b m
 tn:jY w b mb m left
 done:jh w b m p os
structure nO (w:bR) (b:Nat) (mb left m:List (aD×Int)) (p:aD×Int) (os:List (Int×aa)):Prop where
 on:vH w b m
 tn:jK w b mb m left
 done:jk w b m p os
theorem nB.start (h:xh w b m) (h2:jY w b mb m left):nB w b mb left m p []:=⟨h,h2,fun o ho=>by cases ho⟩
theorem nO.start (h:vH w b m) (h2:jK w b mb m left):nO w b mb left m p []:=⟨h,h2,fun o ho=>by cases ho⟩
theorem H8 {q:aD×Int} (h:(m.lookup q.1).isSome=false∨q.2<(m.lookup q.1).getD 0):ph m q=dW m q.1 q.2:=by
 unfold ph
 cases e:m.lookup q.1 with
 |none=>rfl
 |some v=>rw [e] at h; simp at h; simp only; rw [if_pos h]
theorem DD {q:aD×Int} (h:(m.lookup q.1).isSome=true) (h2: ¬ q.2<(m.lookup q.1).getD 0):ph m q=m:=by
 unfold ph
 cases e:m.lookup q.1 with
 |none=>rw [e] at h; cases h
 |some v=>rw [e] at h2; simp only [Option.getD_some] at h2; simp only; rw [if_neg h2]
theorem Hc {q:aD×Int} (h:(m.lookup q.1).isSome=false∨(m.lookup q.1).getD 0<q.2):oY m q=dW m q.1 q.2:=by
 unfold oY
 cases e:m.lookup q.1 with
 |none=>rfl
 |some v=>rw [e] at h; simp at h; simp only; rw [if_pos h]
theorem Ed {q:aD×Int} (h:(m.lookup q.1).isSome=true) (h2: ¬ (m.lookup q.1).getD 0<q.2):oY m q=m:=by
 unfold oY
 cases e:m.lookup q.1 with
 |none=>rw [e] at h; cases h
 |some v=>rw [e] at h2; simp only [Option.getD_some] at h2; simp only; rw [if_neg h2]
theorem AM {t:aD} {v y:Int} (hy:w.qb[b]? =some y) (h:max (v+y) o.2.Lo≤min o.2.Hi w.gk):kT w b (t,v) o=some (dy t (fr o.1),max (v+y) o.2.Lo):=by
 have e:=nD hy
 subst e
 exact Ke h
theorem Jj {t:aD} {v y:Int} (hy:w.qb[b]? =some y) (h: ¬ max (v+y) o.2.Lo≤min o.2.Hi w.gk):kT w b (t,v) o=none:=by
 have e:=nD hy
 subst e
 exact Oz h
theorem AT {t:aD} {v y:Int} (hy:w.qb[b]? =some y) (h:o.2.Lo≤min v o.2.Hi):oc w b (t,v) o=some (dy t (fr o.1),min v o.2.Hi-y):=by
 have e:=nD hy
 subst e
 exact JE h
theorem nB.set {q:aD×Int} (h:nB w b mb left m p os) (hp:p∈fwd w b) (ho:o∈iF w b) (he:kT w b p o=some q) (hs:(m.lookup q.1).isSome=false∨q.2<(m.lookup q.1).getD 0):nB w b mb left (dW m q.1 q.2) p (os++[o]):=by
 rw [← H8 hs]
 exact ⟨h.on.add hp ho he,h.tn.lower vi,h.done.KM he⟩
theorem nB.oM {q:aD×Int} (h:nB w b mb left m p os) (he:kT w b p o=some q) (hs:(m.lookup q.1).isSome=true) (h2: ¬ q.2<(m.lookup q.1).getD 0):nB w b mb left m p (os++[o]):=by
 have:=h.done.KM he
 rw [DD hs h2] at this
 exact ⟨h.on,h.tn,this⟩
theorem nB.skip (h:nB w b mb left m p os) (he:kT w b p o=none):nB w b mb left m p (os++[o]):=⟨h.on,h.tn,h.done.none_ he⟩
theorem nO.set {q:aD×Int} (hb:b<w.n) (h:nO w b mb left m p os) (hp:p∈back w (b+1)) (ho:o∈iF w b) (he:oc w b p o=some q) (hs:(m.lookup q.1).isSome=false∨(m.lookup q.1).getD 0<q.2):nO w b mb left (dW m q.1 q.2) p (os++[o]):=by
 rw [← Hc hs]
 exact ⟨h.on.add hb hp ho he,h.tn.upper qE,h.done.KM he⟩
theorem nO.oM {q:aD×Int} (h:nO w b mb left m p os) (he:oc w b p o=some q) (hs:(m.lookup q.1).isSome=true) (h2: ¬ (m.lookup q.1).getD 0<q.2):nO w b mb left m p (os++[o]):=by
 have:=h.done.KM he
 rw [Ed hs h2] at this
 exact ⟨h.on,h.tn,this⟩
theorem nO.skip (h:nO w b mb left m p os) (he:oc w b p o=none):nO w b mb left m p (os++[o]):=⟨h.on,h.tn,h.done.none_ he⟩
theorem nB.next {t:aD} {v:Int} (hn:(left.map (·.1)).Nodup) (hm:(t,v)∈left) (h:nB w b mb left m (t,v) os) (ho: ∀ o∈iF w b,o∈os):jY w b mb m (cG left t):=h.tn.next hn hm h.done ho
theorem nO.next {t:aD} {v:Int} (hn:(left.map (·.1)).Nodup) (hm:(t,v)∈left) (h:nO w b mb left m (t,v) os) (ho: ∀ o∈iF w b,o∈os):jK w b mb m (cG left t):=h.tn.next hn hm h.done ho
theorem qe.mem {fs:List FM} (h:qe w fs) (hm:fs[b]? =some mb) (hp:p∈mb):p∈fwd w b:=(h.all b mb hm).1.1 _ _ ((fD (h.all b mb hm).2).1 hp)
theorem ia.UX {bs:List FM} {k:Nat} (h:ia w k bs) (hk:k=b+1) (hm:bs[0]? =some mb) (hp:p∈mb):p∈back w (b+1):=by
 subst hk
 exact (h.all 0 mb hm).1.1 _ _ ((fD (h.all 0 mb hm).2).1 hp)
theorem ia.end_ {bs:List FM} {k j:Nat} (h:ia w k bs) (hj:bs.length=0) (hk:j=b) (hb:w.n≤b):ia w j ([(⟨0,0⟩,w.gk)]::bs):=by
 subst hk
 rw [jR hj]
 exact ia.last hb
theorem ia.more {bs:List FM} {k j:Nat} (h:ia w k bs) (hk:k=b+1) (hj:j=b) (hb:b<w.n) (hmb:bs[0]? =some mb) (hm:vH w b m) (hd:jK w b mb m left) (h0:left=[]):ia w j (m::bs):=by
 subst hk hj
 exact h.add hb hmb hm hd h0
end
section
open Go.RowKit
theorem kl {a:OA} {c e sz n:Nat} {es:List (List Value)} (h:es.length=n):MR (own a c e sz es) (rd a n sz es):=by subst h; exact OV
theorem tP {L:List au}:MR (bw L) (fc L):=⟨fun w h=>h.1,fun b h=>h⟩
theorem OZ {b:Nat} {fb:List Nat} {g:Nat} (h:fb.length=b):aU rK (List.replicate b ([]:TM)) fb++[g_ iV g (bM dD [])]=aU rK (List.replicate (b+1) ([]:TM)) (fb++[g]):=by
 rw [List.replicate_succ']
 exact zo (by rw [List.length_replicate]; exact h.symm) U
theorem U2 {α:Type} {ms:List α} {fb:List Nat} {n:Nat} (h:fb.length=n) (h2:ms.length=n):List.map oC (eG fb n)=List.zipWith gN ms fb:=by
 rw [zG h]; exact (AB I).symm
theorem v_ {l:aZ} {r:cJ} {i:Nat} {x:aK} (hx:r.ah[i]? =some x) (h: ¬ ko l r.ah i x): ¬ fm l r:=fun q=>h (q.sig i x hx)
end
end Go.Proofs.YtlajhejcfcoddaaGreatDoor
