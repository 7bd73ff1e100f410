/-
 The statement beamRides_said, part 3 of 6: Ways, Twin, Async, WayM, DrawB, B1, B2, B3, B7.
 Conditions: none.
-/
import Derived.Test.YthiigjekcdjkkaaGreatRd1
import Derived.Test.YthiigjekcdjkkaaGreatRd2
namespace Go.Proofs.YthiigjekcdjkkaaGreat
section
set_option linter.unusedVariables false
def eP (hi:Int→Int) (least:Nat→Int) (now:Int):Nat→List Int→List Int×Int
 |_,[]=>([],now)
 |b,x::xs=>((if 0≤x then min (eP hi least now (b+1) xs).2 (hi x) else (eP hi least now (b+1) xs).2)::(eP hi least now (b+1) xs).1,(if 0≤x then min (eP hi least now (b+1) xs).2 (hi x) else (eP hi least now (b+1) xs).2)-least b)
def eu (t:Int):List Int→Int
 |[]=>t
 |x::xs=>eu x xs
def iL (w:bh):Nat→Int→List Int→List Int→Prop
 |_,_,[],[]=>True
 |b,t,x::rs,y::fs=>(∃ o∈gj w b,o.1=x∧max (t+bx w b) o.2.Lo≤min o.2.Hi w.cI∧y=max (t+bx w b) o.2.Lo)∧iL w (b+1) y rs fs
 |_,_,_,_=>False
section
variable {w:bh} {hi:Int→Int} {least:Nat→Int} {now:Int}
theorem oz: ∀ (b:Nat) (rs:List Int),(eP hi least now b rs).1.length=rs.length
 |_,[]=>rfl
 |b,x::xs=>by simp only [eP,List.length_cons]; rw [oz]
theorem kP: ∀ (t:Int) (fs:List Int) (y:Int),eu t (fs++[y])=y
 |_,[],_=>rfl
 |t,x::fs,y=>kP x fs y
theorem sR: ∀ (t:Int) (fs:List Int) (y:Int),fs[fs.length-1]? =some y→eu t fs=y
 |t,[],y,h=>by simp at h
 |t,[x],y,h=>by simpa [eu] using h
 |t,x::x2::fs,y,h=>by
  show eu x (x2::fs)=y
  exact sR x (x2::fs) y (by simpa using h)
theorem pA: ∀ (b:Nat) (rs:List Int) (x:Int) (ss:List Int),(eP hi least now b (rs++x::ss)).1[rs.length]? =some (if 0≤x then min (eP hi least now (b+rs.length+1) ss).2 (hi x) else (eP hi least now (b+rs.length+1) ss).2)
 |b,[],x,ss=>by simp [eP]
 |b,z::rs,x,ss=>by
  have:=pA (b+1) rs x ss
  simp only [List.cons_append,eP,List.length_cons,List.getElem?_cons_succ]
  rw [this,show b+1+rs.length+1=b+(rs.length+1)+1 by omega]
theorem iP: ∀ (b:Nat) (t:Int) (rs fs:List Int),iL w b t rs fs→fs.length=rs.length
 |_,_,[],[],_=>rfl
 |b,t,x::rs,y::fs,h=>by simp [iP _ _ rs fs h.2]
 |_,_,[],_::_,h=>h.elim
 |_,_,_::_,[],h=>h.elim
theorem od: ∀ (b:Nat) (t:Int) (rs fs ss gs:List Int),fs.length=rs.length→(iL w b t (rs++ss) (fs++gs)↔iL w b t rs fs∧iL w (b+rs.length) (eu t fs) ss gs)
 |b,t,[],[],ss,gs,_=>by simp [iL,eu]
 |b,t,x::rs,y::fs,ss,gs,h=>by
  have ih:=od (b+1) y rs fs ss gs (by simpa using h)
  simp only [List.cons_append,iL,List.length_cons,eu]
  rw [ih,show b+1+rs.length=b+(rs.length+1) by omega,and_assoc]
 |_,_,[],_::_,_,_,h=>by simp at h
 |_,_,_::_,[],_,_,h=>by simp at h
theorem xP (b:List Int): ∀ t:ao,b.foldl (fun t g=>cO t (dQ g)) t=cO t (cJ b):=by
 induction b with
 |nil=>intro t; exact (kQ t).symm
 |cons x b ih=>
  intro t
  show b.foldl (fun t g=>cO t (dQ g)) (cO t (dQ x))=cO t (b.foldl (fun t g=>cO t (dQ g)) (cO ⟨0,0⟩ (dQ x)))
  rw [ih,ih]; simp only [cO,ao.mk.injEq]; omega
theorem ow (a b:List Int):cJ (a++b)=cO (cJ a) (cJ b):=by
 show (a++b).foldl _ _=_
 rw [List.foldl_append,xP]; rfl
theorem ov:cJ []=(⟨0,0⟩:ao):=rfl
theorem mB (l:List Int):cO (⟨0,0⟩:ao) (cJ l)=cJ l:=by simp [cO]
theorem oV (x:Int) (l:List Int):cJ (x::l)=cO (dQ x) (cJ l):=by
 rw [show x::l=[x]++l from rfl,ow,show cJ [x]=dQ x from (iB (l:=[])).trans (by rw [ov]; simp [cO])]
theorem py: ∀ l:List Int,0≤(cJ l).right∧0≤(cJ l).de∧(cJ l).right+(cJ l).de=(l.length:Int)
 |[]=>by rw [ov]; simp
 |x::l=>by
  rw [oV]
  have:=qw x
  have:=py l
  simp only [cO,List.length_cons]
  omega
/-- chains are what the watch goes through -/
theorem iH: ∀ (k b:Nat) (p q:ao×Int),q∈eC w k b p↔ ∃ rs fs,rs.length=k∧iL w b p.2 rs fs∧q=(cO p.1 (cJ rs),eu p.2 fs):=by
 intro k
 induction k with
 |zero=>
  intro b p q
  simp only [eC,List.mem_singleton]
  constructor
  ·rintro rfl; exact ⟨[],[],rfl,trivial,by rw [ov,kQ]; rfl⟩
  ·rintro ⟨rs,fs,h1,h2,rfl⟩
   have h1:=List.eq_nil_of_length_eq_zero h1
   subst h1
   have:=List.eq_nil_of_length_eq_zero (iP _ _ _ _ h2)
   subst this
   rw [ov,kQ]; rfl
 |succ k ih=>
  intro b p q
  rw [fQ]
  constructor
  ·rintro ⟨o,ho,p',e,h⟩
   obtain ⟨h1,rfl⟩:=eZ.1 e
   obtain ⟨rs,fs,h2,h3,rfl⟩:=(ih _ _ _).1 h
   refine ⟨o.1::rs,max (p.2+bx w b) o.2.Lo::fs,by simp [h2],⟨⟨o,ho,rfl,h1,rfl⟩,h3⟩,?_⟩
   rw [oV]
   simp only [eu,cO,Prod.mk.injEq,ao.mk.injEq,and_true]; omega
  ·rintro ⟨rs,fs,h1,h2,rfl⟩
   cases rs with
   |nil=>simp at h1
   |cons x rs=>
    cases fs with
    |nil=>exact h2.elim
    |cons y fs=>
     obtain ⟨⟨o,ho,rfl,h3,rfl⟩,h4⟩:=h2
     refine ⟨o,ho,_,eZ.2 ⟨h3,rfl⟩,(ih _ _ _).2 ⟨rs,fs,by simpa using h1,h4,?_⟩⟩
     rw [oV]
     simp only [eu,cO,Prod.mk.injEq,ao.mk.injEq,and_true]; omega
/-- what the reference's rows of last times know -/
structure z9 (w:bh) (hi:Int→Int) (least:Nat→Int) (now:Int):Prop where
 low: ∀ b,0≤bx w b
 least: ∀ b,b<w.n→least b=bx w b
 now:now=w.cI
 hi: ∀ b o,b<w.n→o∈gj w b→0≤o.1→o.2.Hi=hi o.1
 none_: ∀ b o,b<w.n→o∈gj w b→ ¬ 0≤o.1→o.2.Hi=w.cI
theorem sf (h:z9 w hi least now): ∀ (b:Nat) (rs:List Int),b+rs.length≤w.n→(eP hi least now b rs).2≤w.cI
 |_,[],_=>by simp only [eP]; exact Int.le_of_eq h.now
 |b,x::xs,hb=>by
  simp only [List.length_cons] at hb
  have h1:=sf h (b+1) xs (by omega)
  have h2:=h.low b
  rw [← h.least b (by omega)] at h2
  simp only [eP]
  split<;>omega
theorem oJ (h:z9 w hi least now): ∀ (b:Nat) (t:Int) (rs fs:List Int),b+rs.length≤w.n→t≤w.cI→iL w b t rs fs→t≤(eP hi least now b rs).2
 |_,t,[],[],_,ht,_=>by simp only [eP]; rw [h.now]; exact ht
 |b,t,x::rs,y::fs,hb,ht,hc=>by
  simp only [List.length_cons] at hb
  obtain ⟨⟨o,ho,rfl,h3,rfl⟩,h4⟩:=hc
  have h1:=oJ h (b+1) _ rs fs (by omega) (by omega) h4
  have h2:=h.least b (by omega)
  simp only [eP]
  split
  ·rename_i q
   have:=h.hi b o (by omega) ho q
   omega
  ·omega
 |_,_,[],_::_,_,_,hc=>hc.elim
 |_,_,_::_,[],_,_,hc=>hc.elim
theorem sm (h:z9 w hi least now): ∀ (b:Nat) (t t':Int) (rs fs:List Int),b+rs.length≤w.n→t≤t'→t'≤(eP hi least now b rs).2→iL w b t rs fs→ ∃ gs,iL w b t' rs gs
 |_,t,_,[],[],_,_,_,_=>⟨[],trivial⟩
 |b,t,t',x::rs,y::fs,hb,ht,he,hc=>by
  simp only [List.length_cons] at hb
  obtain ⟨⟨o,ho,rfl,h3,rfl⟩,h4⟩:=hc
  have h1:=oJ h (b+1) _ rs fs (by omega) (by omega) h4
  have h2:=h.least b (by omega)
  have h5:=sf h (b+1) rs (by omega)
  simp only [eP] at he
  have h6:max (t'+bx w b) o.2.Lo≤min o.2.Hi w.cI∧max (t'+bx w b) o.2.Lo≤(eP hi least now (b+1) rs).2:=by
   split at he
   ·rename_i q
    have:=h.hi b o (by omega) ho q
    omega
   ·rename_i q
    have:=h.none_ b o (by omega) ho q
    omega
  obtain ⟨gs,hg⟩:=sm h (b+1) _ (max (t'+bx w b) o.2.Lo) rs fs (by omega) (by omega) h6.2 h4
  exact ⟨_::gs,⟨o,ho,rfl,h6.1,rfl⟩,hg⟩
 |_,_,_,[],_::_,_,_,_,hc=>hc.elim
 |_,_,_,_::_,[],_,_,_,hc=>hc.elim
theorem vO (b:Nat) (t t':Int) (rs fs:List Int) (ht:t'≤t) (hc:iL w b t rs fs): ∃ gs,iL w b t' rs gs:=by
 have h1:(cO ⟨0,0⟩ (cJ rs),eu t fs)∈eC w rs.length b (⟨0,0⟩,t):=(iH _ _ _ _).2 ⟨rs,fs,rfl,hc,rfl⟩
 clear h1
 induction rs generalizing b t t' fs with
 |nil=>exact ⟨[],trivial⟩
 |cons x rs ih=>
  cases fs with
  |nil=>exact hc.elim
  |cons y fs=>
   obtain ⟨⟨o,ho,rfl,h3,rfl⟩,h4⟩:=hc
   obtain ⟨gs,hg⟩:=ih (b+1) _ (max (t'+bx w b) o.2.Lo) fs (by omega) h4
   exact ⟨_::gs,⟨o,ho,rfl,by omega,rfl⟩,hg⟩
/-- a way, as it is asked for -/
structure DA (w:bh) (hi:Int→Int) (least:Nat→Int) (now:Int) (y:bM):Prop where
 chain:iL w 0 w.Start y.cY y.fE
 len:y.cY.length≤w.n
 last:y.jC=(eP hi least now 0 y.cY).1
 may:ja w (cJ y.cY)=true
theorem r9 {k:Nat}:gN w (fwd w k)=true↔ ∃ rs fs,rs.length=k∧iL w 0 w.Start rs fs∧ja w (cJ rs)=true:=by
 unfold gN
 rw [List.any_eq_true]
 have e:=fun q=>(oK (w:=w) k 0 q)
 rw [Nat.zero_add] at e
 constructor
 ·rintro ⟨q,hq,hm⟩
  obtain ⟨p,hp,h⟩:=(e q).1 hq
  simp only [fwd,List.mem_singleton] at hp
  subst hp
  obtain ⟨rs,fs,h1,h2,rfl⟩:=(iH _ _ _ _).1 h
  refine ⟨rs,fs,h1,h2,?_⟩
  rwa [mB] at hm
 ·rintro ⟨rs,fs,h1,h2,h3⟩
  refine ⟨_,(e _).2 ⟨((⟨0,0⟩:ao),w.Start),List.mem_singleton.2 rfl,(iH _ _ _ _).2 ⟨rs,fs,h1,h2,rfl⟩⟩,?_⟩
  simp only [mB]; exact h3
theorem As (h:z9 w hi least now) (hs:w.Start≤w.cI) {b:Nat} (hb:b<w.n) {s t:Int}:tg w b s t↔ ∃ y,DA w hi least now y∧ ∃ f e,y.cY[b]? =some s∧y.fE[b]? =some f∧y.jC[b]? =some e∧f≤t∧t≤e:=by
 have ef:=fun q=>(oK (w:=w) b 0 q)
 rw [Nat.zero_add] at ef
 constructor
 ·rintro ⟨p,hp,o,ho,rfl,⟨h1,h2⟩,k,hk,q,hq,hm⟩
  obtain ⟨p0,hp0,hp⟩:=(ef p).1 hp
  simp only [fwd,List.mem_singleton] at hp0
  subst hp0
  obtain ⟨rs,fs,e1,c1,rfl⟩:=(iH _ _ _ _).1 hp
  obtain ⟨ss,gs,e2,c2,rfl⟩:=(iH _ _ _ _).1 hq
  simp only at h1 h2 c1 c2 hm
  obtain ⟨gs',c3⟩:=vO (b+1) t (max (eu w.Start fs+bx w b) o.2.Lo) ss gs h1 c2
  have hlf:=iP _ _ _ _ c1
  have hfn:=iP _ _ _ _ c3
  have hc:iL w 0 w.Start (rs++o.1::ss) (fs++max (eu w.Start fs+bx w b) o.2.Lo::gs'):=(od _ _ _ _ _ _ hlf).2 ⟨c1,by rw [Nat.zero_add,e1]; exact ⟨⟨o,ho,rfl,by omega,rfl⟩,c3⟩⟩
  have he:=oJ h (b+1) t ss gs (by omega) (by omega) c2
  have hla:=pA (hi:=hi) (least:=least) (now:=now) 0 rs o.1 ss
  rw [Nat.zero_add,e1] at hla
  refine ⟨⟨rs++o.1::ss,fs++max (eu w.Start fs+bx w b) o.2.Lo::gs',(eP hi least now 0 (rs++o.1::ss)).1⟩,⟨hc,by simp; omega,rfl,?_⟩,max (eu w.Start fs+bx w b) o.2.Lo,_,?_,?_,hla,h1,?_⟩
  ·show ja w (cJ (rs++o.1::ss))=true
   rw [show rs++o.1::ss=(rs++[o.1])++ss by simp,ow,iB]
   rwa [mB] at hm
  ·show (rs++o.1::ss)[b]? =some o.1
   rw [List.getElem?_append_right (by omega),e1,Nat.sub_self]; rfl
  ·show (fs++_::gs')[b]? =_
   rw [List.getElem?_append_right (by omega),hlf,e1,Nat.sub_self]; rfl
  ·split
   ·rename_i q
    have:=h.hi b o hb ho q
    omega
   ·exact he
 ·rintro ⟨y,hy,f,e,h1,h2,h3,h4,h5⟩
  obtain ⟨R,F,La⟩:=y
  obtain ⟨hc,hn,hla,hm⟩:=hy
  simp only at h1 h2 h3 hc hn hla hm
  have hbR:=(List.getElem?_eq_some_iff.1 h1).1
  have hFl:=iP _ _ _ _ hc
  have eR:R=R.take b++s::R.drop (b+1):=by rw [← (List.getElem?_eq_some_iff.1 h1).2]; exact (List.take_append_drop b R).symm.trans (by rw [List.drop_eq_getElem_cons hbR])
  have hbF:b<F.length:=by omega
  have eF:F=F.take b++f::F.drop (b+1):=by rw [← (List.getElem?_eq_some_iff.1 h2).2]; exact (List.take_append_drop b F).symm.trans (by rw [List.drop_eq_getElem_cons hbF])
  rw [eR,eF,od _ _ _ _ _ _ (by simp only [List.length_take]; omega)] at hc
  have l1:(R.take b).length=b:=by rw [List.length_take]; omega
  rw [l1,Nat.zero_add] at hc
  obtain ⟨c1,⟨o,ho,rfl,h6,rfl⟩,c2⟩:=hc
  have hat:=pA (hi:=hi) (least:=least) (now:=now) 0 (R.take b) o.1 (R.drop (b+1))
  rw [← eR,l1,Nat.zero_add,← hla,h3] at hat
  have hat:=Option.some.inj hat
  have hen:t≤(eP hi least now (b+1) (R.drop (b+1))).2∧t≤min o.2.Hi w.cI:=by
   have h7:=sf h (b+1) (R.drop (b+1)) (by rw [List.length_drop]; omega)
   split at hat
   ·rename_i q
    have:=h.hi b o hb ho q
    omega
   ·rename_i q
    have:=h.none_ b o hb ho q
    omega
  obtain ⟨gs,c3⟩:=sm h (b+1) _ t (R.drop (b+1)) (F.drop (b+1)) (by rw [List.length_drop]; omega) h4 hen.1 c2
  refine ⟨(cO ⟨0,0⟩ (cJ (R.take b)),eu w.Start (F.take b)),(ef _).2 ⟨((⟨0,0⟩:ao),w.Start),List.mem_singleton.2 rfl,(iH _ _ _ _).2 ⟨_,_,l1,c1,rfl⟩⟩,o,ho,rfl,⟨h4,hen.2⟩,(R.drop (b+1)).length,by rw [List.length_drop]; omega,_,(iH _ _ _ _).2 ⟨_,gs,rfl,c3,rfl⟩,?_⟩
  show ja w (cO (cO (cO ⟨0,0⟩ (cJ (R.take b))) (dQ o.1)) (cJ (R.drop (b+1))))=true
  rw [mB,← iB,← ow,show R.take b++[o.1]++R.drop (b+1)=R from by rw [List.append_assoc]; exact eR.symm]
  exact hm
end
noncomputable def BW (l:aU) (r:bK) (x:Int):Int:=match r.ab[x.toNat]? with
 |some s=>(bT l s).Hi
 |none=>0
theorem wT {l:aU} {r:bK} {x:Int} {s:aw} (h:r.ab[x.toNat]? =some s):BW l r x=(bT l s).Hi:=by unfold BW; rw [h]
noncomputable def gY (l:aU) (r:bK) (rs:List Int):List Int:=(eP (BW l r) (df l) r.cI 0 rs).1
noncomputable def l7 (l:aU) (r:bK) (n:Nat) (t i:Int):Option Int:=
 if i<0 then (if t≤r.cI then some t else none) else match r.ab[i.toNat]? with
  |some s=>if (s.cU=(n:Int)∧(bT l s).Lo≤(bT l s).Hi)∧max t (bT l s).Lo≤min r.cI (bT l s).Hi then some (max t (bT l s).Lo) else none
  |none=>none
noncomputable def eE (l:aU) (r:bK) (rs fs:List Int):List bM:=if (r.ab.length:Int)-(cJ rs).right≤l.aV then [⟨rs,fs,gY l r rs⟩] else []
noncomputable def fF (l:aU) (r:bK):Nat→List Int→List Int→List bM
 |0,rs,fs=>if l.aJ<(cJ rs).de then [] else eE l r rs fs
 |k+1,rs,fs=>if l.aJ<(cJ rs).de then [] else eE l r rs fs++(List.range (r.ab.length+1)).flatMap fun (j:Nat)=>match l7 l r rs.length (eu r.Start fs+df l rs.length) ((j:Int)-1) with
  |some t=>fF l r k (rs++[(j:Int)-1]) (fs++[t])
  |none=>[]
noncomputable def wS (l:aU) (r:bK) (k:Nat) (rs fs:List Int) (j:Nat):List bM:=eE l r rs fs++(List.range j).flatMap fun (j:Nat)=>match l7 l r rs.length (eu r.Start fs+df l rs.length) ((j:Int)-1) with
 |some t=>fF l r k (rs++[(j:Int)-1]) (fs++[t])
 |none=>[]
noncomputable def fm (l:aU) (r:bK) (k:Nat) (rs fs:List Int) (j:Nat):List bM:=(List.range j).flatMap fun (j:Nat)=>match l7 l r rs.length (eu r.Start fs+df l rs.length) ((j:Int)-1) with
 |some t=>fF l r k (rs++[(j:Int)-1]) (fs++[t])
 |none=>[]
section
variable {l:aU} {r:bK} {k j:Nat} {rs fs:List Int} {t:Int}
theorem mo:wS l r k rs fs j=eE l r rs fs++fm l r k rs fs j:=rfl
theorem iN (h:l7 l r rs.length (eu r.Start fs+df l rs.length) ((j:Int)-1)=some t):fm l r k rs fs (j+1)=fm l r k rs fs j++fF l r k (rs++[(j:Int)-1]) (fs++[t]):=by
 unfold fm; rw [List.range_succ,List.flatMap_append]; simp [h]
theorem iG (h:l7 l r rs.length (eu r.Start fs+df l rs.length) ((j:Int)-1)=none):fm l r k rs fs (j+1)=fm l r k rs fs j:=by
 unfold fm; rw [List.range_succ,List.flatMap_append]; simp [h]
theorem kY (h:l.aJ<(cJ rs).de):fF l r k rs fs=[]:=by cases k<;>exact if_pos h
theorem jZ (h: ¬ l.aJ<(cJ rs).de):fF l r 0 rs fs=eE l r rs fs:=if_neg h
theorem j5 (h: ¬ l.aJ<(cJ rs).de):fF l r (k+1) rs fs=wS l r k rs fs (r.ab.length+1):=if_neg h
theorem v9 {n:Nat} (hn:n<l.aa.length) (hl:0≤df l n) (ht:r.Start≤t) {i y:Int} (hi: -1≤i):l7 l r n (t+df l n) i=some y↔ ∃ o∈gj (aW l r) n,o.1=i∧max (t+bx (aW l r) n) o.2.Lo≤min o.2.Hi (aW l r).cI∧y=max (t+bx (aW l r) n) o.2.Lo:=by
 rw [mJ hn]
 have hw:(aW l r).cI=r.cI:=rfl
 unfold l7
 constructor
 ·intro h
  split at h
  ·rename_i h0
   split at h
   ·cases h
    exact ⟨(-1,⟨r.Start,r.cI⟩),(oa hn).2 (.inl rfl),by simp only; omega,by simp only; omega,by simp only; omega⟩
   ·cases h
  ·rename_i h0
   split at h
   ·rename_i s hs
    split at h
    ·rename_i q
     cases h
     exact ⟨((i.toNat:Nat),bT l s),(oa hn).2 (.inr ⟨i.toNat,(List.getElem?_eq_some_iff.1 hs).1,s,hs,q.1,rfl⟩),by simp only; omega,by simp only; omega,rfl⟩
    ·cases h
   ·cases h
 ·rintro ⟨o,ho,rfl,h1,rfl⟩
  rcases (oa hn).1 ho with rfl|⟨k,hk,s,hs,q,rfl⟩
  ·simp only at h1 ⊢
   rw [if_pos (by omega),if_pos (by omega)]
   congr 1; omega
  ·simp only at h1 ⊢
   rw [if_neg (by omega),Int.toNat_natCast,hs]
   simp only
   rw [if_pos ⟨q,by omega⟩]
theorem AV (hl: ∀ n,n<l.aa.length→0≤df l n): ∀ (k:Nat) (rs fs:List Int) (y:bM),rs.length+k=l.aa.length→fs.length=rs.length→r.Start≤eu r.Start fs→
 (y∈fF l r k rs fs↔ ∃ ss gs,iL (aW l r) rs.length (eu r.Start fs) ss gs∧ss.length≤k∧y=⟨rs++ss,fs++gs,gY l r (rs++ss)⟩∧ja (aW l r) (cJ (rs++ss))=true):=by
 have head: ∀ (rs fs:List Int) (y:bM),¬ l.aJ<(cJ rs).de→(y∈eE l r rs fs↔y=⟨rs++[],fs++[],gY l r (rs++[])⟩∧ja (aW l r) (cJ (rs++[]))=true):=by
  intro rs fs y hm
  unfold eE
  rw [List.append_nil,List.append_nil]
  have e:ja (aW l r) (cJ rs)=true↔(r.ab.length:Int)-(cJ rs).right≤l.aV:=by
   unfold ja
   rw [decide_eq_true_eq]
   exact ⟨fun q=>q.2,fun q=>⟨by have:(aW l r).aJ=l.aJ:=rfl; omega,q⟩⟩
  split
  ·rename_i q
   rw [List.mem_singleton]
   exact ⟨fun h=>⟨h,e.2 q⟩,fun h=>h.1⟩
  ·rename_i q
   exact ⟨fun h=>(by cases h),fun h=>absurd (e.1 h.2) q⟩
 have Bo: ∀ (rs ss:List Int),l.aJ<(cJ rs).de→ ¬ ja (aW l r) (cJ (rs++ss))=true:=by
  intro rs ss h q
  unfold ja at q
  have:=(of_decide_eq_true q).1
  rw [ow] at this
  have h2:=py ss
  simp only [cO] at this
  have:(aW l r).aJ=l.aJ:=rfl
  omega
 intro k
 induction k with
 |zero=>
  intro rs fs y hn hf hs
  by_cases hm:l.aJ<(cJ rs).de
  ·rw [kY hm]
   exact ⟨fun h=>(by cases h),fun ⟨ss,gs,_,_,_,q⟩=>absurd q (Bo rs ss hm)⟩
  ·rw [jZ hm,head _ _ _ hm]
   constructor
   ·rintro ⟨h1,h2⟩; exact ⟨[],[],trivial,by simp,h1,h2⟩
   ·rintro ⟨ss,gs,h1,h2,h3,h4⟩
    have e:=List.eq_nil_of_length_eq_zero (Nat.le_zero.1 h2)
    subst e
    have e:=List.eq_nil_of_length_eq_zero (iP _ _ _ _ h1)
    subst e
    exact ⟨h3,h4⟩
 |succ k ih=>
  intro rs fs y hn hf hs
  by_cases hm:l.aJ<(cJ rs).de
  ·rw [kY hm]
   exact ⟨fun h=>(by cases h),fun ⟨ss,gs,_,_,_,q⟩=>absurd q (Bo rs ss hm)⟩
  ·rw [j5 hm]
   unfold wS
   rw [List.mem_append,head _ _ _ hm,List.mem_flatMap]
   have hlen: ∀ (x y:Int),(rs++[x]).length+k=l.aa.length∧(fs++[y]).length=(rs++[x]).length:=fun x y=>by simp; omega
   constructor
   ·rintro (⟨h1,h2⟩|⟨j,hj,h⟩)
    ·exact ⟨[],[],trivial,by simp,h1,h2⟩
    ·cases e:l7 l r rs.length (eu r.Start fs+df l rs.length) ((j:Int)-1) with
     |none=>rw [e] at h; cases h
     |some t=>
      rw [e] at h
      simp only at h
      obtain ⟨o,ho,h1,h2,h3⟩:=(v9 (by omega) (hl _ (by omega)) hs (by omega)).1 e
      have hst:r.Start≤t:=by
       have:=hl rs.length (by omega)
       rw [mJ (by omega)] at h3
       omega
      obtain ⟨ss,gs,h4,h5,h6,h7⟩:=(ih _ _ y (hlen _ t).1 (hlen _ t).2 (by rw [kP]; exact hst)).1 h
      rw [kP,List.length_append] at h4
      refine ⟨((j:Int)-1)::ss,t::gs,⟨⟨o,ho,h1,h2,h3⟩,h4⟩,by simp; omega,by simpa using h6,by simpa using h7⟩
   ·rintro ⟨ss,gs,h1,h2,h3,h4⟩
    cases ss with
    |nil=>
     have e:=List.eq_nil_of_length_eq_zero (iP _ _ _ _ h1)
     subst e
     exact .inl ⟨h3,h4⟩
    |cons x ss=>
     cases gs with
     |nil=>exact h1.elim
     |cons t gs=>
      obtain ⟨⟨o,ho,rfl,h5,h6⟩,h7⟩:=h1
      right
      have hx: -1≤o.1∧o.1<(r.ab.length:Int):=by
       rcases (oa (by omega)).1 ho with rfl|⟨k,hk,s,hs,q,rfl⟩
       ·simp only; omega
       ·simp only; omega
      have hst:r.Start≤t:=by
       have:=hl rs.length (by omega)
       rw [mJ (by omega)] at h6
       omega
      have e1:((o.1+1).toNat:Int)-1=o.1:=by omega
      refine ⟨(o.1+1).toNat,List.mem_range.2 (by omega),?_⟩
      rw [e1,(v9 (by omega) (hl _ (by omega)) hs (by omega)).2 ⟨o,ho,rfl,h5,h6⟩]
      simp only
      refine (ih _ _ y (hlen _ t).1 (hlen _ t).2 (by rw [kP]; exact hst)).2 ⟨ss,gs,?_,?_,?_,?_⟩
      ·rw [kP,List.length_append]; exact h7
      ·simp only [List.length_cons] at h2; omega
      ·simpa using h3
      ·simpa using h4
end
theorem ud {l:aU} {r:bK} {rs fs:List Int} (h:(r.ab.length:Int)-(cJ rs).right≤l.aV):eE l r rs fs=[⟨rs,fs,gY l r rs⟩]:=if_pos h
theorem sZ {l:aU} {r:bK} {rs fs:List Int} (h: ¬ (r.ab.length:Int)-(cJ rs).right≤l.aV):eE l r rs fs=[]:=if_neg h
noncomputable def cf (l:aU) (r:bK) (i:Nat):List ae:=(r.ab.take i).map (bT l)
noncomputable def cD (l:aU) (r:bK) (i:Nat):List Bool:=(r.ab.take i).map fun s=>decide ((bT l s).Lo≤(bT l s).Hi)
section
variable {l:aU} {r:bK} {i n:Nat} {s:aw} {rs:List Int}
theorem xg (h:r.ab[i]? =some s):cf l r (i+1)=cf l r i++[bT l s]:=by unfold cf; rw [List.take_add_one,h,List.map_append]; rfl
theorem xB (h:r.ab[i]? =some s):cD l r (i+1)=cD l r i++[decide ((bT l s).Lo≤(bT l s).Hi)]:=by unfold cD; rw [List.take_add_one,h,List.map_append]; rfl
theorem oE (h:i≤r.ab.length):(cf l r i).length=i:=by unfold cf; rw [List.length_map,List.length_take]; omega
theorem qq (h:i≤r.ab.length):(cD l r i).length=i:=by unfold cD; rw [List.length_map,List.length_take]; omega
theorem Be {k:Nat} {z:ae} (hs:r.ab[k]? =some s) (hz:(cf l r r.ab.length)[k]? =some z):z=bT l s:=by
 unfold cf at hz
 rw [List.take_length,List.getElem?_map,hs] at hz
 exact (Option.some.inj hz).symm
theorem Bw {k:Nat} {z:ae} (hz:(cf l r r.ab.length)[k]? =some z): ∃ s,r.ab[k]? =some s∧z=bT l s:=by
 unfold cf at hz
 rw [List.take_length,List.getElem?_map] at hz
 cases h:r.ab[k]? with
 |none=>rw [h] at hz; cases hz
 |some s=>rw [h] at hz; exact ⟨s,rfl,(Option.some.inj hz).symm⟩
theorem pI {k:Nat} {z:Bool} (hs:r.ab[k]? =some s) (hz:(cD l r r.ab.length)[k]? =some z):z=true↔(bT l s).Lo≤(bT l s).Hi:=by
 unfold cD at hz
 rw [List.take_length,List.getElem?_map,hs] at hz
 rw [← Option.some.inj hz]
 exact decide_eq_true_iff
theorem rO (l:aU) (s:aw):(0≤(bT l s).Lo∧(bT l s).Lo≤86400001)∧ -1≤(bT l s).Hi∧(bT l s).Hi≤86400000:=by
 have h1:=gI (p:=eT (ni l s) s.Read) (n:=86400001)
 have h2:=gI (p:=eQ (ni l s) s.Read) (n:=86400001)
 unfold bT vv
 simp only
 omega
/-- the last times from a beam on -/
noncomputable def iv (l:aU) (r:bK) (rs:List Int) (j:Nat):List Int×Int:=eP (BW l r) (df l) r.cI j (rs.drop j)
noncomputable def gL (l:aU) (r:bK) (rs:List Int) (j:Nat):List Int:=List.replicate j 0++(iv l r rs j).1
noncomputable def pk (l:aU) (r:bK) (rs:List Int) (j:Nat) (x:Int):Int:=if 0≤x then min (iv l r rs j).2 (BW l r x) else (iv l r rs j).2
theorem qA:iv l r rs rs.length=([],r.cI):=by unfold iv; rw [List.drop_length]; rfl
theorem yL:gL l r rs rs.length=List.replicate rs.length 0:=by unfold gL; rw [qA]; simp
theorem xA:gL l r rs 0=gY l r rs:=by unfold gL iv gY; simp
theorem mV {j:Nat} {x:Int} (hj:0<j) (hx:rs[j-1]? =some x):iv l r rs (j-1)=(pk l r rs j x::(iv l r rs j).1,pk l r rs j x-df l (j-1)):=by
 unfold iv pk
 have hb:=(List.getElem?_eq_some_iff.1 hx).1
 rw [List.drop_eq_getElem_cons hb,(List.getElem?_eq_some_iff.1 hx).2,show j-1+1=j by omega]
 simp only [eP]
 rw [show j-1+1=j by omega]
 rfl
theorem zR {j:Nat} (h:j≤rs.length):(gL l r rs j).length=rs.length:=by unfold gL iv; rw [List.length_append,List.length_replicate,oz,List.length_drop]; omega
theorem t_ {j:Nat} {x:Int} (hj:0<j) (hx:rs[j-1]? =some x):(gL l r rs j).set (j-1) (pk l r rs j x)=gL l r rs (j-1):=by
 unfold gL
 rw [mV hj hx]
 simp only
 obtain ⟨k,rfl⟩: ∃ k,j=k+1:=⟨j-1,by omega⟩
 rw [Nat.add_sub_cancel,List.replicate_succ',List.append_assoc,List.set_append_right _ _ (by simp),List.length_replicate,Nat.sub_self]
 rfl
theorem yx (hr:0≤r.cI∧r.cI≤86400000) (hl: ∀ b,b<rs.length→0≤df l b∧df l b≤500000000) (hrs: ∀ x∈rs,0≤x→x<(r.ab.length:Int)): ∀ (d j:Nat),j+d=rs.length→(-1-500000000*(d:Int))≤(iv l r rs j).2∧(iv l r rs j).2≤86400000
 |0,j,h=>by
  obtain rfl:j=rs.length:=by omega
  rw [qA]; simp only; omega
 |d+1,j,h=>by
  have ih:=yx hr hl hrs d (j+1) (by omega)
  have hx:rs[j+1-1]? =some (rs[j]'(by omega)):=by rw [Nat.add_sub_cancel]; exact List.getElem?_eq_getElem _
  have e:=mV (l:=l) (r:=r) (j:=j+1) (by omega) hx
  rw [Nat.add_sub_cancel] at e
  rw [e]
  simp only
  have h2:=hl j (by omega)
  unfold pk
  split
  ·rename_i q
   have h3:=hrs _ (List.getElem_mem (by omega:j<rs.length)) q
   obtain ⟨s,hs⟩: ∃ s,r.ab[(rs[j]'(by omega)).toNat]? =some s:=⟨r.ab[(rs[j]'(by omega)).toNat]'(by omega),List.getElem?_eq_getElem _⟩
   rw [wT hs]
   have h4:=rO l s
   omega
  ·omega
theorem wx {t i:Int} (hi:i<0):(t≤r.cI→l7 l r n t i=some t)∧(¬ t≤r.cI→l7 l r n t i=none):=by
 unfold l7; rw [if_pos hi]; exact ⟨fun h=>if_pos h,fun h=>if_neg h⟩
theorem vA {t i:Int} (hi: ¬ i<0) (hs:r.ab[i.toNat]? =some s) (hb:s.cU=(n:Int)) (hw:(bT l s).Lo≤(bT l s).Hi):(max t (bT l s).Lo≤min r.cI (bT l s).Hi→l7 l r n t i=some (max t (bT l s).Lo))∧(¬ max t (bT l s).Lo≤min r.cI (bT l s).Hi→l7 l r n t i=none):=by
 unfold l7; rw [if_neg hi,hs]
 exact ⟨fun h=>if_pos ⟨⟨hb,hw⟩,h⟩,fun h=>if_neg fun q=>h q.2⟩
theorem j_ {t i:Int} (hi: ¬ i<0) (hs:r.ab[i.toNat]? =some s) (hb: ¬ (s.cU=(n:Int)∧(bT l s).Lo≤(bT l s).Hi)):l7 l r n t i=none:=by
 unfold l7; rw [if_neg hi,hs]
 exact if_neg fun q=>hb q.1
theorem px {x:Int} (hx:rs[i]? =some x):(cJ (rs.take (i+1))).right=(cJ (rs.take i)).right+(if 0≤x then 1 else 0):=by
 rw [du hx,iB]
 unfold dQ
 simp only [cO]
 by_cases h:x<0
 ·rw [if_pos h,if_neg (by omega)]
 ·rw [if_neg h,if_pos (by omega)]
end
theorem sQ {l:aU} {r:bK} {rs fs:List Int}:(eE l r rs fs).length≤1:=by unfold eE; split<;>simp
theorem sV {l:aU} {r:bK} (hr:r.ab.length≤10): ∀ (k:Nat) (rs fs:List Int),(fF l r k rs fs).length≤12^(k+1)
 |0,rs,fs=>by
  unfold fF
  split
  ·simp
  ·have:=sQ (l:=l) (r:=r) (rs:=rs) (fs:=fs); omega
 |k+1,rs,fs=>by
  unfold fF
  split
  ·simp
  ·rw [List.length_append]
   have h1:=sQ (l:=l) (r:=r) (rs:=rs) (fs:=fs)
   have h2: ∀ j,(fm l r k rs fs j).length≤j*12^(k+1):=by
    intro j
    induction j with
    |zero=>simp [fm]
    |succ j ih=>
     cases e:l7 l r rs.length (eu r.Start fs+df l rs.length) ((j:Int)-1) with
     |none=>rw [iG e,Nat.succ_mul]; exact Nat.le_trans ih (Nat.le_add_right _ _)
     |some t=>rw [iN e,List.length_append,Nat.succ_mul]; exact Nat.add_le_add ih (sV hr k (rs++[(j:Int)-1]) (fs++[t]))
   have h3:=h2 (r.ab.length+1)
   have h4:(r.ab.length+1)*12^(k+1)≤11*12^(k+1):=Nat.mul_le_mul_right _ (by omega)
   have h5:0<12^(k+1):=Nat.pow_pos (by decide)
   have h6:12^(k+1+1)=12*12^(k+1):=by rw [Nat.pow_succ,Nat.mul_comm]
   show (eE l r rs fs).length+(fm l r k rs fs (r.ab.length+1)).length≤_
   omega
theorem z4 {l:aU} {r:bK} (hr:r.ab.length≤10) {k j:Nat} {rs fs:List Int} (hk:k≤5) (hj:j≤11):(fm l r k rs fs j).length≤40000000:=by
 have h2: ∀ j,(fm l r k rs fs j).length≤j*12^(k+1):=by
  intro j
  induction j with
  |zero=>simp [fm]
  |succ j ih=>
   cases e:l7 l r rs.length (eu r.Start fs+df l rs.length) ((j:Int)-1) with
   |none=>rw [iG e,Nat.succ_mul]; exact Nat.le_trans ih (Nat.le_add_right _ _)
   |some t=>rw [iN e,List.length_append,Nat.succ_mul]; exact Nat.add_le_add ih (sV hr k (rs++[(j:Int)-1]) (fs++[t]))
 have h3:=h2 j
 have h4:12^(k+1)≤12^6:=Nat.pow_le_pow_right (by decide) (by omega)
 have h5:j*12^(k+1)≤11*12^6:=Nat.mul_le_mul hj h4
 omega
theorem qF {l:aU} {r:bK} (hr:r.ab.length≤10) {k:Nat} {rs fs:List Int} (hk:k≤6):(fF l r k rs fs).length≤40000000:=by
 have h3:=sV hr k rs fs (l:=l)
 have h4:12^(k+1)≤12^7:=Nat.pow_le_pow_right (by decide) (by omega)
 omega
noncomputable def cu (l:aU) (r:bK):List bM:=fF l r l.aa.length [] []
section
variable {l:aU} {r:bK}
theorem im:(aW l r).n=l.aa.length:=bI
theorem Dx (hle:dk l=0) (hr:cN l r):z9 (aW l r) (BW l r) (df l) r.cI:=by
 obtain ⟨ht,hok⟩:=di hle
 refine ⟨fun b=>((jf ht hok hr).bx b).1,fun b hb=>(mJ (by rw [im] at hb; exact hb)).symm,rfl,fun b o hb ho h0=>?_,fun b o hb ho h0=>?_⟩
 ·rw [im] at hb
  rcases (oa hb).1 ho with rfl|⟨k,hk,s,hs,q,rfl⟩
  ·simp only at h0; omega
  ·exact (wT (by simpa using hs)).symm
 ·rw [im] at hb
  rcases (oa hb).1 ho with rfl|⟨k,hk,s,hs,q,rfl⟩
  ·rfl
  ·simp only at h0; omega
theorem lP (hle:dk l=0) (hr:cN l r) {y:bM}:y∈cu l r↔DA (aW l r) (BW l r) (df l) r.cI y:=by
 obtain ⟨ht,hok⟩:=di hle
 have hl: ∀ n,n<l.aa.length→0≤df l n:=fun n hn=>by have:=kR ht hok (i:=n) hn; omega
 unfold cu
 rw [AV hl _ _ _ _ (by simp) rfl (Int.le_refl _)]
 constructor
 ·rintro ⟨ss,gs,h1,h2,rfl,h4⟩
  exact ⟨h1,by rw [im]; exact h2,rfl,h4⟩
 ·rintro ⟨h1,h2,h3,h4⟩
  rw [im] at h2
  exact ⟨y.cY,y.fE,h1,h2,by rw [List.nil_append,List.nil_append]; unfold gY; rw [← h3],h4⟩
theorem pM (hle:dk l=0) (hr:cN l r) {k:Nat} (hk:k≤l.aa.length):((cu l r).any fun y=>decide (y.cY.length=k))=gN (aW l r) (fwd (aW l r) k):=by
 rw [Bool.eq_iff_iff,r9,List.any_eq_true]
 constructor
 ·rintro ⟨y,hy,e⟩
  have h:=(lP hle hr).1 hy
  exact ⟨y.cY,y.fE,of_decide_eq_true e,h.chain,h.may⟩
 ·rintro ⟨rs,fs,e,h1,h2⟩
  exact ⟨⟨rs,fs,(eP (BW l r) (df l) r.cI 0 rs).1⟩,(lP hle hr).2 ⟨h1,by rw [im]; simp only; omega,rfl,h2⟩,decide_eq_true e⟩
theorem dv (hle:dk l=0) (hr:cN l r):cu l r=[]↔eb (aW l r)=[]:=by
 constructor
 ·intro h
  apply List.eq_nil_iff_forall_not_mem.2
  intro x hx
  obtain ⟨k,rfl,hk,hm⟩:=kp.1 hx
  rw [im] at hk
  rw [← pM hle hr hk,h] at hm
  cases hm
 ·intro h
  apply List.eq_nil_iff_forall_not_mem.2
  intro y hy
  have hw:=(lP hle hr).1 hy
  have:((y.cY.length:Nat):Int)∈eb (aW l r):=kp.2 ⟨y.cY.length,rfl,hw.len,r9.2 ⟨_,_,rfl,hw.chain,hw.may⟩⟩
  rw [h] at this; cases this
/-- the times at a beam, by all ways -/
def gn (b:Nat) (ws:List bM):List (Int×ae):=ws.filterMap fun y=>match y.cY[b]?,y.fE[b]?,y.jC[b]? with
 |some s,some f,some e=>some (s,⟨f,e⟩)
 |_,_,_=>none
theorem jq {b:Nat} {ws:List bM} {q:Int×ae}:q∈gn b ws↔ ∃ y∈ws,y.cY[b]? =some q.1∧y.fE[b]? =some q.2.Lo∧y.jC[b]? =some q.2.Hi:=by
 unfold gn
 rw [List.mem_filterMap]
 constructor
 ·rintro ⟨y,hy,h⟩
  cases e1:y.cY[b]? with
  |none=>rw [e1] at h; cases h
  |some s=>
   cases e2:y.fE[b]? with
   |none=>rw [e1,e2] at h; cases h
   |some f=>
    cases e3:y.jC[b]? with
    |none=>rw [e1,e2,e3] at h; cases h
    |some e=>
     rw [e1,e2,e3] at h; cases h
     exact ⟨y,hy,e1,e2,e3⟩
 ·rintro ⟨y,hy,h1,h2,h3⟩
  exact ⟨y,hy,by rw [h1,h2,h3]⟩
theorem tn {b:Nat} {ws:List bM} {y:bM} (h:y.cY.length≤b):gn b (ws++[y])=gn b ws:=by
 unfold gn; rw [List.filterMap_append]; simp [List.getElem?_eq_none h]
theorem np {b:Nat} {ws:List bM} {y:bM} {s f e:Int} (h1:y.cY[b]? =some s) (h2:y.fE[b]? =some f) (h3:y.jC[b]? =some e):gn b (ws++[y])=gn b ws++[(s,⟨f,e⟩)]:=by
 unfold gn; rw [List.filterMap_append]; simp [h1,h2,h3]
theorem rV (hle:dk l=0) (hr:cN l r) {y:bM} (hy:y∈cu l r):y.fE.length=y.cY.length∧y.jC.length=y.cY.length∧y.cY.length≤l.aa.length:=by
 have h:=(lP hle hr).1 hy
 exact ⟨iP _ _ _ _ h.chain,by rw [h.last,oz],by have:=h.len; rwa [im] at this⟩
theorem mr (hle:dk l=0) (hr:cN l r) {b:Nat} (hb:b<l.aa.length) {s t:Int}:(∃ q∈jN (aW l r) b,q.1=s∧q.2.Lo≤t∧t≤q.2.Hi)↔ ∃ q∈gn b (cu l r),q.1=s∧q.2.Lo≤t∧t≤q.2.Hi:=by
 have hh:=Dx hle hr
 rw [uC hh.low (by rw [im]; exact hb),As hh hr.time.2.1 (by rw [im]; exact hb)]
 constructor
 ·rintro ⟨y,hy,f,e,h1,h2,h3,h4,h5⟩
  exact ⟨(s,⟨f,e⟩),jq.2 ⟨y,(lP hle hr).2 hy,h1,h2,h3⟩,rfl,h4,h5⟩
 ·rintro ⟨q,hq,rfl,h4,h5⟩
  obtain ⟨y,hy,h1,h2,h3⟩:=jq.1 hq
  exact ⟨y,(lP hle hr).1 hy,_,_,h1,h2,h3,h4,h5⟩
/-- a way's span is none that is empty -/
theorem pG (hle:dk l=0) (hr:cN l r) {b:Nat} {q:Int×ae} (hq:q∈gn b (cu l r)):q.2.Lo≤q.2.Hi:=by
 have hh:=Dx hle hr
 obtain ⟨y,hy,h1,h2,h3⟩:=jq.1 hq
 obtain ⟨hc,hn,hla,hm⟩:=(lP hle hr).1 hy
 obtain ⟨R,F,La⟩:=y
 simp only at h1 h2 h3 hc hn hla
 have hbR:=(List.getElem?_eq_some_iff.1 h1).1
 have hbF:=(List.getElem?_eq_some_iff.1 h2).1
 have hFl:=iP _ _ _ _ hc
 have eR:R=R.take b++q.1::R.drop (b+1):=by rw [← (List.getElem?_eq_some_iff.1 h1).2]; exact (List.take_append_drop b R).symm.trans (by rw [List.drop_eq_getElem_cons hbR])
 have eF:F=F.take b++q.2.Lo::F.drop (b+1):=by rw [← (List.getElem?_eq_some_iff.1 h2).2]; exact (List.take_append_drop b F).symm.trans (by rw [List.drop_eq_getElem_cons hbF])
 rw [eR,eF,od _ _ _ _ _ _ (by simp only [List.length_take]; omega)] at hc
 have l1:(R.take b).length=b:=by rw [List.length_take]; omega
 rw [l1,Nat.zero_add] at hc
 obtain ⟨c1,⟨o,ho,h5,h6,h7⟩,c2⟩:=hc
 have hat:=pA (hi:=BW l r) (least:=df l) (now:=r.cI) 0 (R.take b) q.1 (R.drop (b+1))
 rw [← eR,l1,Nat.zero_add,← hla,h3] at hat
 have hat:=Option.some.inj hat
 have he:=oJ hh (b+1) q.2.Lo (R.drop (b+1)) (F.drop (b+1)) (by rw [List.length_drop]; omega) (by omega) c2
 rw [← h5] at hat
 split at hat
 ·rename_i z
  have:=hh.hi b o (by omega) ho z
  omega
 ·omega
theorem wy {a b:List (Int×ae)} {h k:ae} (ha:iW a h) (hb:iW b k) (hab: ∀ x∈b,(∃ y∈a,y.2.Lo≤x.2.Lo)∧ ∃ y∈a,x.2.Hi≤y.2.Hi) (hba: ∀ x∈a,(∃ y∈b,y.2.Lo≤x.2.Lo)∧ ∃ y∈b,x.2.Hi≤y.2.Hi):h=k:=by
 rcases ha with ⟨rfl,rfl⟩|ha
 ·rcases hb with ⟨rfl,rfl⟩|hb
  ·rfl
  ·obtain ⟨x,hx,_⟩:=hb.lo
   obtain ⟨⟨y,hy,_⟩,_⟩:=hab x hx
   cases hy
 ·rcases hb with ⟨rfl,rfl⟩|hb
  ·obtain ⟨x,hx,_⟩:=ha.lo
   obtain ⟨⟨y,hy,_⟩,_⟩:=hba x hx
   cases hy
  ·obtain ⟨x1,hx1,e1⟩:=ha.lo
   obtain ⟨x2,hx2,e2⟩:=ha.hi
   obtain ⟨y1,hy1,f1⟩:=hb.lo
   obtain ⟨y2,hy2,f2⟩:=hb.hi
   obtain ⟨⟨p1,hp1,q1⟩,_⟩:=hba x1 hx1
   obtain ⟨_,p2,hp2,q2⟩:=hba x2 hx2
   obtain ⟨⟨p3,hp3,q3⟩,_⟩:=hab y1 hy1
   obtain ⟨_,p4,hp4,q4⟩:=hab y2 hy2
   have a1:=hb.all p1 hp1
   have a2:=hb.all p2 hp2
   have a3:=ha.all p3 hp3
   have a4:=ha.all p4 hp4
   apply ae.ext
   ·omega
   ·omega
theorem Ah (hle:dk l=0) (hr:cN l r) {b:Nat} (hb:b<l.aa.length) {h:ae} (hh:iW (gn b (cu l r)) h):h=l6 l r b:=by
 have hk:=r_ (l:=jN (aW l r) b) (fun q hq=>kN hq)
 refine wy hh hk (fun x hx=>?_) (fun x hx=>?_)
 ·have hle':=kN hx
  obtain ⟨y,hy,_,h1,h2⟩:=(mr hle hr hb (s:=x.1) (t:=x.2.Lo)).1 ⟨x,hx,rfl,Int.le_refl _,hle'⟩
  obtain ⟨z,hz,_,h3,h4⟩:=(mr hle hr hb (s:=x.1) (t:=x.2.Hi)).1 ⟨x,hx,rfl,hle',Int.le_refl _⟩
  exact ⟨⟨y,hy,h1⟩,z,hz,h4⟩
 ·have hle':=pG hle hr hx
  obtain ⟨y,hy,_,h1,h2⟩:=(mr hle hr hb (s:=x.1) (t:=x.2.Lo)).2 ⟨x,hx,rfl,Int.le_refl _,hle'⟩
  obtain ⟨z,hz,_,h3,h4⟩:=(mr hle hr hb (s:=x.1) (t:=x.2.Hi)).2 ⟨x,hx,rfl,hle',Int.le_refl _⟩
  exact ⟨⟨y,hy,h1⟩,z,hz,h4⟩
/-- a signal that no way has -/
def kG (ws:List bM) (i:Int):Bool:=ws.all fun y=> !decide (i∈y.cY)
def fH (ws:List bM) (n:Nat):List Int:=((List.range n).map fun (k:Nat)=>(k:Int)).filter (kG ws)
theorem vi {ws:List bM} {n:Nat} (h:kG ws (n:Int)=true):fH ws (n+1)=fH ws n++[(n:Int)]:=by simp [fH,List.range_succ,h]
theorem wR {ws:List bM} {n:Nat} (h:kG ws (n:Int)=false):fH ws (n+1)=fH ws n:=by simp [fH,List.range_succ,h]
theorem qS {ws:List bM} {n:Nat}:(fH ws n).length≤n:=by
 unfold fH
 refine Nat.le_trans (List.length_filter_le _ _) ?_
 simp
theorem qb (hle:dk l=0) (hr:cN l r) {b:Nat} (hb:b<l.aa.length) {s:Int}:(∃ q∈jN (aW l r) b,q.1=s)↔ ∃ y∈cu l r,y.cY[b]? =some s:=by
 constructor
 ·rintro ⟨q,hq,e⟩
  obtain ⟨z,hz,e2,_⟩:=(mr hle hr hb (s:=s) (t:=q.2.Lo)).1 ⟨q,hq,e,Int.le_refl _,kN hq⟩
  obtain ⟨y,hy,h1,_⟩:=jq.1 hz
  exact ⟨y,hy,by rw [h1,e2]⟩
 ·rintro ⟨y,hy,h1⟩
  obtain ⟨h2,h3,_⟩:=rV hle hr hy
  have hbR:=(List.getElem?_eq_some_iff.1 h1).1
  have hz:(s,(⟨y.fE[b]'(by omega),y.jC[b]'(by omega)⟩:ae))∈gn b (cu l r):=jq.2 ⟨y,hy,h1,List.getElem?_eq_getElem _,List.getElem?_eq_getElem _⟩
  obtain ⟨q,hq,e,_⟩:=(mr hle hr hb (s:=s) (t:=y.fE[b]'(by omega))).2 ⟨_,hz,rfl,Int.le_refl _,pG hle hr hz⟩
  exact ⟨q,hq,e⟩
theorem zT (hle:dk l=0) (hr:cN l r) (n:Nat):fH (cu l r) n=kH (aW l r) n:=by
 unfold fH kH
 apply List.filter_congr
 intro x hx
 obtain ⟨k,hk,rfl⟩:=List.mem_map.1 hx
 rw [Bool.eq_iff_iff]
 unfold kG
 simp only [List.all_eq_true,Bool.not_eq_true',decide_eq_false_iff_not]
 constructor
 ·rintro h ⟨b,hb,q,hq,e⟩
  rw [im] at hb
  obtain ⟨y,hy,h1⟩:=(qb hle hr hb).1 ⟨q,hq,e⟩
  exact h y hy (List.mem_of_getElem? h1)
 ·intro h y hy hm
  obtain ⟨b,hb,e⟩:=List.mem_iff_getElem.1 hm
  have h2:=(rV hle hr hy).2.2
  obtain ⟨q,hq,e2⟩:=(qb hle hr (b:=b) (s:=(k:Int)) (by omega)).2 ⟨y,hy,by rw [List.getElem?_eq_getElem hb,e]⟩
  exact h ⟨b,by rw [im]; omega,q,hq,e2⟩
/-- a beam that each way misses -/
def iq (ws:List bM) (b:Nat):Bool:=ws.all fun y=>decide (∃ x,y.cY[b]? =some x∧x<0)
def hM (ws:List bM) (n:Nat):List Int:=((List.range n).filter (iq ws)).map fun (b:Nat)=>(b:Int)
theorem w4 {ws:List bM} {n:Nat} (h:iq ws n=true):hM ws (n+1)=hM ws n++[(n:Int)]:=by simp [hM,List.range_succ,h]
theorem yO {ws:List bM} {n:Nat} (h:iq ws n=false):hM ws (n+1)=hM ws n:=by simp [hM,List.range_succ,h]
theorem sL {ws:List bM} {n:Nat}:(hM ws n).length≤n:=by
 unfold hM
 rw [List.length_map]
 refine Nat.le_trans (List.length_filter_le _ _) ?_
 simp
theorem xu (he:cr l r 0=0):hM (cu l r) l.aa.length=fr l r:=by
 obtain ⟨hle,hr,_,hne⟩:=dW he
 have hmb:=yc he
 rw [lu he]
 have hmin:=va (oy he)
 unfold hM e8
 congr 1
 obtain ⟨m,hm⟩: ∃ m:Nat,iT (bR l r)=(m:Int):=⟨(iT (bR l r)).toNat,by omega⟩
 rw [hm,Int.toNat_natCast]
 obtain ⟨d,hd⟩: ∃ d,l.aa.length=m+d:=⟨l.aa.length-m,by omega⟩
 -- a way that ends at the least number
 have hin:=hmin.1
 rw [hm,fT he] at hin
 obtain ⟨k,hk,hkn,hmay⟩:=kp.1 hin
 obtain rfl:m=k:=by omega
 rw [im] at hkn
 rw [← pM hle hr hkn,List.any_eq_true] at hmay
 obtain ⟨y0,hy0,e0⟩:=hmay
 have e0:=of_decide_eq_true e0
 have hge: ∀ y∈cu l r,m≤y.cY.length:=fun y hy=>by
  have hw:=(lP hle hr).1 hy
  have h1:((y.cY.length:Nat):Int)∈bR l r:=by
   rw [fT he]
   exact kp.2 ⟨y.cY.length,rfl,hw.len,r9.2 ⟨_,_,rfl,hw.chain,hw.may⟩⟩
  have:=hmin.2 _ h1
  omega
 rw [hd,List.range_add,List.filter_append]
 have h2:(List.map (fun x=>m+x) (List.range d)).filter (iq (cu l r))=[]:=by
  apply List.filter_eq_nil_iff.2
  intro x hx hal
  obtain ⟨i,_,rfl⟩:=List.mem_map.1 hx
  have:=List.all_eq_true.1 hal y0 hy0
  obtain ⟨z,hz,_⟩:=of_decide_eq_true this
  have:=(List.getElem?_eq_some_iff.1 hz).1
  omega
 rw [h2,List.append_nil]
 apply List.filter_congr
 intro b hb
 have hb:=List.mem_range.1 hb
 rw [Bool.eq_iff_iff]
 unfold iq kj
 rw [List.all_eq_true,Bool.not_eq_true',Bool.eq_false_iff,Ne,List.any_eq_true]
 constructor
 ·rintro h ⟨q,hq,h0⟩
  have h0:=of_decide_eq_true h0
  obtain ⟨y,hy,h1⟩:=(qb hle hr (b:=b) (s:=q.1) (by omega)).1 ⟨q,hq,rfl⟩
  obtain ⟨x,hx,hx0⟩:=of_decide_eq_true (h y hy)
  rw [h1] at hx; cases hx
  omega
 ·intro h y hy
  have hl:=hge y hy
  refine decide_eq_true ⟨y.cY[b]'(by omega),List.getElem?_eq_getElem _,?_⟩
  apply Classical.byContradiction
  intro h0
  obtain ⟨q,hq,e⟩:=(qb hle hr (b:=b) (s:=y.cY[b]'(by omega)) (by omega)).2 ⟨y,hy,List.getElem?_eq_getElem _⟩
  exact h ⟨q,hq,decide_eq_true (by omega)⟩
end
def ju (ws:List bM) (b:Nat):Int:=if sD (gn b ws)=k9 then 6 else 0
def jE (ws:List bM) (b:Nat):ae:=if sD (gn b ws)=k9 then ⟨0,0⟩ else sD (gn b ws)
theorem C9 {l:List (Int×ae)} {h:ae} (hh:iW l h) (hl: ∀ q∈l,q.2.Lo≤q.2.Hi):sD l=h:=
 wy (r_ hl) hh (fun x hx=>⟨⟨x,hx,Int.le_refl _⟩,x,hx,Int.le_refl _⟩) (fun x hx=>⟨⟨x,hx,Int.le_refl _⟩,x,hx,Int.le_refl _⟩)
theorem w6 {ws:List bM} {b:Nat} (h:gn b ws=[]):ju ws b=6∧jE ws b=⟨0,0⟩:=by
 unfold ju jE; rw [h]; exact ⟨if_pos rfl,if_pos rfl⟩
theorem xy {ws:List bM} {b:Nat} {o:ae} (hl: ∀ q∈gn b ws,q.2.Lo≤q.2.Hi) (h:lZ (gn b ws) o):ju ws b=0∧jE ws b=o:=by
 have e:=C9 (.inr h) hl
 unfold ju jE; rw [e]; exact ⟨if_neg h.ne,if_neg h.ne⟩
/-- what was found until now -/
def lq (b:Nat) (ws:List bM) (fd:Bool) (o:ae):Prop:=(fd=false∧gn b ws=[])∨(fd=true∧lZ (gn b ws) o)
theorem zo {b:Nat} {o:ae}:lq b [] false o:= .inl ⟨rfl,rfl⟩
theorem vI {q:Int×ae} (hq:q.2.Lo≤q.2.Hi):lZ [q] q.2:=⟨hq,⟨q,by simp,rfl⟩,⟨q,by simp,rfl⟩,fun x hx=>by simp at hx; subst hx; exact ⟨Int.le_refl _,Int.le_refl _⟩⟩
theorem uO {l:List (Int×ae)} {h:ae} {q:Int×ae} (hh:lZ l h) (hq:q.2.Lo≤q.2.Hi):lZ (l++[q]) ⟨min q.2.Lo h.Lo,max q.2.Hi h.Hi⟩:=by
 have:=qN (.inr hh) hq
 unfold ky at this
 rw [if_neg hh.ne] at this
 rcases this with ⟨e,_⟩|this
 ·simp at e
 ·exact this
theorem o8 {b:Nat} {ws:List bM} {fd:Bool} {o:ae} {y:bM} (h:lq b ws fd o) (hy:y.cY.length≤b):lq b (ws++[y]) fd o:=by
 unfold lq; rw [tn hy]; exact h
theorem nS {b:Nat} {ws:List bM} {fd:Bool} {o:ae} {y:bM} {s f e:Int} (h:lq b ws fd o) (hf:fd=false) (h1:y.cY[b]? =some s) (h2:y.fE[b]? =some f) (h3:y.jC[b]? =some e) (hle:f≤e):lq b (ws++[y]) true ⟨f,e⟩:=by
 rcases h with ⟨_,q⟩|⟨q,_⟩
 ·right
  rw [np h1 h2 h3,q]
  exact ⟨rfl,vI hle⟩
 ·rw [q] at hf; cases hf
theorem oS {b:Nat} {ws:List bM} {fd:Bool} {o:ae} {y:bM} {s f e:Int} (h:lq b ws fd o) (hf:fd=true) (h1:y.cY[b]? =some s) (h2:y.fE[b]? =some f) (h3:y.jC[b]? =some e) (hle:f≤e):lq b (ws++[y]) true ⟨min f o.Lo,max e o.Hi⟩:=by
 rcases h with ⟨q,_⟩|⟨_,q⟩
 ·rw [q] at hf; cases hf
 ·right
  rw [np h1 h2 h3]
  exact ⟨rfl,uO q hle⟩
theorem ux {b:Nat} {ws:List bM} {fd:Bool} {o:ae} (h:lq b ws fd o) (hl: ∀ q∈gn b ws,q.2.Lo≤q.2.Hi):(fd=false→ju ws b=6∧jE ws b=⟨0,0⟩)∧(fd=true→ju ws b=0∧jE ws b=o):=by
 rcases h with ⟨q,h⟩|⟨q,h⟩
 ·exact ⟨fun _=>w6 h,fun e=>(by rw [q] at e; cases e)⟩
 ·exact ⟨fun e=>(by rw [q] at e; cases e),fun _=>xy hl h⟩
section
variable {l:aU} {r:bK}
theorem my (he:cr l r 0=0) {b:Nat} (hb:b<l.aa.length):ju (cu l r) b=dg l r b∧jE (cu l r) b=ct l r b:=by
 obtain ⟨hle,hr,_,_⟩:=dW he
 have h:=Ah hle hr hb (r_ fun q hq=>pG hle hr hq)
 have ho:cr l r (dU l b)=0:=by rw [zO hb]; exact he
 unfold ju jE
 rw [h]
 by_cases e:l6 l r b=k9
 ·rw [if_pos e,if_pos e,(kz ho e).1,(kz ho e).2]; exact ⟨rfl,rfl⟩
 ·rw [if_neg e,if_neg e,(kx ho e).1,(kx ho e).2]; exact ⟨rfl,rfl⟩
theorem Ez (hle:dk l=0) (hr:cN l r) {y:bM} (hy:y∈cu l r) {b:Nat} {f e:Int} (hb:b<y.cY.length) (h2:y.fE[b]? =some f) (h3:y.jC[b]? =some e):f≤e:=
 pG hle hr (q:=(y.cY[b],⟨f,e⟩)) (jq.2 ⟨y,hy,List.getElem?_eq_getElem _,h2,h3⟩)
theorem wv:cr l r (dU l l.aD)=cr l r 0:=by
 by_cases h:dk l=0
 ·obtain ⟨_,hok⟩:=di h
  have hh:=hok.head
  unfold cS at hh
  rw [k4 (by omega)]
 ·rw [bZ h,bZ h]
theorem jA (h: ¬ cr l r 0=0):dg l r l.aD=cr l r 0:=by
 have:=(cR (b:=l.aD) (by rw [wv]; exact h)).1
 rw [this,wv]
/-- rows of times that are those of ways -/
structure B7 (ws:List bM):Prop where
 lens: ∀ y∈ws,y.fE.length=y.cY.length∧y.jC.length=y.cY.length∧y.cY.length≤6
 le: ∀ y∈ws,∀ (b:Nat) f e,b<y.cY.length→y.fE[b]? =some f→y.jC[b]? =some e→f≤e
 num:ws.length≤40000000
theorem B7.x8 {ws:List bM} (h:B7 ws) {b:Nat}: ∀ q∈gn b ws,q.2.Lo≤q.2.Hi:=fun q hq=>by
 obtain ⟨y,hy,h1,h2,h3⟩:=jq.1 hq
 exact h.le y hy b _ _ (List.getElem?_eq_some_iff.1 h1).1 h2 h3
theorem rW (hle:dk l=0) (hr:cN l r):B7 (cu l r):=by
 obtain ⟨ht,hok⟩:=di hle
 have hh:=hok.head
 unfold cS at hh
 refine ⟨fun y hy=>?_,fun y hy b f e hb h2 h3=>Ez hle hr hy hb h2 h3,qF hr.len (by omega)⟩
 obtain ⟨h1,h2,h3⟩:=rV hle hr hy
 exact ⟨h1,h2,by omega⟩
/-- is a number of beams told -/
def EJ (ws:List bM) (n:Nat):Bool:=ws.any fun y=>decide (y.cY.length=n)
theorem pd {ws:List bM} {n:Nat} {y:bM}:EJ (ws++[y]) n=(EJ ws n||decide (y.cY.length=n)):=by unfold EJ; rw [List.any_append]; simp
theorem lN {ws:List bM} {i:Int} {y:bM}:kG (ws++[y]) i=(kG ws i&& !decide (i∈y.cY)):=by unfold kG; rw [List.all_append]; simp
theorem fJ {ws:List bM} {b:Nat} {y:bM}:iq (ws++[y]) b=(iq ws b&&decide (∃ x,y.cY[b]? =some x∧x<0)):=by unfold iq; rw [List.all_append]; simp
end
end
section
open Go.RowKit
set_option linter.unusedVariables false
theorem xM (l:List aj) (az:List RA): ∀ v∈(List.zipWith aj.cells l az).flatten,v.oneCell'=true:=by
 induction l generalizing az with
 |nil=>intro v hv; simp at hv
 |cons x l ih=>
  cases az with
  |nil=>intro v hv; simp at hv
  |cons a az=>
   intro v hv
   rw [List.zipWith_cons_cons,List.flatten_cons,List.mem_append] at hv
   rcases hv with hv|hv
   ·simp [aj.cells,bO.cells] at hv
    rcases hv with rfl|rfl<;>rfl
   ·exact ih az v hv
theorem iO {l:List aj} {az:List RA} (h:az.length=l.length):(List.zipWith aj.cells l az).length=l.length:=by simp [h]
/-- addresses, of which some are new -/
def nH (bz az:List RA) (i:Nat):List RA:=bz++az.drop i
theorem nY {bz az:List RA} {i:Nat} (hb:bz.length=i) (hi:i≤az.length):(nH bz az i).length=az.length:=by simp [nH,hb]; omega
theorem zZ {bz az:List RA} {i:Nat} (h:az.length≤i):nH bz az i=bz:=by unfold nH; rw [List.drop_eq_nil_of_le h,List.append_nil]
theorem xW {bz az:List RA} {i:Nat} {a:RA} (hb:bz.length=i) (h:az[i]? =some a):(nH bz az i)[i]? =some a:=by
 unfold nH
 rw [List.getElem?_append_right (by omega),hb,Nat.sub_self,List.getElem?_drop]
 simpa using h
theorem BB {bz az:List RA} {i:Nat} {a b:RA} (hb:bz.length=i) (h:az[i]? =some a):(nH bz az i).set i b=nH (bz++[b]) az (i+1):=by
 unfold nH
 have hi:=(List.getElem?_eq_some_iff.1 h).1
 rw [List.set_append_right _ _ (by omega),hb,Nat.sub_self,List.drop_eq_getElem_cons hi,List.set_cons_zero]
 simp
theorem C_ {l:List aj} {bz az:List RA} {i:Nat} {x:aj} {xa nw:RA} (hx:l[i]? =some x) (hb:bz.length=i) (ha:az[i]? =some xa):
 (List.zipWith aj.cells l (nH bz az i)).set i (aj.cells x nw)=List.zipWith aj.cells l (nH (bz++[nw]) az (i+1)):=by
 rw [← BB hb ha]
 apply List.ext_getElem?
 intro k
 rw [List.getElem?_set]
 by_cases e:i=k
 ·subst e
  have h1:=xW hb ha
  have h2:=(List.getElem?_eq_some_iff.1 h1).1
  have h3:=(List.getElem?_eq_some_iff.1 hx).1
  rw [if_pos rfl,List.getElem?_zipWith,hx,List.getElem?_set_self h2,if_pos (by simp; omega)]
 ·rw [if_neg e,List.getElem?_zipWith,List.getElem?_zipWith,List.getElem?_set_ne e]
theorem zL {l:List aj} {bz:List RA} {i:Nat} {x:aj} {nw:RA} (hx:l[i]? =some x) (hb:bz.length=i):aL aj.owns (l.take i) bz++aj.owns x nw=aL aj.owns (l.take (i+1)) (bz++[nw]):=by
 have hi:=(List.getElem?_eq_some_iff.1 hx).1
 rw [List.take_add_one,hx,Option.toList_some,ko (by rw [List.length_take,hb]; omega)]
 simp [aL]
theorem uH {l:List aj} {bz:List RA}:(a5 (aL aj.owns l bz)).wr=true:=by
 show (aL aj.owns l bz).all (·.wr)=true
 rw [List.all_eq_true]
 intro X hX
 obtain ⟨k,m,a,_,_,h⟩:=nJ hX
 simp only [aj.owns,List.mem_singleton] at h
 subst h; rfl
/-- what is known of new rows -/
def sl (l:List aj) (bz:List RA):Prop:= ∀ (k:Nat) m (a:RA),l[k]? =some m→bz[k]? =some a→m.aB.length≤a.2
theorem Bn {l:List aj} {bz:List RA} {i:Nat} {x:aj} {nw:RA} (h:sl l bz) (hb:bz.length=i) (hx:l[i]? =some x) (hc:x.aB.length≤nw.2):sl l (bz++[nw]):=fun k m a hm ha=>by
 by_cases e:k<bz.length
 ·rw [List.getElem?_append_left e] at ha
  exact h k m a hm ha
 ·rw [List.getElem?_append_right (by omega)] at ha
  have hk:k-bz.length=0:=by
   rcases Nat.eq_zero_or_pos (k-bz.length) with h1|h1
   ·exact h1
   ·rw [List.getElem?_eq_none (by simp; omega)] at ha; cases ha
  rw [hk] at ha
  simp at ha
  have:k=i:=by omega
  subst this
  rw [hx] at hm; cases hm
  subst ha; exact hc
theorem lv: ∀ (m:aj) (a:RA) (w:World),(∀ X∈aj.owns m a,X.holds w)→ ∀ X∈aj.dX m a,X.holds w:=fun m a w h X hX=>by
 simp only [aj.dX,List.mem_singleton] at hX
 subst hX
 have:=pa (h _ (List.mem_singleton.2 rfl))
 simpa using this
theorem dC.HP {l:aU} {az bz:List RA} (h:dC l az) (hb:bz.length=l.ag.length) (hc:sl l.ag bz):dC l bz:=⟨h.nm,h.side,h.nv,hb,h.nd,fun k m a hm ha=>⟨hc k m a hm ha,by
 obtain ⟨a2,h2⟩: ∃ a2,az[k]? =some a2:=⟨az[k]'(by rw [h.m_]; exact (List.getElem?_eq_some_iff.1 hm).1),List.getElem?_eq_getElem _⟩
 exact (h.Fs k m a2 hm h2).2⟩⟩
theorem ti {x y:aj} {k:Nat} (h1:x.bJ=y.bJ) (h2:(x.aB.length:Int)=(y.aB.length:Int)) (hk:x.aB.length≤k) (h:x.aB.take k=y.aB.take k):x=y:=by
 cases x; cases y
 simp only [aj.mk.injEq] at *
 rw [List.take_of_length_le hk,List.take_of_length_le (by omega)] at h
 exact ⟨h1,h⟩
theorem eY {l m:aU} (h1:l.al=m.al) (h2:l.bw=m.bw) (h3:l.aD=m.aD) (h4:l.aV=m.aV) (h5:l.aJ=m.aJ) (h6:l.ag=m.ag) (h7:l.aa=m.aa):l=m:=by
 cases l; cases m; simp_all
section
variable {E:eI} {ops:Array Oper} {Q:dh} {rest:List Oper} {D:List Deferred} {L:List (Nat×Value)} {C:List aA}
theorem GN {a:Option Addr} {c e sz:Nat} {es:List (List Value)} (i:Nat) (hC:C[i]? =some (own a c e sz es)) (k:es.length≤c→RJ E ops Q rest D L C):RJ E ops Q rest D L C:=fun act w hf hs=>
 k (C5 (hs.holds _ (List.mem_of_getElem? hC))) act w hf hs
end
end
section
open Go.RowKit
set_option linter.unusedVariables false
/-- a row is taken that was made before; an operation -/
inductive eo where
 |take (i:Nat)
 |op (j:Nat)
def eo.ix:eo→Nat
 | .take i=>i
 | .op j=>j
def wj (dO:Nat→Nat):List eo→List Nat
 |[]=>[]
 | .take i::s=>dO i::wj dO s
 | .op _::s=>wj dO s
theorem pS {dO:Nat→Nat} {i:Nat}: ∀ {s:List eo},eo.take i∈s→dO i∈wj dO s
 | .take k::s,h=>by
  rcases List.mem_cons.1 h with e|h
  ·cases e; exact List.mem_cons_self ..
  ·exact List.mem_cons_of_mem _ (pS h)
 | .op k::s,h=>by
  rcases List.mem_cons.1 h with e|h
  ·cases e
  ·exact pS (s:=s) h
def rB (m:Array Nat) (dO:Nat→Nat) (x y:eo):Bool:=x.ix != y.ix&&(match y with | .op j=>gz m x.ix j| .take i=>match x with | .take k=>dO k != dO i| .op _=>true)
def Hb (m:Array Nat) (dO:Nat→Nat):List eo→Bool
 |[]=>true
 |x::s=>s.all (rB m dO x)&&Hb m dO s
theorem xY {m:Array Nat} {dO:Nat→Nat}: ∀ {s:List eo},Hb m dO s=true→s.Pairwise fun x y=>rB m dO x y=true
 |[],_=>List.Pairwise.nil
 |x::s,h=>by
  simp only [Hb,Bool.and_eq_true] at h
  exact List.Pairwise.cons (fun y hy=>List.all_eq_true.1 h.1 y hy) (xY h.2)
/-- what is known of the slots B is known in L -/
def vz (B L:List (Nat×Value)):Prop:= ∀ t v,B.lookup t=some v→L.lookup t=some v
theorem u_ {B L:List (Nat×Value)} (h:B.map (fun p=>L.lookup p.1)=B.map (fun p=>some p.2)):vz B L:=by
 induction B with
 |nil=>intro t v h; simp at h
 |cons p B ih=>
  obtain ⟨k,u⟩:=p
  simp only [List.map_cons,List.cons.injEq] at h
  intro t v hl
  by_cases e:t=k
  ·subst e
   simp only [List.lookup,beq_self_eq_true,Option.some.injEq] at hl
   rw [h.1,hl]
  ·have:(t==k)=false:=by simpa using e
   simp only [List.lookup,this] at hl
   exact ih h.2 t v hl
theorem k3 {L Y:List (Nat×Value)} {t:Nat}:(L++Y).lookup t=match L.lookup t with |some v=>some v|none=>Y.lookup t:=by
 induction L with
 |nil=>rfl
 |cons p L ih=>
  obtain ⟨k,u⟩:=p
  by_cases e:t==k
  ·simp [List.lookup,e]
  ·have:(t==k)=false:=by simpa using e
   simp only [List.cons_append,List.lookup,this,ih]
theorem vz.app {B L Y:List (Nat×Value)} (h:vz B L):vz B (L++Y):=fun t v ht=>by rw [k3,h t v ht]
theorem E4 {B L:List (Nat×Value)} (h:vz B L) {x:Operand} {v:Value} (hv:ev B x=some v):ev L x=some v:=by
 cases x<;>simp only [ev] at hv ⊢ <;>first|exact h _ _ hv|exact hv
theorem x_ {B L:List (Nat×Value)} (h:vz B L): ∀ {xs:List Operand} {vs:List Value},evs B xs=some vs→evs L xs=some vs
 |[],vs,hv=>hv
 |x::xs,vs,hv=>by
  simp only [evs] at hv ⊢
  cases e1:ev B x with
  |none=>rw [e1] at hv; simp at hv
  |some v=>
   cases e2:evs B xs with
   |none=>rw [e1,e2] at hv; simp at hv
   |some us=>
    rw [e1,e2] at hv
    rw [E4 h e1,x_ h e2]; exact hv
section
variable (E:eI) (ops:Array Oper) (D:List Deferred) (C':List aA) (K0:Act→World→Prop) (B:List (Nat×Value)) (dO:Nat→Nat) (VO:Nat→Nat→Value) (AO:Nat→Nat→aA)
def CH:List eo→List (Nat×Value)→List aA→Prop
 |[],L,C=>KJ E K0 D L C
 | .take i::s,L,C=> ∀ b,CH s ((dO i,VO i b)::L) (AO i b::C)
 | .op j::s,L,C=> ∀ o,ops[j]? =some o→ ∀ (Y:List (Nat×Value)) (X:List aA) (K:Act→World→Prop),(∀ L' C'',(∀ w,St E.S E.w0 C'' w→St E.S E.w0 C' w)→((wj dO s).all fun d=>(L'.lookup d).isNone)=true→B.map (fun p=>L'.lookup p.1)=B.map (fun p=>some p.2)→CH s L' C''→KJ E K D (L'++Y) (C''++X))→RJ E ops (NQ K) [o] D (L++Y) (C++X)
/-- a row that is made at any time -/
def Gx (i:Nat):Prop:= ∀ o,ops[i]? =some o→ ∀ (L:List (Nat×Value)) (C:List aA) (K:Act→World→Prop),vz B L→(∀ b,KJ E K D ((dO i,VO i b)::L) (AO i b::C))→RJ E ops (NQ K) [o] D L C
end
section
variable {E:eI} {ops:Array Oper} {D:List Deferred} {C' C1:List aA} {K0:Act→World→Prop} {B:List (Nat×Value)} {dO:Nat→Nat} {VO:Nat→Nat→Value} {AO:Nat→Nat→aA}
theorem Cm {Q:dh} {rest:List Oper} {L L2:List (Nat×Value)} {C C2:List aA} (hL: ∀ a,Fr E.n D L a→Fr E.n D L2 a) (hC: ∀ w,St E.S E.w0 C w→St E.S E.w0 C2 w) (h:RJ E ops Q rest D L2 C2):RJ E ops Q rest D L C:=fun a w hf hs=>h a w (hL a hf) (hC w hs)
theorem yd {K:Act→World→Prop} {L L2:List (Nat×Value)} {C C2:List aA} (hL: ∀ a,Fr E.n D L a→Fr E.n D L2 a) (hC: ∀ w,St E.S E.w0 C w→St E.S E.w0 C2 w) (h:KJ E K D L2 C2):KJ E K D L C:=fun a w hf hs=>h a w (hL a hf) (hC w hs)
theorem yw {n:Nat} {L L2:List (Nat×Value)} (h: ∀ t v,L2.lookup t=some v→L.lookup t=some v) (a:Act) (hf:Fr n D L a):Fr n D L2 a:=⟨hf.defers,hf.size,fun t v ht=>hf.at_ t v (h t v ht)⟩
theorem wY: ∀ (T0 s':List eo) (dn:List (Nat×Nat)) (L Y:List (Nat×Value)) (C:List aA),(∀ x∈T0,∃ i b,x= .take i∧(i,b)∈dn)→(T0++s').Pairwise (fun x y=>rB (nx ops) dO x y=true)→(dn.map (·.1)).Nodup→(∀ p∈dn,eo.take p.1∈T0++s')→(∀ p∈dn,Y.lookup (dO p.1)=some (VO p.1 p.2))→(∀ i,eo.take i∈T0++s'→L.lookup (dO i)=none)→
 CH E ops D C' K0 B dO VO AO (T0++s') L C→ ∃ (dn':List (Nat×Nat)) (L':List (Nat×Value)) (C2:List aA),CH E ops D C' K0 B dO VO AO s' L' C2∧(dn'.map (·.1)).Nodup∧(∀ p,p∈dn'↔p∈dn∧eo.take p.1∈s')∧(∀ t v,(L'++Y).lookup t=some v→(L++Y).lookup t=some v)∧(∀ i,eo.take i∈s'→L'.lookup (dO i)=none)∧(∀ w,St E.S E.w0 (C++dn.map fun p=>AO p.1 p.2) w→St E.S E.w0 (C2++dn'.map fun p=>AO p.1 p.2) w)
 |[],s',dn,L,Y,C,_,_,hn,hm,_,hl,h=>⟨dn,L,C,h,hn,fun p=>⟨fun q=>⟨q,hm p q⟩,fun q=>q.1⟩,fun t v q=>q,hl,fun w q=>q⟩
 |x::T0,s',dn,L,Y,C,ht,hp,hn,hm,hy,hl,h=>by
  obtain ⟨i,b,rfl,hb⟩:=ht x (List.mem_cons_self ..)
  obtain ⟨hp1,hp2⟩:=List.pairwise_cons.1 hp
  have hne: ∀ y∈T0++s',i≠y.ix:=fun y hy e=>by
   have:=hp1 y hy
   simp only [rB,Bool.and_eq_true,bne_iff_ne,eo.ix] at this
   exact this.1 e
  have hdd: ∀ k,eo.take k∈T0++s'→dO k≠dO i:=fun k hk e=>by
   have:=hp1 _ hk
   simp only [rB,Bool.and_eq_true,bne_iff_ne] at this
   exact this.2 e.symm
  have hpe:dn.Perm ((i,b)::dn.erase (i,b)):=List.perm_cons_erase hb
  have hn2:((dn.erase (i,b)).map (·.1)).Nodup∧i ∉ (dn.erase (i,b)).map (·.1):=by
   have:=(hpe.map (·.1)).nodup_iff.1 hn
   exact ⟨(List.nodup_cons.1 this).2,(List.nodup_cons.1 this).1⟩
  have hsub: ∀ p∈dn.erase (i,b),p∈dn∧p.1≠i:=fun p hp=>⟨List.mem_of_mem_erase hp,fun e=>by have q:=List.mem_map_of_mem (f:=fun p:Nat×Nat=>p.1) hp; simp only [e] at q; exact hn2.2 q⟩
  have hdi:L.lookup (dO i)=none:=hl i (List.mem_cons_self ..)
  obtain ⟨dn',L',C2,h1,h2,h3,h4,h5,h6⟩:=wY T0 s' (dn.erase (i,b)) ((dO i,VO i b)::L) Y (AO i b::C) (fun x hx=>by
   obtain ⟨k,c,rfl,hk⟩:=ht x (List.mem_cons_of_mem _ hx)
   refine ⟨k,c,rfl,?_⟩
   have hki:k≠i:=fun e=>hne _ (List.mem_append_left _ hx) e.symm
   exact (List.mem_erase_of_ne (fun e=>hki (congrArg Prod.fst e))).2 hk) hp2 hn2.1 (fun p hp=>by
   obtain ⟨q1,q2⟩:=hsub p hp
   rcases List.mem_cons.1 (hm p q1) with e|e
   ·injection e with e; exact absurd e q2
   ·exact e) (fun p hp=>hy p (hsub p hp).1) (fun k hk=>by
   have:(dO k==dO i)=false:=by simpa using hdd k hk
   simp only [List.lookup,this]
   exact hl k (List.mem_cons_of_mem _ hk)) (h b)
  refine ⟨dn',L',C2,h1,h2,fun p=>?_,fun t v hv=>?_,h5,fun w hw=>h6 w ?_⟩
  ·rw [h3]
   constructor
   ·rintro ⟨q1,q2⟩; exact ⟨(hsub p q1).1,q2⟩
   ·rintro ⟨q1,q2⟩
    have hki:p.1≠i:=fun e=>hne _ (List.mem_append_right _ q2) e.symm
    exact ⟨(List.mem_erase_of_ne (fun e=>hki (congrArg Prod.fst e))).2 q1,q2⟩
  ·have:=h4 t v hv
   rw [k3] at this ⊢
   by_cases e:t=dO i
   ·subst e
    simp only [List.lookup,beq_self_eq_true] at this
    rw [hdi]; simp only
    rw [hy _ hb]; exact this
   ·have e2:(t==dO i)=false:=by simpa using e
    simp only [List.lookup,e2] at this
    exact this
  ·refine hw.perm ?_
   show (C++dn.map fun p=>AO p.1 p.2).Perm (AO i b::(C++(dn.erase (i,b)).map fun p=>AO p.1 p.2))
   refine ((hpe.map fun p:Nat×Nat=>AO p.1 p.2).append_left C).trans ?_
   exact List.perm_middle
theorem vp: ∀ (s:List eo) (j:Nat),eo.op j∈s→ ∃ T0 k s',s=T0++eo.op k::s'∧ ∀ x∈T0,∃ i,x=eo.take i
 | .take i::s,j,h=>by
  rcases List.mem_cons.1 h with e|h
  ·cases e
  ·obtain ⟨T0,k,s',rfl,h2⟩:=vp s j h
   exact ⟨.take i::T0,k,s',rfl,fun x hx=>by
    rcases List.mem_cons.1 hx with rfl|hx
    ·exact ⟨i,rfl⟩
    ·exact h2 x hx⟩
 | .op k::s,j,_=>⟨[],k,s,rfl,fun x hx=>by cases hx⟩
def je (s:List eo) (dn:List (Nat×Nat)):List Nat:=(s.map eo.ix).filter fun i=> !(dn.map (·.1)).contains i
theorem oh {s:List eo} {dn:List (Nat×Nat)} {i:Nat}:i∈je s dn↔(∃ x∈s,x.ix=i)∧ ∀ p∈dn,p.1≠i:=by
 unfold je
 rw [List.mem_filter,List.mem_map]
 refine and_congr Iff.rfl ?_
 rw [Bool.not_eq_true',← Bool.not_eq_true,List.contains_iff_mem,List.mem_map]
 constructor
 ·intro h p hp e; exact h ⟨p,hp,e⟩
 ·rintro h ⟨p,hp,e⟩; exact h p hp e
theorem n8 (hal: ∀ i,Gx E ops D B dO VO AO i∨True): ∀ (n:Nat) (s:List eo) (dn:List (Nat×Nat)) (L Y:List (Nat×Value)) (C:List aA),(∀ i,eo.take i∈s→Gx E ops D B dO VO AO i)→s.Pairwise (fun x y=>rB (nx ops) dO x y=true)→(je s dn).length=n→(dn.map (·.1)).Nodup→(∀ p∈dn,eo.take p.1∈s)→(∀ p∈dn,Y.lookup (dO p.1)=some (VO p.1 p.2))→(∀ i,eo.take i∈s→L.lookup (dO i)=none)→vz B L→
 (∀ w,St E.S E.w0 C w→St E.S E.w0 C' w)→CH E ops D C' K0 B dO VO AO s L C→TN E ops D C' C1 (fun L C=>KJ E K0 D L C) [] n (je s dn) (L++Y) (C++dn.map fun p=>AO p.1 p.2)
 |0,s,dn,L,Y,C,_,hp,hlen,hn,hm,hy,hl,hB,hC,h=>by
  have hr:je s dn=[]:=List.eq_nil_of_length_eq_zero hlen
  have hall: ∀ x∈s,∃ i b,x=eo.take i∧(i,b)∈dn:=fun x hx=>by
   have hx':x.ix ∉ je s dn:=by rw [hr]; exact List.not_mem_nil
   rw [oh] at hx'
   have: ∃ p∈dn,p.1=x.ix:=by
    apply Classical.byContradiction
    intro q
    exact hx' ⟨⟨x,hx,rfl⟩,fun p hp e=>q ⟨p,hp,e⟩⟩
   obtain ⟨p,hp1,hp2⟩:=this
   have ht:=hm p hp1
   rcases List.mem_iff_getElem.1 hx with ⟨a,ha,ea⟩
   rcases List.mem_iff_getElem.1 ht with ⟨c,hc,ec⟩
   have hac:a=c:=by
    rcases Nat.lt_trichotomy a c with q|q|q
    ·have:=List.pairwise_iff_getElem.1 hp a c ha hc q
     simp only [rB,Bool.and_eq_true,bne_iff_ne,ea,ec] at this
     exact absurd hp2.symm this.1
    ·exact q
    ·have:=List.pairwise_iff_getElem.1 hp c a hc ha q
     simp only [rB,Bool.and_eq_true,bne_iff_ne,ea,ec] at this
     exact absurd hp2 this.1
   subst hac
   exact ⟨p.1,p.2,by rw [← ea,ec],hp1⟩
  obtain ⟨dn',L',C2,h1,h2,h3,h4,h5,h6⟩:=wY s [] dn L Y C hall (by simpa using hp) hn (by simpa using hm) hy (by simpa using hl) (by simpa using h)
  show KJ E K0 D _ _
  have hd:dn'=[]:=List.eq_nil_iff_forall_not_mem.2 fun p hp=>by have:=((h3 p).1 hp).2; cases this
  subst hd
  refine yd (L2:=L') (C2:=C2) (fun a hf=>yw (fun t v ht=>h4 t v (by rw [k3,ht])) a hf) (fun w hw=>by have:=h6 w hw; simpa using this) h1
 |n+1,s,dn,L,Y,C,hal',hp,hlen,hn,hm,hy,hl,hB,hC,h=>by
  intro i hi o ho K hK
  obtain ⟨hi1,hi2⟩:=List.mem_filter.1 hi
  obtain ⟨⟨x,hx,rfl⟩,hni⟩:=oh.1 hi1
  have hmin: ∀ k∈je s dn,gz (nx ops) k x.ix=false:=fun k hk=>by
   have:=List.all_eq_true.1 hi2 k hk
   simpa using this
  cases x with
  |take i=>
   simp only [eo.ix] at hni hmin ho hK hi1 ⊢
   refine hal' i hx o ho _ _ K hB.app fun b=>?_
   have hdi:=hl i hx
   have hre:(je s dn).filter (· != i)=je s ((i,b)::dn):=by
    unfold je
    rw [List.filter_filter]
    apply List.filter_congr
    intro k _
    simp only [List.map_cons,List.contains_cons,Bool.not_or]
    rfl
   have hnd:(je s dn).Nodup:=by
    unfold je
    refine List.Nodup.sublist List.filter_sublist ?_
    refine List.pairwise_map.2 (hp.imp fun {a c} q=>?_)
    simp only [rB,Bool.and_eq_true,bne_iff_ne] at q
    exact q.1
   have hdist: ∀ k,eo.take k∈s→k≠i→dO k≠dO i:=fun k hk hki e=>by
    rcases List.mem_iff_getElem.1 hx with ⟨a,ha,ea⟩
    rcases List.mem_iff_getElem.1 hk with ⟨c,hc,ec⟩
    rcases Nat.lt_trichotomy a c with q|q|q
    ·have:=List.pairwise_iff_getElem.1 hp a c ha hc q
     simp only [rB,Bool.and_eq_true,bne_iff_ne,ea,ec] at this
     exact this.2 e.symm
    ·subst q; rw [ea] at ec; cases ec; exact hki rfl
    ·have:=List.pairwise_iff_getElem.1 hp c a hc ha q
     simp only [rB,Bool.and_eq_true,bne_iff_ne,ea,ec] at this
     exact this.2 e
   refine yd (L2:=L++((dO i,VO i b)::Y)) (C2:=C++((i,b)::dn).map fun p=>AO p.1 p.2) (fun a hf=>yw (fun t v ht=>?_) a hf) (fun w hw=>hw.perm (List.perm_middle).symm) (hK _ _ (fun w hw=>hC w (hw.take (List.sublist_append_left _ _))) (fun q=>by cases q) ?_)
   ·rw [k3] at ht
    by_cases e:t=dO i
    ·subst e
     rw [hdi] at ht
     simp only [List.lookup,beq_self_eq_true] at ht ⊢
     exact ht
    ·have e2:(t==dO i)=false:=by simpa using e
     simp only [List.lookup,e2] at ht ⊢
     rw [k3]; exact ht
   ·rw [hre]
    refine n8 hal n s ((i,b)::dn) L ((dO i,VO i b)::Y) C hal' hp ?_ (List.nodup_cons.2 ⟨fun q=>?_,hn⟩) (fun p hp'=>?_) (fun p hp'=>?_) hl hB hC h
    ·rw [← hre,← List.Nodup.erase_eq_filter hnd,List.length_erase_of_mem hi1,hlen]; rfl
    ·obtain ⟨p,hp',e⟩:=List.mem_map.1 q
     exact hni p hp' e
    ·rcases List.mem_cons.1 hp' with rfl|hp'
     ·exact hx
     ·exact hm p hp'
    ·rcases List.mem_cons.1 hp' with rfl|hp'
     ·simp [List.lookup]
     ·have:(dO p.1==dO i)=false:=by simpa using hdist p.1 (hm p hp') (hni p hp')
      simp only [List.lookup,this]
      exact hy p hp'
  |op j=>
   simp only [eo.ix] at hni hmin ho hK hi1 ⊢
   obtain ⟨T0,k,s',rfl,hT⟩:=vp s j hx
   obtain ⟨q1,q2,q3⟩:=List.pairwise_append.1 hp
   obtain ⟨q4,q5⟩:=List.pairwise_cons.1 q2
   have hopn: ∀ k',eo.op k'∈T0++eo.op k::s'→k'∈je (T0++eo.op k::s') dn:=fun k' hk'=>by
    refine oh.2 ⟨⟨_,hk',rfl⟩,fun p hp' e=>?_⟩
    have ht:=hm p hp'
    rcases List.mem_iff_getElem.1 hk' with ⟨a,ha,ea⟩
    rcases List.mem_iff_getElem.1 ht with ⟨c,hc,ec⟩
    rcases Nat.lt_trichotomy a c with q|q|q
    ·have:=List.pairwise_iff_getElem.1 hp a c ha hc q
     simp only [rB,Bool.and_eq_true,bne_iff_ne,ea,ec,eo.ix] at this
     exact this.1 e.symm
    ·subst q; rw [ea] at ec; cases ec
    ·have:=List.pairwise_iff_getElem.1 hp c a hc ha q
     simp only [rB,Bool.and_eq_true,bne_iff_ne,ea,ec,eo.ix] at this
     exact this.1 e
   have hkj:k=j:=by
    apply Classical.byContradiction
    intro hne
    have hj':eo.op j∈s':=by
     rcases List.mem_append.1 hx with q|q
     ·obtain ⟨i,e⟩:=hT _ q; cases e
     ·rcases List.mem_cons.1 q with e|q
      ·injection e with e; exact absurd e.symm hne
      ·exact q
    have:=q4 _ hj'
    simp only [rB,Bool.and_eq_true,eo.ix] at this
    have h2:=hmin k (hopn k (by simp))
    rw [this.2] at h2; cases h2
   subst hkj
   have hdone: ∀ x∈T0,∃ i b,x=eo.take i∧(i,b)∈dn:=fun x hx'=>by
    obtain ⟨i,rfl⟩:=hT x hx'
    apply Classical.byContradiction
    intro q
    have hir:i∈je (T0++eo.op k::s') dn:=oh.2 ⟨⟨_,List.mem_append_left _ hx',rfl⟩,fun p hp' e=>q ⟨i,p.2,rfl,by rw [← e]; exact hp'⟩⟩
    have:=q3 _ hx' _ (List.mem_cons_self ..)
    simp only [rB,Bool.and_eq_true,eo.ix] at this
    have h2:=hmin i hir
    rw [this.2] at h2; cases h2
   obtain ⟨dn',L',C2,h1,h2,h3,h4,h5,h6⟩:=wY T0 (eo.op k::s') dn L Y C hdone hp hn hm hy hl h
   refine Cm (fun a hf=>yw h4 a hf) h6 (h1 o ho Y (dn'.map fun p=>AO p.1 p.2) K fun L3 C3 hC3 hpn hB3 hch=>?_)
   have hre:(je (T0++eo.op k::s') dn).filter (· != k)=je s' dn':=by
    unfold je
    rw [List.map_append,List.filter_append,List.map_cons,List.filter_append]
    have e1:(List.map eo.ix T0).filter (fun i=> !(dn.map (·.1)).contains i)=[]:=by
     apply List.filter_eq_nil_iff.2
     intro z hz
     obtain ⟨x,hx',rfl⟩:=List.mem_map.1 hz
     obtain ⟨i,b,rfl,hb⟩:=hdone x hx'
     simp only [eo.ix,Bool.not_eq_true',Bool.not_eq_false,List.contains_iff_mem]
     exact List.mem_map_of_mem (f:=(·.1)) hb
    rw [e1]
    simp only [List.filter_nil,List.nil_append]
    have hk0:k ∉ dn.map (·.1):=fun q=>by
     obtain ⟨p,hp',e⟩:=List.mem_map.1 q
     exact hni p hp' e
    rw [List.filter_cons_of_pos (by simpa [eo.ix] using hk0),List.filter_cons_of_neg (by simp [eo.ix]),List.filter_filter]
    apply List.filter_congr
    intro z hz
    obtain ⟨y,hy',rfl⟩:=List.mem_map.1 hz
    have hz1:y.ix≠k:=fun e=>by
     have:=q4 y hy'
     simp only [rB,Bool.and_eq_true,bne_iff_ne,eo.ix] at this
     exact this.1 e.symm
    rw [Bool.eq_iff_iff]
    simp only [Bool.and_eq_true,bne_iff_ne,Bool.not_eq_true',← Bool.not_eq_true,List.contains_iff_mem]
    constructor
    ·rintro ⟨_,hq⟩ hc
     obtain ⟨p,hp',e⟩:=List.mem_map.1 hc
     exact hq (by rw [← e]; exact List.mem_map_of_mem (f:=(·.1)) ((h3 p).1 hp').1)
    ·intro hq
     refine ⟨hz1,fun hc=>?_⟩
     obtain ⟨p,hp',e⟩:=List.mem_map.1 hc
     apply hq
     rw [← e]
     refine List.mem_map_of_mem (f:=(·.1)) ((h3 p).2 ⟨hp',?_⟩)
     have ht:=hm p hp'
     rcases List.mem_append.1 ht with ht|ht
     ·exfalso
      have:=q3 _ ht _ (List.mem_cons_of_mem _ hy')
      simp only [rB,Bool.and_eq_true,bne_iff_ne,eo.ix] at this
      exact this.1 e
     ·exact ht
   have hnd:(je (T0++eo.op k::s') dn).Nodup:=by
    unfold je
    refine List.Nodup.sublist List.filter_sublist ?_
    refine List.pairwise_map.2 (hp.imp fun {a c} q=>?_)
    simp only [rB,Bool.and_eq_true,bne_iff_ne] at q
    exact q.1
   refine hK _ _ (fun w hw=>hC3 w (hw.take (List.sublist_append_left _ _))) (fun q=>by cases q) ?_
   rw [hre]
   have hdn': ∀ p∈dn',eo.take p.1∈s':=fun p hp'=>by
    rcases List.mem_cons.1 ((h3 p).1 hp').2 with e|e
    ·cases e
    ·exact e
   refine n8 hal n s' dn' L3 Y C3 (fun i hi=>hal' i (by simp [hi])) q5 ?_ h2 hdn' (fun p hp'=>hy p ((h3 p).1 hp').1) (fun i hi=>?_) (u_ hB3) hC3 hch
   ·rw [← hre,← List.Nodup.erase_eq_filter hnd,List.length_erase_of_mem hi1,hlen]; rfl
   ·have:=List.all_eq_true.1 hpn _ (pS hi)
    simpa using this
/-- the rows, at any time; the others, one after the other -/
theorem Cy {tb rem:List Nat} {L:List (Nat×Value)} {C:List aA} (s:List eo) (B:List (Nat×Value)) (dO:Nat→Nat) (VO:Nat→Nat→Value) (AO:Nat→Nat→aA) {n:Nat} (htb:tb=[]) (hr:s.map eo.ix=rem) (hn:rem.length=n) (hp:Hb (nx ops) dO s=true) (hl:((wj dO s).all fun d=>(L.lookup d).isNone)=true) (hB:B.map (fun p=>L.lookup p.1)=B.map (fun p=>some p.2)) (hC: ∀ w,St E.S E.w0 C w→St E.S E.w0 C' w)
 (hal: ∀ i,eo.take i∈s→Gx E ops D B dO VO AO i) (h:CH E ops D C' K0 B dO VO AO s L C):TN E ops D C' C1 (fun L C=>KJ E K0 D L C) tb n rem L C:=by
 subst htb hr
 have e:je s []=s.map eo.ix:=by unfold je; simp
 have:=n8 (C1:=C1) (fun i=> .inr trivial) n s [] L [] C hal (xY hp) (by rw [e]; exact hn) List.nodup_nil (fun p hp=>by cases hp) (fun p hp=>by cases hp) (fun i hi=>by
  have:=List.all_eq_true.1 hl _ (pS hi)
  simpa using this) (u_ hB) hC h
 simpa [e] using this
theorem DV {p:Nat→Prop}: ∀ i,eo.take i∈([]:List eo)→p i:=fun i h=>by cases h
theorem s7 {p:Nat→Prop} {j:Nat} {s:List eo} (h: ∀ i,eo.take i∈s→p i): ∀ i,eo.take i∈eo.op j::s→p i:=fun i hi=>by
 rcases List.mem_cons.1 hi with e|hi
 ·cases e
 ·exact h i hi
theorem ry {p:Nat→Prop} {j:Nat} {s:List eo} (hj:p j) (h: ∀ i,eo.take i∈s→p i): ∀ i,eo.take i∈eo.take j::s→p i:=fun i hi=>by
 rcases List.mem_cons.1 hi with e|hi
 ·cases e; exact hj
 ·exact h i hi
end
section
variable {E:eI} {ops:Array Oper} {D:List Deferred} {B:List (Nat×Value)} {dO:Nat→Nat} {VO:Nat→Nat→Value} {AO:Nat→Nat→aA}
variable {d:Nat} {ty:TypeId} {ps:String} {af:Array Edge}
theorem z8 {i t e sz:Nat} (ho:ops[i]? =some ⟨some d,.buildSlice t 0 #[],ty,ps,af,none⟩) (ht:tE E.P t=some (e,sz)) (hd:Nat.blt d E.n=true) (h1:dO i=d) (h2: ∀ b,VO i b= .slice (some ⟨b,0,none⟩) 0 0) (h3: ∀ b,AO i b=aT b e []):Gx E ops D B dO VO AO i:=fun o ho' L C K hB hk=>by
 rw [ho] at ho'; cases ho'
 exact ur rfl ht hd fun b=>aP (by have:=hk b; rw [h1,h2,h3] at this; exact this)
theorem Dg {i t e sz n:Nat} {xs:List Operand} {vs:List Value} {cs zs:List Value} (ho:ops[i]? =some ⟨some d,.buildSlice t n ((xs.zipIdx.map fun p=>(p.2,p.1)).toArray),ty,ps,af,none⟩) (ht:tE E.P t=some (e,sz)) (hz:tZ E.P e=some zs) (hx:evs B xs=some vs) (hn:xs.length=n) (hp:Nat.blt 0 (n*sz)=true) (hb:Nat.ble (n*sz) 16777216=true) (hv: ∀ v∈vs,v.cells.size=sz)
 (hc:(vs.map (·.cells.toList)).flatten=cs) (hd:Nat.blt d E.n=true) (h1:dO i=d) (h2: ∀ b,VO i b= .slice (some ⟨b,0,none⟩) n n) (h3: ∀ b,AO i b=aT b e cs):Gx E ops D B dO VO AO i:=fun o ho' L C K hB hk=>by
 rw [ho] at ho'; cases ho'
 exact fp rfl ht hz (x_ hB hx) hn hp hb hv hc hd fun b=>aP (by have:=hk b; rw [h1,h2,h3] at this; exact this)
end
section
variable {E:eI} {ops:Array Oper} {D:List Deferred} {C':List aA} {K0:Act→World→Prop} {B:List (Nat×Value)} {dO:Nat→Nat} {VO:Nat→Nat→Value} {AO:Nat→Nat→aA}
theorem sx {j:Nat} {s:List eo} {L:List (Nat×Value)} {C:List aA} {o:Oper} (ho:ops[j]? =some o)
 (h: ∀ (Y:List (Nat×Value)) (X:List aA) (K:Act→World→Prop),(∀ L' C'',(∀ w,St E.S E.w0 C'' w→St E.S E.w0 C' w)→((wj dO s).all fun d=>(L'.lookup d).isNone)=true→B.map (fun p=>L'.lookup p.1)=B.map (fun p=>some p.2)→CH E ops D C' K0 B dO VO AO s L' C''→KJ E K D (L'++Y) (C''++X))→RJ E ops (NQ K) [o] D (L++Y) (C++X)):CH E ops D C' K0 B dO VO AO (.op j::s) L C:=fun o' ho'=>by
 rw [ho] at ho'; cases ho'
 exact h
theorem o1 {s:List eo} {L Y:List (Nat×Value)} {C X:List aA} {K:Act→World→Prop} (hT: ∀ L' C'',(∀ w,St E.S E.w0 C'' w→St E.S E.w0 C' w)→((wj dO s).all fun d=>(L'.lookup d).isNone)=true→B.map (fun p=>L'.lookup p.1)=B.map (fun p=>some p.2)→CH E ops D C' K0 B dO VO AO s L' C''→KJ E K D (L'++Y) (C''++X)) (nL nC:Nat)
 (hL:L.take nL++Y=L) (hC:C.take nC++X=C) (h1: ∀ w,St E.S E.w0 (C.take nC) w→St E.S E.w0 C' w) (h2:((wj dO s).all fun d=>((L.take nL).lookup d).isNone)=true) (h3:B.map (fun p=>(L.take nL).lookup p.1)=B.map (fun p=>some p.2)) (h:CH E ops D C' K0 B dO VO AO s (L.take nL) (C.take nC)):RJ E ops (NQ K) [] D L C:=by
 have:=hT _ _ h1 h2 h3 h
 rw [hL,hC] at this
 exact aP this
theorem FN {c:Code} {Q:dh} {L L':List (Nat×Value)} {C:List aA} (h:L'.map (fun p=>L.lookup p.1)=L'.map (fun p=>some p.2)) (k:WJ E c Q D L' C):WJ E c Q D L C:=fun a w hf hs=>k a w (yw (u_ h) a hf) hs
theorem rZ: ∀ {C:List aA} {i:Nat} {A:aA},C[i]? =some A→C.Perm (A::C.eraseIdx i)
 |[],i,A,h=>by simp at h
 |x::C,0,A,h=>by
  simp at h; subst h
  exact List.Perm.refl _
 |x::C,i+1,A,h=>((rZ (C:=C) (i:=i) (by simpa using h)).cons x).trans (List.Perm.swap _ _ _)
theorem St.front {S:BS} {w0 w:World} {C:List aA} {A:aA} (i:Nat) (hi:C[i]? =some A) (h:St S w0 C w):St S w0 (A::C.eraseIdx i) w:=h.perm (rZ hi)
theorem x3 {K:Act→World→Prop} {L:List (Nat×Value)} {C:List aA} {A:aA} (i:Nat) (hi:C[i]? =some A) (h:KJ E K D L (A::C.eraseIdx i)):KJ E K D L C:=fun a w hf hs=>h a w hf (hs.front i hi)
theorem om {Q:dh} {rest:List Oper} {L:List (Nat×Value)} {C:List aA} {A:aA} (i:Nat) (hi:C[i]? =some A) (h:RJ E ops Q rest D L (A::C.eraseIdx i)):RJ E ops Q rest D L C:=fun a w hf hs=>h a w hf (hs.front i hi)
end
end
section
open Go.RowKit
set_option linter.unusedVariables false
theorem vB (l:List bM) (az:List jc): ∀ v∈(List.zipWith bM.cells l az).flatten,v.oneCell'=true:=by
 induction l generalizing az with
 |nil=>intro v hv; simp at hv
 |cons x l ih=>
  cases az with
  |nil=>intro v hv; simp at hv
  |cons a az=>
   intro v hv
   simp only [List.zipWith_cons_cons,List.flatten_cons,List.mem_append] at hv
   rcases hv with hv|hv
   ·simp only [bM.cells,td.cells,List.mem_cons,List.not_mem_nil,or_false] at hv
    rcases hv with rfl|rfl|rfl<;>rfl
   ·exact ih az v hv
theorem pN: ∀ (m:bM) (a:jc) (w:World),(∀ X∈bM.owns m a,X.holds w)→ ∀ X∈bM.dX m a,X.holds w:=fun m a w h X hX=>by
 simp only [bM.dX,List.mem_cons,List.not_mem_nil,or_false] at hX
 have h1:=pa (h (own a.1.1 a.1.2 j3 1 (m.cY.map iC)) (by simp [bM.owns]))
 have h2:=pa (h (own a.2.1.1 a.2.1.2 j3 1 (m.fE.map iC)) (by simp [bM.owns]))
 have h3:=pa (h (own a.2.2.1 a.2.2.2 j3 1 (m.jC.map iC)) (by simp [bM.owns]))
 rcases hX with rfl|rfl|rfl
 ·simpa using h1
 ·simpa using h2
 ·simpa using h3
theorem m6: ∀ (l:List bM) (az:List jc),(aL bM.owns l az).all (·.wr)=true
 |[],_=>rfl
 |_::_,[]=>rfl
 |x::l,a::az=>by
  simp only [aL,List.all_append,Bool.and_eq_true]
  exact ⟨rfl,m6 l az⟩
theorem pq (l:List bM) (az:List jc):(a5 (aL bM.owns l az)).wr=true:=m6 l az
theorem Ac {l m:List bM} {az bz:List jc} (h:az.length=l.length):List.zipWith bM.cells (l++m) (az++bz)=List.zipWith bM.cells l az++List.zipWith bM.cells m bz:=List.zipWith_append h.symm
theorem fj {l:List bM} {az:List jc} (h:az.length=l.length):(List.zipWith bM.cells l az).length=l.length:=by rw [List.length_zipWith]; omega
/-- what is read of a thing that is tied, and frozen -/
theorem mQ {C L:List aA} {a:Option Addr} {c e sz n:Nat} {es:List (List Value)} (i:Nat) (hC:C[i]? =some (a5 L).ro) (hm:own a c e sz es∈L) (hn:es.length=n):jS C (rd a n sz es).holds:=fun w hw=>by
 subst hn
 exact pa ((show (a5 L).holds w from (hw _ (List.mem_of_getElem? hC):(a5 L).ro.holds w)).1 _ hm)
section
variable {E:eI} {ops:Array Oper} {Q:dh} {rest:List Oper} {D:List Deferred} {L:List (Nat×Value)} {C C1:List aA}
theorem St.ET {S:BS} {w0 w:World} {X C:List aA} {A:aA} (h:St S w0 (a5 (X++[A])::C) w):St S w0 (A::a5 X::C) w:=by
 have h1:=h.ig
 have h2:St S w0 (X++(A::C)) w:=by simpa using h1
 exact h2.nM.perm (List.Perm.swap _ _ _)
theorem St.merge {S:BS} {w0 w:World} {X Y C:List aA} (h:St S w0 (a5 X::a5 Y::C) w):St S w0 (a5 (X++Y)::C) w:=by
 have h1:St S w0 (a5 Y::(X++C)) w:=(h.ig).perm (List.perm_middle (a:=a5 Y) (l₁:=X) (l₂:=C))
 have h2:St S w0 (Y++(X++C)) w:=h1.ig
 have h3:St S w0 ((X++Y)++C) w:=h2.perm (by rw [← List.append_assoc]; exact List.perm_append_comm.append_right _)
 exact h3.nM
end
section
variable {E:eI} {ops:Array Oper} {Q:dh} {rest:List Oper} {D:List Deferred} {L:List (Nat×Value)} {C:List aA}
theorem u6 {A:aA} {X X':List aA} (e:X++[A]=X') (h:RJ E ops Q rest D L (a5 X'::C)):RJ E ops Q rest D L (A::a5 X::C):=fun a w hf hs=>h a w hf (hs.tie e)
theorem uh {X:List aA} {A:aA} (h:RJ E ops Q rest D L (A::a5 X::C)):RJ E ops Q rest D L (a5 (X++[A])::C):=fun a w hf hs=>h a w hf hs.ET
theorem Ae {K:Act→World→Prop} {ms ns:List bM} {az bz:List jc} (hl:az.length=ms.length) (h:KJ E K D L (a5 (aL bM.owns (ms++ns) (az++bz))::C)):KJ E K D L (a5 (aL bM.owns ms az)::a5 (aL bM.owns ns bz)::C):=fun a w hf hs=>h a w hf (by rw [ko hl.symm]; exact hs.merge)
end
/-- the head of the ways: the way that ends here, if it may -/
def si (l:aU) (r:bK) (rs fs:List Int) (ra fa:RA) (hz:List jc) (LA:List aA):Prop:=
 ((r.ab.length:Int)-(cJ rs).right≤l.aV∧ ∃ la:RA,hz=[(ra,fa,la)]∧LA=[own la.1 la.2 j3 1 ((gY l r rs).map iC)])∨(¬ (r.ab.length:Int)-(cJ rs).right≤l.aV∧hz=[]∧LA=[])
theorem si.len {l:aU} {r:bK} {rs fs:List Int} {ra fa:RA} {hz:List jc} {LA:List aA} (h:si l r rs fs ra fa hz LA):hz.length=(eE l r rs fs).length:=by
 unfold eE
 rcases h with ⟨q,la,rfl,rfl⟩|⟨q,rfl,rfl⟩
 ·rw [if_pos q]; rfl
 ·rw [if_neg q]; rfl
theorem si.wr {l:aU} {r:bK} {rs fs:List Int} {ra fa:RA} {hz:List jc} {LA:List aA} (h:si l r rs fs ra fa hz LA):LA.all (·.wr)=true:=by
 rcases h with ⟨q,la,rfl,rfl⟩|⟨q,rfl,rfl⟩<;>rfl
theorem AF {S:BS} {w0 w:World} {l:aU} {r:bK} {rs fs:List Int} {ra fa:RA} {hz az:List jc} {LA:List aA} {R:List bM} {A:aA} (hh:si l r rs fs ra fa hz LA)
 (h:St S w0 [a5 [own ra.1 ra.2 j3 1 (rs.map iC),own fa.1 fa.2 j3 1 (fs.map iC)],A,a5 LA,a5 (aL bM.owns R az)] w):St S w0 [a5 (aL bM.owns (eE l r rs fs++R) (hz++az)++[A])] w:=by
 rw [ko hh.len.symm]
 have h0:St S w0 [own ra.1 ra.2 j3 1 (rs.map iC),own fa.1 fa.2 j3 1 (fs.map iC),A,a5 LA,a5 (aL bM.owns R az)] w:=h.ig
 rcases hh with ⟨q,la,rfl,rfl⟩|⟨q,rfl,rfl⟩
 ·unfold eE
  rw [if_pos q]
  have h1:=(St.br [3,0,1,2,4] rfl rfl h0).ig
  have h2:=(St.br [4,1,2,0,3] rfl rfl h1).ig
  have h3:St S w0 (((aL bM.owns [(⟨rs,fs,gY l r rs⟩:bM)] [(ra,fa,la)]++aL bM.owns R az)++[A])++[]) w:=by
   rw [List.append_nil]
   refine h2.perm ?_
   show (aL bM.owns R az++(aL bM.owns [(⟨rs,fs,gY l r rs⟩:bM)] [(ra,fa,la)]++[A])).Perm _
   rw [← List.append_assoc]
   exact List.perm_append_comm.append_right _
  exact h3.nM
 ·unfold eE
  rw [if_neg q]
  have h1:=(St.br [4,2] rfl rfl h0).ig
  have h3:St S w0 (((aL bM.owns [] []++aL bM.owns R az)++[A])++[]) w:=by
   rw [List.append_nil]; exact h1
  exact h3.nM
theorem AU {E:eI} {K:Act→World→Prop} {D:List Deferred} {L:List (Nat×Value)} {l:aU} {r:bK} {rs fs:List Int} {ra fa:RA} {hz az z:List jc} {LA:List aA} {R W:List bM} {A A':aA} (hh:si l r rs fs ra fa hz LA) (hW:eE l r rs fs++R=W) (hz':hz++az=z) (hA:A=A')
 (h:KJ E K D L [a5 (aL bM.owns W z++[A'])]):KJ E K D L [a5 [own ra.1 ra.2 j3 1 (rs.map iC),own fa.1 fa.2 j3 1 (fs.map iC)],A,a5 LA,a5 (aL bM.owns R az)]:=fun a w hf hs=>h a w hf (by subst hW hz' hA; exact AF hh hs)
theorem DQ {E:eI} {K:Act→World→Prop} {D:List Deferred} {L:List (Nat×Value)} {X A:aA} {W:List bM} (h:KJ E K D L [a5 (aL bM.owns W []++[A])]):KJ E K D L [X,A]:=fun a w hf hs=>h a w hf (by
 have h1:St E.S E.w0 [A] w:=St.br [1] rfl rfl hs
 have h2:St E.S E.w0 (([]++[A])++[]) w:=h1
 have e:aL bM.owns W []=[]:=by cases W<;>rfl
 rw [e]
 exact h2.nM)
theorem yQ {E:eI} {K:Act→World→Prop} {D:List Deferred} {L:List (Nat×Value)} {C:List aA} (e sz:Nat) (k:KJ E K D L (own none 0 e sz []::C)):KJ E K D L C:=fun a w hf hs=>k a w hf (hs.pf e sz)
end
section
set_option linter.unusedVariables false
theorem TN.sub {E:eI} {ops:Array Oper} {Q:dh} {D:List Deferred} {C' C1 C:List aA} {tb rem:List Nat}: ∀ {n:Nat} {L L':List (Nat×Value)},an L L'→TN E ops D C' C1 (fun L C=>KJ E (Q .normal) D L C) tb n rem L' C→TN E ops D C' C1 (fun L C=>KJ E (Q .normal) D L C) tb n rem L C:=by
 intro n
 cases n with
 |zero=>intro L L' hs h; exact e7 hs (fun _ h=>h) h
 |succ n=>intro L L' hs h i hi o ho K hK; exact Dz hs (fun _ h=>h) (h i hi o ho K hK)
end
section
open Go.RowKit
set_option linter.unusedVariables false
set_option maxRecDepth 100000 in
set_option maxHeartbeats 400000 in
theorem mu (n:Int) (lo:Int) (hi:Int):
 eH Tryz.prog 88 [(Value.int .i64 n),(Value.int .i64 lo),(Value.int .i64 hi)] [] (Value.bool (decide (lo≤n∧n≤hi))):=by
 refine bL IT Tryz.func88 rfl rfl fun w0 Q hQ hN=>?_
 try dsimp only
 refine WS fun _ hK1=>rS (AG rfl)<|RK hK1<|WS fun _ hK2=>rS (MV rfl)<|rS (MV rfl)<|rS (BI rfl kv)<|rS (MV rfl) ?_
 refine bH (t:=10) rfl (fun h3=>?_) (fun h3=>?_)
 rotate_left 1
 ·replace h3:=DF h3
  refine rS (OX rfl)<|rS (OX rfl)<|rS (OX rfl)<|rS (PK rfl)<|rS (AG rfl)<|RK hK2<|aE<|Q1 hQ rfl rfl rfl ?_
  exact congrArg Value.bool (decide_eq_false (by omega)).symm
 replace h3:=DT h3
 refine rS (MV rfl)<|rS (MV rfl)<|rS (BI rfl gl)<|rS (PK rfl)<|rS (AG rfl)<|RK hK2<|aE<|Q1 hQ rfl rfl rfl ?_
 exact congrArg Value.bool (decide_eq_decide.2 (by omega))
set_option maxRecDepth 100000 in
set_option maxHeartbeats 400000 in
theorem mC (s:ae) (lo:Int) (hi:Int):
 eH Tryz.prog 89 [(Value.agg (ae.cells s).toArray),(Value.int .i64 lo),(Value.int .i64 hi)] [] (Value.bool (decide (s.Lo≤s.Hi∧lo≤s.Lo∧s.Hi≤hi))):=by
 refine bL Il Tryz.func89 rfl rfl fun w0 Q hQ hN=>?_
 try dsimp only
 refine WS fun _ hK1=>fy rfl fun b2=>rS (AG rfl)<|RK hK1<|WS fun _ hK3=>rS (FA 0 rfl bU rfl)<|rS (L1 (Value.int .i64 s.Lo) 0 rfl bu rfl rfl)<|rS (MV rfl)<|rS (FA 1 rfl cd rfl)<|rS (L1 (Value.int .i64 s.Hi) 0 rfl bu rfl rfl) ?_
 refine rS (CL (mu s.Lo lo s.Hi) (ay) rfl)<|rS (MV rfl) ?_
 refine bH (t:=13) rfl (fun h4=>?_) (fun h4=>?_)
 rotate_left 1
 ·replace h4:=DF h4
  refine rS (OX rfl)<|rS (OX rfl)<|rS (OX rfl)<|rS (OX rfl)<|rS (PK rfl)<|rS (AG rfl)<|RK hK3<|aE<|Q1 hQ rfl rfl rfl ?_
  exact congrArg Value.bool (decide_eq_false (by omega)).symm
 replace h4:=DT h4
 refine rS (FA 1 rfl cd rfl)<|rS (L1 (Value.int .i64 s.Hi) 0 rfl bu rfl rfl)<|rS (MV rfl)<|rS (BI rfl gl)<|rS (PK rfl)<|rS (AG rfl)<|RK hK3<|aE<|Q1 hQ rfl rfl rfl ?_
 exact congrArg Value.bool (decide_eq_decide.2 (by omega))
set_option maxRecDepth 100000 in
set_option maxHeartbeats 400000 in
theorem CD (t:List ah) (tA:Option Addr) (tC:Nat):
 eH Tryz.prog 31 [(Value.agg (au.cells (au.mk (av.mk tA t.length tC))).toArray)] [(rd tA t.length 9 (t.map ah.cells))] (Value.bool (decide (20<(t.length:Int)))):=by
 refine bL Hp Tryz.func31 rfl rfl fun w0 Q hQ hN=>?_
 try dsimp only
 refine WS fun _ hK1=>fy rfl fun b2=>rS (AG rfl)<|RK hK1<|WS fun _ hK3=>rS (FA 0 rfl gv rfl)<|rS (L1 (Value.slice tA t.length tC) 0 rfl lD rfl rfl)<|rS (LN rfl qk)<|rS (BI rfl fY)<|rS (AG rfl) ?_
 refine RK hK3<|aE ?_
 exact Q1 hQ rfl rfl rfl rfl
set_option maxRecDepth 100000 in
set_option maxHeartbeats 400000 in
theorem CS (l:List Int) (lA:Option Addr) (lC:Nat) (f:Value) (p:Int→Bool) (X:aA) (hf: ∀ x0,x0∈l→Ap Tryz.prog f [.int .i64 x0] [X] (.bool (p x0))) (hlen:l.length≤1000000):
 eH Tryz.prog 86 [(Value.slice lA l.length lC),f] [(rd lA l.length 1 (l.map iC)),X] (Value.int .i64 (pV p l)):=by
 refine bL Ir Tryz.func86 rfl rfl fun w0 Q hQ hN=>?_
 try dsimp only
 refine WS fun _ hK1=>rS (AG rfl)<|RK hK1<|aq fun _ hK2=>WS fun _ hK3=>rS (MV rfl)<|rS (LN rfl l9)<|rS (MV rfl)<|RK hK3<|aG ?_
 have hinit:(0≤l.length)∧((l.take 0).any p=false):=by simp
 refine cq (ι:={z:Nat // (z≤l.length)∧((l.take z).any p=false)}) (fun z=>[(0,(Value.slice lA l.length lC)),(1,f),(7,(Value.int .i64 ((l.length:Nat):Int))),(8,(Value.int .i64 (z.1:Int)))]) (fun z=>[(rd lA l.length 1 (l.map iC)).ro,X.ro]) (fun z=>l.length-z.1) ⟨0,hinit⟩ (an.cons rfl<|an.cons rfl<|an.cons rfl<|an.cons rfl<|an.nil _) (fun w hs=>St.br [0,1] rfl rfl hs) ?_
 clear hinit
 rintro ⟨i,⟨hl0_0,hl0_1⟩⟩ J4 hJ4
 try dsimp only
 refine WS fun _ hK5=>rS (BI rfl cv)<|RK hK5<|aq fun _ hK6=>?_
 refine bj rfl (fun h7=>?_) (fun h7=>?_)
 rotate_left 1
 ·replace h7:=DF h7
  refine bE<|ai<|ai<|aH<|KK hK2<|WS fun _ hK12=>rS (AG rfl)<|RK hK12<|aE<|Q1 hQ rfl rfl rfl ?_
  first|exact congrArg (Value.int .i64) (mc hx hp hl0_1).symm|exact congrArg (Value.int .i64) (j6 (by omega) hl0_1).symm
 replace h7:=DT h7
 refine WK hK6<|aq fun _ hK8=>aG<|WS fun _ hK9=>rS (MV rfl)<|rS (AG rfl)<|RK hK9<|WS fun _ hK10=>rS (MV rfl)<|rS (MV rfl) ?_
 refine rS (MV rfl) ?_
 obtain ⟨x,hx⟩: ∃ y_,l[i]? =some y_:=⟨l[i]'(by omega),List.getElem?_eq_getElem _⟩
 have hxm:(l.map iC)[i]? =some (iC x):=by rw [List.getElem?_map,hx]; rfl
 refine rS (IA i rfl (aI 0 rfl) dY (by decide) (by omega) (by omega))<|rS (iX i 0 (Value.int .i64 x) rfl bu (aI 0 rfl) hxm rfl (by decide) rfl)<|rS (SX (qL rfl rfl rfl (hf x (List.mem_of_getElem? hx)) (ax 1 rfl rfl<|ay)) rfl rfl)<|RK hK10 ?_
 refine bj rfl (fun hp=>?_) (fun hp=>?_)
 ·refine WS fun _ hK11=>?_
  refine rS (MV rfl)<|rS (AG rfl)<|RK hK11<|aE<|Q1 hQ rfl rfl rfl ?_
  first|exact congrArg (Value.int .i64) (mc hx hp hl0_1).symm|exact congrArg (Value.int .i64) (j6 (by omega) hl0_1).symm
 refine cM<|aK<|KK hK8<|ar<|rS (BI rfl (aZ ⟨by omega,by omega⟩))<|rS (MV rfl)<|aP ?_
 refine aO (hJ4 ⟨(i+1),⟨by omega,sJ hx hl0_1 hp⟩⟩ _ _ _ rfl (by first|omega|(simp; omega)) (an.cons rfl<|an.cons rfl<|an.cons rfl<|an.cons rfl<|an.nil _) (fun w hs=>St.br [0,1] rfl rfl hs))
set_option maxRecDepth 100000 in
set_option maxHeartbeats 400000 in
theorem su (l:List Int) (lA:Option Addr) (lC:Nat) (f:Value) (p:Int→Bool) (X:aA) (hf: ∀ x0,x0∈l→Ap Tryz.prog f [.int .i64 x0] [X] (.bool (p x0))) (hlen:l.length≤1000000):
 eH Tryz.prog 65 [(Value.slice lA l.length lC),f] [(rd lA l.length 1 (l.map iC)),X] (Value.bool (l.any p)):=by
 refine bL HI Tryz.func65 rfl rfl fun w0 Q hQ hN=>?_
 try dsimp only
 refine WS fun _ hK1=>rS (AG rfl)<|RK hK1<|WS fun _ hK2=>rS (MV rfl)<|rS (MV rfl)<|rS (CL (CS l lA lC f p X (by exact hf) hlen) (ax 0 rfl rfl<|ax 1 rfl rfl<|ay) rfl)<|rS (BI rfl kv)<|rS (AG rfl)<|RK hK2 ?_
 refine aE<|Q1 hQ rfl rfl rfl ?_
 exact congrArg Value.bool qf
set_option maxRecDepth 100000 in
set_option maxHeartbeats 400000 in
theorem zF (n:Int) (lo:Int) (hi:Int) (g1:Nat) (g2:Nat):
 eH Tryz.prog 130 [(Value.int .i64 n),(Value.pointer (some ⟨g1,0,none⟩)),(Value.pointer (some ⟨g2,0,none⟩))] [(aT g1 3 [(Value.int .i64 lo)]),(aT g2 3 [(Value.int .i64 hi)])] (Value.bool (decide (n<lo∨hi<n))):=by
 refine bL Ge Tryz.func130 rfl rfl fun w0 Q hQ hN=>?_
 try dsimp only
 refine WS fun _ hK1=>rS (AG rfl)<|RK hK1<|WS fun _ hK2=>rS (MV rfl)<|rS (tS 0 rfl bu rfl)<|rS (BI rfl cv)<|rS (MV rfl) ?_
 refine bH (t:=8) rfl (fun h3=>?_) (fun h3=>?_)
 ·replace h3:=DT h3
  refine rS (OX rfl)<|rS (OX rfl)<|rS (OX rfl)<|rS (PK rfl)<|rS (AG rfl)<|RK hK2<|aE<|Q1 hQ rfl rfl rfl ?_
  exact congrArg Value.bool (decide_eq_true (by omega)).symm
 replace h3:=DF h3
 refine rS (MV rfl)<|rS (tS 1 rfl bu rfl)<|rS (BI rfl fY)<|rS (PK rfl)<|rS (AG rfl)<|RK hK2<|aE<|Q1 hQ rfl rfl rfl ?_
 exact congrArg Value.bool (decide_eq_decide.2 (by omega))
set_option maxRecDepth 100000 in
set_option maxHeartbeats 400000 in
theorem mw (lo:Int) (hi:Int) (l:List Int) (lA:Option Addr) (lC:Nat) (hlen:l.length≤1000000):
 eH Tryz.prog 104 [(Value.int .i64 lo),(Value.int .i64 hi),(Value.slice lA l.length lC)] [(rd lA l.length 1 (l.map iC))] (Value.bool (um lo hi l)):=by
 refine bL GY Tryz.func104 rfl rfl fun w0 Q hQ hN=>?_
 try dsimp only
 refine WS fun _ hK1=>yn rfl rfl fun b2=>yn rfl rfl fun b3=>rS (AG rfl)<|RK hK1<|WS fun _ hK4=>rS (MV rfl)<|rS (FU rfl)<|rS (CL (su l lA lC (Value.func (.func 130) [].toArray [(Value.pointer (some ⟨b2,0,none⟩)),(Value.pointer (some ⟨b3,0,none⟩))].toArray) (fun u5=>(decide (u5<lo∨hi<u5))) (cZ [(aT b2 3 [(Value.int .i64 lo)]),(aT b3 3 [(Value.int .i64 hi)])]) (by intro u5 _; exact nG (fi:=[]) (ca:=[(Value.pointer (some ⟨b2,0,none⟩)),(Value.pointer (some ⟨b3,0,none⟩))]) (mF (zF u5 lo hi b2 b3) (ax 0 rfl rfl<|ax 1 rfl rfl<|ay))) hlen) (ax 2 rfl rfl<|aM (mW (ax 1 rfl rfl<|ax 0 rfl rfl<|ay))<|ay) rfl)<|rS (NT rfl) ?_
 refine rS (AG rfl)<|RK hK4<|aE ?_
 exact Q1 hQ rfl rfl rfl rfl
set_option maxRecDepth 100000 in
set_option maxHeartbeats 400000 in
theorem rI (s:ae) (lo:Int) (hi:Int):
 eH Tryz.prog 105 [(Value.agg (ae.cells s).toArray),(Value.int .i64 lo),(Value.int .i64 hi)] [] (Value.bool (decide (s.Lo≤s.Hi∧lo≤s.Lo∧s.Hi≤hi))):=by
 refine bL GA Tryz.func105 rfl rfl fun w0 Q hQ hN=>?_
 try dsimp only
 refine WS fun _ hK1=>fy rfl fun b2=>rS (AG rfl)<|RK hK1<|WS fun _ hK3=>rS (MV rfl)<|rS (MV rfl)<|rS (FA 0 rfl bU rfl)<|rS (L1 (Value.int .i64 s.Lo) 0 rfl bu rfl rfl)<|rS (FA 1 rfl cd rfl) ?_
 refine rS (L1 (Value.int .i64 s.Hi) 0 rfl bu rfl rfl)<|fp (xs:=[.tmp 10,.tmp 12]) (cs:=[(Value.int .i64 s.Lo),(Value.int .i64 s.Hi)]) rfl dY lK rfl rfl rfl rfl (by simp [Value.cells]) rfl rfl fun b4=>rS (CL (eH.eq (mw lo hi ([s.Lo,s.Hi]) (some ⟨b4,0,none⟩) 2 (by first|assumption|omega|(simp; done)|(simp; omega))) ui) (aM (bf 0 rfl rfl (by simp [bY]) rfl)<|ay) rfl)<|rS (MV rfl) ?_
 refine bH (t:=15) rfl (fun h5=>?_) (fun h5=>?_)
 rotate_left 1
 ·replace h5:=DF h5
  refine rS (OX rfl)<|rS (OX rfl)<|rS (OX rfl)<|rS (OX rfl)<|rS (OX rfl)<|rS (PK rfl)<|rS (AG rfl)<|RK hK3<|aE<|Q1 hQ rfl rfl rfl ?_
  exact congrArg Value.bool (decide_eq_false (by omega)).symm
 replace h5:=DT h5
 refine rS (FA 0 rfl bU rfl)<|rS (L1 (Value.int .i64 s.Lo) 1 rfl bu rfl rfl)<|rS (FA 1 rfl cd rfl)<|rS (L1 (Value.int .i64 s.Hi) 1 rfl bu rfl rfl)<|rS (BI rfl gl)<|rS (PK rfl)<|rS (AG rfl)<|RK hK3<|aE<|Q1 hQ rfl rfl rfl ?_
 exact congrArg Value.bool (decide_eq_decide.2 (by omega))
set_option maxRecDepth 100000 in
set_option maxHeartbeats 400000 in
theorem rK (ts:List ah) (tsA:Option Addr) (tsC:Nat) (hlen:ts.length≤1000000):
 eH Tryz.prog 71 [(Value.agg (au.cells (au.mk (av.mk tsA ts.length tsC))).toArray)] [(rd tsA ts.length 9 (ts.map ah.cells))] (Value.bool (cj ts)):=by
 refine bL IJ Tryz.func71 rfl rfl fun w0 Q hQ hN=>?_
 try dsimp only
 refine WS fun _ hK1=>fy rfl fun b2=>rS (AG rfl)<|RK hK1<|aq fun _ hK3=>WS fun _ hK4=>rS (FA 0 rfl gv rfl)<|rS (L1 (Value.slice tsA ts.length tsC) 0 rfl lD rfl rfl)<|rS (LN rfl qk)<|rS (CL (mu ((ts.length:Nat):Int) 1 12) (ay) rfl) ?_
 refine rS (NT rfl)<|RK hK4 ?_
 refine bj rfl (fun h5=>?_) (fun h5=>?_)
 ·replace h5:=XT h5
  refine WS fun _ hK6=>rS (AG rfl)<|RK hK6<|aE<|Q1 hQ rfl rfl rfl ?_
  first|exact congrArg Value.bool (cb (by omega)).symm|exact congrArg Value.bool (cz hl0_1 hx (by simp only [a_,cT]; omega)).symm|exact congrArg Value.bool (b_ hl0_1 (by omega) (by omega)).symm
 replace h5:=XF h5
 refine WK hK3<|aq fun _ hK7=>WS fun _ hK8=>rS (AG rfl)<|RK hK8<|aG ?_
 have hinit:(0≤ts.length)∧(dG (-1) ts=dG (ew ts 0) (ts.drop 0))∧(-1≤ew ts 0):=by (refine ⟨by omega,rfl,by simp [ew]⟩)
 refine cq (ι:={z:Nat // (z≤ts.length)∧(dG (-1) ts=dG (ew ts z) (ts.drop z))∧(-1≤ew ts z)}) (fun z=>[(1,(Value.pointer (some ⟨b2,0,none⟩))),(3,(Value.int .i64 (z.1:Int)))]) (fun z=>[(aT b2 24 (au.cells (au.mk (av.mk tsA ts.length tsC)))),(rd tsA ts.length 9 (ts.map ah.cells)).ro]) (fun z=>ts.length-z.1) ⟨0,hinit⟩ (an.cons rfl<|an.cons rfl<|an.nil _) (fun w hs=>St.br [0,1] rfl rfl hs) ?_
 clear hinit
 rintro ⟨i,⟨hl0_0,hl0_1,hl0_2⟩⟩ J9 hJ9
 try dsimp only
 have hz:i=0→ew ts i= -1:=vY
 refine aq fun _ hK10=>WS fun _ hK11=>rS (MV rfl)<|rS (FA 0 rfl gv rfl)<|rS (L1 (Value.slice tsA ts.length tsC) 0 rfl lD rfl rfl)<|rS (LN rfl qk)<|rS (BI rfl cv)<|RK hK11 ?_
 refine bj rfl (fun h12=>?_) (fun h12=>?_)
 rotate_left 1
 ·replace h12:=DF h12
  refine bE<|ai<|ai<|aH<|KK hK7<|WS fun _ hK77=>rS (AG rfl)<|RK hK77<|aE<|Q1 hQ rfl rfl rfl ?_
  first|exact congrArg Value.bool (cb (by omega)).symm|exact congrArg Value.bool (cz hl0_1 hx (by simp only [a_,cT]; omega)).symm|exact congrArg Value.bool (b_ hl0_1 (by omega) (by omega)).symm
 replace h12:=DT h12
 refine WK hK10<|aq fun _ hK13=>aG<|WS fun _ hK14=>rS (FA 0 rfl gv rfl)<|rS (L1 (Value.slice tsA ts.length tsC) 0 rfl lD rfl rfl)<|rS (MV rfl) ?_
 obtain ⟨x,hx⟩: ∃ y_,ts[i]? =some y_:=⟨ts[i]'(by omega),List.getElem?_eq_getElem _⟩
 have hxm:(ts.map ah.cells)[i]? =some (ah.cells x):=by rw [List.getElem?_map,hx]; rfl
 refine rS (IA i rfl (aI 1 rfl) rR (by decide) (by omega) (by omega))<|rS (lF i 0 (ah.cells x) rfl uc (aI 1 rfl) hxm rfl (by decide) rfl rfl)<|AL rfl AY fun b15=>fO rfl AE rfl<|RK hK14<|aq fun _ hK16=>aq fun _ hK17=>dm cG 38 (by kernel_rfl)<|dS (FA 0 rfl ox rfl)<|dS (L1 (Value.int .i64 x.Id) 0 rfl bu rfl rfl) ?_
 refine dS (CL (mu x.Id 0 9999) (ay) rfl)<|dS (NT rfl)<|dS (MV rfl) ?_
 refine e9 (t:=26) rfl (fun h18=>?_) (fun h18=>?_)
 ·replace h18:=XT h18
  refine dS (OX rfl)<|dS (OX rfl)<|dS (OX rfl)<|dS (OX rfl)<|dS (OX rfl)<|dS (OX rfl)<|dS (OX rfl)<|dS (OX rfl)<|dS (OX rfl)<|dS (OX rfl) ?_
  refine dS (OX rfl)<|dS (OX rfl)<|dS (OX rfl)<|dS (OX rfl)<|dS (PK rfl)<|dS (MV rfl)<|dS (OX rfl)<|dS (OX rfl)<|dS (OX rfl)<|dS (OX rfl) ?_
  refine dS (PK rfl)<|dS (MV rfl)<|dS (OX rfl)<|dS (OX rfl)<|dS (OX rfl)<|dS (OX rfl)<|dS (PK rfl)<|dS (MV rfl)<|dS (OX rfl)<|dS (OX rfl) ?_
  refine dS (OX rfl)<|dS (OX rfl)<|dS (PK rfl)<|cP<|RK hK17<|aX rfl<|WS fun _ hK19=>rS (AG rfl)<|RK hK19<|aE ?_
  refine Q1 hQ rfl rfl rfl ?_
  first|exact congrArg Value.bool (cb (by omega)).symm|exact congrArg Value.bool (cz hl0_1 hx (by simp only [a_,cT]; omega)).symm|exact congrArg Value.bool (b_ hl0_1 (by omega) (by omega)).symm
 replace h18:=XF h18
 refine dS (MV rfl)<|dS (BI rfl fY)<|dS (MV rfl) ?_
 refine e9 (t:=29) rfl (fun h20=>?_) (fun h20=>?_)
 rotate_left 1
 ·replace h20:=DF h20
  refine dS (OX rfl)<|dS (OX rfl)<|dS (OX rfl)<|dS (OX rfl)<|dS (OX rfl)<|dS (OX rfl)<|dS (OX rfl)<|dS (OX rfl)<|dS (OX rfl)<|dS (OX rfl) ?_
  refine dS (PK rfl)<|dS (PK rfl)<|dS (MV rfl)<|dS (FA 1 rfl lO rfl)<|dS (LP (ae.cells x.g5) 0 rfl cp rfl rfl rfl)<|dS (CL (mC x.g5 1 30000) (ay) rfl)<|dS (NT rfl)<|dS (PK rfl)<|dS (MV rfl) ?_
  refine e9 (t:=48) rfl (fun h50=>?_) (fun h50=>?_)
  ·replace h50:=XT h50
   refine dS (OX rfl)<|dS (OX rfl)<|dS (OX rfl)<|dS (OX rfl)<|dS (PK rfl)<|dS (MV rfl)<|dS (OX rfl)<|dS (OX rfl)<|dS (OX rfl)<|dS (OX rfl) ?_
   refine dS (PK rfl)<|cP<|RK hK17<|aX rfl<|WS fun _ hK51=>rS (AG rfl)<|RK hK51<|aE<|Q1 hQ rfl rfl rfl ?_
   first|exact congrArg Value.bool (cb (by omega)).symm|exact congrArg Value.bool (cz hl0_1 hx (by simp only [a_,cT]; omega)).symm|exact congrArg Value.bool (b_ hl0_1 (by omega) (by omega)).symm
  replace h50:=XF h50
  refine dS (FA 3 rfl ob rfl)<|dS (LP (ae.cells x.iA) 0 rfl cp rfl rfl rfl)<|dS (CL (mC x.iA 0 5000) (ay) rfl)<|dS (NT rfl)<|dS (PK rfl)<|dS (MV rfl) ?_
  refine e9 (t:=54) rfl (fun h52=>?_) (fun h52=>?_)
  ·replace h52:=XT h52
   refine dS (OX rfl)<|dS (OX rfl)<|dS (OX rfl)<|dS (OX rfl)<|dS (PK rfl)<|cP<|RK hK17<|aX rfl<|WS fun _ hK53=>rS (AG rfl) ?_
   refine RK hK53<|aE<|Q1 hQ rfl rfl rfl ?_
   first|exact congrArg Value.bool (cb (by omega)).symm|exact congrArg Value.bool (cz hl0_1 hx (by simp only [a_,cT]; omega)).symm|exact congrArg Value.bool (b_ hl0_1 (by omega) (by omega)).symm
  replace h52:=XF h52
  refine dS (FA 8 rfl uD rfl)<|dS (L1 (Value.int .i64 x.pX) 0 rfl bu rfl rfl)<|dS (CL (mu x.pX 0 5000) (ay) rfl)<|dS (NT rfl)<|dS (PK rfl)<|cP<|RK hK17 ?_
  refine bj rfl (fun h54=>?_) (fun h54=>?_)
  ·replace h54:=XT h54
   refine WS fun _ hK55=>rS (AG rfl)<|RK hK55<|aE<|Q1 hQ rfl rfl rfl ?_
   first|exact congrArg Value.bool (cb (by omega)).symm|exact congrArg Value.bool (cz hl0_1 hx (by simp only [a_,cT]; omega)).symm|exact congrArg Value.bool (b_ hl0_1 (by omega) (by omega)).symm
  replace h54:=XF h54
  refine WK hK16<|WS fun _ hK56=>rS (FA 7 rfl rL rfl)<|rS (L1 (Value.int .u8 x.gi) 0 rfl Fa rfl rfl)<|RK hK56<|aG<|WS fun _ hK57=>rS (BI rfl g0)<|rS (AG rfl)<|RK hK57 ?_
  refine bj rfl (fun h58=>?_) (fun h58=>?_)
  ·replace h58:=DT h58
   refine WS fun _ hK59=>rS (FA 5 rfl kh rfl)<|rS (FA 5 rfl bU rfl)<|rS (L1 (Value.int .i64 x.cQ.Lo) 0 rfl bu rfl rfl)<|rS (BI rfl dB)<|rS (MV rfl) ?_
   refine bH (t:=68) rfl (fun h60=>?_) (fun h60=>?_)
   ·replace h60:=XT h60
    refine rS (OX rfl)<|rS (OX rfl)<|rS (OX rfl)<|rS (OX rfl)<|rS (PK rfl)<|RK hK59<|aX rfl<|WS fun _ hK61=>rS (AG rfl)<|RK hK61 ?_
    refine aE<|Q1 hQ rfl rfl rfl ?_
    first|exact congrArg Value.bool (cb (by omega)).symm|exact congrArg Value.bool (cz hl0_1 hx (by simp only [a_,cT]; omega)).symm|exact congrArg Value.bool (b_ hl0_1 (by omega) (by omega)).symm
   replace h60:=XF h60
   refine rS (FA 5 rfl kh rfl)<|rS (FA 6 rfl cd rfl)<|rS (L1 (Value.int .i64 x.cQ.Hi) 0 rfl bu rfl rfl)<|rS (BI rfl dB)<|rS (PK rfl)<|RK hK59 ?_
   refine bj rfl (fun h62=>?_) (fun h62=>?_)
   ·replace h62:=XT h62
    refine WS fun _ hK63=>rS (AG rfl)<|RK hK63<|aE<|Q1 hQ rfl rfl rfl ?_
    first|exact congrArg Value.bool (cb (by omega)).symm|exact congrArg Value.bool (cz hl0_1 hx (by simp only [a_,cT]; omega)).symm|exact congrArg Value.bool (b_ hl0_1 (by omega) (by omega)).symm
   replace h62:=XF h62
   refine cM<|aK<|aK<|KK hK13<|ar<|rS (MV rfl)<|rS (BI rfl (aZ ⟨by omega,by omega⟩))<|rS (AG rfl)<|aP ?_
   refine aO (hJ9 ⟨(i+1),⟨by omega,e_ hl0_1 hx (by simp only [a_,cT]; omega),by rw [eD hx]; omega⟩⟩ _ _ _ rfl (by first|omega|(simp; omega)) (an.cons rfl<|an.cons rfl<|an.nil _) (fun w hs=>St.br [1,2] rfl rfl hs))
  replace h58:=DF h58
  refine aq fun _ hK64=>WS fun _ hK65=>rS (BI rfl g0)<|rS (AG rfl)<|RK hK65 ?_
  refine bj rfl (fun h66=>?_) (fun h66=>?_)
  ·replace h66:=DT h66
   refine WK hK64 ?_
   refine bj rfl (fun h67=>?_) (fun h67=>?_)
   rotate_left 1
   ·replace h67:=DF h67
    refine WS fun _ hK71=>rS (AG rfl)<|RK hK71<|aE<|Q1 hQ rfl rfl rfl ?_
    first|exact congrArg Value.bool (cb (by omega)).symm|exact congrArg Value.bool (cz hl0_1 hx (by simp only [a_,cT]; omega)).symm|exact congrArg Value.bool (b_ hl0_1 (by omega) (by omega)).symm
   replace h67:=DT h67
   refine WS fun _ hK68=>rS (FA 5 rfl kh rfl)<|rS (LP (ae.cells x.cQ) 0 rfl cp rfl rfl rfl)<|rS (CL (mC x.cQ 500 20000) (ay) rfl)<|rS (NT rfl)<|RK hK68 ?_
   refine bj rfl (fun h69=>?_) (fun h69=>?_)
   ·replace h69:=XT h69
    refine WS fun _ hK70=>rS (AG rfl)<|RK hK70<|aE<|Q1 hQ rfl rfl rfl ?_
    first|exact congrArg Value.bool (cb (by omega)).symm|exact congrArg Value.bool (cz hl0_1 hx (by simp only [a_,cT]; omega)).symm|exact congrArg Value.bool (b_ hl0_1 (by omega) (by omega)).symm
   replace h69:=XF h69
   refine cM<|aK<|aK<|KK hK13<|ar<|rS (MV rfl)<|rS (BI rfl (aZ ⟨by omega,by omega⟩))<|rS (AG rfl)<|aP ?_
   refine aO (hJ9 ⟨(i+1),⟨by omega,e_ hl0_1 hx (by simp only [a_,cT]; omega),by rw [eD hx]; omega⟩⟩ _ _ _ rfl (by first|omega|(simp; omega)) (an.cons rfl<|an.cons rfl<|an.nil _) (fun w hs=>St.br [1,2] rfl rfl hs))
  replace h66:=DF h66
  refine ar<|rS (BI rfl g0)<|rS (AG rfl)<|RK hK64 ?_
  refine bj rfl (fun h72=>?_) (fun h72=>?_)
  rotate_left 1
  ·replace h72:=DF h72
   refine WS fun _ hK76=>rS (AG rfl)<|RK hK76<|aE<|Q1 hQ rfl rfl rfl ?_
   first|exact congrArg Value.bool (cb (by omega)).symm|exact congrArg Value.bool (cz hl0_1 hx (by simp only [a_,cT]; omega)).symm|exact congrArg Value.bool (b_ hl0_1 (by omega) (by omega)).symm
  replace h72:=DT h72
  refine WS fun _ hK73=>rS (FA 5 rfl kh rfl)<|rS (LP (ae.cells x.cQ) 0 rfl cp rfl rfl rfl)<|rS (CL (mC x.cQ 500 20000) (ay) rfl)<|rS (NT rfl)<|RK hK73 ?_
  refine bj rfl (fun h74=>?_) (fun h74=>?_)
  ·replace h74:=XT h74
   refine WS fun _ hK75=>rS (AG rfl)<|RK hK75<|aE<|Q1 hQ rfl rfl rfl ?_
   first|exact congrArg Value.bool (cb (by omega)).symm|exact congrArg Value.bool (cz hl0_1 hx (by simp only [a_,cT]; omega)).symm|exact congrArg Value.bool (b_ hl0_1 (by omega) (by omega)).symm
  replace h74:=XF h74
  refine cM<|aK<|aK<|KK hK13<|ar<|rS (MV rfl)<|rS (BI rfl (aZ ⟨by omega,by omega⟩))<|rS (AG rfl)<|aP ?_
  refine aO (hJ9 ⟨(i+1),⟨by omega,e_ hl0_1 hx (by simp only [a_,cT]; omega),by rw [eD hx]; omega⟩⟩ _ _ _ rfl (by first|omega|(simp; omega)) (an.cons rfl<|an.cons rfl<|an.nil _) (fun w hs=>St.br [1,2] rfl rfl hs))
 replace h20:=DT h20
 refine dS (FA 0 rfl ox rfl)<|dS (L1 (Value.int .i64 x.Id) 0 rfl bu rfl rfl)<|dS (FA 0 rfl gv rfl)<|dS (L1 (Value.slice tsA ts.length tsC) 1 rfl lD rfl rfl)<|dS (MV rfl)<|dS (BI rfl (da ⟨by omega,by omega⟩)) ?_
 obtain ⟨y,hy⟩: ∃ y_,ts[(i-1)]? =some y_:=⟨ts[(i-1)]'(by omega),List.getElem?_eq_getElem _⟩
 have hym:(ts.map ah.cells)[(i-1)]? =some (ah.cells y):=by rw [List.getElem?_map,hy]; rfl
 refine dS (IA (i-1) rfl (aI 2 rfl) rR (by decide) (by omega) (by omega))<|dS (ou ((i-1)*9) rfl (aI 2 rfl) (Nat.mul_pos (by omega) (by decide)) ox rfl) ?_
 have hyl:=xG (by omega) hy
 refine dS (iX (i-1) 0 (Value.int .i64 y.Id) rfl bu (aI 2 rfl) hym rfl (by decide) rfl)<|dS (BI rfl gl)<|dS (PK rfl)<|dS (PK rfl)<|dS (MV rfl) ?_
 refine e9 (t:=42) rfl (fun h21=>?_) (fun h21=>?_)
 ·replace h21:=DT h21
  refine dS (OX rfl)<|dS (OX rfl)<|dS (OX rfl)<|dS (OX rfl)<|dS (PK rfl)<|dS (MV rfl)<|dS (OX rfl)<|dS (OX rfl)<|dS (OX rfl)<|dS (OX rfl) ?_
  refine dS (PK rfl)<|dS (MV rfl)<|dS (OX rfl)<|dS (OX rfl)<|dS (OX rfl)<|dS (OX rfl)<|dS (PK rfl)<|cP<|RK hK17<|aX rfl ?_
  refine WS fun _ hK22=>rS (AG rfl)<|RK hK22<|aE<|Q1 hQ rfl rfl rfl ?_
  first|exact congrArg Value.bool (cb (by omega)).symm|exact congrArg Value.bool (cz hl0_1 hx (by simp only [a_,cT]; omega)).symm|exact congrArg Value.bool (b_ hl0_1 (by omega) (by omega)).symm
 replace h21:=DF h21
 refine dS (FA 1 rfl lO rfl)<|dS (LP (ae.cells x.g5) 0 rfl cp rfl rfl rfl)<|dS (CL (mC x.g5 1 30000) (ay) rfl)<|dS (NT rfl)<|dS (PK rfl)<|dS (MV rfl) ?_
 refine e9 (t:=48) rfl (fun h23=>?_) (fun h23=>?_)
 ·replace h23:=XT h23
  refine dS (OX rfl)<|dS (OX rfl)<|dS (OX rfl)<|dS (OX rfl)<|dS (PK rfl)<|dS (MV rfl)<|dS (OX rfl)<|dS (OX rfl)<|dS (OX rfl)<|dS (OX rfl) ?_
  refine dS (PK rfl)<|cP<|RK hK17<|aX rfl<|WS fun _ hK24=>rS (AG rfl)<|RK hK24<|aE<|Q1 hQ rfl rfl rfl ?_
  first|exact congrArg Value.bool (cb (by omega)).symm|exact congrArg Value.bool (cz hl0_1 hx (by simp only [a_,cT]; omega)).symm|exact congrArg Value.bool (b_ hl0_1 (by omega) (by omega)).symm
 replace h23:=XF h23
 refine dS (FA 3 rfl ob rfl)<|dS (LP (ae.cells x.iA) 0 rfl cp rfl rfl rfl)<|dS (CL (mC x.iA 0 5000) (ay) rfl)<|dS (NT rfl)<|dS (PK rfl)<|dS (MV rfl) ?_
 refine e9 (t:=54) rfl (fun h25=>?_) (fun h25=>?_)
 ·replace h25:=XT h25
  refine dS (OX rfl)<|dS (OX rfl)<|dS (OX rfl)<|dS (OX rfl)<|dS (PK rfl)<|cP<|RK hK17<|aX rfl<|WS fun _ hK26=>rS (AG rfl) ?_
  refine RK hK26<|aE<|Q1 hQ rfl rfl rfl ?_
  first|exact congrArg Value.bool (cb (by omega)).symm|exact congrArg Value.bool (cz hl0_1 hx (by simp only [a_,cT]; omega)).symm|exact congrArg Value.bool (b_ hl0_1 (by omega) (by omega)).symm
 replace h25:=XF h25
 refine dS (FA 8 rfl uD rfl)<|dS (L1 (Value.int .i64 x.pX) 0 rfl bu rfl rfl)<|dS (CL (mu x.pX 0 5000) (ay) rfl)<|dS (NT rfl)<|dS (PK rfl)<|cP<|RK hK17 ?_
 refine bj rfl (fun h27=>?_) (fun h27=>?_)
 ·replace h27:=XT h27
  refine WS fun _ hK28=>rS (AG rfl)<|RK hK28<|aE<|Q1 hQ rfl rfl rfl ?_
  first|exact congrArg Value.bool (cb (by omega)).symm|exact congrArg Value.bool (cz hl0_1 hx (by simp only [a_,cT]; omega)).symm|exact congrArg Value.bool (b_ hl0_1 (by omega) (by omega)).symm
 replace h27:=XF h27
 refine WK hK16<|WS fun _ hK29=>rS (FA 7 rfl rL rfl)<|rS (L1 (Value.int .u8 x.gi) 0 rfl Fa rfl rfl)<|RK hK29<|aG<|WS fun _ hK30=>rS (BI rfl g0)<|rS (AG rfl)<|RK hK30 ?_
 refine bj rfl (fun h31=>?_) (fun h31=>?_)
 ·replace h31:=DT h31
  refine WS fun _ hK32=>rS (FA 5 rfl kh rfl)<|rS (FA 5 rfl bU rfl)<|rS (L1 (Value.int .i64 x.cQ.Lo) 0 rfl bu rfl rfl)<|rS (BI rfl dB)<|rS (MV rfl) ?_
  refine bH (t:=68) rfl (fun h33=>?_) (fun h33=>?_)
  ·replace h33:=XT h33
   refine rS (OX rfl)<|rS (OX rfl)<|rS (OX rfl)<|rS (OX rfl)<|rS (PK rfl)<|RK hK32<|aX rfl<|WS fun _ hK34=>rS (AG rfl)<|RK hK34 ?_
   refine aE<|Q1 hQ rfl rfl rfl ?_
   first|exact congrArg Value.bool (cb (by omega)).symm|exact congrArg Value.bool (cz hl0_1 hx (by simp only [a_,cT]; omega)).symm|exact congrArg Value.bool (b_ hl0_1 (by omega) (by omega)).symm
  replace h33:=XF h33
  refine rS (FA 5 rfl kh rfl)<|rS (FA 6 rfl cd rfl)<|rS (L1 (Value.int .i64 x.cQ.Hi) 0 rfl bu rfl rfl)<|rS (BI rfl dB)<|rS (PK rfl)<|RK hK32 ?_
  refine bj rfl (fun h35=>?_) (fun h35=>?_)
  ·replace h35:=XT h35
   refine WS fun _ hK36=>rS (AG rfl)<|RK hK36<|aE<|Q1 hQ rfl rfl rfl ?_
   first|exact congrArg Value.bool (cb (by omega)).symm|exact congrArg Value.bool (cz hl0_1 hx (by simp only [a_,cT]; omega)).symm|exact congrArg Value.bool (b_ hl0_1 (by omega) (by omega)).symm
  replace h35:=XF h35
  refine cM<|aK<|aK<|KK hK13<|ar<|rS (MV rfl)<|rS (BI rfl (aZ ⟨by omega,by omega⟩))<|rS (AG rfl)<|aP ?_
  refine aO (hJ9 ⟨(i+1),⟨by omega,e_ hl0_1 hx (by simp only [a_,cT]; omega),by rw [eD hx]; omega⟩⟩ _ _ _ rfl (by first|omega|(simp; omega)) (an.cons rfl<|an.cons rfl<|an.nil _) (fun w hs=>St.br [1,2] rfl rfl hs))
 replace h31:=DF h31
 refine aq fun _ hK37=>WS fun _ hK38=>rS (BI rfl g0)<|rS (AG rfl)<|RK hK38 ?_
 refine bj rfl (fun h39=>?_) (fun h39=>?_)
 ·replace h39:=DT h39
  refine WK hK37 ?_
  refine bj rfl (fun h40=>?_) (fun h40=>?_)
  rotate_left 1
  ·replace h40:=DF h40
   refine WS fun _ hK44=>rS (AG rfl)<|RK hK44<|aE<|Q1 hQ rfl rfl rfl ?_
   first|exact congrArg Value.bool (cb (by omega)).symm|exact congrArg Value.bool (cz hl0_1 hx (by simp only [a_,cT]; omega)).symm|exact congrArg Value.bool (b_ hl0_1 (by omega) (by omega)).symm
  replace h40:=DT h40
  refine WS fun _ hK41=>rS (FA 5 rfl kh rfl)<|rS (LP (ae.cells x.cQ) 0 rfl cp rfl rfl rfl)<|rS (CL (mC x.cQ 500 20000) (ay) rfl)<|rS (NT rfl)<|RK hK41 ?_
  refine bj rfl (fun h42=>?_) (fun h42=>?_)
  ·replace h42:=XT h42
   refine WS fun _ hK43=>rS (AG rfl)<|RK hK43<|aE<|Q1 hQ rfl rfl rfl ?_
   first|exact congrArg Value.bool (cb (by omega)).symm|exact congrArg Value.bool (cz hl0_1 hx (by simp only [a_,cT]; omega)).symm|exact congrArg Value.bool (b_ hl0_1 (by omega) (by omega)).symm
  replace h42:=XF h42
  refine cM<|aK<|aK<|KK hK13<|ar<|rS (MV rfl)<|rS (BI rfl (aZ ⟨by omega,by omega⟩))<|rS (AG rfl)<|aP ?_
  refine aO (hJ9 ⟨(i+1),⟨by omega,e_ hl0_1 hx (by simp only [a_,cT]; omega),by rw [eD hx]; omega⟩⟩ _ _ _ rfl (by first|omega|(simp; omega)) (an.cons rfl<|an.cons rfl<|an.nil _) (fun w hs=>St.br [1,2] rfl rfl hs))
 replace h39:=DF h39
 refine ar<|rS (BI rfl g0)<|rS (AG rfl)<|RK hK37 ?_
 refine bj rfl (fun h45=>?_) (fun h45=>?_)
 rotate_left 1
 ·replace h45:=DF h45
  refine WS fun _ hK49=>rS (AG rfl)<|RK hK49<|aE<|Q1 hQ rfl rfl rfl ?_
  first|exact congrArg Value.bool (cb (by omega)).symm|exact congrArg Value.bool (cz hl0_1 hx (by simp only [a_,cT]; omega)).symm|exact congrArg Value.bool (b_ hl0_1 (by omega) (by omega)).symm
 replace h45:=DT h45
 refine WS fun _ hK46=>rS (FA 5 rfl kh rfl)<|rS (LP (ae.cells x.cQ) 0 rfl cp rfl rfl rfl)<|rS (CL (mC x.cQ 500 20000) (ay) rfl)<|rS (NT rfl)<|RK hK46 ?_
 refine bj rfl (fun h47=>?_) (fun h47=>?_)
 ·replace h47:=XT h47
  refine WS fun _ hK48=>rS (AG rfl)<|RK hK48<|aE<|Q1 hQ rfl rfl rfl ?_
  first|exact congrArg Value.bool (cb (by omega)).symm|exact congrArg Value.bool (cz hl0_1 hx (by simp only [a_,cT]; omega)).symm|exact congrArg Value.bool (b_ hl0_1 (by omega) (by omega)).symm
 replace h47:=XF h47
 refine cM<|aK<|aK<|KK hK13<|ar<|rS (MV rfl)<|rS (BI rfl (aZ ⟨by omega,by omega⟩))<|rS (AG rfl)<|aP ?_
 refine aO (hJ9 ⟨(i+1),⟨by omega,e_ hl0_1 hx (by simp only [a_,cT]; omega),by rw [eD hx]; omega⟩⟩ _ _ _ rfl (by first|omega|(simp; omega)) (an.cons rfl<|an.cons rfl<|an.nil _) (fun w hs=>St.br [1,2] rfl rfl hs))
set_option maxRecDepth 100000 in
set_option maxHeartbeats 400000 in
theorem wu (ts:List ah) (tsA:Option Addr) (tsC:Nat) (hlen:ts.length≤1000000) (hside: ∀ x∈ts,0≤x.gi∧x.gi≤255):
 eH Tryz.prog 76 [(Value.agg (au.cells (au.mk (av.mk tsA ts.length tsC))).toArray)] [(rd tsA ts.length 9 (ts.map ah.cells))] (Value.int .i64 (if cj ts=true then 0 else 10)):=by
 refine bL Ig Tryz.func76 rfl rfl fun w0 Q hQ hN=>?_
 try dsimp only
 refine WS fun _ hK1=>fy rfl fun b2=>rS (AG rfl)<|RK hK1<|yj rfl<|aq fun _ hK3=>WS fun _ hK4=>rS (FA 0 rfl gv rfl)<|rS (L1 (Value.slice tsA ts.length tsC) 0 rfl lD rfl rfl)<|rS (LN rfl qk) ?_
 refine fp (xs:=[.tmp 11]) (cs:=[(Value.int .i64 ((ts.length:Nat):Int))]) rfl dY lK rfl rfl rfl rfl (by simp [Value.cells]) rfl rfl fun b5=>rS (CL (eH.eq (mw 1 12 ([((ts.length:Nat):Int)]) (some ⟨b5,0,none⟩) 1 (by first|assumption|omega|(simp; done)|(simp; omega))) dq) (aM (bf 0 rfl rfl (by simp [bY]) rfl)<|ay) rfl)<|rS (NT rfl)<|RK hK4 ?_
 refine bj rfl (fun h6=>?_) (fun h6=>?_)
 ·replace h6:=XT h6
  refine WS fun _ hK7=>rS (AG rfl)<|RK hK7<|aE<|Q1 hQ rfl rfl rfl ?_
  first|exact congrArg (Value.int .i64) (if_neg (by rw [cb (by omega)]; decide)).symm|exact congrArg (Value.int .i64) (if_neg (by rw [cz hl0_1 hx (by simp only [a_,cT]; omega)]; decide)).symm|exact congrArg (Value.int .i64) (if_pos (b_ hl0_1 (by omega) (by omega))).symm
 replace h6:=XF h6
 refine WK hK3<|WS fun _ hK8=>rS (AG rfl)<|RK hK8<|WS fun _ hK9=>rS (AG rfl)<|RK hK9<|aq fun _ hK10=>x7<|KK hK10 ?_
 refine aq fun _ hK11=>WS fun _ hK12=>rS (FA 0 rfl gv rfl)<|rS (L1 (Value.slice tsA ts.length tsC) 1 rfl lD rfl rfl)<|rS (LN rfl qk)<|rS (MV rfl)<|RK hK12<|aG ?_
 have hinit:(0≤ts.length)∧(dG (-1) ts=dG (ew ts 0) (ts.drop 0))∧(-1≤ew ts 0)∧(ew ts 0≤9999):=by (refine ⟨by omega,rfl,by simp [ew],by simp [ew]⟩)
 refine cq (ι:={z:Nat // (z≤ts.length)∧(dG (-1) ts=dG (ew ts z) (ts.drop z))∧(-1≤ew ts z)∧(ew ts z≤9999)}) (fun z=>[(1,(Value.pointer (some ⟨b2,0,none⟩))),(3,(Value.int .i64 (ew ts z.1))),(4,(Value.int .i64 0)),(16,(Value.slice tsA ts.length tsC)),(17,(Value.int .i64 ((ts.length:Nat):Int))),(18,(Value.int .i64 (z.1:Int)))]) (fun z=>[(aT b2 24 (au.cells (au.mk (av.mk tsA ts.length tsC)))),(rd tsA ts.length 9 (ts.map ah.cells)).ro]) (fun z=>ts.length-z.1) ⟨0,hinit⟩ (an.cons rfl<|an.cons rfl<|an.cons rfl<|an.cons rfl<|an.cons rfl<|an.cons rfl<|an.nil _) (fun w hs=>St.br [1,2] rfl rfl hs) ?_
 clear hinit
 rintro ⟨i,⟨hl0_0,hl0_1,hl0_2,hl0_3⟩⟩ J13 hJ13
 try dsimp only
 refine WS fun _ hK14=>rS (BI rfl cv)<|RK hK14<|aq fun _ hK15=>?_
 refine bj rfl (fun h16=>?_) (fun h16=>?_)
 rotate_left 1
 ·replace h16:=DF h16
  refine bE<|ai<|ai<|aH<|KK hK11<|WS fun _ hK24=>rS (MV rfl)<|rS (AG rfl)<|RK hK24<|aE ?_
  refine Q1 hQ rfl rfl rfl ?_
  first|exact congrArg (Value.int .i64) (if_neg (by rw [cb (by omega)]; decide)).symm|exact congrArg (Value.int .i64) (if_neg (by rw [cz hl0_1 hx (by simp only [a_,cT]; omega)]; decide)).symm|exact congrArg (Value.int .i64) (if_pos (b_ hl0_1 (by omega) (by omega))).symm
 replace h16:=DT h16
 refine WK hK15<|aq fun _ hK17=>aG<|WS fun _ hK18=>?_
 obtain ⟨x,hx⟩: ∃ y_,ts[i]? =some y_:=⟨ts[i]'(by omega),List.getElem?_eq_getElem _⟩
 have hxm:(ts.map ah.cells)[i]? =some (ah.cells x):=by rw [List.getElem?_map,hx]; rfl
 refine rS (IA i rfl (aI 1 rfl) rR (by decide) (by omega) (by omega)) ?_
 have hsd:=hside x (List.mem_of_getElem? hx)
 refine rS (lF i 0 (ah.cells x) rfl uc (aI 1 rfl) hxm rfl (by decide) rfl rfl)<|AL rfl AY fun b19=>fO rfl AE rfl<|RK hK18 ?_
 refine mT (ι:=Unit) (fun z=>[(1,(Value.pointer (some ⟨b2,0,none⟩))),(3,(Value.int .i64 (ew ts i))),(4,(Value.int .i64 0)),(6,(Value.pointer (some ⟨b19,0,none⟩))),(7,(Value.bool (decide (x.gi=0∧x.cQ.Lo=0∧x.cQ.Hi=0)))),(16,(Value.slice tsA ts.length tsC)),(17,(Value.int .i64 ((ts.length:Nat):Int))),(18,(Value.int .i64 (i:Int)))]) (fun z=>[(aT b19 141 (ah.cells x)),(aT b2 24 (au.cells (au.mk (av.mk tsA ts.length tsC)))),(rd tsA ts.length 9 (ts.map ah.cells)).ro]) ?_ fun K20 hK20=>?_
 ·intro _
  try dsimp only
  refine mT (ι:=Unit) (fun z=>[(1,(Value.pointer (some ⟨b2,0,none⟩))),(3,(Value.int .i64 (ew ts i))),(4,(Value.int .i64 0)),(6,(Value.pointer (some ⟨b19,0,none⟩))),(7,(Value.bool (decide (x.gi=0∧x.cQ.Lo=0∧x.cQ.Hi=0)))),(8,(Value.bool (decide ((1≤x.gi∧x.gi≤2)∧x.cQ.Lo≤x.cQ.Hi∧500≤x.cQ.Lo∧x.cQ.Hi≤20000)))),(16,(Value.slice tsA ts.length tsC)),(17,(Value.int .i64 ((ts.length:Nat):Int))),(18,(Value.int .i64 (i:Int)))]) (fun z=>[(aT b19 141 (ah.cells x)),(aT b2 24 (au.cells (au.mk (av.mk tsA ts.length tsC)))),(rd tsA ts.length 9 (ts.map ah.cells)).ro]) ?_ fun K21 hK21=>?_
  ·intro _
   try dsimp only
   refine aq fun _ hK22=>WS fun _ hK23=>rS (MV rfl)<|rS (BI rfl (aZ ⟨by omega,by omega⟩))<|rS (FA 0 rfl ox rfl)<|rS (L1 (Value.int .i64 x.Id) 0 rfl bu rfl rfl)<|fp (xs:=[.tmp 44]) (cs:=[(Value.int .i64 x.Id)]) rfl dY lK rfl rfl rfl rfl (by simp [Value.cells]) rfl rfl fun b24=>rS (CL (eH.eq (mw ((ew ts i)+1) 9999 ([x.Id]) (some ⟨b24,0,none⟩) 1 (by first|assumption|omega|(simp; done)|(simp; omega))) dq) (aM (bf 0 rfl rfl (by simp [bY]) rfl)<|ay) rfl)<|rS (NT rfl)<|rS (MV rfl) ?_
   refine bH (t:=48) rfl (fun h25=>?_) (fun h25=>?_)
   ·replace h25:=XT h25
    refine rS (OX rfl)<|rS (OX rfl)<|rS (OX rfl)<|rS (OX rfl)<|rS (PK rfl)<|rS (MV rfl)<|rS (OX rfl)<|rS (OX rfl)<|rS (OX rfl)<|rS (OX rfl) ?_
    refine rS (PK rfl)<|rS (MV rfl)<|rS (OX rfl)<|rS (OX rfl)<|rS (OX rfl)<|rS (OX rfl)<|rS (OX rfl)<|rS (PK rfl)<|rS (MV rfl)<|rS (OX rfl) ?_
    refine rS (OX rfl)<|rS (OX rfl)<|rS (OX rfl)<|rS (OX rfl)<|rS (OX rfl)<|rS (PK rfl)<|RK hK23<|aX rfl<|WS fun _ hK26=>rS (AG rfl) ?_
    refine RK hK26<|bE<|ai<|gG rfl<|ai<|ai<|aH<|KK hK11<|WS fun _ hK27=>rS (MV rfl) ?_
    refine rS (AG rfl)<|RK hK27<|aE<|Q1 hQ rfl rfl rfl ?_
    first|exact congrArg (Value.int .i64) (if_neg (by rw [cb (by omega)]; decide)).symm|exact congrArg (Value.int .i64) (if_neg (by rw [cz hl0_1 hx (by simp only [a_,cT]; omega)]; decide)).symm|exact congrArg (Value.int .i64) (if_pos (b_ hl0_1 (by omega) (by omega))).symm
   replace h25:=XF h25
   refine rS (FA 1 rfl lO rfl)<|rS (LP (ae.cells x.g5) 1 rfl cp rfl rfl rfl)<|rS (CL (rI x.g5 1 30000) (ay) rfl)<|rS (NT rfl)<|rS (PK rfl)<|rS (MV rfl) ?_
   refine bH (t:=54) rfl (fun h28=>?_) (fun h28=>?_)
   ·replace h28:=XT h28
    refine rS (OX rfl)<|rS (OX rfl)<|rS (OX rfl)<|rS (OX rfl)<|rS (PK rfl)<|rS (MV rfl)<|rS (OX rfl)<|rS (OX rfl)<|rS (OX rfl)<|rS (OX rfl) ?_
    refine rS (OX rfl)<|rS (PK rfl)<|rS (MV rfl)<|rS (OX rfl)<|rS (OX rfl)<|rS (OX rfl)<|rS (OX rfl)<|rS (OX rfl)<|rS (OX rfl)<|rS (PK rfl) ?_
    refine RK hK23<|aX rfl<|WS fun _ hK29=>rS (AG rfl)<|RK hK29<|bE<|ai<|gG rfl<|ai<|ai ?_
    refine aH<|KK hK11<|WS fun _ hK30=>rS (MV rfl)<|rS (AG rfl)<|RK hK30<|aE<|Q1 hQ rfl rfl rfl ?_
    first|exact congrArg (Value.int .i64) (if_neg (by rw [cb (by omega)]; decide)).symm|exact congrArg (Value.int .i64) (if_neg (by rw [cz hl0_1 hx (by simp only [a_,cT]; omega)]; decide)).symm|exact congrArg (Value.int .i64) (if_pos (b_ hl0_1 (by omega) (by omega))).symm
   replace h28:=XF h28
   refine rS (FA 3 rfl ob rfl)<|rS (LP (ae.cells x.iA) 1 rfl cp rfl rfl rfl)<|rS (CL (rI x.iA 0 5000) (ay) rfl)<|rS (NT rfl)<|rS (PK rfl)<|rS (MV rfl) ?_
   refine bH (t:=60) rfl (fun h31=>?_) (fun h31=>?_)
   ·replace h31:=XT h31
    refine rS (OX rfl)<|rS (OX rfl)<|rS (OX rfl)<|rS (OX rfl)<|rS (OX rfl)<|rS (PK rfl)<|rS (MV rfl)<|rS (OX rfl)<|rS (OX rfl)<|rS (OX rfl) ?_
    refine rS (OX rfl)<|rS (OX rfl)<|rS (OX rfl)<|rS (PK rfl)<|RK hK23<|aX rfl<|WS fun _ hK32=>rS (AG rfl)<|RK hK32<|bE ?_
    refine ai<|gG rfl<|ai<|ai<|aH<|KK hK11<|WS fun _ hK33=>rS (MV rfl)<|rS (AG rfl)<|RK hK33 ?_
    refine aE<|Q1 hQ rfl rfl rfl ?_
    first|exact congrArg (Value.int .i64) (if_neg (by rw [cb (by omega)]; decide)).symm|exact congrArg (Value.int .i64) (if_neg (by rw [cz hl0_1 hx (by simp only [a_,cT]; omega)]; decide)).symm|exact congrArg (Value.int .i64) (if_pos (b_ hl0_1 (by omega) (by omega))).symm
   replace h31:=XF h31
   refine rS (FA 8 rfl uD rfl)<|rS (L1 (Value.int .i64 x.pX) 1 rfl bu rfl rfl)<|fp (xs:=[.tmp 62]) (cs:=[(Value.int .i64 x.pX)]) rfl dY lK rfl rfl rfl rfl (by simp [Value.cells]) rfl rfl fun b34=>rS (CL (eH.eq (mw 0 5000 ([x.pX]) (some ⟨b34,0,none⟩) 1 (by first|assumption|omega|(simp; done)|(simp; omega))) dq) (aM (bf 0 rfl rfl (by simp [bY]) rfl)<|ay) rfl)<|rS (NT rfl)<|rS (PK rfl)<|rS (MV rfl) ?_
   refine bH (t:=67) rfl (fun h35=>?_) (fun h35=>?_)
   ·replace h35:=XT h35
    refine rS (OX rfl)<|rS (OX rfl)<|rS (OX rfl)<|rS (OX rfl)<|rS (OX rfl)<|rS (OX rfl)<|rS (PK rfl)<|RK hK23<|aX rfl<|WS fun _ hK36=>?_
    refine rS (AG rfl)<|RK hK36<|bE<|ai<|gG rfl<|ai<|ai<|aH<|KK hK11<|WS fun _ hK37=>?_
    refine rS (MV rfl)<|rS (AG rfl)<|RK hK37<|aE<|Q1 hQ rfl rfl rfl ?_
    first|exact congrArg (Value.int .i64) (if_neg (by rw [cb (by omega)]; decide)).symm|exact congrArg (Value.int .i64) (if_neg (by rw [cz hl0_1 hx (by simp only [a_,cT]; omega)]; decide)).symm|exact congrArg (Value.int .i64) (if_pos (b_ hl0_1 (by omega) (by omega))).symm
   replace h35:=XF h35
   refine rS (MV rfl)<|rS (NT rfl)<|rS (MV rfl) ?_
   refine bH (t:=70) rfl (fun h38=>?_) (fun h38=>?_)
   rotate_left 1
   ·replace h38:=XF h38
    refine rS (OX rfl)<|rS (OX rfl)<|rS (PK rfl)<|rS (PK rfl)<|RK hK23<|bV rfl<|WK hK22<|ar<|rS (FA 0 rfl ox rfl)<|rS (L1 (Value.int .i64 x.Id) 2 rfl bu rfl rfl) ?_
    refine rS (AG rfl)<|aP<|aK<|KK hK17<|ar<|rS (BI rfl (aZ ⟨by omega,by omega⟩))<|rS (MV rfl)<|aP ?_
    have hb43:(Value.int .i64 (ew ts (i+1)))=(Value.int .i64 x.Id):=by rw [eD hx]
    refine aO (hJ13 ⟨(i+1),⟨by omega,e_ hl0_1 hx (by simp only [a_,cT]; omega),by rw [eD hx]; omega,by rw [eD hx]; omega⟩⟩ _ _ _ rfl (by first|omega|(simp; omega)) (an.cons rfl<|aQ rfl hb43<|an.cons rfl<|an.cons rfl<|an.cons rfl<|an.cons rfl<|an.nil _) (fun w hs=>St.br [3,4] rfl rfl hs))
   replace h38:=XT h38
   refine rS (MV rfl)<|rS (NT rfl)<|rS (PK rfl)<|rS (PK rfl)<|RK hK23 ?_
   refine bj rfl (fun h39=>?_) (fun h39=>?_)
   ·replace h39:=XT h39
    refine WS fun _ hK40=>rS (AG rfl)<|RK hK40<|bE<|ai<|gG rfl<|ai<|ai<|aH<|KK hK11 ?_
    refine WS fun _ hK41=>rS (MV rfl)<|rS (AG rfl)<|RK hK41<|aE<|Q1 hQ rfl rfl rfl ?_
    first|exact congrArg (Value.int .i64) (if_neg (by rw [cb (by omega)]; decide)).symm|exact congrArg (Value.int .i64) (if_neg (by rw [cz hl0_1 hx (by simp only [a_,cT]; omega)]; decide)).symm|exact congrArg (Value.int .i64) (if_pos (b_ hl0_1 (by omega) (by omega))).symm
   replace h39:=XF h39
   refine WK hK22<|ar<|rS (FA 0 rfl ox rfl)<|rS (L1 (Value.int .i64 x.Id) 2 rfl bu rfl rfl)<|rS (AG rfl)<|aP<|aK<|KK hK17<|ar<|rS (BI rfl (aZ ⟨by omega,by omega⟩)) ?_
   refine rS (MV rfl)<|aP ?_
   have hb42:(Value.int .i64 (ew ts (i+1)))=(Value.int .i64 x.Id):=by rw [eD hx]
   refine aO (hJ13 ⟨(i+1),⟨by omega,e_ hl0_1 hx (by simp only [a_,cT]; omega),by rw [eD hx]; omega,by rw [eD hx]; omega⟩⟩ _ _ _ rfl (by first|omega|(simp; omega)) (an.cons rfl<|aQ rfl hb42<|an.cons rfl<|an.cons rfl<|an.cons rfl<|an.cons rfl<|an.nil _) (fun w hs=>St.br [3,4] rfl rfl hs))
  refine ar<|rS (FA 7 rfl rL rfl)<|rS (L1 (Value.int .u8 x.gi) 0 rfl Fa rfl rfl)<|rS (SX (rE (m:=x.gi) rfl rfl Fg qY (rf (by first|assumption|omega))) rfl rfl)<|fp (xs:=[.tmp 33]) (cs:=[(Value.int .i64 x.gi)]) rfl dY lK rfl rfl rfl rfl (by simp [Value.cells]) rfl rfl fun b22=>rS (CL (eH.eq (mw 1 2 ([x.gi]) (some ⟨b22,0,none⟩) 1 (by first|assumption|omega|(simp; done)|(simp; omega))) dq) (aM (bf 0 rfl rfl (by simp [bY]) rfl)<|ay) rfl)<|rS (MV rfl) ?_
  refine bH (t:=36) rfl (fun h23=>?_) (fun h23=>?_)
  rotate_left 1
  ·replace h23:=DF h23
   refine rS (OX rfl)<|rS (OX rfl)<|rS (OX rfl)<|rS (PK rfl)<|rS (AG rfl)<|aP ?_
   have hb25:(decide ((1≤x.gi∧x.gi≤2)∧x.cQ.Lo≤x.cQ.Hi∧500≤x.cQ.Lo∧x.cQ.Hi≤20000))=false:=decide_eq_false (by first|omega|(simp only [ae.ext_iff] at *; omega))
   refine aO (e7 (an.cons rfl<|an.cons rfl<|an.cons rfl<|an.cons rfl<|an.cons rfl<|lf rfl hb25<|an.cons rfl<|an.cons rfl<|an.cons rfl<|an.nil _) (fun w hs=>St.br [1,2,3] rfl rfl hs) (hK21 ()))
  replace h23:=DT h23
  refine rS (FA 5 rfl kh rfl)<|rS (LP (ae.cells x.cQ) 1 rfl cp rfl rfl rfl)<|rS (CL (rI x.cQ 500 20000) (ay) rfl)<|rS (PK rfl)<|rS (AG rfl)<|aP ?_
  have hb24:(decide ((1≤x.gi∧x.gi≤2)∧x.cQ.Lo≤x.cQ.Hi∧500≤x.cQ.Lo∧x.cQ.Hi≤20000))=(decide (x.cQ.Lo≤x.cQ.Hi∧500≤x.cQ.Lo∧x.cQ.Hi≤20000)):=decide_eq_decide.2 (by first|omega|(simp only [ae.ext_iff] at *; omega))
  refine aO (e7 (an.cons rfl<|an.cons rfl<|an.cons rfl<|an.cons rfl<|an.cons rfl<|lf rfl hb24<|an.cons rfl<|an.cons rfl<|an.cons rfl<|an.nil _) (fun w hs=>St.br [1,2,3] rfl rfl hs) (hK21 ()))
 refine ar<|rS (FA 7 rfl rL rfl)<|rS (L1 (Value.int .u8 x.gi) 0 rfl Fa rfl rfl)<|rS (BI rfl g0)<|rS (MV rfl) ?_
 refine bH (t:=25) rfl (fun h21=>?_) (fun h21=>?_)
 rotate_left 1
 ·replace h21:=DF h21
  refine rS (OX rfl)<|rS (OX rfl)<|rS (OX rfl)<|rS (OX rfl)<|rS (PK rfl)<|rS (AG rfl)<|aP ?_
  have hb23:(decide (x.gi=0∧x.cQ.Lo=0∧x.cQ.Hi=0))=false:=decide_eq_false (by first|omega|(simp only [ae.ext_iff] at *; omega))
  refine aO (e7 (an.cons rfl<|an.cons rfl<|an.cons rfl<|an.cons rfl<|lf rfl hb23<|an.cons rfl<|an.cons rfl<|an.cons rfl<|an.nil _) (fun w hs=>St.br [0,1,2] rfl rfl hs) (hK20 ()))
 replace h21:=DT h21
 refine rS (FA 5 rfl kh rfl)<|rS (LP (ae.cells x.cQ) 0 rfl cp rfl rfl rfl)<|rS (SX (bp (xs:=[]) (cs:=(ae.cells (ae.mk 0 0))) rfl rfl (bq fI rfl)) rfl rfl)<|rS (BI rfl (yo _ _ x.cQ (ae.mk 0 0)))<|rS (PK rfl)<|rS (AG rfl)<|aP ?_
 have hb22:(decide (x.gi=0∧x.cQ.Lo=0∧x.cQ.Hi=0))=(decide (x.cQ=(ae.mk 0 0))):=decide_eq_decide.2 (by first|omega|(simp only [ae.ext_iff] at *; omega))
 refine aO (e7 (an.cons rfl<|an.cons rfl<|an.cons rfl<|an.cons rfl<|lf rfl hb22<|an.cons rfl<|an.cons rfl<|an.cons rfl<|an.nil _) (fun w hs=>St.br [0,1,2] rfl rfl hs) (hK20 ()))
set_option maxRecDepth 100000 in
set_option maxHeartbeats 400000 in
theorem DZ (ts:List ah) (tsA:Option Addr) (tsC:Nat) (hlen:ts.length≤1000000):
 rp Tryz.prog 32 [(Value.agg (au.cells (au.mk (av.mk tsA ts.length tsC))).toArray)] [(rd tsA ts.length 9 (ts.map ah.cells))] (fun (x:(Option Addr)×Nat)=>(Value.agg (au.cells (au.mk (av.mk x.1 ts.length x.2))).toArray)) (fun (x:(Option Addr)×Nat)=>True) (fun (x:(Option Addr)×Nat)=>[(own x.1 x.2 141 9 (ts.map ah.cells))]):=by
 refine gp Hu Tryz.func32 rfl rfl fun w0 Q hQ hN=>?_
 try dsimp only
 refine WS fun _ hK1=>fy rfl fun b2=>AL rfl HF fun b3=>RK hK1<|WS fun _ hK4=>ur rfl rR rfl fun b5=>rS (FA 0 rfl gv rfl)<|rS (L1 (Value.slice tsA ts.length tsC) 2 rfl lD rfl rfl)<|jX (es:=(List.map ah.cells [])) (C':=[own (some ⟨b5,0,none⟩) 0 141 9 (List.map ah.cells []),_,_,_]) 0 rfl (by simp) rfl (by simp [maxLen]) rfl<|dR (es2:=(List.map ah.cells ts)) (m':=ts.length) 0 rfl rfl rfl IS rfl rfl (by simp) (aI 3 rfl) (o6 _) (by first|omega|(simp; omega)) (by first|(simp only [maxLen]; omega)|(simp [maxLen]; omega)) (by simp) (by simp) rfl fun a6 c7=>?_
 try dsimp only
 refine rS (SX (bp (xs:=[(0,.tmp 6)]) (cs:=(au.cells (au.mk (av.mk a6 ts.length c7)))) rfl rfl (bq HA rfl)) rfl rfl)<|nk rfl FT rfl<|RK hK4<|aE ?_
 refine hQ _ _ _ (bB (vs:=[(Value.agg (au.cells (au.mk (av.mk a6 ts.length c7))).toArray)]) ⟨⟨_,rfl,.inl ⟨_,_,jn,cy (vs:=(au.cells (au.mk (av.mk a6 ts.length c7)))) 1 rfl rfl,rfl,rfl⟩⟩,trivial⟩ fun w hs=>fB (a6,c7) [0] ?_ ?_ rfl rfl rfl hs)
 ·rfl
 ·trivial
set_option maxRecDepth 100000 in
set_option maxHeartbeats 400000 in
theorem En (la:List ah) (laA:Option Addr) (laC:Nat) (lb:List ah) (lbA:Option Addr) (lbC:Nat) (h1:la.length≤1000000) (h2:lb.length≤1000000):
 eH Tryz.prog 47 [(Value.agg (au.cells (au.mk (av.mk laA la.length laC))).toArray),(Value.agg (au.cells (au.mk (av.mk lbA lb.length lbC))).toArray)] [(rd laA la.length 9 (la.map ah.cells)),(rd lbA lb.length 9 (lb.map ah.cells))] (Value.bool (decide (la=lb))):=by
 refine bL HH Tryz.func47 rfl rfl fun w0 Q hQ hN=>?_
 try dsimp only
 refine WS fun _ hK1=>fy rfl fun b2=>fy rfl fun b3=>rS (AG rfl)<|RK hK1<|aq fun _ hK4=>WS fun _ hK5=>rS (FA 0 rfl gv rfl)<|rS (L1 (Value.slice laA la.length laC) 1 rfl lD rfl rfl)<|rS (LN rfl qk) ?_
 refine rS (FA 0 rfl gv rfl)<|rS (L1 (Value.slice lbA lb.length lbC) 0 rfl lD rfl rfl)<|rS (LN rfl qk)<|rS (BI rfl dB)<|RK hK5 ?_
 refine bj rfl (fun hl=>?_) (fun hl=>?_)
 ·replace hl:=XT hl
  refine WS fun _ hK6=>rS (AG rfl)<|RK hK6<|aE<|Q1 hQ rfl rfl rfl ?_
  first|exact congrArg Value.bool (decide_eq_false (jK hx hy h)).symm|exact congrArg Value.bool (decide_eq_true (cB (by omega) hl0_1 (by omega))).symm|exact congrArg Value.bool (decide_eq_false (fun e=>by subst e; omega)).symm
 replace hl:=XF hl
 refine WK hK4<|aq fun _ hK7=>WS fun _ hK8=>rS (AG rfl)<|RK hK8<|aG ?_
 have hinit:(0≤la.length)∧(la.take 0=lb.take 0):=by simp
 refine cq (ι:={z:Nat // (z≤la.length)∧(la.take z=lb.take z)}) (fun z=>[(2,(Value.pointer (some ⟨b2,0,none⟩))),(3,(Value.pointer (some ⟨b3,0,none⟩))),(5,(Value.int .i64 ((z.1:Nat):Int)))]) (fun z=>[(aT b3 24 (au.cells (au.mk (av.mk lbA lb.length lbC)))),(aT b2 24 (au.cells (au.mk (av.mk laA la.length laC)))),(rd laA la.length 9 (la.map ah.cells)).ro,(rd lbA lb.length 9 (lb.map ah.cells)).ro]) (fun z=>la.length-z.1) ⟨0,hinit⟩ (an.cons rfl<|an.cons rfl<|an.cons rfl<|an.nil _) (fun w hs=>St.br [0,1,2,3] rfl rfl hs) ?_
 clear hinit
 rintro ⟨i,⟨hl0_0,hl0_1⟩⟩ J9 hJ9
 try dsimp only
 refine aq fun _ hK10=>WS fun _ hK11=>rS (MV rfl)<|rS (FA 0 rfl gv rfl)<|rS (L1 (Value.slice laA la.length laC) 1 rfl lD rfl rfl)<|rS (LN rfl qk)<|rS (BI rfl cv)<|RK hK11 ?_
 refine bj rfl (fun h12=>?_) (fun h12=>?_)
 rotate_left 1
 ·replace h12:=DF h12
  refine bE<|ai<|ai<|aH<|KK hK7<|WS fun _ hK17=>rS (AG rfl)<|RK hK17<|aE<|Q1 hQ rfl rfl rfl ?_
  first|exact congrArg Value.bool (decide_eq_false (jK hx hy h)).symm|exact congrArg Value.bool (decide_eq_true (cB (by omega) hl0_1 (by omega))).symm|exact congrArg Value.bool (decide_eq_false (fun e=>by subst e; omega)).symm
 replace h12:=DT h12
 refine WK hK10<|aq fun _ hK13=>aG<|aq fun _ hK14=>dm cG 11 (by kernel_rfl)<|dS (FA 0 rfl gv rfl)<|dS (L1 (Value.slice laA la.length laC) 1 rfl lD rfl rfl)<|dS (MV rfl) ?_
 obtain ⟨x,hx⟩: ∃ y_,la[i]? =some y_:=⟨la[i]'(by omega),List.getElem?_eq_getElem _⟩
 have hxm:(la.map ah.cells)[i]? =some (ah.cells x):=by rw [List.getElem?_map,hx]; rfl
 refine dS (IA i rfl (aI 2 rfl) rR (by decide) (by omega) (by omega))<|dS (lF i 0 (ah.cells x) rfl uc (aI 2 rfl) hxm rfl (by decide) rfl rfl)<|dS (FA 0 rfl gv rfl)<|dS (L1 (Value.slice lbA lb.length lbC) 0 rfl lD rfl rfl)<|dS (MV rfl) ?_
 obtain ⟨y,hy⟩: ∃ y_,lb[i]? =some y_:=⟨lb[i]'(by omega),List.getElem?_eq_getElem _⟩
 have hym:(lb.map ah.cells)[i]? =some (ah.cells y):=by rw [List.getElem?_map,hy]; rfl
 refine dS (IA i rfl (aI 3 rfl) rR (by decide) (by omega) (by omega))<|dS (lF i 0 (ah.cells y) rfl uc (aI 3 rfl) hym rfl (by decide) rfl rfl)<|dS (BI rfl (Ek _ _ x y))<|cP<|RK hK14 ?_
 refine bj rfl (fun h=>?_) (fun h=>?_)
 ·replace h:=XT h
  refine WS fun _ hK15=>rS (AG rfl)<|RK hK15<|aE<|Q1 hQ rfl rfl rfl ?_
  first|exact congrArg Value.bool (decide_eq_false (jK hx hy h)).symm|exact congrArg Value.bool (decide_eq_true (cB (by omega) hl0_1 (by omega))).symm|exact congrArg Value.bool (decide_eq_false (fun e=>by subst e; omega)).symm
 replace h:=XF h
 refine cM<|aK<|KK hK13<|ar<|rS (MV rfl)<|rS (BI rfl (aZ ⟨by omega,by omega⟩))<|rS (AG rfl)<|aP ?_
 have hb16:(Value.int .i64 (((i+1):Nat):Int))=(Value.int .i64 (((i:Nat):Int)+1)):=by exact congrArg (Value.int .i64) (by omega)
 refine aO (hJ9 ⟨(i+1),⟨by omega,jy hl0_1 hx hy h⟩⟩ _ _ _ rfl (by first|omega|(simp; omega)) (an.cons rfl<|an.cons rfl<|aQ rfl hb16<|an.nil _) (fun w hs=>St.br [0,1,2,3] rfl rfl hs))
set_option maxRecDepth 100000 in
set_option maxHeartbeats 400000 in
theorem pb (la:List Int) (laA:Option Addr) (laC:Nat) (lb:List Int) (lbA:Option Addr) (lbC:Nat) (h1:la.length≤1000000) (h2:lb.length≤1000000):
 eH Tryz.prog 14 [(Value.slice laA la.length laC),(Value.slice lbA lb.length lbC)] [(rd laA la.length 1 (la.map iC)),(rd lbA lb.length 1 (lb.map iC))] (Value.bool (decide (la=lb))):=by
 refine bL IL Tryz.func14 rfl rfl fun w0 Q hQ hN=>?_
 try dsimp only
 refine WS fun _ hK1=>rS (AG rfl)<|RK hK1<|aq fun _ hK2=>WS fun _ hK3=>rS (MV rfl)<|rS (LN rfl l9)<|rS (MV rfl)<|rS (LN rfl l9)<|rS (BI rfl dB) ?_
 refine RK hK3 ?_
 refine bj rfl (fun hl=>?_) (fun hl=>?_)
 ·replace hl:=XT hl
  refine WS fun _ hK4=>rS (AG rfl)<|RK hK4<|aE<|Q1 hQ rfl rfl rfl ?_
  first|exact congrArg Value.bool (decide_eq_false (jK hx hy h)).symm|exact congrArg Value.bool (decide_eq_true (cB (by omega) hl0_1 (by omega))).symm|exact congrArg Value.bool (decide_eq_false (fun e=>by subst e; omega)).symm
 replace hl:=XF hl
 refine WK hK2<|aq fun _ hK5=>WS fun _ hK6=>rS (AG rfl)<|RK hK6<|aG ?_
 have hinit:(0≤la.length)∧(la.take 0=lb.take 0):=by simp
 refine cq (ι:={z:Nat // (z≤la.length)∧(la.take z=lb.take z)}) (fun z=>[(0,(Value.slice laA la.length laC)),(1,(Value.slice lbA lb.length lbC)),(5,(Value.int .i64 ((z.1:Nat):Int)))]) (fun z=>[(rd laA la.length 1 (la.map iC)).ro,(rd lbA lb.length 1 (lb.map iC)).ro]) (fun z=>la.length-z.1) ⟨0,hinit⟩ (an.cons rfl<|an.cons rfl<|an.cons rfl<|an.nil _) (fun w hs=>St.br [0,1] rfl rfl hs) ?_
 clear hinit
 rintro ⟨i,⟨hl0_0,hl0_1⟩⟩ J7 hJ7
 try dsimp only
 refine aq fun _ hK8=>WS fun _ hK9=>rS (MV rfl)<|rS (MV rfl)<|rS (LN rfl l9)<|rS (BI rfl cv)<|RK hK9 ?_
 refine bj rfl (fun h10=>?_) (fun h10=>?_)
 rotate_left 1
 ·replace h10:=DF h10
  refine bE<|ai<|ai<|aH<|KK hK5<|WS fun _ hK15=>rS (AG rfl)<|RK hK15<|aE<|Q1 hQ rfl rfl rfl ?_
  first|exact congrArg Value.bool (decide_eq_false (jK hx hy h)).symm|exact congrArg Value.bool (decide_eq_true (cB (by omega) hl0_1 (by omega))).symm|exact congrArg Value.bool (decide_eq_false (fun e=>by subst e; omega)).symm
 replace h10:=DT h10
 refine WK hK8<|aq fun _ hK11=>aG<|aq fun _ hK12=>dm cG 9 (by kernel_rfl)<|dS (MV rfl)<|dS (MV rfl) ?_
 obtain ⟨x,hx⟩: ∃ y_,la[i]? =some y_:=⟨la[i]'(by omega),List.getElem?_eq_getElem _⟩
 have hxm:(la.map iC)[i]? =some (iC x):=by rw [List.getElem?_map,hx]; rfl
 refine dS (IA i rfl (aI 0 rfl) dY (by decide) (by omega) (by omega))<|dS (iX i 0 (Value.int .i64 x) rfl bu (aI 0 rfl) hxm rfl (by decide) rfl)<|dS (MV rfl)<|dS (MV rfl) ?_
 obtain ⟨y,hy⟩: ∃ y_,lb[i]? =some y_:=⟨lb[i]'(by omega),List.getElem?_eq_getElem _⟩
 have hym:(lb.map iC)[i]? =some (iC y):=by rw [List.getElem?_map,hy]; rfl
 refine dS (IA i rfl (aI 1 rfl) dY (by decide) (by omega) (by omega))<|dS (iX i 0 (Value.int .i64 y) rfl bu (aI 1 rfl) hym rfl (by decide) rfl)<|dS (BI rfl dB)<|cP<|RK hK12 ?_
 refine bj rfl (fun h=>?_) (fun h=>?_)
 ·replace h:=XT h
  refine WS fun _ hK13=>rS (AG rfl)<|RK hK13<|aE<|Q1 hQ rfl rfl rfl ?_
  first|exact congrArg Value.bool (decide_eq_false (jK hx hy h)).symm|exact congrArg Value.bool (decide_eq_true (cB (by omega) hl0_1 (by omega))).symm|exact congrArg Value.bool (decide_eq_false (fun e=>by subst e; omega)).symm
 replace h:=XF h
 refine cM<|aK<|KK hK11<|ar<|rS (MV rfl)<|rS (BI rfl (aZ ⟨by omega,by omega⟩))<|rS (AG rfl)<|aP ?_
 have hb14:(Value.int .i64 (((i+1):Nat):Int))=(Value.int .i64 (((i:Nat):Int)+1)):=by exact congrArg (Value.int .i64) (by omega)
 refine aO (hJ7 ⟨(i+1),⟨by omega,jy hl0_1 hx hy h⟩⟩ _ _ _ rfl (by first|omega|(simp; omega)) (an.cons rfl<|an.cons rfl<|aQ rfl hb14<|an.nil _) (fun w hs=>St.br [0,1] rfl rfl hs))
end
section
open Go.RowKit
set_option linter.unusedVariables false
set_option maxRecDepth 100000 in
set_option maxHeartbeats 400000 in
theorem mX (a:ae) (l:List ae) (lA:Option Addr) (lC:Nat) (ha:jU a) (hl: ∀ z∈l,jU z) (hlen:l.length≤4):
 eH Tryz.prog 118 [(Value.agg (ae.cells a).toArray),(Value.slice lA l.length lC)] [(rd lA l.length 2 (l.map ae.cells))] (Value.agg (ae.cells (gR a l)).toArray):=by
 refine bL FW Tryz.func118 rfl rfl fun w0 Q hQ hN=>?_
 try dsimp only
 refine WS fun _ hK1=>fy rfl fun b2=>AL rfl dF fun b3=>RK hK1<|aq fun _ hK4=>WS fun _ hK5=>rS (MV rfl)<|rS (LN rfl Gg)<|rS (MV rfl)<|RK hK5 ?_
 refine aG ?_
 have hinit:(0≤l.length):=by exact Nat.zero_le _
 refine cq (ι:={z:Nat // (z≤l.length)}) (fun z=>[(2,(Value.pointer (some ⟨b2,0,none⟩))),(4,(Value.pointer (some ⟨b3,0,none⟩))),(7,(Value.slice lA l.length lC)),(8,(Value.int .i64 ((l.length:Nat):Int))),(9,(Value.int .i64 (z.1:Int)))]) (fun z=>[(aT b3 47 (ae.cells (ae.mk 0 0))),(aT b2 47 (ae.cells (gR a (l.take z.1)))),(rd lA l.length 2 (l.map ae.cells)).ro]) (fun z=>l.length-z.1) ⟨0,hinit⟩ (an.cons rfl<|an.cons rfl<|an.cons rfl<|an.cons rfl<|an.cons rfl<|an.nil _) (fun w hs=>St.br [0,1,2] rfl rfl hs) ?_
 clear hinit
 rintro ⟨i,hl2_0⟩ J6 hJ6
 try dsimp only
 refine WS fun _ hK7=>rS (BI rfl cv)<|RK hK7<|aq fun _ hK8=>?_
 refine bj rfl (fun h9=>?_) (fun h9=>?_)
 rotate_left 1
 ·replace h9:=DF h9
  refine bE<|ai<|ai<|aH<|KK hK4<|aq fun _ hK15=>?_
  have hb16:(ae.cells (gR a (l.take i)))=(ae.cells (gR a l)):=by rw [Ai (by omega)]
  rw [hb16]
  refine ar<|rS (LW 1 rfl cp rfl rfl)<|fO rfl cK rfl<|RK hK15<|aE ?_
  refine hQ _ _ _ (bB (vs:=[(Value.agg (ae.cells (gR a l)).toArray)]) ⟨⟨_,rfl,.inl ⟨_,_,cp,cy (vs:=(ae.cells (gR a l))) 0 rfl rfl,rfl,rfl⟩⟩,trivial⟩ fun w hs=>fq ?_ hs)
  show (Value.agg (ae.cells (gR a l)).toArray)=(Value.agg (ae.cells (gR a l)).toArray)
  clear hs w hQ hN hK15 hK8 hK7 hK5 hK4 hK1
  rfl
 replace h9:=DT h9
 refine WK hK8<|aq fun _ hK10=>aG<|WS fun _ hK11=>?_
 obtain ⟨x,hx⟩: ∃ y_,l[i]? =some y_:=⟨l[i]'(by omega),List.getElem?_eq_getElem _⟩
 have hxm:(l.map ae.cells)[i]? =some (ae.cells x):=by rw [List.getElem?_map,hx]; rfl
 refine rS (IA i rfl (aI 2 rfl) km (by decide) (by omega) (by omega))<|rS (lF i 0 (ae.cells x) rfl cp (aI 2 rfl) hxm rfl (by decide) rfl rfl)<|AL rfl dF fun b12=>fO rfl cK rfl<|RK hK11<|ar ?_
 have hb:=D0 ha hl i
 have hz:=hl x (List.mem_of_getElem? hx)
 unfold jU at hz
 refine rS (FA 0 rfl bU rfl)<|rS (L1 (Value.int .i64 ((gR a (l.take i)).Lo)) 2 rfl bu rfl rfl)<|rS (FA 0 rfl bU rfl)<|rS (L1 (Value.int .i64 x.Lo) 0 rfl bu rfl rfl)<|rS (BI rfl (aZ ⟨by omega,by omega⟩))<|rS (FA 1 rfl cd rfl)<|rS (L1 (Value.int .i64 ((gR a (l.take i)).Hi)) 2 rfl bu rfl rfl)<|rS (FA 1 rfl cd rfl)<|rS (L1 (Value.int .i64 x.Hi) 0 rfl bu rfl rfl)<|rS (BI rfl (aZ ⟨by omega,by omega⟩)) ?_
 refine rS (SX (bp (xs:=[(0,.tmp 17),(1,.tmp 22)]) (cs:=(ae.cells (ae.mk (((gR a (l.take i)).Lo)+x.Lo) (((gR a (l.take i)).Hi)+x.Hi)))) rfl rfl (bq fI rfl)) rfl rfl)<|rM rfl cK rfl<|aP<|aK<|KK hK10 ?_
 have hb13:(ae.cells (ae.mk (((gR a (l.take i)).Lo)+x.Lo) (((gR a (l.take i)).Hi)+x.Hi)))=(ae.cells (gR a (l.take (i+1)))):=by rw [tM hx]; rfl
 rw [hb13]
 refine ar<|rS (BI rfl (aZ ⟨by omega,by omega⟩))<|rS (MV rfl)<|aP ?_
 have hb14:(Value.int .i64 ((i+1):Int))=(Value.int .i64 ((i:Int)+1)):=by exact congrArg (Value.int .i64) (by omega)
 refine aO (hJ6 ⟨(i+1),(by first|omega|(simp only []; omega))⟩ _ _ _ rfl (by first|omega|(simp; omega)) (an.cons rfl<|an.cons rfl<|an.cons rfl<|an.cons rfl<|aQ rfl hb14<|an.nil _) (fun w hs=>St.br [1,2,3] rfl rfl hs))
set_option maxRecDepth 100000 in
set_option maxHeartbeats 400000 in
theorem yq (ts:List ah) (tsA:Option Addr) (tsC:Nat) (hlen:ts.length≤1000000) (hside: ∀ x∈ts,0≤x.gi∧x.gi≤255):
 eH Tryz.prog 115 [(Value.agg (au.cells (au.mk (av.mk tsA ts.length tsC))).toArray)] [(rd tsA ts.length 9 (ts.map ah.cells))] (Value.tuple [(Value.agg (bX.cells (bX.mk (au.mk (av.mk tsA ts.length tsC)))).toArray),(Value.int .i64 (if cj ts=true then 0 else 10))].toArray):=by
 refine bL GH Tryz.func115 rfl rfl fun w0 Q hQ hN=>?_
 try dsimp only
 refine WS fun _ hK1=>fy rfl fun b2=>AL rfl Bp fun b3=>rS (AG rfl)<|RK hK1<|aq fun _ hK4=>dm cG 4 (by kernel_rfl)<|dS (LW 1 rfl jn rfl rfl)<|dS (SX (bp (xs:=[(0,.tmp 4)]) (cs:=(bX.cells (bX.mk (au.mk (av.mk tsA ts.length tsC))))) rfl rfl (bq Gh rfl)) rfl rfl)<|dS (LW 1 rfl jn rfl rfl) ?_
 refine dS (CL (wu ts tsA tsC hlen hside) (ax 2 rfl rfl<|ay) rfl)<|cP<|fO rfl zW rfl<|rS (AG rfl)<|RK hK4<|aE ?_
 refine hQ _ _ _ (bB (vs:=[(Value.agg (bX.cells (bX.mk (au.mk (av.mk tsA ts.length tsC)))).toArray),(Value.int .i64 (if cj ts=true then 0 else 10))]) ⟨⟨_,rfl,.inl ⟨_,_,rU,cy (vs:=(bX.cells (bX.mk (au.mk (av.mk tsA ts.length tsC))))) 0 rfl rfl,rfl,rfl⟩⟩,rfl,trivial⟩ fun w hs=>fq ?_ hs)
 show (Value.tuple [(Value.agg (bX.cells (bX.mk (au.mk (av.mk tsA ts.length tsC)))).toArray),(Value.int .i64 (if cj ts=true then 0 else 10))].toArray)=(Value.tuple [(Value.agg (bX.cells (bX.mk (au.mk (av.mk tsA ts.length tsC)))).toArray),(Value.int .i64 (if cj ts=true then 0 else 10))].toArray)
 clear hs w hQ hN hK4 hK1
 rfl
set_option maxRecDepth 100000 in
set_option maxHeartbeats 400000 in
theorem Ct (f:Int) (tsA:Option Addr) (tsN:Nat) (tsC:Nat):
 rp Tryz.prog 135 [(Value.agg (bX.cells (bX.mk (au.mk (av.mk tsA tsN tsC)))).toArray),(Value.int .i64 f)] [] (fun (x:Nat×Nat)=>(Value.func (.func 139) [].toArray [(Value.pointer (some ⟨x.1,0,none⟩)),(Value.pointer (some ⟨x.2,0,none⟩))].toArray)) (fun (x:Nat×Nat)=>True) (fun (x:Nat×Nat)=>[(aT x.1 3 [(Value.int .i64 f)]),(aT x.2 173 (bX.cells (bX.mk (au.mk (av.mk tsA tsN tsC)))))]):=by
 refine gp GD Tryz.func135 rfl rfl fun w0 Q hQ hN=>?_
 try dsimp only
 refine WS fun _ hK1=>fy rfl fun b2=>yn rfl rfl fun b3=>rS (AG rfl)<|RK hK1<|WS fun _ hK4=>rS (FU rfl)<|rS (AG rfl)<|RK hK4<|aE ?_
 refine hQ _ _ _ (bB (vs:=[(Value.func (.func 139) [].toArray [(Value.pointer (some ⟨b3,0,none⟩)),(Value.pointer (some ⟨b2,0,none⟩))].toArray)]) ⟨rfl,trivial⟩ fun w hs=>fB (b3,b2) [0,1] ?_ ?_ rfl rfl rfl hs)
 ·rfl
 ·trivial
set_option maxRecDepth 100000 in
set_option maxHeartbeats 400000 in
theorem yT (ts:List ah) (tsA:Option Addr) (tsC:Nat) (f:Int) (g1:Nat) (g2:Nat) (hst: ∀ x∈ts,a_ x) (hlen:ts.length≤12) (hf:0≤f∧f≤ts.length):
 Es Tryz.prog 139 [] [(Value.pointer (some ⟨g1,0,none⟩)),(Value.pointer (some ⟨g2,0,none⟩))] [(rd tsA ts.length 9 (ts.map ah.cells)),(aT g1 3 [(Value.int .i64 f)]),(aT g2 173 (bX.cells (bX.mk (au.mk (av.mk tsA ts.length tsC)))))] (pE ts f.toNat):=by
 refine Cz Ft Tryz.func139 rfl rfl fun l J Z A0 w0 Q hY hJ0 hF0 hQ hN=>?_
 try dsimp only
 refine WS fun _ hK1=>AL rfl dF fun b2=>AL rfl dF fun b3=>RK hK1<|WS fun _ hK4=>rS (tS 4 rfl bu rfl)<|rS (AG rfl)<|RK hK4<|aG ?_
 have hinit:(0≤ts.length-f.toNat)∧(J 0 A0)∧(Fo A0 w0 A0):=by exact ⟨Nat.zero_le _,hJ0,hF0⟩
 have hb5:(Value.int .i64 (f+((0:Nat):Int)))=(Value.int .i64 f):=by exact congrArg (Value.int .i64) (by omega)
 refine cq (ι:={z:Nat×aA // (z.1≤ts.length-f.toNat)∧(J z.1 z.2)∧(Fo A0 w0 z.2)}) (fun z=>[(0,(Value.func (.yield l) #[] #[])),(1,(Value.pointer (some ⟨g1,0,none⟩))),(2,(Value.pointer (some ⟨g2,0,none⟩))),(4,(Value.pointer (some ⟨b2,0,none⟩))),(5,(Value.pointer (some ⟨b3,0,none⟩))),(6,(Value.int .i64 (f+((z.1.1:Nat):Int))))]) (fun z=>[(aT b3 47 (ae.cells (dK ts f.toNat z.1.1))),(aT b2 47 (ae.cells (bW ts f.toNat z.1.1))),z.1.2,(rd tsA ts.length 9 (ts.map ah.cells)).ro,(aT g1 3 [(Value.int .i64 f)]).ro,(aT g2 173 (bX.cells (bX.mk (au.mk (av.mk tsA ts.length tsC))))).ro]) (fun z=>ts.length-f.toNat-z.1.1) ⟨(0,A0),hinit⟩ (an.cons rfl<|an.cons rfl<|an.cons rfl<|an.cons rfl<|an.cons rfl<|aQ rfl hb5<|an.nil _) (fun w hs=>St.br [0,1,2,3,4,5] rfl rfl hs) ?_
 clear hinit
 rintro ⟨⟨k,A⟩,⟨hl2_0,hl2_1,hl2_2⟩⟩ J6 hJ6
 try dsimp only at hl2_0 hl2_1 hl2_2
 try dsimp only
 refine aq fun _ hK7=>WS fun _ hK8=>rS (MV rfl)<|rS (LW 1 rfl cp rfl rfl)<|rS (LW 0 rfl cp rfl rfl) ?_
 refine Da 2 hY hl2_1 hl2_2 rfl rfl rfl (tP (by omega)) rfl rfl (fun B9 hJ10 hF11=>?_) (fun B9 hJ10 hF11=>?_)
 rotate_left 1
 ·refine rS (MV rfl) ?_
  refine rS (OX rfl)<|rS (OX rfl)<|rS (OX rfl)<|rS (OX rfl)<|rS (OX rfl)<|rS (OX rfl)<|rS (PK rfl)<|RK hK8<|bV rfl<|bE ?_
  refine ai<|ai<|aH ?_
  refine hN _ _ _ (bB (vs:=[]) trivial fun w hs=>FK 2 rfl hJ10 hF11 hs)
 refine rS (MV rfl)<|rS (MV rfl)<|rS (FA 0 rfl p5 rfl)<|rS (FA 0 rfl gv rfl)<|rS (ny (Value.slice tsA ts.length tsC) 5 rfl lD rfl rfl)<|rS (LN rfl qk)<|rS (BI rfl cv)<|rS (PK rfl)<|RK hK8 ?_
 refine bj rfl (fun h12=>?_) (fun h12=>?_)
 rotate_left 1
 ·replace h12:=DF h12
  refine bE<|ai<|ai<|aH ?_
  refine hN _ _ _ (bB (vs:=[]) trivial fun w hs=>IC 2 rfl (by rw [p9]; have e:ts.length-f.toNat+1=k+1:=(by omega); rw [e]; exact hJ10) hF11 hs)
 replace h12:=DT h12
 refine WK hK7<|aq fun _ hK13=>aG<|lJ cG [0,1,2,3,4,5,6,7,10,11,12,13,14,15,16,17] [8,9,18,19,20,21] [true,false,false,false,false,false,false,false,true,false,false,false,false,false,false,false] [8,9,18] [B9,(rd tsA ts.length 9 (ts.map ah.cells)).ro,(aT g1 3 [(Value.int .i64 f)]).ro,(aT g2 173 (bX.cells (bX.mk (au.mk (av.mk tsA ts.length tsC))))).ro] [(aT b3 47 (ae.cells (dK ts f.toNat k))),(aT b2 47 (ae.cells (bW ts f.toNat k))),B9,(rd tsA ts.length 9 (ts.map ah.cells)).ro,(aT g1 3 [(Value.int .i64 f)]).ro,(aT g2 173 (bX.cells (bX.mk (au.mk (av.mk tsA ts.length tsC))))).ro] (by kernel_rfl) (fun w hs=>St.br [2,3,4,5] rfl rfl hs) (fun w hs=>St.br [0,1,2,3,4,5] rfl rfl hs)<|fS rfl (LW 1 rfl cp rfl rfl)<|eS rfl (FA 0 rfl p5 rfl)<|eS rfl (FA 0 rfl gv rfl)<|eS rfl (ny (Value.slice tsA ts.length tsC) 3 rfl lD rfl rfl)<|eS rfl (MV rfl) ?_
 obtain ⟨x,hx⟩: ∃ y_,ts[(f.toNat+k)]? =some y_:=⟨ts[(f.toNat+k)]'(by omega),List.getElem?_eq_getElem _⟩
 have hxm:(ts.map ah.cells)[(f.toNat+k)]? =some (ah.cells x):=by rw [List.getElem?_map,hx]; rfl
 refine eS rfl (IA (f.toNat+k) rfl (aI 1 rfl) rR (by decide) (by omega) (by omega)) ?_
 have hxo:=hst x (List.mem_of_getElem? hx)
 refine eS rfl (ou (((f.toNat+k)*9)+1) rfl (aI 1 rfl) (Nat.mul_pos (by omega) (by decide)) lO rfl)<|eS rfl (lF (f.toNat+k) 1 (ae.cells x.g5) rfl cp (aI 1 rfl) hxm rfl (by decide) rfl rfl)<|fS rfl (LW 0 rfl cp rfl rfl)<|eS rfl (FA 0 rfl p5 rfl)<|eS rfl (FA 0 rfl gv rfl)<|eS rfl (ny (Value.slice tsA ts.length tsC) 3 rfl lD rfl rfl)<|eS rfl (MV rfl)<|eS rfl (IA (f.toNat+k) rfl (aI 1 rfl) rR (by decide) (by omega) (by omega))<|eS rfl (ou (((f.toNat+k)*9)+3) rfl (aI 1 rfl) (Nat.mul_pos (by omega) (by decide)) ob rfl)<|eS rfl (lF (f.toNat+k) 3 (ae.cells x.iA) rfl cp (aI 1 rfl) hxm rfl (by decide) rfl rfl) ?_
 refine fw rfl ?_
 refine hO [8,18] (by kernel_rfl) (dI ?_<|dI ?_<|jM)
 rotate_left 1
 ·refine re (rem':=[8,9,19,20,21]) rfl (by kernel_rfl) fun T14 hT14=>?_
  refine fp (xs:=[.tmp 39]) (cs:=(ae.cells x.iA)) rfl km dF rfl rfl rfl rfl (by simp [Value.cells,ae.bg]) rfl rfl fun b15=>?_
  refine aP (hT14 _ _ (fun w hs=>St.br [3,4,5,6] rfl rfl hs) (fun w hs=>St.br [1,2,3,4,5,6] rfl rfl hs) ?_)
  refine N1 8<|re (rem':=[9,19,20,21]) rfl (by kernel_rfl) fun T16 hT16=>fp (xs:=[.tmp 29]) (cs:=(ae.cells x.g5)) rfl km dF rfl rfl rfl rfl (by simp [Value.cells,ae.bg]) rfl rfl fun b17=>?_
  refine aP (hT16 _ _ (fun w hs=>St.br [4,5,6,7] rfl rfl hs) (fun w hs=>St.br [2,3,4,5,6,7] rfl rfl hs) ?_)
  refine N1 9<|re (rem':=[19,20,21]) rfl (by kernel_rfl) fun T18 hT18=>rS (CL (eH.eq (mX (bW ts f.toNat k) ([x.g5]) (some ⟨b17,0,none⟩) 1 (by exact n_ hst (by omega)) (by intro z hz; simp only [List.mem_singleton] at hz; subst hz; exact qt hxo) (by simp)) lg) (aM (bf 0 rfl rfl (by simp [ae.bg]) rfl)<|ay) rfl) ?_
  refine aP (hT18 _ _ (fun w hs=>St.br [4,5,6,7] rfl rfl hs) (fun w hs=>St.br [2,3,4,5,6,7] rfl rfl hs) ?_)
  refine N1 19<|NO rfl rfl [20,21] fun T19 hT19=>rS (CL (eH.eq (mX (dK ts f.toNat k) ([x.iA]) (some ⟨b15,0,none⟩) 1 (by exact s8 hst (by omega)) (by intro z hz; simp only [List.mem_singleton] at hz; subst hz; exact qO hxo) (by simp)) lg) (aM (bf 1 rfl rfl (by simp [ae.bg]) rfl)<|ay) rfl)<|RD hT19 4 rfl<|N1 20<|NO rfl rfl [21] fun T20 hT20=>Ev rfl cK rfl<|RD hT20 4 rfl<|N1 21<|NO rfl rfl [] fun T21 hT21=>?_
  refine rM rfl cK rfl<|RD hT21 4 rfl<|g8<|aK<|KK hK13 ?_
  have hb22:(ae.cells (gZ (bW ts f.toNat k) x.g5))=(ae.cells (bW ts f.toNat (k+1))):=by rw [mE hx]
  rw [hb22]
  have hb23:(ae.cells (gZ (dK ts f.toNat k) x.iA))=(ae.cells (dK ts f.toNat (k+1))):=by rw [m7 hx]
  rw [hb23]
  refine ar<|rS (MV rfl)<|rS (BI rfl (aZ ⟨by omega,by omega⟩))<|rS (AG rfl)<|aP ?_
  have hb24:(Value.int .i64 (f+(((k+1):Nat):Int)))=(Value.int .i64 ((f+((k:Nat):Int))+1)):=by exact congrArg (Value.int .i64) (by omega)
  refine aO (hJ6 ⟨((k+1),B9),⟨by omega,hJ10,hF11⟩⟩ _ _ _ rfl (by first|omega|(simp; omega)) (an.cons rfl<|an.cons rfl<|an.cons rfl<|an.cons rfl<|an.cons rfl<|aQ rfl hb24<|an.nil _) (fun w hs=>St.br [2,3,4,5,6,7] rfl rfl hs))
 refine re (rem':=[9,18,19,20,21]) rfl (by kernel_rfl) fun T14 hT14=>fp (xs:=[.tmp 29]) (cs:=(ae.cells x.g5)) rfl km dF rfl rfl rfl rfl (by simp [Value.cells,ae.bg]) rfl rfl fun b15=>?_
 refine aP (hT14 _ _ (fun w hs=>St.br [3,4,5,6] rfl rfl hs) (fun w hs=>St.br [1,2,3,4,5,6] rfl rfl hs) ?_)
 refine hO [9,18] (by kernel_rfl) (dI ?_<|dI ?_<|jM)
 rotate_left 1
 ·refine re (rem':=[9,19,20,21]) rfl (by kernel_rfl) fun T16 hT16=>?_
  refine fp (xs:=[.tmp 39]) (cs:=(ae.cells x.iA)) rfl km dF rfl rfl rfl rfl (by simp [Value.cells,ae.bg]) rfl rfl fun b17=>?_
  refine aP (hT16 _ _ (fun w hs=>St.br [4,5,6,7] rfl rfl hs) (fun w hs=>St.br [2,3,4,5,6,7] rfl rfl hs) ?_)
  refine N1 9<|re (rem':=[19,20,21]) rfl (by kernel_rfl) fun T18 hT18=>rS (CL (eH.eq (mX (bW ts f.toNat k) ([x.g5]) (some ⟨b15,0,none⟩) 1 (by exact n_ hst (by omega)) (by intro z hz; simp only [List.mem_singleton] at hz; subst hz; exact qt hxo) (by simp)) lg) (aM (bf 1 rfl rfl (by simp [ae.bg]) rfl)<|ay) rfl) ?_
  refine aP (hT18 _ _ (fun w hs=>St.br [4,5,6,7] rfl rfl hs) (fun w hs=>St.br [2,3,4,5,6,7] rfl rfl hs) ?_)
  refine N1 19<|NO rfl rfl [20,21] fun T19 hT19=>rS (CL (eH.eq (mX (dK ts f.toNat k) ([x.iA]) (some ⟨b17,0,none⟩) 1 (by exact s8 hst (by omega)) (by intro z hz; simp only [List.mem_singleton] at hz; subst hz; exact qO hxo) (by simp)) lg) (aM (bf 0 rfl rfl (by simp [ae.bg]) rfl)<|ay) rfl)<|RD hT19 4 rfl<|N1 20<|NO rfl rfl [21] fun T20 hT20=>Ev rfl cK rfl<|RD hT20 4 rfl<|N1 21<|NO rfl rfl [] fun T21 hT21=>?_
  refine rM rfl cK rfl<|RD hT21 4 rfl<|g8<|aK<|KK hK13 ?_
  have hb22:(ae.cells (gZ (bW ts f.toNat k) x.g5))=(ae.cells (bW ts f.toNat (k+1))):=by rw [mE hx]
  rw [hb22]
  have hb23:(ae.cells (gZ (dK ts f.toNat k) x.iA))=(ae.cells (dK ts f.toNat (k+1))):=by rw [m7 hx]
  rw [hb23]
  refine ar<|rS (MV rfl)<|rS (BI rfl (aZ ⟨by omega,by omega⟩))<|rS (AG rfl)<|aP ?_
  have hb24:(Value.int .i64 (f+(((k+1):Nat):Int)))=(Value.int .i64 ((f+((k:Nat):Int))+1)):=by exact congrArg (Value.int .i64) (by omega)
  refine aO (hJ6 ⟨((k+1),B9),⟨by omega,hJ10,hF11⟩⟩ _ _ _ rfl (by first|omega|(simp; omega)) (an.cons rfl<|an.cons rfl<|an.cons rfl<|an.cons rfl<|an.cons rfl<|aQ rfl hb24<|an.nil _) (fun w hs=>St.br [2,3,4,5,6,7] rfl rfl hs))
 refine re (rem':=[18,19,20,21]) rfl (by kernel_rfl) fun T16 hT16=>rS (CL (eH.eq (mX (bW ts f.toNat k) ([x.g5]) (some ⟨b15,0,none⟩) 1 (by exact n_ hst (by omega)) (by intro z hz; simp only [List.mem_singleton] at hz; subst hz; exact qt hxo) (by simp)) lg) (aM (bf 0 rfl rfl (by simp [ae.bg]) rfl)<|ay) rfl) ?_
 refine aP (hT16 _ _ (fun w hs=>St.br [3,4,5,6] rfl rfl hs) (fun w hs=>St.br [1,2,3,4,5,6] rfl rfl hs) ?_)
 refine N1 18<|re (rem':=[19,20,21]) rfl (by kernel_rfl) fun T17 hT17=>fp (xs:=[.tmp 39]) (cs:=(ae.cells x.iA)) rfl km dF rfl rfl rfl rfl (by simp [Value.cells,ae.bg]) rfl rfl fun b18=>?_
 refine aP (hT17 _ _ (fun w hs=>St.br [4,5,6,7] rfl rfl hs) (fun w hs=>St.br [2,3,4,5,6,7] rfl rfl hs) ?_)
 refine N1 19<|NO rfl rfl [20,21] fun T19 hT19=>rS (CL (eH.eq (mX (dK ts f.toNat k) ([x.iA]) (some ⟨b18,0,none⟩) 1 (by exact s8 hst (by omega)) (by intro z hz; simp only [List.mem_singleton] at hz; subst hz; exact qO hxo) (by simp)) lg) (aM (bf 0 rfl rfl (by simp [ae.bg]) rfl)<|ay) rfl)<|RD hT19 4 rfl<|N1 20<|NO rfl rfl [21] fun T20 hT20=>Ev rfl cK rfl<|RD hT20 4 rfl<|N1 21<|NO rfl rfl [] fun T21 hT21=>?_
 refine rM rfl cK rfl<|RD hT21 4 rfl<|g8<|aK<|KK hK13 ?_
 have hb22:(ae.cells (gZ (bW ts f.toNat k) x.g5))=(ae.cells (bW ts f.toNat (k+1))):=by rw [mE hx]
 rw [hb22]
 have hb23:(ae.cells (gZ (dK ts f.toNat k) x.iA))=(ae.cells (dK ts f.toNat (k+1))):=by rw [m7 hx]
 rw [hb23]
 refine ar<|rS (MV rfl)<|rS (BI rfl (aZ ⟨by omega,by omega⟩))<|rS (AG rfl)<|aP ?_
 have hb24:(Value.int .i64 (f+(((k+1):Nat):Int)))=(Value.int .i64 ((f+((k:Nat):Int))+1)):=by exact congrArg (Value.int .i64) (by omega)
 refine aO (hJ6 ⟨((k+1),B9),⟨by omega,hJ10,hF11⟩⟩ _ _ _ rfl (by first|omega|(simp; omega)) (an.cons rfl<|an.cons rfl<|an.cons rfl<|an.cons rfl<|an.cons rfl<|aQ rfl hb24<|an.nil _) (fun w hs=>St.br [2,3,4,5,6,7] rfl rfl hs))
set_option maxRecDepth 100000 in
set_option maxHeartbeats 400000 in
theorem BE (ts:List ah) (tsA:Option Addr) (tsC:Nat) (f:Int) (t:Int) (hst: ∀ x∈ts,a_ x) (hlen:ts.length≤12) (hf:0≤f∧f≤t∧t≤ts.length):
 eH Tryz.prog 117 [(Value.agg (bX.cells (bX.mk (au.mk (av.mk tsA ts.length tsC)))).toArray),(Value.int .i64 f),(Value.int .i64 t)] [(rd tsA ts.length 9 (ts.map ah.cells))] (Value.tuple [(Value.agg (ae.cells (bW ts f.toNat (t-f).toNat)).toArray),(Value.agg (ae.cells (dK ts f.toNat (t-f).toNat)).toArray)].toArray):=by
 refine bL GP Tryz.func117 rfl rfl fun w0 Q hQ hN=>?_
 try dsimp only
 refine WS fun _ hK1=>fy rfl fun b2=>yn rfl rfl fun b3=>yn rfl rfl fun b4=>AL rfl dF fun b5=>AL rfl dF fun b6=>RK hK1<|aq fun _ hK7=>WS fun _ hK8=>rS (LW 4 rfl rU rfl rfl) ?_
 refine rS (j8 3 rfl bu rfl)<|cX (Ct f tsA ts.length tsC) (ay) rfl fun y9 hy10=>?_
 obtain ⟨b111,b212⟩:=y9
 try dsimp only
 refine RK hK8<|aG<|mh 7 rfl (by exact fun _ h=>h) ?_
 refine Cr (L0:=[(3,(Value.pointer (some ⟨b2,0,none⟩))),(4,(Value.pointer (some ⟨b3,0,none⟩))),(5,(Value.pointer (some ⟨b4,0,none⟩))),(6,(Value.pointer (some ⟨b5,0,none⟩))),(7,(Value.pointer (some ⟨b6,0,none⟩)))]) (F:=[(rd tsA ts.length 9 (ts.map ah.cells)).ro,(aT b111 3 [(Value.int .i64 f)]),(aT b212 173 (bX.cells (bX.mk (au.mk (av.mk tsA ts.length tsC)))))]) (xs:=(pE ts f.toNat)) (fun k (y:ae×ae×Int)=>(k≤(t-f).toNat)∧(y.2.2=f+((k:Nat):Int))) (fun k y=>[(aT b6 47 (ae.cells y.2.1)),(aT b5 47 (ae.cells y.1)),(aT b4 3 [(Value.int .i64 t)]),(aT b3 3 [(Value.int .i64 y.2.2)]),(aT b2 173 (bX.cells (bX.mk (au.mk (av.mk tsA ts.length tsC))))),(rd tsA ts.length 9 (ts.map ah.cells)).ro]) (fun c (z:Unit)=>(c= .exit 0)) (fun _ z=>[(aT b6 47 (ae.cells (dK ts f.toNat (t-f).toNat))),(aT b5 47 (ae.cells (bW ts f.toNat (t-f).toNat))),(aT b4 3 [(Value.int .i64 t)]),(aT b3 3 [(Value.int .i64 t)]),(aT b2 173 (bX.cells (bX.mk (au.mk (av.mk tsA ts.length tsC))))),(rd tsA ts.length 9 (ts.map ah.cells)).ro]) [3,4,5,6,7,8] [0,1,2] (jW,jW,f) rfl rfl (yT ts tsA tsC f b111 b212 (by first|assumption|omega|(simp; done)) (by first|assumption|omega|(simp; done)) (by omega)) rfl rfl rfl (by exact ⟨Nat.zero_le _,by simp⟩) (by simp only [List.forall_mem_cons,List.not_mem_nil,false_imp_iff,implies_true,and_true]; exact ⟨⟨_,by simp,(fM (ck _))⟩,⟨_,by simp,(ck _)⟩,⟨_,by simp,(ck _)⟩⟩) (by exact w7) rfl (an.cons rfl<|an.cons rfl<|an.cons rfl<|an.cons rfl<|an.cons rfl<|an.nil _) ?_ ?_ ?_ ?_
 rotate_left 1
 ·rintro r25 ⟨z1,z2,m⟩ hin26
  obtain ⟨hr0,hr1⟩:=hin26
  try dsimp only at hr0 hr1
  try dsimp only
  exfalso; rw [p9] at hr0; omega
 ·rintro r27 id _ hx28
  have hc:=hx28
  cases hc
  try dsimp only
  refine aH<|KK hK7<|aq fun _ hK29=>er cG [0,1] [2,3] [false,false] [false,false] [(iM r27 (.deferred (some []))),(rd tsA ts.length 9 (ts.map ah.cells)).ro,(aT b111 3 [(Value.int .i64 f)]),(aT b212 173 (bX.cells (bX.mk (au.mk (av.mk tsA ts.length tsC))))),(aT b6 47 (ae.cells (dK ts f.toNat (t-f).toNat))),(aT b5 47 (ae.cells (bW ts f.toNat (t-f).toNat))),(aT b4 3 [(Value.int .i64 t)]),(aT b3 3 [(Value.int .i64 t)]),(aT b2 173 (bX.cells (bX.mk (au.mk (av.mk tsA ts.length tsC))))),(rd tsA ts.length 9 (ts.map ah.cells)).ro] [] (by kernel_rfl) (fun w hs=>St.br [0,1,2,3,4,5,6,7,8,9] rfl rfl hs) (fun w hs=>St.br [] rfl rfl hs)<|eS rfl (LW 5 rfl cp rfl rfl)<|eS rfl (LW 4 rfl cp rfl rfl)<|fw rfl<|cL rfl fun T30 hT30=>Fb rfl cK rfl<|RN hT30 [0,1,2,3,4,5,6,7,8,9] rfl rfl ?_
  refine cL rfl fun T31 hT31=>G4 rfl cK rfl<|RN hT31 [0,1,2,3,4,5,6,7,8,9] rfl rfl<|g_ rfl<|KK hK29<|aE ?_
  refine hQ _ _ _ (qn 0 rfl rfl<|bB (vs:=[(Value.agg (ae.cells (bW ts f.toNat (t-f).toNat)).toArray),(Value.agg (ae.cells (dK ts f.toNat (t-f).toNat)).toArray)]) ⟨⟨_,rfl,.inl ⟨_,_,cp,cy (vs:=(ae.cells (bW ts f.toNat (t-f).toNat))) 5 rfl rfl,rfl,rfl⟩⟩,⟨_,rfl,.inl ⟨_,_,cp,cy (vs:=(ae.cells (dK ts f.toNat (t-f).toNat))) 4 rfl rfl,rfl,rfl⟩⟩,trivial⟩ fun w hs=>fq ?_ hs)
  show (Value.tuple [(Value.agg (ae.cells (bW ts f.toNat (t-f).toNat)).toArray),(Value.agg (ae.cells (dK ts f.toNat (t-f).toNat)).toArray)].toArray)=(Value.tuple [(Value.agg (ae.cells (bW ts f.toNat (t-f).toNat)).toArray),(Value.agg (ae.cells (dK ts f.toNat (t-f).toNat)).toArray)].toArray)
  clear hs w hQ hN hT31 T31 hT30 T30 hK29 hK8 hK7 hK1
  rfl
 ·rintro r32 _ hx33
  cases hx33
 rintro k x ⟨z1,z2,m⟩ l ra rb S w1 K13 Qr14 hx hin15 hK13 hQr14 xQr14 yQr14
 obtain ⟨hk,rfl⟩:=zA hx
 obtain ⟨hr0,hr1⟩:=hin15
 try dsimp only at hr0 hr1
 try dsimp only
 refine WS fun _ hK16=>AL rfl dF fun b17=>fO rfl cK rfl<|RK hK16<|ar<|AL rfl dF fun b18=>fO rfl cK rfl<|aP<|e7 (fun _ _ h=>h) (fun w hs=>St.br [2,0,1,3,4,5,6,7,8] rfl rfl hs) ?_
 refine aO (hK13 _ _ ?_)
 refine aG<|aq fun _ hK19=>aq fun _ hK20=>er cG [0,1] [2,3] [false,false] [false,false] [(iM l (.loop rb)),(aT b18 47 (ae.cells (dK ts f.toNat k))),(aT b17 47 (ae.cells (bW ts f.toNat k))),(aT b4 3 [(Value.int .i64 t)]),(aT b3 3 [(Value.int .i64 m)]),(aT b2 173 (bX.cells (bX.mk (au.mk (av.mk tsA ts.length tsC))))),(rd tsA ts.length 9 (ts.map ah.cells)).ro] [] (by kernel_rfl) (fun w hs=>St.br [0,1,2,5,6,7,8] rfl rfl hs) (fun w hs=>St.br [] rfl rfl hs)<|eS rfl (LW 2 rfl cp rfl rfl)<|eS rfl (LW 1 rfl cp rfl rfl)<|fw rfl<|cL rfl fun T21 hT21=>G4 rfl cK rfl<|RN hT21 [0,1,2,5,6,7,8] rfl rfl ?_
 refine cL rfl fun T22 hT22=>Ev rfl cK rfl<|RN hT22 [0,1,2,5,6,7,8] rfl rfl<|g_ rfl<|KK hK20<|WS fun _ hK23=>rS (j8 6 rfl bu rfl)<|rS (j8 5 rfl bu rfl)<|rS (BI rfl g0)<|RK hK23 ?_
 refine bj rfl (fun h24=>?_) (fun h24=>?_)
 ·replace h24:=DT h24
  refine bE<|ai<|gG rfl ?_
  rw [show m=t from by omega]
  obtain rfl:k=(t-f).toNat:=by omega
  exact xQr14 _ () _ _ (by exact rfl) (fun w hs=>St.br [0,3,4,5,6,7,8] rfl rfl hs)
 replace h24:=DF h24
 refine WK hK19<|ar<|rS (j8 6 rfl bu rfl)<|rS (BI rfl (aZ ⟨by omega,by omega⟩))<|Jx rfl yN rfl rfl<|aP<|aK ?_
 exact hQr14 ((bW ts f.toNat k),(dK ts f.toNat k),(m+1)) _ _ (by refine ⟨by omega,?_⟩; dsimp only; omega) (fun w hs=>St.br [0,3,4,5,6,7,8] rfl rfl hs)
end
section
open Go.RowKit
set_option linter.unusedVariables false
set_option maxRecDepth 100000 in
set_option maxHeartbeats 400000 in
theorem zk (i:Int) (s:bS) (ts:List ah) (tsA:Option Addr) (tsC:Nat) (g1:Nat) (hst: ∀ x∈ts,a_ x) (hlen:ts.length≤12):
 eH Tryz.prog 134 [(Value.int .i64 i),(Value.agg (bS.cells s).toArray),(Value.pointer (some ⟨g1,0,none⟩))] [(rd tsA ts.length 9 (ts.map ah.cells)),(aT g1 173 (bX.cells (bX.mk (au.mk (av.mk tsA ts.length tsC)))))] (Value.bool (!(decide (ei ts s)))):=by
 refine bL Gf Tryz.func134 rfl rfl fun w0 Q hQ hN=>?_
 try dsimp only
 refine WS fun _ hK1=>fy rfl fun b2=>rS (AG rfl)<|RK hK1<|aq fun _ hK3=>lJ cG [0,1,2,3,4,5,6] [7,8,9,10,11,12,13,14,15,16,17,18,19,20,21,22,23,24,25,26] [false,false,false,false,false,false,false] [] [(aT b2 99 (bS.cells s)),(rd tsA ts.length 9 (ts.map ah.cells)).ro,(aT g1 173 (bX.cells (bX.mk (au.mk (av.mk tsA ts.length tsC))))).ro] [] (by kernel_rfl) (fun w hs=>St.br [0,1,2] rfl rfl hs) (fun w hs=>St.br [] rfl rfl hs)<|eS rfl (FA 0 rfl p5 rfl)<|eS rfl (FA 0 rfl gv rfl)<|eS rfl (ny (Value.slice tsA ts.length tsC) 2 rfl lD rfl rfl)<|eS rfl (LN rfl qk) ?_
 refine eS rfl (BI rfl (da ⟨by omega,by omega⟩))<|eS rfl (FA 0 rfl gX rfl)<|eS rfl (L1 (Value.int .i64 s.ak) 0 rfl bu rfl rfl)<|fw rfl<|N1 7<|NO rfl rfl [8,9,10,11,12,13,14,15,16,17,18,19,20,21,22,23,24,25,26] fun T4 hT4=>fp (xs:=[.tmp 12]) (cs:=[(Value.int .i64 s.ak)]) rfl dY lK rfl rfl rfl rfl (by simp [Value.cells]) rfl rfl fun b5=>RD hT4 1 rfl<|Ei [14,15,16,17,18,19,20,21,22,23,24,25,26,27,28,29,30,31,5] (by kernel_rfl) (by kernel_rfl) rfl _ rfl rfl (fun w hs=>St.br [1,2,3] rfl rfl hs)<|dS (CL (eH.eq (mw 0 (((ts.length:Nat):Int)-1) ([s.ak]) (some ⟨b5,0,none⟩) 1 (by first|assumption|omega|(simp; done)|(simp; omega))) dq) (aM (bf 0 rfl rfl (by simp [bY]) rfl)<|ay) rfl) ?_
 refine dS (NT rfl)<|dS (MV rfl) ?_
 refine e9 (t:=16) rfl (fun h16=>?_) (fun h16=>?_)
 ·replace h16:=XT h16
  refine dS (OX rfl)<|dS (OX rfl)<|dS (OX rfl)<|dS (OX rfl)<|dS (OX rfl)<|dS (OX rfl)<|dS (OX rfl)<|dS (OX rfl)<|dS (OX rfl)<|dS (OX rfl) ?_
  refine dS (OX rfl)<|dS (OX rfl)<|dS (OX rfl)<|dS (OX rfl)<|dS (PK rfl)<|dS (AG rfl)<|cP<|RK hK3<|aE<|Q1 hQ rfl rfl rfl ?_
  first|(refine congrArg Value.bool ?_; rw [decide_eq_false (pP (by omega))]; rfl)|exact congrArg (fun b=>Value.bool (!b)) (decide_eq_decide.2 (p_ (by omega) hx).symm)
 replace h16:=XF h16
 refine dS (FA 1 rfl f_ rfl)<|dS (LP (ae.cells s.ek) 1 rfl cp rfl rfl rfl)<|dS (FA 0 rfl p5 rfl)<|dS (FA 0 rfl gv rfl)<|dS (ny (Value.slice tsA ts.length tsC) 3 rfl lD rfl rfl)<|dS (FA 0 rfl gX rfl)<|dS (L1 (Value.int .i64 s.ak) 1 rfl bu rfl rfl) ?_
 obtain ⟨x,hx⟩: ∃ y_,ts[(s.ak).toNat]? =some y_:=⟨ts[(s.ak).toNat]'(by omega),List.getElem?_eq_getElem _⟩
 have hxm:(ts.map ah.cells)[(s.ak).toNat]? =some (ah.cells x):=by rw [List.getElem?_map,hx]; rfl
 refine dS (IA ((s.ak).toNat) rfl (aI 2 rfl) rR (by decide) (by omega) (by omega))<|dS (ou ((((s.ak).toNat)*9)+1) rfl (aI 2 rfl) (Nat.mul_pos (by omega) (by decide)) lO rfl) ?_
 have hxo:=(hst x (List.mem_of_getElem? hx)).2.1
 simp only [cT] at hxo
 refine dS (ou ((((s.ak).toNat)*9)+1) rfl (aI 2 rfl) (Nat.mul_pos (by omega) (by decide)) bU rfl)<|dS (iX ((s.ak).toNat) 1 (Value.int .i64 x.g5.Lo) rfl bu (aI 2 rfl) hxm rfl (by decide) rfl)<|dS (BI rfl (da ⟨by omega,by omega⟩))<|dS (CL (rI s.ek 0 (x.g5.Lo-1)) (ay) rfl)<|dS (NT rfl)<|dS (PK rfl)<|dS (AG rfl)<|cP<|RK hK3<|aE ?_
 refine Q1 hQ rfl rfl rfl ?_
 first|(refine congrArg Value.bool ?_; rw [decide_eq_false (pP (by omega))]; rfl)|exact congrArg (fun b=>Value.bool (!b)) (decide_eq_decide.2 (p_ (by omega) hx).symm)
set_option maxRecDepth 100000 in
set_option maxHeartbeats 400000 in
theorem wZ (l:List bS) (lA:Option Addr) (lC:Nat) (f:Value) (p:Int→bS→Bool) (X:aA) (hf: ∀ x0 x1,(∃ k:Nat,x0=(k:Int)∧l[k]? =some x1)→Ap Tryz.prog f [.int .i64 x0,.agg (bS.cells x1).toArray] [X] (.bool (p x0 x1))) (hlen:l.length≤1000000):
 rp Tryz.prog 133 [(Value.slice lA l.length lC),f] [(rd lA l.length 3 (l.map bS.cells)),X] (fun (x:(Option Addr)×Nat)=>(Value.slice x.1 ((yz (fun jj yy=>p (jj:Int) yy) l).length) x.2)) (fun (x:(Option Addr)×Nat)=>True) (fun (x:(Option Addr)×Nat)=>[(own x.1 x.2 3 1 ((yz (fun jj yy=>p (jj:Int) yy) l).map iC))]):=by
 refine gp FR Tryz.func133 rfl rfl fun w0 Q hQ hN=>?_
 try dsimp only
 refine WS fun _ hK1=>rS (AG rfl)<|RK hK1<|WS fun _ hK2=>rS (AG rfl)<|RK hK2<|aq fun _ hK3=>WS fun _ hK4=>rS (MV rfl)<|rS (LN rfl FH) ?_
 refine rS (MV rfl)<|RK hK4<|aG<|fU 3 1 ?_
 have hinit:(0≤l.length):=by exact Nat.zero_le _
 refine cq (ι:={z:Nat×(Option Addr)×Nat // (z.1≤l.length)}) (fun z=>[(0,(Value.slice lA l.length lC)),(1,f),(5,(Value.slice z.1.2.1 ((o7 (fun jj yy=>p (jj:Int) yy) l z.1.1).length) z.1.2.2)),(8,(Value.slice lA l.length lC)),(9,(Value.int .i64 ((l.length:Nat):Int))),(10,(Value.int .i64 ((z.1.1:Nat):Int)))]) (fun z=>[(own z.1.2.1 z.1.2.2 3 1 ((o7 (fun jj yy=>p (jj:Int) yy) l z.1.1).map iC)),(rd lA l.length 3 (l.map bS.cells)).ro,X.ro]) (fun z=>l.length-z.1.1) ⟨(0,none,0),hinit⟩ (an.cons rfl<|an.cons rfl<|an.cons rfl<|an.cons rfl<|an.cons rfl<|an.cons rfl<|an.nil _) (fun w hs=>St.br [0,1,2] rfl rfl hs) ?_
 clear hinit
 rintro ⟨⟨i,a,c⟩,hl0_0⟩ J5 hJ5
 try dsimp only at hl0_0
 try dsimp only
 refine WS fun _ hK6=>rS (BI rfl cv)<|RK hK6<|aq fun _ hK7=>?_
 refine bj rfl (fun h8=>?_) (fun h8=>?_)
 rotate_left 1
 ·replace h8:=DF h8
  refine bE<|ai<|ai<|aH<|KK hK3<|WS fun _ hK18=>?_
  rw [CO (p:=fun (i:Nat) x=>p (i:Int) x) (show i=l.length by omega)]
  refine rS (MV rfl)<|rS (AG rfl)<|RK hK18<|aE ?_
  refine hQ _ _ _ (bB (vs:=[(Value.slice a ((yz (fun jj yy=>p (jj:Int) yy) l).length) c)]) ⟨rfl,trivial⟩ fun w hs=>fB (a,c) [0] ?_ ?_ rfl rfl rfl hs)
  ·rfl
  ·trivial
 replace h8:=DT h8
 refine WK hK7<|aq fun _ hK9=>aG<|WS fun _ hK10=>rS (MV rfl) ?_
 obtain ⟨x,hx⟩: ∃ y_,l[i]? =some y_:=⟨l[i]'(by omega),List.getElem?_eq_getElem _⟩
 have hxm:(l.map bS.cells)[i]? =some (bS.cells x):=by rw [List.getElem?_map,hx]; rfl
 refine rS (IA i rfl (aI 1 rfl) Bv (by decide) (by omega) (by omega))<|rS (lF i 0 (bS.cells x) rfl kO (aI 1 rfl) hxm rfl (by decide) rfl rfl)<|AL rfl B1 fun b11=>rS (AG rfl)<|fO rfl F7 rfl<|RK hK10<|WS fun _ hK12=>rS (MV rfl)<|rS (MV rfl)<|rS (LW 0 rfl kO rfl rfl) ?_
 refine rS (SX (qL rfl rfl rfl (hf ((i:Nat):Int) x ⟨i,rfl,hx⟩) (ax 3 rfl rfl<|ay)) rfl rfl)<|RK hK12 ?_
 refine bj rfl (fun hp=>?_) (fun hp=>?_)
 rotate_left 1
 ·refine cM ?_
  refine aK<|KK hK9<|ar ?_
  rw [← B4 (p:=fun (i:Nat) x=>p (i:Int) x) hx hp]
  refine rS (BI rfl (aZ ⟨by omega,by omega⟩))<|rS (MV rfl)<|aP ?_
  have hb17:(Value.int .i64 (((i+1):Nat):Int))=(Value.int .i64 (((i:Nat):Int)+1)):=by exact congrArg (Value.int .i64) (by omega)
  refine aO (hJ5 ⟨((i+1),a,c),(by first|omega|(simp only []; omega))⟩ _ _ _ rfl (by first|omega|(simp; omega)) (an.cons rfl<|an.cons rfl<|an.cons rfl<|an.cons rfl<|an.cons rfl<|aQ rfl hb17<|an.nil _) (fun w hs=>St.br [1,2,3] rfl rfl hs))
 refine ar<|rS (MV rfl)<|rS (MV rfl)<|fp (xs:=[.tmp 20]) (cs:=[(Value.int .i64 ((i:Nat):Int))]) rfl dY lK rfl rfl rfl rfl (by simp [Value.cells]) rfl rfl fun b13=>dR (es2:=(List.map iC (o7 (fun jj yy=>p (jj:Int) yy) l (i+1)))) (m':=(o7 (fun jj yy=>p (jj:Int) yy) l (i+1)).length) 2 rfl rfl rfl o9 rfl rfl (by simp) (bf (es:=List.map iC [((i:Nat):Int)]) 0 rfl rfl (by simp [bY]) rfl) (jF _) (by have:=vn (p:=fun (i:Nat) x=>p (i:Int) x) (l:=l) (n:=i); simp; omega) (by have:=vn (p:=fun (i:Nat) x=>p (i:Int) x) (l:=l) (n:=i); simp only [maxLen]; omega) (by rw [An hx hp]; simp) (by simp) rfl fun a14 c15=>?_
 try dsimp only
 refine rS (AG rfl)<|aP<|aK<|KK hK9<|ar<|rS (BI rfl (aZ ⟨by omega,by omega⟩))<|rS (MV rfl)<|aP ?_
 have hb16:(Value.int .i64 (((i+1):Nat):Int))=(Value.int .i64 (((i:Nat):Int)+1)):=by exact congrArg (Value.int .i64) (by omega)
 refine aO (hJ5 ⟨((i+1),a14,c15),(by first|omega|(simp only []; omega))⟩ _ _ _ rfl (by first|omega|(simp; omega)) (an.cons rfl<|an.cons rfl<|an.cons rfl<|an.cons rfl<|an.cons rfl<|aQ rfl hb16<|an.nil _) (fun w hs=>St.br [2,3,4] rfl rfl hs))
set_option maxRecDepth 100000 in
set_option maxHeartbeats 400000 in
theorem vm (ts:List ah) (tsA:Option Addr) (tsC:Nat) (l:List bS) (lA:Option Addr) (lC:Nat) (hst: ∀ x∈ts,a_ x) (hlen:ts.length≤12) (hl:l.length≤4):
 eH Tryz.prog 116 [(Value.agg (bX.cells (bX.mk (au.mk (av.mk tsA ts.length tsC)))).toArray),(Value.slice lA l.length lC)] [(rd tsA ts.length 9 (ts.map ah.cells)),(rd lA l.length 3 (l.map bS.cells))] (Value.bool (decide (∀ s∈l,ei ts s))):=by
 refine bL Fc Tryz.func116 rfl rfl fun w0 Q hQ hN=>?_
 try dsimp only
 refine WS fun _ hK1=>fy rfl fun b2=>rS (AG rfl)<|RK hK1<|WS fun _ hK3=>rS (MV rfl)<|rS (FU rfl)<|cX (wZ l lA lC (Value.func (.func 134) [].toArray [(Value.pointer (some ⟨b2,0,none⟩))].toArray) (fun u4 u5=>(!(decide (ei ts u5)))) (cZ [(rd tsA ts.length 9 (ts.map ah.cells)),(aT b2 173 (bX.cells (bX.mk (au.mk (av.mk tsA ts.length tsC)))))]) (by intro u4 u5 _; exact nG (fi:=[]) (ca:=[(Value.pointer (some ⟨b2,0,none⟩))]) (mF (zk u4 u5 ts tsA tsC b2 (by first|assumption|omega) (by first|assumption|omega)) (ax 0 rfl rfl<|ax 1 rfl rfl<|ay))) (by first|assumption|omega|(simp; done)|(simp; omega))) (ax 2 rfl rfl<|aM (mW (ax 1 rfl rfl<|ax 0 rfl rfl<|ay))<|ay) rfl fun y6 hy7=>?_
 obtain ⟨a8,c9⟩:=y6
 try dsimp only
 refine rS (LN rfl l9)<|rS (BI rfl g0)<|rS (AG rfl)<|RK hK3<|aE<|Q1 hQ rfl rfl rfl ?_
 exact congrArg Value.bool (decide_eq_decide.2 (by rw [show ∀ n:Nat,((n:Int)=0)↔n=0 from fun n=>by omega,yP]; simp only [Bool.not_eq_false',decide_eq_true_eq]; exact ⟨fun h s hs=>by obtain ⟨k,hk⟩:=List.getElem?_of_mem hs; exact h k s hk,fun h k s hk=>h s (List.mem_of_getElem? hk)⟩))
set_option maxRecDepth 100000 in
set_option maxHeartbeats 400000 in
theorem xj (z:ae) (hz:jU z):
 eH Tryz.prog 119 [(Value.agg (ae.cells z).toArray)] [] (Value.agg (ae.cells (hZ z)).toArray):=by
 unfold jU at hz
 refine bL GQ Tryz.func119 rfl rfl fun w0 Q hQ hN=>?_
 try dsimp only
 refine WS fun _ hK1=>fy rfl fun b2=>AL rfl dF fun b3=>RK hK1<|WS fun _ hK4=>rS (FA 1 rfl cd rfl)<|rS (L1 (Value.int .i64 z.Hi) 1 rfl bu rfl rfl)<|rS (NG rfl ⟨by omega,by omega⟩)<|rS (FA 0 rfl bU rfl)<|rS (L1 (Value.int .i64 z.Lo) 1 rfl bu rfl rfl) ?_
 refine rS (NG rfl ⟨by omega,by omega⟩)<|rS (SX (bp (xs:=[(0,.tmp 5),(1,.tmp 8)]) (cs:=(ae.cells (ae.mk (-z.Hi) (-z.Lo)))) rfl rfl (bq fI rfl)) rfl rfl)<|fO rfl cK rfl<|RK hK4<|aE ?_
 refine hQ _ _ _ (bB (vs:=[(Value.agg (ae.cells (ae.mk (-z.Hi) (-z.Lo))).toArray)]) ⟨⟨_,rfl,.inl ⟨_,_,cp,cy (vs:=(ae.cells (ae.mk (-z.Hi) (-z.Lo)))) 0 rfl rfl,rfl,rfl⟩⟩,trivial⟩ fun w hs=>fq ?_ hs)
 show (Value.agg (ae.cells (ae.mk (-z.Hi) (-z.Lo))).toArray)=(Value.agg (ae.cells (hZ z)).toArray)
 clear hs w hQ hN hK4 hK1
 rfl
set_option maxRecDepth 100000 in
set_option maxHeartbeats 400000 in
theorem FG (ts:List ah) (tsA:Option Addr) (tsC:Nat) (s:bS) (hlen:ts.length≤1000000) (hside: ∀ x∈ts,0≤x.gi∧x.gi≤255):
 eH Tryz.prog 78 [(Value.agg (au.cells (au.mk (av.mk tsA ts.length tsC))).toArray),(Value.agg (bS.cells s).toArray)] [(rd tsA ts.length 9 (ts.map ah.cells))] (Value.tuple [(Value.agg (ae.cells (vc ts s)).toArray),(Value.int .i64 (sq ts s))].toArray):=by
 refine bL HR Tryz.func78 rfl rfl fun w0 Q hQ hN=>?_
 try dsimp only
 refine WS fun _ hK1=>fy rfl fun b2=>fy rfl fun b3=>AL rfl dF fun b4=>rS (AG rfl)<|RK hK1<|WS fun _ hK5=>rS (LW 2 rfl jn rfl rfl)<|rS (CL (yq ts tsA tsC hlen hside) (ax 3 rfl rfl<|ay) rfl)<|rS (MV rfl) ?_
 refine rS (EX rfl)<|rS (EX rfl)<|AL rfl Bp fun b6=>fO rfl zW rfl<|rS (AG rfl)<|RK hK5<|aq fun _ hK7=>WS fun _ hK8=>rS (MV rfl)<|rS (BI rfl dB) ?_
 refine RK hK8 ?_
 refine bj rfl (fun he=>?_) (fun he=>?_)
 ·replace he:=XT he
  refine WS fun _ hK9=>rS (SX (bp (xs:=[]) (cs:=(ae.cells (ae.mk 0 0))) rfl rfl (bq fI rfl)) rfl rfl)<|rS (MV rfl)<|nk rfl cK rfl<|rS (AG rfl)<|RK hK9<|aE ?_
  refine hQ _ _ _ (bB (vs:=[(Value.agg (ae.cells (ae.mk 0 0)).toArray),(Value.int .i64 (if cj ts=true then 0 else 10))]) ⟨⟨_,rfl,.inl ⟨_,_,cp,cy (vs:=(ae.cells (ae.mk 0 0))) 1 rfl rfl,rfl,rfl⟩⟩,rfl,trivial⟩ fun w hs=>fq ?_ hs)
  show (Value.tuple [(Value.agg (ae.cells (ae.mk 0 0)).toArray),(Value.int .i64 (if cj ts=true then 0 else 10))].toArray)=(Value.tuple [(Value.agg (ae.cells (vc ts s)).toArray),(Value.int .i64 (sq ts s))].toArray)
  clear hs w hQ hN hK9 hK8 hK7 hK5 hK1
  first|(have e:=mY (s:=s) (g7 he).1; rw [e.1,e.2,(g7 he).2]<;>rfl)|(have e:=nh htr h23; rw [e.1,e.2]<;>rfl)|(have e:=l8 htr h23; rw [e.1,e.2]; unfold zU; rw [show (s.ak-0).toNat=s.ak.toNat by rw [Int.sub_zero]]<;>rfl)
 replace he:=XF he
 refine WK hK7<|aq fun _ hK10=>WS fun _ hK11=>?_
 have htr:=xJ he
 have hst:=iI htr
 have hl12:=jt htr
 refine rS (LW 0 rfl rU rfl rfl)<|rS (LW 2 rfl kO rfl rfl)<|fp (xs:=[.tmp 20]) (cs:=(bS.cells s)) rfl Bv B1 rfl rfl rfl rfl (by simp [Value.cells,bS.bg]) rfl rfl fun b12=>rS (CL (eH.eq (vm ts tsA tsC ([s]) (some ⟨b12,0,none⟩) 1 (by first|assumption|omega|(simp; done)|(simp; omega)) (by first|assumption|omega|(simp; done)|(simp; omega)) (by first|assumption|omega|(simp; done)|(simp; omega))) xI) (ax 5 rfl rfl<|aM (bf 0 rfl rfl (by simp [bS.bg]) rfl)<|ay) rfl)<|rS (NT rfl)<|RK hK11 ?_
 refine bj rfl (fun h23=>?_) (fun h23=>?_)
 ·replace h23:=XT h23
  refine WS fun _ hK13=>rS (SX (bp (xs:=[]) (cs:=(ae.cells (ae.mk 0 0))) rfl rfl (bq fI rfl)) rfl rfl)<|rM rfl cK rfl<|rS (AG rfl)<|RK hK13<|aE ?_
  refine hQ _ _ _ (bB (vs:=[(Value.agg (ae.cells (ae.mk 0 0)).toArray),(Value.int .i64 12)]) ⟨⟨_,rfl,.inl ⟨_,_,cp,cy (vs:=(ae.cells (ae.mk 0 0))) 2 rfl rfl,rfl,rfl⟩⟩,rfl,trivial⟩ fun w hs=>fq ?_ hs)
  show (Value.tuple [(Value.agg (ae.cells (ae.mk 0 0)).toArray),(Value.int .i64 12)].toArray)=(Value.tuple [(Value.agg (ae.cells (vc ts s)).toArray),(Value.int .i64 (sq ts s))].toArray)
  clear hs w hQ hN hK13 hK11 hK10 hK8 hK7 hK5 hK1
  first|(have e:=mY (s:=s) (g7 he).1; rw [e.1,e.2,(g7 he).2]<;>rfl)|(have e:=nh htr h23; rw [e.1,e.2]<;>rfl)|(have e:=l8 htr h23; rw [e.1,e.2]; unfold zU; rw [show (s.ak-0).toNat=s.ak.toNat by rw [Int.sub_zero]]<;>rfl)
 replace h23:=XF h23
 refine WK hK10<|WS fun _ hK14=>?_
 have hsb:=h23.1
 have hof:=nX hst h23
 refine rS (LW 1 rfl rU rfl rfl)<|rS (FA 0 rfl gX rfl)<|rS (L1 (Value.int .i64 s.ak) 3 rfl bu rfl rfl)<|rS (CL (BE ts tsA tsC 0 s.ak (by first|assumption|omega|(simp; done)|(simp; omega)) (by first|assumption|omega|(simp; done)|(simp; omega)) (by omega)) (ax 5 rfl rfl<|ay) rfl)<|rS (MV rfl)<|rS (EX rfl)<|rS (EX rfl)<|AL rfl dF fun b15=>AL rfl dF fun b16=>nk rfl cK rfl ?_
 refine fO rfl cK rfl<|RK hK14<|WS fun _ hK17=>rS (LW 1 rfl cp rfl rfl)<|rS (FA 1 rfl f_ rfl)<|rS (LP (ae.cells s.ek) 5 rfl cp rfl rfl rfl)<|fp (xs:=[.tmp 34]) (cs:=(ae.cells s.ek)) rfl km dF rfl rfl rfl rfl (by simp [Value.cells,ae.bg]) rfl rfl fun b18=>rS (CL (eH.eq (mX (bW ts (0:Int).toNat (s.ak-0).toNat) ([s.ek]) (some ⟨b18,0,none⟩) 1 (by exact n_ hst (by omega)) (by intro z hz; simp only [List.mem_singleton] at hz; subst hz; exact hof) (by simp)) lg) (aM (bf 0 rfl rfl (by simp [ae.bg]) rfl)<|ay) rfl)<|Fb rfl cK rfl<|rS (AG rfl) ?_
 refine RK hK17<|aE ?_
 refine hQ _ _ _ (bB (vs:=[(Value.agg (ae.cells (gZ (bW ts (0:Int).toNat (s.ak-0).toNat) s.ek)).toArray),(Value.int .i64 0)]) ⟨⟨_,rfl,.inl ⟨_,_,cp,cy (vs:=(ae.cells (gZ (bW ts (0:Int).toNat (s.ak-0).toNat) s.ek))) 5 rfl rfl,rfl,rfl⟩⟩,rfl,trivial⟩ fun w hs=>fq ?_ hs)
 show (Value.tuple [(Value.agg (ae.cells (gZ (bW ts (0:Int).toNat (s.ak-0).toNat) s.ek)).toArray),(Value.int .i64 0)].toArray)=(Value.tuple [(Value.agg (ae.cells (vc ts s)).toArray),(Value.int .i64 (sq ts s))].toArray)
 clear hs w hQ hN hK17 hK14 hK11 hK10 hK8 hK7 hK5 hK1
 first|(have e:=mY (s:=s) (g7 he).1; rw [e.1,e.2,(g7 he).2]<;>rfl)|(have e:=nh htr h23; rw [e.1,e.2]<;>rfl)|(have e:=l8 htr h23; rw [e.1,e.2]; unfold zU; rw [show (s.ak-0).toNat=s.ak.toNat by rw [Int.sub_zero]]<;>rfl)
set_option maxRecDepth 100000 in
set_option maxHeartbeats 400000 in
theorem CT (ts:List ah) (tsA:Option Addr) (tsC:Nat) (p:bS) (q:bS) (hlen:ts.length≤1000000) (hside: ∀ x∈ts,0≤x.gi∧x.gi≤255):
 eH Tryz.prog 79 [(Value.agg (au.cells (au.mk (av.mk tsA ts.length tsC))).toArray),(Value.agg (bS.cells p).toArray),(Value.agg (bS.cells q).toArray)] [(rd tsA ts.length 9 (ts.map ah.cells))] (Value.tuple [(Value.agg (ae.cells (dJ ts p q)).toArray),(Value.int .i64 (fh ts p q))].toArray):=by
 refine bL HJ Tryz.func79 rfl rfl fun w0 Q hQ hN=>?_
 try dsimp only
 refine WS fun _ hK1=>fy rfl fun b2=>fy rfl fun b3=>fy rfl fun b4=>AL rfl dF fun b5=>rS (AG rfl)<|RK hK1<|WS fun _ hK6=>rS (LW 3 rfl jn rfl rfl)<|rS (CL (yq ts tsA tsC hlen hside) (ax 4 rfl rfl<|ay) rfl) ?_
 refine rS (MV rfl)<|rS (EX rfl)<|rS (EX rfl)<|AL rfl Bp fun b7=>fO rfl zW rfl<|rS (AG rfl)<|RK hK6<|aq fun _ hK8=>WS fun _ hK9=>rS (MV rfl) ?_
 refine rS (BI rfl dB)<|RK hK9 ?_
 refine bj rfl (fun he=>?_) (fun he=>?_)
 ·replace he:=XT he
  refine WS fun _ hK10=>rS (SX (bp (xs:=[]) (cs:=(ae.cells (ae.mk 0 0))) rfl rfl (bq fI rfl)) rfl rfl)<|rS (MV rfl)<|nk rfl cK rfl<|rS (AG rfl)<|RK hK10<|aE ?_
  refine hQ _ _ _ (bB (vs:=[(Value.agg (ae.cells (ae.mk 0 0)).toArray),(Value.int .i64 (if cj ts=true then 0 else 10))]) ⟨⟨_,rfl,.inl ⟨_,_,cp,cy (vs:=(ae.cells (ae.mk 0 0))) 1 rfl rfl,rfl,rfl⟩⟩,rfl,trivial⟩ fun w hs=>fq ?_ hs)
  show (Value.tuple [(Value.agg (ae.cells (ae.mk 0 0)).toArray),(Value.int .i64 (if cj ts=true then 0 else 10))].toArray)=(Value.tuple [(Value.agg (ae.cells (dJ ts p q)).toArray),(Value.int .i64 (fh ts p q))].toArray)
  clear hs w hQ hN hK10 hK9 hK8 hK6 hK1
  first|(have e:=fV (a:=p) (b:=q) (g7 he).1; rw [e.1,e.2,(g7 he).2]<;>rfl)|(have e:=fR htr h26; rw [e.1,e.2]<;>rfl)|(have e:=cw htr ⟨hp,hq⟩; rw [e.1,e.2]; unfold fX nz; rw [if_pos h47]<;>rfl)|(have e:=cw htr ⟨hp,hq⟩; rw [e.1,e.2]; unfold fX nz; rw [if_neg h47]<;>rfl)
 replace he:=XF he
 refine WK hK8<|aq fun _ hK11=>WS fun _ hK12=>?_
 have htr:=xJ he
 have hst:=iI htr
 have hl12:=jt htr
 refine rS (LW 0 rfl rU rfl rfl)<|rS (LW 3 rfl kO rfl rfl)<|rS (LW 2 rfl kO rfl rfl)<|fp (xs:=[.tmp 22,.tmp 23]) (cs:=((bS.cells p)++(bS.cells q))) rfl Bv B1 rfl rfl rfl rfl (by simp [Value.cells,bS.bg]) rfl rfl fun b13=>rS (CL (eH.eq (vm ts tsA tsC ([p,q]) (some ⟨b13,0,none⟩) 2 (by first|assumption|omega|(simp; done)|(simp; omega)) (by first|assumption|omega|(simp; done)|(simp; omega)) (by first|assumption|omega|(simp; done)|(simp; omega))) xd) (ax 6 rfl rfl<|aM (bf 0 rfl rfl (by simp [bS.bg]) rfl)<|ay) rfl)<|rS (NT rfl)<|RK hK12 ?_
 refine bj rfl (fun h26=>?_) (fun h26=>?_)
 ·replace h26:=XT h26
  refine WS fun _ hK14=>rS (SX (bp (xs:=[]) (cs:=(ae.cells (ae.mk 0 0))) rfl rfl (bq fI rfl)) rfl rfl)<|rM rfl cK rfl<|rS (AG rfl)<|RK hK14<|aE ?_
  refine hQ _ _ _ (bB (vs:=[(Value.agg (ae.cells (ae.mk 0 0)).toArray),(Value.int .i64 12)]) ⟨⟨_,rfl,.inl ⟨_,_,cp,cy (vs:=(ae.cells (ae.mk 0 0))) 2 rfl rfl,rfl,rfl⟩⟩,rfl,trivial⟩ fun w hs=>fq ?_ hs)
  show (Value.tuple [(Value.agg (ae.cells (ae.mk 0 0)).toArray),(Value.int .i64 12)].toArray)=(Value.tuple [(Value.agg (ae.cells (dJ ts p q)).toArray),(Value.int .i64 (fh ts p q))].toArray)
  clear hs w hQ hN hK14 hK12 hK11 hK9 hK8 hK6 hK1
  first|(have e:=fV (a:=p) (b:=q) (g7 he).1; rw [e.1,e.2,(g7 he).2]<;>rfl)|(have e:=fR htr h26; rw [e.1,e.2]<;>rfl)|(have e:=cw htr ⟨hp,hq⟩; rw [e.1,e.2]; unfold fX nz; rw [if_pos h47]<;>rfl)|(have e:=cw htr ⟨hp,hq⟩; rw [e.1,e.2]; unfold fX nz; rw [if_neg h47]<;>rfl)
 replace h26:=XF h26
 refine WK hK11<|WS fun _ hK15=>?_
 obtain ⟨hp,hq⟩:=h26
 have hpb:=hp.1
 have hqb:=hq.1
 have hpo:=nX hst hp
 have hqo:=nX hst hq
 have hlo:=uK hpo
 have hwy:=n_ hst (f:=(min p.ak q.ak).toNat) (k:=(max p.ak q.ak-min p.ak q.ak).toNat) (by omega)
 refine rS (LW 1 rfl rU rfl rfl)<|rS (FA 0 rfl gX rfl)<|rS (L1 (Value.int .i64 p.ak) 4 rfl bu rfl rfl)<|rS (FA 0 rfl gX rfl)<|rS (L1 (Value.int .i64 q.ak) 3 rfl bu rfl rfl)<|rS (MN rfl)<|rS (FA 0 rfl gX rfl)<|rS (L1 (Value.int .i64 p.ak) 4 rfl bu rfl rfl)<|rS (FA 0 rfl gX rfl)<|rS (L1 (Value.int .i64 q.ak) 3 rfl bu rfl rfl) ?_
 refine rS (MX rfl)<|rS (CL (BE ts tsA tsC (min p.ak q.ak) (max p.ak q.ak) (by first|assumption|omega|(simp; done)|(simp; omega)) (by first|assumption|omega|(simp; done)|(simp; omega)) (by omega)) (ax 6 rfl rfl<|ay) rfl)<|rS (MV rfl)<|rS (EX rfl)<|rS (EX rfl)<|AL rfl dF fun b16=>AL rfl dF fun b17=>nk rfl cK rfl<|fO rfl cK rfl<|RK hK15 ?_
 refine aq fun _ hK18=>WS fun _ hK19=>rS (FA 0 rfl gX rfl)<|rS (L1 (Value.int .i64 q.ak) 5 rfl bu rfl rfl)<|rS (FA 0 rfl gX rfl)<|rS (L1 (Value.int .i64 p.ak) 6 rfl bu rfl rfl)<|rS (BI rfl cv)<|RK hK19 ?_
 refine bj rfl (fun h47=>?_) (fun h47=>?_)
 rotate_left 1
 ·replace h47:=DF h47
  refine WK hK18<|aq fun _ hK25=>er cG [0,1,2,3,4,5,9] [6,7,8] [false,false,false,false,false,false,false] [false,false,false] [(aT b17 47 (ae.cells (dK ts (min p.ak q.ak).toNat ((max p.ak q.ak)-(min p.ak q.ak)).toNat))),(aT b16 47 (ae.cells (bW ts (min p.ak q.ak).toNat ((max p.ak q.ak)-(min p.ak q.ak)).toNat))),(aT b13 99 ((bS.cells p)++(bS.cells q))),(aT b7 173 (bX.cells (bX.mk (au.mk (av.mk tsA ts.length tsC))))),(aT b4 99 (bS.cells q)),(aT b3 99 (bS.cells p)),(aT b2 24 (au.cells (au.mk (av.mk tsA ts.length tsC)))),(rd tsA ts.length 9 (ts.map ah.cells)).ro] [] (by kernel_rfl) (fun w hs=>St.br [0,1,2,3,5,6,7,8] rfl rfl hs) (fun w hs=>St.br [] rfl rfl hs)<|eS rfl (LW 1 rfl cp rfl rfl)<|eS rfl (FA 1 rfl f_ rfl)<|eS rfl (LP (ae.cells q.ek) 4 rfl cp rfl rfl rfl)<|eS rfl (FA 1 rfl f_ rfl)<|eS rfl (LP (ae.cells p.ek) 5 rfl cp rfl rfl rfl)<|eS rfl (CL (xj p.ek (by first|assumption|omega|(simp; done)|(simp; omega))) (ay) rfl)<|eS rfl (AG rfl) ?_
  refine fw rfl<|cL rfl fun T26 hT26=>fp (xs:=[.tmp 52,.tmp 55]) (cs:=((ae.cells q.ek)++(ae.cells (hZ p.ek)))) rfl km dF rfl rfl rfl rfl (by simp [Value.cells,ae.bg]) rfl rfl fun b27=>RN hT26 [1,2,3,4,6,7,8,9] rfl rfl<|cL rfl fun T28 hT28=>rS (CL (eH.eq (mX (bW ts (min p.ak q.ak).toNat ((max p.ak q.ak)-(min p.ak q.ak)).toNat) ([q.ek,(hZ p.ek)]) (some ⟨b27,0,none⟩) 2 (by first|exact hwy|exact uK hwy) (by intro z hz; simp only [List.mem_cons,List.not_mem_nil,or_false] at hz; rcases hz with rfl|rfl; exact hqo; exact hlo) (by simp)) vw) (aM (bf 0 rfl rfl (by simp [ae.bg]) rfl)<|ay) rfl)<|RN hT28 [1,2,3,4,6,7,8,9] rfl rfl<|cL rfl fun T29 hT29=>Fb rfl cK rfl<|RN hT29 [1,2,3,4,6,7,8,9] rfl rfl ?_
  refine g_ rfl<|KK hK25<|aE ?_
  refine hQ _ _ _ (bB (vs:=[(Value.agg (ae.cells (gZ (gZ (bW ts (min p.ak q.ak).toNat ((max p.ak q.ak)-(min p.ak q.ak)).toNat) q.ek) (hZ p.ek))).toArray),(Value.int .i64 0)]) ⟨⟨_,rfl,.inl ⟨_,_,cp,cy (vs:=(ae.cells (gZ (gZ (bW ts (min p.ak q.ak).toNat ((max p.ak q.ak)-(min p.ak q.ak)).toNat) q.ek) (hZ p.ek)))) 5 rfl rfl,rfl,rfl⟩⟩,rfl,trivial⟩ fun w hs=>fq ?_ hs)
  show (Value.tuple [(Value.agg (ae.cells (gZ (gZ (bW ts (min p.ak q.ak).toNat ((max p.ak q.ak)-(min p.ak q.ak)).toNat) q.ek) (hZ p.ek))).toArray),(Value.int .i64 0)].toArray)=(Value.tuple [(Value.agg (ae.cells (dJ ts p q)).toArray),(Value.int .i64 (fh ts p q))].toArray)
  clear hs w hQ hN hT29 T29 hT28 T28 hT26 T26 hK25 hK19 hK18 hK15 hK12 hK11 hK9 hK8 hK6 hK1
  first|(have e:=fV (a:=p) (b:=q) (g7 he).1; rw [e.1,e.2,(g7 he).2]<;>rfl)|(have e:=fR htr h26; rw [e.1,e.2]<;>rfl)|(have e:=cw htr ⟨hp,hq⟩; rw [e.1,e.2]; unfold fX nz; rw [if_pos h47]<;>rfl)|(have e:=cw htr ⟨hp,hq⟩; rw [e.1,e.2]; unfold fX nz; rw [if_neg h47]<;>rfl)
 replace h47:=DT h47
 refine ar<|rS (LW 1 rfl cp rfl rfl)<|rS (CL (xj (bW ts (min p.ak q.ak).toNat ((max p.ak q.ak)-(min p.ak q.ak)).toNat) (by first|assumption|omega|(simp; done)|(simp; omega))) (ay) rfl)<|nk rfl cK rfl<|RK hK18<|aq fun _ hK20=>er cG [0,1,2,3,4,5,9] [6,7,8] [false,false,false,false,false,false,false] [false,false,false] [(aT b17 47 (ae.cells (dK ts (min p.ak q.ak).toNat ((max p.ak q.ak)-(min p.ak q.ak)).toNat))),(aT b16 47 (ae.cells (hZ (bW ts (min p.ak q.ak).toNat ((max p.ak q.ak)-(min p.ak q.ak)).toNat)))),(aT b13 99 ((bS.cells p)++(bS.cells q))),(aT b7 173 (bX.cells (bX.mk (au.mk (av.mk tsA ts.length tsC))))),(aT b4 99 (bS.cells q)),(aT b3 99 (bS.cells p)),(aT b2 24 (au.cells (au.mk (av.mk tsA ts.length tsC)))),(rd tsA ts.length 9 (ts.map ah.cells)).ro] [] (by kernel_rfl) (fun w hs=>St.br [0,1,2,3,5,6,7,8] rfl rfl hs) (fun w hs=>St.br [] rfl rfl hs)<|eS rfl (LW 1 rfl cp rfl rfl)<|eS rfl (FA 1 rfl f_ rfl)<|eS rfl (LP (ae.cells q.ek) 4 rfl cp rfl rfl rfl) ?_
 refine eS rfl (FA 1 rfl f_ rfl)<|eS rfl (LP (ae.cells p.ek) 5 rfl cp rfl rfl rfl)<|eS rfl (CL (xj p.ek (by first|assumption|omega|(simp; done)|(simp; omega))) (ay) rfl)<|eS rfl (AG rfl)<|fw rfl<|cL rfl fun T21 hT21=>fp (xs:=[.tmp 52,.tmp 55]) (cs:=((ae.cells q.ek)++(ae.cells (hZ p.ek)))) rfl km dF rfl rfl rfl rfl (by simp [Value.cells,ae.bg]) rfl rfl fun b22=>RN hT21 [1,2,3,4,6,7,8,9] rfl rfl<|cL rfl fun T23 hT23=>rS (CL (eH.eq (mX (hZ (bW ts (min p.ak q.ak).toNat ((max p.ak q.ak)-(min p.ak q.ak)).toNat)) ([q.ek,(hZ p.ek)]) (some ⟨b22,0,none⟩) 2 (by first|exact hwy|exact uK hwy) (by intro z hz; simp only [List.mem_cons,List.not_mem_nil,or_false] at hz; rcases hz with rfl|rfl; exact hqo; exact hlo) (by simp)) vw) (aM (bf 0 rfl rfl (by simp [ae.bg]) rfl)<|ay) rfl) ?_
 refine RN hT23 [1,2,3,4,6,7,8,9] rfl rfl<|cL rfl fun T24 hT24=>Fb rfl cK rfl<|RN hT24 [1,2,3,4,6,7,8,9] rfl rfl<|g_ rfl<|KK hK20<|aE ?_
 refine hQ _ _ _ (bB (vs:=[(Value.agg (ae.cells (gZ (gZ (hZ (bW ts (min p.ak q.ak).toNat ((max p.ak q.ak)-(min p.ak q.ak)).toNat)) q.ek) (hZ p.ek))).toArray),(Value.int .i64 0)]) ⟨⟨_,rfl,.inl ⟨_,_,cp,cy (vs:=(ae.cells (gZ (gZ (hZ (bW ts (min p.ak q.ak).toNat ((max p.ak q.ak)-(min p.ak q.ak)).toNat)) q.ek) (hZ p.ek)))) 5 rfl rfl,rfl,rfl⟩⟩,rfl,trivial⟩ fun w hs=>fq ?_ hs)
 show (Value.tuple [(Value.agg (ae.cells (gZ (gZ (hZ (bW ts (min p.ak q.ak).toNat ((max p.ak q.ak)-(min p.ak q.ak)).toNat)) q.ek) (hZ p.ek))).toArray),(Value.int .i64 0)].toArray)=(Value.tuple [(Value.agg (ae.cells (dJ ts p q)).toArray),(Value.int .i64 (fh ts p q))].toArray)
 clear hs w hQ hN hT24 T24 hT23 T23 hT21 T21 hK20 hK19 hK18 hK15 hK12 hK11 hK9 hK8 hK6 hK1
 first|(have e:=fV (a:=p) (b:=q) (g7 he).1; rw [e.1,e.2,(g7 he).2]<;>rfl)|(have e:=fR htr h26; rw [e.1,e.2]<;>rfl)|(have e:=cw htr ⟨hp,hq⟩; rw [e.1,e.2]; unfold fX nz; rw [if_pos h47]<;>rfl)|(have e:=cw htr ⟨hp,hq⟩; rw [e.1,e.2]; unfold fX nz; rw [if_neg h47]<;>rfl)
set_option maxRecDepth 100000 in
set_option maxHeartbeats 400000 in
theorem oe (ts:List ah) (tsA:Option Addr) (tsC:Nat) (s:bS) (hst: ∀ x∈ts,a_ x) (hlen:ts.length≤12):
 eH Tryz.prog 91 [(Value.agg (au.cells (au.mk (av.mk tsA ts.length tsC))).toArray),(Value.agg (bS.cells s).toArray)] [(rd tsA ts.length 9 (ts.map ah.cells))] (Value.bool (decide (ei ts s))):=by
 refine bL I3 Tryz.func91 rfl rfl fun w0 Q hQ hN=>?_
 try dsimp only
 refine WS fun _ hK1=>fy rfl fun b2=>fy rfl fun b3=>rS (AG rfl)<|RK hK1<|aq fun _ hK4=>dm cG 22 (by kernel_rfl)<|dS (FA 0 rfl gX rfl)<|dS (L1 (Value.int .i64 s.ak) 0 rfl bu rfl rfl)<|dS (FA 0 rfl gv rfl) ?_
 refine dS (L1 (Value.slice tsA ts.length tsC) 1 rfl lD rfl rfl)<|dS (LN rfl qk)<|dS (BI rfl (da ⟨by omega,by omega⟩))<|dS (CL (mu s.ak 0 (((ts.length:Nat):Int)-1)) (ay) rfl)<|dS (MV rfl) ?_
 refine e9 (t:=12) rfl (fun h12=>?_) (fun h12=>?_)
 rotate_left 1
 ·replace h12:=DF h12
  refine dS (OX rfl)<|dS (OX rfl)<|dS (OX rfl)<|dS (OX rfl)<|dS (OX rfl)<|dS (OX rfl)<|dS (OX rfl)<|dS (OX rfl)<|dS (OX rfl)<|dS (OX rfl) ?_
  refine dS (OX rfl)<|dS (OX rfl)<|dS (PK rfl)<|dS (AG rfl)<|cP<|RK hK4<|aE<|Q1 hQ rfl rfl rfl ?_
  first|(refine congrArg Value.bool ?_; rw [decide_eq_false (pP (by omega))])|exact congrArg Value.bool (decide_eq_decide.2 (p_ (by omega) hx).symm)
 replace h12:=DT h12
 refine dS (FA 1 rfl f_ rfl)<|dS (LP (ae.cells s.ek) 0 rfl cp rfl rfl rfl)<|dS (FA 0 rfl gv rfl)<|dS (L1 (Value.slice tsA ts.length tsC) 1 rfl lD rfl rfl)<|dS (FA 0 rfl gX rfl)<|dS (L1 (Value.int .i64 s.ak) 0 rfl bu rfl rfl) ?_
 obtain ⟨x,hx⟩: ∃ y_,ts[(s.ak).toNat]? =some y_:=⟨ts[(s.ak).toNat]'(by omega),List.getElem?_eq_getElem _⟩
 have hxm:(ts.map ah.cells)[(s.ak).toNat]? =some (ah.cells x):=by rw [List.getElem?_map,hx]; rfl
 refine dS (IA ((s.ak).toNat) rfl (aI 2 rfl) rR (by decide) (by omega) (by omega))<|dS (ou ((((s.ak).toNat)*9)+1) rfl (aI 2 rfl) (Nat.mul_pos (by omega) (by decide)) lO rfl) ?_
 have hxo:=(hst x (List.mem_of_getElem? hx)).2.1
 simp only [cT] at hxo
 refine dS (ou ((((s.ak).toNat)*9)+1) rfl (aI 2 rfl) (Nat.mul_pos (by omega) (by decide)) bU rfl)<|dS (iX ((s.ak).toNat) 1 (Value.int .i64 x.g5.Lo) rfl bu (aI 2 rfl) hxm rfl (by decide) rfl)<|dS (BI rfl (da ⟨by omega,by omega⟩))<|dS (CL (mC s.ek 0 (x.g5.Lo-1)) (ay) rfl)<|dS (PK rfl)<|dS (AG rfl)<|cP<|RK hK4<|aE<|Q1 hQ rfl rfl rfl ?_
 first|(refine congrArg Value.bool ?_; rw [decide_eq_false (pP (by omega))])|exact congrArg Value.bool (decide_eq_decide.2 (p_ (by omega) hx).symm)
set_option maxRecDepth 100000 in
set_option maxHeartbeats 400000 in
theorem u9 (ts:List ah) (tsA:Option Addr) (tsC:Nat) (f:Int) (t:Int) (hst: ∀ x∈ts,a_ x) (hlen:ts.length≤12) (hf:0≤f∧f≤t∧t≤ts.length):
 eH Tryz.prog 137 [(Value.agg (au.cells (au.mk (av.mk tsA ts.length tsC))).toArray),(Value.int .i64 f),(Value.int .i64 t)] [(rd tsA ts.length 9 (ts.map ah.cells))] (Value.tuple [(Value.agg (ae.cells (bW ts f.toNat (t-f).toNat)).toArray),(Value.agg (ae.cells (dK ts f.toNat (t-f).toNat)).toArray)].toArray):=by
 refine bL F5 Tryz.func137 rfl rfl fun w0 Q hQ hN=>?_
 try dsimp only
 refine WS fun _ hK1=>fy rfl fun b2=>AL rfl dF fun b3=>AL rfl dF fun b4=>RK hK1<|WS fun _ hK5=>AL rfl dF fun b6=>AL rfl dF fun b7=>RK hK5<|aq fun _ hK8=>?_
 refine WS fun _ hK9=>rS (MV rfl)<|rS (AG rfl)<|RK hK9<|aG ?_
 have hinit:(0≤(t-f).toNat):=by exact Nat.zero_le _
 have hb10:(Value.int .i64 (f+((0:Nat):Int)))=(Value.int .i64 f):=by exact congrArg (Value.int .i64) (by omega)
 refine cq (ι:={z:Nat // (z≤(t-f).toNat)}) (fun z=>[(1,(Value.int .i64 f)),(2,(Value.int .i64 t)),(3,(Value.pointer (some ⟨b2,0,none⟩))),(6,(Value.pointer (some ⟨b3,0,none⟩))),(7,(Value.pointer (some ⟨b4,0,none⟩))),(8,(Value.pointer (some ⟨b6,0,none⟩))),(9,(Value.pointer (some ⟨b7,0,none⟩))),(10,(Value.int .i64 (f+((z.1:Nat):Int))))]) (fun z=>[(aT b7 47 (ae.cells (dK ts f.toNat z.1))),(aT b6 47 (ae.cells (bW ts f.toNat z.1))),(aT b4 47 (ae.cells (ae.mk 0 0))),(aT b3 47 (ae.cells (ae.mk 0 0))),(aT b2 24 (au.cells (au.mk (av.mk tsA ts.length tsC)))),(rd tsA ts.length 9 (ts.map ah.cells)).ro]) (fun z=>(t-f).toNat-z.1) ⟨0,hinit⟩ (an.cons rfl<|an.cons rfl<|an.cons rfl<|an.cons rfl<|an.cons rfl<|an.cons rfl<|an.cons rfl<|aQ rfl hb10<|an.nil _) (fun w hs=>St.br [0,1,2,3,4,5] rfl rfl hs) ?_
 clear hinit
 rintro ⟨k,hl3_0⟩ J11 hJ11
 try dsimp only
 refine aq fun _ hK12=>WS fun _ hK13=>rS (MV rfl)<|rS (MV rfl)<|rS (BI rfl cv)<|RK hK13 ?_
 refine bj rfl (fun h14=>?_) (fun h14=>?_)
 rotate_left 1
 ·replace h14:=DF h14
  refine bE<|ai<|ai<|aH<|KK hK8<|aq fun _ hK22=>er cG [0,1] [2,3] [false,false] [false,false] [(aT b7 47 (ae.cells (dK ts f.toNat k))),(aT b6 47 (ae.cells (bW ts f.toNat k))),(aT b2 24 (au.cells (au.mk (av.mk tsA ts.length tsC)))),(rd tsA ts.length 9 (ts.map ah.cells)).ro] [] (by kernel_rfl) (fun w hs=>St.br [0,1,4,5] rfl rfl hs) (fun w hs=>St.br [] rfl rfl hs)<|eS rfl (LW 1 rfl cp rfl rfl)<|eS rfl (LW 0 rfl cp rfl rfl)<|fw rfl ?_
  refine cL rfl fun T23 hT23=>Ev rfl cK rfl<|RN hT23 [0,1,4,5] rfl rfl<|cL rfl fun T24 hT24=>rM rfl cK rfl<|RN hT24 [0,1,4,5] rfl rfl<|g_ rfl<|KK hK22<|aE ?_
  refine hQ _ _ _ (bB (vs:=[(Value.agg (ae.cells (bW ts f.toNat k)).toArray),(Value.agg (ae.cells (dK ts f.toNat k)).toArray)]) ⟨⟨_,rfl,.inl ⟨_,_,cp,cy (vs:=(ae.cells (bW ts f.toNat k))) 3 rfl rfl,rfl,rfl⟩⟩,⟨_,rfl,.inl ⟨_,_,cp,cy (vs:=(ae.cells (dK ts f.toNat k))) 2 rfl rfl,rfl,rfl⟩⟩,trivial⟩ fun w hs=>fq ?_ hs)
  show (Value.tuple [(Value.agg (ae.cells (bW ts f.toNat k)).toArray),(Value.agg (ae.cells (dK ts f.toNat k)).toArray)].toArray)=(Value.tuple [(Value.agg (ae.cells (bW ts f.toNat (t-f).toNat)).toArray),(Value.agg (ae.cells (dK ts f.toNat (t-f).toNat)).toArray)].toArray)
  clear hs w hQ hN hT24 T24 hT23 T23 hK22 hK13 hK12 hK9 hK8 hK5 hK1
  obtain rfl:k=(t-f).toNat:=(by omega); rfl
 replace h14:=DT h14
 refine WK hK12<|aq fun _ hK15=>aG<|WS fun _ hK16=>rS (FA 0 rfl gv rfl)<|rS (L1 (Value.slice tsA ts.length tsC) 4 rfl lD rfl rfl)<|rS (MV rfl) ?_
 obtain ⟨x,hx⟩: ∃ y_,ts[(f.toNat+k)]? =some y_:=⟨ts[(f.toNat+k)]'(by omega),List.getElem?_eq_getElem _⟩
 have hxm:(ts.map ah.cells)[(f.toNat+k)]? =some (ah.cells x):=by rw [List.getElem?_map,hx]; rfl
 refine rS (IA (f.toNat+k) rfl (aI 5 rfl) rR (by decide) (by omega) (by omega))<|rS (lF (f.toNat+k) 0 (ah.cells x) rfl uc (aI 5 rfl) hxm rfl (by decide) rfl rfl)<|AL rfl AY fun b17=>fO rfl AE rfl<|RK hK16<|WS fun _ hK18=>?_
 have hxo:=hst x (List.mem_of_getElem? hx)
 have hlb:=ki hst f.toNat k
 have hfb:=yp hst f.toNat k
 have hx1:=hxo.2.1
 have hx2:=hxo.2.2.1
 simp only [cT] at hx1 hx2
 refine rS (FA 0 rfl bU rfl)<|rS (L1 (Value.int .i64 ((bW ts f.toNat k).Lo)) 2 rfl bu rfl rfl)<|rS (FA 1 rfl lO rfl)<|rS (FA 1 rfl bU rfl)<|rS (L1 (Value.int .i64 x.g5.Lo) 0 rfl bu rfl rfl)<|rS (BI rfl (aZ ⟨by omega,by omega⟩))<|rS (FA 1 rfl cd rfl)<|rS (L1 (Value.int .i64 ((bW ts f.toNat k).Hi)) 2 rfl bu rfl rfl)<|rS (FA 1 rfl lO rfl)<|rS (FA 2 rfl cd rfl) ?_
 refine rS (L1 (Value.int .i64 x.g5.Hi) 0 rfl bu rfl rfl)<|rS (BI rfl (aZ ⟨by omega,by omega⟩))<|rS (SX (bp (xs:=[(0,.tmp 28),(1,.tmp 34)]) (cs:=(ae.cells (ae.mk (((bW ts f.toNat k).Lo)+x.g5.Lo) (((bW ts f.toNat k).Hi)+x.g5.Hi)))) rfl rfl (bq fI rfl)) rfl rfl)<|rM rfl cK rfl<|RK hK18<|ar<|rS (FA 0 rfl bU rfl)<|rS (L1 (Value.int .i64 ((dK ts f.toNat k).Lo)) 1 rfl bu rfl rfl)<|rS (FA 3 rfl ob rfl)<|rS (FA 3 rfl bU rfl) ?_
 refine rS (L1 (Value.int .i64 x.iA.Lo) 0 rfl bu rfl rfl)<|rS (BI rfl (aZ ⟨by omega,by omega⟩))<|rS (FA 1 rfl cd rfl)<|rS (L1 (Value.int .i64 ((dK ts f.toNat k).Hi)) 1 rfl bu rfl rfl)<|rS (FA 3 rfl ob rfl)<|rS (FA 4 rfl cd rfl)<|rS (L1 (Value.int .i64 x.iA.Hi) 0 rfl bu rfl rfl)<|rS (BI rfl (aZ ⟨by omega,by omega⟩))<|rS (SX (bp (xs:=[(0,.tmp 41),(1,.tmp 47)]) (cs:=(ae.cells (ae.mk (((dK ts f.toNat k).Lo)+x.iA.Lo) (((dK ts f.toNat k).Hi)+x.iA.Hi)))) rfl rfl (bq fI rfl)) rfl rfl)<|nk rfl cK rfl ?_
 refine aP<|aK<|KK hK15 ?_
 have hb19:(ae.cells (ae.mk (((bW ts f.toNat k).Lo)+x.g5.Lo) (((bW ts f.toNat k).Hi)+x.g5.Hi)))=(ae.cells (bW ts f.toNat (k+1))):=by rw [mE hx]; rfl
 rw [hb19]
 have hb20:(ae.cells (ae.mk (((dK ts f.toNat k).Lo)+x.iA.Lo) (((dK ts f.toNat k).Hi)+x.iA.Hi)))=(ae.cells (dK ts f.toNat (k+1))):=by rw [m7 hx]; rfl
 rw [hb20]
 refine ar<|rS (MV rfl)<|rS (BI rfl (aZ ⟨by omega,by omega⟩))<|rS (AG rfl)<|aP ?_
 have hb21:(Value.int .i64 (f+(((k+1):Nat):Int)))=(Value.int .i64 ((f+((k:Nat):Int))+1)):=by exact congrArg (Value.int .i64) (by omega)
 refine aO (hJ11 ⟨(k+1),(by first|omega|(simp only []; omega))⟩ _ _ _ rfl (by first|omega|(simp; omega)) (an.cons rfl<|an.cons rfl<|an.cons rfl<|an.cons rfl<|an.cons rfl<|an.cons rfl<|an.cons rfl<|aQ rfl hb21<|an.nil _) (fun w hs=>St.br [1,2,3,4,5,6] rfl rfl hs))
end
section
open Go.RowKit
set_option linter.unusedVariables false
set_option maxRecDepth 100000 in
set_option maxHeartbeats 400000 in
theorem gh (n:Int) (lo:Int) (hi:Int):
 eH Tryz.prog 43 [(Value.int .i64 n),(Value.int .i64 lo),(Value.int .i64 hi)] [] (Value.bool (decide (lo≤n∧n≤hi))):=by
 refine bL Hv Tryz.func43 rfl rfl fun w0 Q hQ hN=>?_
 try dsimp only
 refine WS fun _ hK1=>rS (AG rfl)<|RK hK1<|WS fun _ hK2=>rS (MV rfl)<|rS (MV rfl)<|rS (BI rfl kv)<|rS (MV rfl) ?_
 refine bH (t:=10) rfl (fun h3=>?_) (fun h3=>?_)
 rotate_left 1
 ·replace h3:=DF h3
  refine rS (OX rfl)<|rS (OX rfl)<|rS (OX rfl)<|rS (PK rfl)<|rS (AG rfl)<|RK hK2<|aE<|Q1 hQ rfl rfl rfl ?_
  exact congrArg Value.bool (decide_eq_false (by omega)).symm
 replace h3:=DT h3
 refine rS (MV rfl)<|rS (MV rfl)<|rS (BI rfl gl)<|rS (PK rfl)<|rS (AG rfl)<|RK hK2<|aE<|Q1 hQ rfl rfl rfl ?_
 exact congrArg Value.bool (decide_eq_decide.2 (by omega))
set_option maxRecDepth 100000 in
set_option maxHeartbeats 400000 in
theorem vl (ts:List ah) (tsA:Option Addr) (tsC:Nat) (hst: ∀ x∈ts,a_ x) (hlen:ts.length≤12):
 rp Tryz.prog 136 [(Value.agg (au.cells (au.mk (av.mk tsA ts.length tsC))).toArray)] [(rd tsA ts.length 9 (ts.map ah.cells))] (fun (x:(Option Addr)×Nat)=>(Value.slice x.1 ((eB ts (ts.length+1)).length) x.2)) (fun (x:(Option Addr)×Nat)=>True) (fun (x:(Option Addr)×Nat)=>[(own x.1 x.2 47 2 ((eB ts (ts.length+1)).map ae.cells))]):=by
 refine gp GX Tryz.func136 rfl rfl fun w0 Q hQ hN=>?_
 try dsimp only
 refine WS fun _ hK1=>fy rfl fun b2=>rS (AG rfl)<|RK hK1<|WS fun _ hK3=>rS (AG rfl)<|RK hK3<|aq fun _ hK4=>WS fun _ hK5=>rS (AG rfl) ?_
 refine RK hK5<|aG<|fU 47 2 ?_
 have hinit:(0≤ts.length+1):=by exact Nat.zero_le _
 refine cq (ι:={z:Nat×(Option Addr)×Nat // (z.1≤ts.length+1)}) (fun z=>[(1,(Value.pointer (some ⟨b2,0,none⟩))),(3,(Value.slice z.1.2.1 ((eB ts z.1.1).length) z.1.2.2)),(4,(Value.int .i64 ((z.1.1:Nat):Int)))]) (fun z=>[(own z.1.2.1 z.1.2.2 47 2 ((eB ts z.1.1).map ae.cells)),(aT b2 24 (au.cells (au.mk (av.mk tsA ts.length tsC)))),(rd tsA ts.length 9 (ts.map ah.cells)).ro]) (fun z=>ts.length+1-z.1.1) ⟨(0,none,0),hinit⟩ (an.cons rfl<|an.cons rfl<|an.cons rfl<|an.nil _) (fun w hs=>St.br [0,1,2] rfl rfl hs) ?_
 clear hinit
 rintro ⟨⟨i,a,c⟩,hl0_0⟩ J6 hJ6
 try dsimp only at hl0_0
 try dsimp only
 refine aq fun _ hK7=>WS fun _ hK8=>rS (MV rfl)<|rS (FA 0 rfl gv rfl)<|rS (L1 (Value.slice tsA ts.length tsC) 1 rfl lD rfl rfl)<|rS (LN rfl qk)<|rS (BI rfl gl)<|RK hK8 ?_
 refine bj rfl (fun h9=>?_) (fun h9=>?_)
 rotate_left 1
 ·replace h9:=DF h9
  refine bE<|ai<|ai<|aH<|KK hK4<|WS fun _ hK18=>?_
  obtain rfl:i=ts.length+1:=by omega
  refine rS (MV rfl)<|rS (AG rfl)<|RK hK18<|aE ?_
  refine hQ _ _ _ (bB (vs:=[(Value.slice a ((eB ts (ts.length+1)).length) c)]) ⟨rfl,trivial⟩ fun w hs=>fB (a,c) [0] ?_ ?_ rfl rfl rfl hs)
  ·rfl
  ·trivial
 replace h9:=DT h9
 refine WK hK7<|aq fun _ hK10=>aG<|WS fun _ hK11=>rS (LW 1 rfl jn rfl rfl)<|rS (MV rfl)<|rS (CL (u9 ts tsA tsC 0 ((i:Nat):Int) hst hlen (by omega)) (ax 2 rfl rfl<|ay) rfl)<|rS (MV rfl)<|rS (EX rfl)<|rS (EX rfl) ?_
 refine AL rfl dF fun b12=>AL rfl dF fun b13=>nk rfl cK rfl<|fO rfl cK rfl<|RK hK11<|ar<|rS (MV rfl)<|rS (LW 1 rfl cp rfl rfl)<|fp (xs:=[.tmp 21]) (cs:=(ae.cells (bW ts (0:Int).toNat (((i:Nat):Int)-0).toNat))) rfl km dF rfl rfl rfl rfl (by simp [Value.cells,ae.bg]) rfl rfl fun b14=>dR (es2:=(List.map ae.cells (eB ts (i+1)))) (m':=(eB ts (i+1)).length) 3 rfl rfl rfl Dt rfl rfl (by simp) (bf (es:=List.map ae.cells [(bW ts (0:Int).toNat (((i:Nat):Int)-0).toNat)]) 0 rfl rfl (by simp [ae.bg]) rfl) (nq _) (by simp only [l0]; omega) (by simp only [maxLen,l0]; omega) (by rw [vh]; simp) (by simp) rfl fun a15 c16=>?_
 try dsimp only
 refine rS (AG rfl)<|aP<|aK<|KK hK10<|ar<|rS (MV rfl)<|rS (BI rfl (aZ ⟨by omega,by omega⟩))<|rS (AG rfl)<|aP ?_
 have hb17:(Value.int .i64 (((i+1):Nat):Int))=(Value.int .i64 (((i:Nat):Int)+1)):=by exact congrArg (Value.int .i64) (by omega)
 refine aO (hJ6 ⟨((i+1),a15,c16),(by first|omega|(simp only []; omega))⟩ _ _ _ rfl (by first|omega|(simp; omega)) (an.cons rfl<|an.cons rfl<|aQ rfl hb17<|an.nil _) (fun w hs=>St.br [3,4,5] rfl rfl hs))
set_option maxRecDepth 100000 in
set_option maxHeartbeats 400000 in
theorem Gr (ts:List ah) (tsA:Option Addr) (tsC:Nat) (s:bS) (hlen:ts.length≤1000000) (hside: ∀ x∈ts,0≤x.gi∧x.gi≤255):
 eH Tryz.prog 122 [(Value.agg (au.cells (au.mk (av.mk tsA ts.length tsC))).toArray),(Value.agg (bS.cells s).toArray)] [(rd tsA ts.length 9 (ts.map ah.cells))] (Value.tuple [(Value.agg (ae.cells (vc ts s)).toArray),(Value.int .i64 (sq ts s))].toArray):=by
 refine bL GB Tryz.func122 rfl rfl fun w0 Q hQ hN=>?_
 try dsimp only
 refine WS fun _ hK1=>fy rfl fun b2=>fy rfl fun b3=>AL rfl dF fun b4=>rS (AG rfl)<|RK hK1<|aq fun _ hK5=>WS fun _ hK6=>rS (LW 2 rfl jn rfl rfl)<|rS (CL (rK ts tsA tsC hlen) (ax 3 rfl rfl<|ay) rfl) ?_
 refine rS (NT rfl)<|RK hK6 ?_
 refine bj rfl (fun h9=>?_) (fun h9=>?_)
 ·rw [Bool.not_eq_true'] at h9
  refine WS fun _ hK7=>rS (SX (bp (xs:=[]) (cs:=(ae.cells (ae.mk 0 0))) rfl rfl (bq fI rfl)) rfl rfl)<|fO rfl cK rfl<|rS (AG rfl)<|RK hK7<|aE ?_
  refine hQ _ _ _ (bB (vs:=[(Value.agg (ae.cells (ae.mk 0 0)).toArray),(Value.int .i64 10)]) ⟨⟨_,rfl,.inl ⟨_,_,cp,cy (vs:=(ae.cells (ae.mk 0 0))) 0 rfl rfl,rfl,rfl⟩⟩,rfl,trivial⟩ fun w hs=>fq ?_ hs)
  show (Value.tuple [(Value.agg (ae.cells (ae.mk 0 0)).toArray),(Value.int .i64 10)].toArray)=(Value.tuple [(Value.agg (ae.cells (vc ts s)).toArray),(Value.int .i64 (sq ts s))].toArray)
  clear hs w hQ hN hK7 hK6 hK5 hK1
  first|(have e:=mY (s:=s) (by simpa using h9); rw [e.1,e.2]<;>rfl)|(have e:=nh h9 h14; rw [e.1,e.2]<;>rfl)|(have e:=l8 h9 h14; subst hzm; rw [e.1,e.2]<;>rfl)
 rw [Bool.not_eq_false'] at h9
 refine WK hK5<|aq fun _ hK8=>WS fun _ hK9=>?_
 have hst:=iI h9
 have hl12:=jt h9
 refine rS (LW 2 rfl jn rfl rfl)<|rS (LW 1 rfl kO rfl rfl)<|rS (CL (oe ts tsA tsC s (by first|assumption|omega|(simp; done)|(simp; omega)) (by first|assumption|omega|(simp; done)|(simp; omega))) (ax 3 rfl rfl<|ay) rfl)<|rS (NT rfl)<|RK hK9 ?_
 refine bj rfl (fun h14=>?_) (fun h14=>?_)
 ·replace h14:=XT h14
  refine WS fun _ hK10=>rS (SX (bp (xs:=[]) (cs:=(ae.cells (ae.mk 0 0))) rfl rfl (bq fI rfl)) rfl rfl)<|fO rfl cK rfl<|rS (AG rfl)<|RK hK10<|aE ?_
  refine hQ _ _ _ (bB (vs:=[(Value.agg (ae.cells (ae.mk 0 0)).toArray),(Value.int .i64 12)]) ⟨⟨_,rfl,.inl ⟨_,_,cp,cy (vs:=(ae.cells (ae.mk 0 0))) 0 rfl rfl,rfl,rfl⟩⟩,rfl,trivial⟩ fun w hs=>fq ?_ hs)
  show (Value.tuple [(Value.agg (ae.cells (ae.mk 0 0)).toArray),(Value.int .i64 12)].toArray)=(Value.tuple [(Value.agg (ae.cells (vc ts s)).toArray),(Value.int .i64 (sq ts s))].toArray)
  clear hs w hQ hN hK10 hK9 hK8 hK6 hK5 hK1
  first|(have e:=mY (s:=s) (by simpa using h9); rw [e.1,e.2]<;>rfl)|(have e:=nh h9 h14; rw [e.1,e.2]<;>rfl)|(have e:=l8 h9 h14; subst hzm; rw [e.1,e.2]<;>rfl)
 replace h14:=XF h14
 refine WK hK8<|aq fun _ hK11=>lJ cG [0,2,3] [1,4,5,6,7] [false,false,false] [] [(aT b4 47 (ae.cells (ae.mk 0 0))),(aT b3 99 (bS.cells s)),(aT b2 24 (au.cells (au.mk (av.mk tsA ts.length tsC)))),(rd tsA ts.length 9 (ts.map ah.cells)).ro] [] (by kernel_rfl) (fun w hs=>St.br [0,1,2,3] rfl rfl hs) (fun w hs=>St.br [] rfl rfl hs) ?_
 have hsb:=h14.1
 have hof:=nX hst h14
 have hml:(eB ts (ts.length+1)).length=ts.length+1:=l0
 refine eS rfl (LW 2 rfl jn rfl rfl)<|eS rfl (FA 0 rfl gX rfl)<|eS rfl (L1 (Value.int .i64 s.ak) 1 rfl bu rfl rfl)<|fw rfl ?_
 refine hO [1,6] (by kernel_rfl) (dI ?_<|dI ?_<|jM)
 rotate_left 1
 ·refine NO rfl rfl [1,4,5,7] fun T12 hT12=>?_
  refine AL rfl dF fun b13=>RD hT12 1 rfl<|N1 1<|NO rfl rfl [4,5,7] fun T14 hT14=>cX (vl ts tsA tsC (by first|assumption|omega|(simp; done)|(simp; omega)) (by first|assumption|omega|(simp; done)|(simp; omega))) (ax 4 rfl rfl<|ay) rfl fun y15 hy16=>?_
  obtain ⟨a17,c18⟩:=y15
  try dsimp only
  refine RD hT14 2 rfl<|N1 4<|NO rfl rfl [5,7] fun T19 hT19=>?_
  obtain ⟨z,hz⟩: ∃ y_,(eB ts (ts.length+1))[(s.ak).toNat]? =some y_:=⟨(eB ts (ts.length+1))[(s.ak).toNat]'(by omega),List.getElem?_eq_getElem _⟩
  have hzm:((eB ts (ts.length+1)).map ae.cells)[(s.ak).toNat]? =some (ae.cells z):=by rw [List.getElem?_map,hz]; rfl
  refine rS (IA ((s.ak).toNat) rfl (aC (n:=(eB ts (ts.length+1)).length) 0 rfl (by simp)) km (by decide) (by omega) (by omega))<|RD hT19 2 rfl<|N1 5<|NO rfl rfl [7] fun T20 hT20=>rS (lF ((s.ak).toNat) 0 (ae.cells z) rfl cp (aC (n:=(eB ts (ts.length+1)).length) 0 rfl (by simp)) hzm rfl (by decide) rfl rfl)<|RD hT20 2 rfl<|N1 7<|NO rfl rfl [] fun T21 hT21=>nk rfl cK rfl<|RD hT21 2 rfl ?_
  refine g8<|KK hK11<|WS fun _ hK22=>rS (FA 0 rfl bU rfl) ?_
  have hzm:=m8 hz
  have hlb:=ki hst 0 s.ak.toNat
  unfold jU at hof
  rw [← hzm] at hlb
  refine rS (L1 (Value.int .i64 z.Lo) 1 rfl bu rfl rfl)<|rS (FA 1 rfl f_ rfl)<|rS (FA 1 rfl bU rfl)<|rS (L1 (Value.int .i64 s.ek.Lo) 3 rfl bu rfl rfl)<|rS (BI rfl (aZ ⟨by omega,by omega⟩))<|rS (FA 1 rfl cd rfl)<|rS (L1 (Value.int .i64 z.Hi) 1 rfl bu rfl rfl)<|rS (FA 1 rfl f_ rfl)<|rS (FA 2 rfl cd rfl)<|rS (L1 (Value.int .i64 s.ek.Hi) 3 rfl bu rfl rfl) ?_
  refine rS (BI rfl (aZ ⟨by omega,by omega⟩))<|rS (SX (bp (xs:=[(0,.tmp 27),(1,.tmp 33)]) (cs:=(ae.cells (ae.mk (z.Lo+s.ek.Lo) (z.Hi+s.ek.Hi)))) rfl rfl (bq fI rfl)) rfl rfl)<|rM rfl cK rfl<|rS (AG rfl)<|RK hK22<|aE ?_
  refine hQ _ _ _ (bB (vs:=[(Value.agg (ae.cells (ae.mk (z.Lo+s.ek.Lo) (z.Hi+s.ek.Hi))).toArray),(Value.int .i64 0)]) ⟨⟨_,rfl,.inl ⟨_,_,cp,cy (vs:=(ae.cells (ae.mk (z.Lo+s.ek.Lo) (z.Hi+s.ek.Hi)))) 2 rfl rfl,rfl,rfl⟩⟩,rfl,trivial⟩ fun w hs=>fq ?_ hs)
  show (Value.tuple [(Value.agg (ae.cells (ae.mk (z.Lo+s.ek.Lo) (z.Hi+s.ek.Hi))).toArray),(Value.int .i64 0)].toArray)=(Value.tuple [(Value.agg (ae.cells (vc ts s)).toArray),(Value.int .i64 (sq ts s))].toArray)
  clear hs w hQ hN hK22 hT21 T21 hT20 T20 hT19 T19 hT14 T14 hT12 T12 hK11 hK9 hK8 hK6 hK5 hK1
  first|(have e:=mY (s:=s) (by simpa using h9); rw [e.1,e.2]<;>rfl)|(have e:=nh h9 h14; rw [e.1,e.2]<;>rfl)|(have e:=l8 h9 h14; subst hzm; rw [e.1,e.2]<;>rfl)
 refine NO rfl rfl [4,5,6,7] fun T12 hT12=>cX (vl ts tsA tsC (by first|assumption|omega|(simp; done)|(simp; omega)) (by first|assumption|omega|(simp; done)|(simp; omega))) (ax 3 rfl rfl<|ay) rfl fun y13 hy14=>?_
 obtain ⟨a15,c16⟩:=y13
 try dsimp only
 refine RD hT12 1 rfl ?_
 refine hO [4,6] (by kernel_rfl) (dI ?_<|dI ?_<|jM)
 rotate_left 1
 ·refine NO rfl rfl [4,5,7] fun T17 hT17=>?_
  refine AL rfl dF fun b18=>RD hT17 2 rfl<|N1 4<|NO rfl rfl [5,7] fun T19 hT19=>?_
  obtain ⟨z,hz⟩: ∃ y_,(eB ts (ts.length+1))[(s.ak).toNat]? =some y_:=⟨(eB ts (ts.length+1))[(s.ak).toNat]'(by omega),List.getElem?_eq_getElem _⟩
  have hzm:((eB ts (ts.length+1)).map ae.cells)[(s.ak).toNat]? =some (ae.cells z):=by rw [List.getElem?_map,hz]; rfl
  refine rS (IA ((s.ak).toNat) rfl (aC (n:=(eB ts (ts.length+1)).length) 1 rfl (by simp)) km (by decide) (by omega) (by omega))<|RD hT19 2 rfl<|N1 5<|NO rfl rfl [7] fun T20 hT20=>rS (lF ((s.ak).toNat) 0 (ae.cells z) rfl cp (aC (n:=(eB ts (ts.length+1)).length) 1 rfl (by simp)) hzm rfl (by decide) rfl rfl)<|RD hT20 2 rfl<|N1 7<|NO rfl rfl [] fun T21 hT21=>fO rfl cK rfl<|RD hT21 2 rfl ?_
  refine g8<|KK hK11<|WS fun _ hK22=>rS (FA 0 rfl bU rfl) ?_
  have hzm:=m8 hz
  have hlb:=ki hst 0 s.ak.toNat
  unfold jU at hof
  rw [← hzm] at hlb
  refine rS (L1 (Value.int .i64 z.Lo) 0 rfl bu rfl rfl)<|rS (FA 1 rfl f_ rfl)<|rS (FA 1 rfl bU rfl)<|rS (L1 (Value.int .i64 s.ek.Lo) 3 rfl bu rfl rfl)<|rS (BI rfl (aZ ⟨by omega,by omega⟩))<|rS (FA 1 rfl cd rfl)<|rS (L1 (Value.int .i64 z.Hi) 0 rfl bu rfl rfl)<|rS (FA 1 rfl f_ rfl)<|rS (FA 2 rfl cd rfl)<|rS (L1 (Value.int .i64 s.ek.Hi) 3 rfl bu rfl rfl) ?_
  refine rS (BI rfl (aZ ⟨by omega,by omega⟩))<|rS (SX (bp (xs:=[(0,.tmp 27),(1,.tmp 33)]) (cs:=(ae.cells (ae.mk (z.Lo+s.ek.Lo) (z.Hi+s.ek.Hi)))) rfl rfl (bq fI rfl)) rfl rfl)<|rM rfl cK rfl<|rS (AG rfl)<|RK hK22<|aE ?_
  refine hQ _ _ _ (bB (vs:=[(Value.agg (ae.cells (ae.mk (z.Lo+s.ek.Lo) (z.Hi+s.ek.Hi))).toArray),(Value.int .i64 0)]) ⟨⟨_,rfl,.inl ⟨_,_,cp,cy (vs:=(ae.cells (ae.mk (z.Lo+s.ek.Lo) (z.Hi+s.ek.Hi)))) 2 rfl rfl,rfl,rfl⟩⟩,rfl,trivial⟩ fun w hs=>fq ?_ hs)
  show (Value.tuple [(Value.agg (ae.cells (ae.mk (z.Lo+s.ek.Lo) (z.Hi+s.ek.Hi))).toArray),(Value.int .i64 0)].toArray)=(Value.tuple [(Value.agg (ae.cells (vc ts s)).toArray),(Value.int .i64 (sq ts s))].toArray)
  clear hs w hQ hN hK22 hT21 T21 hT20 T20 hT19 T19 hT17 T17 hT12 T12 hK11 hK9 hK8 hK6 hK5 hK1
  first|(have e:=mY (s:=s) (by simpa using h9); rw [e.1,e.2]<;>rfl)|(have e:=nh h9 h14; rw [e.1,e.2]<;>rfl)|(have e:=l8 h9 h14; subst hzm; rw [e.1,e.2]<;>rfl)
 refine NO rfl rfl [5,6,7] fun T17 hT17=>?_
 obtain ⟨z,hz⟩: ∃ y_,(eB ts (ts.length+1))[(s.ak).toNat]? =some y_:=⟨(eB ts (ts.length+1))[(s.ak).toNat]'(by omega),List.getElem?_eq_getElem _⟩
 have hzm:((eB ts (ts.length+1)).map ae.cells)[(s.ak).toNat]? =some (ae.cells z):=by rw [List.getElem?_map,hz]; rfl
 refine rS (IA ((s.ak).toNat) rfl (aC (n:=(eB ts (ts.length+1)).length) 0 rfl (by simp)) km (by decide) (by omega) (by omega))<|RD hT17 1 rfl ?_
 refine hO [5,6] (by kernel_rfl) (dI ?_<|dI ?_<|jM)
 rotate_left 1
 ·refine NO rfl rfl [5,7] fun T18 hT18=>?_
  refine AL rfl dF fun b19=>RD hT18 2 rfl<|N1 5<|NO rfl rfl [7] fun T20 hT20=>rS (lF ((s.ak).toNat) 0 (ae.cells z) rfl cp (aC (n:=(eB ts (ts.length+1)).length) 1 rfl (by simp)) hzm rfl (by decide) rfl rfl)<|RD hT20 2 rfl<|N1 7<|NO rfl rfl [] fun T21 hT21=>fO rfl cK rfl<|RD hT21 2 rfl ?_
  refine g8<|KK hK11<|WS fun _ hK22=>rS (FA 0 rfl bU rfl) ?_
  have hzm:=m8 hz
  have hlb:=ki hst 0 s.ak.toNat
  unfold jU at hof
  rw [← hzm] at hlb
  refine rS (L1 (Value.int .i64 z.Lo) 0 rfl bu rfl rfl)<|rS (FA 1 rfl f_ rfl)<|rS (FA 1 rfl bU rfl)<|rS (L1 (Value.int .i64 s.ek.Lo) 3 rfl bu rfl rfl)<|rS (BI rfl (aZ ⟨by omega,by omega⟩))<|rS (FA 1 rfl cd rfl)<|rS (L1 (Value.int .i64 z.Hi) 0 rfl bu rfl rfl)<|rS (FA 1 rfl f_ rfl)<|rS (FA 2 rfl cd rfl)<|rS (L1 (Value.int .i64 s.ek.Hi) 3 rfl bu rfl rfl) ?_
  refine rS (BI rfl (aZ ⟨by omega,by omega⟩))<|rS (SX (bp (xs:=[(0,.tmp 27),(1,.tmp 33)]) (cs:=(ae.cells (ae.mk (z.Lo+s.ek.Lo) (z.Hi+s.ek.Hi)))) rfl rfl (bq fI rfl)) rfl rfl)<|rM rfl cK rfl<|rS (AG rfl)<|RK hK22<|aE ?_
  refine hQ _ _ _ (bB (vs:=[(Value.agg (ae.cells (ae.mk (z.Lo+s.ek.Lo) (z.Hi+s.ek.Hi))).toArray),(Value.int .i64 0)]) ⟨⟨_,rfl,.inl ⟨_,_,cp,cy (vs:=(ae.cells (ae.mk (z.Lo+s.ek.Lo) (z.Hi+s.ek.Hi)))) 2 rfl rfl,rfl,rfl⟩⟩,rfl,trivial⟩ fun w hs=>fq ?_ hs)
  show (Value.tuple [(Value.agg (ae.cells (ae.mk (z.Lo+s.ek.Lo) (z.Hi+s.ek.Hi))).toArray),(Value.int .i64 0)].toArray)=(Value.tuple [(Value.agg (ae.cells (vc ts s)).toArray),(Value.int .i64 (sq ts s))].toArray)
  clear hs w hQ hN hK22 hT21 T21 hT20 T20 hT18 T18 hT17 T17 hT12 T12 hK11 hK9 hK8 hK6 hK5 hK1
  first|(have e:=mY (s:=s) (by simpa using h9); rw [e.1,e.2]<;>rfl)|(have e:=nh h9 h14; rw [e.1,e.2]<;>rfl)|(have e:=l8 h9 h14; subst hzm; rw [e.1,e.2]<;>rfl)
 refine NO rfl rfl [6,7] fun T18 hT18=>rS (lF ((s.ak).toNat) 0 (ae.cells z) rfl cp (aC (n:=(eB ts (ts.length+1)).length) 0 rfl (by simp)) hzm rfl (by decide) rfl rfl)<|RD hT18 1 rfl<|N1 6<|NO rfl rfl [7] fun T19 hT19=>AL rfl dF fun b20=>RD hT19 2 rfl<|N1 7<|NO rfl rfl [] fun T21 hT21=>fO rfl cK rfl ?_
 refine RD hT21 2 rfl<|g8<|KK hK11<|WS fun _ hK22=>rS (FA 0 rfl bU rfl) ?_
 have hzm:=m8 hz
 have hlb:=ki hst 0 s.ak.toNat
 unfold jU at hof
 rw [← hzm] at hlb
 refine rS (L1 (Value.int .i64 z.Lo) 0 rfl bu rfl rfl)<|rS (FA 1 rfl f_ rfl)<|rS (FA 1 rfl bU rfl)<|rS (L1 (Value.int .i64 s.ek.Lo) 3 rfl bu rfl rfl)<|rS (BI rfl (aZ ⟨by omega,by omega⟩))<|rS (FA 1 rfl cd rfl)<|rS (L1 (Value.int .i64 z.Hi) 0 rfl bu rfl rfl)<|rS (FA 1 rfl f_ rfl)<|rS (FA 2 rfl cd rfl)<|rS (L1 (Value.int .i64 s.ek.Hi) 3 rfl bu rfl rfl) ?_
 refine rS (BI rfl (aZ ⟨by omega,by omega⟩))<|rS (SX (bp (xs:=[(0,.tmp 27),(1,.tmp 33)]) (cs:=(ae.cells (ae.mk (z.Lo+s.ek.Lo) (z.Hi+s.ek.Hi)))) rfl rfl (bq fI rfl)) rfl rfl)<|rM rfl cK rfl<|rS (AG rfl)<|RK hK22<|aE ?_
 refine hQ _ _ _ (bB (vs:=[(Value.agg (ae.cells (ae.mk (z.Lo+s.ek.Lo) (z.Hi+s.ek.Hi))).toArray),(Value.int .i64 0)]) ⟨⟨_,rfl,.inl ⟨_,_,cp,cy (vs:=(ae.cells (ae.mk (z.Lo+s.ek.Lo) (z.Hi+s.ek.Hi)))) 2 rfl rfl,rfl,rfl⟩⟩,rfl,trivial⟩ fun w hs=>fq ?_ hs)
 show (Value.tuple [(Value.agg (ae.cells (ae.mk (z.Lo+s.ek.Lo) (z.Hi+s.ek.Hi))).toArray),(Value.int .i64 0)].toArray)=(Value.tuple [(Value.agg (ae.cells (vc ts s)).toArray),(Value.int .i64 (sq ts s))].toArray)
 clear hs w hQ hN hK22 hT21 T21 hT19 T19 hT18 T18 hT17 T17 hT12 T12 hK11 hK9 hK8 hK6 hK5 hK1
 first|(have e:=mY (s:=s) (by simpa using h9); rw [e.1,e.2]<;>rfl)|(have e:=nh h9 h14; rw [e.1,e.2]<;>rfl)|(have e:=l8 h9 h14; subst hzm; rw [e.1,e.2]<;>rfl)
set_option maxRecDepth 100000 in
set_option maxHeartbeats 400000 in
theorem zm (ts:List ah) (tsA:Option Addr) (tsC:Nat) (p:bS) (q:bS) (hlen:ts.length≤1000000) (hside: ∀ x∈ts,0≤x.gi∧x.gi≤255) (hord: ¬ q.ak<p.ak):
 eH Tryz.prog 123 [(Value.agg (au.cells (au.mk (av.mk tsA ts.length tsC))).toArray),(Value.agg (bS.cells p).toArray),(Value.agg (bS.cells q).toArray)] [(rd tsA ts.length 9 (ts.map ah.cells))] (Value.tuple [(Value.agg (ae.cells (dJ ts p q)).toArray),(Value.int .i64 (fh ts p q))].toArray):=by
 refine bL DM Tryz.func123 rfl rfl fun w0 Q hQ hN=>?_
 try dsimp only
 refine WS fun _ hK1=>fy rfl fun b2=>fy rfl fun b3=>fy rfl fun b4=>AL rfl dF fun b5=>rS (AG rfl)<|RK hK1<|aq fun _ hK6=>WS fun _ hK7=>rS (LW 3 rfl jn rfl rfl) ?_
 refine rS (CL (rK ts tsA tsC hlen) (ax 4 rfl rfl<|ay) rfl)<|rS (NT rfl)<|RK hK7 ?_
 refine bj rfl (fun h14=>?_) (fun h14=>?_)
 ·rw [Bool.not_eq_true'] at h14
  refine WS fun _ hK8=>rS (SX (bp (xs:=[]) (cs:=(ae.cells (ae.mk 0 0))) rfl rfl (bq fI rfl)) rfl rfl)<|fO rfl cK rfl<|rS (AG rfl)<|RK hK8<|aE ?_
  refine hQ _ _ _ (bB (vs:=[(Value.agg (ae.cells (ae.mk 0 0)).toArray),(Value.int .i64 10)]) ⟨⟨_,rfl,.inl ⟨_,_,cp,cy (vs:=(ae.cells (ae.mk 0 0))) 0 rfl rfl,rfl,rfl⟩⟩,rfl,trivial⟩ fun w hs=>fq ?_ hs)
  show (Value.tuple [(Value.agg (ae.cells (ae.mk 0 0)).toArray),(Value.int .i64 10)].toArray)=(Value.tuple [(Value.agg (ae.cells (dJ ts p q)).toArray),(Value.int .i64 (fh ts p q))].toArray)
  clear hs w hQ hN hK8 hK7 hK6 hK1
  first|(have e:=fV (a:=p) (b:=q) (by simpa using h14); rw [e.1,e.2]<;>rfl)|(have e:=cw h14 hq1; rw [e.1,e.2,eK h31]<;>rfl)|(have e:=cw h14 hq1; have e2:=cw h14 ⟨h25,h20⟩; rw [e.1,e.2,e2.2,hH h31]<;>rfl)|(have e:=fR (a:=p) (b:=q) h14 (fun h=>by first|exact h20 h.1|exact h25 h.2); rw [e.1,e.2]<;>rfl)
 rw [Bool.not_eq_false'] at h14
 refine WK hK6<|aq fun _ hK9=>WS fun _ hK10=>?_
 have hst:=iI h14
 have hl12:=jt h14
 refine rS (LW 3 rfl jn rfl rfl)<|rS (LW 2 rfl kO rfl rfl)<|rS (CL (oe ts tsA tsC p (by first|assumption|omega|(simp; done)|(simp; omega)) (by first|assumption|omega|(simp; done)|(simp; omega))) (ax 4 rfl rfl<|ay) rfl)<|rS (NT rfl)<|rS (MV rfl) ?_
 refine bH (t:=20) rfl (fun h20=>?_) (fun h20=>?_)
 ·replace h20:=XT h20
  refine rS (OX rfl)<|rS (OX rfl)<|rS (OX rfl)<|rS (OX rfl)<|rS (PK rfl)<|RK hK10<|aX rfl<|WS fun _ hK11=>rS (SX (bp (xs:=[]) (cs:=(ae.cells (ae.mk 0 0))) rfl rfl (bq fI rfl)) rfl rfl)<|fO rfl cK rfl ?_
  refine rS (AG rfl)<|RK hK11<|aE ?_
  refine hQ _ _ _ (bB (vs:=[(Value.agg (ae.cells (ae.mk 0 0)).toArray),(Value.int .i64 12)]) ⟨⟨_,rfl,.inl ⟨_,_,cp,cy (vs:=(ae.cells (ae.mk 0 0))) 0 rfl rfl,rfl,rfl⟩⟩,rfl,trivial⟩ fun w hs=>fq ?_ hs)
  show (Value.tuple [(Value.agg (ae.cells (ae.mk 0 0)).toArray),(Value.int .i64 12)].toArray)=(Value.tuple [(Value.agg (ae.cells (dJ ts p q)).toArray),(Value.int .i64 (fh ts p q))].toArray)
  clear hs w hQ hN hK11 hK10 hK9 hK7 hK6 hK1
  first|(have e:=fV (a:=p) (b:=q) (by simpa using h14); rw [e.1,e.2]<;>rfl)|(have e:=cw h14 hq1; rw [e.1,e.2,eK h31]<;>rfl)|(have e:=cw h14 hq1; have e2:=cw h14 ⟨h25,h20⟩; rw [e.1,e.2,e2.2,hH h31]<;>rfl)|(have e:=fR (a:=p) (b:=q) h14 (fun h=>by first|exact h20 h.1|exact h25 h.2); rw [e.1,e.2]<;>rfl)
 replace h20:=XF h20
 refine rS (LW 3 rfl jn rfl rfl)<|rS (LW 1 rfl kO rfl rfl)<|rS (CL (oe ts tsA tsC q (by first|assumption|omega|(simp; done)|(simp; omega)) (by first|assumption|omega|(simp; done)|(simp; omega))) (ax 4 rfl rfl<|ay) rfl)<|rS (NT rfl)<|rS (PK rfl)<|RK hK10 ?_
 refine bj rfl (fun h25=>?_) (fun h25=>?_)
 ·replace h25:=XT h25
  refine WS fun _ hK12=>rS (SX (bp (xs:=[]) (cs:=(ae.cells (ae.mk 0 0))) rfl rfl (bq fI rfl)) rfl rfl)<|fO rfl cK rfl<|rS (AG rfl)<|RK hK12<|aE ?_
  refine hQ _ _ _ (bB (vs:=[(Value.agg (ae.cells (ae.mk 0 0)).toArray),(Value.int .i64 12)]) ⟨⟨_,rfl,.inl ⟨_,_,cp,cy (vs:=(ae.cells (ae.mk 0 0))) 0 rfl rfl,rfl,rfl⟩⟩,rfl,trivial⟩ fun w hs=>fq ?_ hs)
  show (Value.tuple [(Value.agg (ae.cells (ae.mk 0 0)).toArray),(Value.int .i64 12)].toArray)=(Value.tuple [(Value.agg (ae.cells (dJ ts p q)).toArray),(Value.int .i64 (fh ts p q))].toArray)
  clear hs w hQ hN hK12 hK10 hK9 hK7 hK6 hK1
  first|(have e:=fV (a:=p) (b:=q) (by simpa using h14); rw [e.1,e.2]<;>rfl)|(have e:=cw h14 hq1; rw [e.1,e.2,eK h31]<;>rfl)|(have e:=cw h14 hq1; have e2:=cw h14 ⟨h25,h20⟩; rw [e.1,e.2,e2.2,hH h31]<;>rfl)|(have e:=fR (a:=p) (b:=q) h14 (fun h=>by first|exact h20 h.1|exact h25 h.2); rw [e.1,e.2]<;>rfl)
 replace h25:=XF h25
 refine WK hK9<|aq fun _ hK13=>WS fun _ hK14=>?_
 have hq1:ei ts p∧ei ts q:=⟨h20,h25⟩
 have hpo:=nX hst h20
 have hqo:=nX hst h25
 have hpb:=h20.1
 have hqb:=h25.1
 have hab:=tj hst hl12 h25 h20
 unfold jU at hpo hqo
 refine rS (FA 0 rfl gX rfl)<|rS (L1 (Value.int .i64 q.ak) 1 rfl bu rfl rfl)<|rS (FA 0 rfl gX rfl)<|rS (L1 (Value.int .i64 p.ak) 2 rfl bu rfl rfl)<|rS (BI rfl cv)<|RK hK14 ?_
 refine bj rfl (fun h31=>?_) (fun h31=>?_)
 ·replace h31:=DT h31
  exfalso; omega
 replace h31:=DF h31
 refine WK hK13<|WS fun _ hK15=>rS (LW 3 rfl jn rfl rfl)<|rS (FA 0 rfl gX rfl) ?_
 have hlb:=ki hst p.ak.toNat (q.ak-p.ak).toNat
 refine rS (L1 (Value.int .i64 p.ak) 2 rfl bu rfl rfl)<|rS (FA 0 rfl gX rfl)<|rS (L1 (Value.int .i64 q.ak) 1 rfl bu rfl rfl)<|rS (CL (u9 ts tsA tsC p.ak q.ak (by first|assumption|omega|(simp; done)|(simp; omega)) (by first|assumption|omega|(simp; done)|(simp; omega)) (by omega)) (ax 4 rfl rfl<|ay) rfl)<|rS (MV rfl)<|rS (EX rfl)<|rS (EX rfl)<|AL rfl dF fun b16=>AL rfl dF fun b17=>nk rfl cK rfl ?_
 refine fO rfl cK rfl<|RK hK15<|WS fun _ hK18=>rS (FA 0 rfl bU rfl)<|rS (L1 (Value.int .i64 ((bW ts p.ak.toNat (q.ak-p.ak).toNat).Lo)) 1 rfl bu rfl rfl)<|rS (FA 1 rfl f_ rfl)<|rS (FA 1 rfl bU rfl)<|rS (L1 (Value.int .i64 q.ek.Lo) 3 rfl bu rfl rfl)<|rS (BI rfl (aZ ⟨by omega,by omega⟩))<|rS (FA 1 rfl f_ rfl) ?_
 refine rS (FA 2 rfl cd rfl)<|rS (L1 (Value.int .i64 p.ek.Hi) 4 rfl bu rfl rfl)<|rS (BI rfl (da ⟨by omega,by omega⟩))<|rS (FA 1 rfl cd rfl)<|rS (L1 (Value.int .i64 ((bW ts p.ak.toNat (q.ak-p.ak).toNat).Hi)) 1 rfl bu rfl rfl)<|rS (FA 1 rfl f_ rfl)<|rS (FA 2 rfl cd rfl)<|rS (L1 (Value.int .i64 q.ek.Hi) 3 rfl bu rfl rfl)<|rS (BI rfl (aZ ⟨by omega,by omega⟩))<|rS (FA 1 rfl f_ rfl) ?_
 refine rS (FA 1 rfl bU rfl)<|rS (L1 (Value.int .i64 p.ek.Lo) 4 rfl bu rfl rfl)<|rS (BI rfl (da ⟨by omega,by omega⟩))<|rS (SX (bp (xs:=[(0,.tmp 64),(1,.tmp 74)]) (cs:=(ae.cells (ae.mk ((((bW ts p.ak.toNat (q.ak-p.ak).toNat).Lo)+q.ek.Lo)-p.ek.Hi) ((((bW ts p.ak.toNat (q.ak-p.ak).toNat).Hi)+q.ek.Hi)-p.ek.Lo)))) rfl rfl (bq fI rfl)) rfl rfl)<|rM rfl cK rfl<|rS (AG rfl)<|RK hK18<|aE ?_
 refine hQ _ _ _ (bB (vs:=[(Value.agg (ae.cells (ae.mk ((((bW ts p.ak.toNat (q.ak-p.ak).toNat).Lo)+q.ek.Lo)-p.ek.Hi) ((((bW ts p.ak.toNat (q.ak-p.ak).toNat).Hi)+q.ek.Hi)-p.ek.Lo))).toArray),(Value.int .i64 0)]) ⟨⟨_,rfl,.inl ⟨_,_,cp,cy (vs:=(ae.cells (ae.mk ((((bW ts p.ak.toNat (q.ak-p.ak).toNat).Lo)+q.ek.Lo)-p.ek.Hi) ((((bW ts p.ak.toNat (q.ak-p.ak).toNat).Hi)+q.ek.Hi)-p.ek.Lo)))) 2 rfl rfl,rfl,rfl⟩⟩,rfl,trivial⟩ fun w hs=>fq ?_ hs)
 show (Value.tuple [(Value.agg (ae.cells (ae.mk ((((bW ts p.ak.toNat (q.ak-p.ak).toNat).Lo)+q.ek.Lo)-p.ek.Hi) ((((bW ts p.ak.toNat (q.ak-p.ak).toNat).Hi)+q.ek.Hi)-p.ek.Lo))).toArray),(Value.int .i64 0)].toArray)=(Value.tuple [(Value.agg (ae.cells (dJ ts p q)).toArray),(Value.int .i64 (fh ts p q))].toArray)
 clear hs w hQ hN hK18 hK15 hK14 hK13 hK10 hK9 hK7 hK6 hK1
 first|(have e:=fV (a:=p) (b:=q) (by simpa using h14); rw [e.1,e.2]<;>rfl)|(have e:=cw h14 hq1; rw [e.1,e.2,eK h31]<;>rfl)|(have e:=cw h14 hq1; have e2:=cw h14 ⟨h25,h20⟩; rw [e.1,e.2,e2.2,hH h31]<;>rfl)|(have e:=fR (a:=p) (b:=q) h14 (fun h=>by first|exact h20 h.1|exact h25 h.2); rw [e.1,e.2]<;>rfl)
set_option maxRecDepth 100000 in
set_option maxHeartbeats 400000 in
theorem AW (ts:List ah) (tsA:Option Addr) (tsC:Nat) (p:bS) (q:bS) (hlen:ts.length≤1000000) (hside: ∀ x∈ts,0≤x.gi∧x.gi≤255):
 eH Tryz.prog 123 [(Value.agg (au.cells (au.mk (av.mk tsA ts.length tsC))).toArray),(Value.agg (bS.cells p).toArray),(Value.agg (bS.cells q).toArray)] [(rd tsA ts.length 9 (ts.map ah.cells))] (Value.tuple [(Value.agg (ae.cells (dJ ts p q)).toArray),(Value.int .i64 (fh ts p q))].toArray):=by
 refine bL DM Tryz.func123 rfl rfl fun w0 Q hQ hN=>?_
 try dsimp only
 refine WS fun _ hK1=>fy rfl fun b2=>fy rfl fun b3=>fy rfl fun b4=>AL rfl dF fun b5=>rS (AG rfl)<|RK hK1<|aq fun _ hK6=>WS fun _ hK7=>rS (LW 3 rfl jn rfl rfl) ?_
 refine rS (CL (rK ts tsA tsC hlen) (ax 4 rfl rfl<|ay) rfl)<|rS (NT rfl)<|RK hK7 ?_
 refine bj rfl (fun h14=>?_) (fun h14=>?_)
 ·rw [Bool.not_eq_true'] at h14
  refine WS fun _ hK8=>rS (SX (bp (xs:=[]) (cs:=(ae.cells (ae.mk 0 0))) rfl rfl (bq fI rfl)) rfl rfl)<|fO rfl cK rfl<|rS (AG rfl)<|RK hK8<|aE ?_
  refine hQ _ _ _ (bB (vs:=[(Value.agg (ae.cells (ae.mk 0 0)).toArray),(Value.int .i64 10)]) ⟨⟨_,rfl,.inl ⟨_,_,cp,cy (vs:=(ae.cells (ae.mk 0 0))) 0 rfl rfl,rfl,rfl⟩⟩,rfl,trivial⟩ fun w hs=>fq ?_ hs)
  show (Value.tuple [(Value.agg (ae.cells (ae.mk 0 0)).toArray),(Value.int .i64 10)].toArray)=(Value.tuple [(Value.agg (ae.cells (dJ ts p q)).toArray),(Value.int .i64 (fh ts p q))].toArray)
  clear hs w hQ hN hK8 hK7 hK6 hK1
  first|(have e:=fV (a:=p) (b:=q) (by simpa using h14); rw [e.1,e.2]<;>rfl)|(have e:=cw h14 hq1; rw [e.1,e.2,eK h31]<;>rfl)|(have e:=cw h14 hq1; have e2:=cw h14 ⟨h25,h20⟩; rw [e.1,e.2,e2.2,hH h31]<;>rfl)|(have e:=fR (a:=p) (b:=q) h14 (fun h=>by first|exact h20 h.1|exact h25 h.2); rw [e.1,e.2]<;>rfl)
 rw [Bool.not_eq_false'] at h14
 refine WK hK6<|aq fun _ hK9=>WS fun _ hK10=>?_
 have hst:=iI h14
 have hl12:=jt h14
 refine rS (LW 3 rfl jn rfl rfl)<|rS (LW 2 rfl kO rfl rfl)<|rS (CL (oe ts tsA tsC p (by first|assumption|omega|(simp; done)|(simp; omega)) (by first|assumption|omega|(simp; done)|(simp; omega))) (ax 4 rfl rfl<|ay) rfl)<|rS (NT rfl)<|rS (MV rfl) ?_
 refine bH (t:=20) rfl (fun h20=>?_) (fun h20=>?_)
 ·replace h20:=XT h20
  refine rS (OX rfl)<|rS (OX rfl)<|rS (OX rfl)<|rS (OX rfl)<|rS (PK rfl)<|RK hK10<|aX rfl<|WS fun _ hK11=>rS (SX (bp (xs:=[]) (cs:=(ae.cells (ae.mk 0 0))) rfl rfl (bq fI rfl)) rfl rfl)<|fO rfl cK rfl ?_
  refine rS (AG rfl)<|RK hK11<|aE ?_
  refine hQ _ _ _ (bB (vs:=[(Value.agg (ae.cells (ae.mk 0 0)).toArray),(Value.int .i64 12)]) ⟨⟨_,rfl,.inl ⟨_,_,cp,cy (vs:=(ae.cells (ae.mk 0 0))) 0 rfl rfl,rfl,rfl⟩⟩,rfl,trivial⟩ fun w hs=>fq ?_ hs)
  show (Value.tuple [(Value.agg (ae.cells (ae.mk 0 0)).toArray),(Value.int .i64 12)].toArray)=(Value.tuple [(Value.agg (ae.cells (dJ ts p q)).toArray),(Value.int .i64 (fh ts p q))].toArray)
  clear hs w hQ hN hK11 hK10 hK9 hK7 hK6 hK1
  first|(have e:=fV (a:=p) (b:=q) (by simpa using h14); rw [e.1,e.2]<;>rfl)|(have e:=cw h14 hq1; rw [e.1,e.2,eK h31]<;>rfl)|(have e:=cw h14 hq1; have e2:=cw h14 ⟨h25,h20⟩; rw [e.1,e.2,e2.2,hH h31]<;>rfl)|(have e:=fR (a:=p) (b:=q) h14 (fun h=>by first|exact h20 h.1|exact h25 h.2); rw [e.1,e.2]<;>rfl)
 replace h20:=XF h20
 refine rS (LW 3 rfl jn rfl rfl)<|rS (LW 1 rfl kO rfl rfl)<|rS (CL (oe ts tsA tsC q (by first|assumption|omega|(simp; done)|(simp; omega)) (by first|assumption|omega|(simp; done)|(simp; omega))) (ax 4 rfl rfl<|ay) rfl)<|rS (NT rfl)<|rS (PK rfl)<|RK hK10 ?_
 refine bj rfl (fun h25=>?_) (fun h25=>?_)
 ·replace h25:=XT h25
  refine WS fun _ hK12=>rS (SX (bp (xs:=[]) (cs:=(ae.cells (ae.mk 0 0))) rfl rfl (bq fI rfl)) rfl rfl)<|fO rfl cK rfl<|rS (AG rfl)<|RK hK12<|aE ?_
  refine hQ _ _ _ (bB (vs:=[(Value.agg (ae.cells (ae.mk 0 0)).toArray),(Value.int .i64 12)]) ⟨⟨_,rfl,.inl ⟨_,_,cp,cy (vs:=(ae.cells (ae.mk 0 0))) 0 rfl rfl,rfl,rfl⟩⟩,rfl,trivial⟩ fun w hs=>fq ?_ hs)
  show (Value.tuple [(Value.agg (ae.cells (ae.mk 0 0)).toArray),(Value.int .i64 12)].toArray)=(Value.tuple [(Value.agg (ae.cells (dJ ts p q)).toArray),(Value.int .i64 (fh ts p q))].toArray)
  clear hs w hQ hN hK12 hK10 hK9 hK7 hK6 hK1
  first|(have e:=fV (a:=p) (b:=q) (by simpa using h14); rw [e.1,e.2]<;>rfl)|(have e:=cw h14 hq1; rw [e.1,e.2,eK h31]<;>rfl)|(have e:=cw h14 hq1; have e2:=cw h14 ⟨h25,h20⟩; rw [e.1,e.2,e2.2,hH h31]<;>rfl)|(have e:=fR (a:=p) (b:=q) h14 (fun h=>by first|exact h20 h.1|exact h25 h.2); rw [e.1,e.2]<;>rfl)
 replace h25:=XF h25
 refine WK hK9<|aq fun _ hK13=>WS fun _ hK14=>?_
 have hq1:ei ts p∧ei ts q:=⟨h20,h25⟩
 have hpo:=nX hst h20
 have hqo:=nX hst h25
 have hpb:=h20.1
 have hqb:=h25.1
 have hab:=tj hst hl12 h25 h20
 unfold jU at hpo hqo
 refine rS (FA 0 rfl gX rfl)<|rS (L1 (Value.int .i64 q.ak) 1 rfl bu rfl rfl)<|rS (FA 0 rfl gX rfl)<|rS (L1 (Value.int .i64 p.ak) 2 rfl bu rfl rfl)<|rS (BI rfl cv)<|RK hK14 ?_
 refine bj rfl (fun h31=>?_) (fun h31=>?_)
 ·replace h31:=DT h31
  refine WS fun _ hK15=>rS (LW 3 rfl jn rfl rfl)<|rS (LW 1 rfl kO rfl rfl)<|rS (LW 2 rfl kO rfl rfl)<|rS (CL (zm ts tsA tsC q p hlen hside (by first|assumption|omega|(simp; done)|(simp; omega))) (ax 4 rfl rfl<|ay) rfl)<|rS (MV rfl)<|rS (EX rfl)<|rS (EX rfl)<|AL rfl dF fun b16=>fO rfl cK rfl ?_
  refine rS (AG rfl)<|RK hK15<|WS fun _ hK17=>rS (FA 1 rfl cd rfl)<|rS (L1 (Value.int .i64 ((dJ ts q p).Hi)) 0 rfl bu rfl rfl) ?_
  have hav:dJ ts q p=fX ts q p:=(cw h14 ⟨h25,h20⟩).2
  have hav1: -400000≤(dJ ts q p).Lo∧(dJ ts q p).Hi≤400000:=by rw [hav]; omega
  have hav2:(dJ ts q p).Lo≤(dJ ts q p).Hi:=by rw [hav]; omega
  refine rS (NG rfl ⟨by omega,by omega⟩)<|rS (FA 0 rfl bU rfl)<|rS (L1 (Value.int .i64 ((dJ ts q p).Lo)) 0 rfl bu rfl rfl)<|rS (NG rfl ⟨by omega,by omega⟩)<|rS (SX (bp (xs:=[(0,.tmp 41),(1,.tmp 44)]) (cs:=(ae.cells (ae.mk (-((dJ ts q p).Hi)) (-((dJ ts q p).Lo))))) rfl rfl (bq fI rfl)) rfl rfl)<|nk rfl cK rfl<|rS (AG rfl)<|RK hK17<|aE ?_
  refine hQ _ _ _ (bB (vs:=[(Value.agg (ae.cells (ae.mk (-((dJ ts q p).Hi)) (-((dJ ts q p).Lo)))).toArray),(Value.int .i64 0)]) ⟨⟨_,rfl,.inl ⟨_,_,cp,cy (vs:=(ae.cells (ae.mk (-((dJ ts q p).Hi)) (-((dJ ts q p).Lo))))) 1 rfl rfl,rfl,rfl⟩⟩,rfl,trivial⟩ fun w hs=>fq ?_ hs)
  show (Value.tuple [(Value.agg (ae.cells (ae.mk (-((dJ ts q p).Hi)) (-((dJ ts q p).Lo)))).toArray),(Value.int .i64 0)].toArray)=(Value.tuple [(Value.agg (ae.cells (dJ ts p q)).toArray),(Value.int .i64 (fh ts p q))].toArray)
  clear hs w hQ hN hK17 hK15 hK14 hK13 hK10 hK9 hK7 hK6 hK1
  first|(have e:=fV (a:=p) (b:=q) (by simpa using h14); rw [e.1,e.2]<;>rfl)|(have e:=cw h14 hq1; rw [e.1,e.2,eK h31]<;>rfl)|(have e:=cw h14 hq1; have e2:=cw h14 ⟨h25,h20⟩; rw [e.1,e.2,e2.2,hH h31]<;>rfl)|(have e:=fR (a:=p) (b:=q) h14 (fun h=>by first|exact h20 h.1|exact h25 h.2); rw [e.1,e.2]<;>rfl)
 replace h31:=DF h31
 refine WK hK13<|WS fun _ hK18=>rS (LW 3 rfl jn rfl rfl)<|rS (FA 0 rfl gX rfl) ?_
 have hlb:=ki hst p.ak.toNat (q.ak-p.ak).toNat
 refine rS (L1 (Value.int .i64 p.ak) 2 rfl bu rfl rfl)<|rS (FA 0 rfl gX rfl)<|rS (L1 (Value.int .i64 q.ak) 1 rfl bu rfl rfl)<|rS (CL (u9 ts tsA tsC p.ak q.ak (by first|assumption|omega|(simp; done)|(simp; omega)) (by first|assumption|omega|(simp; done)|(simp; omega)) (by omega)) (ax 4 rfl rfl<|ay) rfl)<|rS (MV rfl)<|rS (EX rfl)<|rS (EX rfl)<|AL rfl dF fun b19=>AL rfl dF fun b20=>nk rfl cK rfl ?_
 refine fO rfl cK rfl<|RK hK18<|WS fun _ hK21=>rS (FA 0 rfl bU rfl)<|rS (L1 (Value.int .i64 ((bW ts p.ak.toNat (q.ak-p.ak).toNat).Lo)) 1 rfl bu rfl rfl)<|rS (FA 1 rfl f_ rfl)<|rS (FA 1 rfl bU rfl)<|rS (L1 (Value.int .i64 q.ek.Lo) 3 rfl bu rfl rfl)<|rS (BI rfl (aZ ⟨by omega,by omega⟩))<|rS (FA 1 rfl f_ rfl) ?_
 refine rS (FA 2 rfl cd rfl)<|rS (L1 (Value.int .i64 p.ek.Hi) 4 rfl bu rfl rfl)<|rS (BI rfl (da ⟨by omega,by omega⟩))<|rS (FA 1 rfl cd rfl)<|rS (L1 (Value.int .i64 ((bW ts p.ak.toNat (q.ak-p.ak).toNat).Hi)) 1 rfl bu rfl rfl)<|rS (FA 1 rfl f_ rfl)<|rS (FA 2 rfl cd rfl)<|rS (L1 (Value.int .i64 q.ek.Hi) 3 rfl bu rfl rfl)<|rS (BI rfl (aZ ⟨by omega,by omega⟩))<|rS (FA 1 rfl f_ rfl) ?_
 refine rS (FA 1 rfl bU rfl)<|rS (L1 (Value.int .i64 p.ek.Lo) 4 rfl bu rfl rfl)<|rS (BI rfl (da ⟨by omega,by omega⟩))<|rS (SX (bp (xs:=[(0,.tmp 64),(1,.tmp 74)]) (cs:=(ae.cells (ae.mk ((((bW ts p.ak.toNat (q.ak-p.ak).toNat).Lo)+q.ek.Lo)-p.ek.Hi) ((((bW ts p.ak.toNat (q.ak-p.ak).toNat).Hi)+q.ek.Hi)-p.ek.Lo)))) rfl rfl (bq fI rfl)) rfl rfl)<|rM rfl cK rfl<|rS (AG rfl)<|RK hK21<|aE ?_
 refine hQ _ _ _ (bB (vs:=[(Value.agg (ae.cells (ae.mk ((((bW ts p.ak.toNat (q.ak-p.ak).toNat).Lo)+q.ek.Lo)-p.ek.Hi) ((((bW ts p.ak.toNat (q.ak-p.ak).toNat).Hi)+q.ek.Hi)-p.ek.Lo))).toArray),(Value.int .i64 0)]) ⟨⟨_,rfl,.inl ⟨_,_,cp,cy (vs:=(ae.cells (ae.mk ((((bW ts p.ak.toNat (q.ak-p.ak).toNat).Lo)+q.ek.Lo)-p.ek.Hi) ((((bW ts p.ak.toNat (q.ak-p.ak).toNat).Hi)+q.ek.Hi)-p.ek.Lo)))) 2 rfl rfl,rfl,rfl⟩⟩,rfl,trivial⟩ fun w hs=>fq ?_ hs)
 show (Value.tuple [(Value.agg (ae.cells (ae.mk ((((bW ts p.ak.toNat (q.ak-p.ak).toNat).Lo)+q.ek.Lo)-p.ek.Hi) ((((bW ts p.ak.toNat (q.ak-p.ak).toNat).Hi)+q.ek.Hi)-p.ek.Lo))).toArray),(Value.int .i64 0)].toArray)=(Value.tuple [(Value.agg (ae.cells (dJ ts p q)).toArray),(Value.int .i64 (fh ts p q))].toArray)
 clear hs w hQ hN hK21 hK18 hK14 hK13 hK10 hK9 hK7 hK6 hK1
 first|(have e:=fV (a:=p) (b:=q) (by simpa using h14); rw [e.1,e.2]<;>rfl)|(have e:=cw h14 hq1; rw [e.1,e.2,eK h31]<;>rfl)|(have e:=cw h14 hq1; have e2:=cw h14 ⟨h25,h20⟩; rw [e.1,e.2,e2.2,hH h31]<;>rfl)|(have e:=fR (a:=p) (b:=q) h14 (fun h=>by first|exact h20 h.1|exact h25 h.2); rw [e.1,e.2]<;>rfl)
end
end Go.Proofs.YthiigjekcdjkkaaGreat
