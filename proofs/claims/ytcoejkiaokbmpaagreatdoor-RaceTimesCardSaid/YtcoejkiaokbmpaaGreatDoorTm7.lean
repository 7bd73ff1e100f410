/-
 The statement raceTimes_said, part 7 of 8: Ways, Async, WayM, DrawB, B9, R1, Y1, Y2, Y3, Y5, Rx5, Rr3, Rr4, Rr5, Rr6, Rx6, Rx7, Rra, RL2, LineOpen, RaceOpen.
 Conditions: none.
-/
import Derived.Test.YtcoejkiaokbmpaaGreatDoorTm1
import Derived.Test.YtcoejkiaokbmpaaGreatDoorTm2
import Derived.Test.YtcoejkiaokbmpaaGreatDoorTm3
import Derived.Test.YtcoejkiaokbmpaaGreatDoorTm4
import Derived.Test.YtcoejkiaokbmpaaGreatDoorTm5
import Derived.Test.YtcoejkiaokbmpaaGreatDoorTm6
namespace Go.Proofs.YtcoejkiaokbmpaaGreatDoor
set_option maxRecDepth 100000
set_option maxHeartbeats 4000000
set_option linter.unusedVariables false
section
def fy (hi:Int→Int) (least:Nat→Int) (now:Int):Nat→List Int→List Int×Int
 |_,[]=>([],now)
 |b,x::xs=>((if 0≤x then min (fy hi least now (b+1) xs).2 (hi x) else (fy hi least now (b+1) xs).2)::(fy hi least now (b+1) xs).1,(if 0≤x then min (fy hi least now (b+1) xs).2 (hi x) else (fy hi least now (b+1) xs).2)-least b)
def e9 (t:Int):List Int→Int
 |[]=>t
 |x::xs=>e9 x xs
def iU (w:bJ):Nat→Int→List Int→List Int→Prop
 |_,_,[],[]=>True
 |b,t,x::rs,y::fs=>(∃ o∈gr w b,o.1=x∧max (t+bK w b) o.2.Lo≤min o.2.Hi w.eX∧y=max (t+bK w b) o.2.Lo)∧iU w (b+1) y rs fs
 |_,_,_,_=>False
section
variable {w:bJ} {hi:Int→Int} {least:Nat→Int} {now:Int}
theorem ph: ∀ (b:Nat) (rs:List Int),(fy hi least now b rs).1.length=rs.length
 |_,[]=>rfl
 |b,x::xs=>by simp only [fy,List.length_cons]; rw [ph]
theorem k8: ∀ (t:Int) (fs:List Int) (y:Int),e9 t (fs++[y])=y
 |_,[],_=>rfl
 |t,x::fs,y=>k8 x fs y
theorem yf: ∀ (t:Int) (fs:List Int) (y:Int),fs[fs.length-1]? =some y→e9 t fs=y
 |t,[],y,h=>by simp at h
 |t,[x],y,h=>by simpa [e9] using h
 |t,x::x2::fs,y,h=>by
  show e9 x (x2::fs)=y
  exact yf x (x2::fs) y (by simpa using h)
theorem qm: ∀ (b:Nat) (rs:List Int) (x:Int) (ss:List Int),(fy hi least now b (rs++x::ss)).1[rs.length]? =some (if 0≤x then min (fy hi least now (b+rs.length+1) ss).2 (hi x) else (fy hi least now (b+rs.length+1) ss).2)
 |b,[],x,ss=>by simp [fy]
 |b,z::rs,x,ss=>by
  have:=qm (b+1) rs x ss
  simp only [List.cons_append,fy,List.length_cons,List.getElem?_cons_succ]
  rw [this,show b+1+rs.length+1=b+(rs.length+1)+1 by omega]
theorem iW: ∀ (b:Nat) (t:Int) (rs fs:List Int),iU w b t rs fs→fs.length=rs.length
 |_,_,[],[],_=>rfl
 |b,t,x::rs,y::fs,h=>by simp [iW _ _ rs fs h.2]
 |_,_,[],_::_,h=>h.elim
 |_,_,_::_,[],h=>h.elim
theorem o8: ∀ (b:Nat) (t:Int) (rs fs ss gs:List Int),fs.length=rs.length→(iU w b t (rs++ss) (fs++gs)↔iU w b t rs fs∧iU w (b+rs.length) (e9 t fs) ss gs)
 |b,t,[],[],ss,gs,_=>by simp [iU,e9]
 |b,t,x::rs,y::fs,ss,gs,h=>by
  have ih:=o8 (b+1) y rs fs ss gs (by simpa using h)
  simp only [List.cons_append,iU,List.length_cons,e9]
  rw [ih,show b+1+rs.length=b+(rs.length+1) by omega,and_assoc]
 |_,_,[],_::_,_,_,h=>by simp at h
 |_,_,_::_,[],_,_,h=>by simp at h
theorem AV (b:List Int): ∀ t:ar,b.foldl (fun t g=>cP t (ej g)) t=cP t (cH b):=by
 induction b with
 |nil=>intro t; exact (lf t).symm
 |cons x b ih=>
  intro t
  show b.foldl (fun t g=>cP t (ej g)) (cP t (ej x))=cP t (b.foldl (fun t g=>cP t (ej g)) (cP ⟨0,0⟩ (ej x)))
  rw [ih,ih]; simp only [cP,ar.mk.injEq]; omega
theorem o_ (a b:List Int):cH (a++b)=cP (cH a) (cH b):=by
 show (a++b).foldl _ _=_
 rw [List.foldl_append,AV]; rfl
theorem pa:cH []=(⟨0,0⟩:ar):=rfl
theorem nB (l:List Int):cP (⟨0,0⟩:ar) (cH l)=cH l:=by simp [cP]
theorem p6 (x:Int) (l:List Int):cH (x::l)=cP (ej x) (cH l):=by
 rw [show x::l=[x]++l from rfl,o_,show cH [x]=ej x from (iP (l:=[])).trans (by rw [pa]; simp [cP])]
theorem qM: ∀ l:List Int,0≤(cH l).right∧0≤(cH l).dT∧(cH l).right+(cH l).dT=(l.length:Int)
 |[]=>by rw [pa]; simp
 |x::l=>by
  rw [p6]
  have:=rj x
  have:=qM l
  simp only [cP,List.length_cons]
  omega
/-- chains are what the watch goes through -/
theorem iQ: ∀ (k b:Nat) (p q:ar×Int),q∈eW w k b p↔ ∃ rs fs,rs.length=k∧iU w b p.2 rs fs∧q=(cP p.1 (cH rs),e9 p.2 fs):=by
 intro k
 induction k with
 |zero=>
  intro b p q
  simp only [eW,cu]
  constructor
  ·rintro rfl; exact ⟨[],[],rfl,trivial,by rw [pa,lf]; rfl⟩
  ·rintro ⟨rs,fs,A,B,rfl⟩
   have A:=iz A
   subst A
   have:=iz (iW _ _ _ _ B)
   subst this
   rw [pa,lf]; rfl
 |succ k ih=>
  intro b p q
  rw [gk]
  constructor
  ·rintro ⟨o,ho,p',e,h⟩
   obtain ⟨A,rfl⟩:=fI.1 e
   obtain ⟨rs,fs,B,C,rfl⟩:=(ih _ _ _).1 h
   refine ⟨o.1::rs,max (p.2+bK w b) o.2.Lo::fs,by simp [B],⟨⟨o,ho,U,A,U⟩,C⟩,?_⟩
   rw [p6]
   simp only [e9,cP,Prod.mk.injEq,ar.mk.injEq,and_true]; omega
  ·rintro ⟨rs,fs,A,B,rfl⟩
   cases rs with
   |nil=>simp at A
   |cons x rs=>
    cases fs with
    |nil=>exact B.elim
    |cons y fs=>
     obtain ⟨⟨o,ho,rfl,C,rfl⟩,D⟩:=B
     refine ⟨o,ho,_,fI.2 ⟨C,U⟩,(ih _ _ _).2 ⟨rs,fs,by simpa using A,D,?_⟩⟩
     rw [p6]
     simp only [e9,cP,Prod.mk.injEq,ar.mk.injEq,and_true]; omega
/-- what the reference's rows of last times know -/
structure GP (w:bJ) (hi:Int→Int) (least:Nat→Int) (now:Int):Prop where
 low: ∀ b,0≤bK w b
 least: ∀ b,b<w.n→least b=bK w b
 now:now=w.eX
 hi: ∀ b o,b<w.n→o∈gr w b→0≤o.1→o.2.Hi=hi o.1
 none_: ∀ b o,b<w.n→o∈gr w b→ ¬ 0≤o.1→o.2.Hi=w.eX
theorem uX (h:GP w hi least now): ∀ (b:Nat) (rs:List Int),b+rs.length≤w.n→(fy hi least now b rs).2≤w.eX
 |_,[],_=>by simp only [fy]; exact Int.le_of_eq h.now
 |b,x::xs,hb=>by
  simp only [List.length_cons] at hb
  have B:=uX h (b+1) xs I
  have A:=h.low b
  rw [← h.least b I] at A
  simp only [fy]
  split<;>omega
theorem o5 (h:GP w hi least now): ∀ (b:Nat) (t:Int) (rs fs:List Int),b+rs.length≤w.n→t≤w.eX→iU w b t rs fs→t≤(fy hi least now b rs).2
 |_,t,[],[],_,ht,_=>by simp only [fy]; rw [h.now]; exact ht
 |b,t,x::rs,y::fs,hb,ht,hc=>by
  simp only [List.length_cons] at hb
  obtain ⟨⟨o,ho,rfl,D,rfl⟩,A⟩:=hc
  have B:=o5 h (b+1) _ rs fs I I A
  have C:=h.least b I
  simp only [fy]
  split
  ·rename_i q
   have:=h.hi b o I ho q
   omega
  ·omega
 |_,_,[],_::_,_,_,hc=>hc.elim
 |_,_,_::_,[],_,_,hc=>hc.elim
theorem tO (h:GP w hi least now): ∀ (b:Nat) (t t':Int) (rs fs:List Int),b+rs.length≤w.n→t≤t'→t'≤(fy hi least now b rs).2→iU w b t rs fs→ ∃ gs,iU w b t' rs gs
 |_,t,_,[],[],_,_,_,_=>⟨[],trivial⟩
 |b,t,t',x::rs,y::fs,hb,ht,he,hc=>by
  simp only [List.length_cons] at hb
  obtain ⟨⟨o,ho,rfl,E,rfl⟩,A⟩:=hc
  have C:=o5 h (b+1) _ rs fs I I A
  have D:=h.least b I
  have F:=uX h (b+1) rs I
  simp only [fy] at he
  have B:max (t'+bK w b) o.2.Lo≤min o.2.Hi w.eX∧max (t'+bK w b) o.2.Lo≤(fy hi least now (b+1) rs).2:=by
   split at he
   ·rename_i q
    have:=h.hi b o I ho q
    omega
   ·rename_i q
    have:=h.none_ b o I ho q
    omega
  obtain ⟨gs,hg⟩:=tO h (b+1) _ (max (t'+bK w b) o.2.Lo) rs fs I I B.2 A
  exact ⟨_::gs,⟨o,ho,U,B.1,U⟩,hg⟩
 |_,_,_,[],_::_,_,_,_,hc=>hc.elim
 |_,_,_,_::_,[],_,_,_,hc=>hc.elim
theorem yb (b:Nat) (t t':Int) (rs fs:List Int) (ht:t'≤t) (hc:iU w b t rs fs): ∃ gs,iU w b t' rs gs:=by
 have A:(cP ⟨0,0⟩ (cH rs),e9 t fs)∈eW w rs.length b (⟨0,0⟩,t):=(iQ _ _ _ _).2 ⟨rs,fs,rfl,hc,rfl⟩
 clear A
 induction rs generalizing b t t' fs with
 |nil=>exact ⟨[],trivial⟩
 |cons x rs ih=>
  cases fs with
  |nil=>exact hc.elim
  |cons y fs=>
   obtain ⟨⟨o,ho,rfl,C,rfl⟩,B⟩:=hc
   obtain ⟨gs,hg⟩:=ih (b+1) _ (max (t'+bK w b) o.2.Lo) fs I B
   exact ⟨_::gs,⟨o,ho,U,I,U⟩,hg⟩
/-- a way, as it is asked for -/
structure Jq (w:bJ) (hi:Int→Int) (least:Nat→Int) (now:Int) (y:cL):Prop where
 chain:iU w 0 w.Start y.fh y.gG
 len:y.fh.length≤w.n
 last:y.j5=(fy hi least now 0 y.fh).1
 may:jl w (cH y.fh)=true
theorem zo {k:Nat}:g9 w (fwd w k)=true↔ ∃ rs fs,rs.length=k∧iU w 0 w.Start rs fs∧jl w (cH rs)=true:=by
 unfold g9
 rw [List.any_eq_true]
 have e:=fun q=>(pw (w:=w) k 0 q)
 rw [Nat.zero_add] at e
 constructor
 ·rintro ⟨q,hq,hm⟩
  obtain ⟨p,hp,h⟩:=(e q).1 hq
  simp only [fwd,cu] at hp
  subst hp
  obtain ⟨rs,fs,A,B,rfl⟩:=(iQ _ _ _ _).1 h
  refine ⟨rs,fs,A,B,?_⟩
  rwa [nB] at hm
 ·rintro ⟨rs,fs,A,B,C⟩
  refine ⟨_,(e _).2 ⟨((⟨0,0⟩:ar),w.Start),List.mem_singleton.2 U,(iQ _ _ _ _).2 ⟨rs,fs,A,B,U⟩⟩,?_⟩
  simp only [nB]; exact C
theorem EL (h:GP w hi least now) (hs:w.Start≤w.eX) {b:Nat} (hb:b<w.n) {s t:Int}:u_ w b s t↔ ∃ y,Jq w hi least now y∧ ∃ f e,y.fh[b]? =some s∧y.gG[b]? =some f∧y.j5[b]? =some e∧f≤t∧t≤e:=by
 have ef:=fun q=>(pw (w:=w) b 0 q)
 rw [Nat.zero_add] at ef
 constructor
 ·rintro ⟨p,hp,o,ho,rfl,⟨C,L⟩,k,hk,q,hq,hm⟩
  obtain ⟨Y,AB,hp⟩:=(ef p).1 hp
  simp only [fwd,cu] at AB
  subst AB
  obtain ⟨rs,fs,K,D,rfl⟩:=(iQ _ _ _ _).1 hp
  obtain ⟨ss,gs,AA,E,rfl⟩:=(iQ _ _ _ _).1 hq
  simp only at C L D E hm
  obtain ⟨gs',J⟩:=yb (b+1) t (max (e9 w.Start fs+bK w b) o.2.Lo) ss gs C E
  have H:=iW _ _ _ _ D
  have T:=iW _ _ _ _ J
  have hc:iU w 0 w.Start (rs++o.1::ss) (fs++max (e9 w.Start fs+bK w b) o.2.Lo::gs'):=(o8 _ _ _ _ _ _ H).2 ⟨D,by rw [Nat.zero_add,K]; exact ⟨⟨o,ho,rfl,I,rfl⟩,J⟩⟩
  have he:=o5 h (b+1) t ss gs I I E
  have A:=qm (hi:=hi) (least:=least) (now:=now) 0 rs o.1 ss
  rw [Nat.zero_add,K] at A
  refine ⟨⟨rs++o.1::ss,fs++max (e9 w.Start fs+bK w b) o.2.Lo::gs',(fy hi least now 0 (rs++o.1::ss)).1⟩,⟨hc,by simp; omega,U,?_⟩,max (e9 w.Start fs+bK w b) o.2.Lo,_,?_,?_,A,C,?_⟩
  ·show jl w (cH (rs++o.1::ss))=true
   rw [show rs++o.1::ss=(rs++[o.1])++ss by simp,o_,iP]
   rwa [nB] at hm
  ·show (rs++o.1::ss)[b]? =some o.1
   rw [List.getElem?_append_right I,K,Nat.sub_self]; rfl
  ·show (fs++_::gs')[b]? =_
   rw [List.getElem?_append_right I,H,K,Nat.sub_self]; rfl
  ·split
   ·rename_i q
    have:=h.hi b o hb ho q
    omega
   ·exact he
 ·rintro ⟨y,hy,f,e,C,L,P,Q,V⟩
  obtain ⟨R,F,La⟩:=y
  obtain ⟨hc,hn,A,hm⟩:=hy
  simp only at C L P hc hn A hm
  have N:=(List.getElem?_eq_some_iff.1 C).1
  have S:=iW _ _ _ _ hc
  have eR:R=R.take b++s::R.drop (b+1):=by rw [← (List.getElem?_eq_some_iff.1 C).2]; exact (List.take_append_drop b R).symm.trans (by rw [List.drop_eq_getElem_cons N])
  have M:b<F.length:=by omega
  have eF:F=F.take b++f::F.drop (b+1):=by rw [← (List.getElem?_eq_some_iff.1 L).2]; exact (List.take_append_drop b F).symm.trans (by rw [List.drop_eq_getElem_cons M])
  rw [eR,eF,o8 _ _ _ _ _ _ (by simp only [List.length_take]; omega)] at hc
  have O:(R.take b).length=b:=by rw [List.length_take]; omega
  rw [O,Nat.zero_add] at hc
  obtain ⟨D,⟨o,ho,rfl,W,rfl⟩,E⟩:=hc
  have B:=qm (hi:=hi) (least:=least) (now:=now) 0 (R.take b) o.1 (R.drop (b+1))
  rw [← eR,O,Nat.zero_add,← A,P] at B
  have B:=Option.some.inj B
  have G:t≤(fy hi least now (b+1) (R.drop (b+1))).2∧t≤min o.2.Hi w.eX:=by
   have X:=uX h (b+1) (R.drop (b+1)) (by rw [List.length_drop]; omega)
   split at B
   ·rename_i q
    have:=h.hi b o hb ho q
    omega
   ·rename_i q
    have:=h.none_ b o hb ho q
    omega
  obtain ⟨gs,J⟩:=tO h (b+1) _ t (R.drop (b+1)) (F.drop (b+1)) (by rw [List.length_drop]; omega) Q G.1 E
  refine ⟨(cP ⟨0,0⟩ (cH (R.take b)),e9 w.Start (F.take b)),(ef _).2 ⟨((⟨0,0⟩:ar),w.Start),List.mem_singleton.2 U,(iQ _ _ _ _).2 ⟨_,_,O,D,U⟩⟩,o,ho,U,⟨Q,G.2⟩,(R.drop (b+1)).length,by rw [List.length_drop]; omega,_,(iQ _ _ _ _).2 ⟨_,gs,U,J,U⟩,?_⟩
  show jl w (cP (cP (cP ⟨0,0⟩ (cH (R.take b))) (ej o.1)) (cH (R.drop (b+1))))=true
  rw [nB,← iP,← o_,show R.take b++[o.1]++R.drop (b+1)=R from by rw [List.append_assoc]; exact eR.symm]
  exact hm
end
noncomputable def Hf (l:aQ) (r:cf) (x:Int):Int:=match r.ag[x.toNat]? with
 |some s=>(cD l s).Hi
 |none=>0
theorem Ae {l:aQ} {r:cf} {x:Int} {s:aD} (h:r.ag[x.toNat]? =some s):Hf l r x=(cD l s).Hi:=by unfold Hf; rw [h]
noncomputable def hU (l:aQ) (r:cf) (rs:List Int):List Int:=(fy (Hf l r) (dp l) r.eX 0 rs).1
noncomputable def mT (l:aQ) (r:cf) (n:Nat) (t i:Int):Option Int:=
 if i<0 then (if t≤r.eX then some t else none) else match r.ag[i.toNat]? with
  |some s=>if (s.e7=(n:Int)∧(cD l s).Lo≤(cD l s).Hi)∧max t (cD l s).Lo≤min r.eX (cD l s).Hi then some (max t (cD l s).Lo) else none
  |none=>none
noncomputable def fO (l:aQ) (r:cf) (rs fs:List Int):List cL:=if (r.ag.length:Int)-(cH rs).right≤l.eO then [⟨rs,fs,hU l r rs⟩] else []
noncomputable def gi (l:aQ) (r:cf):Nat→List Int→List Int→List cL
 |0,rs,fs=>if l.cW<(cH rs).dT then [] else fO l r rs fs
 |k+1,rs,fs=>if l.cW<(cH rs).dT then [] else fO l r rs fs++(List.range (r.ag.length+1)).flatMap fun (j:Nat)=>match mT l r rs.length (e9 r.Start fs+dp l rs.length) ((j:Int)-1) with
  |some t=>gi l r k (rs++[(j:Int)-1]) (fs++[t])
  |none=>[]
noncomputable def AJ (l:aQ) (r:cf) (k:Nat) (rs fs:List Int) (j:Nat):List cL:=fO l r rs fs++(List.range j).flatMap fun (j:Nat)=>match mT l r rs.length (e9 r.Start fs+dp l rs.length) ((j:Int)-1) with
 |some t=>gi l r k (rs++[(j:Int)-1]) (fs++[t])
 |none=>[]
noncomputable def gl (l:aQ) (r:cf) (k:Nat) (rs fs:List Int) (j:Nat):List cL:=(List.range j).flatMap fun (j:Nat)=>match mT l r rs.length (e9 r.Start fs+dp l rs.length) ((j:Int)-1) with
 |some t=>gi l r k (rs++[(j:Int)-1]) (fs++[t])
 |none=>[]
section
variable {l:aQ} {r:cf} {k j:Nat} {rs fs:List Int} {t:Int}
theorem pc:AJ l r k rs fs j=fO l r rs fs++gl l r k rs fs j:=rfl
theorem ld (h:mT l r rs.length (e9 r.Start fs+dp l rs.length) ((j:Int)-1)=some t):gl l r k rs fs (j+1)=gl l r k rs fs j++gi l r k (rs++[(j:Int)-1]) (fs++[t]):=by
 unfold gl; rw [List.range_succ,List.flatMap_append]; simp [h]
theorem oy (h:mT l r rs.length (e9 r.Start fs+dp l rs.length) ((j:Int)-1)=none):gl l r k rs fs (j+1)=gl l r k rs fs j:=by
 unfold gl; rw [List.range_succ,List.flatMap_append]; simp [h]
theorem lG (h:l.cW<(cH rs).dT):gi l r k rs fs=[]:=by cases k<;>exact if_pos h
theorem lu (h: ¬ l.cW<(cH rs).dT):gi l r 0 rs fs=fO l r rs fs:=if_neg h
theorem lO (h: ¬ l.cW<(cH rs).dT):gi l r (k+1) rs fs=AJ l r k rs fs (r.ag.length+1):=if_neg h
theorem yq {n:Nat} (hn:n<l.ab.length) (hl:0≤dp l n) (ht:r.Start≤t) {i y:Int} (hi: -1≤i):mT l r n (t+dp l n) i=some y↔ ∃ o∈gr (bZ l r) n,o.1=i∧max (t+bK (bZ l r) n) o.2.Lo≤min o.2.Hi (bZ l r).eX∧y=max (t+bK (bZ l r) n) o.2.Lo:=by
 rw [nM hn]
 have hw:(bZ l r).eX=r.eX:=rfl
 unfold mT
 constructor
 ·intro h
  split at h
  ·rename_i B
   split at h
   ·cases h
    exact ⟨(-1,⟨r.Start,r.eX⟩),(ow hn).2 (.inl U),by simp only; omega,by simp only; omega,by simp only; omega⟩
   ·cases h
  ·rename_i B
   split at h
   ·rename_i s hs
    split at h
    ·rename_i q
     cases h
     exact ⟨((i.toNat:Nat),cD l s),(ow hn).2 (.inr ⟨i.toNat,(List.getElem?_eq_some_iff.1 hs).1,s,hs,q.1,U⟩),by simp only; omega,by simp only; omega,U⟩
    ·cases h
   ·cases h
 ·rintro ⟨o,ho,rfl,A,rfl⟩
  rcases (ow hn).1 ho with rfl|⟨k,hk,s,hs,q,rfl⟩
  ·simp only at A ⊢
   rw [if_pos I,if_pos I]
   congr 1; omega
  ·simp only at A ⊢
   rw [if_neg I,Int.toNat_natCast,hs]
   simp only
   rw [if_pos ⟨q,I⟩]
theorem G2 (hl: ∀ n,n<l.ab.length→0≤dp l n): ∀ (k:Nat) (rs fs:List Int) (y:cL),rs.length+k=l.ab.length→fs.length=rs.length→r.Start≤e9 r.Start fs→
 (y∈gi l r k rs fs↔ ∃ ss gs,iU (bZ l r) rs.length (e9 r.Start fs) ss gs∧ss.length≤k∧y=⟨rs++ss,fs++gs,hU l r (rs++ss)⟩∧jl (bZ l r) (cH (rs++ss))=true):=by
 have D: ∀ (rs fs:List Int) (y:cL),¬ l.cW<(cH rs).dT→(y∈fO l r rs fs↔y=⟨rs++[],fs++[],hU l r (rs++[])⟩∧jl (bZ l r) (cH (rs++[]))=true):=by
  intro rs fs y hm
  unfold fO
  rw [List.append_nil,List.append_nil]
  have e:jl (bZ l r) (cH rs)=true↔(r.ag.length:Int)-(cH rs).right≤l.eO:=by
   unfold jl
   rw [decide_eq_true_eq]
   exact ⟨fun q=>q.2,fun q=>⟨by have:(bZ l r).cW=l.cW:=rfl; omega,q⟩⟩
  split
  ·rename_i q
   rw [cu]
   exact ⟨fun h=>⟨h,e.2 q⟩,fun h=>h.1⟩
  ·rename_i q
   exact ⟨fun h=>(by cases h),fun h=>absurd (e.1 h.2) q⟩
 have Eo: ∀ (rs ss:List Int),l.cW<(cH rs).dT→ ¬ jl (bZ l r) (cH (rs++ss))=true:=by
  intro rs ss h q
  unfold jl at q
  have:=(of_decide_eq_true q).1
  rw [o_] at this
  have C:=qM ss
  simp only [cP] at this
  have:(bZ l r).cW=l.cW:=rfl
  omega
 intro k
 induction k with
 |zero=>
  intro rs fs y hn hf hs
  by_cases hm:l.cW<(cH rs).dT
  ·rw [lG hm]
   exact ⟨fun h=>(by cases h),fun ⟨ss,gs,_,_,_,q⟩=>absurd q (Eo rs ss hm)⟩
  ·rw [lu hm,D _ _ _ hm]
   constructor
   ·rintro ⟨B,C⟩; exact ⟨[],[],trivial,sm,B,C⟩
   ·rintro ⟨ss,gs,B,C,E,F⟩
    have e:=iz (Nat.le_zero.1 C)
    subst e
    have e:=iz (iW _ _ _ _ B)
    subst e
    exact ⟨E,F⟩
 |succ k ih=>
  intro rs fs y hn hf hs
  by_cases hm:l.cW<(cH rs).dT
  ·rw [lG hm]
   exact ⟨fun h=>(by cases h),fun ⟨ss,gs,_,_,_,q⟩=>absurd q (Eo rs ss hm)⟩
  ·rw [lO hm]
   unfold AJ
   rw [qa,D _ _ _ hm,List.mem_flatMap]
   have A: ∀ (x y:Int),(rs++[x]).length+k=l.ab.length∧(fs++[y]).length=(rs++[x]).length:=fun x y=>by simp; omega
   constructor
   ·rintro (⟨B,C⟩|⟨j,hj,h⟩)
    ·exact ⟨[],[],trivial,sm,B,C⟩
    ·cases e:mT l r rs.length (e9 r.Start fs+dp l rs.length) ((j:Int)-1) with
     |none=>rw [e] at h; cases h
     |some t=>
      rw [e] at h
      simp only at h
      obtain ⟨o,ho,B,C,E⟩:=(yq I (hl _ I) hs I).1 e
      have G:r.Start≤t:=by
       have:=hl rs.length I
       rw [nM I] at E
       omega
      obtain ⟨ss,gs,F,J,H,AA⟩:=(ih _ _ y (A _ t).1 (A _ t).2 (by rw [k8]; exact G)).1 h
      rw [k8,List.length_append] at F
      refine ⟨((j:Int)-1)::ss,t::gs,⟨⟨o,ho,B,C,E⟩,F⟩,by simp; omega,by simpa using H,by simpa using AA⟩
   ·rintro ⟨ss,gs,B,C,E,F⟩
    cases ss with
    |nil=>
     have e:=iz (iW _ _ _ _ B)
     subst e
     exact .inl ⟨E,F⟩
    |cons x ss=>
     cases gs with
     |nil=>exact B.elim
     |cons t gs=>
      obtain ⟨⟨o,ho,rfl,J,H⟩,AA⟩:=B
      right
      have hx: -1≤o.1∧o.1<(r.ag.length:Int):=by
       rcases (ow I).1 ho with rfl|⟨k,hk,s,hs,q,rfl⟩
       ·simp only; omega
       ·simp only; omega
      have G:r.Start≤t:=by
       have:=hl rs.length I
       rw [nM I] at H
       omega
      have K:((o.1+1).toNat:Int)-1=o.1:=by omega
      refine ⟨(o.1+1).toNat,List.mem_range.2 I,?_⟩
      rw [K,(yq I (hl _ I) hs I).2 ⟨o,ho,rfl,J,H⟩]
      simp only
      refine (ih _ _ y (A _ t).1 (A _ t).2 (by rw [k8]; exact G)).2 ⟨ss,gs,?_,?_,?_,?_⟩
      ·rw [k8,List.length_append]; exact AA
      ·simp only [List.length_cons] at C; omega
      ·simpa using E
      ·simpa using F
end
theorem wJ {l:aQ} {r:cf} {rs fs:List Int} (h:(r.ag.length:Int)-(cH rs).right≤l.eO):fO l r rs fs=[⟨rs,fs,hU l r rs⟩]:=if_pos h
theorem uz {l:aQ} {r:cf} {rs fs:List Int} (h: ¬ (r.ag.length:Int)-(cH rs).right≤l.eO):fO l r rs fs=[]:=if_neg h
noncomputable def dR (l:aQ) (r:cf) (i:Nat):List aa:=(r.ag.take i).map (cD l)
noncomputable def eh (l:aQ) (r:cf) (i:Nat):List Bool:=(r.ag.take i).map fun s=>decide ((cD l s).Lo≤(cD l s).Hi)
section
variable {l:aQ} {r:cf} {i n:Nat} {s:aD} {rs:List Int}
theorem A_ (h:r.ag[i]? =some s):dR l r (i+1)=dR l r i++[cD l s]:=by unfold dR; rw [List.take_add_one,h,List.map_append]; rfl
theorem z7 (h:r.ag[i]? =some s):eh l r (i+1)=eh l r i++[decide ((cD l s).Lo≤(cD l s).Hi)]:=by unfold eh; rw [List.take_add_one,h,List.map_append]; rfl
theorem pn (h:i≤r.ag.length):(dR l r i).length=i:=by unfold dR; rw [List.length_map,List.length_take]; omega
theorem rT (h:i≤r.ag.length):(eh l r i).length=i:=by unfold eh; rw [List.length_map,List.length_take]; omega
theorem Ei {k:Nat} {z:aa} (hs:r.ag[k]? =some s) (hz:(dR l r r.ag.length)[k]? =some z):z=cD l s:=by
 unfold dR at hz
 rw [List.take_length,eG,hs] at hz
 exact (Option.some.inj hz).symm
theorem FI {k:Nat} {z:aa} (hz:(dR l r r.ag.length)[k]? =some z): ∃ s,r.ag[k]? =some s∧z=cD l s:=by
 unfold dR at hz
 rw [List.take_length,eG] at hz
 cases h:r.ag[k]? with
 |none=>rw [h] at hz; cases hz
 |some s=>rw [h] at hz; exact ⟨s,rfl,(Option.some.inj hz).symm⟩
theorem yQ {k:Nat} {z:Bool} (hs:r.ag[k]? =some s) (hz:(eh l r r.ag.length)[k]? =some z):z=true↔(cD l s).Lo≤(cD l s).Hi:=by
 unfold eh at hz
 rw [List.take_length,eG,hs] at hz
 rw [← Option.some.inj hz]
 exact decide_eq_true_iff
theorem u0 (l:aQ) (s:aD):(0≤(cD l s).Lo∧(cD l s).Lo≤86400001)∧ -1≤(cD l s).Hi∧(cD l s).Hi≤86400000:=by
 have A:=gF (p:=fV (n9 l s) s.Read) (n:=86400001)
 have B:=gF (p:=fW (n9 l s) s.Read) (n:=86400001)
 unfold cD yF
 simp only
 omega
/-- the last times from a beam on -/
noncomputable def iF (l:aQ) (r:cf) (rs:List Int) (j:Nat):List Int×Int:=fy (Hf l r) (dp l) r.eX j (rs.drop j)
noncomputable def iA (l:aQ) (r:cf) (rs:List Int) (j:Nat):List Int:=List.replicate j 0++(iF l r rs j).1
noncomputable def q8 (l:aQ) (r:cf) (rs:List Int) (j:Nat) (x:Int):Int:=if 0≤x then min (iF l r rs j).2 (Hf l r x) else (iF l r rs j).2
theorem ru:iF l r rs rs.length=([],r.eX):=by unfold iF; rw [List.drop_length]; rfl
theorem Dm:iA l r rs rs.length=List.replicate rs.length 0:=by unfold iA; rw [ru]; simp
theorem Au:iA l r rs 0=hU l r rs:=by unfold iA iF hU; simp
theorem ny {j:Nat} {x:Int} (hj:0<j) (hx:rs[j-1]? =some x):iF l r rs (j-1)=(q8 l r rs j x::(iF l r rs j).1,q8 l r rs j x-dp l (j-1)):=by
 unfold iF q8
 have hb:=(List.getElem?_eq_some_iff.1 hx).1
 rw [List.drop_eq_getElem_cons hb,(List.getElem?_eq_some_iff.1 hx).2,show j-1+1=j by omega]
 simp only [fy]
 rw [show j-1+1=j by omega]
 rfl
theorem CU {j:Nat} (h:j≤rs.length):(iA l r rs j).length=rs.length:=by unfold iA iF; rw [List.length_append,List.length_replicate,ph,List.length_drop]; omega
theorem vQ {j:Nat} {x:Int} (hj:0<j) (hx:rs[j-1]? =some x):(iA l r rs j).set (j-1) (q8 l r rs j x)=iA l r rs (j-1):=by
 unfold iA
 rw [ny hj hx]
 simp only
 obtain ⟨k,rfl⟩: ∃ k,j=k+1:=⟨j-1,I⟩
 rw [Nat.add_sub_cancel,List.replicate_succ',List.append_assoc,List.set_append_right _ _ sm,List.length_replicate,Nat.sub_self]
 rfl
theorem Bx (hr:0≤r.eX∧r.eX≤86400000) (hl: ∀ b,b<rs.length→0≤dp l b∧dp l b≤500000000) (hrs: ∀ x∈rs,0≤x→x<(r.ag.length:Int)): ∀ (d j:Nat),j+d=rs.length→(-1-500000000*(d:Int))≤(iF l r rs j).2∧(iF l r rs j).2≤86400000
 |0,j,h=>by
  obtain rfl:j=rs.length:=by omega
  rw [ru]; simp only; omega
 |d+1,j,h=>by
  have ih:=Bx hr hl hrs d (j+1) I
  have hx:rs[j+1-1]? =some (rs[j]'I):=by rw [Nat.add_sub_cancel]; exact e_ _
  have e:=ny (l:=l) (r:=r) (j:=j+1) I hx
  rw [Nat.add_sub_cancel] at e
  rw [e]
  simp only
  have A:=hl j I
  unfold q8
  split
  ·rename_i q
   have B:=hrs _ (List.getElem_mem (by omega:j<rs.length)) q
   obtain ⟨s,hs⟩: ∃ s,r.ag[(rs[j]'I).toNat]? =some s:=⟨r.ag[(rs[j]'I).toNat]'I,e_ _⟩
   rw [Ae hs]
   have C:=u0 l s
   omega
  ·omega
theorem F0 {t i:Int} (hi:i<0):(t≤r.eX→mT l r n t i=some t)∧(¬ t≤r.eX→mT l r n t i=none):=by
 unfold mT; rw [if_pos hi]; exact ⟨fun h=>if_pos h,fun h=>if_neg h⟩
theorem EH {t i:Int} (hi: ¬ i<0) (hs:r.ag[i.toNat]? =some s) (hb:s.e7=(n:Int)) (hw:(cD l s).Lo≤(cD l s).Hi):(max t (cD l s).Lo≤min r.eX (cD l s).Hi→mT l r n t i=some (max t (cD l s).Lo))∧(¬ max t (cD l s).Lo≤min r.eX (cD l s).Hi→mT l r n t i=none):=by
 unfold mT; rw [if_neg hi,hs]
 exact ⟨fun h=>if_pos ⟨⟨hb,hw⟩,h⟩,fun h=>if_neg fun q=>h q.2⟩
theorem vn {t i:Int} (hi: ¬ i<0) (hs:r.ag[i.toNat]? =some s) (hb: ¬ (s.e7=(n:Int)∧(cD l s).Lo≤(cD l s).Hi)):mT l r n t i=none:=by
 unfold mT; rw [if_neg hi,hs]
 exact if_neg fun q=>hb q.1
theorem qW {x:Int} (hx:rs[i]? =some x):(cH (rs.take (i+1))).right=(cH (rs.take i)).right+(if 0≤x then 1 else 0):=by
 rw [kf hx,iP]
 unfold ej
 simp only [cP]
 by_cases h:x<0
 ·rw [if_pos h,if_neg I]
 ·rw [if_neg h,if_pos I]
end
theorem uq {l:aQ} {r:cf} {rs fs:List Int}:(fO l r rs fs).length≤1:=by unfold fO; split<;>simp
theorem vj {l:aQ} {r:cf} (hr:r.ag.length≤10): ∀ (k:Nat) (rs fs:List Int),(gi l r k rs fs).length≤12^(k+1)
 |0,rs,fs=>by
  unfold gi
  split
  ·simp
  ·have:=uq (l:=l) (r:=r) (rs:=rs) (fs:=fs); omega
 |k+1,rs,fs=>by
  unfold gi
  split
  ·simp
  ·rw [List.length_append]
   have B:=uq (l:=l) (r:=r) (rs:=rs) (fs:=fs)
   have A: ∀ j,(gl l r k rs fs j).length≤j*12^(k+1):=by
    intro j
    induction j with
    |zero=>simp [gl]
    |succ j ih=>
     cases e:mT l r rs.length (e9 r.Start fs+dp l rs.length) ((j:Int)-1) with
     |none=>rw [oy e,Nat.succ_mul]; exact Nat.le_trans ih (Nat.le_add_right _ _)
     |some t=>rw [ld e,List.length_append,Nat.succ_mul]; exact Nat.add_le_add ih (vj hr k (rs++[(j:Int)-1]) (fs++[t]))
   have C:=A (r.ag.length+1)
   have D:(r.ag.length+1)*12^(k+1)≤11*12^(k+1):=Nat.mul_le_mul_right _ I
   have E:0<12^(k+1):=Nat.pow_pos dc
   have F:12^(k+1+1)=12*12^(k+1):=by rw [Nat.pow_succ,Nat.mul_comm]
   show (fO l r rs fs).length+(gl l r k rs fs (r.ag.length+1)).length≤_
   omega
theorem EZ {l:aQ} {r:cf} (hr:r.ag.length≤10) {k j:Nat} {rs fs:List Int} (hk:k≤5) (hj:j≤11):(gl l r k rs fs j).length≤40000000:=by
 have A: ∀ j,(gl l r k rs fs j).length≤j*12^(k+1):=by
  intro j
  induction j with
  |zero=>simp [gl]
  |succ j ih=>
   cases e:mT l r rs.length (e9 r.Start fs+dp l rs.length) ((j:Int)-1) with
   |none=>rw [oy e,Nat.succ_mul]; exact Nat.le_trans ih (Nat.le_add_right _ _)
   |some t=>rw [ld e,List.length_append,Nat.succ_mul]; exact Nat.add_le_add ih (vj hr k (rs++[(j:Int)-1]) (fs++[t]))
 have C:=A j
 have B:12^(k+1)≤12^6:=Nat.pow_le_pow_right dc I
 have D:j*12^(k+1)≤11*12^6:=Nat.mul_le_mul hj B
 omega
theorem rZ {l:aQ} {r:cf} (hr:r.ag.length≤10) {k:Nat} {rs fs:List Int} (hk:k≤6):(gi l r k rs fs).length≤40000000:=by
 have A:=vj hr k rs fs (l:=l)
 have B:12^(k+1)≤12^7:=Nat.pow_le_pow_right dc I
 omega
noncomputable def oj (l:aQ) (r:cf):List cL:=gi l r l.ab.length [] []
section
variable {l:aQ} {r:cf}
theorem kl:(bZ l r).n=l.ab.length:=dx
theorem Jo (hle:cY l=0) (hr:er l r):GP (bZ l r) (Hf l r) (dp l) r.eX:=by
 obtain ⟨ht,B⟩:=fF hle
 refine ⟨fun b=>((m7 ht B hr).bK b).1,fun b hb=>(nM (by rw [kl] at hb; exact hb)).symm,U,fun b o hb ho A=>?_,fun b o hb ho A=>?_⟩
 ·rw [kl] at hb
  rcases (ow hb).1 ho with rfl|⟨k,hk,s,hs,q,rfl⟩
  ·simp only at A; omega
  ·exact (Ae (by simpa using hs)).symm
 ·rw [kl] at hb
  rcases (ow hb).1 ho with rfl|⟨k,hk,s,hs,q,rfl⟩
  ·rfl
  ·simp only at A; omega
theorem n7 (hle:cY l=0) (hr:er l r) {y:cL}:y∈oj l r↔Jq (bZ l r) (Hf l r) (dp l) r.eX y:=by
 obtain ⟨ht,D⟩:=fF hle
 have hl: ∀ n,n<l.ab.length→0≤dp l n:=fun n hn=>by have:=lk ht D (i:=n) hn; omega
 unfold oj
 rw [G2 hl _ _ _ _ sm rfl (Int.le_refl _)]
 constructor
 ·rintro ⟨ss,gs,B,A,rfl,C⟩
  exact ⟨B,by rw [kl]; exact A,U,C⟩
 ·rintro ⟨B,A,E,C⟩
  rw [kl] at A
  exact ⟨y.fh,y.gG,B,A,by rw [List.nil_append,List.nil_append]; unfold hU; rw [← E],C⟩
theorem GF (hle:cY l=0) (hr:er l r) {k:Nat} (hk:k≤l.ab.length):((oj l r).any fun y=>decide (y.fh.length=k))=g9 (bZ l r) (fwd (bZ l r) k):=by
 rw [Bool.eq_iff_iff,zo,List.any_eq_true]
 constructor
 ·rintro ⟨y,hy,e⟩
  have h:=(n7 hle hr).1 hy
  exact ⟨y.fh,y.gG,of_decide_eq_true e,h.chain,h.may⟩
 ·rintro ⟨rs,fs,e,A,B⟩
  exact ⟨⟨rs,fs,(fy (Hf l r) (dp l) r.eX 0 rs).1⟩,(n7 hle hr).2 ⟨A,by rw [kl]; simp only; omega,U,B⟩,dw e⟩
theorem iH (hle:cY l=0) (hr:er l r):oj l r=[]↔iI (bZ l r)=[]:=by
 constructor
 ·intro h
  apply List.eq_nil_iff_forall_not_mem.2
  intro x hx
  obtain ⟨k,rfl,hk,hm⟩:=ni.1 hx
  rw [kl] at hk
  rw [← GF hle hr hk,h] at hm
  cases hm
 ·intro h
  apply List.eq_nil_iff_forall_not_mem.2
  intro y hy
  have hw:=(n7 hle hr).1 hy
  have:(y.fh.length:Int)∈iI (bZ l r):=ni.2 ⟨y.fh.length,rfl,hw.len,zo.2 ⟨_,_,rfl,hw.chain,hw.may⟩⟩
  rw [h] at this; cases this
/-- the times at a beam, by all ways -/
def gO (b:Nat) (ws:List cL):List (Int×aa):=ws.filterMap fun y=>match y.fh[b]?,y.gG[b]?,y.j5[b]? with
 |some s,some f,some e=>some (s,⟨f,e⟩)
 |_,_,_=>none
theorem lM {b:Nat} {ws:List cL} {q:Int×aa}:q∈gO b ws↔ ∃ y∈ws,y.fh[b]? =some q.1∧y.gG[b]? =some q.2.Lo∧y.j5[b]? =some q.2.Hi:=by
 unfold gO
 rw [List.mem_filterMap]
 constructor
 ·rintro ⟨y,hy,h⟩
  cases e1:y.fh[b]? with
  |none=>rw [e1] at h; cases h
  |some s=>
   cases e2:y.gG[b]? with
   |none=>rw [e1,e2] at h; cases h
   |some f=>
    cases e3:y.j5[b]? with
    |none=>rw [e1,e2,e3] at h; cases h
    |some e=>
     rw [e1,e2,e3] at h; cases h
     exact ⟨y,hy,e1,e2,e3⟩
 ·rintro ⟨y,hy,A,B,C⟩
  exact ⟨y,hy,by rw [A,B,C]⟩
theorem u7 {b:Nat} {ws:List cL} {y:cL} (h:y.fh.length≤b):gO b (ws++[y])=gO b ws:=by
 unfold gO; rw [List.filterMap_append]; simp [List.getElem?_eq_none h]
theorem od {b:Nat} {ws:List cL} {y:cL} {s f e:Int} (h1:y.fh[b]? =some s) (h2:y.gG[b]? =some f) (h3:y.j5[b]? =some e):gO b (ws++[y])=gO b ws++[(s,⟨f,e⟩)]:=by
 unfold gO; rw [List.filterMap_append]; simp [h1,h2,h3]
theorem FJ (hle:cY l=0) (hr:er l r) {y:cL} (hy:y∈oj l r):y.gG.length=y.fh.length∧y.j5.length=y.fh.length∧y.fh.length≤l.ab.length:=by
 have h:=(n7 hle hr).1 hy
 exact ⟨iW _ _ _ _ h.chain,by rw [h.last,ph],by have:=h.len; rwa [kl] at this⟩
theorem qT (hle:cY l=0) (hr:er l r) {b:Nat} (hb:b<l.ab.length) {s t:Int}:(∃ q∈kP (bZ l r) b,q.1=s∧q.2.Lo≤t∧t≤q.2.Hi)↔ ∃ q∈gO b (oj l r),q.1=s∧q.2.Lo≤t∧t≤q.2.Hi:=by
 have hh:=Jo hle hr
 rw [wO hh.low (by rw [kl]; exact hb),EL hh hr.time.2.1 (by rw [kl]; exact hb)]
 constructor
 ·rintro ⟨y,hy,f,e,A,B,C,D,E⟩
  exact ⟨(s,⟨f,e⟩),lM.2 ⟨y,(n7 hle hr).2 hy,A,B,C⟩,U,D,E⟩
 ·rintro ⟨q,hq,rfl,D,E⟩
  obtain ⟨y,hy,A,B,C⟩:=lM.1 hq
  exact ⟨y,(n7 hle hr).1 hy,_,_,A,B,C,D,E⟩
/-- a way's span is none that is empty -/
theorem vf (hle:cY l=0) (hr:er l r) {b:Nat} {q:Int×aa} (hq:q∈gO b (oj l r)):q.2.Lo≤q.2.Hi:=by
 have hh:=Jo hle hr
 obtain ⟨y,hy,C,D,H⟩:=lM.1 hq
 obtain ⟨hc,hn,B,hm⟩:=(n7 hle hr).1 hy
 obtain ⟨R,F,La⟩:=y
 simp only at C D H hc hn B
 have G:=(List.getElem?_eq_some_iff.1 C).1
 have E:=(List.getElem?_eq_some_iff.1 D).1
 have L:=iW _ _ _ _ hc
 have eR:R=R.take b++q.1::R.drop (b+1):=by rw [← (List.getElem?_eq_some_iff.1 C).2]; exact (List.take_append_drop b R).symm.trans (by rw [List.drop_eq_getElem_cons G])
 have eF:F=F.take b++q.2.Lo::F.drop (b+1):=by rw [← (List.getElem?_eq_some_iff.1 D).2]; exact (List.take_append_drop b F).symm.trans (by rw [List.drop_eq_getElem_cons E])
 rw [eR,eF,o8 _ _ _ _ _ _ (by simp only [List.length_take]; omega)] at hc
 have AA:(R.take b).length=b:=by rw [List.length_take]; omega
 rw [AA,Nat.zero_add] at hc
 obtain ⟨M,⟨o,ho,K,N,O⟩,J⟩:=hc
 have A:=qm (hi:=Hf l r) (least:=dp l) (now:=r.eX) 0 (R.take b) q.1 (R.drop (b+1))
 rw [← eR,AA,Nat.zero_add,← B,H] at A
 have A:=Option.some.inj A
 have he:=o5 hh (b+1) q.2.Lo (R.drop (b+1)) (F.drop (b+1)) (by rw [List.length_drop]; omega) I J
 rw [← K] at A
 split at A
 ·rename_i z
  have:=hh.hi b o I ho z
  omega
 ·omega
theorem yS {a b:List (Int×aa)} {h k:aa} (ha:je a h) (hb:je b k) (hab: ∀ x∈b,(∃ y∈a,y.2.Lo≤x.2.Lo)∧ ∃ y∈a,x.2.Hi≤y.2.Hi) (hba: ∀ x∈a,(∃ y∈b,y.2.Lo≤x.2.Lo)∧ ∃ y∈b,x.2.Hi≤y.2.Hi):h=k:=by
 rcases ha with ⟨rfl,rfl⟩|ha
 ·rcases hb with ⟨rfl,rfl⟩|hb
  ·rfl
  ·obtain ⟨x,hx,_⟩:=hb.lo
   obtain ⟨⟨y,hy,_⟩,_⟩:=hab x hx
   cases hy
 ·rcases hb with ⟨rfl,rfl⟩|hb
  ·obtain ⟨x,hx,_⟩:=ha.lo
   obtain ⟨⟨y,hy,_⟩,_⟩:=hba x hx
   cases hy
  ·obtain ⟨M,E,AA⟩:=ha.lo
   obtain ⟨N,F,V⟩:=ha.hi
   obtain ⟨O,G,W⟩:=hb.lo
   obtain ⟨P,H,X⟩:=hb.hi
   obtain ⟨⟨AB,A,Y⟩,_⟩:=hba M E
   obtain ⟨_,J,B,Z⟩:=hba N F
   obtain ⟨⟨K,C,c⟩,_⟩:=hab O G
   obtain ⟨_,L,D,d⟩:=hab P H
   have Q:=hb.all AB A
   have R:=hb.all J B
   have S:=ha.all K C
   have T:=ha.all L D
   apply aa.ext
   ·omega
   ·omega
theorem FZ (hle:cY l=0) (hr:er l r) {b:Nat} (hb:b<l.ab.length) {h:aa} (hh:je (gO b (oj l r)) h):h=lB l r b:=by
 have hk:=rq (l:=kP (bZ l r) b) (fun q hq=>kW hq)
 refine yS hh hk (fun x hx=>?_) (fun x hx=>?_)
 ·have hle':=kW hx
  obtain ⟨y,hy,_,A,C⟩:=(qT hle hr hb (s:=x.1) (t:=x.2.Lo)).1 ⟨x,hx,rfl,Int.le_refl _,hle'⟩
  obtain ⟨z,hz,_,D,B⟩:=(qT hle hr hb (s:=x.1) (t:=x.2.Hi)).1 ⟨x,hx,rfl,hle',Int.le_refl _⟩
  exact ⟨⟨y,hy,A⟩,z,hz,B⟩
 ·have hle':=vf hle hr hx
  obtain ⟨y,hy,_,A,C⟩:=(qT hle hr hb (s:=x.1) (t:=x.2.Lo)).2 ⟨x,hx,rfl,Int.le_refl _,hle'⟩
  obtain ⟨z,hz,_,D,B⟩:=(qT hle hr hb (s:=x.1) (t:=x.2.Hi)).2 ⟨x,hx,rfl,hle',Int.le_refl _⟩
  exact ⟨⟨y,hy,A⟩,z,hz,B⟩
end
def nR (ws:List cL) (b:Nat):Int:=if uh (gO b ws)=kM then 6 else 0
def nQ (ws:List cL) (b:Nat):aa:=if uh (gO b ws)=kM then ⟨0,0⟩ else uh (gO b ws)
theorem Io {l:List (Int×aa)} {h:aa} (hh:je l h) (hl: ∀ q∈l,q.2.Lo≤q.2.Hi):uh l=h:=
 yS (rq hl) hh (fun x hx=>⟨⟨x,hx,Int.le_refl _⟩,x,hx,Int.le_refl _⟩) (fun x hx=>⟨⟨x,hx,Int.le_refl _⟩,x,hx,Int.le_refl _⟩)
theorem Ay {ws:List cL} {b:Nat} (h:gO b ws=[]):nR ws b=6∧nQ ws b=⟨0,0⟩:=by
 unfold nR nQ; rw [h]; exact ⟨if_pos rfl,if_pos rfl⟩
theorem Bi {ws:List cL} {b:Nat} {o:aa} (hl: ∀ q∈gO b ws,q.2.Lo≤q.2.Hi) (h:mJ (gO b ws) o):nR ws b=0∧nQ ws b=o:=by
 have e:=Io (.inr h) hl
 unfold nR nQ; rw [e]; exact ⟨if_neg h.ne,if_neg h.ne⟩
/-- what was found until now -/
def lP (b:Nat) (ws:List cL) (fd:Bool) (o:aa):Prop:=(fd=false∧gO b ws=[])∨(fd=true∧mJ (gO b ws) o)
theorem CM {b:Nat} {o:aa}:lP b [] false o:= .inl ⟨rfl,rfl⟩
theorem zx {q:Int×aa} (hq:q.2.Lo≤q.2.Hi):mJ [q] q.2:=⟨hq,⟨q,sm,rfl⟩,⟨q,sm,rfl⟩,fun x hx=>by simp at hx; subst hx; exact ⟨Int.le_refl _,Int.le_refl _⟩⟩
theorem wZ {l:List (Int×aa)} {h:aa} {q:Int×aa} (hh:mJ l h) (hq:q.2.Lo≤q.2.Hi):mJ (l++[q]) ⟨min q.2.Lo h.Lo,max q.2.Hi h.Hi⟩:=by
 have:=rG (.inr hh) hq
 unfold ks at this
 rw [if_neg hh.ne] at this
 rcases this with ⟨e,_⟩|this
 ·simp at e
 ·exact this
theorem Az {b:Nat} {ws:List cL} {fd:Bool} {o:aa} {y:cL} (h:lP b ws fd o) (hy:y.fh.length≤b):lP b (ws++[y]) fd o:=by
 unfold lP; rw [u7 hy]; exact h
theorem yE {b:Nat} {ws:List cL} {fd:Bool} {o:aa} {y:cL} {s f e:Int} (h:lP b ws fd o) (hf:fd=false) (h1:y.fh[b]? =some s) (h2:y.gG[b]? =some f) (h3:y.j5[b]? =some e) (hle:f≤e):lP b (ws++[y]) true ⟨f,e⟩:=by
 rcases h with ⟨_,q⟩|⟨q,_⟩
 ·right
  rw [od h1 h2 h3,q]
  exact ⟨U,zx hle⟩
 ·rw [q] at hf; cases hf
theorem zW {b:Nat} {ws:List cL} {fd:Bool} {o:aa} {y:cL} {s f e:Int} (h:lP b ws fd o) (hf:fd=true) (h1:y.fh[b]? =some s) (h2:y.gG[b]? =some f) (h3:y.j5[b]? =some e) (hle:f≤e):lP b (ws++[y]) true ⟨min f o.Lo,max e o.Hi⟩:=by
 rcases h with ⟨q,_⟩|⟨_,q⟩
 ·rw [q] at hf; cases hf
 ·right
  rw [od h1 h2 h3]
  exact ⟨U,wZ q hle⟩
theorem vW {b:Nat} {ws:List cL} {fd:Bool} {o:aa} (h:lP b ws fd o) (hl: ∀ q∈gO b ws,q.2.Lo≤q.2.Hi):(fd=false→nR ws b=6∧nQ ws b=⟨0,0⟩)∧(fd=true→nR ws b=0∧nQ ws b=o):=by
 rcases h with ⟨q,h⟩|⟨q,h⟩
 ·exact ⟨fun _=>Ay h,fun e=>(by rw [q] at e; cases e)⟩
 ·exact ⟨fun e=>(by rw [q] at e; cases e),fun _=>Bi hl h⟩
section
variable {l:aQ} {r:cf}
theorem Es (he:dM l r 0=0) {b:Nat} (hb:b<l.ab.length):nR (oj l r) b=ek l r b∧nQ (oj l r) b=eD l r b:=by
 obtain ⟨A,hr,_,_⟩:=iL he
 have h:=FZ A hr hb (rq fun q hq=>vf A hr hq)
 have ho:dM l r (iT l b)=0:=by rw [Cw hb]; exact he
 unfold nR nQ
 rw [h]
 by_cases e:lB l r b=kM
 ·rw [if_pos e,if_pos e,(o1 ho e).1,(o1 ho e).2]; exact ⟨rfl,rfl⟩
 ·rw [if_neg e,if_neg e,(oE ho e).1,(oE ho e).2]; exact ⟨rfl,rfl⟩
theorem KH (hle:cY l=0) (hr:er l r) {y:cL} (hy:y∈oj l r) {b:Nat} {f e:Int} (hb:b<y.fh.length) (h2:y.gG[b]? =some f) (h3:y.j5[b]? =some e):f≤e:=
 vf hle hr (q:=(y.fh[b],⟨f,e⟩)) (lM.2 ⟨y,hy,e_ _,h2,h3⟩)
theorem x_:dM l r (iT l l.cQ)=dM l r 0:=by
 by_cases h:cY l=0
 ·obtain ⟨_,A⟩:=fF h
  have hh:=A.head
  unfold fu at hh
  rw [yK I]
 ·rw [mg h,mg h]
theorem sv (h: ¬ dM l r 0=0):ek l r l.cQ=dM l r 0:=by
 have:=(lF (b:=l.cQ) (by rw [x_]; exact h)).1
 rw [this,x_]
/-- rows of times that are those of ways -/
structure Ia (ws:List cL):Prop where
 lens: ∀ y∈ws,y.gG.length=y.fh.length∧y.j5.length=y.fh.length∧y.fh.length≤6
 le: ∀ y∈ws,∀ (b:Nat) f e,b<y.fh.length→y.gG[b]? =some f→y.j5[b]? =some e→f≤e
 num:ws.length≤40000000
theorem Ia.Ce {ws:List cL} (h:Ia ws) {b:Nat}: ∀ q∈gO b ws,q.2.Lo≤q.2.Hi:=fun q hq=>by
 obtain ⟨y,hy,A,B,C⟩:=lM.1 hq
 exact h.le y hy b _ _ (List.getElem?_eq_some_iff.1 A).1 B C
theorem Ku (hle:cY l=0) (hr:er l r):Ia (oj l r):=by
 obtain ⟨ht,B⟩:=fF hle
 have hh:=B.head
 unfold fu at hh
 refine ⟨fun y hy=>?_,fun y hy b f e hb A C=>KH hle hr hy hb A C,rZ hr.len I⟩
 obtain ⟨D,A,C⟩:=FJ hle hr hy
 exact ⟨D,A,I⟩
end
end
section
open Go.RowKit
/-- a row is taken that was made before; an operation -/
inductive eJ where
 |take (i:Nat)
 |op (j:Nat)
def eJ.ix:eJ→Nat
 | .take i=>i
 | .op j=>j
def yz (dO:Nat→Nat):List eJ→List Nat
 |[]=>[]
 | .take i::s=>dO i::yz dO s
 | .op _::s=>yz dO s
theorem qj {dO:Nat→Nat} {i:Nat}: ∀ {s:List eJ},eJ.take i∈s→dO i∈yz dO s
 | .take k::s,h=>by
  rcases List.mem_cons.1 h with e|h
  ·cases e; exact ck ..
  ·exact dq _ (qj h)
 | .op k::s,h=>by
  rcases List.mem_cons.1 h with e|h
  ·cases e
  ·exact qj (s:=s) h
def rB (m:Array Nat) (dO:Nat→Nat) (x y:eJ):Bool:=x.ix != y.ix&&(match y with | .op j=>gv m x.ix j| .take i=>match x with | .take k=>dO k != dO i| .op _=>true)
def N2 (m:Array Nat) (dO:Nat→Nat):List eJ→Bool
 |[]=>true
 |x::s=>s.all (rB m dO x)&&N2 m dO s
theorem BV {m:Array Nat} {dO:Nat→Nat}: ∀ {s:List eJ},N2 m dO s=true→s.Pairwise fun x y=>rB m dO x y=true
 |[],_=>List.Pairwise.nil
 |x::s,h=>by
  simp only [N2,cx] at h
  exact List.Pairwise.cons (fun y hy=>List.all_eq_true.1 h.1 y hy) (BV h.2)
/-- what is known of the slots B is known in L -/
def ye (B L:List (Nat×Value)):Prop:= ∀ t v,B.lookup t=some v→L.lookup t=some v
theorem wW {B L:List (Nat×Value)} (h:B.map (fun p=>L.lookup p.1)=B.map (fun p=>some p.2)):ye B L:=by
 induction B with
 |nil=>intro t v h; simp at h
 |cons p B ih=>
  obtain ⟨k,u⟩:=p
  simp only [List.map_cons,List.cons.injEq] at h
  intro t v hl
  by_cases e:t=k
  ·subst e
   simp only [List.lookup,beq_self_eq_true,Option.some.injEq] at hl
   rw [h.1,hl]
  ·have:(t==k)=false:=by simpa using e
   simp only [List.lookup,this] at hl
   exact ih h.2 t v hl
theorem lV {L Y:List (Nat×Value)} {t:Nat}:(L++Y).lookup t=match L.lookup t with |some v=>some v|none=>Y.lookup t:=by
 induction L with
 |nil=>rfl
 |cons p L ih=>
  obtain ⟨k,u⟩:=p
  by_cases e:t==k
  ·simp [List.lookup,e]
  ·have:(t==k)=false:=by simpa using e
   simp only [List.cons_append,List.lookup,this,ih]
theorem ye.app {B L Y:List (Nat×Value)} (h:ye B L):ye B (L++Y):=fun t v ht=>by rw [lV,h t v ht]
theorem KL {B L:List (Nat×Value)} (h:ye B L) {x:Operand} {v:Value} (hv:ev B x=some v):ev L x=some v:=by
 cases x<;>simp only [ev] at hv ⊢ <;>first|exact h _ _ hv|exact hv
theorem Cj {B L:List (Nat×Value)} (h:ye B L): ∀ {xs:List Operand} {vs:List Value},evs B xs=some vs→evs L xs=some vs
 |[],vs,hv=>hv
 |x::xs,vs,hv=>by
  simp only [evs] at hv ⊢
  cases e1:ev B x with
  |none=>rw [e1] at hv; simp at hv
  |some v=>
   cases e2:evs B xs with
   |none=>rw [e1,e2] at hv; simp at hv
   |some us=>
    rw [e1,e2] at hv
    rw [KL h e1,Cj h e2]; exact hv
section
variable (E:eB) (ops:Array Oper) (D:List Deferred) (C':List ao) (K0:Act→World→Prop) (B:List (Nat×Value)) (dO:Nat→Nat) (VO:Nat→Nat→Value) (AO:Nat→Nat→ao)
def CH:List eJ→List (Nat×Value)→List ao→Prop
 |[],L,C=>KJ E K0 D L C
 | .take i::s,L,C=> ∀ b,CH s ((dO i,VO i b)::L) (AO i b::C)
 | .op j::s,L,C=> ∀ o,ops[j]? =some o→ ∀ (Y:List (Nat×Value)) (X:List ao) (K:Act→World→Prop),(∀ L' C'',(∀ w,St E.S E.w0 C'' w→St E.S E.w0 C' w)→((yz dO s).all fun d=>(L'.lookup d).isNone)=true→B.map (fun p=>L'.lookup p.1)=B.map (fun p=>some p.2)→CH s L' C''→KJ E K D (L'++Y) (C''++X))→RJ E ops (NQ K) [o] D (L++Y) (C++X)
/-- a row that is made at any time -/
def Mb (i:Nat):Prop:= ∀ o,ops[i]? =some o→ ∀ (L:List (Nat×Value)) (C:List ao) (K:Act→World→Prop),ye B L→(∀ b,KJ E K D ((dO i,VO i b)::L) (AO i b::C))→RJ E ops (NQ K) [o] D L C
end
section
variable {E:eB} {ops:Array Oper} {D:List Deferred} {C' C1:List ao} {K0:Act→World→Prop} {B:List (Nat×Value)} {dO:Nat→Nat} {VO:Nat→Nat→Value} {AO:Nat→Nat→ao}
theorem Ip {Q:cM} {rest:List Oper} {L L2:List (Nat×Value)} {C C2:List ao} (hL: ∀ a,Fr E.n D L a→Fr E.n D L2 a) (hC: ∀ w,St E.S E.w0 C w→St E.S E.w0 C2 w) (h:RJ E ops Q rest D L2 C2):RJ E ops Q rest D L C:=fun a w hf hs=>h a w (hL a hf) (hC w hs)
theorem Bu {K:Act→World→Prop} {L L2:List (Nat×Value)} {C C2:List ao} (hL: ∀ a,Fr E.n D L a→Fr E.n D L2 a) (hC: ∀ w,St E.S E.w0 C w→St E.S E.w0 C2 w) (h:KJ E K D L2 C2):KJ E K D L C:=fun a w hf hs=>h a w (hL a hf) (hC w hs)
theorem Cm {n:Nat} {L L2:List (Nat×Value)} (h: ∀ t v,L2.lookup t=some v→L.lookup t=some v) (a:Act) (hf:Fr n D L a):Fr n D L2 a:=⟨hf.defers,hf.size,fun t v ht=>hf.at_ t v (h t v ht)⟩
theorem AH: ∀ (T0 s':List eJ) (dn:List (Nat×Nat)) (L Y:List (Nat×Value)) (C:List ao),(∀ x∈T0,∃ i b,x= .take i∧(i,b)∈dn)→(T0++s').Pairwise (fun x y=>rB (oi ops) dO x y=true)→(dn.map (·.1)).Nodup→(∀ p∈dn,eJ.take p.1∈T0++s')→(∀ p∈dn,Y.lookup (dO p.1)=some (VO p.1 p.2))→(∀ i,eJ.take i∈T0++s'→L.lookup (dO i)=none)→
 CH E ops D C' K0 B dO VO AO (T0++s') L C→ ∃ (dn':List (Nat×Nat)) (L':List (Nat×Value)) (C2:List ao),CH E ops D C' K0 B dO VO AO s' L' C2∧(dn'.map (·.1)).Nodup∧(∀ p,p∈dn'↔p∈dn∧eJ.take p.1∈s')∧(∀ t v,(L'++Y).lookup t=some v→(L++Y).lookup t=some v)∧(∀ i,eJ.take i∈s'→L'.lookup (dO i)=none)∧(∀ w,St E.S E.w0 (C++dn.map fun p=>AO p.1 p.2) w→St E.S E.w0 (C2++dn'.map fun p=>AO p.1 p.2) w)
 |[],s',dn,L,Y,C,_,_,hn,hm,_,hl,h=>⟨dn,L,C,h,hn,fun p=>⟨fun q=>⟨q,hm p q⟩,fun q=>q.1⟩,fun t v q=>q,hl,fun w q=>q⟩
 |x::T0,s',dn,L,Y,C,ht,hp,hn,hm,hy,hl,h=>by
  obtain ⟨i,b,rfl,hb⟩:=ht x (ck ..)
  obtain ⟨J,P⟩:=List.pairwise_cons.1 hp
  have AB: ∀ y∈T0++s',i≠y.ix:=fun y hy e=>by
   have:=J y hy
   simp only [rB,cx,bne_iff_ne,eJ.ix] at this
   exact this.1 e
  have N: ∀ k,eJ.take k∈T0++s'→dO k≠dO i:=fun k hk e=>by
   have:=J _ hk
   simp only [rB,cx,bne_iff_ne] at this
   exact this.2 e.symm
  have K:dn.Perm ((i,b)::dn.erase (i,b)):=List.perm_cons_erase hb
  have H:((dn.erase (i,b)).map (·.1)).Nodup∧i ∉ (dn.erase (i,b)).map (·.1):=by
   have:=(K.map (·.1)).nodup_iff.1 hn
   exact ⟨(List.nodup_cons.1 this).2,(List.nodup_cons.1 this).1⟩
  have A: ∀ p∈dn.erase (i,b),p∈dn∧p.1≠i:=fun p hp=>⟨List.mem_of_mem_erase hp,fun e=>by have q:=List.mem_map_of_mem (f:=fun p:Nat×Nat=>p.1) hp; simp only [e] at q; exact H.2 q⟩
  have O:L.lookup (dO i)=none:=hl i (ck ..)
  obtain ⟨dn',L',C2,R,T,AA,V,W,X⟩:=AH T0 s' (dn.erase (i,b)) ((dO i,VO i b)::L) Y (AO i b::C) (fun x hx=>by
   obtain ⟨k,c,rfl,hk⟩:=ht x (dq _ hx)
   refine ⟨k,c,U,?_⟩
   have F:k≠i:=fun e=>AB _ (List.mem_append_left _ hx) e.symm
   exact (List.mem_erase_of_ne (fun e=>F (congrArg Prod.fst e))).2 hk) P H.1 (fun p hp=>by
   obtain ⟨M,G⟩:=A p hp
   rcases List.mem_cons.1 (hm p M) with e|e
   ·injection e with e; exact absurd e G
   ·exact e) (fun p hp=>hy p (A p hp).1) (fun k hk=>by
   have:(dO k==dO i)=false:=by simpa using N k hk
   simp only [List.lookup,this]
   exact hl k (dq _ hk)) (h b)
  refine ⟨dn',L',C2,R,T,fun p=>?_,fun t v hv=>?_,W,fun w hw=>X w ?_⟩
  ·rw [AA]
   constructor
   ·rintro ⟨M,G⟩; exact ⟨(A p M).1,G⟩
   ·rintro ⟨M,G⟩
    have F:p.1≠i:=fun e=>AB _ (List.mem_append_right _ G) e.symm
    exact ⟨(List.mem_erase_of_ne (fun e=>F (congrArg Prod.fst e))).2 M,G⟩
  ·have:=V t v hv
   rw [lV] at this ⊢
   by_cases e:t=dO i
   ·subst e
    simp only [List.lookup,beq_self_eq_true] at this
    rw [O]; simp only
    rw [hy _ hb]; exact this
   ·have Q:(t==dO i)=false:=by simpa using e
    simp only [List.lookup,Q] at this
    exact this
  ·refine hw.perm ?_
   show (C++dn.map fun p=>AO p.1 p.2).Perm (AO i b::(C++(dn.erase (i,b)).map fun p=>AO p.1 p.2))
   refine ((K.map fun p:Nat×Nat=>AO p.1 p.2).append_left C).trans ?_
   exact List.perm_middle
theorem zE: ∀ (s:List eJ) (j:Nat),eJ.op j∈s→ ∃ T0 k s',s=T0++eJ.op k::s'∧ ∀ x∈T0,∃ i,x=eJ.take i
 | .take i::s,j,h=>by
  rcases List.mem_cons.1 h with e|h
  ·cases e
  ·obtain ⟨T0,k,s',rfl,A⟩:=zE s j h
   exact ⟨.take i::T0,k,s',U,fun x hx=>by
    rcases List.mem_cons.1 hx with rfl|hx
    ·exact ⟨i,U⟩
    ·exact A x hx⟩
 | .op k::s,j,_=>⟨[],k,s,rfl,fun x hx=>by cases hx⟩
def jo (s:List eJ) (dn:List (Nat×Nat)):List Nat:=(s.map eJ.ix).filter fun i=> !(dn.map (·.1)).contains i
theorem pt {s:List eJ} {dn:List (Nat×Nat)} {i:Nat}:i∈jo s dn↔(∃ x∈s,x.ix=i)∧ ∀ p∈dn,p.1≠i:=by
 unfold jo
 rw [List.mem_filter,s_]
 refine and_congr Iff.rfl ?_
 rw [Bool.not_eq_true',← Bool.not_eq_true,List.contains_iff_mem,s_]
 constructor
 ·intro h p hp e; exact h ⟨p,hp,e⟩
 ·rintro h ⟨p,hp,e⟩; exact h p hp e
theorem oR (hal: ∀ i,Mb E ops D B dO VO AO i∨True): ∀ (n:Nat) (s:List eJ) (dn:List (Nat×Nat)) (L Y:List (Nat×Value)) (C:List ao),(∀ i,eJ.take i∈s→Mb E ops D B dO VO AO i)→s.Pairwise (fun x y=>rB (oi ops) dO x y=true)→(jo s dn).length=n→(dn.map (·.1)).Nodup→(∀ p∈dn,eJ.take p.1∈s)→(∀ p∈dn,Y.lookup (dO p.1)=some (VO p.1 p.2))→(∀ i,eJ.take i∈s→L.lookup (dO i)=none)→ye B L→
 (∀ w,St E.S E.w0 C w→St E.S E.w0 C' w)→CH E ops D C' K0 B dO VO AO s L C→TN E ops D C' C1 (fun L C=>KJ E K0 D L C) [] n (jo s dn) (L++Y) (C++dn.map fun p=>AO p.1 p.2)
 |0,s,dn,L,Y,C,_,hp,hlen,hn,hm,hy,hl,hB,hC,h=>by
  have hr:jo s dn=[]:=iz hlen
  have Q: ∀ x∈s,∃ i b,x=eJ.take i∧(i,b)∈dn:=fun x hx=>by
   have hx':x.ix ∉ jo s dn:=by rw [hr]; exact List.not_mem_nil
   rw [pt] at hx'
   have: ∃ p∈dn,p.1=x.ix:=by
    apply Classical.byContradiction
    intro q
    exact hx' ⟨⟨x,hx,U⟩,fun p hp e=>q ⟨p,hp,e⟩⟩
   obtain ⟨p,T,AF⟩:=this
   have ht:=hm p T
   rcases List.mem_iff_getElem.1 hx with ⟨a,ha,ea⟩
   rcases List.mem_iff_getElem.1 ht with ⟨c,hc,ec⟩
   have d:a=c:=by
    rcases Nat.lt_trichotomy a c with q|q|q
    ·have:=List.pairwise_iff_getElem.1 hp a c ha hc q
     simp only [rB,cx,bne_iff_ne,ea,ec] at this
     exact absurd AF.symm this.1
    ·exact q
    ·have:=List.pairwise_iff_getElem.1 hp c a hc ha q
     simp only [rB,cx,bne_iff_ne,ea,ec] at this
     exact absurd AF this.1
   subst d
   exact ⟨p.1,p.2,by rw [← ea,ec],T⟩
  obtain ⟨dn',L',C2,V,J,O,W,h5,X⟩:=AH s [] dn L Y C Q (by simpa using hp) hn (by simpa using hm) hy (by simpa using hl) (by simpa using h)
  show KJ E K0 D _ _
  have hd:dn'=[]:=List.eq_nil_iff_forall_not_mem.2 fun p hp=>by have:=((O p).1 hp).2; cases this
  subst hd
  refine Bu (L2:=L') (C2:=C2) (fun a hf=>Cm (fun t v ht=>W t v (by rw [lV,ht])) a hf) (fun w hw=>by have:=X w hw; simpa using this) V
 |n+1,s,dn,L,Y,C,hal',hp,hlen,hn,hm,hy,hl,hB,hC,h=>by
  intro i hi o ho K hK
  obtain ⟨G,m⟩:=List.mem_filter.1 hi
  obtain ⟨⟨x,hx,rfl⟩,H⟩:=pt.1 G
  have A: ∀ k∈jo s dn,gv (oi ops) k x.ix=false:=fun k hk=>by
   have:=List.all_eq_true.1 m k hk
   simpa using this
  cases x with
  |take i=>
   simp only [eJ.ix] at H A ho hK G ⊢
   refine hal' i hx o ho _ _ K hB.app fun b=>?_
   have l:=hl i hx
   have AG:(jo s dn).filter (· != i)=jo s ((i,b)::dn):=by
    unfold jo
    rw [List.filter_filter]
    apply List.filter_congr
    intro k _
    simp only [List.map_cons,List.contains_cons,Bool.not_or]
    rfl
   have N:(jo s dn).Nodup:=by
    unfold jo
    refine List.Nodup.sublist List.filter_sublist<|List.pairwise_map.2 (hp.imp fun {a c} q=>?_)
    simp only [rB,cx,bne_iff_ne] at q
    exact q.1
   have M: ∀ k,eJ.take k∈s→k≠i→dO k≠dO i:=fun k hk AA e=>by
    rcases List.mem_iff_getElem.1 hx with ⟨a,ha,ea⟩
    rcases List.mem_iff_getElem.1 hk with ⟨c,hc,ec⟩
    rcases Nat.lt_trichotomy a c with q|q|q
    ·have:=List.pairwise_iff_getElem.1 hp a c ha hc q
     simp only [rB,cx,bne_iff_ne,ea,ec] at this
     exact this.2 e.symm
    ·subst q; rw [ea] at ec; cases ec; exact AA rfl
    ·have:=List.pairwise_iff_getElem.1 hp c a hc ha q
     simp only [rB,cx,bne_iff_ne,ea,ec] at this
     exact this.2 e
   refine Bu (L2:=L++((dO i,VO i b)::Y)) (C2:=C++((i,b)::dn).map fun p=>AO p.1 p.2) (fun a hf=>Cm (fun t v ht=>?_) a hf) (fun w hw=>hw.perm (List.perm_middle).symm) (hK _ _ (fun w hw=>hC w (hw.take (List.sublist_append_left _ _))) (fun q=>by cases q) ?_)
   ·rw [lV] at ht
    by_cases e:t=dO i
    ·subst e
     rw [l] at ht
     simp only [List.lookup,beq_self_eq_true] at ht ⊢
     exact ht
    ·have e2:(t==dO i)=false:=by simpa using e
     simp only [List.lookup,e2] at ht ⊢
     rw [lV]; exact ht
   ·rw [AG]
    refine oR hal n s ((i,b)::dn) L ((dO i,VO i b)::Y) C hal' hp ?_ (List.nodup_cons.2 ⟨fun q=>?_,hn⟩) (fun p hp'=>?_) (fun p hp'=>?_) hl hB hC h
    ·rw [← AG,← List.Nodup.erase_eq_filter N,List.length_erase_of_mem G,hlen]; rfl
    ·obtain ⟨p,hp',e⟩:=List.mem_map.1 q
     exact H p hp' e
    ·rcases List.mem_cons.1 hp' with rfl|hp'
     ·exact hx
     ·exact hm p hp'
    ·rcases List.mem_cons.1 hp' with rfl|hp'
     ·simp [List.lookup]
     ·have:(dO p.1==dO i)=false:=by simpa using M p.1 (hm p hp') (H p hp')
      simp only [List.lookup,this]
      exact hy p hp'
  |op j=>
   simp only [eJ.ix] at H A ho hK G ⊢
   obtain ⟨T0,k,s',rfl,hT⟩:=zE s j hx
   obtain ⟨q1,q2,q3⟩:=List.pairwise_append.1 hp
   obtain ⟨q4,q5⟩:=List.pairwise_cons.1 q2
   have R: ∀ k',eJ.op k'∈T0++eJ.op k::s'→k'∈jo (T0++eJ.op k::s') dn:=fun k' hk'=>by
    refine pt.2 ⟨⟨_,hk',U⟩,fun p hp' e=>?_⟩
    have ht:=hm p hp'
    rcases List.mem_iff_getElem.1 hk' with ⟨a,ha,ea⟩
    rcases List.mem_iff_getElem.1 ht with ⟨c,hc,ec⟩
    rcases Nat.lt_trichotomy a c with q|q|q
    ·have:=List.pairwise_iff_getElem.1 hp a c ha hc q
     simp only [rB,cx,bne_iff_ne,ea,ec,eJ.ix] at this
     exact this.1 e.symm
    ·subst q; rw [ea] at ec; cases ec
    ·have:=List.pairwise_iff_getElem.1 hp c a hc ha q
     simp only [rB,cx,bne_iff_ne,ea,ec,eJ.ix] at this
     exact this.1 e
   have AB:k=j:=by
    apply Classical.byContradiction
    intro AC
    have hj':eJ.op j∈s':=by
     rcases List.mem_append.1 hx with q|q
     ·obtain ⟨i,e⟩:=hT _ q; cases e
     ·rcases List.mem_cons.1 q with e|q
      ·injection e with e; exact absurd e.symm AC
      ·exact q
    have:=q4 _ hj'
    simp only [rB,cx,eJ.ix] at this
    have J:=A k (R k sm)
    rw [this.2] at J; cases J
   subst AB
   have F: ∀ x∈T0,∃ i b,x=eJ.take i∧(i,b)∈dn:=fun x hx'=>by
    obtain ⟨i,rfl⟩:=hT x hx'
    apply Classical.byContradiction
    intro q
    have r:i∈jo (T0++eJ.op k::s') dn:=pt.2 ⟨⟨_,List.mem_append_left _ hx',rfl⟩,fun p hp' e=>q ⟨i,p.2,rfl,by rw [← e]; exact hp'⟩⟩
    have:=q3 _ hx' _ (ck ..)
    simp only [rB,cx,eJ.ix] at this
    have J:=A i r
    rw [this.2] at J; cases J
   obtain ⟨dn',L',C2,V,J,O,W,h5,X⟩:=AH T0 (eJ.op k::s') dn L Y C F hp hn hm hy hl h
   refine Ip (fun a hf=>Cm W a hf) X (V o ho Y (dn'.map fun p=>AO p.1 p.2) K fun L3 C3 P AD Z g=>?_)
   have AG:(jo (T0++eJ.op k::s') dn).filter (· != k)=jo s' dn':=by
    unfold jo
    rw [List.map_append,List.filter_append,List.map_cons,List.filter_append]
    have e1:(List.map eJ.ix T0).filter (fun i=> !(dn.map (·.1)).contains i)=[]:=by
     apply List.filter_eq_nil_iff.2
     intro z hz
     obtain ⟨x,hx',rfl⟩:=List.mem_map.1 hz
     obtain ⟨i,b,rfl,hb⟩:=F x hx'
     simp only [eJ.ix,Bool.not_eq_true',Bool.not_eq_false,List.contains_iff_mem]
     exact List.mem_map_of_mem (f:=(·.1)) hb
    rw [e1]
    simp only [List.filter_nil,List.nil_append]
    have u:k ∉ dn.map (·.1):=fun q=>by
     obtain ⟨p,hp',e⟩:=List.mem_map.1 q
     exact H p hp' e
    rw [List.filter_cons_of_pos (by simpa [eJ.ix] using u),List.filter_cons_of_neg (by simp [eJ.ix]),List.filter_filter]
    apply List.filter_congr
    intro z hz
    obtain ⟨y,hy',rfl⟩:=List.mem_map.1 hz
    have AE:y.ix≠k:=fun e=>by
     have:=q4 y hy'
     simp only [rB,cx,bne_iff_ne,eJ.ix] at this
     exact this.1 e.symm
    rw [Bool.eq_iff_iff]
    simp only [cx,bne_iff_ne,Bool.not_eq_true',← Bool.not_eq_true,List.contains_iff_mem]
    constructor
    ·rintro ⟨_,hq⟩ hc
     obtain ⟨p,hp',e⟩:=List.mem_map.1 hc
     exact hq (by rw [← e]; exact List.mem_map_of_mem (f:=(·.1)) ((O p).1 hp').1)
    ·intro hq
     refine ⟨AE,fun hc=>?_⟩
     obtain ⟨p,hp',e⟩:=List.mem_map.1 hc
     apply hq
     rw [← e]
     refine List.mem_map_of_mem (f:=(·.1)) ((O p).2 ⟨hp',?_⟩)
     have ht:=hm p hp'
     rcases List.mem_append.1 ht with ht|ht
     ·exfalso
      have:=q3 _ ht _ (dq _ hy')
      simp only [rB,cx,bne_iff_ne,eJ.ix] at this
      exact this.1 e
     ·exact ht
   have N:(jo (T0++eJ.op k::s') dn).Nodup:=by
    unfold jo
    refine List.Nodup.sublist List.filter_sublist<|List.pairwise_map.2 (hp.imp fun {a c} q=>?_)
    simp only [rB,cx,bne_iff_ne] at q
    exact q.1
   refine hK _ _ (fun w hw=>P w (hw.take (List.sublist_append_left _ _))) (fun q=>by cases q) ?_
   rw [AG]
   have hdn': ∀ p∈dn',eJ.take p.1∈s':=fun p hp'=>by
    rcases List.mem_cons.1 ((O p).1 hp').2 with e|e
    ·cases e
    ·exact e
   refine oR hal n s' dn' L3 Y C3 (fun i hi=>hal' i (by simp [hi])) q5 ?_ J hdn' (fun p hp'=>hy p ((O p).1 hp').1) (fun i hi=>?_) (wW Z) P g
   ·rw [← AG,← List.Nodup.erase_eq_filter N,List.length_erase_of_mem G,hlen]; rfl
   ·have:=List.all_eq_true.1 AD _ (qj hi)
    simpa using this
/-- the rows, at any time; the others, one after the other -/
theorem xI {tb rem:List Nat} {L:List (Nat×Value)} {C:List ao} (s:List eJ) (B:List (Nat×Value)) (dO:Nat→Nat) (VO:Nat→Nat→Value) (AO:Nat→Nat→ao) {n:Nat} (htb:tb=[]) (hr:s.map eJ.ix=rem) (hn:rem.length=n) (hp:N2 (oi ops) dO s=true) (hl:((yz dO s).all fun d=>(L.lookup d).isNone)=true) (hB:B.map (fun p=>L.lookup p.1)=B.map (fun p=>some p.2)) (hC: ∀ w,St E.S E.w0 C w→St E.S E.w0 C' w)
 (hal: ∀ i,eJ.take i∈s→Mb E ops D B dO VO AO i) (h:CH E ops D C' K0 B dO VO AO s L C):TN E ops D C' C1 (fun L C=>KJ E K0 D L C) tb n rem L C:=by
 subst htb hr
 have e:jo s []=s.map eJ.ix:=by unfold jo; simp
 have:=oR (C1:=C1) (fun i=> .inr trivial) n s [] L [] C hal (BV hp) (by rw [e]; exact hn) List.nodup_nil (fun p hp=>by cases hp) (fun p hp=>by cases hp) (fun i hi=>by
  have:=List.all_eq_true.1 hl _ (qj hi)
  simpa using this) (wW hB) hC h
 simpa [e] using this
theorem z4 {p:Nat→Prop}: ∀ i,eJ.take i∈([]:List eJ)→p i:=fun i h=>by cases h
theorem lz {p:Nat→Prop} {j:Nat} {s:List eJ} (h: ∀ i,eJ.take i∈s→p i): ∀ i,eJ.take i∈eJ.op j::s→p i:=fun i hi=>by
 rcases List.mem_cons.1 hi with e|hi
 ·cases e
 ·exact h i hi
theorem mz {p:Nat→Prop} {j:Nat} {s:List eJ} (hj:p j) (h: ∀ i,eJ.take i∈s→p i): ∀ i,eJ.take i∈eJ.take j::s→p i:=fun i hi=>by
 rcases List.mem_cons.1 hi with e|hi
 ·cases e; exact hj
 ·exact h i hi
end
section
variable {E:eB} {ops:Array Oper} {D:List Deferred} {B:List (Nat×Value)} {dO:Nat→Nat} {VO:Nat→Nat→Value} {AO:Nat→Nat→ao}
variable {d:Nat} {ty:TypeId} {ps:String} {af:Array Edge}
theorem xb {i t e sz:Nat} (ho:ops[i]? =some ⟨some d,.buildSlice t 0 #[],ty,ps,af,none⟩) (ht:tE E.P t=some (e,sz)) (hd:Nat.blt d E.n=true) (h1:dO i=d) (h2: ∀ b,VO i b= .slice (some ⟨b,0,none⟩) 0 0) (h3: ∀ b,AO i b=cd b e []):Mb E ops D B dO VO AO i:=fun o ho' L C K hB hk=>by
 rw [ho] at ho'; cases ho'
 exact mX U ht hd fun b=>aA (by have:=hk b; rw [h1,h2,h3] at this; exact this)
theorem BG {i t e sz n:Nat} {xs:List Operand} {vs:List Value} {cs zs:List Value} (ho:ops[i]? =some ⟨some d,.buildSlice t n ((xs.zipIdx.map fun p=>(p.2,p.1)).toArray),ty,ps,af,none⟩) (ht:tE E.P t=some (e,sz)) (hz:tZ E.P e=some zs) (hx:evs B xs=some vs) (hn:xs.length=n) (hp:Nat.blt 0 (n*sz)=true) (hb:Nat.ble (n*sz) 16777216=true) (hv: ∀ v∈vs,v.cells.size=sz)
 (hc:(vs.map (·.cells.toList)).flatten=cs) (hd:Nat.blt d E.n=true) (h1:dO i=d) (h2: ∀ b,VO i b= .slice (some ⟨b,0,none⟩) n n) (h3: ∀ b,AO i b=cd b e cs):Mb E ops D B dO VO AO i:=fun o ho' L C K hB hk=>by
 rw [ho] at ho'; cases ho'
 exact fw U ht hz (Cj hB hx) hn hp hb hv hc hd fun b=>aA (by have:=hk b; rw [h1,h2,h3] at this; exact this)
end
section
variable {E:eB} {ops:Array Oper} {D:List Deferred} {C':List ao} {K0:Act→World→Prop} {B:List (Nat×Value)} {dO:Nat→Nat} {VO:Nat→Nat→Value} {AO:Nat→Nat→ao}
theorem lQ {j:Nat} {s:List eJ} {L:List (Nat×Value)} {C:List ao} {o:Oper} (ho:ops[j]? =some o)
 (h: ∀ (Y:List (Nat×Value)) (X:List ao) (K:Act→World→Prop),(∀ L' C'',(∀ w,St E.S E.w0 C'' w→St E.S E.w0 C' w)→((yz dO s).all fun d=>(L'.lookup d).isNone)=true→B.map (fun p=>L'.lookup p.1)=B.map (fun p=>some p.2)→CH E ops D C' K0 B dO VO AO s L' C''→KJ E K D (L'++Y) (C''++X))→RJ E ops (NQ K) [o] D (L++Y) (C++X)):CH E ops D C' K0 B dO VO AO (.op j::s) L C:=fun o' ho'=>by
 rw [ho] at ho'; cases ho'
 exact h
theorem jD {s:List eJ} {L Y:List (Nat×Value)} {C X:List ao} {K:Act→World→Prop} (hT: ∀ L' C'',(∀ w,St E.S E.w0 C'' w→St E.S E.w0 C' w)→((yz dO s).all fun d=>(L'.lookup d).isNone)=true→B.map (fun p=>L'.lookup p.1)=B.map (fun p=>some p.2)→CH E ops D C' K0 B dO VO AO s L' C''→KJ E K D (L'++Y) (C''++X)) (nL nC:Nat)
 (hL:L.take nL++Y=L) (hC:C.take nC++X=C) (h1: ∀ w,St E.S E.w0 (C.take nC) w→St E.S E.w0 C' w) (h2:((yz dO s).all fun d=>((L.take nL).lookup d).isNone)=true) (h3:B.map (fun p=>(L.take nL).lookup p.1)=B.map (fun p=>some p.2)) (h:CH E ops D C' K0 B dO VO AO s (L.take nL) (C.take nC)):RJ E ops (NQ K) [] D L C:=by
 have:=hT _ _ h1 h2 h3 h
 rw [hL,hC] at this
 exact aA this
theorem EN {c:Code} {Q:cM} {L L':List (Nat×Value)} {C:List ao} (h:L'.map (fun p=>L.lookup p.1)=L'.map (fun p=>some p.2)) (k:WJ E c Q D L' C):WJ E c Q D L C:=fun a w hf hs=>k a w (Cm (wW h) a hf) hs
theorem uN: ∀ {C:List ao} {i:Nat} {A:ao},C[i]? =some A→C.Perm (A::C.eraseIdx i)
 |[],i,A,h=>by simp at h
 |x::C,0,A,h=>by
  simp at h; subst h
  exact List.Perm.refl _
 |x::C,i+1,A,h=>((uN (C:=C) (i:=i) (by simpa using h)).cons x).trans (List.Perm.swap _ _ _)
theorem St.front {S:BS} {w0 w:World} {C:List ao} {A:ao} (i:Nat) (hi:C[i]? =some A) (h:St S w0 C w):St S w0 (A::C.eraseIdx i) w:=h.perm (uN hi)
theorem B_ {K:Act→World→Prop} {L:List (Nat×Value)} {C:List ao} {A:ao} (i:Nat) (hi:C[i]? =some A) (h:KJ E K D L (A::C.eraseIdx i)):KJ E K D L C:=fun a w hf hs=>h a w hf (hs.front i hi)
theorem o6 {Q:cM} {rest:List Oper} {L:List (Nat×Value)} {C:List ao} {A:ao} (i:Nat) (hi:C[i]? =some A) (h:RJ E ops Q rest D L (A::C.eraseIdx i)):RJ E ops Q rest D L C:=fun a w hf hs=>h a w hf (hs.front i hi)
end
end
section
open Go.RowKit
theorem zr (l:List cL) (az:List ji): ∀ v∈(List.zipWith cL.cells l az).flatten,v.oneCell'=true:=by
 induction l generalizing az with
 |nil=>intro v hv; simp at hv
 |cons x l ih=>
  cases az with
  |nil=>intro v hv; simp at hv
  |cons a az=>
   intro v hv
   simp only [List.zipWith_cons_cons,List.flatten_cons,qa] at hv
   rcases hv with hv|hv
   ·simp only [cL.cells,vh.cells,g8,List.not_mem_nil,or_false] at hv
    rcases hv with rfl|rfl|rfl<;>rfl
   ·exact ih az v hv
theorem IN: ∀ (m:cL) (a:ji) (w:World),(∀ X∈cL.owns m a,X.holds w)→ ∀ X∈cL.fB m a,X.holds w:=fun m a w h X hX=>by
 simp only [cL.fB,g8,List.not_mem_nil,or_false] at hX
 have A:=mI (h (own a.1.1 a.1.2 j7 1 (m.fh.map iC)) (by simp [cL.owns]))
 have B:=mI (h (own a.2.1.1 a.2.1.2 j7 1 (m.gG.map iC)) (by simp [cL.owns]))
 have C:=mI (h (own a.2.2.1 a.2.2.2 j7 1 (m.j5.map iC)) (by simp [cL.owns]))
 rcases hX with rfl|rfl|rfl
 ·simpa using A
 ·simpa using B
 ·simpa using C
theorem nK: ∀ (l:List cL) (az:List ji),(aZ cL.owns l az).all (·.wr)=true
 |[],_=>rfl
 |_::_,[]=>rfl
 |x::l,a::az=>by
  simp only [aZ,List.all_append,cx]
  exact ⟨U,nK l az⟩
theorem EO (l:List cL) (az:List ji):(bM (aZ cL.owns l az)).wr=true:=nK l az
theorem Fz {l m:List cL} {az bz:List ji} (h:az.length=l.length):List.zipWith cL.cells (l++m) (az++bz)=List.zipWith cL.cells l az++List.zipWith cL.cells m bz:=List.zipWith_append h.symm
theorem qR {l:List cL} {az:List ji} (h:az.length=l.length):(List.zipWith cL.cells l az).length=l.length:=by rw [List.length_zipWith]; omega
/-- what is read of a thing that is tied, and frozen -/
theorem nT {C L:List ao} {a:OA} {c e sz n:Nat} {es:List (List Value)} (i:Nat) (hC:C[i]? =some (bM L).ro) (hm:own a c e sz es∈L) (hn:es.length=n):fR C (rd a n sz es).holds:=fun w hw=>by
 subst hn
 exact mI ((show (bM L).holds w from (hw _ (aI hC):(bM L).ro.holds w)).1 _ hm)
section
variable {E:eB} {ops:Array Oper} {Q:cM} {rest:List Oper} {D:List Deferred} {L:List (Nat×Value)} {C C1:List ao}
theorem St.Lb {S:BS} {w0 w:World} {X C:List ao} {A:ao} (h:St S w0 (bM (X++[A])::C) w):St S w0 (A::bM X::C) w:=by
 have B:=h.gR
 have D:St S w0 (X++(A::C)) w:=by simpa using B
 exact D.tied.perm (List.Perm.swap _ _ _)
theorem St.merge {S:BS} {w0 w:World} {X Y C:List ao} (h:St S w0 (bM X::bM Y::C) w):St S w0 (bM (X++Y)::C) w:=by
 have A:St S w0 (bM Y::(X++C)) w:=(h.gR).perm (List.perm_middle (a:=bM Y) (l₁:=X) (l₂:=C))
 have B:St S w0 (Y++(X++C)) w:=A.gR
 have D:St S w0 ((X++Y)++C) w:=B.perm (by rw [← List.append_assoc]; exact List.perm_append_comm.append_right _)
 exact D.tied
end
section
variable {E:eB} {ops:Array Oper} {Q:cM} {rest:List Oper} {D:List Deferred} {L:List (Nat×Value)} {C:List ao}
theorem xn {A:ao} {X X':List ao} (e:X++[A]=X') (h:RJ E ops Q rest D L (bM X'::C)):RJ E ops Q rest D L (A::bM X::C):=fun a w hf hs=>h a w hf (hs.tie e)
theorem vK {X:List ao} {A:ao} (h:RJ E ops Q rest D L (A::bM X::C)):RJ E ops Q rest D L (bM (X++[A])::C):=fun a w hf hs=>h a w hf hs.Lb
theorem Gb {K:Act→World→Prop} {ms ns:List cL} {az bz:List ji} (hl:az.length=ms.length) (h:KJ E K D L (bM (aZ cL.owns (ms++ns) (az++bz))::C)):KJ E K D L (bM (aZ cL.owns ms az)::bM (aZ cL.owns ns bz)::C):=fun a w hf hs=>h a w hf (by rw [iJ hl.symm]; exact hs.merge)
end
/-- the head of the ways: the way that ends here, if it may -/
def ue (l:aQ) (r:cf) (rs fs:List Int) (ra fa:RA) (hz:List ji) (LA:List ao):Prop:=
 ((r.ag.length:Int)-(cH rs).right≤l.eO∧ ∃ la:RA,hz=[(ra,fa,la)]∧LA=[own la.1 la.2 j7 1 ((hU l r rs).map iC)])∨(¬ (r.ag.length:Int)-(cH rs).right≤l.eO∧hz=[]∧LA=[])
theorem ue.len {l:aQ} {r:cf} {rs fs:List Int} {ra fa:RA} {hz:List ji} {LA:List ao} (h:ue l r rs fs ra fa hz LA):hz.length=(fO l r rs fs).length:=by
 unfold fO
 rcases h with ⟨q,la,rfl,rfl⟩|⟨q,rfl,rfl⟩
 ·rw [if_pos q]; rfl
 ·rw [if_neg q]; rfl
theorem ue.wr {l:aQ} {r:cf} {rs fs:List Int} {ra fa:RA} {hz:List ji} {LA:List ao} (h:ue l r rs fs ra fa hz LA):LA.all (·.wr)=true:=by
 rcases h with ⟨q,la,rfl,rfl⟩|⟨q,rfl,rfl⟩<;>rfl
theorem EY {S:BS} {w0 w:World} {l:aQ} {r:cf} {rs fs:List Int} {ra fa:RA} {hz az:List ji} {LA:List ao} {R:List cL} {A:ao} (hh:ue l r rs fs ra fa hz LA)
 (h:St S w0 [bM [own ra.1 ra.2 j7 1 (rs.map iC),own fa.1 fa.2 j7 1 (fs.map iC)],A,bM LA,bM (aZ cL.owns R az)] w):St S w0 [bM (aZ cL.owns (fO l r rs fs++R) (hz++az)++[A])] w:=by
 rw [iJ hh.len.symm]
 have D:St S w0 [own ra.1 ra.2 j7 1 (rs.map iC),own fa.1 fa.2 j7 1 (fs.map iC),A,bM LA,bM (aZ cL.owns R az)] w:=h.gR
 rcases hh with ⟨q,la,rfl,rfl⟩|⟨q,rfl,rfl⟩
 ·unfold fO
  rw [if_pos q]
  have B:=(St.jt [3,0,1,2,4] rfl rfl D).gR
  have E:=(St.jt [4,1,2,0,3] rfl rfl B).gR
  have C:St S w0 (((aZ cL.owns [(⟨rs,fs,hU l r rs⟩:cL)] [(ra,fa,la)]++aZ cL.owns R az)++[A])++[]) w:=by
   rw [List.append_nil]
   refine E.perm ?_
   show (aZ cL.owns R az++(aZ cL.owns [(⟨rs,fs,hU l r rs⟩:cL)] [(ra,fa,la)]++[A])).Perm _
   rw [← List.append_assoc]
   exact List.perm_append_comm.append_right _
  exact C.tied
 ·unfold fO
  rw [if_neg q]
  have B:=(St.jt [4,2] rfl rfl D).gR
  have C:St S w0 (((aZ cL.owns [] []++aZ cL.owns R az)++[A])++[]) w:=by
   rw [List.append_nil]; exact B
  exact C.tied
theorem FF {E:eB} {K:Act→World→Prop} {D:List Deferred} {L:List (Nat×Value)} {l:aQ} {r:cf} {rs fs:List Int} {ra fa:RA} {hz az z:List ji} {LA:List ao} {R W:List cL} {A A':ao} (hh:ue l r rs fs ra fa hz LA) (hW:fO l r rs fs++R=W) (hz':hz++az=z) (hA:A=A')
 (h:KJ E K D L [bM (aZ cL.owns W z++[A'])]):KJ E K D L [bM [own ra.1 ra.2 j7 1 (rs.map iC),own fa.1 fa.2 j7 1 (fs.map iC)],A,bM LA,bM (aZ cL.owns R az)]:=fun a w hf hs=>h a w hf (by subst hW hz' hA; exact EY hh hs)
theorem JI {E:eB} {K:Act→World→Prop} {D:List Deferred} {L:List (Nat×Value)} {X A:ao} {W:List cL} (h:KJ E K D L [bM (aZ cL.owns W []++[A])]):KJ E K D L [X,A]:=fun a w hf hs=>h a w hf (by
 have B:St E.S E.w0 [A] w:=St.jt [1] rfl rfl hs
 have C:St E.S E.w0 (([]++[A])++[]) w:=B
 have e:aZ cL.owns W []=[]:=by cases W<;>rfl
 rw [e]
 exact C.tied)
theorem DU {E:eB} {K:Act→World→Prop} {D:List Deferred} {L:List (Nat×Value)} {C:List ao} (e sz:Nat) (k:KJ E K D L (own none 0 e sz []::C)):KJ E K D L C:=fun a w hf hs=>k a w hf (hs.qs e sz)
end
section
theorem TN.sub {E:eB} {ops:Array Oper} {Q:cM} {D:List Deferred} {C' C1 C:List ao} {tb rem:List Nat}: ∀ {n:Nat} {L L':List (Nat×Value)},cS L L'→TN E ops D C' C1 (fun L C=>KJ E (Q .normal) D L C) tb n rem L' C→TN E ops D C' C1 (fun L C=>KJ E (Q .normal) D L C) tb n rem L C:=by
 intro n
 cases n with
 |zero=>intro L L' hs h; exact iy hs (fun _ h=>h) h
 |succ n=>intro L L' hs h i hi o ho K hK; exact Jd hs (fun _ h=>h) (h i hi o ho K hK)
theorem H3 {E:eB} {ops:Array Oper} {Q:cM} {D:List Deferred} {C' C1 C:List ao} {bs:List Bool} {os:List Oper} {L:List (Nat×Value)} {tb rem:List Nat} {n:Nat} {t:Nat} {b:Bool} (h:L.lookup t=some (.bool b))
 (h1:b=true→oq E ops D C' C1 (fun L'=>TN E ops D C' C1 (fun L C=>KJ E (Q .normal) D L C) tb n rem L' C) bs os ((t,.bool true)::L)) (h2:b=false→oq E ops D C' C1 (fun L'=>TN E ops D C' C1 (fun L C=>KJ E (Q .normal) D L C) tb n rem L' C) bs os ((t,.bool false)::L)):
 oq E ops D C' C1 (fun L'=>TN E ops D C' C1 (fun L C=>KJ E (Q .normal) D L C) tb n rem L' C) bs os L:=by
 have A: ∀ v:Bool,b=v→cS L ((t,.bool v)::L):=fun v hv=>cS.cons (hv▸h) (fun _ _ h=>h)
 cases b
 ·exact oq.mono (fun _ _=>TN.sub) (A _ U) (h2 U)
 ·exact oq.mono (fun _ _=>TN.sub) (A _ U) (h1 U)
theorem No {E:eB} {ops:Array Oper} {Q:cM} {D:List Deferred} {L:List (Nat×Value)} {C1 C2 C:List ao} {t n:Nat} {b:Bool} {bs:List Bool} {os:List Oper} {tb rem:List Nat} (h:L.lookup t=some (.bool b)) (h2:b=false→oq E ops D C2 C1 (fun L2=>TN E ops D C2 C1 (fun L C=>KJ E (Q .normal) D L C) tb n rem L2 C) bs os ((t,.bool false)::L)) (h1:b=true→oq E ops D C2 C1 (fun L2=>TN E ops D C2 C1 (fun L C=>KJ E (Q .normal) D L C) tb n rem L2 C) bs os ((t,.bool true)::L)):oq E ops D C2 C1 (fun L2=>TN E ops D C2 C1 (fun L C=>KJ E (Q .normal) D L C) tb n rem L2 C) bs os L:=H3 h h1 h2
end
section
open Go.RowKit
theorem yP (l:aQ) (kA:OA) (kC:Nat) (az:List RA) (cA:OA) (cC:Nat) (bA:OA) (bC:Nat) (hin:dF l az):
 dL Tryz.prog 67 [(vA (cb.cells (jI l kA kC cA cC bA bC)))] [(rd kA l.aH.length 9 (l.aH.map aj.cells)),(rd cA l.ah.length 2 (List.zipWith al.cells l.ah az)),(eg (aZ al.fB l.ah az)),(rd bA l.ab.length 4 (l.ab.map bL.cells))] (vI (cY l)):=by
 have N:=hin.pO
 have M:=hin.pJ
 have K:=hin.mE
 have L:=hin.pQ
 refine bu kr Tryz.func67 U U fun P Q hQ hN=>?_
 try dsimp only
 refine WS fun _ C=>eQ U fun O=>bp 1 U<|RK C<|ai fun _ D=>WS fun _ E=>bp 1 U<|rS (LP (bB.cells (bB.mk (bE.mk kA l.aH.length kC))) 0 U bQ U U U)<|rS (CL (td l.aH kA kC asm) (bf [1]) U)<|rP 1 [] mn ?_
 refine RK E<|cw U (fun A=>?_) (fun A=>?_)
 ·rw [Bool.not_eq_true'] at A
  refine WS fun _ F=>rP 1 [] mn ?_
  refine RK F<|an<|Q1 hQ U U U ?_
  exact cI (wg (by simpa using A)).symm
 rw [Bool.not_eq_false'] at A
 refine WK D<|ai fun _ G=>WS fun _ H=>eZ 1 [] (mc 0 U mn) U<|rS (CL (Ie l kA kC az cA cC bA bC hin asm) (bf [1,2,3,4]) U)<|rP 1 [] mn ?_
 refine RK H<|cw U (aW fun B=>?_) (aX fun B=>?_)
 ·refine WS fun _ AA=>rP 1 [] mn ?_
  refine RK AA<|an<|Q1 hQ U U U ?_
  exact cI (ou A B).symm
 refine WK G<|WS fun _ J=>rP 1 [] mn ?_
 refine RK J<|an<|Q1 hQ U U U ?_
 exact cI (yo A B).symm
theorem Ij (l:aQ) (kA:OA) (kC:Nat) (az:List RA) (cA:OA) (cC:Nat) (bA:OA) (bC:Nat) (s:aD) (hin:dF l az) (hok:ke l) (hs:(0≤s.e7∧s.e7≤(l.ab.length:Int)-1)∧0≤s.Read∧s.Read≤86400000):
 dL Tryz.prog 176 [(vA (cb.cells (jI l kA kC cA cC bA bC))),(vA (aD.cells s))] [(rd kA l.aH.length 9 (l.aH.map aj.cells)),(rd cA l.ah.length 2 (List.zipWith al.cells l.ah az)),(eg (aZ al.fB l.ah az)),(rd bA l.ab.length 4 (l.ab.map bL.cells))] (vT [(vA (aa.cells (cD l s))),(vB (decide ((cD l s).Lo≤(cD l s).Hi)))]):=by
 have AE:=hin.pO
 have AD:=hin.pJ
 have AB:=hin.mE
 have AC:=hin.pQ
 refine bu kr Tryz.func176 U U fun w0 Q hQ hN=>?_
 try dsimp only
 refine WS fun _ i=>eQ U fun b2=>eQ U fun b3=>AL U cR fun b4=>rP 1 [] mn ?_
 refine RK i<|ai fun _ j=>dj bX [11,12] [] [] [0,1,2,3,4,5,6] [] U U U U U<|eS U (FA 2 U fq U)<|eS U (L1 (vS cA l.ah.length cC) 2 U bQ U U)<|eS U (FA 3 U fq U)<|eS U (L1 (vS bA l.ab.length bC) 2 U bQ U U)<|eS U (FA 0 U fq U)<|eS U (L1 (vI s.e7) 1 U bQ U U) ?_
 obtain ⟨y,hy⟩:=aB l.ab ((s.e7).toNat) I
 have w:=br bL.cells hy
 refine eS U (IA ((s.e7).toNat) U (aq 6 U) rO dc I I)<|eS U (mF ((((s.e7).toNat)*4)+3) U (aq 6 U) (Nat.mul_pos I dc) fq U)<|eS U (fE ((s.e7).toNat) 3 (vI y.ig) U bQ (aq 6 U) w U dc U) ?_
 have AF:=(hok.sQ _ (aI hy)).2
 obtain ⟨x,hx⟩:=aB l.ah ((y.ig).toNat) I
 obtain ⟨xa,AG⟩:=aB az ((y.ig).toNat) I
 have u:(List.zipWith al.cells l.ah az)[(y.ig).toNat]? =some (al.cells x xa):=db hx AG
 refine eS U (IA ((y.ig).toNat) U (aq 4 U) vw dc I I)<|eS U (j0 ((y.ig).toNat) 0 (cT.cells (cT.mk x.cJ (bE.mk xa.1 x.aK.length xa.2))) U bQ (aq 4 U) u U dc U U)<|dW U<|bV U fun T6 m=>AL U wD fun b7=>aA (m _ _ (aC [1,2,3,4,5,6,7]) ?_)
 refine bV U fun T8 o=>fg U vY U<|aA (o _ _ (aC [1,2,3,4,5,6,7]) ?_)
 refine eU U<|KK j<|WS fun _ k=>rP 2 [] mn ?_
 refine RK k<|ai fun _ J=>av ?_
 have A:(0≤(0:Int)∧(0:Int)≤(eV (fV x s.Read) 86400001))∧((eV (fV x s.Read) 86400001)≤(86400001:Int)∧(86400001:Int)≤86400001):=by (have Y:=gF (p:=fV x s.Read) (n:=86400001); omega)
 refine bI (ι:={z:Int×Int // (0≤z.1∧z.1≤(eV (fV x s.Read) 86400001))∧((eV (fV x s.Read) 86400001)≤z.2∧z.2≤86400001)}) [2,3,4,6] [0,1,2,3,4,5,6,7] U U (fun z=>[(7,(vI z.1.1)),(8,(vI z.1.2))]) (fun z=>[]) (fun _=>rfl) (fun _=>rfl) (fun z=>(z.1.2-z.1.1).toNat) ⟨((0:Int),(86400001:Int)),A⟩ (aU U) (aC [0,1,2,3,4,5,6,7]) ?_
 clear A
 rintro ⟨⟨a,b⟩,⟨H,hl3_1⟩⟩ J11 F
 try dsimp only at H hl3_1
 try dsimp only
 have B:=hok.clock _ (aI hx)
 have Y:=gF (p:=fV x s.Read) (n:=86400001)
 have X:=gF (p:=fW x s.Read) (n:=86400001)
 refine ai fun _ K=>WS fun _ L=>rP 3 [] mn ?_
 refine RK L<|cw U (aO fun Z=>?_) (aP fun Z=>?_)
 ·refine WK K<|av<|WS fun _ M=>bp 3 U<|rS (BI U (oS I I I))<|bp 1 U<|RK M<|ai fun _ N=>cU bX 9 kr<|dP 3 [] (mc 0 U mn) ?_
  refine dS (CL (x9 x xa.1 xa.2 ((a+b)/2) asm I) (aL (show fR _ (rd xa.1 x.aK.length 3 (x.aK.map bY.cells)).holds from (bT 6 U (bk hx AG (by simp [al.fB]))))<|aR) U)<|dS (SX (k6 (v:=(vI ((gp x ((a+b)/2)).Hi))) U U fq xh U) U U) ?_
  have t:=ox B (show 0≤(a+b)/2∧(a+b)/2≤90000000 by omega)
  refine dP 4 [] (mc 2 U mn) ?_
  refine cv<|RK N<|cw U (aO fun f=>?_) (aP fun f=>?_)
  ·refine ak<|rP 2 [] mn ?_
   refine aA<|aG ?_
   refine aS (F ⟨(a,((a+b)/2)),(by dsimp only; have hm:=jG (r:=s.Read) B (x:=(a+b)/2) I I; rcases Int.lt_or_le ((a+b)/2) (eV (fV x s.Read) 86400001) with q|q; (have C:=hm.1 q; simp only [fV,decide_eq_false_iff_not] at C; omega); (have C:=hm.2.1 q; simp only [fV,decide_eq_true_eq] at C; omega))⟩ _ _ _ rfl (by simp only []; omega) (aU rfl) (aC [0,1,2,3,4,5,6,7]))
  refine ak<|rP 3 [] mn ?_
  refine aA<|aG ?_
  refine aS (F ⟨((((a+b)/2)+1),b),(by dsimp only; have hm:=jG (r:=s.Read) B (x:=(a+b)/2) I I; rcases Int.lt_or_le ((a+b)/2) (eV (fV x s.Read) 86400001) with q|q; (have C:=hm.1 q; simp only [fV,decide_eq_false_iff_not] at C; omega); (have C:=hm.2.1 q; simp only [fV,decide_eq_true_eq] at C; omega))⟩ _ _ _ rfl (by simp only []; omega) (aU rfl) (aC [0,1,2,3,4,5,6,7]))
 refine bx<|ae<|ae<|ax<|KK J<|WS fun _ O=>bp 2 U<|RK O<|WS fun _ P=>rP 2 [] mn ?_
 refine RK P<|ai fun _ R=>av ?_
 have A:(-1≤((-1):Int)∧((-1):Int)≤(eV (fW x s.Read) 86400001)-1)∧((eV (fW x s.Read) 86400001)-1≤(86400000:Int)∧(86400000:Int)≤86400000):=by (have X:=gF (p:=fW x s.Read) (n:=86400001); omega)
 refine bI (ι:={z:Int×Int // (-1≤z.1∧z.1≤(eV (fW x s.Read) 86400001)-1)∧((eV (fW x s.Read) 86400001)-1≤z.2∧z.2≤86400000)}) [2,3,4,6,10] [0,1,2,3,4,5,6,7] U U (fun z=>[(7,(vI z.1.1)),(8,(vI z.1.2))]) (fun z=>[]) (fun _=>rfl) (fun _=>rfl) (fun z=>(z.1.2-z.1.1).toNat) ⟨(((-1):Int),(86400000:Int)),A⟩ (aU U) (aC [0,1,2,3,4,5,6,7]) ?_
 clear A
 rintro ⟨⟨d,e⟩,⟨D,E⟩⟩ J20 G
 try dsimp only at D E
 try dsimp only
 have B:=hok.clock _ (aI hx)
 have Y:=gF (p:=fV x s.Read) (n:=86400001)
 have X:=gF (p:=fW x s.Read) (n:=86400001)
 refine ai fun _ S=>WS fun _ T=>rP 3 [] mn ?_
 refine RK T<|bH U (aP fun c=>?_) (aO fun c=>?_)
 ·refine bx<|ae<|ae<|ax<|KK R<|WS fun _ W=>bp 2 U<|rS (SX (bg (xs:=[(0,.tmp 63),(1,.tmp 64)]) (cs:=(aa.cells (aa.mk a d))) U U (bh eM U)) U U)<|bp 3 U<|qf U bS U<|rP 1 [] mn ?_
  refine RK W<|an<|ja hQ [0] (mc 1 U mn) U ?_
  have e0:cD l s=⟨a,d⟩:=by (unfold cD yF; rw [uC hy hx,show a=(eV (fV x s.Read) 86400001) by omega,show d=(eV (fW x s.Read) 86400001)-1 by omega])
  rw [e0]
 refine WK S<|av<|WS fun _ AA=>bp 4 U<|rS (BI U (oS I I I))<|bp 1 U<|RK AA<|ai fun _ V=>cU bX 9 kr<|dP 3 [] (mc 0 U mn) ?_
 refine dS (CL (x9 x xa.1 xa.2 (((d+e)+1)/2) asm I) (aL (show fR _ (rd xa.1 x.aK.length 3 (x.aK.map bY.cells)).holds from (bT 6 U (bk hx AG (by simp [al.fB]))))<|aR) U)<|dS (SX (k6 (v:=(vI ((gp x (((d+e)+1)/2)).Lo))) U U fq F2 U) U U) ?_
 have t:=ox B (show 0≤(d+e+1)/2∧(d+e+1)/2≤90000000 by omega)
 refine dP 4 [] (mc 2 U mn) ?_
 refine cv<|RK V<|cw U (aO fun g=>?_) (aP fun g=>?_)
 ·refine ak<|rP 2 [] mn ?_
  refine aA<|aG ?_
  refine aS (G ⟨((((d+e)+1)/2),e),(by dsimp only; have hm:=jG (r:=s.Read) B (x:=(d+e+1)/2) I I; rcases Int.lt_or_le ((d+e+1)/2) (eV (fW x s.Read) 86400001) with q|q; (have C:=hm.2.2.1 q; simp only [fW,decide_eq_false_iff_not] at C; omega); (have C:=hm.2.2.2 q; simp only [fW,decide_eq_true_eq] at C; omega))⟩ _ _ _ rfl (by simp only []; omega) (aU rfl) (aC [0,1,2,3,4,5,6,7]))
 refine ak<|rP 3 [] mn ?_
 refine aA<|aG ?_
 refine aS (G ⟨(d,((((d+e)+1)/2)-1)),(by dsimp only; have hm:=jG (r:=s.Read) B (x:=(d+e+1)/2) I I; rcases Int.lt_or_le ((d+e+1)/2) (eV (fW x s.Read) 86400001) with q|q; (have C:=hm.2.2.1 q; simp only [fW,decide_eq_false_iff_not] at C; omega); (have C:=hm.2.2.2 q; simp only [fW,decide_eq_true_eq] at C; omega))⟩ _ _ _ rfl (by simp only []; omega) (aU rfl) (aC [0,1,2,3,4,5,6,7]))
end
section
open Go.RowKit
theorem Is (l:aQ) (kA:OA) (kC:Nat) (az:List RA) (cA:OA) (cC:Nat) (bA:OA) (bC:Nat) (r:cf) (sgA:OA) (sgC:Nat) (hin:dF l az) (hsl:r.ag.length≤1000000):
 dL Tryz.prog 166 [(vA (cb.cells (jI l kA kC cA cC bA bC))),(vA (dZ.cells (j1 r sgA sgC)))] [(rd kA l.aH.length 9 (l.aH.map aj.cells)),(rd cA l.ah.length 2 (List.zipWith al.cells l.ah az)),(eg (aZ al.fB l.ah az)),(rd bA l.ab.length 4 (l.ab.map bL.cells)),(rd sgA r.ag.length 2 (r.ag.map aD.cells))] (vB (decide (er l r))):=by
 have AE:=hin.pO
 have AD:=hin.pJ
 have AB:=hin.mE
 have AC:=hin.pQ
 refine bu kr Tryz.func166 U U fun w0 Q hQ hN=>?_
 try dsimp only
 refine WS fun _ j=>eQ U fun b2=>eQ U fun b3=>bp 1 U<|RK j<|ai fun _ k=>WS fun _ H=>eZ 2 [] (mc 0 U mn) U<|rS (CL (gA r.Start 0 86400000) (aR) U)<|rP 2 [] mn ?_
 refine cr (t:=11) U (aW fun X=>?_) (aX fun X=>?_)
 ·refine bp 13 U<|RK H<|aJ U<|WS fun _ m=>rP 1 [] mn ?_
  refine RK m<|an<|Q1 hQ U U U ?_
  exact cB (bw fun q=>by have C:=q.time; have w:=q.len; omega).symm
 refine eZ 4 [] (mc 0 U mn) U<|rS (CL (gA r.eX r.Start 86400000) (aR) U)<|rP 3 [] mn ?_
 refine cr (t:=19) U (aW fun Z=>?_) (aX fun Z=>?_)
 ·refine bp 5 U<|RK H<|aJ U<|WS fun _ o=>rP 1 [] mn ?_
  refine RK o<|an<|Q1 hQ U U U ?_
  exact cB (bw fun q=>by have C:=q.time; have w:=q.len; omega).symm
 refine rP 5 [] (mc 0 U mn) ?_
 refine RK H<|cw U (aO fun a=>?_) (aP fun a=>?_)
 ·refine WS fun _ p=>rP 1 [] mn ?_
  refine RK p<|an<|Q1 hQ U U U ?_
  exact cB (bw fun q=>by have C:=q.time; have w:=q.len; omega).symm
 refine WK k<|ai fun _ s=>WS fun _ J=>rP 1 [] mn ?_
 refine RK J<|av ?_
 have F:(0≤r.ag.length)∧(oP l r.ag 0):=by exact ⟨Nat.zero_le _,wv⟩
 refine bI (ι:={z:Nat // (z≤r.ag.length)∧(oP l r.ag z)}) [2,3] [0,1,2,3,4,5,6] U U (fun z=>[(5,(vI (z.1:Int)))]) (fun z=>[]) (fun _=>rfl) (fun _=>rfl) (fun z=>r.ag.length-z.1) ⟨0,F⟩ (aU U) (aC [0,1,2,3,4,5,6]) ?_
 clear F
 rintro ⟨i,⟨u,A⟩⟩ J11 D
 try dsimp only
 refine ai fun _ K=>WS fun _ L=>rP 5 [] (mc 0 U mn) ?_
 refine RK L<|bH U (aP fun Y=>?_) (aO fun Y=>?_)
 ·refine bx<|ae<|ae<|ax<|KK s<|WS fun _ T=>rP 1 [] mn ?_
  refine RK T<|an<|Q1 hQ U U U ?_
  exact cB (dw (yj I I A I)).symm
 refine WK K<|ai fun _ E=>av<|WS fun _ M=>rP 3 [] (mc 0 U mn) ?_
 obtain ⟨x,hx⟩:=aB r.ag i I
 have v:=br aD.cells hx
 refine rS (IA i U (aq 6 U) vy dc I I)<|rS (j0 i 0 (aD.cells x) U bQ (aq 6 U) v U dc U U)<|AL U F7 fun AA=>fg U tY U<|RK M<|ai fun _ N=>WS fun _ G=>eZ 6 [0,1] (mc 0 U (mc 2 U mn)) U<|rS (CL (gA x.e7 0 ((l.ab.length:Int)-1)) (aR) U)<|rP 2 [] mn ?_
 refine cr (t:=45) U (aW fun b=>?_) (aX fun b=>?_)
 ·refine bp 5 U<|RK G<|aJ U<|WS fun _ O=>rP 1 [] mn ?_
  refine RK O<|an<|Q1 hQ U U U ?_
  exact cB (bw fun q=>by have C:=q.sig i x hx; unfold jS kN at C; omega).symm
 refine eZ 2 [] (mc 0 U mn) U<|rS (CL (gA x.Read 0 86400000) (aR) U)<|rP 2 [] mn ?_
 refine RK G<|cw U (aW fun c=>?_) (aX fun c=>?_)
 ·refine WS fun _ P=>rP 1 [] mn ?_
  refine RK P<|an<|Q1 hQ U U U ?_
  exact cB (bw fun q=>by have C:=q.sig i x hx; unfold jS kN at C; omega).symm
 refine WK N<|ai fun _ B=>cU bX 38 kr<|dP 3 [] mn ?_
 refine fU (t:=53) U (aP fun d=>?_) (aO fun d=>?_)
 ·refine jY 35 U<|cv<|RK B<|bU U<|cy<|aG<|KK E<|ak<|rP 3 [] mn ?_
  refine aA ?_
  have W:(vI (((i+1):Nat):Int))=(vI ((i:Int)+1)):=by exact cI I
  refine aS (D ⟨(i+1),⟨I,j6 A hx (by unfold jS kN; (rw [DD I]; simp only; omega))⟩⟩ _ _ _ U os (cS.cons U<|cS.cons U<|aV U W<|cS.nil _) (aC [1,2,3,4,5,6,7]))
 refine dP 6 [0,1] (mc 0 U (mc 1 U mn)) ?_
 obtain ⟨y,hy⟩:=aB r.ag (i-1) I
 have AG:=br aD.cells hy
 refine dS (IA (i-1) U (aq 7 U) vy dc I I)<|dS (mF ((i-1)*2) U (aq 7 U) (Nat.mul_pos I dc) fq U)<|dS (fE (i-1) 0 (vI y.e7) U bQ (aq 7 U) AG U dc U)<|dP 2 [] mn ?_
 refine gX (t:=64) U (aO fun e=>?_) (aP fun e=>?_)
 ·refine jY 24 U<|cv<|RK B<|aJ U<|WS fun _ R=>rP 1 [] mn ?_
  refine RK R<|an<|Q1 hQ U U U ?_
  exact cB (bw fun q=>by have C:=q.sig i x hx; unfold jS kN at C; (rw [pk I hy] at C; omega)).symm
 refine lg 6 [0,1] (mc 0 U (mc 1 U mn)) U<|dS (IA (i-1) U (aq 7 U) vy dc I I)<|dS (mF ((i-1)*2) U (aq 7 U) (Nat.mul_pos I dc) fq U)<|dS (fE (i-1) 0 (vI y.e7) U bQ (aq 7 U) AG U dc U)<|dP 2 [] mn ?_
 refine fU (t:=75) U (aP fun f=>?_) (aO fun f=>?_)
 ·refine jY 13 U<|cv<|RK B<|bU U<|cy<|aG<|KK E<|ak<|rP 3 [] mn ?_
  refine aA ?_
  have V:(vI (((i+1):Nat):Int))=(vI ((i:Int)+1)):=by exact cI I
  refine aS (D ⟨(i+1),⟨I,j6 A hx (by unfold jS kN; (rw [pk I hy]; omega))⟩⟩ _ _ _ U os (cS.cons U<|cS.cons U<|aV U V<|cS.nil _) (aC [1,2,3,4,5,6,7]))
 refine lg 6 [0,1] (mc 0 U (mc 1 U mn)) U<|dS (IA (i-1) U (aq 7 U) vy dc I I)<|dS (mF (((i-1)*2)+1) U (aq 7 U) (Nat.mul_pos I dc) fq U)<|dS (fE (i-1) 1 (vI y.Read) U bQ (aq 7 U) AG U dc U)<|dP 4 [] mn ?_
 refine cv<|RK B<|cw U (aO fun g=>?_) (aP fun g=>?_)
 ·refine WS fun _ S=>rP 1 [] mn ?_
  refine RK S<|an<|Q1 hQ U U U ?_
  exact cB (bw fun q=>by have C:=q.sig i x hx; unfold jS kN at C; (rw [pk I hy] at C; omega)).symm
 refine cy<|aG<|KK E<|ak<|rP 3 [] mn ?_
 refine aA ?_
 have AF:(vI (((i+1):Nat):Int))=(vI ((i:Int)+1)):=by exact cI I
 refine aS (D ⟨(i+1),⟨I,j6 A hx (by unfold jS kN; (rw [pk I hy]; omega))⟩⟩ _ _ _ U os (cS.cons U<|cS.cons U<|aV U AF<|cS.nil _) (aC [1,2,3,4,5,6,7]))
end
section
open Go.RowKit
theorem HL (l:aQ) (kA:OA) (kC:Nat) (az:List RA) (cA:OA) (cC:Nat) (bA:OA) (bC:Nat) (r:cf) (sgA:OA) (sgC:Nat) (hin:dF l az) (hle:cY l=0) (hr:er l r):
 pH Tryz.prog 168 [(vA (cb.cells (jI l kA kC cA cC bA bC))),(vA (dZ.cells (j1 r sgA sgC)))] [(rd kA l.aH.length 9 (l.aH.map aj.cells)),(rd cA l.ah.length 2 (List.zipWith al.cells l.ah az)),(eg (aZ al.fB l.ah az)),(rd bA l.ab.length 4 (l.ab.map bL.cells)),(rd sgA r.ag.length 2 (r.ag.map aD.cells))] (fun (x:(OA)×Nat×(OA)×Nat×(OA)×Nat)=>(vA (gu.cells (gu.mk (bE.mk x.1 ((cq l l.ab.length).length) x.2.1) (bE.mk x.2.2.1 ((dR l r r.ag.length).length) x.2.2.2.1) (bE.mk x.2.2.2.2.1 ((eh l r r.ag.length).length) x.2.2.2.2.2))))) (fun (x:(OA)×Nat×(OA)×Nat×(OA)×Nat)=>True) (fun (x:(OA)×Nat×(OA)×Nat×(OA)×Nat)=>[(own x.1 x.2.1 3 1 ((cq l l.ab.length).map iC)),(own x.2.2.1 x.2.2.2.1 47 2 ((dR l r r.ag.length).map aa.cells)),(own x.2.2.2.2.1 x.2.2.2.2.2 4 1 ((eh l r r.ag.length).map og))]):=by
 have AN:=hin.pO
 have AI:=hin.pJ
 have AF:=hin.mE
 have AH:=hin.pQ
 obtain ⟨AA,g⟩:=fF hle
 have v:=g.head
 unfold fu at v
 have AK:=hr.len
 have AM:=hr.time
 refine fm kr Tryz.func168 U U fun w0 Q hQ hN=>?_
 try dsimp only
 refine WS fun _ p=>eQ U fun b2=>eQ U fun b3=>AL U Je fun b4=>RK p<|WS fun _ q=>AL U Je fun j=>RK q<|ai fun _ t=>WS fun _ u=>rP 1 [] mn ?_
 refine RK u<|av<|fT 3 1 ?_
 have A:(0≤l.ab.length):=by exact Nat.zero_le _
 refine bI (ι:={z:Nat×(OA)×Nat // (z.1≤l.ab.length)}) [2,3,4,5] [2,3,4,5,6,7,8,9] U U (fun z=>[(6,(vI (z.1.1:Int)))]) (fun z=>[(own z.1.2.1 z.1.2.2 3 1 ((cq l z.1.1).map iC)),(cd j 232 (gu.cells (gu.mk (bE.mk z.1.2.1 ((cq l z.1.1).length) z.1.2.2) (bE.mk none 0 0) (bE.mk none 0 0))))]) (fun _=>rfl) (fun _=>rfl) (fun z=>l.ab.length-z.1.1) ⟨(0,none,0),A⟩ (aU U) (aC [2,3,4,5,6,7,8,9,0,1]) ?_
 clear A
 rintro ⟨⟨b,a,c⟩,F⟩ J9 o
 try dsimp only at F
 try dsimp only
 refine ai fun _ K=>WS fun _ L=>rP 5 [] (mc 2 U mn) ?_
 refine RK L<|cw U (aO fun k=>?_) (aP fun k=>?_)
 ·refine WK K<|ai fun _ M=>av<|dj bX [5,6,8] [1] [0] [0,1,2,3,4,5,6,7] [0,1,2,3,4,5,6,7,8,9] U U U U U<|eS U (FA 0 U fq U)<|fS U (L1 (vS a ((cq l b).length) c) 9 U bQ U U)<|eS U (LW 2 U bQ U U)<|eS U (MV U) ?_
  have AJ:=lk AA g (i:=b) I
  refine eS U (CL (GA l kA kC az cA cC bA bC (b:Int) hin asm asm I) (bf [3,4,5,6]) U)<|eS U (FA 0 U fq U)<|dW U<|iB U fun T14 W=>fw (xs:=[.tmp 21]) (cs:=[(vI (dp l (b:Int).toNat))]) U cN lX U U U U (by simp [Value.cells]) U U fun AB=>aA (W _ _ (aC [1,2,3,4,5,6,7,8]) (aC [1,2,3,4,5,6,7,8,9,10]) ?_)
  refine bV U fun T16 X=>?_
  refine cG (es2:=(List.map iC (cq l (b+1)))) (m':=(cq l (b+1)).length) 9 U U U l0 U U sm (bj (es:=List.map iC [(dp l (b:Int).toNat)]) 0 U U (by simp [bW]) U) (gL _) (by simp only [dx]; omega) (by simp only [maxLen,dx]; omega) (by rw [se]; simp) sm U fun H AP=>?_
  try dsimp only
  refine aA (X _ _ (aC [1,2,3,4,5,6,7,8]) ?_)
  refine bV U fun T19 Y=>Od (gu.cells (gu.mk (bE.mk H ((cq l (b+1)).length) AP) (bE.mk none 0 0) (bE.mk none 0 0))) U FW U U<|aA (Y _ _ (aC [1,2,3,4,5,6,7,8]) ?_)
  refine eU U<|aG<|KK M<|ak<|rP 3 [] mn ?_
  refine aA ?_
  have e:(vI (((b+1):Nat):Int))=(vI ((b:Int)+1)):=by exact cI I
  refine aS (o ⟨((b+1),H,AP),(by first|omega|(simp only []; omega))⟩ _ _ _ U os (cE 4<|aV U e<|cS.nil _) (aC [1,2,3,4,5,6,7,8,9,10]))
 refine bx<|ae<|ae<|ax<|KK t<|ai fun _ N=>WS fun _ O=>?_
 rw [show cq l b=(cq l l.ab.length) from by rw [show b=l.ab.length by omega]]
 refine rP 1 [] mn ?_
 refine RK O<|av<|fT 47 2<|fT 4 1 ?_
 have A:(0≤r.ag.length):=by exact Nat.zero_le _
 refine bI (ι:={z:Nat×(OA)×Nat×(OA)×Nat // (z.1≤r.ag.length)}) [2,3,4,5] [2,3,4,5,6,7,8,9,10] U U (fun z=>[(7,(vI (z.1.1:Int)))]) (fun z=>[(own z.1.2.2.2.1 z.1.2.2.2.2 4 1 ((eh l r z.1.1).map og)),(own z.1.2.1 z.1.2.2.1 47 2 ((dR l r z.1.1).map aa.cells)),(cd j 232 (gu.cells (gu.mk (bE.mk a ((cq l l.ab.length).length) c) (bE.mk z.1.2.1 ((dR l r z.1.1).length) z.1.2.2.1) (bE.mk z.1.2.2.2.1 ((eh l r z.1.1).length) z.1.2.2.2.2))))]) (fun _=>rfl) (fun _=>rfl) (fun z=>r.ag.length-z.1.1) ⟨(0,none,0,none,0),A⟩ (aU U) (aC [2,3,4,5,6,7,8,9,10,0,1,11]) ?_
 clear A
 rintro ⟨⟨i,ta,tc,sa,sc⟩,G⟩ J23 J
 try dsimp only at G
 try dsimp only
 refine ai fun _ P=>WS fun _ R=>rP 5 [] (mc 1 U mn) ?_
 refine RK R<|bH U (aP fun m=>?_) (aO fun m=>?_)
 ·refine bx<|ae<|ae<|ax<|KK N<|WS fun _ V=>?_
  rw [show dR l r i=(dR l r r.ag.length) from by rw [show i=r.ag.length by omega]]
  rw [show eh l r i=(eh l r r.ag.length) from by rw [show i=r.ag.length by omega]]
  refine rP 1 [] (mc 11 U mn) ?_
  refine fg U Nt U<|RK V<|an<|LX hQ (a,c,ta,tc,sa,sc) [8,10,9] [0] (mc 0 U mn) U U U U ?_
  trivial
 refine WK P<|ai fun _ S=>av<|ai fun _ T=>dj bX [10,11] [] [] [0,1,2,3,4,5,6,7,8,9,10,11] [] U U U U U<|eS U (LW 2 U bQ U U)<|eS U (FA 2 U fq U)<|eS U (L1 (vS sgA r.ag.length sgC) 1 U bQ U U)<|eS U (MV U) ?_
 obtain ⟨s,hs⟩:=aB r.ag i I
 have y:=br aD.cells hs
 refine eS U (IA i U (aq 7 U) vy dc I I)<|eS U (j0 i 0 (aD.cells s) U bQ (aq 7 U) y U dc U U) ?_
 have w:=(hr.sig i s hs).1
 refine eS U (CL (Ij l kA kC az cA cC bA bC s hin asm (by exact w)) (bf [3,4,5,6]) U)<|eS U (MV U)<|eS U (EX U)<|eS U (EX U)<|eS U (AG U)<|dW U<|bV U fun T29 Z=>AL U cR fun AC=>aA (Z _ _ (aC [1,2,3,4,5,6,7,8,9,10,11,12]) ?_)
 refine bV U fun T31 d=>fg U bS U<|aA (d _ _ (aC [1,2,3,4,5,6,7,8,9,10,11,12]) ?_)
 refine eU U<|KK T<|WS fun _ AO=>rP 3 [0,1] (mc 12 U (mc 0 U mn)) ?_
 refine fw (xs:=[.tmp 44]) (cs:=(aa.cells (cD l s))) U kB cR U U U U (by simp [Value.cells,aa.a_]) U U fun AD=>?_
 refine cG (es2:=(List.map aa.cells (dR l r (i+1)))) (m':=(dR l r (i+1)).length) 12 U U U Gv U U sm (bj (es:=List.map aa.cells [(cD l s)]) 0 U U (by simp [aa.a_]) U) (ij _) (by rw [pn I]; omega) (by rw [pn I]; simp only [maxLen]; omega) (by rw [A_ hs]; simp) sm U fun B C=>?_
 try dsimp only
 refine bp 1 U<|hO (vs:=[(vS B ((dR l r (i+1)).length) C)]) (cs':=(gu.cells (gu.mk (bE.mk a ((cq l l.ab.length).length) c) (bE.mk B ((dR l r (i+1)).length) C) (bE.mk sa ((eh l r i).length) sc)))) (C':=[_,_,_,_,_,_,_,_,_,_,_,_,_,(cd j 232 (gu.cells (gu.mk (bE.mk a ((cq l l.ab.length).length) c) (bE.mk B ((dR l r (i+1)).length) C) (bE.mk sa ((eh l r i).length) sc))))]) 13 U U U Ok U U U U U U U<|RK AO<|ak<|rP 3 [] (mc 13 U mn) ?_
 refine fw (xs:=[.tmp 50]) (cs:=[(vB (decide ((cD l s).Lo≤(cD l s).Hi)))]) U Jh PA U U U U (by simp [Value.cells]) U U fun AE=>?_
 refine cG (es2:=(List.map og (eh l r (i+1)))) (m':=(eh l r (i+1)).length) 12 U U U Nx U U sm (bj (es:=List.map og [(decide ((cD l s).Lo≤(cD l s).Hi))]) 0 U U (by simp [xB]) U) (D2 _) (by rw [rT I]; omega) (by rw [rT I]; simp only [maxLen]; omega) (by rw [z7 hs]; simp) sm U fun D E=>?_
 try dsimp only
 refine bp 1 U<|hO (vs:=[(vS D ((eh l r (i+1)).length) E)]) (cs':=(gu.cells (gu.mk (bE.mk a ((cq l l.ab.length).length) c) (bE.mk B ((dR l r (i+1)).length) C) (bE.mk D ((eh l r (i+1)).length) E)))) (C':=[_,_,_,_,_,_,_,_,_,_,_,_,_,_,(cd j 232 (gu.cells (gu.mk (bE.mk a ((cq l l.ab.length).length) c) (bE.mk B ((dR l r (i+1)).length) C) (bE.mk D ((eh l r (i+1)).length) E))))]) 14 U U U NL U U U U U U U<|aA<|aG<|KK S<|ak<|bp 2 U<|rP 1 [] mn ?_
 refine aA ?_
 have f:(vI (((i+1):Nat):Int))=(vI ((i:Int)+1)):=by exact cI I
 refine aS (J ⟨((i+1),B,C,D,E),(by first|omega|(simp only []; omega))⟩ _ _ _ U os (cE 4<|aV U f<|cS.nil _) (aC [3,4,5,6,7,8,9,10,11,12,13,14]))
theorem FQ (r:cf) (sgA:OA) (sgC:Nat) (l:aQ) (wA:OA) (wC:Nat) (tA:OA) (tC:Nat) (bA:OA) (bC:Nat) (rs:List Int) (rsA:OA) (rsC:Nat) (hle:cY l=0) (hr:er l r) (hn:rs.length≤l.ab.length) (hrs: ∀ x∈rs,0≤x→x<(r.ag.length:Int)):
 pH Tryz.prog 174 [(vA (dZ.cells (j1 r sgA sgC))),(vA (gu.cells (gu.mk (bE.mk wA ((cq l l.ab.length).length) wC) (bE.mk tA ((dR l r r.ag.length).length) tC) (bE.mk bA ((eh l r r.ag.length).length) bC)))),(vS rsA rs.length rsC)] [(rd sgA r.ag.length 2 (r.ag.map aD.cells)),(rd wA ((cq l l.ab.length).length) 1 ((cq l l.ab.length).map iC)),(rd tA ((dR l r r.ag.length).length) 2 ((dR l r r.ag.length).map aa.cells)),(rd bA ((eh l r r.ag.length).length) 1 ((eh l r r.ag.length).map og)),(rd rsA rs.length 1 (rs.map iC))] (fun (x:(OA)×Nat)=>(vS x.1 ((hU l r rs).length) x.2)) (fun (x:(OA)×Nat)=>True) (fun (x:(OA)×Nat)=>[(own x.1 x.2 3 1 ((hU l r rs).map iC))]):=by
 obtain ⟨J,D⟩:=fF hle
 have w:=D.head
 unfold fu at w
 have AH:=hr.len
 have AI:=hr.time
 have AA:=Bx (l:=l) (rs:=rs) ⟨I,I⟩ (fun b hb=>by have:=lk J D (i:=b) I; omega) hrs
 have AF:=dx (l:=l) (n:=l.ab.length)
 have AJ:=pn (l:=l) (Nat.le_refl r.ag.length)
 refine fm kr Tryz.func174 U U fun w0 Q hQ hN=>?_
 try dsimp only
 refine WS fun _ m=>eQ U fun b2=>eQ U fun b3=>bp 1 U<|RK m<|WS fun _ p=>rP 2 [] mn ?_
 refine uI (n:=rs.length) (es:=(List.map iC (List.replicate rs.length 0))) U U U l0 I I (by simp only [maxLen]; omega) (by rw [List.map_replicate]; rfl) U fun E=>?_
 try dsimp only
 refine bp 1 U<|RK p<|WS fun _ q=>eZ 3 [] (mc 2 U mn) U<|RK q<|ai fun _ t=>WS fun _ u=>rP 4 [] mn ?_
 refine RK u<|av ?_
 rw [show (own (some ⟨E,0,none⟩) rs.length 3 1 (List.map iC (List.replicate rs.length 0)))=(own (some ⟨E,0,none⟩) rs.length 3 1 ((iA l r rs rs.length).map iC)) from by rw [Dm]]
 have B:(rs.length≤rs.length):=by exact Nat.le_refl _
 have v:(vI ((iF l r rs rs.length).2))=(vI r.eX):=by rw [ru]
 refine bI (ι:={z:Nat // (z≤rs.length)}) [2,3,4,7] [1,2,3,4,5,6,7] U U (fun z=>[(8,(vI ((iF l r rs z.1).2))),(9,(vI ((z.1:Int)-1)))]) (fun z=>[(own (some ⟨E,0,none⟩) rs.length 3 1 ((iA l r rs z.1).map iC))]) (fun _=>rfl) (fun _=>rfl) (fun z=>z.1) ⟨rs.length,B⟩ (aV U v<|aU U) (aC [1,2,3,4,5,6,7,0]) ?_
 clear B
 rintro ⟨j,AB⟩ J10 F
 try dsimp only
 have AG:=CU (l:=l) (r:=r) (rs:=rs) (j:=j) I
 refine ai fun _ L=>WS fun _ M=>rP 2 [] mn ?_
 refine RK M<|bH U (aP fun g=>?_) (aO fun g=>?_)
 ·refine bx<|ae<|ae<|ax<|KK t<|WS fun _ R=>rP 1 [] mn ?_
  rw [show (Value.slice (some ⟨E,0,none⟩) rs.length rs.length)=(Value.slice (some ⟨E,0,none⟩) ((hU l r rs).length) rs.length) from by rw [show (hU l r rs).length=rs.length from ph _ _]]
  rw [show iA l r rs j=hU l r rs from by rw [show j=0 by omega]; exact Au]
  refine rP 1 [] mn ?_
  refine RK R<|an<|LX hQ ((some ⟨E,0,none⟩),rs.length) [7] [] mn U U U U ?_
  trivial
 refine WK L<|ai fun _ G=>av<|ai fun _ H=>WS fun _ N=>rP 2 [] mn ?_
 have AE:=AA (rs.length-j) j I
 obtain ⟨x,hx⟩:=aB rs (j-1) I
 have d:=br iC hx
 refine rS (IA (j-1) U (aq 6 U) cN dc I I)<|rS (fE (j-1) 0 (vI x) U bQ (aq 6 U) d U dc U)<|rP 1 [] mn ?_
 refine RK N<|bH U (aP fun A=>?_) (aO fun A=>?_)
 ·refine WK H<|WS fun _ P=>rP 3 [] mn ?_
  obtain ⟨AM,c⟩:=aB (iA l r rs j) (j-1) I
  have hx25m:=br iC c
  refine rS (IA (j-1) U (au (n:=rs.length) 7 U sq) cN dc I I) ?_
  have V:((iA l r rs j).set (j-1) ((iF l r rs j).2))=(iA l r rs (j-1)):=by (rw [← vQ I hx]; congr 1; unfold q8; (rw [if_neg A]; done))
  refine d_ (k:=(j-1)) (o:=0) (vs:=[(vI ((iF l r rs j).2))]) (es':=(List.map iC (iA l r rs (j-1)))) (C':=[_,_,_,_,_,_,_,(own (some ⟨E,0,none⟩) rs.length 3 1 (List.map iC (iA l r rs (j-1))))]) 7 U U U xN U U U U hx25m U dc (by exact (List.map_set (f:=iC) (l:=(iA l r rs j)) (i:=(j-1)) (a:=(iF l r rs j).2)).symm.trans (congrArg _ V)) U<|RK P<|ak<|rP 4 [] (mc 0 U mn) ?_
  obtain ⟨y,hy⟩:=aB (cq l l.ab.length) (j-1) I
  have K:=br iC hy
  refine rS (IA (j-1) U (aq 3 U) cN dc I I)<|rS (fE (j-1) 0 (vI y) U bQ (aq 3 U) K U dc U) ?_
  have C:=rI hy
  have AO:=lk J D (i:=j-1) I
  rw [← C] at AO
  refine bp 2 U<|aA<|aG<|KK G<|ak<|rP 3 [] mn ?_
  refine aA ?_
  have W:(vI ((iF l r rs (j-1)).2))=(vI (((iF l r rs j).2)-y)):=by exact cI (by rw [ny I hx]; simp only; unfold q8; rw [C]; (rw [if_neg A]; done))
  have X:(vI ((((j-1):Nat):Int)-1))=(vI (((j:Int)-1)-1)):=by exact cI I
  refine aS (F ⟨(j-1),(by first|omega|(simp only []; omega))⟩ _ _ _ U os (cE 4<|aV U W<|aV U X<|cS.nil _) (aC [0,1,2,3,4,5,6,7]))
 refine cU bX 12 kr<|dP 5 [] (mc 0 U mn) ?_
 refine dS (IA (j-1) U (aq 6 U) cN dc I I)<|dS (fE (j-1) 0 (vI x) U bQ (aq 6 U) d U dc U) ?_
 have AK:=hrs x (aI hx) A
 obtain ⟨z,hz⟩:=aB (dR l r r.ag.length) ((x).toNat) I
 have AD:=br aa.cells hz
 refine dS (IA ((x).toNat) U (aq 4 U) kB dc I I)<|dS (mF ((((x).toNat)*2)+1) U (aq 4 U) (Nat.mul_pos I dc) fq U) ?_
 obtain ⟨s,hs,e⟩:=FI hz
 have AC:=u0 l s
 rw [← e] at AC
 have Y:Hf l r x=z.Hi:=by rw [Ae hs,e]
 refine dS (fE ((x).toNat) 1 (vI z.Hi) U bQ (aq 4 U) AD U dc U)<|dS (MN U)<|jY 1 U<|cv<|RK H<|WS fun _ O=>rP 3 [] mn ?_
 obtain ⟨AL,Z⟩:=aB (iA l r rs j) (j-1) I
 have hx19m:=br iC Z
 refine rS (IA (j-1) U (au (n:=rs.length) 7 U sq) cN dc I I) ?_
 have S:((iA l r rs j).set (j-1) (min ((iF l r rs j).2) z.Hi))=(iA l r rs (j-1)):=by (rw [← vQ I hx]; congr 1; unfold q8; (rw [if_pos A,Y]; done))
 refine d_ (k:=(j-1)) (o:=0) (vs:=[(vI (min ((iF l r rs j).2) z.Hi))]) (es':=(List.map iC (iA l r rs (j-1)))) (C':=[_,_,_,_,_,_,_,(own (some ⟨E,0,none⟩) rs.length 3 1 (List.map iC (iA l r rs (j-1))))]) 7 U U U xN U U U U hx19m U dc (by exact (List.map_set (f:=iC) (l:=(iA l r rs j)) (i:=(j-1)) (a:=(min ((iF l r rs j).2) z.Hi))).symm.trans (congrArg _ S)) U<|RK O<|ak<|rP 4 [] (mc 0 U mn) ?_
 obtain ⟨y,hy⟩:=aB (cq l l.ab.length) (j-1) I
 have K:=br iC hy
 refine rS (IA (j-1) U (aq 3 U) cN dc I I)<|rS (fE (j-1) 0 (vI y) U bQ (aq 3 U) K U dc U) ?_
 have C:=rI hy
 have AO:=lk J D (i:=j-1) I
 rw [← C] at AO
 refine bp 2 U<|aA<|aG<|KK G<|ak<|rP 3 [] mn ?_
 refine aA ?_
 have T:(vI ((iF l r rs (j-1)).2))=(vI ((min ((iF l r rs j).2) z.Hi)-y)):=by exact cI (by rw [ny I hx]; simp only; unfold q8; rw [C]; (rw [if_pos A,Y]; done))
 have AN:(vI ((((j-1):Nat):Int)-1))=(vI (((j:Int)-1)-1)):=by exact cI I
 refine aS (F ⟨(j-1),(by first|omega|(simp only []; omega))⟩ _ _ _ U os (cE 4<|aV U T<|aV U AN<|cS.nil _) (aC [0,1,2,3,4,5,6,7]))
end
section
open Go.RowKit
theorem CQ (l:aQ) (kA:OA) (kC:Nat) (az:List RA) (cA:OA) (cC:Nat) (bA:OA) (bC:Nat) (r:cf) (sgA:OA) (sgC:Nat) (vwA:OA) (vwC:Nat) (vtA:OA) (vtC:Nat) (vbA:OA) (vbC k:Nat) (rs:List Int) (rA:OA) (rC:Nat) (fs:List Int) (fA:OA) (fC:Nat) (hin:dF l az) (hle:cY l=0) (hr:er l r) (hk:rs.length+k=l.ab.length) (hfl:fs.length=rs.length) (hst:r.Start≤e9 r.Start fs∧e9 r.Start fs≤r.eX) (hrs: ∀ x∈rs,-1≤x∧x<(r.ag.length:Int)) (hrec: ∀ (k2:Nat) (rs2:List Int) (rA2:OA) (rC2:Nat) (fs2:List Int) (fA2:OA) (fC2:Nat),(k2<k)→(rs2.length+k2=l.ab.length)→(fs2.length=rs2.length)→(r.Start≤e9 r.Start fs2∧e9 r.Start fs2≤r.eX)→(∀ x∈rs2,-1≤x∧x<(r.ag.length:Int))→zS Tryz.prog 167 [(vA (cb.cells (jI l kA kC cA cC bA bC))),(vA (dZ.cells (j1 r sgA sgC))),(vA (gu.cells (gu.mk (bE.mk vwA ((cq l l.ab.length).length) vwC) (bE.mk vtA ((dR l r r.ag.length).length) vtC) (bE.mk vbA ((eh l r r.ag.length).length) vbC)))),(vS rA2 rs2.length rC2),(vS fA2 fs2.length fC2)] [(rd kA l.aH.length 9 (l.aH.map aj.cells)),(rd cA l.ah.length 2 (List.zipWith al.cells l.ah az)),(eg (aZ al.fB l.ah az)),(rd bA l.ab.length 4 (l.ab.map bL.cells)),(rd sgA r.ag.length 2 (r.ag.map aD.cells)),(rd vwA ((cq l l.ab.length).length) 1 ((cq l l.ab.length).map iC)),(rd vtA ((dR l r r.ag.length).length) 2 ((dR l r r.ag.length).map aa.cells)),(rd vbA ((eh l r r.ag.length).length) 1 ((eh l r r.ag.length).map og))] (bM [own rA2 rC2 3 1 (rs2.map iC),own fA2 fC2 3 1 (fs2.map iC)]) (fun (x:(OA)×Nat×(List ji))=>(vS x.1 ((gi l r k2 rs2 fs2).length) x.2.1)) (fun (x:(OA)×Nat×(List ji))=>x.2.2.length=(gi l r k2 rs2 fs2).length) (fun (x:(OA)×Nat×(List ji))=>(bM (aZ cL.owns (gi l r k2 rs2 fs2) x.2.2++[own x.1 x.2.1 235 3 (List.zipWith cL.cells (gi l r k2 rs2 fs2) x.2.2)])))):
 zS Tryz.prog 167 [(vA (cb.cells (jI l kA kC cA cC bA bC))),(vA (dZ.cells (j1 r sgA sgC))),(vA (gu.cells (gu.mk (bE.mk vwA ((cq l l.ab.length).length) vwC) (bE.mk vtA ((dR l r r.ag.length).length) vtC) (bE.mk vbA ((eh l r r.ag.length).length) vbC)))),(vS rA rs.length rC),(vS fA fs.length fC)] [(rd kA l.aH.length 9 (l.aH.map aj.cells)),(rd cA l.ah.length 2 (List.zipWith al.cells l.ah az)),(eg (aZ al.fB l.ah az)),(rd bA l.ab.length 4 (l.ab.map bL.cells)),(rd sgA r.ag.length 2 (r.ag.map aD.cells)),(rd vwA ((cq l l.ab.length).length) 1 ((cq l l.ab.length).map iC)),(rd vtA ((dR l r r.ag.length).length) 2 ((dR l r r.ag.length).map aa.cells)),(rd vbA ((eh l r r.ag.length).length) 1 ((eh l r r.ag.length).map og))] (bM [own rA rC 3 1 (rs.map iC),own fA fC 3 1 (fs.map iC)]) (fun (x:(OA)×Nat×(List ji))=>(vS x.1 ((gi l r k rs fs).length) x.2.1)) (fun (x:(OA)×Nat×(List ji))=>x.2.2.length=(gi l r k rs fs).length) (fun (x:(OA)×Nat×(List ji))=>(bM (aZ cL.owns (gi l r k rs fs) x.2.2++[own x.1 x.2.1 235 3 (List.zipWith cL.cells (gi l r k rs fs) x.2.2)]))):=by
 have Bm:=hin.pO
 have Be:=hin.pJ
 have Bb:=hin.mE
 have Bc:=hin.pQ
 obtain ⟨BJ,Al⟩:=fF hle
 have BC:=Al.head
 unfold fu at BC
 have AE:=hr.len
 have Bj:=hr.time
 have Bi:=dx (l:=l) (n:=l.ab.length)
 have Bn:=pn (l:=l) (Nat.le_refl r.ag.length)
 have Bl:=rT (l:=l) (Nat.le_refl r.ag.length)
 have Bo:=qM rs
 refine lS kr Tryz.func167 U U fun w0 Q hQ hN=>?_
 try dsimp only
 refine zC 0 U U fun wz Sz hz=>?_
 try dsimp only
 refine WS fun _ A6=>eQ U fun b2=>eQ U fun b3=>eQ U fun b4=>bp 1 U<|RK A6<|WS fun _ A7=>bp 1 U<|RK A7<|WS fun _ A8=>bp 4 U<|RK A8<|ai fun _ A9=>WS fun _ A_=>rP 1 [] mn ?_
 refine RK A_<|av ?_
 have C:(0≤rs.length):=by exact Nat.zero_le _
 have BA:(vI ((cH (rs.take 0)).right))=(vI 0):=by rfl
 refine bI (ι:={z:Nat // (z≤rs.length)}) [3,4,5,6,7,11,12] [0,1,2,3,4,5,6,7,8,9,10,11] U U (fun z=>[(13,(vI ((cH (rs.take z.1)).right))),(14,(vI (z.1:Int)))]) (fun z=>[]) (fun _=>rfl) (fun _=>rfl) (fun z=>rs.length-z.1) ⟨0,C⟩ (aV U BA<|aU U) (aC [0,1,2,3,4,5,6,7,8,9,10,11]) ?_
 clear C
 rintro ⟨i,BE⟩ J10 g
 try dsimp only
 have BH:=qM (rs.take i)
 rw [List.length_take] at BH
 refine ai fun _ AI=>WS fun _ AJ=>rP 3 [] mn ?_
 refine RK AJ<|cw U (aO fun A0=>?_) (aP fun A0=>?_)
 ·refine WK AI<|ai fun _ m=>av<|WS fun _ AK=>rP 2 [] mn ?_
  obtain ⟨x,hx⟩:=aB rs i I
  have BK:=br iC hx
  refine rS (IA i U (show fR _ (rd rA rs.length 1 (rs.map iC)).holds from (nT (c:=rC) (e:=3) 3 U sm sm)) cN dc I I)<|rS (fE i 0 (vI x) U bQ (show fR _ (rd rA rs.length 1 (rs.map iC)).holds from (nT (c:=rC) (e:=3) 3 U sm sm)) BK U dc U)<|rP 1 [] mn ?_
  refine RK AK<|bH U (aP fun AC=>?_) (aO fun AC=>?_)
  ·refine cy<|aG<|KK m<|ak<|rP 3 [] mn ?_
   refine aA ?_
   have Aa:(vI ((cH (rs.take (i+1))).right))=(vI ((cH (rs.take i)).right)):=by exact cI (by rw [qW hx]; (rw [if_neg AC]; exact Int.add_zero _))
   have Ab:(vI (((i+1):Nat):Int))=(vI ((i:Int)+1)):=by exact cI I
   refine aS (g ⟨(i+1),(by first|omega|(simp only []; omega))⟩ _ _ _ U os (cE 7<|aV U Aa<|aV U Ab<|cS.nil _) (aC [0,1,2,3,4,5,6,7,8,9,10,11]))
  refine ak<|bp 3 U<|aA<|aG<|KK m<|ak<|rP 3 [] mn ?_
  refine aA ?_
  have AY:(vI ((cH (rs.take (i+1))).right))=(vI (((cH (rs.take i)).right)+1)):=by exact cI (by rw [qW hx]; (rw [if_pos AC]; done))
  have AZ:(vI (((i+1):Nat):Int))=(vI ((i:Int)+1)):=by exact cI I
  refine aS (g ⟨(i+1),(by first|omega|(simp only []; omega))⟩ _ _ _ U os (cE 7<|aV U AY<|aV U AZ<|cS.nil _) (aC [0,1,2,3,4,5,6,7,8,9,10,11]))
 refine bx<|ae<|ae<|ax<|KK A9<|ai fun _ AL=>ai fun _ AM=>?_
 rw [show rs.take i=rs from List.take_of_length_le I]
 refine ak<|rP 6 [] (mc 2 U mn) ?_
 refine RK AM<|cw U (aO fun A2=>?_) (aP fun A2=>?_)
 ·refine WS fun _ AN=>ik 235 3<|rP 1 [] mn ?_
  refine RK AN<|an<|wX (C1:=[(own none 0 235 3 [])]) hz [0] U U U<|JI (W:=gi l r k rs fs) ?_
  rw [show (own none 0 235 3 [])=(own none 0 235 3 (List.zipWith cL.cells (gi l r k rs fs) [])) from by rw [lG I]; rfl]
  refine LM hQ (none,0,[]) 0 [] mn U (by show List.all _ _=true; rw [List.all_append,nK]; rfl) U ?_ ?_
  ·exact (by rw [lG I]; rfl)
  ·rw [lG I]; rfl
 refine WK AL ?_
 refine mu (ι:={z:(OA)×Nat×(List ji)×(List ao) // (ue l r rs fs (rA,rC) (fA,fC) z.2.2.1 z.2.2.2)}) [3,4,5,6,7,12] [0,1,2,3,4,5,6,7,8,9,10,11] U U (fun z=>[(11,(vS z.1.1 ((fO l r rs fs).length) z.1.2.1))]) (fun z=>[(own z.1.1 z.1.2.1 235 3 (List.zipWith cL.cells (fO l r rs fs) z.1.2.2.1)),(bM z.1.2.2.2)]) (fun _=>rfl) (fun _=>rfl) ?_ fun K23 o=>?_
 ·rintro ⟨⟨oA,oC,E,LA⟩,H⟩
  try dsimp only at H
  try dsimp only
  have D:=H
  have BD:=D.len
  have Bf:=uq (l:=l) (r:=r) (rs:=rs) (fs:=fs)
  refine ai fun _ V=>WS fun _ AO=>rP 4 [] (mc 2 U mn) ?_
  have Bp:=rZ (l:=l) (r:=r) (rs:=rs) (fs:=fs) AE (k:=k) I
  refine rP 1 [] mn ?_
  refine RK AO<|cw U (aO fun A3=>?_) (aP fun A3=>?_)
  ·refine WS fun _ AP=>bp 1 U<|rP 1 [] mn ?_
   refine RK AP<|an ?_
   obtain rfl:k=0:=by omega
   refine Bd ?_
   try dsimp only
   refine wX (C1:=[(own oA oC 235 3 (List.zipWith cL.cells (fO l r rs fs) E)),(bM LA),(bM (aZ cL.owns [] []))]) hz [13,14,0] U U (by simp only [iD,List.all_nil,Bool.and_true,cx]; exact ⟨U,D.wr,nK _ _⟩) ?_
   refine FF (ra:=(rA,rC)) (fa:=(fA,fC)) (A':=(own oA oC 235 3 (List.zipWith cL.cells (gi l r 0 rs fs) E))) D ((List.append_nil _).trans (lu I).symm) (List.append_nil _) (by rw [lu I]) ?_
   refine LM hQ (oA,oC,E) 0 [] mn U (by show List.all _ _=true; rw [List.all_append,nK]; rfl) U ?_ ?_
   ·exact (by (rw [lu I]; rfl))
   ·rw [lu I]; exact BD
  refine WK V<|WS fun _ AQ=>?_
  obtain ⟨B,rfl⟩: ∃ B,k=B+1:=⟨k-1,I⟩
  refine rP 3 [] (mc 1 U mn) ?_
  refine RK AQ ?_
  refine mu (ι:=Unit) [3,4,5,6,7,11,12] [0,1,2,3,4,5,6,7,8,9,10,11,12,13] U U (fun z=>[(15,(vI (e9 r.Start fs)))]) (fun z=>[]) (fun _=>rfl) (fun _=>rfl) ?_ fun K28 p=>?_
  ·intro _
   try dsimp only
   refine WS fun _ Z=>rP 4 [] (mc 0 U mn) ?_
   obtain ⟨yls,Ao⟩:=aB (cq l l.ab.length) (rs.length) I
   have Ap:=br iC Ao
   refine rS (IA rs.length U (aq 9 U) cN dc I I)<|rS (fE rs.length 0 (vI yls) U bQ (aq 9 U) Ap U dc U) ?_
   have Bh:=lk BJ Al (i:=rs.length) I
   rw [rI Ao]
   refine bp 2 U<|RK Z<|ai fun _ AR=>WS fun _ AS=>rP 1 [] mn ?_
   refine RK AS<|av ?_
   rw [show (fO l r rs fs)=((fO l r rs fs)++(gl l r B rs fs 0)) from (List.append_nil _).symm]
   rw [show E=E++[] from (List.append_nil _).symm]
   refine nU ?_
   try dsimp only
   have C:(0≤r.ag.length+1)∧(([]:List ji).length=(gl l r B rs fs 0).length):=by exact ⟨Nat.zero_le _,rfl⟩
   have d:(vI ((0:Int)-1))=(vI (-1)):=by exact cI I
   refine bI (ι:={z:Nat×(OA)×Nat×(List ji) // (z.1≤r.ag.length+1)∧(z.2.2.2.length=(gl l r B rs fs z.1).length)}) [3,4,5,6,7,12,15] [1,2,3,4,5,6,7,8,9,10,11,12,14] U U (fun z=>[(11,(vS z.1.2.1 (((fO l r rs fs)++(gl l r B rs fs z.1.1)).length) z.1.2.2.1)),(16,(vI ((z.1.1:Int)-1)))]) (fun z=>[(bM (aZ cL.owns (gl l r B rs fs z.1.1) z.1.2.2.2)),(own z.1.2.1 z.1.2.2.1 235 3 (List.zipWith cL.cells ((fO l r rs fs)++(gl l r B rs fs z.1.1)) (E++z.1.2.2.2)))]) (fun _=>rfl) (fun _=>rfl) (fun z=>r.ag.length+1-z.1.1) ⟨(0,oA,oC,([]:List ji)),C⟩ (cS.cons U<|aV U d<|cS.nil _) (aC [1,2,3,4,5,6,7,8,9,10,11,12,14,0,13]) ?_
   clear C
   rintro ⟨⟨j,M,N,azW⟩,⟨f,A⟩⟩ J33 O
   try dsimp only at f A
   try dsimp only
   have BI:=EZ (l:=l) (r:=r) (k:=B) (j:=j) (rs:=rs) (fs:=fs) AE I I
   refine ai fun _ AT=>WS fun _ AU=>rP 5 [] (mc 1 U mn) ?_
   refine RK AU<|bH U (aP fun A1=>?_) (aO fun A1=>?_)
   ·refine bx<|ae<|ae<|ax<|KK AR<|WS fun _ AX=>bp 1 U<|rP 1 [] mn ?_
    refine RK AX<|an ?_
    refine wX (C1:=[(own M N 235 3 (List.zipWith cL.cells ((fO l r rs fs)++(gl l r B rs fs j)) (E++azW))),(bM LA),(bM (aZ cL.owns (gl l r B rs fs j) azW))]) hz [14,12,13] U U (by simp only [iD,List.all_nil,Bool.and_true,cx]; exact ⟨U,D.wr,nK _ _⟩) ?_
    refine FF (ra:=(rA,rC)) (fa:=(fA,fC)) (W:=gi l r (B+1) rs fs) (A':=(own M N 235 3 (List.zipWith cL.cells (gi l r (B+1) rs fs) (E++azW)))) D (by rw [lO I,pc,show r.ag.length+1=j by omega]) U (by rw [lO I,pc,show r.ag.length+1=j by omega]) ?_
    refine LM hQ (M,N,(E++azW)) 0 [] mn U (by show List.all _ _=true; rw [List.all_append,nK]; rfl) U ?_ ?_
    ·exact (by (rw [lO I,pc,show r.ag.length+1=j by omega]; rfl))
    ·rw [lO I,pc,show r.ag.length+1=j by omega]; simp only [List.length_append]; omega
   refine WK AT<|ai fun _ P=>av<|ai fun _ AV=>cU bX 5 kr<|dP 5 [] (mc 1 U mn) ?_
   refine cv<|RK AV ?_
   refine mu (ι:={z:Int×Int // ((z.1≤z.2→mT l r rs.length (e9 r.Start fs+dp l rs.length) ((j:Int)-1)=some z.1)∧(¬ z.1≤z.2→mT l r rs.length (e9 r.Start fs+dp l rs.length) ((j:Int)-1)=none))∧(r.Start≤z.1∧z.2≤r.eX)}) [3,4,5,6,7,11,12,15,16] [0,1,2,3,4,5,6,7,8,9,10,11,12,13,14] U U (fun z=>[(17,(vI z.1.1)),(18,(vI z.1.2))]) (fun z=>[]) (fun _=>rfl) (fun _=>rfl) ?_ fun K39 u=>?_
   ·rintro ⟨⟨tt,ee⟩,⟨BP,J⟩⟩
    try dsimp only at BP J
    try dsimp only
    have Ak:=BP
    have Bg:=J
    refine WS fun _ a=>rP 3 [] mn ?_
    refine RK a<|bH U (aP fun BO=>?_) (aO fun BO=>?_)
    ·refine cy<|aG<|KK P<|ak<|rP 3 [] mn ?_
     refine aA ?_
     have L:(gl l r B rs fs (j+1))=(gl l r B rs fs j):=by exact oy (Ak.2 BO)
     rw [← L]
     have Ai:(vI ((((j+1):Nat):Int)-1))=(vI (((j:Int)-1)+1)):=by exact cI I
     refine aS (O ⟨((j+1),M,N,azW),⟨I,by dsimp only; (rw [L]; exact A)⟩⟩ _ _ _ U os (cE 8<|aV U Ai<|cS.nil _) (aC [0,1,2,3,4,5,6,7,8,9,10,11,12,13,14]))
    refine EN (L':=[(3,(vS rA rs.length rC)),(4,(vS fA fs.length fC)),(5,(vP b2)),(6,(vP b3)),(7,(vP b4)),(11,(vS M (((fO l r rs fs)++(gl l r B rs fs j)).length) N)),(12,(vI (rs.length:Int))),(15,(vI ((e9 r.Start fs)+(dp l rs.length)))),(16,(vI ((j:Int)-1))),(17,(vI tt)),(18,(vI ee)),(123,(vI tt)),(124,(vI ee)),(125,(vB (decide (tt≤ee))))]) rfl<|kS bX [0,1,2,3,5,7,11,13] [4,6,8,9,10,12,14,15,16,17,18] [false,false,false,false,false,false,false,false] [] [(cd b4 232 (gu.cells (gu.mk (bE.mk vwA ((cq l l.ab.length).length) vwC) (bE.mk vtA ((dR l r r.ag.length).length) vtC) (bE.mk vbA ((eh l r r.ag.length).length) vbC)))),(cd b3 74 (dZ.cells (j1 r sgA sgC))),(cd b2 28 (cb.cells (jI l kA kC cA cC bA bC))),(bM [own rA rC 3 1 (rs.map iC),own fA fC 3 1 (fs.map iC)]).ro,(rd kA l.aH.length 9 (l.aH.map aj.cells)).ro,(rd cA l.ah.length 2 (List.zipWith al.cells l.ah az)).ro,(eg (aZ al.fB l.ah az)).ro,(rd bA l.ab.length 4 (l.ab.map bL.cells)).ro,(rd sgA r.ag.length 2 (r.ag.map aD.cells)).ro,(rd vwA ((cq l l.ab.length).length) 1 ((cq l l.ab.length).map iC)).ro,(rd vtA ((dR l r r.ag.length).length) 2 ((dR l r r.ag.length).map aa.cells)).ro,(rd vbA ((eh l r r.ag.length).length) 1 ((eh l r r.ag.length).map og)).ro,(bM LA),(bM (aZ cL.owns (gl l r B rs fs j) azW))] [] kr (aC [0,1,2,3,4,5,6,7,8,9,10,11,12,13]) (aC [])<|eS rfl (MV rfl)<|eS rfl (LW 2 rfl bQ rfl rfl)<|eS rfl (LW 1 rfl bQ rfl rfl)<|eS rfl (LW 0 rfl bQ rfl rfl)<|eS rfl (MV rfl)<|eS rfl (MV rfl)<|eS rfl (MV rfl)<|eS rfl (MV rfl)<|dW rfl<|xI [.take 4,.op 6,.take 8,.op 9,.take 10,.op 12,.take 14,.op 15,.op 16,.op 17,.op 18] [(133,(vI ((j:Int)-1))),(139,(vI tt))] (fun i=>match i with |4=>130|8=>134|10=>136|14=>140|_=>0) (fun i b=>match i with |4=> .slice (some ⟨b,0,none⟩) 0 0|8=> .slice (some ⟨b,0,none⟩) 1 1|10=> .slice (some ⟨b,0,none⟩) 0 0|14=> .slice (some ⟨b,0,none⟩) 1 1|_=>undef) (fun i b=>match i with |4=>cd b 3 []|8=>cd b 3 [(vI ((j:Int)-1))]|10=>cd b 3 []|14=>cd b 3 [(vI tt)]|_=>cd b 0 []) rfl rfl rfl kr rfl rfl (aC [0,1,2,3,4,5,6,7,8,9,10,11,12,13]) (mz (xb rfl cN rfl rfl (fun _=>rfl) fun _=>rfl)<|lz<|mz (BG (xs:=[.tmp 133]) (cs:=[(vI ((j:Int)-1))]) rfl cN lX rfl rfl rfl rfl (by simp [Value.cells]) rfl rfl rfl (fun _=>rfl) fun _=>rfl)<|lz<|mz (xb rfl cN rfl rfl (fun _=>rfl) fun _=>rfl)<|lz<|mz (BG (xs:=[.tmp 139]) (cs:=[(vI tt)]) rfl cN lX rfl rfl rfl rfl (by simp [Value.cells]) rfl rfl rfl (fun _=>rfl) fun _=>rfl)<|lz<|lz<|lz<|lz<|z4) ?_
    intro Av
    try dsimp only
    refine lQ U fun Y X K hT=>fp (es:=(List.map iC [])) (C':=[own (some ⟨Av,0,none⟩) 0 3 1 (List.map iC []),_,_,_,_,_,_,_,_,_,_,_,_,_,_,_]++X) 0 U sm U (by simp [maxLen]) U ?_
    refine cG (es2:=(List.map iC rs)) (m':=rs.length) 0 U U U l0 U U sm (show fR _ (rd rA rs.length 1 (rs.map iC)).holds from (nT (c:=rC) (e:=3) 4 U sm sm)) (gL _) (by first|omega|(simp; done)|(simp; omega)) (by (simp only [maxLen]; omega)) sm sm U fun BU BZ=>?_
    try dsimp only
    refine jD hT 24 16 U U (fun w hs=>St.jt [1,2,3,4,5,6,7,8,9,10,11,12,13,14] U U hs) U U ?_
    try dsimp only [List.take]
    intro BX
    try dsimp only
    refine lQ U fun Y X K hT=>?_
    refine cG (es2:=(List.map iC (rs++[(j:Int)-1]))) (m':=(rs++[(j:Int)-1]).length) 1 U U U l0 U U sm (bj (es:=List.map iC [((j:Int)-1)]) 0 U U (by simp [bW]) U) (gL _) (by first|omega|(simp; done)|(simp; omega)) (by (simp only [maxLen]; omega)) sm sm U fun As Ax=>?_
    try dsimp only
    refine jD hT 26 17 U U (fun w hs=>St.jt [2,3,4,5,6,7,8,9,10,11,12,13,14,15] U U hs) U U ?_
    try dsimp only [List.take]
    intro Aw
    try dsimp only
    refine lQ U fun Y X K hT=>fp (es:=(List.map iC [])) (C':=[own (some ⟨Aw,0,none⟩) 0 3 1 (List.map iC []),_,_,_,_,_,_,_,_,_,_,_,_,_,_,_,_,_]++X) 0 U sm U (by simp [maxLen]) U ?_
    refine cG (es2:=(List.map iC fs)) (m':=fs.length) 0 U U U l0 U U sm (show fR _ (rd fA fs.length 1 (fs.map iC)).holds from (nT (c:=fC) (e:=3) 6 U sm sm)) (gL _) (by first|omega|(simp; done)|(simp; omega)) (by (simp only [maxLen]; omega)) sm sm U fun BV Ba=>?_
    try dsimp only
    refine jD hT 28 18 U U (fun w hs=>St.jt [3,4,5,6,7,8,9,10,11,12,13,14,15,16] U U hs) U U ?_
    try dsimp only [List.take]
    intro BY
    try dsimp only
    refine lQ U fun Y X K hT=>?_
    refine cG (es2:=(List.map iC (fs++[tt]))) (m':=(fs++[tt]).length) 1 U U U l0 U U sm (bj (es:=List.map iC [tt]) 0 U U (by simp [bW]) U) (gL _) (by first|omega|(simp; done)|(simp; omega)) (by (simp only [maxLen]; omega)) sm sm U fun At Ay=>?_
    try dsimp only
    refine jD hT 30 19 U U (fun w hs=>St.jt [4,5,6,7,8,9,10,11,12,13,14,15,16,17] U U hs) U U ?_
    try dsimp only [List.take]
    refine lQ U fun Y X K hT=>?_
    have R:=Ak.1 BO
    refine z8<|o6 4 U ?_
    try dsimp only [List.eraseIdx]
    refine xn U<|o6 2 U ?_
    try dsimp only [List.eraseIdx]
    refine xn U ?_
    try dsimp only
    refine js 0 rfl rfl rfl rfl (hrec B (rs++[(j:Int)-1]) As Ax (fs++[tt]) At Ay I (by simp only [List.length_append,List.length_singleton]; omega) (by simp only [List.length_append,List.length_singleton]; omega) (by rw [k8]; omega) (by intro x hx; rcases List.mem_append.1 hx with hx|hx; exact hrs x hx; rw [List.mem_singleton.1 hx]; omega)) rfl (du 7 rfl rfl (dH (bP _)) (du 8 rfl rfl (dH (bP _)) (du 9 rfl rfl (dH (bP _)) (du 10 rfl rfl (dH (bP _)) (du 11 rfl rfl (dH (bP _)) (du 12 rfl rfl (dH (bP _)) (du 13 rfl rfl (dH (bP _)) (du 14 rfl rfl (dH (bP _)) kE)))))))) rfl (fun BN AF=>?_)
    obtain ⟨BS,BT,y⟩:=BN
    try dsimp only
    dsimp only at AF
    refine jD hT 31 18 U U (fun w hs=>St.jt [3,4,5,6,7,8,9,10,11,12,13,14,15,16] U U hs) U U ?_
    try dsimp only [List.take]
    refine lQ U fun Y X K hT=>o6 0 U ?_
    try dsimp only [List.eraseIdx]
    refine vK ?_
    have Bq:=rZ (l:=l) (r:=r) (k:=B) (rs:=(rs++[(j:Int)-1])) (fs:=(fs++[tt])) AE I
    refine cG (es2:=(List.zipWith cL.cells ((fO l r rs fs)++(gl l r B rs fs (j+1))) (E++(azW++y)))) (m':=((fO l r rs fs)++(gl l r B rs fs (j+1))).length) 18 U U U Jr U U (qR (by simp only [List.length_append]; omega)).symm (au (n:=(gi l r B (rs++[(j:Int)-1]) (fs++[tt])).length) 0 U (qR AF)) (zr _ _) (by simp only [List.length_append]; omega) (by simp only [List.length_append,maxLen]; omega) (by rw [ld R,← List.append_assoc,← List.append_assoc]; exact (Fz (by simp only [List.length_append]; omega)).symm) (qR (by rw [ld R]; simp only [List.length_append]; omega)) U fun Au Az=>?_
    try dsimp only
    refine jD hT 32 19 U U (fun w hs=>St.jt [4,5,6,7,8,9,10,11,12,13,14,15,16,17] U U hs) U U ?_
    try dsimp only [List.take]
    refine lQ U fun Y X K hT=>rS (AG U)<|jD hT 33 19 U U (fun w hs=>St.jt [4,5,6,7,8,9,10,11,12,13,14,15,16,17] U U hs) U U ?_
    try dsimp only [List.take]
    refine aG<|KK P<|ak<|rP 3 [] mn ?_
    refine aA<|B_ 1 U ?_
    try dsimp only [List.eraseIdx]
    refine B_ 17 U ?_
    try dsimp only [List.eraseIdx]
    refine Gb A ?_
    rw [← ld R]
    try dsimp only
    have Ah:(vI ((((j+1):Nat):Int)-1))=(vI (((j:Int)-1)+1)):=by exact cI I
    refine aS (O ⟨((j+1),Au,Az,(azW++y)),⟨I,by dsimp only; (rw [ld R,List.length_append,List.length_append,A,AF])⟩⟩ _ _ _ U os (cE 8<|aV U Ah<|cS.nil _) (aC [4,5,6,7,8,9,10,11,12,13,14,15,16,0,17]))
   refine WS fun _ a=>rP 2 [] mn ?_
   refine RK a<|bH U (aP fun A5=>?_) (aO fun A5=>?_)
   ·refine cy ?_
    refine aS (iy (aU U) (aC [0,1,2,3,4,5,6,7,8,9,10,11,12,13,14]) (u ⟨(((e9 r.Start fs)+(dp l rs.length)),r.eX),⟨by exact F0 I,I⟩⟩))
   refine ai fun _ AW=>WS fun _ v=>rP 3 [] (mc 1 U mn) ?_
   obtain ⟨s,hs⟩:=aB r.ag ((((j:Int)-1)).toNat) I
   have BF:=br aD.cells hs
   refine rS (IA ((((j:Int)-1)).toNat) U (aq 8 U) vy dc I I)<|rS (mF (((((j:Int)-1)).toNat)*2) U (aq 8 U) (Nat.mul_pos I dc) fq U)<|rS (fE ((((j:Int)-1)).toNat) 0 (vI s.e7) U bQ (aq 8 U) BF U dc U) ?_
   have Bk:=(hr.sig _ s hs).1
   refine rP 3 [] mn ?_
   refine cr (t:=99) U (aW fun AH=>?_) (aX fun AH=>?_)
   ·refine bp 7 U<|RK v<|aJ U<|bx<|ae<|ae<|ax<|KK P<|ak<|rP 3 [] mn ?_
    refine aA ?_
    have L:(gl l r B rs fs (j+1))=(gl l r B rs fs j):=by exact oy (vn I hs (fun q=>AH I))
    rw [← L]
    have Af:(vI ((((j+1):Nat):Int)-1))=(vI (((j:Int)-1)+1)):=by exact cI I
    refine aS (O ⟨((j+1),M,N,azW),⟨I,by dsimp only; (rw [L]; exact A)⟩⟩ _ _ _ U os (cE 8<|aV U Af<|cS.nil _) (aC [0,1,2,3,4,5,6,7,8,9,10,11,12,13,14]))
   refine rP 3 [] (mc 0 U mn) ?_
   obtain ⟨bs,AD⟩:=aB (eh l r r.ag.length) ((((j:Int)-1)).toNat) I
   have Aj:=br og AD
   refine rS (IA ((((j:Int)-1)).toNat) U (aq 11 U) Jh dc I I)<|rS (fE ((((j:Int)-1)).toNat) 0 (vB bs) U bQ (aq 11 U) Aj U dc U)<|rP 2 [] mn ?_
   refine RK v<|cw U (fun F=>?_) (fun F=>?_)
   ·rw [Bool.not_eq_true'] at F
    refine bx<|ae<|ae<|ax<|KK P<|ak<|rP 3 [] mn ?_
    refine aA ?_
    have L:(gl l r B rs fs (j+1))=(gl l r B rs fs j):=by exact oy (vn I hs (fun q=>by rw [(yQ hs AD).2 q.2] at F; cases F))
    rw [← L]
    have Ag:(vI ((((j+1):Nat):Int)-1))=(vI (((j:Int)-1)+1)):=by exact cI I
    refine aS (O ⟨((j+1),M,N,azW),⟨I,by dsimp only; (rw [L]; exact A)⟩⟩ _ _ _ U os (cE 8<|aV U Ag<|cS.nil _) (aC [0,1,2,3,4,5,6,7,8,9,10,11,12,13,14]))
   rw [Bool.not_eq_false'] at F
   refine WK AW<|cU bX 18 kr<|dP 4 [] (mc 0 U mn) ?_
   obtain ⟨z,hz⟩:=aB (dR l r r.ag.length) ((((j:Int)-1)).toNat) I
   have Aq:=br aa.cells hz
   refine dS (IA ((((j:Int)-1)).toNat) U (aq 10 U) kB dc I I)<|dS (mF (((((j:Int)-1)).toNat)*2) U (aq 10 U) (Nat.mul_pos I dc) fq U) ?_
   have Ar:=Ei hs hz
   have BL:=u0 l s
   rw [← Ar] at BL
   have BB:(cD l s).Lo≤(cD l s).Hi:=(yQ hs AD).1 F
   refine dS (fE ((((j:Int)-1)).toNat) 0 (vI z.Lo) U bQ (aq 10 U) Aq U dc U)<|dS (MX U)<|lg 4 [] (mc 0 U mn) U<|dS (IA ((((j:Int)-1)).toNat) U (aq 10 U) kB dc I I)<|dS (mF ((((((j:Int)-1)).toNat)*2)+1) U (aq 10 U) (Nat.mul_pos I dc) fq U)<|dS (fE ((((j:Int)-1)).toNat) 1 (vI z.Hi) U bQ (aq 10 U) Aq U dc U)<|dS (MN U)<|dP 2 [] mn ?_
   refine cv<|aA ?_
   refine aS (iy (aU U) (aC [0,1,2,3,4,5,6,7,8,9,10,11,12,13,14]) (u ⟨((max ((e9 r.Start fs)+(dp l rs.length)) z.Lo),(min r.eX z.Hi)),⟨by (rw [Ar]; exact EH I hs I BB),I⟩⟩))
  refine WS fun _ Z=>rP 2 [] mn ?_
  refine RK Z<|bH U (aP fun A4=>?_) (aO fun A4=>?_)
  ·refine cy ?_
   have Ad:(vI (e9 r.Start fs))=(vI r.Start):=by exact cI (by have e:fs=[]:=iz I; rw [e]; rfl)
   refine aS (iy (cE 7<|aV U Ad<|cS.nil _) (aC [0,1,2,3,4,5,6,7,8,9,10,11,12,13]) (p ()))
  refine ak<|rP 3 [] mn ?_
  obtain ⟨xf,Am⟩:=aB fs (rs.length-1) I
  have An:=br iC Am
  refine rS (IA (rs.length-1) U (show fR _ (rd fA fs.length 1 (fs.map iC)).holds from (nT (c:=fC) (e:=3) 3 U sm sm)) cN dc I I)<|rS (fE (rs.length-1) 0 (vI xf) U bQ (show fR _ (rd fA fs.length 1 (fs.map iC)).holds from (nT (c:=fC) (e:=3) 3 U sm sm)) An U dc U)<|rP 1 [] mn ?_
  refine aA ?_
  have Ac:(vI (e9 r.Start fs))=(vI xf):=by exact cI (yf _ _ _ (by rw [hfl]; exact Am))
  refine aS (iy (cE 7<|aV U Ac<|cS.nil _) (aC [0,1,2,3,4,5,6,7,8,9,10,11,12,13]) (p ()))
 refine WS fun _ V=>rP 8 [0,1] (mc 1 U (mc 2 U mn)) ?_
 refine RK V<|bH U (aP fun G=>?_) (aO fun G=>?_)
 ·refine cy<|Bd<|DU 235 3 ?_
  rw [show (own none 0 235 3 [])=(own none 0 235 3 (List.zipWith cL.cells (fO l r rs fs) [])) from by rw [uz G]; rfl]
  have Ae:(vS none ((fO l r rs fs).length) 0)=(vS none 0 0):=by first|rfl|(rw [uz G]; rfl)
  refine aS (iy (cE 6<|aV U Ae<|cS.nil _) (aC [2,3,4,5,6,7,8,9,10,11,12,13,0,1]) (o ⟨(none,0,[],[]),(by exact .inr ⟨G,U,U⟩)⟩))
 refine ak<|rP 6 [0,1] (mc 1 U (mc 0 U mn)) ?_
 refine cX (FQ r sgA sgC l vwA vwC vtA vtC vbA vbC rs rA rC hle hr I (by exact fun x hx h0=>(hrs x hx).2)) (kF [8,9,10,11]<|aL (show fR _ (rd rA rs.length 1 (rs.map iC)).holds from (nT (c:=rC) (e:=3) 3 U sm sm))<|aR) U fun BM BR=>?_
 obtain ⟨S,T⟩:=BM
 try dsimp only
 refine rS (SX (bg (xs:=[(0,.tmp 48),(1,.tmp 49),(2,.tmp 53)]) (cs:=(vh.cells (vh.mk (bE.mk rA rs.length rC) (bE.mk fA fs.length fC) (bE.mk S ((hU l r rs).length) T)))) U U (bh MZ U)) U U)<|fw (xs:=[.tmp 54]) (cs:=(vh.cells (vh.mk (bE.mk rA rs.length rC) (bE.mk fA fs.length fC) (bE.mk S ((hU l r rs).length) T)))) U Bw Np U U U U (by simp [Value.cells,vh.a_]) U U fun BW=>ik 235 3 ?_
 refine cG (es2:=(List.zipWith cL.cells (fO l r rs fs) ([((rA,rC),(fA,fC),(S,T))]))) (m':=(fO l r rs fs).length) 0 rfl rfl rfl Jr rfl rfl rfl (bj (es:=List.zipWith cL.cells [(cL.mk rs fs (hU l r rs))] [((rA,rC),(fA,fC),(S,T))]) 1 rfl rfl (by intro e he; simp at he; subst he; rfl) rfl) (zr _ _) dc dc (by rw [wJ G]; rfl) (by rw [wJ G]; rfl) rfl fun AA AB=>?_
 try dsimp only
 refine z8<|Ni 0 3 U U U ?_
 try dsimp only
 refine rP 1 [] mn ?_
 refine aA ?_
 have d:(vS AA ((fO l r rs fs).length) AB)=(vS AA ((fO l r rs fs).length) AB):=by first|rfl|(rw [uz G]; rfl)
 refine aS (iy (cE 6<|aV U d<|cS.nil _) (aC [3,4,5,6,7,8,9,10,11,12,13,14,1,0]) (o ⟨(AA,AB,[((rA,rC),(fA,fC),(S,T))],[(own S T 3 1 ((hU l r rs).map iC))]),(by exact .inl ⟨G,_,U,U⟩)⟩))
theorem Kd (l:aQ) (kA:OA) (kC:Nat) (az:List RA) (cA:OA) (cC:Nat) (bA:OA) (bC:Nat) (r:cf) (sgA:OA) (sgC:Nat) (vwA:OA) (vwC:Nat) (vtA:OA) (vtC:Nat) (vbA:OA) (vbC k:Nat) (rs:List Int) (rA:OA) (rC:Nat) (fs:List Int) (fA:OA) (fC:Nat) (hin:dF l az) (hle:cY l=0) (hr:er l r) (hk:rs.length+k=l.ab.length) (hfl:fs.length=rs.length) (hst:r.Start≤e9 r.Start fs∧e9 r.Start fs≤r.eX) (hrs: ∀ x∈rs,-1≤x∧x<(r.ag.length:Int)):
 zS Tryz.prog 167 [(vA (cb.cells (jI l kA kC cA cC bA bC))),(vA (dZ.cells (j1 r sgA sgC))),(vA (gu.cells (gu.mk (bE.mk vwA ((cq l l.ab.length).length) vwC) (bE.mk vtA ((dR l r r.ag.length).length) vtC) (bE.mk vbA ((eh l r r.ag.length).length) vbC)))),(vS rA rs.length rC),(vS fA fs.length fC)] [(rd kA l.aH.length 9 (l.aH.map aj.cells)),(rd cA l.ah.length 2 (List.zipWith al.cells l.ah az)),(eg (aZ al.fB l.ah az)),(rd bA l.ab.length 4 (l.ab.map bL.cells)),(rd sgA r.ag.length 2 (r.ag.map aD.cells)),(rd vwA ((cq l l.ab.length).length) 1 ((cq l l.ab.length).map iC)),(rd vtA ((dR l r r.ag.length).length) 2 ((dR l r r.ag.length).map aa.cells)),(rd vbA ((eh l r r.ag.length).length) 1 ((eh l r r.ag.length).map og))] (bM [own rA rC 3 1 (rs.map iC),own fA fC 3 1 (fs.map iC)]) (fun (x:(OA)×Nat×(List ji))=>(vS x.1 ((gi l r k rs fs).length) x.2.1)) (fun (x:(OA)×Nat×(List ji))=>x.2.2.length=(gi l r k rs fs).length) (fun (x:(OA)×Nat×(List ji))=>(bM (aZ cL.owns (gi l r k rs fs) x.2.2++[own x.1 x.2.1 235 3 (List.zipWith cL.cells (gi l r k rs fs) x.2.2)]))):=by
 induction k using Nat.strongRecOn generalizing rs rA rC fs fA fC with
 |ind k ih=>exact CQ l kA kC az cA cC bA bC r sgA sgC vwA vwC vtA vtC vbA vbC k rs rA rC fs fA fC hin hle hr hk hfl hst hrs (fun L F D E C A B G H AA J K=>ih L G F D E C A B H AA J K)
end
section
open Go.RowKit
theorem HF (l:aQ) (kA:OA) (kC:Nat) (az:List RA) (cA:OA) (cC:Nat) (bA:OA) (bC:Nat) (r:cf) (sgA:OA) (sgC:Nat) (hin:dF l az) (hsl:r.ag.length≤1000000):
 pH Tryz.prog 150 [(vA (cb.cells (jI l kA kC cA cC bA bC))),(vA (dZ.cells (j1 r sgA sgC)))] [(rd kA l.aH.length 9 (l.aH.map aj.cells)),(rd cA l.ah.length 2 (List.zipWith al.cells l.ah az)),(eg (aZ al.fB l.ah az)),(rd bA l.ab.length 4 (l.ab.map bL.cells)),(rd sgA r.ag.length 2 (r.ag.map aD.cells))] (fun (x:Bool×Int×(OA)×Nat×(List ji))=>bif x.1 then (vT [(vS x.2.2.1 ((oj l r).length) x.2.2.2.1),(vI 0)]) else (vT [(vS none 0 0),(vI x.2.1)])) (fun (x:Bool×Int×(OA)×Nat×(List ji))=>(x.1=true→(dM l r 0=0∧x.2.2.2.2.length=(oj l r).length))∧(x.1=false→(x.2.1=dM l r 0∧ ¬ dM l r 0=0))) (fun (x:Bool×Int×(OA)×Nat×(List ji))=>bif x.1 then [(own x.2.2.1 x.2.2.2.1 235 3 (List.zipWith cL.cells (oj l r) x.2.2.2.2)),(bM (aZ cL.owns (oj l r) x.2.2.2.2))] else []):=by
 have m:=hin.pO
 have k:=hin.pJ
 have i:=hin.mE
 have j:=hin.pQ
 refine fm kr Tryz.func150 U U fun s Q hQ hN=>?_
 try dsimp only
 refine WS fun _ X=>eQ U fun o=>eQ U fun p=>bp 2 U<|RK X<|ai fun _ Y=>WS fun _ Z=>eZ 1 [] (mc 1 U mn) U<|rS (CL (yP l kA kC az cA cC bA bC hin) (bf [2,3,4,5]) U)<|bp 1 U<|RK Z<|WS fun _ a=>rP 2 [] mn ?_
 refine RK a<|cw U (aW fun A=>?_) (aX fun A=>?_)
 ·refine WS fun _ b=>rP 3 [] mn ?_
  refine RK b<|an<|LX hQ (false,(cY l),none,0,[]) [] [] mn U (by rfl) U U ?_
  exact rf<|Lj (mg (r:=r) (me:=0) A) A
 refine WK Y<|ai fun _ c=>WS fun _ d=>eZ 2 [0,1] (mc 1 U (mc 0 U mn)) U<|rS (CL (Is l kA kC az cA cC bA bC r sgA sgC hin (by exact hsl)) (bf [2,3,4,5,6]) U)<|rP 1 [] mn ?_
 refine RK d<|cw U (aW fun B=>?_) (aX fun B=>?_)
 ·refine WS fun _ D=>rP 2 [] mn ?_
  refine RK D<|an<|LX hQ (false,51,none,0,[]) [] [] mn U (by rfl) U U ?_
  exact rf<|vv (g3 (me:=0) A B)
 refine WK c<|ai fun _ E=>dj bX [4,5,6] [] [] [0,1,2,3,4,5,6] [] U U U U U<|eS U (LW 1 U bQ U U)<|eS U (LW 0 U bQ U U)<|eS U (LW 1 U bQ U U)<|eS U (LW 0 U bQ U U)<|dW U<|bV U fun T12 J=>cX (HL l kA kC az cA cC bA bC r sgA sgC hin (by exact A) (by exact B)) (bf [2,3,4,5,6]) U fun e g=>?_
 obtain ⟨V,W,T,AA,R,S⟩:=e
 try dsimp only
 refine aA (J _ _ (aC [3,4,5,6,7,8,9]) ?_)
 refine bV U fun T21 K=>ik 3 1<|ik 3 1<|z8<|o6 1 U ?_
 try dsimp only [List.eraseIdx]
 refine xn U<|o6 1 U ?_
 try dsimp only [List.eraseIdx]
 refine xn U ?_
 try dsimp only
 refine js 0 rfl rfl rfl rfl (Kd l kA kC az cA cC bA bC r sgA sgC V W T AA R S l.ab.length ([]:List Int) none 0 ([]:List Int) none 0 hin (by exact A) (by exact B) sm (by rfl) (by exact ⟨Int.le_refl _,B.time.2.1⟩) (by intro x hx; cases hx)) rfl (du 6 rfl rfl (dH (bP _)) (du 7 rfl rfl (dH (bP _)) (du 8 rfl rfl (dH (bP _)) (du 9 rfl rfl (dH (bP _)) (du 10 rfl rfl (dH (bP _)) (du 1 rfl rfl (iY sm) (du 2 rfl rfl (iY sm) (du 3 rfl rfl (iY sm) kE)))))))) rfl (fun f M=>?_)
 obtain ⟨N,O,P⟩:=f
 try dsimp only
 refine aA (K _ _ (aC [4,5,6,7,8,9,10]) ?_)
 refine bV U fun T26 L=>o6 0 U ?_
 try dsimp only [List.eraseIdx]
 refine vK ?_
 dsimp only at M
 refine rS (AG U)<|aA (L _ _ (aC [5,6,7,8,9,10,11]) ?_)
 refine eU U<|KK E<|ai fun _ F=>WS fun _ G=>rP 3 [] mn ?_
 refine RK G<|bH U (aP fun C=>?_) (aO fun C=>?_)
 ·refine WK F<|WS fun _ AB=>rP 3 [] mn ?_
  refine RK AB<|an ?_
  refine LX hQ (true,0,N,O,P) [0,1] [] mn U (by (show List.all _ _=true; simp only [cond_true,iD,List.all_nil,EO,Bool.and_true]; rfl)) U U ?_
  exact ⟨fun _=>⟨lj A B U fun q=>C (by rw [show gi l r l.ab.length [] []=[] from (iH A B).2 q]; rfl),M⟩,Lm⟩
 refine WS fun _ H=>rP 2 [] mn ?_
 refine RK H<|an<|LX hQ (false,8,none,0,[]) [] [] mn U (by rfl) U U ?_
 exact rf<|vv (nN (me:=0) A B U ((iH A B).1 (iz (Int.natCast_eq_zero.1 C))))
theorem CR (ws:List cL) (wz:List ji) (wA:OA) (wC b:Nat) (hws:Ia ws) (hwz:wz.length=ws.length) (hb:b≤6):
 dL Tryz.prog 151 [(vS wA ws.length wC),(vI (b:Int))] [(rd wA ws.length 3 (List.zipWith cL.cells ws wz)),(eg (aZ cL.fB ws wz))] (vT [(vA (aa.cells (nQ ws b))),(vI (nR ws b))]):=by
 have w:=hws.num
 refine bu kr Tryz.func151 U U fun w0 Q hQ hN=>?_
 try dsimp only
 refine WS fun _ g=>AL U cR fun b2=>bp 1 U<|RK g<|WS fun _ j=>AL U cR fun v=>RK j<|WS fun _ k=>bp 1 U<|RK k<|ai fun _ l=>WS fun _ m=>rP 1 [] mn ?_
 refine RK m<|av ?_
 have D:(0≤ws.length)∧(lP b (ws.take 0) false (aa.mk 0 0)):=by exact ⟨Nat.zero_le _,CM⟩
 refine bI (ι:={z:Nat×Bool×aa // (z.1≤ws.length)∧(lP b (ws.take z.1) z.2.1 z.2.2)}) [0,1,4,5,6] [1,2,3] U U (fun z=>[(7,(vB z.1.2.1)),(8,(vI (z.1.1:Int)))]) (fun z=>[(cd v 47 (aa.cells z.1.2.2))]) (fun _=>rfl) (fun _=>rfl) (fun z=>ws.length-z.1.1) ⟨(0,false,(aa.mk 0 0)),D⟩ (aU U) (aC [1,2,3,0]) ?_
 clear D
 rintro ⟨⟨i,fd,o⟩,⟨J,A⟩⟩ J8 H
 try dsimp only at J A
 try dsimp only
 refine ai fun _ p=>WS fun _ L=>rP 4 [] mn ?_
 refine RK L<|bH U (aP fun c=>?_) (aO fun c=>?_)
 ·refine bx<|ae<|ae<|ax<|KK l<|ai fun _ R=>WS fun _ S=>rP 2 [] mn ?_
  refine RK S<|bH U (fun B=>?_) (fun B=>?_)
  ·rw [Bool.not_eq_false'] at B
   refine WK R<|WS fun _ AA=>eZ 1 [] (mc 3 U mn) U<|fg U bS U<|rP 1 [] mn ?_
   refine RK AA<|an<|ja hQ [0] (mc 0 U mn) U ?_
   have AB:=vW (by have q:=A; rwa [List.take_of_length_le I] at q) hws.Ce
   (have q:=AB.2 B; rw [q.1,q.2]; done)
  rw [Bool.not_eq_true'] at B
  refine WS fun _ T=>rS (SX (bg (xs:=[]) (cs:=(aa.cells (aa.mk 0 0))) U U (bh eM U)) U U)<|fg U bS U<|rP 1 [] mn ?_
  refine RK T<|an<|ja hQ [0] (mc 0 U mn) U ?_
  have AB:=vW (by have q:=A; rwa [List.take_of_length_le I] at q) hws.Ce
  (have q:=AB.1 B; rw [q.1,q.2]; done)
 refine WK p<|ai fun _ C=>av<|ai fun _ M=>WS fun _ N=>rP 2 [] mn ?_
 obtain ⟨y,hy⟩:=aB ws i I
 obtain ⟨ya,E⟩:=aB wz i I
 have K:(List.zipWith cL.cells ws wz)[i]? =some (cL.cells y ya):=db hy E
 refine rS (IA i U (aq 1 U) Bw dc I I)<|rS (mF (i*3) U (aq 1 U) (Nat.mul_pos I dc) fq U)<|rS (fE i 0 (vS ya.1.1 y.fh.length ya.1.2) U bQ (aq 1 U) K U dc U)<|rP 3 [] mn ?_
 refine RK N<|cw U (aO fun d=>?_) (aP fun d=>?_)
 ·refine bx<|ae<|ax<|KK C<|ak<|rP 3 [] mn ?_
  refine aA ?_
  have X:(vI (((i+1):Nat):Int))=(vI ((i:Int)+1)):=by exact cI I
  refine aS (H ⟨((i+1),fd,o),⟨I,by dsimp only; rw [kf hy]; exact Az A I⟩⟩ _ _ _ U os (cE 6<|aV U X<|cS.nil _) (aC [0,1,2,3]))
 refine WK M<|ai fun _ O=>dj bX [17,18] [] [] [0,1,2,3] [] U U U U U ?_
 have x:=hws.lens y (aI hy)
 obtain ⟨s,hs⟩: ∃ s,y.fh[b]? =some s:=⟨y.fh[b]'I,e_ _⟩
 refine eS U (MV U)<|eS U (MV U)<|eS U (IA i U (aq 1 U) Bw dc I I)<|eS U (mF ((i*3)+1) U (aq 1 U) (Nat.mul_pos I dc) fq U)<|eS U (fE i 1 (vS ya.2.1.1 y.gG.length ya.2.1.2) U bQ (aq 1 U) K U dc U)<|eS U (MV U) ?_
 obtain ⟨f,hf⟩:=aB y.gG b I
 have t:=br iC hf
 refine eS U (IA b U (show fR _ (rd ya.2.1.1 y.gG.length 1 (y.gG.map iC)).holds from (bT 2 U (bk hy E (by simp [cL.fB])))) cN dc I I)<|eS U (fE b 0 (vI f) U bQ (show fR _ (rd ya.2.1.1 y.gG.length 1 (y.gG.map iC)).holds from (bT 2 U (bk hy E (by simp [cL.fB])))) t U dc U)<|eS U (MV U)<|eS U (MV U)<|eS U (IA i U (aq 1 U) Bw dc I I)<|eS U (mF ((i*3)+2) U (aq 1 U) (Nat.mul_pos I dc) fq U)<|eS U (fE i 2 (vS ya.2.2.1 y.j5.length ya.2.2.2) U bQ (aq 1 U) K U dc U)<|eS U (MV U) ?_
 obtain ⟨e,he⟩:=aB y.j5 b I
 have r:=br iC he
 refine eS U (IA b U (show fR _ (rd ya.2.2.1 y.j5.length 1 (y.j5.map iC)).holds from (bT 2 U (bk hy E (by simp [cL.fB])))) cN dc I I)<|eS U (fE b 0 (vI e) U bQ (show fR _ (rd ya.2.2.1 y.j5.length 1 (y.j5.map iC)).holds from (bT 2 U (bk hy E (by simp [cL.fB])))) r U dc U)<|eS U (SX (bg (xs:=[(0,.tmp 31),(1,.tmp 39)]) (cs:=(aa.cells (aa.mk f e))) U U (bh eM U)) U U)<|dW U<|bV U fun T17 V=>AL U cR fun u=>aA (V _ _ (aC [1,2,3,4]) ?_)
 refine bV U fun T19 W=>fg U bS U<|aA (W _ _ (aC [1,2,3,4]) ?_)
 refine eU U<|KK O<|ai fun _ F=>WS fun _ P=>?_
 have a:=hws.le y (aI hy) b f e I hf he
 refine rP 1 [] mn ?_
 refine RK P<|bH U (fun G=>?_) (fun G=>?_)
 ·refine WK F<|ak<|eZ 1 [] (mc 0 U mn) U<|Nh U bS U<|bp 1 U<|aA<|aG<|KK C<|ak<|rP 3 [] mn ?_
  refine aA ?_
  have Z:(vI (((i+1):Nat):Int))=(vI ((i:Int)+1)):=by exact cI I
  refine aS (H ⟨((i+1),true,(aa.mk f e)),⟨I,by dsimp only; rw [kf hy]; exact yE A G hs hf he a⟩⟩ _ _ _ U os (cE 6<|aV U Z<|cS.nil _) (aC [1,2,3,4]))
 refine ak<|eZ 4 [0,1] (mc 0 U (mc 4 U mn)) U<|rS (MN U)<|eZ 4 [0,1] (mc 0 U (mc 4 U mn)) U<|rS (MX U)<|rS (SX (bg (xs:=[(0,.tmp 46),(1,.tmp 51)]) (cs:=(aa.cells (aa.mk (min f o.Lo) (max e o.Hi)))) U U (bh eM U)) U U)<|fg U bS U<|RK F<|ak<|eZ 1 [] (mc 0 U mn) U<|Nh U bS U<|bp 1 U<|aA<|aG<|KK C<|ak<|rP 3 [] mn ?_
 refine aA ?_
 have Y:(vI (((i+1):Nat):Int))=(vI ((i:Int)+1)):=by exact cI I
 refine aS (H ⟨((i+1),true,(aa.mk (min f o.Lo) (max e o.Hi))),⟨I,by dsimp only; rw [kf hy]; exact zW A G hs hf he a⟩⟩ _ _ _ U os (cE 6<|aV U Y<|cS.nil _) (aC [1,2,3,4]))
end
section
open Go.RowKit
theorem Ko (l:aQ) (kA:OA) (kC:Nat) (az:List RA) (cA:OA) (cC:Nat) (bA:OA) (bC:Nat) (r:cf) (sgA:OA) (sgC:Nat) (hin:dF l az) (hsl:r.ag.length≤1000000):
 dL Tryz.prog 124 [(vA (cb.cells (cb.mk (bB.mk (bE.mk kA l.aH.length kC)) l.gY (bE.mk cA l.ah.length cC) (bE.mk bA l.ab.length bC) l.cQ l.eO l.cW))),(vA (dZ.cells (j1 r sgA sgC)))] [(rd kA l.aH.length 9 (l.aH.map aj.cells)),(rd cA l.ah.length 2 (List.zipWith al.cells l.ah az)),(eg (aZ al.fB l.ah az)),(rd bA l.ab.length 4 (l.ab.map bL.cells)),(rd sgA r.ag.length 2 (r.ag.map aD.cells))] (vT [(vA (aa.cells (ze l r))),(vI (ek l r l.cQ))]):=by
 have s:=hin.pO
 have k:=hin.pJ
 have i:=hin.mE
 have j:=hin.pQ
 refine bu kr Tryz.func124 U U fun w0 Q hQ hN=>?_
 try dsimp only
 refine WS fun _ Z=>eQ U fun w=>eQ U fun x=>AL U cR fun y=>bp 1 U<|RK Z<|WS fun _ P=>rP 2 [0,1] (mc 2 U (mc 1 U mn)) ?_
 refine cX (HF l kA kC az cA cC bA bC r sgA sgC hin hsl) (bf [3,4,5,6,7]) U fun v V=>?_
 obtain ⟨W,g,e,Y,X⟩:=v
 cases W
 ·obtain ⟨R,he⟩:=V.2 rfl
  try dsimp only at R he
  subst R
  try dsimp only [cond_true,cond_false,List.cons_append,List.nil_append]
  refine bp 5 U<|RK P<|ai fun _ d=>WS fun _ G=>rP 2 [] mn ?_
  refine RK G<|bH U (aX fun F=>?_) (aW fun F=>?_)
  ·exact absurd F he
  refine WS fun _ H=>rS (SX (bg (xs:=[]) (cs:=(aa.cells (aa.mk 0 0))) U U (bh eM U)) U U)<|bp 1 U<|fg U bS U<|rP 1 [] mn ?_
  refine RK H<|an<|ja hQ [0] (mc 0 U mn) U ?_
  (rw [AK (fun z=>he ((sv he).symm.trans z)),sv he]<;>rfl)
 obtain ⟨he,C⟩:=V.1 rfl
 try dsimp only [cond_true,cond_false,List.cons_append,List.nil_append]
 try dsimp only at he C
 obtain ⟨T,E,_,m⟩:=iL he
 obtain ⟨t,c⟩:=fF T
 have a:=c.head
 unfold fu at a
 have AA:=Ku T E
 have u:=AA.num
 have p:=E.len
 have q:=E.time
 refine bp 5 U<|RK P<|ai fun _ AB=>WS fun _ J=>rP 1 [] mn ?_
 refine rS (SX (dG (r:= .bool false) U U U pN) U U)<|RK J<|bU U<|WK AB<|ai fun _ K=>?_
 obtain ⟨b,S⟩: ∃ b:Nat,l.cQ=(b:Int):=⟨l.cQ.toNat,I⟩
 have A:=Es he (b:=b) I
 rw [← S] at A
 rw [S]
 refine ak<|eZ 3 [] (mc 4 U mn) U<|rS (CL (CR (oj l r) X e Y b (by exact AA) (by exact C) I) (aL (au (n:=(oj l r).length) 0 U (qR C))<|aL (eY 1 U IN)<|aR) U)<|bp 3 U<|AL U cR fun f=>fg U bS U<|bp 1 U<|RK K<|ai fun _ L=>WS fun _ M=>rP 2 [] mn ?_
 refine RK M<|cw U (aW fun B=>?_) (aX fun B=>?_)
 ·refine WS fun _ N=>rS (SX (bg (xs:=[]) (cs:=(aa.cells (aa.mk 0 0))) U U (bh eM U)) U U)<|bp 1 U<|Ll U bS U<|rP 1 [] mn ?_
  refine RK N<|an<|ja hQ [0] (mc 3 U mn) U ?_
  (rw [AK (fun z=>B (A.1.trans z)),← A.1]<;>rfl)
 refine WK L<|ai fun _ O=>?_
 have D:ek l r l.cQ=0:=A.1.symm.trans B
 have o:=uv D
 rw [A.2]
 refine ak<|eZ 10 [0,1,0,1] (mc 0 U (mc 4 U mn)) U<|rS (SX (bg (xs:=[(0,.tmp 34),(1,.tmp 39)]) (cs:=(aa.cells (aa.mk (((eD l r l.cQ).Lo)-r.Start) (((eD l r l.cQ).Hi)-r.Start)))) U U (bh eM U)) U U)<|Ll U bS U<|rP 1 [] mn ?_
 refine RK O<|an<|ja hQ [0] (mc 3 U mn) U ?_
 (rw [Af D,D])
theorem zT (la:List aD) (laA:OA) (laC:Nat) (lb:List aD) (lbA:OA) (lbC:Nat) (h1:la.length≤1000000) (h2:lb.length≤1000000):
 dL Tryz.prog 77 [(vS laA la.length laC),(vS lbA lb.length lbC)] [(rd laA la.length 2 (la.map aD.cells)),(rd lbA lb.length 2 (lb.map aD.cells))] (vB (decide (la=lb))):=by
 refine bu kr Tryz.func77 U U fun V Q hQ hN=>?_
 try dsimp only
 refine WS fun _ J=>bp 1 U<|RK J<|ai fun _ K=>WS fun _ L=>rP 5 [] mn ?_
 refine RK L<|cw U (aW fun hl=>?_) (aX fun hl=>?_)
 ·refine WS fun _ M=>rP 1 [] mn ?_
  refine RK M<|an<|Q1 hQ U U U ?_
  first|exact cB (bw (lT hx hy h)).symm|exact cB (dw (b_ I A I)).symm|exact cB (bw (fun e=>by subst e; omega)).symm
 refine WK K<|ai fun _ N=>WS fun _ O=>rP 1 [] mn ?_
 refine RK O<|av ?_
 have B:(0≤la.length)∧(la.take 0=lb.take 0):=by simp
 refine bI (ι:={z:Nat // (z≤la.length)∧(la.take z=lb.take z)}) [0,1] [0,1] U U (fun z=>[(5,(vI (z.1:Int)))]) (fun z=>[]) (fun _=>rfl) (fun _=>rfl) (fun z=>la.length-z.1) ⟨0,B⟩ (aU U) (aC [0,1]) ?_
 clear B
 rintro ⟨i,⟨S,A⟩⟩ J7 AB
 try dsimp only
 refine ai fun _ P=>WS fun _ R=>rP 4 [] mn ?_
 refine RK R<|bH U (aP fun H=>?_) (aO fun H=>?_)
 ·refine bx<|ae<|ae<|ax<|KK N<|WS fun _ F=>rP 1 [] mn ?_
  refine RK F<|an<|Q1 hQ U U U ?_
  first|exact cB (bw (lT hx hy h)).symm|exact cB (dw (b_ I A I)).symm|exact cB (bw (fun e=>by subst e; omega)).symm
 refine WK P<|ai fun _ C=>av<|ai fun _ D=>cU bX 9 kr<|dP 2 [] mn ?_
 obtain ⟨x,hx⟩:=aB la i I
 have T:=br aD.cells hx
 refine dS (IA i U (aq 0 U) vy dc I I)<|dS (j0 i 0 (aD.cells x) U bQ (aq 0 U) T U dc U U)<|dP 2 [] mn ?_
 obtain ⟨y,hy⟩:=aB lb i I
 have AA:=br aD.cells hy
 refine dS (IA i U (aq 1 U) vy dc I I)<|dS (j0 i 0 (aD.cells y) U bQ (aq 1 U) AA U dc U U)<|dS (BI U (Kf _ _ x y))<|cv<|RK D<|cw U (aW fun h=>?_) (aX fun h=>?_)
 ·refine WS fun _ E=>rP 1 [] mn ?_
  refine RK E<|an<|Q1 hQ U U U ?_
  first|exact cB (bw (lT hx hy h)).symm|exact cB (dw (b_ I A I)).symm|exact cB (bw (fun e=>by subst e; omega)).symm
 refine cy<|aG<|KK C<|ak<|rP 3 [] mn ?_
 refine aA ?_
 have G:(vI (((i+1):Nat):Int))=(vI ((i:Int)+1)):=by exact cI I
 refine aS (AB ⟨(i+1),⟨I,ir A hx hy h⟩⟩ _ _ _ U os (cS.cons U<|cS.cons U<|aV U G<|cS.nil _) (aC [0,1]))
end
section
open Go.RowKit
theorem Av (d:aw) (sgA:OA) (sgC:Nat) (e:aw) (shA:OA) (shC:Nat) (h1:d.bO.ag.length≤1000000) (h2:e.bO.ag.length≤1000000):
 dL Tryz.prog 53 [(vA (bq.cells (bq.mk d.Out d.de d.Time (j1 d.bO sgA sgC)))),(vA (bq.cells (bq.mk e.Out e.de e.Time (dZ.mk e.bO.Start e.bO.eX (bE.mk shA e.bO.ag.length shC)))))] [(rd sgA d.bO.ag.length 2 (d.bO.ag.map aD.cells)),(rd shA e.bO.ag.length 2 (e.bO.ag.map aD.cells))] (vB (decide (d=e))):=by
 refine bu kr Tryz.func53 U U fun J Q hQ hN=>?_
 try dsimp only
 refine WS fun _ B=>eQ U fun H=>eQ U fun AA=>bp 1 U<|RK B<|WS fun _ A=>eZ 4 [0,1] (mc 1 U (mc 0 U mn)) U<|rS (BI U (GQ NW))<|rP 1 [] mn ?_
 refine dY (t:=10) U (fun C=>?_) (fun C=>?_)
 ·replace C: ¬ d.Out=e.Out:=by simpa using C
  refine rP 41 [] mn ?_
  refine RK A<|an<|Q1 hQ U U U ?_
  clear hQ hN A B
  refine cB ?_
  simp [mR, *]
 replace C:d.Out=e.Out:=by simpa using C
 refine eZ 4 [0,1] (mc 1 U (mc 0 U mn)) U<|rS (BI U (GQ NW))<|rP 2 [] mn ?_
 refine dY (t:=17) U (fun D=>?_) (fun D=>?_)
 ·replace D: ¬ d.de=e.de:=by simpa using D
  refine rP 34 [] mn ?_
  refine RK A<|an<|Q1 hQ U U U ?_
  clear hQ hN A B
  refine cB ?_
  simp [mR, *]
 replace D:d.de=e.de:=by simpa using D
 refine bp 1 U<|rS (LP (aa.cells d.Time) 1 U bQ U U U)<|bp 1 U<|rS (LP (aa.cells e.Time) 0 U bQ U U U)<|rS (BI U (q7 _ _ d.Time e.Time))<|rP 2 [] mn ?_
 refine dY (t:=24) U (aP fun E=>?_) (aO fun E=>?_)
 ·refine rP 27 [] mn ?_
  refine RK A<|an<|Q1 hQ U U U ?_
  clear hQ hN A B
  refine cB ?_
  simp [mR, *]
 refine rP 9 [0,1] (mc 1 U (mc 0 U mn)) ?_
 refine dY (t:=33) U (aP fun F=>?_) (aO fun F=>?_)
 ·refine rP 18 [] mn ?_
  refine RK A<|an<|Q1 hQ U U U ?_
  clear hQ hN A B
  refine cB ?_
  simp [mR, *]
 refine rP 9 [0,1] (mc 1 U (mc 0 U mn)) ?_
 refine dY (t:=42) U (aP fun G=>?_) (aO fun G=>?_)
 ·refine rP 9 [] mn ?_
  refine RK A<|an<|Q1 hQ U U U ?_
  clear hQ hN A B
  refine cB ?_
  simp [mR, *]
 refine eZ 6 [0,1] (mc 1 U (mc 0 U mn)) U<|rS (CL (zT d.bO.ag sgA sgC e.bO.ag shA shC h1 h2) (bf [2,3]) U)<|rP 2 [] mn ?_
 refine RK A<|an<|Q1 hQ U U U ?_
 clear hQ hN A B
 refine cB ?_
 simp [mR, *]
theorem zU (r:cV) (kA:OA) (kC:Nat) (az:List RA) (cA:OA) (cC:Nat) (bA:OA) (bC:Nat) (slA:OA) (slC:Nat) (drA:OA) (drC:Nat) (ha:List dv) (heA:OA) (heC:Nat) (q:cV) (k2A:OA) (k2C:Nat) (az2:List RA) (c2A:OA) (c2C:Nat) (b2A:OA) (b2C:Nat) (sl2A:OA) (sl2C:Nat) (dr2A:OA) (dr2C:Nat) (ha2:List dv) (he2A:OA) (he2C:Nat) (hin:fZ r az ha) (hin2:fZ q az2 ha2) (hsm: ¬ kH r) (hsm2: ¬ kH q):
 dL Tryz.prog 23 [(vA (eC.cells (pB r kA kC cA cC bA bC slA slC drA drC heA heC))),(vA (eC.cells (eC.mk (cb.mk (bB.mk (bE.mk k2A q.aF.aH.length k2C)) q.aF.gY (bE.mk c2A q.aF.ah.length c2C) (bE.mk b2A q.aF.ab.length b2C) q.aF.cQ q.aF.eO q.aF.cW) (bE.mk sl2A q.aT.length sl2C) (bE.mk dr2A q.bo.length dr2C) q.i_ (bE.mk he2A q.ay.length he2C))))] [(rd kA r.aF.aH.length 9 (r.aF.aH.map aj.cells)),(rd cA r.aF.ah.length 2 (List.zipWith al.cells r.aF.ah az)),(eg (aZ al.fB r.aF.ah az)),(rd bA r.aF.ab.length 4 (r.aF.ab.map bL.cells)),(rd slA r.aT.length 1 (r.aT.map iC)),(rd drA r.bo.length 1 (r.bo.map iC)),(rd heA r.ay.length 1 (List.zipWith c_ r.ay ha)),(eg (aZ gP r.ay ha)),(rd k2A q.aF.aH.length 9 (q.aF.aH.map aj.cells)),(rd c2A q.aF.ah.length 2 (List.zipWith al.cells q.aF.ah az2)),(eg (aZ al.fB q.aF.ah az2)),(rd b2A q.aF.ab.length 4 (q.aF.ab.map bL.cells)),(rd sl2A q.aT.length 1 (q.aT.map iC)),(rd dr2A q.bo.length 1 (q.bo.map iC)),(rd he2A q.ay.length 1 (List.zipWith c_ q.ay ha2)),(eg (aZ gP q.ay ha2))] (vB (decide (r=q))):=by
 have W:=hin.line
 have Ab:=hin.iG
 have Ac:=hin.has
 have AZ:=hin.iE
 have AU:=hin.draw
 have Aa:=dK (r:=r)
 have hline2:=hin2.line
 have AW:=hin2.iG
 have AY:=hin2.has
 have AT:=hin2.iE
 have AP:=hin2.draw
 have AC:=tx hsm
 have AD:=tx hsm2
 refine bu kr Tryz.func23 U U fun w0 Q hQ hN=>?_
 try dsimp only
 refine WS fun _ AI=>eQ U fun b2=>eQ U fun b3=>bp 1 U<|RK AI<|ai fun _ AJ=>WS fun _ P=>bp 1 U<|rS (LP (cb.cells (jI r.aF kA kC cA cC bA bC)) 1 U bQ U U U)<|bp 1 U<|rS (LP (cb.cells (cb.mk (bB.mk (bE.mk k2A q.aF.aH.length k2C)) q.aF.gY (bE.mk c2A q.aF.ah.length c2C) (bE.mk b2A q.aF.ab.length b2C) q.aF.cQ q.aF.eO q.aF.cW)) 0 U bQ U U U)<|rS (CL (H4 r.aF kA kC az cA cC bA bC q.aF k2A k2C az2 c2A c2C b2A b2C (by exact W) (by exact hline2) (by exact AC.1) (by exact AD.1)) (bf [2,3,4,5,10,11,12,13]) U)<|rP 2 [] mn ?_
 refine cr (t:=13) U (aW fun D=>?_) (aX fun D=>?_)
 ·refine bp 31 U<|RK P<|aJ U<|WS fun _ AK=>rP 1 [] mn ?_
  refine RK AK<|an<|Q1 hQ U U U ?_
  first|exact cB (bw (fun e=>by cases e; first|exact D rfl|exact E rfl|exact F rfl|exact G rfl|exact M rfl)).symm|exact cB (dw (jE D E F G (b_ I C I))).symm|exact cB (bw (fun z=>by cases z; rw [H] at A; cases A; first|omega|(rw [hd] at B; cases B; exact L rfl))).symm
 refine rP 4 [0,1] (mc 1 U (mc 0 U mn)) ?_
 refine rS (CL (ov r.aT slA slC q.aT sl2A sl2C sd sd) (bf [6,14]) U) ?_
 refine rP 3 [] mn ?_
 refine cr (t:=21) U (aW fun E=>?_) (aX fun E=>?_)
 ·refine bp 23 U<|RK P<|aJ U<|WS fun _ AL=>rP 1 [] mn ?_
  refine RK AL<|an<|Q1 hQ U U U ?_
  first|exact cB (bw (fun e=>by cases e; first|exact D rfl|exact E rfl|exact F rfl|exact G rfl|exact M rfl)).symm|exact cB (dw (jE D E F G (b_ I C I))).symm|exact cB (bw (fun z=>by cases z; rw [H] at A; cases A; first|omega|(rw [hd] at B; cases B; exact L rfl))).symm
 refine rP 4 [0,1] (mc 1 U (mc 0 U mn)) ?_
 refine rS (CL (ov r.bo drA drC q.bo dr2A dr2C sd sd) (bf [7,15]) U) ?_
 refine rP 3 [] mn ?_
 refine cr (t:=29) U (aW fun F=>?_) (aX fun F=>?_)
 ·refine bp 15 U<|RK P<|aJ U<|WS fun _ AM=>rP 1 [] mn ?_
  refine RK AM<|an<|Q1 hQ U U U ?_
  first|exact cB (bw (fun e=>by cases e; first|exact D rfl|exact E rfl|exact F rfl|exact G rfl|exact M rfl)).symm|exact cB (dw (jE D E F G (b_ I C I))).symm|exact cB (bw (fun z=>by cases z; rw [H] at A; cases A; first|omega|(rw [hd] at B; cases B; exact L rfl))).symm
 refine rP 7 [0,1] (mc 1 U (mc 0 U mn)) ?_
 refine cr (t:=36) U (aW fun G=>?_) (aX fun G=>?_)
 ·refine bp 8 U<|RK P<|aJ U<|WS fun _ AN=>rP 1 [] mn ?_
  refine RK AN<|an<|Q1 hQ U U U ?_
  first|exact cB (bw (fun e=>by cases e; first|exact D rfl|exact E rfl|exact F rfl|exact G rfl|exact M rfl)).symm|exact cB (dw (jE D E F G (b_ I C I))).symm|exact cB (bw (fun z=>by cases z; rw [H] at A; cases A; first|omega|(rw [hd] at B; cases B; exact L rfl))).symm
 refine rP 8 [0,1] (mc 1 U (mc 0 U mn)) ?_
 refine RK P<|cw U (aW fun M=>?_) (aX fun M=>?_)
 ·refine WS fun _ Z=>rP 1 [] mn ?_
  refine RK Z<|an<|Q1 hQ U U U ?_
  first|exact cB (bw (fun e=>by cases e; first|exact D rfl|exact E rfl|exact F rfl|exact G rfl|exact M rfl)).symm|exact cB (dw (jE D E F G (b_ I C I))).symm|exact cB (bw (fun z=>by cases z; rw [H] at A; cases A; first|omega|(rw [hd] at B; cases B; exact L rfl))).symm
 refine WK AJ<|ai fun _ a=>WS fun _ b=>rP 1 [] mn ?_
 refine RK b<|av ?_
 have J:(0≤r.ay.length)∧(r.ay.take 0=q.ay.take 0):=by exact ⟨Nat.zero_le _,rfl⟩
 refine bI (ι:={z:Nat // (z≤r.ay.length)∧(r.ay.take z=q.ay.take z)}) [2,3] [0,1,2,3,4,5,6,7,8,9,10,11,12,13,14,15,16,17] U U (fun z=>[(5,(vI (z.1:Int)))]) (fun z=>[]) (fun _=>rfl) (fun _=>rfl) (fun z=>r.ay.length-z.1) ⟨0,J⟩ (aU U) (aC [0,1,2,3,4,5,6,7,8,9,10,11,12,13,14,15,16,17]) ?_
 clear J
 rintro ⟨h,⟨AR,C⟩⟩ J13 X
 try dsimp only
 refine ai fun _ c=>WS fun _ f=>rP 5 [] (mc 1 U mn) ?_
 refine RK f<|bH U (aP fun AF=>?_) (aO fun AF=>?_)
 ·refine bx<|ae<|ae<|ax<|KK a<|WS fun _ w=>rP 1 [] mn ?_
  refine RK w<|an<|Q1 hQ U U U ?_
  first|exact cB (bw (fun e=>by cases e; first|exact D rfl|exact E rfl|exact F rfl|exact G rfl|exact M rfl)).symm|exact cB (dw (jE D E F G (b_ I C I))).symm|exact cB (bw (fun z=>by cases z; rw [H] at A; cases A; first|omega|(rw [hd] at B; cases B; exact L rfl))).symm
 refine WK c<|ai fun _ g=>av<|ai fun _ j=>ai fun _ k=>cU bX 13 kr<|dP 3 [] (mc 1 U mn) ?_
 obtain ⟨ht,H⟩:=aB r.ay h I
 obtain ⟨Ae,N⟩:=aB ha h I
 have R:(List.zipWith c_ r.ay ha)[h]? =some (c_ ht Ae):=db H N
 refine dS (IA h U (aq 8 U) mL dc I I)<|dS (fE h 0 (vS Ae.1.1 ht.length Ae.1.2) U bQ (aq 8 U) R U dc U)<|dP 4 [] (mc 0 U mn) ?_
 obtain ⟨hu,A⟩:=aB q.ay h I
 obtain ⟨K,O⟩:=aB ha2 h I
 have V:(List.zipWith c_ q.ay ha2)[h]? =some (c_ hu K):=db A O
 refine dS (IA h U (aq 16 U) mL dc I I)<|dS (fE h 0 (vS K.1.1 hu.length K.1.2) U bQ (aq 16 U) V U dc U)<|dP 1 [] mn ?_
 have AE:=hin.mH _ _ _ H N
 have AV:=AE.mE
 have Ad:=hin2.mH _ _ _ A O
 have AQ:=Ad.mE
 have AX:=AC.2.2.2.2 ht (aI H)
 refine dP 1 [] mn ?_
 refine cv<|RK k<|cw U (aW fun AH=>?_) (aX fun AH=>?_)
 ·refine WS fun _ l=>rP 1 [] mn ?_
  refine RK l<|an<|Q1 hQ U U U ?_
  first|exact cB (bw (fun e=>by cases e; first|exact D rfl|exact E rfl|exact F rfl|exact G rfl|exact M rfl)).symm|exact cB (dw (jE D E F G (b_ I C I))).symm|exact cB (bw (fun z=>by cases z; rw [H] at A; cases A; first|omega|(rw [hd] at B; cases B; exact L rfl))).symm
 refine WK j<|WS fun _ m=>rP 1 [] mn ?_
 refine RK m<|av ?_
 have J:(0≤ht.length)∧(ht.take 0=hu.take 0):=by exact ⟨Nat.zero_le _,rfl⟩
 refine bI (ι:={z:Nat // (z≤ht.length)∧(ht.take z=hu.take z)}) [2,3,5] [0,1,2,3,4,5,6,7,8,9,10,11,12,13,14,15,16,17] U U (fun z=>[(6,(vI (z.1:Int)))]) (fun z=>[]) (fun _=>rfl) (fun _=>rfl) (fun z=>ht.length-z.1) ⟨0,J⟩ (aU U) (aC [0,1,2,3,4,5,6,7,8,9,10,11,12,13,14,15,16,17]) ?_
 clear J
 rintro ⟨i,⟨AS,S⟩⟩ J22 Y
 try dsimp only
 refine ai fun _ o=>WS fun _ p=>eZ 4 [] (mc 1 U mn) U<|rS (IA h U (aq 8 U) mL dc I I)<|rS (fE h 0 (vS Ae.1.1 ht.length Ae.1.2) U bQ (aq 8 U) R U dc U)<|rP 2 [] mn ?_
 refine RK p<|bH U (aP fun AG=>?_) (aO fun AG=>?_)
 ·refine bx<|ae<|ae<|ax<|aG<|KK g<|ak<|rP 3 [] mn ?_
  refine aA ?_
  have y:(vI (((h+1):Nat):Int))=(vI ((h:Int)+1)):=by exact cI I
  refine aS (X ⟨(h+1),⟨I,ir C H A (b_ I S I)⟩⟩ _ _ _ U os (cS.cons U<|cS.cons U<|aV U y<|cS.nil _) (aC [0,1,2,3,4,5,6,7,8,9,10,11,12,13,14,15,16,17]))
 refine WK o<|ai fun _ s=>av<|ai fun _ u=>cU bX 18 kr<|lg 3 [] (mc 1 U mn) U<|dS (IA h U (aq 8 U) mL dc I I)<|dS (fE h 0 (vS Ae.1.1 ht.length Ae.1.2) U bQ (aq 8 U) R U dc U)<|dP 1 [] mn ?_
 obtain ⟨d,hd⟩:=aB ht i I
 obtain ⟨da,AA⟩:=aB Ae.2 i I
 have AO:(List.zipWith aw.cells ht Ae.2)[i]? =some (aw.cells d da):=db hd AA
 refine dS (IA i U (show fR _ (rd Ae.1.1 ht.length 7 (List.zipWith aw.cells ht Ae.2)).holds from (bT 9 U (bk H N ck))) sU dc I I)<|dS (j0 i 0 (bq.cells (bq.mk d.Out d.de d.Time (dZ.mk d.bO.Start d.bO.eX (bE.mk da.1 d.bO.ag.length da.2)))) U bQ (show fR _ (rd Ae.1.1 ht.length 7 (List.zipWith aw.cells ht Ae.2)).holds from (bT 9 U (bk H N ck))) AO U dc U U)<|lg 3 [] (mc 0 U mn) U<|dS (IA h U (aq 16 U) mL dc I I)<|dS (fE h 0 (vS K.1.1 hu.length K.1.2) U bQ (aq 16 U) V U dc U)<|dP 1 [] mn ?_
 obtain ⟨e,B⟩:=aB hu i I
 obtain ⟨ea,T⟩:=aB K.2 i I
 have AB:(List.zipWith aw.cells hu K.2)[i]? =some (aw.cells e ea):=db B T
 refine dS (IA i U (show fR _ (rd K.1.1 hu.length 7 (List.zipWith aw.cells hu K.2)).holds from (bT 17 U (bk A O ck))) sU dc I I)<|dS (j0 i 0 (bq.cells (bq.mk e.Out e.de e.Time (dZ.mk e.bO.Start e.bO.eX (bE.mk ea.1 e.bO.ag.length ea.2)))) U bQ (show fR _ (rd K.1.1 hu.length 7 (List.zipWith aw.cells hu K.2)).holds from (bT 17 U (bk A O ck))) AB U dc U U)<|dS (CL (Av d da.1 da.2 e ea.1 ea.2 (by exact AE.sig d (aI hd)) (by exact Ad.sig e (aI B))) (aL (show fR _ (rd da.1 d.bO.ag.length 2 (d.bO.ag.map aD.cells)).holds from (bT 9 U (bk H N (dq _ (bk hd AA (by simp [aw.fB]))))))<|aL (show fR _ (rd ea.1 e.bO.ag.length 2 (e.bO.ag.map aD.cells)).holds from (bT 17 U (bk A O (dq _ (bk B T (by simp [aw.fB]))))))<|aR) U)<|dP 1 [] mn ?_
 refine cv<|RK u<|bH U (aX fun L=>?_) (aW fun L=>?_)
 ·refine cy<|aG<|KK s<|ak<|rP 3 [] mn ?_
  refine aA ?_
  have x:(vI (((i+1):Nat):Int))=(vI ((i:Int)+1)):=by exact cI I
  refine aS (Y ⟨(i+1),⟨I,ir S hd B L⟩⟩ _ _ _ U os (cE 3<|aV U x<|cS.nil _) (aC [0,1,2,3,4,5,6,7,8,9,10,11,12,13,14,15,16,17]))
 refine WS fun _ v=>rP 1 [] mn ?_
 refine RK v<|an<|Q1 hQ U U U ?_
 first|exact cB (bw (fun e=>by cases e; first|exact D rfl|exact E rfl|exact F rfl|exact G rfl|exact M rfl)).symm|exact cB (dw (jE D E F G (b_ I C I))).symm|exact cB (bw (fun z=>by cases z; rw [H] at A; cases A; first|omega|(rw [hd] at B; cases B; exact L rfl))).symm
end
section
open Go.RowKit
theorem Ax (l:aQ) (kA:OA) (kC:Nat) (az:List RA) (cA:OA) (cC:Nat) (bA:OA) (bC:Nat) (d:aw) (sgA:OA) (sgC:Nat) (hin:dF l az) (hle:cY l=0) (hsl:d.bO.ag.length≤1000000) (hk:d.Out=true):
 dL Tryz.prog 91 [(vA (cb.cells (jI l kA kC cA cC bA bC))),(vA (bq.cells (bq.mk d.Out d.de d.Time (j1 d.bO sgA sgC))))] [(rd kA l.aH.length 9 (l.aH.map aj.cells)),(rd cA l.ah.length 2 (List.zipWith al.cells l.ah az)),(eg (aZ al.fB l.ah az)),(rd bA l.ab.length 4 (l.ab.map bL.cells)),(rd sgA d.bO.ag.length 2 (d.bO.ag.map aD.cells))] (vT [(vA (aa.cells (nm l d))),(vB (decide (gN l d)))]):=by
 have K:=hin.pO
 have J:=hin.pJ
 have H:=hin.mE
 have AA:=hin.pQ
 refine bu kr Tryz.func91 U U fun O Q hQ hN=>?_
 try dsimp only
 refine WS fun _ B=>eQ U fun L=>eQ U fun M=>AL U cR fun N=>bp 1 U<|RK B<|ai fun _ E=>av<|WS fun _ C=>rP 3 [] (mc 1 U mn) ?_
 refine RK C<|bH U (fun G=>?_) (fun G=>?_)
 ·exact absurd ((hk).symm.trans G) dc
 refine WS fun _ A=>rS (SX (bg (xs:=[]) (cs:=(aa.cells (aa.mk 0 0))) U U (bh eM U)) U U)<|rP 4 [] (mc 1 U mn) ?_
 refine dY (t:=15) U (fun D=>?_) (fun D=>?_)
 ·rw [Bool.not_eq_false'] at D
  refine bp 10 U<|fg U bS U<|rP 1 [] mn ?_
  refine RK A<|an<|ja hQ [0] (mc 0 U mn) U ?_
  clear hQ hN A C E B
  rw [xg hk]
  simp only [oW hk]
  refine congrArg (fun z=>Value.tuple #[_,vB z]) ?_
  first|rfl|(simp_all [cg]; done)
 rw [Bool.not_eq_true'] at D
 refine bp 1 U<|rS (LP (aa.cells d.Time) 1 U bQ U U U)<|rS (SX (bg (xs:=[]) (cs:=(aa.cells (aa.mk 0 0))) U U (bh eM U)) U U)<|rS (BI U (q7 _ _ d.Time (aa.mk 0 0)))<|rP 2 [] mn ?_
 refine dY (t:=21) U (aP fun F=>?_) (aO fun F=>?_)
 ·refine bp 4 U<|fg U bS U<|rP 1 [] mn ?_
  refine RK A<|an<|ja hQ [0] (mc 0 U mn) U ?_
  clear hQ hN A C E B
  rw [xg hk]
  simp only [oW hk]
  refine congrArg (fun z=>Value.tuple #[_,vB z]) ?_
  first|rfl|(simp_all [cg]; done)
 refine bp 1 U<|rS (LP (dZ.cells (j1 d.bO sgA sgC)) 1 U bQ U U U)<|rS (CL (BH d.bO sgA sgC) (bf [7]) U)<|bp 1 U<|fg U bS U<|rP 1 [] mn ?_
 refine RK A<|an<|ja hQ [0] (mc 0 U mn) U ?_
 clear hQ hN A C E B
 rw [xg hk]
 simp only [oW hk]
 refine congrArg (fun z=>Value.tuple #[_,vB z]) ?_
 first|rfl|(simp_all [cg]; done)
theorem AS (l:aQ) (kA:OA) (kC:Nat) (az:List RA) (cA:OA) (cC:Nat) (bA:OA) (bC:Nat) (d:aw) (sgA:OA) (sgC:Nat) (hin:dF l az) (hle:cY l=0) (hsl:d.bO.ag.length≤1000000) (hk:d.Out=false∧d.de=true):
 dL Tryz.prog 91 [(vA (cb.cells (jI l kA kC cA cC bA bC))),(vA (bq.cells (bq.mk d.Out d.de d.Time (j1 d.bO sgA sgC))))] [(rd kA l.aH.length 9 (l.aH.map aj.cells)),(rd cA l.ah.length 2 (List.zipWith al.cells l.ah az)),(eg (aZ al.fB l.ah az)),(rd bA l.ab.length 4 (l.ab.map bL.cells)),(rd sgA d.bO.ag.length 2 (d.bO.ag.map aD.cells))] (vT [(vA (aa.cells (nm l d))),(vB (decide (gN l d)))]):=by
 have N:=hin.pO
 have M:=hin.pJ
 have K:=hin.mE
 have L:=hin.pQ
 refine bu kr Tryz.func91 U U fun S Q hQ hN=>?_
 try dsimp only
 refine WS fun _ D=>eQ U fun O=>eQ U fun P=>AL U cR fun R=>bp 1 U<|RK D<|ai fun _ H=>av<|WS fun _ E=>rP 3 [] (mc 1 U mn) ?_
 refine RK E<|cw U (fun J=>?_) (fun J=>?_)
 ·exact absurd ((hk.1).symm.trans J) dc
 refine WS fun _ F=>rP 3 [] (mc 1 U mn) ?_
 refine RK F<|bH U (fun G=>?_) (fun G=>?_)
 ·exact absurd ((hk.2).symm.trans G) dc
 refine ai fun _ B=>dj bX [10] [] [] [1,2,3,4,5,6,7] [] U U U U U<|eS U (FA 2 U fq U)<|eS U (LP (aa.cells d.Time) 0 U bQ U U U)<|eS U (FA 2 U fq U)<|eS U (LP (aa.cells d.Time) 0 U bQ U U U)<|eS U (CL (IE d.Time) (aR) U)<|eS U (MV U)<|o3 (t:=34) U (fun A=>?_) (fun A=>?_)
 rotate_left 1
 ·replace A:=DF A
  refine eS U (OX U)<|eS U (OX U)<|eS U (OX U)<|eS U (PK U)<|eS U (AG U)<|dW U<|bV U fun T10 C=>fg U bS U<|aA (C _ _ (aC [1,2,3,4,5,6,7]) ?_)
  refine eU U<|KK B<|an<|ja hQ [0] (mc 0 U mn) U ?_
  clear hQ hN C T10 B F E H D
  rw [BT hk]
  simp only [tG hk]
  refine congrArg (fun z=>Value.tuple #[_,vB z]) ?_
  first|rfl|(simp_all; done)
 replace A:=DT A
 refine eS U (FA 4 U fq U)<|eS U (LP (dZ.cells (j1 d.bO sgA sgC)) 0 U bQ U U U)<|eS U (CL (BH d.bO sgA sgC) (bf [6]) U)<|eS U (PK U)<|eS U (AG U)<|dW U<|bV U fun T9 AA=>fg U bS U<|aA (AA _ _ (aC [1,2,3,4,5,6,7]) ?_)
 refine eU U<|KK B<|an<|ja hQ [0] (mc 0 U mn) U ?_
 clear hQ hN AA T9 B F E H D
 rw [BT hk]
 simp only [tG hk]
 refine congrArg (fun z=>Value.tuple #[_,vB z]) ?_
 first|rfl|(simp_all; done)
theorem AW (l:aQ) (kA:OA) (kC:Nat) (az:List RA) (cA:OA) (cC:Nat) (bA:OA) (bC:Nat) (d:aw) (sgA:OA) (sgC:Nat) (hin:dF l az) (hle:cY l=0) (hsl:d.bO.ag.length≤1000000) (hk:d.Out=false∧d.de=false):
 dL Tryz.prog 91 [(vA (cb.cells (jI l kA kC cA cC bA bC))),(vA (bq.cells (bq.mk d.Out d.de d.Time (j1 d.bO sgA sgC))))] [(rd kA l.aH.length 9 (l.aH.map aj.cells)),(rd cA l.ah.length 2 (List.zipWith al.cells l.ah az)),(eg (aZ al.fB l.ah az)),(rd bA l.ab.length 4 (l.ab.map bL.cells)),(rd sgA d.bO.ag.length 2 (d.bO.ag.map aD.cells))] (vT [(vA (aa.cells (nm l d))),(vB (decide (gN l d)))]):=by
 have O:=hin.pO
 have N:=hin.pJ
 have L:=hin.mE
 have M:=hin.pQ
 refine bu kr Tryz.func91 U U fun AA Q hQ hN=>?_
 try dsimp only
 refine WS fun _ E=>eQ U fun P=>eQ U fun R=>AL U cR fun S=>bp 1 U<|RK E<|ai fun _ F=>av<|WS fun _ G=>rP 3 [] (mc 1 U mn) ?_
 refine RK G<|cw U (fun K=>?_) (fun K=>?_)
 ·exact absurd ((hk.1).symm.trans K) dc
 refine WS fun _ H=>rP 3 [] (mc 1 U mn) ?_
 refine RK H<|cw U (fun J=>?_) (fun J=>?_)
 ·exact absurd ((hk.2).symm.trans J) dc
 refine cy<|aG<|KK F<|WS fun _ AB=>eZ 2 [] (mc 2 U mn) U<|rS (LP (dZ.cells (j1 d.bO sgA sgC)) 1 U bQ U U U)<|rS (CL (Ko l kA kC az cA cC bA bC d.bO sgA sgC hin hsl) (bf [3,4,5,6,7]) U)<|bp 3 U<|AL U cR fun T=>fg U bS U<|rP 1 [] mn ?_
 refine RK AB<|ai fun _ A=>dj bX [9] [] [] [0,2,3,4,5,6,7,8] [] U U U U U<|eS U (LW 0 U bQ U U)<|eS U (MV U)<|eS U (BI U pD)<|eS U (MV U)<|o3 (t:=49) U (fun B=>?_) (fun B=>?_)
 rotate_left 1
 ·replace B:=DF B
  refine eS U (OX U)<|eS U (OX U)<|eS U (OX U)<|eS U (OX U)<|eS U (PK U)<|eS U (AG U)<|dW U<|bV U fun T12 D=>qf U bS U<|aA (D _ _ (aC [0,2,3,4,5,6,7,8]) ?_)
  refine eU U<|KK A<|an<|ja hQ [0] (mc 1 U mn) U ?_
  clear hQ hN D T12 A AB H G F E
  rw [Co hk]
  simp only [ug hk]
  refine congrArg (fun z=>Value.tuple #[_,vB z]) ?_
  first|rfl|(simp_all [cg]; done)
 replace B:=DT B
 refine eS U (FA 2 U fq U)<|eS U (LP (aa.cells d.Time) 1 U bQ U U U)<|eS U (SX (bg (xs:=[]) (cs:=(aa.cells (aa.mk 0 0))) U U (bh eM U)) U U)<|eS U (BI U (q7 _ _ d.Time (aa.mk 0 0)))<|eS U (PK U)<|eS U (AG U)<|dW U<|bV U fun T11 C=>qf U bS U<|aA (C _ _ (aC [0,2,3,4,5,6,7,8]) ?_)
 refine eU U<|KK A<|an<|ja hQ [0] (mc 1 U mn) U ?_
 clear hQ hN C T11 A AB H G F E
 rw [Co hk]
 simp only [ug hk]
 refine congrArg (fun z=>Value.tuple #[_,vB z]) ?_
 first|rfl|(simp_all [cg]; done)
theorem CO (l:aQ) (kA:OA) (kC:Nat) (az:List RA) (cA:OA) (cC:Nat) (bA:OA) (bC:Nat) (d:aw) (sgA:OA) (sgC:Nat) (hin:dF l az) (hle:cY l=0) (hsl:d.bO.ag.length≤1000000):
 dL Tryz.prog 91 [(vA (cb.cells (jI l kA kC cA cC bA bC))),(vA (bq.cells (bq.mk d.Out d.de d.Time (j1 d.bO sgA sgC))))] [(rd kA l.aH.length 9 (l.aH.map aj.cells)),(rd cA l.ah.length 2 (List.zipWith al.cells l.ah az)),(eg (aZ al.fB l.ah az)),(rd bA l.ab.length 4 (l.ab.map bL.cells)),(rd sgA d.bO.ag.length 2 (d.bO.ag.map aD.cells))] (vT [(vA (aa.cells (nm l d))),(vB (decide (gN l d)))]):=by
 by_cases ho:d.Out=true
 ·exact Ax l kA kC az cA cC bA bC d sgA sgC hin hle hsl ho
 by_cases hf:d.de=true
 ·exact AS l kA kC az cA cC bA bC d sgA sgC hin hle hsl ⟨by simpa using ho,hf⟩
 ·exact AW l kA kC az cA cC bA bC d sgA sgC hin hle hsl ⟨by simpa using ho,by simpa using hf⟩
end
section
open Go.RowKit
theorem AE (r:cV) (kA:OA) (kC:Nat) (az:List RA) (cA:OA) (cC:Nat) (bA:OA) (bC:Nat) (slA:OA) (slC:Nat) (drA:OA) (drC:Nat) (ha:List dv) (heA:OA) (heC:Nat) (hin:fZ r az ha) (hle:cY r.aF=0):
 pH Tryz.prog 68 [(vA (eC.cells (pB r kA kC cA cC bA bC slA slC drA drC heA heC)))] [(rd kA r.aF.aH.length 9 (r.aF.aH.map aj.cells)),(rd cA r.aF.ah.length 2 (List.zipWith al.cells r.aF.ah az)),(eg (aZ al.fB r.aF.ah az)),(rd bA r.aF.ab.length 4 (r.aF.ab.map bL.cells)),(rd slA r.aT.length 1 (r.aT.map iC)),(rd drA r.bo.length 1 (r.bo.map iC)),(rd heA r.ay.length 1 (List.zipWith c_ r.ay ha)),(eg (aZ gP r.ay ha))] (fun (x:Bool×Int×(OA)×Nat×(List RA))=>bif x.1 then (vT [(vS x.2.2.1 ((cj r).length) x.2.2.2.1),(vB true)]) else (vT [(vS none 0 0),(vB false)])) (fun (x:Bool×Int×(OA)×Nat×(List RA))=>(x.1=true→(eI r∧x.2.2.2.2.length=r.ay.length))∧(x.1=false→(x.2.1=0∧ ¬ eI r))) (fun (x:Bool×Int×(OA)×Nat×(List RA))=>bif x.1 then [(own x.2.2.1 x.2.2.2.1 78 1 (List.zipWith wF (cj r) x.2.2.2.2)),(bM (aZ yh (cj r) x.2.2.2.2))] else []):=by
 have BO:=hin.line
 have BY:=hin.iG
 have BZ:=hin.has
 have BT:=hin.iE
 have BR:=hin.draw
 have BU:=dK (r:=r)
 refine fm kr Tryz.func68 U U fun w0 Q hQ hN=>?_
 try dsimp only
 refine WS fun _ BE=>eQ U fun b2=>bp 2 U<|RK BE<|WS fun _ BF=>eZ 4 [] (mc 0 U mn) U<|RK BF<|ai fun _ BG=>WS fun _ N=>bp 1 U<|rS (CL (jO (r.aT.length:Int) 1 5) (aR) U)<|rP 2 [] mn ?_
 refine cr (t:=19) U (aW fun A6=>?_) (aX fun A6=>?_)
 ·refine bp 19 U<|RK N<|aJ U<|WS fun _ BH=>rP 2 [] mn ?_
  refine RK BH<|an<|LX hQ (false,0,none,0,[]) [] [] mn U (by rfl) U U ?_
  (exact ⟨Ed,fun _=>⟨rfl,fun q=>by have S:=q.num; have q2:=q.uP; have q3:=q.nh; have q4:=q.uA; omega⟩⟩)
 refine rP 7 [] (mc 0 U mn) ?_
 refine cr (t:=26) U (aW fun X=>?_) (aX fun X=>?_)
 ·refine bp 12 U<|RK N<|aJ U<|WS fun _ BI=>rP 2 [] mn ?_
  refine RK BI<|an<|LX hQ (false,0,none,0,[]) [] [] mn U (by rfl) U U ?_
  (exact ⟨Ed,fun _=>⟨rfl,fun q=>by have S:=q.num; have q2:=q.uP; have q3:=q.nh; have q4:=q.uA; omega⟩⟩)
 refine eZ 2 [] (mc 0 U mn) U<|rS (CL (jO r.i_ 0 5) (aR) U)<|rP 3 [] mn ?_
 refine cr (t:=32) U (aW fun A7=>?_) (aX fun A7=>?_)
 ·refine bp 6 U<|RK N<|aJ U<|WS fun _ BJ=>rP 2 [] mn ?_
  refine RK BJ<|an<|LX hQ (false,0,none,0,[]) [] [] mn U (by rfl) U U ?_
  (exact ⟨Ed,fun _=>⟨rfl,fun q=>by have S:=q.num; have q2:=q.uP; have q3:=q.nh; have q4:=q.uA; omega⟩⟩)
 refine eZ 3 [] (mc 0 U mn) U<|rS (CL (jO (r.ay.length:Int) 1 3) (aR) U)<|rP 2 [] mn ?_
 refine RK N<|cw U (aW fun A9=>?_) (aX fun A9=>?_)
 ·refine WS fun _ BK=>rP 2 [] mn ?_
  refine RK BK<|an<|LX hQ (false,0,none,0,[]) [] [] mn U (by rfl) U U ?_
  (exact ⟨Ed,fun _=>⟨rfl,fun q=>by have S:=q.num; have q2:=q.uP; have q3:=q.nh; have q4:=q.uA; omega⟩⟩)
 refine WK BG<|ai fun _ o=>WS fun _ p=>rP 1 [] mn ?_
 refine RK p<|av ?_
 have A:(0≤r.aT.length)∧(uO r 0):=by exact ⟨Nat.zero_le _,F3⟩
 refine bI (ι:={z:Nat // (z≤r.aT.length)∧(uO r z)}) [1,4] [0,1,2,3,4,5,6,7,8] U U (fun z=>[(5,(vI (z.1:Int)))]) (fun z=>[]) (fun _=>rfl) (fun _=>rfl) (fun z=>r.aT.length-z.1) ⟨0,A⟩ (aU U) (aC [0,1,2,3,4,5,6,7,8]) ?_
 clear A
 rintro ⟨i,⟨BN,Az⟩⟩ J12 T
 try dsimp only
 refine ai fun _ s=>WS fun _ v=>rP 3 [] mn ?_
 refine RK v<|bH U (aP fun A5=>?_) (aO fun A5=>?_)
 ·refine bx<|ae<|ae<|ax<|KK o<|WS fun _ AS=>bp 1 U<|RK AS<|ai fun _ AT=>WS fun _ AU=>rP 1 [] mn ?_
  refine RK AU<|av<|fT 78 1<|nU ?_
  have A:(0≤r.ay.length)∧(([]:List RA).length=0)∧(iw r 0):=by exact ⟨Nat.zero_le _,rfl,ur⟩
  refine bI (ι:={z:Nat×(List RA)×(OA)×Nat // (z.1≤r.ay.length)∧(z.2.1.length=z.1)∧(iw r z.1)}) [1,4] [2,3,4,5,6,7,8,9,10] U U (fun z=>[(7,(vS z.1.2.2.1 ((List.zipWith zy (fx r z.1.1) z.1.2.1).length) z.1.2.2.2)),(8,(vI (z.1.1:Int)))]) (fun z=>[(bM (aZ yh (fx r z.1.1) z.1.2.1)),(own z.1.2.2.1 z.1.2.2.2 78 1 (List.map sC (List.zipWith zy (fx r z.1.1) z.1.2.1)))]) (fun _=>rfl) (fun _=>rfl) (fun z=>r.ay.length-z.1.1) ⟨(0,([]:List RA),none,0),A⟩ (aU U) (aC [2,3,4,5,6,7,8,9,10,0,1]) ?_
  clear A
  rintro ⟨⟨h,tz,a,c⟩,⟨P,C,F⟩⟩ J46 l
  try dsimp only at P C F
  try dsimp only
  refine ai fun _ AV=>WS fun _ AW=>rP 5 [] (mc 0 U mn) ?_
  refine RK AW<|bH U (aP fun A_=>?_) (aO fun A_=>?_)
  ·refine bx<|ae<|ae<|ax<|KK AT<|ai fun _ Al=>?_
   have BM:fx r h=cj r:=by unfold cj; rw [show h=r.ay.length by omega]
   have BP:tz.length=r.ay.length:=by omega
   rw [BM,vN,show (List.zipWith zy (cj r) tz).length=(cj r).length from by rw [List.length_zipWith]; omega]
   have Aw:eI r:=CC (n:=i) I I I I I Az F I
   refine ak<|rP 3 [] mn ?_
   refine RK Al<|an ?_
   refine LX hQ (true,0,a,c,tz) [10,9] [] mn U (by (show List.all _ _=true; simp only [cond_true,iD,List.all_nil,xz,Bool.and_true]; rfl)) U U ?_
   exact ⟨fun _=>⟨Aw,BP⟩,Lm⟩
  refine WK AV<|ai fun _ AX=>av<|ai fun _ AY=>WS fun _ AZ=>rP 3 [] (mc 0 U mn) ?_
  obtain ⟨ht,D⟩:=aB r.ay h I
  obtain ⟨E,H⟩:=aB ha h I
  have W:(List.zipWith c_ r.ay ha)[h]? =some (c_ ht E):=db D H
  refine rS (IA h U (aq 7 U) mL dc I I) ?_
  have Av:=hin.mH _ _ _ D H
  have BS:=Av.mE
  refine rS (fE h 0 (vS E.1.1 ht.length E.1.2) U bQ (aq 7 U) W U dc U)<|rP 3 [] mn ?_
  refine RK AZ<|cw U (aW fun e=>?_) (aX fun e=>?_)
  ·refine WS fun _ Aa=>rP 2 [] mn ?_
   refine RK Aa<|an<|LX hQ (false,0,none,0,[]) [] [] mn U (by rfl) U U ?_
   (exact ⟨Ed,fun _=>⟨rfl,fun q=>by have S:=(q.mH ht (aI D)).1; omega⟩⟩)
  refine WK AY<|WS fun _ Ab=>bp 1 U<|RK Ab<|ai fun _ Ac=>WS fun _ Ad=>rP 1 [] mn ?_
  refine RK Ad<|av<|fT 47 2 ?_
  have A:(0≤ht.length)∧(mj r.aF ht 0):=by exact ⟨Nat.zero_le _,sP⟩
  refine bI (ι:={z:Nat×(OA)×Nat // (z.1≤ht.length)∧(mj r.aF ht z.1)}) [1,4,7,8] [1,2,3,4,5,6,7,8,9,10,11] U U (fun z=>[(9,(vS z.1.2.1 (((ht.take z.1.1).map (eL r.aF)).length) z.1.2.2)),(10,(vI (z.1.1:Int)))]) (fun z=>[(own z.1.2.1 z.1.2.2 47 2 (((ht.take z.1.1).map (eL r.aF)).map aa.cells))]) (fun _=>rfl) (fun _=>rfl) (fun z=>ht.length-z.1.1) ⟨(0,none,0),A⟩ (aU U) (aC [1,2,3,4,5,6,7,8,9,10,11,0]) ?_
  clear A
  rintro ⟨⟨j,la,lc⟩,⟨R,G⟩⟩ J57 m
  try dsimp only at R G
  try dsimp only
  refine ai fun _ Ae=>WS fun _ Af=>rP 3 [] mn ?_
  refine RK Af<|bH U (aP fun BC=>?_) (aO fun BC=>?_)
  ·refine bx<|ae<|ae<|ax<|KK Ac<|ak ?_
   rw [show ((ht.take j).map (eL r.aF))=ht.map (eL r.aF) from by rw [List.take_of_length_le I]]
   refine rP 2 [] mn ?_
   refine fw (xs:=[.tmp 137]) (cs:=[(vS la ((ht.map (eL r.aF)).length) lc)]) U Bn Nb U U U U (by simp [Value.cells]) U U fun BX=>?_
   refine cG (es2:=(List.map sC (List.zipWith zy (fx r (h+1)) (tz++[(la,lc)])))) (m':=(List.zipWith zy (fx r (h+1)) (tz++[(la,lc)])).length) 11 U U U L8 U U sm (bj (es:=List.map sC [(bE.mk la ((ht.map (eL r.aF)).length) lc)]) 0 U U (by simp [vV]) U) (Eh _) (by rw [List.length_zipWith,jA I]; omega) (by rw [List.length_zipWith,jA I]; simp only [maxLen]; omega) (by rw [qi D C,List.map_append]; rfl) (by rw [qi D C]; simp) U fun A2 A4=>?_
   try dsimp only
   refine bp 1 U<|aA<|aG<|KK AX<|ak<|rP 3 [] mn ?_
   refine aA<|wq (X':=aZ yh (fx r (h+1)) (tz++[(la,lc)])) 10 12 U U (yv (a:=(la,lc)) D C) ?_
   have At:(vI (((h+1):Nat):Int))=(vI ((h:Int)+1)):=by exact cI I
   refine aS (l ⟨((h+1),(tz++[(la,lc)]),A2,A4),⟨I,by simp; omega,uf F D (Cc I G I)⟩⟩ _ _ _ U os (cE 3<|aV U At<|cS.nil _) (aC [2,3,4,5,6,7,8,9,10,0,11]))
  refine WK Ae<|ai fun _ Ag=>av<|ai fun _ Ah=>dj bX [14,15] [] [] [0,1,2,3,4,5,6,7,8,9,10,11] [] U U U U U<|eS U (FA 0 U fq U)<|eS U (LP (cb.cells (jI r.aF kA kC cA cC bA bC)) 0 U bQ U U U)<|eS U (FA 10 U fq U)<|eS U (L1 (vS heA r.ay.length heC) 0 U bQ U U)<|eS U (MV U)<|eS U (IA h U (aq 7 U) mL dc I I)<|eS U (fE h 0 (vS E.1.1 ht.length E.1.2) U bQ (aq 7 U) W U dc U)<|eS U (MV U) ?_
  obtain ⟨d,hd⟩:=aB ht j I
  obtain ⟨da,Au⟩:=aB E.2 j I
  have BL:(List.zipWith aw.cells ht E.2)[j]? =some (aw.cells d da):=db hd Au
  refine eS U (IA j U (show fR _ (rd E.1.1 ht.length 7 (List.zipWith aw.cells ht E.2)).holds from (bT 8 U (bk D H ck))) sU dc I I)<|eS U (j0 j 0 (bq.cells (bq.mk d.Out d.de d.Time (dZ.mk d.bO.Start d.bO.eX (bE.mk da.1 d.bO.ag.length da.2)))) U bQ (show fR _ (rd E.1.1 ht.length 7 (List.zipWith aw.cells ht E.2)).holds from (bT 8 U (bk D H ck))) BL U dc U U) ?_
  have Ba:=Av.sig d (aI hd)
  refine eS U (CL (CO r.aF kA kC az cA cC bA bC d da.1 da.2 asm hle asm) (kF [1,2,3,4]<|aL (show fR _ (rd da.1 d.bO.ag.length 2 (d.bO.ag.map aD.cells)).holds from (bT 8 U (bk D H (dq _ (bk hd Au (by simp [aw.fB]))))))<|aR) U)<|eS U (MV U)<|eS U (EX U)<|eS U (EX U)<|eS U (AG U)<|dW U<|bV U fun T63 Am=>AL U cR fun BV=>aA (Am _ _ (aC [1,2,3,4,5,6,7,8,9,10,11,12]) ?_)
  refine bV U fun T65 An=>fg U bS U<|aA (An _ _ (aC [1,2,3,4,5,6,7,8,9,10,11,12]) ?_)
  refine eU U<|KK Ah<|ai fun _ Ai=>WS fun _ Aj=>rP 2 [] mn ?_
  refine RK Aj<|cw U (aW fun J=>?_) (aX fun J=>?_)
  ·refine WS fun _ Ak=>rP 2 [] mn ?_
   refine RK Ak<|an<|LX hQ (false,0,none,0,[]) [] [] mn U (by rfl) U U ?_
   (exact ⟨Ed,fun _=>⟨rfl,fun q=>by exact J ((q.mH ht (aI D)).2 d (aI hd))⟩⟩)
  refine WK Ai<|ak<|rP 2 [] (mc 0 U mn) ?_
  refine fw (xs:=[.tmp 133]) (cs:=(aa.cells (nm r.aF d))) U kB cR U U U U (by simp [Value.cells,aa.a_]) U U fun BW=>?_
  refine cG (es2:=(List.map aa.cells ((ht.take (j+1)).map (eL r.aF)))) (m':=((ht.take (j+1)).map (eL r.aF)).length) 13 U U U Gv U U sm (bj (es:=List.map aa.cells [(nm r.aF d)]) 0 U U (by simp [aa.a_]) U) (ij _) (by simp only [List.length_map,List.length_take]; omega) (by simp only [maxLen,List.length_map,List.length_take]; omega) (by rw [List.take_add_one,hd]; simp [F6 J]) sq U fun A1 A3=>?_
  try dsimp only
  refine bp 1 U<|aA<|aG<|KK Ag<|ak<|rP 3 [] mn ?_
  refine aA ?_
  have As:(vI (((j+1):Nat):Int))=(vI ((j:Int)+1)):=by exact cI I
  refine aS (m ⟨((j+1),A1,A3),⟨I,sG G hd J⟩⟩ _ _ _ U os (cE 5<|aV U As<|cS.nil _) (aC [2,3,4,5,6,7,8,9,10,11,12,13]))
 refine WK s<|ai fun _ Ay=>av<|ai fun _ V=>ai fun _ K=>cU bX 36 kr<|dP 3 [] (mc 0 U mn) ?_
 obtain ⟨y,hy⟩:=aB r.aT i I
 have Ax:=br iC hy
 refine dS (IA i U (aq 5 U) cN dc I I)<|dS (fE i 0 (vI y) U bQ (aq 5 U) Ax U dc U)<|dS (CL (jO y 0 9999) (aR) U)<|dP 2 [] mn ?_
 refine gX (t:=51) U (aW fun BA=>?_) (aX fun BA=>?_)
 ·refine jY 28 U<|cv<|RK K<|aJ U<|WS fun _ w=>rP 2 [] mn ?_
  refine RK w<|an<|LX hQ (false,0,none,0,[]) [] [] mn U (by rfl) U U ?_
  (exact ⟨Ed,fun _=>⟨rfl,fun q=>by have S:=(q.ids i y hy).1; omega⟩⟩)
 refine dP 3 [] mn ?_
 refine fU (t:=54) U (aP fun BB=>?_) (aO fun BB=>?_)
 ·refine dP 18 [] (mc 0 U mn) ?_
  obtain ⟨x,hx⟩:=aB r.bo i I
  have M:=br iC hx
  refine dS (IA i U (aq 6 U) cN dc I I)<|dS (fE i 0 (vI x) U bQ (aq 6 U) M U dc U)<|jY 2 U<|dS (CL (jO x 0 ((r.aT.length:Int)-1)) (aR) U)<|dP 2 [] mn ?_
  refine cv<|RK K<|cw U (aW fun Y=>?_) (aX fun Y=>?_)
  ·refine WS fun _ AK=>rP 2 [] mn ?_
   refine RK AK<|an<|LX hQ (false,0,none,0,[]) [] [] mn U (by rfl) U U ?_
   (exact ⟨Ed,fun _=>⟨rfl,fun q=>by have S:=q.wN hx; omega⟩⟩)
  refine WK V<|WS fun _ AM=>rP 1 [] mn ?_
  refine RK AM<|av ?_
  have A:(0≤i)∧(∀ (q:Nat) y,q<0→r.bo[q]? =some y→y≠x):=by exact ⟨Nat.zero_le _,fun q y hq=>absurd hq (Nat.not_lt_zero _)⟩
  refine bI (ι:={z:Nat // (z≤i)∧(∀ (q:Nat) y,q<z→r.bo[q]? =some y→y≠x)}) [1,4,5] [0,1,2,3,4,5,6,7,8] U U (fun z=>[(6,(vI (z.1:Int)))]) (fun z=>[]) (fun _=>rfl) (fun _=>rfl) (fun z=>i-z.1) ⟨0,A⟩ (aU U) (aC [0,1,2,3,4,5,6,7,8]) ?_
  clear A
  rintro ⟨k,⟨O,B⟩⟩ J34 g
  try dsimp only
  refine ai fun _ AN=>WS fun _ AO=>rP 3 [] mn ?_
  refine RK AO<|bH U (aP fun A8=>?_) (aO fun A8=>?_)
  ·refine bx<|ae<|ae<|ax<|aG<|KK Ay<|ak<|rP 3 [] mn ?_
   refine aA ?_
   have Ar:(vI (((i+1):Nat):Int))=(vI ((i:Int)+1)):=by exact cI I
   refine aS (T ⟨(i+1),⟨I,za Az (fun a ha=>by rw [hy] at ha; cases ha; exact ⟨I,fun b hb hc=>by omega⟩) (fun a ha=>by rw [hx] at ha; cases ha; exact ⟨I,fun k b hk hb=>B k b I hb⟩)⟩⟩ _ _ _ rfl os (cS.cons rfl<|cS.cons rfl<|aV rfl Ar<|cS.nil _) (aC [0,1,2,3,4,5,6,7,8]))
  refine WK AN<|ai fun _ AP=>av<|ai fun _ AQ=>cU bX 11 kr<|dP 3 [] (mc 0 U mn) ?_
  obtain ⟨u,hu⟩:=aB r.bo k I
  have Z:=br iC hu
  refine dS (IA k U (aq 6 U) cN dc I I)<|dS (fE k 0 (vI u) U bQ (aq 6 U) Z U dc U)<|lg 3 [] (mc 0 U mn) U<|dS (IA i U (aq 6 U) cN dc I I)<|dS (fE i 0 (vI x) U bQ (aq 6 U) M U dc U)<|dP 1 [] mn ?_
  refine cv<|RK AQ<|bH U (aP fun L=>?_) (aO fun L=>?_)
  ·refine cy<|aG<|KK AP<|ak<|rP 3 [] mn ?_
   refine aA ?_
   have Aq:(vI (((k+1):Nat):Int))=(vI ((k:Int)+1)):=by exact cI I
   refine aS (g ⟨(k+1),⟨I,ud B hu L⟩⟩ _ _ _ U os (cE 3<|aV U Aq<|cS.nil _) (aC [0,1,2,3,4,5,6,7,8]))
  refine WS fun _ AR=>rP 2 [] mn ?_
  refine RK AR<|an<|LX hQ (false,0,none,0,[]) [] [] mn U (by rfl) U U ?_
  (exact ⟨Ed,fun _=>⟨rfl,fun q=>by have S:=q.num; have q2:=q.uP; have q3:=q.nh; have q4:=q.uA; omega⟩⟩)
 refine lg 3 [] (mc 0 U mn) U<|dS (IA i U (aq 5 U) cN dc I I)<|dS (fE i 0 (vI y) U bQ (aq 5 U) Ax U dc U)<|dP 4 [] (mc 0 U mn) ?_
 obtain ⟨z,hz⟩:=aB r.aT (i-1) I
 have BQ:=br iC hz
 refine dS (IA (i-1) U (aq 5 U) cN dc I I)<|dS (fE (i-1) 0 (vI z) U bQ (aq 5 U) BQ U dc U)<|dP 4 [] mn ?_
 refine gX (t:=69) U (aO fun BD=>?_) (aP fun BD=>?_)
 ·refine jY 10 U<|cv<|RK K<|aJ U<|WS fun _ AA=>rP 2 [] mn ?_
  refine RK AA<|an<|LX hQ (false,0,none,0,[]) [] [] mn U (by rfl) U U ?_
  (exact ⟨Ed,fun _=>⟨rfl,fun q=>by have S:=(q.ids i y hy).2 z I hz; omega⟩⟩)
 refine dP 3 [] (mc 0 U mn) ?_
 obtain ⟨x,hx⟩:=aB r.bo i I
 have M:=br iC hx
 refine dS (IA i U (aq 6 U) cN dc I I)<|dS (fE i 0 (vI x) U bQ (aq 6 U) M U dc U)<|jY 2 U<|dS (CL (jO x 0 ((r.aT.length:Int)-1)) (aR) U)<|dP 2 [] mn ?_
 refine cv<|RK K<|cw U (aW fun Y=>?_) (aX fun Y=>?_)
 ·refine WS fun _ AB=>rP 2 [] mn ?_
  refine RK AB<|an<|LX hQ (false,0,none,0,[]) [] [] mn U (by rfl) U U ?_
  (exact ⟨Ed,fun _=>⟨rfl,fun q=>by have S:=q.wN hx; omega⟩⟩)
 refine WK V<|WS fun _ AC=>rP 1 [] mn ?_
 refine RK AC<|av ?_
 have A:(0≤i)∧(∀ (q:Nat) y,q<0→r.bo[q]? =some y→y≠x):=by exact ⟨Nat.zero_le _,fun q y hq=>absurd hq (Nat.not_lt_zero _)⟩
 refine bI (ι:={z:Nat // (z≤i)∧(∀ (q:Nat) y,q<z→r.bo[q]? =some y→y≠x)}) [1,4,5] [0,1,2,3,4,5,6,7,8] U U (fun z=>[(6,(vI (z.1:Int)))]) (fun z=>[]) (fun _=>rfl) (fun _=>rfl) (fun z=>i-z.1) ⟨0,A⟩ (aU U) (aC [0,1,2,3,4,5,6,7,8]) ?_
 clear A
 rintro ⟨k,⟨O,B⟩⟩ J23 f
 try dsimp only
 refine ai fun _ AD=>WS fun _ AF=>rP 3 [] mn ?_
 refine RK AF<|bH U (aP fun X=>?_) (aO fun X=>?_)
 ·refine bx<|ae<|ae<|ax<|aG<|KK Ay<|ak<|rP 3 [] mn ?_
  refine aA ?_
  have Ap:(vI (((i+1):Nat):Int))=(vI ((i:Int)+1)):=by exact cI I
  refine aS (T ⟨(i+1),⟨I,za Az (fun a ha=>by rw [hy] at ha; cases ha; exact ⟨I,fun b hb hc=>by (rw [hz] at hc; cases hc; omega)⟩) (fun a ha=>by rw [hx] at ha; cases ha; exact ⟨I,fun k b hk hb=>B k b I hb⟩)⟩⟩ _ _ _ rfl os (cS.cons rfl<|cS.cons rfl<|aV rfl Ap<|cS.nil _) (aC [0,1,2,3,4,5,6,7,8]))
 refine WK AD<|ai fun _ AH=>av<|ai fun _ AI=>cU bX 11 kr<|dP 3 [] (mc 0 U mn) ?_
 obtain ⟨u,hu⟩:=aB r.bo k I
 have Z:=br iC hu
 refine dS (IA k U (aq 6 U) cN dc I I)<|dS (fE k 0 (vI u) U bQ (aq 6 U) Z U dc U)<|lg 3 [] (mc 0 U mn) U<|dS (IA i U (aq 6 U) cN dc I I)<|dS (fE i 0 (vI x) U bQ (aq 6 U) M U dc U)<|dP 1 [] mn ?_
 refine cv<|RK AI<|bH U (aP fun L=>?_) (aO fun L=>?_)
 ·refine cy<|aG<|KK AH<|ak<|rP 3 [] mn ?_
  refine aA ?_
  have Ao:(vI (((k+1):Nat):Int))=(vI ((k:Int)+1)):=by exact cI I
  refine aS (f ⟨(k+1),⟨I,ud B hu L⟩⟩ _ _ _ U os (cE 3<|aV U Ao<|cS.nil _) (aC [0,1,2,3,4,5,6,7,8]))
 refine WS fun _ AJ=>rP 2 [] mn ?_
 refine RK AJ<|an<|LX hQ (false,0,none,0,[]) [] [] mn U (by rfl) U U ?_
 (exact ⟨Ed,fun _=>⟨rfl,fun q=>by exact q.KS I hu hx L⟩⟩)
end
section
open Go.RowKit
theorem pj (r:cV) (kA:OA) (kC:Nat) (az:List RA) (cA:OA) (cC:Nat) (bA:OA) (bC:Nat) (slA:OA) (slC:Nat) (drA:OA) (drC:Nat) (ha:List dv) (heA:OA) (heC:Nat) (hin:fZ r az ha):
 pH Tryz.prog 34 [(vA (eC.cells (pB r kA kC cA cC bA bC slA slC drA drC heA heC)))] [(rd kA r.aF.aH.length 9 (r.aF.aH.map aj.cells)),(rd cA r.aF.ah.length 2 (List.zipWith al.cells r.aF.ah az)),(eg (aZ al.fB r.aF.ah az)),(rd bA r.aF.ab.length 4 (r.aF.ab.map bL.cells)),(rd slA r.aT.length 1 (r.aT.map iC)),(rd drA r.bo.length 1 (r.bo.map iC)),(rd heA r.ay.length 1 (List.zipWith c_ r.ay ha)),(eg (aZ gP r.ay ha))] (fun (x:Bool×Int×(OA)×Nat×(List RA))=>bif x.1 then (vT [(vS x.2.2.1 ((cj r).length) x.2.2.2.1),(vI 0)]) else (vT [(vS none 0 0),(vI x.2.1)])) (fun (x:Bool×Int×(OA)×Nat×(List RA))=>(x.1=true→(eN r=0∧x.2.2.2.2.length=r.ay.length))∧(x.1=false→(x.2.1=eN r∧ ¬ eN r=0))) (fun (x:Bool×Int×(OA)×Nat×(List RA))=>bif x.1 then [(own x.2.2.1 x.2.2.2.1 78 1 (List.zipWith wF (cj r) x.2.2.2.2)),(bM (aZ yh (cj r) x.2.2.2.2))] else []):=by
 have AA:=hin.line
 have b:=hin.iG
 have c:=hin.has
 have Z:=hin.iE
 have Y:=hin.draw
 have a:=dK (r:=r)
 refine fm kr Tryz.func34 U U fun f Q hQ hN=>?_
 try dsimp only
 refine WS fun _ O=>eQ U fun e=>bp 2 U<|RK O<|ai fun _ P=>WS fun _ R=>bp 1 U<|rS (LP (cb.cells (jI r.aF kA kC cA cC bA bC)) 0 U bQ U U U)<|rS (CL (yP r.aF kA kC az cA cC bA bC asm) (bf [1,2,3,4]) U)<|bp 1 U<|RK R<|WS fun _ S=>rP 2 [] mn ?_
 refine RK S<|cw U (aW fun A=>?_) (aX fun A=>?_)
 ·refine WS fun _ T=>rP 3 [] mn ?_
  refine RK T<|an<|LX hQ (false,(cY r.aF),none,0,[]) [] [] mn U (by rfl) U U ?_
  exact rf<|Lj (wb A) A
 refine WK P<|WS fun _ G=>rP 1 [] (mc 0 U mn) ?_
 refine cX (AE r kA kC az cA cC bA bC slA slC drA drC ha heA heC hin (by exact A)) (bf [1,2,3,4,5,6,7,8]) U fun d J=>?_
 obtain ⟨K,W,L,M,N⟩:=d
 cases K
 rotate_left 1
 ·obtain ⟨AB,V⟩:=J.1 rfl
  try dsimp only [cond_true,cond_false,List.cons_append,List.nil_append]
  refine bp 5 U<|RK G<|ai fun _ D=>WS fun _ E=>bp 2 U<|RK E<|bU U<|WK D<|WS fun _ F=>rP 3 [] mn ?_
  refine RK F<|an ?_
  refine LX hQ (true,0,L,M,N) [0,1] [] mn U (by (show List.all _ _=true; simp only [cond_true,iD,List.all_nil,xz,Bool.and_true]; rfl)) U U ?_
  exact ⟨fun _=>⟨xS A AB,V⟩,Lm⟩
 obtain ⟨H,he⟩:=J.2 rfl
 try dsimp only at H he
 subst H
 try dsimp only [cond_true,cond_false,List.cons_append,List.nil_append]
 refine bp 5 U<|RK G<|ai fun _ X=>WS fun _ B=>bp 2 U<|RK B<|aJ U<|WS fun _ C=>rP 2 [] mn ?_
 refine RK C<|an<|LX hQ (false,60,none,0,[]) [] [] mn U (by rfl) U U ?_
 exact rf<|vv (jq A he)
end
section
open Go.RowKit
theorem Ch (r:cV) (kA:OA) (kC:Nat) (az:List RA) (cA:OA) (cC:Nat) (bA:OA) (bC:Nat) (slA:OA) (slC:Nat) (drA:OA) (drC:Nat) (ha:List dv) (heA:OA) (heC:Nat) (i:Int) (hin:fZ r az ha):
 dL Tryz.prog 35 [(vA (eC.cells (pB r kA kC cA cC bA bC slA slC drA drC heA heC))),(vI i)] [(rd kA r.aF.aH.length 9 (r.aF.aH.map aj.cells)),(rd cA r.aF.ah.length 2 (List.zipWith al.cells r.aF.ah az)),(eg (aZ al.fB r.aF.ah az)),(rd bA r.aF.ab.length 4 (r.aF.ab.map bL.cells)),(rd slA r.aT.length 1 (r.aT.map iC)),(rd drA r.bo.length 1 (r.bo.map iC)),(rd heA r.ay.length 1 (List.zipWith c_ r.ay ha)),(eg (aZ gP r.ay ha))] (vB (decide (0≤i∧i≤(r.aT.length:Int)-1))):=by
 have C:=hin.line
 have G:=hin.iG
 have H:=hin.has
 have E:=hin.iE
 have D:=hin.draw
 have F:=dK (r:=r)
 refine bu kr Tryz.func35 U U fun J Q hQ hN=>?_
 try dsimp only
 refine WS fun _ A=>eQ U fun AA=>bp 1 U<|RK A<|WS fun _ B=>eZ 5 [] (mc 0 U mn) U<|rS (CL (jO i 0 ((r.aT.length:Int)-1)) (aR) U)<|rP 1 [] mn ?_
 refine RK B<|an ?_
 exact Q1 hQ U U U U
theorem AX (r:cV) (kA:OA) (kC:Nat) (az:List RA) (cA:OA) (cC:Nat) (bA:OA) (bC:Nat) (slA:OA) (slC:Nat) (drA:OA) (drC:Nat) (ha:List dv) (heA:OA) (heC:Nat) (tz:List RA) (tA:OA) (tC:Nat) (n i:Int) (hin:fZ r az ha) (htz:tz.length=r.ay.length) (hn:0≤n∧n≤(r.ay.length:Int)) (hir:0≤i∧i≤(r.aT.length:Int)-1) (hok:iw r r.ay.length):
 dL Tryz.prog 46 [(vA (eC.cells (pB r kA kC cA cC bA bC slA slC drA drC heA heC))),(vS tA ((cj r).length) tC),(vI n),(vI i)] [(rd kA r.aF.aH.length 9 (r.aF.aH.map aj.cells)),(rd cA r.aF.ah.length 2 (List.zipWith al.cells r.aF.ah az)),(eg (aZ al.fB r.aF.ah az)),(rd bA r.aF.ab.length 4 (r.aF.ab.map bL.cells)),(rd slA r.aT.length 1 (r.aT.map iC)),(rd drA r.bo.length 1 (r.bo.map iC)),(rd heA r.ay.length 1 (List.zipWith c_ r.ay ha)),(eg (aZ gP r.ay ha)),(rd tA ((cj r).length) 1 (List.zipWith wF (cj r) tz)),(eg (aZ xM (cj r) tz))] (vT [(vA (aa.cells ((eu r.aF r.ay (i).toNat (n).toNat).getD cg))),(vB ((eu r.aF r.ay (i).toNat (n).toNat).isSome))]):=by
 have m:=hin.line
 have y:=hin.iG
 have AA:=hin.has
 have u:=hin.iE
 have q:=hin.draw
 have v:=dK (r:=r)
 refine bu kr Tryz.func46 U U fun w0 Q hQ hN=>?_
 try dsimp only
 refine WS fun _ Z=>eQ U fun b2=>AL U cR fun b3=>bp 1 U<|RK Z<|WS fun _ a=>AL U cR fun p=>RK a<|ai fun _ b=>WS fun _ c=>rP 1 [] mn ?_
 refine RK c<|av ?_
 have F:((0:Int)≤n)∧((eu r.aF r.ay (i).toNat 0)=some (aa.mk 0 0)):=by exact ⟨I,rfl⟩
 refine bI (ι:={z:Nat×aa // ((z.1:Int)≤n)∧((eu r.aF r.ay (i).toNat z.1)=some z.2)}) [1,2,3,4,8,10] [1,2,3,4,5,6,7,8,9,10,11,12] U U (fun z=>[(11,(vI (z.1.1:Int)))]) (fun z=>[(cd p 47 (aa.cells z.1.2))]) (fun _=>rfl) (fun _=>rfl) (fun z=>n.toNat-z.1.1) ⟨(0,(aa.mk 0 0)),F⟩ (aU U) (aC [1,2,3,4,5,6,7,8,9,10,11,12,0]) ?_
 clear F
 rintro ⟨⟨h,s⟩,⟨J,hl3_1⟩⟩ J8 Y
 try dsimp only at J hl3_1
 try dsimp only
 refine ai fun _ f=>WS fun _ K=>rP 3 [] mn ?_
 refine RK K<|bH U (aP fun X=>?_) (aO fun X=>?_)
 ·refine bx<|ae<|ae<|ax<|KK b<|WS fun _ P=>eZ 1 [] (mc 12 U mn) U<|fg U bS U<|rP 1 [] mn ?_
  refine RK P<|an<|ja hQ [0] (mc 0 U mn) U ?_
  ((have e:eu r.aF r.ay (i).toNat (n).toNat=some s:=by rw [show n.toNat=h by omega]; exact hl3_1); (rw [e]; first|done|rfl))
 refine WK f<|ai fun _ L=>av<|ai fun _ M=>WS fun _ N=>rP 3 [] (mc 1 U mn) ?_
 obtain ⟨ht,C⟩:=aB r.ay h I
 obtain ⟨A,D⟩:=aB ha h I
 have S:(List.zipWith c_ r.ay ha)[h]? =some (c_ ht A):=db C D
 refine rS (IA h U (aq 8 U) mL dc I I) ?_
 have l:=hin.mH _ _ _ C D
 have t:=l.mE
 have T:=hok h ht I C
 have AC:=T.1
 refine rS (fE h 0 (vS A.1.1 ht.length A.1.2) U bQ (aq 8 U) S U dc U)<|rP 1 [] mn ?_
 obtain ⟨d,hd⟩:=aB ht ((i).toNat) I
 obtain ⟨da,g⟩:=aB A.2 ((i).toNat) I
 have k:(List.zipWith aw.cells ht A.2)[(i).toNat]? =some (aw.cells d da):=db hd g
 refine rS (IA ((i).toNat) U (show fR _ (rd A.1.1 ht.length 7 (List.zipWith aw.cells ht A.2)).holds from (bT 9 U (bk C D ck))) sU dc I I)<|rS (mF (((i).toNat)*7) U (show fR _ (rd A.1.1 ht.length 7 (List.zipWith aw.cells ht A.2)).holds from (bT 9 U (bk C D ck))) (Nat.mul_pos I dc) fq U)<|rS (fE ((i).toNat) 0 (vB d.Out) U bQ (show fR _ (rd A.1.1 ht.length 7 (List.zipWith aw.cells ht A.2)).holds from (bT 9 U (bk C D ck))) k U dc U)<|RK N<|cw U (fun AD=>?_) (fun AD=>?_)
 ·refine WS fun _ O=>rS (SX (bg (xs:=[]) (cs:=(aa.cells (aa.mk 0 0))) U U (bh eM U)) U U)<|fg U bS U<|rP 1 [] mn ?_
  refine RK O<|an<|ja hQ [0] (mc 0 U mn) U ?_
  (have e:eu r.aF r.ay (i).toNat (n).toNat=none:=uS (wB C hd AD) I; rw [e]; first|done|rfl)
 refine WK M<|cU bX 25 kr<|dP 4 [] (mc 12 U mn) ?_
 obtain ⟨tr,E⟩:=aB (cj r) h I
 obtain ⟨tra,B⟩:=aB tz h I
 have H:(List.zipWith wF (cj r) tz)[h]? =some (wF tr tra):=db E B
 refine dS (IA h U (aq 10 U) Bn dc I I) ?_
 have G:=px C E
 have w:tr.length=r.aT.length:=by rw [G,List.length_map]; exact AC
 have AB:=tm (fun j x hj hx=>hok j x I hx) I hl3_1
 refine dS (fE h 0 (vS tra.1 tr.length tra.2) U bQ (aq 10 U) H U dc U)<|dP 1 [] mn ?_
 obtain ⟨x,hx⟩:=aB tr ((i).toNat) I
 have W:=br aa.cells hx
 refine dS (IA ((i).toNat) U (show fR _ (rd tra.1 tr.length 2 (tr.map aa.cells)).holds from (bT 11 U (bk E B (by simp [xM])))) kB dc I I) ?_
 have V:=xE G hx hd
 have o:=w9 (T.2 d (aI hd))
 rw [← V] at o
 refine dS (mF (((i).toNat)*2) U (show fR _ (rd tra.1 tr.length 2 (tr.map aa.cells)).holds from (bT 11 U (bk E B (by simp [xM])))) (Nat.mul_pos I dc) fq U)<|dS (fE ((i).toNat) 0 (vI x.Lo) U bQ (show fR _ (rd tra.1 tr.length 2 (tr.map aa.cells)).holds from (bT 11 U (bk E B (by simp [xM])))) W U dc U)<|dS (BI U (oS I I I))<|lg 5 [] (mc 12 U mn) U<|dS (IA h U (aq 10 U) Bn dc I I)<|dS (fE h 0 (vS tra.1 tr.length tra.2) U bQ (aq 10 U) H U dc U)<|jY 1 U<|dS (IA ((i).toNat) U (show fR _ (rd tra.1 tr.length 2 (tr.map aa.cells)).holds from (bT 11 U (bk E B (by simp [xM])))) kB dc I I)<|dS (mF ((((i).toNat)*2)+1) U (show fR _ (rd tra.1 tr.length 2 (tr.map aa.cells)).holds from (bT 11 U (bk E B (by simp [xM])))) (Nat.mul_pos I dc) fq U)<|dS (fE ((i).toNat) 1 (vI x.Hi) U bQ (show fR _ (rd tra.1 tr.length 2 (tr.map aa.cells)).holds from (bT 11 U (bk E B (by simp [xM])))) W U dc U)<|dS (BI U (oS I I I))<|jY 1 U<|dS (SX (bg (xs:=[(0,.tmp 38),(1,.tmp 50)]) (cs:=(aa.cells (aa.mk (s.Lo+(x.Lo/10)) (s.Hi+(x.Hi/10))))) U U (bh eM U)) U U)<|cv<|hO (vs:=(aa.cells (aa.mk (s.Lo+(x.Lo/10)) (s.Hi+(x.Hi/10))))) (cs':=(aa.cells (aa.mk (s.Lo+(x.Lo/10)) (s.Hi+(x.Hi/10))))) (C':=[_,_,_,_,_,_,_,_,_,_,_,_,(cd p 47 (aa.cells (aa.mk (s.Lo+(x.Lo/10)) (s.Hi+(x.Hi/10)))))]) 12 U U U bS U U U U U U U<|aA<|aG<|KK L<|ak<|rP 3 [] mn ?_
 refine aA ?_
 have R:(vI (((h+1):Nat):Int))=(vI ((h:Int)+1)):=by exact cI I
 refine aS (Y ⟨((h+1),(aa.mk (s.Lo+(x.Lo/10)) (s.Hi+(x.Hi/10)))),⟨I,by rw [V]; exact tL C hd (by rw [AD]; decide) hl3_1⟩⟩ _ _ _ U os (cE 6<|aV U R<|cS.nil _) (aC [0,1,2,3,4,5,6,7,8,9,10,11,12]))
end
section
open Go.RowKit
theorem Hh (r:cV) (kA:OA) (kC:Nat) (az:List RA) (cA:OA) (cC:Nat) (bA:OA) (bC:Nat) (slA:OA) (slC:Nat) (drA:OA) (drC:Nat) (ha:List dv) (heA:OA) (heC:Nat) (h i:Int) (hin:fZ r az ha):
 dL Tryz.prog 16 [(vA (eC.cells (pB r kA kC cA cC bA bC slA slC drA drC heA heC))),(vI h),(vI i)] [(rd kA r.aF.aH.length 9 (r.aF.aH.map aj.cells)),(rd cA r.aF.ah.length 2 (List.zipWith al.cells r.aF.ah az)),(eg (aZ al.fB r.aF.ah az)),(rd bA r.aF.ab.length 4 (r.aF.ab.map bL.cells)),(rd slA r.aT.length 1 (r.aT.map iC)),(rd drA r.bo.length 1 (r.bo.map iC)),(rd heA r.ay.length 1 (List.zipWith c_ r.ay ha)),(eg (aZ gP r.ay ha))] (vT [(vA (aa.cells (fK r h i))),(vI (oV r h i))]):=by
 have y:=hin.line
 have AG:=hin.iG
 have AH:=hin.has
 have AD:=hin.iE
 have AB:=hin.draw
 have J:=dK (r:=r)
 refine bu kr Tryz.func16 U U fun w0 Q hQ hN=>?_
 try dsimp only
 refine WS fun _ o=>eQ U fun b2=>AL U cR fun b3=>bp 1 U<|RK o<|WS fun _ a=>rP 1 [] (mc 1 U mn) ?_
 refine cX (pj r kA kC az cA cC bA bC slA slC drA drC ha heA heC hin) (bf [2,3,4,5,6,7,8,9]) U fun y5 j=>?_
 obtain ⟨k,AF,AI,AJ,L⟩:=y5
 cases k
 ·obtain ⟨b,he⟩:=j.2 rfl
  try dsimp only at b he
  subst b
  try dsimp only [cond_true,cond_false,List.cons_append,List.nil_append]
  refine bp 5 U<|RK a<|ai fun _ AA=>WS fun _ O=>rP 2 [] mn ?_
  refine RK O<|bH U (aX fun N=>?_) (aW fun N=>?_)
  ·exact absurd N he
  refine WS fun _ P=>rS (SX (bg (xs:=[]) (cs:=(aa.cells (aa.mk 0 0))) U U (bh eM U)) U U)<|bp 1 U<|fg U bS U<|rP 1 [] mn ?_
  refine RK P<|an<|ja hQ [0] (mc 0 U mn) U ?_
  first|(have e:=im (h:=h) (i:=i) he; have B:fK r h i=cg:=if_neg (fun q=>by rw [e] at q; exact he q); rw [e,B]; rfl)|(have e:=iq (h:=h) (i:=i) he I; have B:fK r h i=cg:=if_neg (fun q=>by rw [e] at q; cases q); rw [e,B]; rfl)|(have e:=gK he I A hd C; have B:fK r h i=cg:=if_neg (fun q=>by rw [e] at q; cases q); rw [e,B]; rfl)|(have e:=jk he I A hd C; rw [e.1,e.2,G]; done)
 obtain ⟨he,M⟩:=j.1 rfl
 try dsimp only [cond_true,cond_false,List.cons_append,List.nil_append]
 try dsimp only at M
 have f:=(iR he).2
 refine bp 5 U<|RK a<|ai fun _ R=>WS fun _ S=>bp 1 U<|rS (SX (dG (r:= .bool false) U U U pN) U U)<|RK S<|bU U<|WK R<|ai fun _ T=>WS fun _ AM=>eZ 5 [] (mc 3 U mn) U<|rS (CL (jO h 0 ((r.ay.length:Int)-1)) (aR) U)<|rP 2 [] mn ?_
 refine cr (t:=26) U (aW fun l=>?_) (aX fun l=>?_)
 ·refine bp 5 U<|RK AM<|aJ U<|WS fun _ AK=>rS (SX (bg (xs:=[]) (cs:=(aa.cells (aa.mk 0 0))) U U (bh eM U)) U U)<|zO U bS U<|rP 1 [] mn ?_
  refine RK AK<|an<|ja hQ [0] (mc 2 U mn) U ?_
  first|(have e:=im (h:=h) (i:=i) he; have B:fK r h i=cg:=if_neg (fun q=>by rw [e] at q; exact he q); rw [e,B]; rfl)|(have e:=iq (h:=h) (i:=i) he I; have B:fK r h i=cg:=if_neg (fun q=>by rw [e] at q; cases q); rw [e,B]; rfl)|(have e:=gK he I A hd C; have B:fK r h i=cg:=if_neg (fun q=>by rw [e] at q; cases q); rw [e,B]; rfl)|(have e:=jk he I A hd C; rw [e.1,e.2,G]; done)
 refine eZ 2 [] (mc 3 U mn) U<|rS (CL (Ch r kA kC az cA cC bA bC slA slC drA drC ha heA heC i hin) (bf [4,5,6,7,8,9,10,11]) U)<|rP 2 [] mn ?_
 refine RK AM<|cw U (aW fun m=>?_) (aX fun m=>?_)
 ·refine WS fun _ V=>rS (SX (bg (xs:=[]) (cs:=(aa.cells (aa.mk 0 0))) U U (bh eM U)) U U)<|zO U bS U<|rP 1 [] mn ?_
  refine RK V<|an<|ja hQ [0] (mc 2 U mn) U ?_
  first|(have e:=im (h:=h) (i:=i) he; have B:fK r h i=cg:=if_neg (fun q=>by rw [e] at q; exact he q); rw [e,B]; rfl)|(have e:=iq (h:=h) (i:=i) he I; have B:fK r h i=cg:=if_neg (fun q=>by rw [e] at q; cases q); rw [e,B]; rfl)|(have e:=gK he I A hd C; have B:fK r h i=cg:=if_neg (fun q=>by rw [e] at q; cases q); rw [e,B]; rfl)|(have e:=jk he I A hd C; rw [e.1,e.2,G]; done)
 refine WK T<|ai fun _ W=>WS fun _ X=>rP 3 [] (mc 3 U mn) ?_
 obtain ⟨ht,A⟩:=aB r.ay ((h).toNat) I
 obtain ⟨D,E⟩:=aB ha ((h).toNat) I
 have c:(List.zipWith c_ r.ay ha)[(h).toNat]? =some (c_ ht D):=db A E
 refine rS (IA ((h).toNat) U (aq 10 U) mL dc I I) ?_
 have u:=hin.mH _ _ _ A E
 have AC:=u.mE
 have v:=(f.mH ht (aI A)).1
 refine rS (fE ((h).toNat) 0 (vS D.1.1 ht.length D.1.2) U bQ (aq 10 U) c U dc U)<|rP 1 [] mn ?_
 obtain ⟨d,hd⟩:=aB ht ((i).toNat) I
 obtain ⟨da,p⟩:=aB D.2 ((i).toNat) I
 have s:(List.zipWith aw.cells ht D.2)[(i).toNat]? =some (aw.cells d da):=db hd p
 refine rS (IA ((i).toNat) U (show fR _ (rd D.1.1 ht.length 7 (List.zipWith aw.cells ht D.2)).holds from (bT 11 U (bk A E ck))) sU dc I I)<|rS (mF (((i).toNat)*7) U (show fR _ (rd D.1.1 ht.length 7 (List.zipWith aw.cells ht D.2)).holds from (bT 11 U (bk A E ck))) (Nat.mul_pos I dc) fq U)<|rS (fE ((i).toNat) 0 (vB d.Out) U bQ (show fR _ (rd D.1.1 ht.length 7 (List.zipWith aw.cells ht D.2)).holds from (bT 11 U (bk A E ck))) s U dc U)<|RK X<|cw U (fun C=>?_) (fun C=>?_)
 ·refine WS fun _ Y=>rS (SX (bg (xs:=[]) (cs:=(aa.cells (aa.mk 0 0))) U U (bh eM U)) U U)<|zO U bS U<|rP 1 [] mn ?_
  refine RK Y<|an<|ja hQ [0] (mc 2 U mn) U ?_
  first|(have e:=im (h:=h) (i:=i) he; have B:fK r h i=cg:=if_neg (fun q=>by rw [e] at q; exact he q); rw [e,B]; rfl)|(have e:=iq (h:=h) (i:=i) he I; have B:fK r h i=cg:=if_neg (fun q=>by rw [e] at q; cases q); rw [e,B]; rfl)|(have e:=gK he I A hd C; have B:fK r h i=cg:=if_neg (fun q=>by rw [e] at q; cases q); rw [e,B]; rfl)|(have e:=jk he I A hd C; rw [e.1,e.2,G]; done)
 refine WK W<|WS fun _ Z=>rP 2 [] mn ?_
 obtain ⟨tr,H⟩:=aB (cj r) ((h).toNat) I
 obtain ⟨tra,F⟩:=aB L ((h).toNat) I
 have g:(List.zipWith wF (cj r) L)[(h).toNat]? =some (wF tr tra):=db H F
 refine rS (IA ((h).toNat) U (au (n:=(cj r).length) 0 U (jK (by rw [J]; exact M))) Bn dc I I) ?_
 have K:=px A H
 have AE:tr.length=r.aT.length:=by rw [K,List.length_map]; exact v
 refine rS (fE ((h).toNat) 0 (vS tra.1 tr.length tra.2) U bQ (au (n:=(cj r).length) 0 U (jK (by rw [J]; exact M))) g U dc U) ?_
 refine rP 1 [] mn ?_
 obtain ⟨x,hx⟩:=aB tr ((i).toNat) I
 have z:=br aa.cells hx
 refine rS (IA ((i).toNat) U (show fR _ (rd tra.1 tr.length 2 (tr.map aa.cells)).holds from (fun w hw=>(eY 1 U oG) w hw _ (bk H F (by simp [xM])))) kB dc I I) ?_
 have G:=xE K hx hd
 refine rS (j0 ((i).toNat) 0 (aa.cells x) U bQ (show fR _ (rd tra.1 tr.length 2 (tr.map aa.cells)).holds from (fun w hw=>(eY 1 U oG) w hw _ (bk H F (by simp [xM])))) z U dc U U)<|zO U bS U<|rP 1 [] mn ?_
 refine RK Z<|an<|ja hQ [0] (mc 2 U mn) U ?_
 first|(have e:=im (h:=h) (i:=i) he; have B:fK r h i=cg:=if_neg (fun q=>by rw [e] at q; exact he q); rw [e,B]; rfl)|(have e:=iq (h:=h) (i:=i) he I; have B:fK r h i=cg:=if_neg (fun q=>by rw [e] at q; cases q); rw [e,B]; rfl)|(have e:=gK he I A hd C; have B:fK r h i=cg:=if_neg (fun q=>by rw [e] at q; cases q); rw [e,B]; rfl)|(have e:=jk he I A hd C; rw [e.1,e.2,G]; done)
theorem JO (r:cV) (kA:OA) (kC:Nat) (az:List RA) (cA:OA) (cC:Nat) (bA:OA) (bC:Nat) (slA:OA) (slC:Nat) (drA:OA) (drC:Nat) (ha:List dv) (heA:OA) (heC:Nat) (i:Int) (hin:fZ r az ha):
 dL Tryz.prog 18 [(vA (eC.cells (pB r kA kC cA cC bA bC slA slC drA drC heA heC))),(vI i)] [(rd kA r.aF.aH.length 9 (r.aF.aH.map aj.cells)),(rd cA r.aF.ah.length 2 (List.zipWith al.cells r.aF.ah az)),(eg (aZ al.fB r.aF.ah az)),(rd bA r.aF.ab.length 4 (r.aF.ab.map bL.cells)),(rd slA r.aT.length 1 (r.aT.map iC)),(rd drA r.bo.length 1 (r.bo.map iC)),(rd heA r.ay.length 1 (List.zipWith c_ r.ay ha)),(eg (aZ gP r.ay ha))] (vT [(vA (aa.cells (kQ r i))),(vI (pS r i))]):=by
 have b:=hin.line
 have p:=hin.iG
 have s:=hin.has
 have l:=hin.iE
 have g:=hin.draw
 have T:=dK (r:=r)
 refine bu kr Tryz.func18 U U fun x Q hQ hN=>?_
 try dsimp only
 refine WS fun _ Z=>eQ U fun v=>AL U cR fun w=>bp 1 U<|RK Z<|WS fun _ R=>rP 1 [] (mc 1 U mn) ?_
 refine cX (pj r kA kC az cA cC bA bC slA slC drA drC ha heA heC hin) (bf [2,3,4,5,6,7,8,9]) U fun u V=>?_
 obtain ⟨W,o,c,d,X⟩:=u
 cases W
 ·obtain ⟨S,he⟩:=V.2 rfl
  try dsimp only at S he
  subst S
  try dsimp only [cond_true,cond_false,List.cons_append,List.nil_append]
  refine bp 5 U<|RK R<|ai fun _ f=>WS fun _ E=>rP 2 [] mn ?_
  refine RK E<|bH U (aX fun D=>?_) (aW fun D=>?_)
  ·exact absurd D he
  refine WS fun _ F=>rS (SX (bg (xs:=[]) (cs:=(aa.cells (aa.mk 0 0))) U U (bh eM U)) U U)<|bp 1 U<|fg U bS U<|rP 1 [] mn ?_
  refine RK F<|an<|ja hQ [0] (mc 0 U mn) U ?_
  first|(have e:=oH (i:=i) he; have A:kQ r i=cg:=if_neg (fun q=>by rw [e] at q; exact he q); rw [e,A]; rfl)|(have e:=oZ (i:=i) he I; have A:kQ r i=cg:=if_neg (fun q=>by rw [e] at q; cases q); rw [e,A]; rfl)|(have e:=m0 (i:=i) he I (by rw [iX I]; assumption); have A:kQ r i=cg:=if_neg (fun q=>by rw [e] at q; cases q); rw [e,A]; rfl)|(have e:=qu (i:=i) he I (by rw [iX I]; assumption); have A:kQ r i=aY (gh r) i:=if_pos e; rw [e,A,← qp (a:=i) I]; first|done|rfl)
 obtain ⟨he,AA⟩:=V.1 rfl
 try dsimp only [cond_true,cond_false,List.cons_append,List.nil_append]
 try dsimp only at AA
 have B:=(iR he).2
 have j:=E_ he
 have k:=yd he
 have t:=B.num
 refine bp 5 U<|RK R<|ai fun _ G=>WS fun _ H=>bp 1 U<|rS (SX (dG (r:= .bool false) U U U pN) U U)<|RK H<|bU U<|WK G<|ai fun _ AB=>WS fun _ J=>eZ 2 [] (mc 3 U mn) U<|rS (CL (Ch r kA kC az cA cC bA bC slA slC drA drC ha heA heC i hin) (bf [4,5,6,7,8,9,10,11]) U)<|rP 1 [] mn ?_
 refine RK J<|cw U (aW fun Y=>?_) (aX fun Y=>?_)
 ·refine WS fun _ K=>rS (SX (bg (xs:=[]) (cs:=(aa.cells (aa.mk 0 0))) U U (bh eM U)) U U)<|zO U bS U<|rP 1 [] mn ?_
  refine RK K<|an<|ja hQ [0] (mc 2 U mn) U ?_
  first|(have e:=oH (i:=i) he; have A:kQ r i=cg:=if_neg (fun q=>by rw [e] at q; exact he q); rw [e,A]; rfl)|(have e:=oZ (i:=i) he I; have A:kQ r i=cg:=if_neg (fun q=>by rw [e] at q; cases q); rw [e,A]; rfl)|(have e:=m0 (i:=i) he I (by rw [iX I]; assumption); have A:kQ r i=cg:=if_neg (fun q=>by rw [e] at q; cases q); rw [e,A]; rfl)|(have e:=qu (i:=i) he I (by rw [iX I]; assumption); have A:kQ r i=aY (gh r) i:=if_pos e; rw [e,A,← qp (a:=i) I]; first|done|rfl)
 refine WK AB<|WS fun _ L=>rP 6 [] (mc 3 U mn) ?_
 refine rS (CL (AX r kA kC az cA cC bA bC slA slC drA drC ha heA heC X c d (r.ay.length:Int) i hin sd sd I (by exact B.po)) (kF [4,5,6,7,8,9,10,11]<|aL (au (n:=(cj r).length) 0 U (jK (by rw [T]; exact AA)))<|aL (eY 1 U oG)<|aR) U) ?_
 refine bp 3 U<|AL U cR fun m=>fg U bS U<|bp 1 U<|RK L<|ai fun _ M=>WS fun _ N=>rP 2 [] mn ?_
 refine RK N<|bH U (fun C=>?_) (fun C=>?_)
 ·rw [Bool.not_eq_false'] at C
  refine WK M<|WS fun _ P=>eZ 1 [] (mc 0 U mn) U<|Ll U bS U<|rP 1 [] mn ?_
  refine RK P<|an<|ja hQ [0] (mc 3 U mn) U ?_
  first|(have e:=oH (i:=i) he; have A:kQ r i=cg:=if_neg (fun q=>by rw [e] at q; exact he q); rw [e,A]; rfl)|(have e:=oZ (i:=i) he I; have A:kQ r i=cg:=if_neg (fun q=>by rw [e] at q; cases q); rw [e,A]; rfl)|(have e:=m0 (i:=i) he I (by rw [iX I]; assumption); have A:kQ r i=cg:=if_neg (fun q=>by rw [e] at q; cases q); rw [e,A]; rfl)|(have e:=qu (i:=i) he I (by rw [iX I]; assumption); have A:kQ r i=aY (gh r) i:=if_pos e; rw [e,A,← qp (a:=i) I]; first|done|rfl)
 rw [Bool.not_eq_true'] at C
 refine WS fun _ O=>rS (SX (bg (xs:=[]) (cs:=(aa.cells (aa.mk 0 0))) U U (bh eM U)) U U)<|Ll U bS U<|rP 1 [] mn ?_
 refine RK O<|an<|ja hQ [0] (mc 3 U mn) U ?_
 first|(have e:=oH (i:=i) he; have A:kQ r i=cg:=if_neg (fun q=>by rw [e] at q; exact he q); rw [e,A]; rfl)|(have e:=oZ (i:=i) he I; have A:kQ r i=cg:=if_neg (fun q=>by rw [e] at q; cases q); rw [e,A]; rfl)|(have e:=m0 (i:=i) he I (by rw [iX I]; assumption); have A:kQ r i=cg:=if_neg (fun q=>by rw [e] at q; cases q); rw [e,A]; rfl)|(have e:=qu (i:=i) he I (by rw [iX I]; assumption); have A:kQ r i=aY (gh r) i:=if_pos e; rw [e,A,← qp (a:=i) I]; first|done|rfl)
end
section
open Go.RowKit
theorem Fl (r:cV) (kA:OA) (kC:Nat) (az:List RA) (cA:OA) (cC:Nat) (bA:OA) (bC:Nat) (slA:OA) (slC:Nat) (drA:OA) (drC:Nat) (ha:List dv) (heA:OA) (heC:Nat) (heatX:Int) (hin:fZ r az ha):
 pH Tryz.prog 20 [(vA (eC.cells (pB r kA kC cA cC bA bC slA slC drA drC heA heC))),(vI heatX)] [(rd kA r.aF.aH.length 9 (r.aF.aH.map aj.cells)),(rd cA r.aF.ah.length 2 (List.zipWith al.cells r.aF.ah az)),(eg (aZ al.fB r.aF.ah az)),(rd bA r.aF.ab.length 4 (r.aF.ab.map bL.cells)),(rd slA r.aT.length 1 (r.aT.map iC)),(rd drA r.bo.length 1 (r.bo.map iC)),(rd heA r.ay.length 1 (List.zipWith c_ r.ay ha)),(eg (aZ gP r.ay ha))] (fun (x:(OA)×Nat)=>(vT [(vS x.1 ((eP r heatX).length) x.2),(vI (g6 r heatX))])) (fun (x:(OA)×Nat)=>True) (fun (x:(OA)×Nat)=>[(own x.1 x.2 3 1 ((eP r heatX).map iC))]):=by
 have BK:=hin.line
 have Bh:=hin.iG
 have Bi:=hin.has
 have BT:=hin.iE
 have BS:=hin.draw
 have e:=dK (r:=r)
 refine fm kr Tryz.func20 U U fun w0 Q hQ hN=>?_
 try dsimp only
 refine WS fun _ BH=>eQ U fun b2=>bp 2 U<|RK BH<|WS fun _ Ad=>rP 1 [] (mc 0 U mn) ?_
 refine cX (pj r kA kC az cA cC bA bC slA slC drA drC ha heA heC hin) (bf [1,2,3,4,5,6,7,8]) U fun y4 A6=>?_
 obtain ⟨A8,Be,Bm,J,L⟩:=y4
 cases A8
 ·obtain ⟨A5,he⟩:=A6.2 rfl
  try dsimp only at A5 he
  subst A5
  try dsimp only [cond_true,cond_false,List.cons_append,List.nil_append]
  refine bp 5 U<|RK Ad<|ai fun _ BQ=>WS fun _ AN=>rP 2 [] mn ?_
  refine RK AN<|bH U (aX fun AJ=>?_) (aW fun AJ=>?_)
  ·exact absurd AJ he
  refine WS fun _ AO=>rP 1 [] mn ?_
  have B:g6 r heatX=eN r:=uM he
  have E:eP r heatX=[]:=o9 (by rw [B]; exact he)
  refine ik 3 1 ?_
  rw [show (own none 0 3 1 ([]:List (List Value)))=own none 0 3 1 ((eP r heatX).map iC) from by rw [E]; rfl]
  refine rP 2 [] mn ?_
  refine RK AO<|an ?_
  refine LX hQ (none,0) [0] [] mn U U U ?_ ?_
  ·first|rfl|(rw [B,E]; rfl)|(rw [B]; rfl)|(rw [B,E,A.1]; rfl)
  ·trivial
 obtain ⟨he,AE⟩:=A6.1 rfl
 try dsimp only [cond_true,cond_false,List.cons_append,List.nil_append]
 try dsimp only at AE
 have F:=(iR he).2
 have Bk:=F.uP
 have Bg:=F.uA
 refine bp 5 U<|RK Ad<|ai fun _ AP=>WS fun _ AQ=>bp 1 U<|rS (SX (dG (r:= .bool false) U U U pN) U U)<|RK AQ<|bU U<|WK AP<|ai fun _ AS=>WS fun _ AT=>eZ 4 [] (mc 2 U mn) U<|rS (CL (jO heatX 0 (r.ay.length:Int)) (aR) U)<|rP 1 [] mn ?_
 refine RK AT<|cw U (aW fun AC=>?_) (aX fun AC=>?_)
 ·refine WS fun _ AU=>?_
  have B:g6 r heatX=2:=vc he I
  have E:eP r heatX=[]:=o9 (by rw [B]; decide)
  refine ik 3 1 ?_
  rw [show (own none 0 3 1 ([]:List (List Value)))=own none 0 3 1 ((eP r heatX).map iC) from by rw [E]; rfl]
  refine rP 2 [] mn ?_
  refine RK AU<|an ?_
  refine LX hQ (none,0) [0] [] mn U U U ?_ ?_
  ·first|rfl|(rw [B,E]; rfl)|(rw [B]; rfl)|(rw [B,E,A.1]; rfl)
  ·trivial
 refine WK AS<|ai fun _ AV=>WS fun _ AW=>rP 2 [] mn ?_
 refine RK AW<|cw U (aO fun V=>?_) (aP fun V=>?_)
 ·refine WS fun _ AY=>mX U cN U fun BA=>rP 2 [] (mc 3 U mn) ?_
  refine fp (es:=(List.map iC [])) (C':=[own (some ⟨BA,0,none⟩) 0 3 1 (List.map iC []),_,_,_,_,_,_,_,_,_,_,_]) 0 U sm U (by simp [maxLen]) U ?_
  refine cG (es2:=(List.map iC r.bo)) (m':=r.bo.length) 0 U U U l0 U U sm (aq 9 U) (gL _) os (by first|(simp only [maxLen]; omega)|(simp [maxLen]; omega)) sm sm U fun g t=>?_
  try dsimp only
  have B:g6 r heatX=0:=o7 he I
  have E:eP r heatX=r.bo:=l6 B V
  rw [show (own g t 3 1 (List.map iC r.bo))=(own g t 3 1 ((eP r heatX).map iC)) from by rw [l6 B V]]
  refine rP 2 [] mn ?_
  refine RK AY<|an ?_
  refine LX hQ (g,t) [0] [] mn U U U ?_ ?_
  ·first|rfl|(rw [B,E]; rfl)|(rw [B]; rfl)|(rw [B,E,A.1]; rfl)
  ·trivial
 refine WK AV<|WS fun _ AZ=>rP 1 [] mn ?_
 refine RK AZ<|ai fun _ Aa=>ai fun _ Ab=>?_
 obtain ⟨n,rfl⟩: ∃ n:Nat,heatX=(n:Int):=⟨heatX.toNat,I⟩
 refine ak<|rP 1 [] mn ?_
 refine RK Ab<|av<|fT 3 1 ?_
 have C:(0≤r.bo.length):=by exact Nat.zero_le _
 refine bI (ι:={z:Nat×(OA)×Nat // (z.1≤r.bo.length)}) [1,2,6] [1,2,3,4,5,6,7,8,9,10,11] U U (fun z=>[(8,(vS z.1.2.1 ((bG (fun u=>(aY (aN r n) u).Hi) ((r.bo.take z.1.1).filter fun u=>(List.lookup u (aN r n)).isSome)).length) z.1.2.2)),(9,(vI (z.1.1:Int)))]) (fun z=>[(own z.1.2.1 z.1.2.2 3 1 ((bG (fun u=>(aY (aN r n) u).Hi) ((r.bo.take z.1.1).filter fun u=>(List.lookup u (aN r n)).isSome)).map iC))]) (fun _=>rfl) (fun _=>rfl) (fun z=>r.bo.length-z.1.1) ⟨(0,none,0),C⟩ (aU U) (aC [1,2,3,4,5,6,7,8,9,10,11,0]) ?_
 clear C
 rintro ⟨⟨k,a,c⟩,W⟩ J28 P
 try dsimp only at W
 try dsimp only
 have BJ:(((r.bo.take k).filter fun u=>(List.lookup u (aN r n)).isSome)).length≤12:=Nat.le_trans (List.length_filter_le _ _) (by rw [List.length_take]; omega)
 have Bf:(bG (fun u=>(aY (aN r n) u).Hi) ((r.bo.take k).filter fun u=>(List.lookup u (aN r n)).isSome)).length≤12:=by rw [il]; exact BJ
 refine ai fun _ Ac=>WS fun _ Ae=>rP 5 [] (mc 2 U mn) ?_
 refine RK Ae<|bH U (aP fun AC=>?_) (aO fun AC=>?_)
 ·refine bx<|ae<|ae<|ax<|KK Aa<|ai fun _ Ao=>?_
  rw [show r.bo.take k=r.bo from List.take_of_length_le I]
  have BR:(bG (fun u=>(aY (aN r n) u).Hi) (r.bo.filter fun u=>(List.lookup u (aN r n)).isSome)).length≤12:=by rw [il]; exact Nat.le_trans (List.length_filter_le _ _) I
  refine ak<|eZ 4 [] (mc 2 U mn) U<|rS (MN U)<|bp 1 U<|RK Ao<|WS fun _ Ap=>mX U cN U fun BD=>rP 1 [] mn ?_
  refine fp (es:=(List.map iC [])) (C':=[own (some ⟨BD,0,none⟩) 0 3 1 (List.map iC []),_,_,_,_,_,_,_,_,_,_,_,_]) 0 U sm U (by simp [maxLen]) U ?_
  refine cG (es2:=(List.map iC (bG (fun u=>(aY (aN r n) u).Hi) (r.bo.filter fun u=>(List.lookup u (aN r n)).isSome)))) (m':=(bG (fun u=>(aY (aN r n) u).Hi) (r.bo.filter fun u=>(List.lookup u (aN r n)).isSome)).length) 0 U U U l0 U U sm (au (n:=(bG (fun u=>(aY (aN r n) u).Hi) (r.bo.filter fun u=>(List.lookup u (aN r n)).isSome)).length) 12 U sm) (gL _) os (by first|(simp only [maxLen]; omega)|(simp [maxLen]; omega)) sm sm U fun M O=>?_
  try dsimp only
  refine bp 1 U<|RK Ap<|ai fun _ Aq=>WS fun _ Ar=>rP 1 [] mn ?_
  refine RK Ar<|av ?_
  obtain ⟨nn,Bj⟩: ∃ q:Nat,(q:Int)=min r.i_ (((bG (fun u=>(aY (aN r n) u).Hi) (r.bo.filter fun u=>(List.lookup u (aN r n)).isSome)).length:Nat):Int):=⟨(min r.i_ (((bG (fun u=>(aY (aN r n) u).Hi) (r.bo.filter fun u=>(List.lookup u (aN r n)).isSome)).length:Nat):Int)).toNat,I⟩
  have C:(0≤nn)∧(rM (bG (fun u=>(aY (aN r n) u).Hi) (r.bo.filter fun u=>(List.lookup u (aN r n)).isSome)) nn 0 (bG (fun u=>(aY (aN r n) u).Hi) (r.bo.filter fun u=>(List.lookup u (aN r n)).isSome))):=by exact ⟨Nat.zero_le _,yr⟩
  refine bI (ι:={z:Nat×(List Int) // (z.1≤nn)∧(rM (bG (fun u=>(aY (aN r n) u).Hi) (r.bo.filter fun u=>(List.lookup u (aN r n)).isSome)) nn z.1 z.2)}) [1,8,15,16] [1,2,4,5,6,7,8,9,10,11,12] U U (fun z=>[(17,(vI (z.1.1:Int)))]) (fun z=>[(own M O 3 1 (z.1.2.map iC))]) (fun _=>rfl) (fun _=>rfl) (fun z=>nn-z.1.1) ⟨(0,(bG (fun u=>(aY (aN r n) u).Hi) (r.bo.filter fun u=>(List.lookup u (aN r n)).isSome))),C⟩ (aU U) (aC [1,2,4,5,6,7,8,9,10,11,12,0]) ?_
  clear C
  rintro ⟨⟨i,T⟩,⟨Z,A⟩⟩ J78 AM
  try dsimp only at Z A
  try dsimp only
  have Bl:=A.1
  refine ai fun _ As=>WS fun _ At=>rP 3 [] mn ?_
  refine RK At<|bH U (aP fun BF=>?_) (aO fun BF=>?_)
  ·refine bx<|ae<|ae<|ax<|KK Aq<|WS fun _ Av=>rP 1 [] mn ?_
   have B:g6 r (n:Int)=0:=o7 he I
   have E:eP r (n:Int)=T:=by rw [oT B V,AR I I A]; exact (rN rfl I).symm
   rw [show (own M O 3 1 (T.map iC))=(own M O 3 1 ((eP r (n:Int)).map iC)) from by rw [E]]
   refine rP 2 [] mn ?_
   refine RK Av<|an ?_
   refine LX hQ (M,O) [11] [] mn U U U ?_ ?_
   ·first|rfl|(rw [B,E]; rfl)|(rw [B]; rfl)|(rw [B,E,A.1]; rfl)
   ·trivial
  refine WK As<|ai fun _ Au=>av<|ak<|rP 7 [] mn ?_
  obtain ⟨u,hu⟩:=aB (bG (fun u=>(aY (aN r n) u).Hi) (r.bo.filter fun u=>(List.lookup u (aN r n)).isSome)) (((((min r.i_ (((bG (fun u=>(aY (aN r n) u).Hi) (r.bo.filter fun u=>(List.lookup u (aN r n)).isSome)).length:Nat):Int))-1)-(i:Int))).toNat) I
  have BN:=br iC hu
  refine rS (IA (((((min r.i_ (((bG (fun u=>(aY (aN r n) u).Hi) (r.bo.filter fun u=>(List.lookup u (aN r n)).isSome)).length:Nat):Int))-1)-(i:Int))).toNat) U (au (n:=(bG (fun u=>(aY (aN r n) u).Hi) (r.bo.filter fun u=>(List.lookup u (aN r n)).isSome)).length) 10 U sm) cN dc I I)<|rS (fE (((((min r.i_ (((bG (fun u=>(aY (aN r n) u).Hi) (r.bo.filter fun u=>(List.lookup u (aN r n)).isSome)).length:Nat):Int))-1)-(i:Int))).toNat) 0 (vI u) U bQ (au (n:=(bG (fun u=>(aY (aN r n) u).Hi) (r.bo.filter fun u=>(List.lookup u (aN r n)).isSome)).length) 10 U sm) BN U dc U) ?_
  obtain ⟨v,hv⟩:=aB T i I
  have BO:=br iC hv
  refine rS (IA i U (au (n:=(bG (fun u=>(aY (aN r n) u).Hi) (r.bo.filter fun u=>(List.lookup u (aN r n)).isSome)).length) 11 U sq) cN dc I I) ?_
  refine d_ (k:=i) (o:=0) (vs:=[(vI u)]) (es':=(List.map iC (T.set i u))) (C':=[_,_,_,_,_,_,_,_,_,_,_,(own M O 3 1 (List.map iC (T.set i u)))]) 11 U U U xN U U U U BO U dc (by exact (List.map_set (f:=iC) (l:=T) (i:=i) (a:=u)).symm) U<|aA<|aG<|KK Au<|ak<|rP 3 [] mn ?_
  refine aA ?_
  have A4:(vI (((i+1):Nat):Int))=(vI ((i:Int)+1)):=by exact cI I
  refine aS (AM ⟨((i+1),(T.set i u)),⟨I,xW I A (by rw [← hu]; congr 1; omega)⟩⟩ _ _ _ U os (cE 4<|aV U A4<|cS.nil _) (aC [0,1,2,3,4,5,6,7,8,9,10,11]))
 refine WK Ac<|ai fun _ R=>av<|ai fun _ Af=>dj bX [12,13] [] [] [0,1,2,3,4,5,6,7,8,9,10,11] [] U U U U U<|eS U (LW 2 U bQ U U)<|eS U (MV U)<|eS U (MV U)<|eS U (FA 8 U fq U)<|eS U (L1 (vS drA r.bo.length drC) 2 U bQ U U)<|eS U (MV U) ?_
 obtain ⟨x,hx⟩:=aB r.bo k I
 have AF:=br iC hx
 refine eS U (IA k U (aq 8 U) cN dc I I)<|eS U (fE k 0 (vI x) U bQ (aq 8 U) AF U dc U) ?_
 have AH:=F.wN hx
 have A9:(aN r n).lookup x=eu r.aF r.ay x.toNat n:=rv AH
 refine eS U (CL (AX r kA kC az cA cC bA bC slA slC drA drC ha heA heC L Bm J (n:Int) x hin I I (by first|exact AH|exact A7) (by exact F.po)) (kF [3,4,5,6,7,8,9,10]<|aL (au (n:=(cj r).length) 0 U (jK (by rw [e]; exact AE)))<|aL (eY 1 U oG)<|aR) U) ?_
 refine eS U (MV U)<|eS U (EX U)<|eS U (EX U)<|eS U (AG U)<|dW U<|bV U fun T34 Aw=>AL U cR fun N=>aA (Aw _ _ (aC [1,2,3,4,5,6,7,8,9,10,11,12]) ?_)
 refine bV U fun T36 Ax=>fg U bS U<|aA (Ax _ _ (aC [1,2,3,4,5,6,7,8,9,10,11,12]) ?_)
 refine eU U<|KK Af<|ai fun _ Ag=>WS fun _ Ah=>rP 2 [] mn ?_
 refine RK Ah<|cw U (fun G=>?_) (fun G=>?_)
 ·rw [Bool.not_eq_true'] at G
  refine bx<|ae<|ax<|KK R<|ak<|rP 3 [] mn ?_
  refine aA ?_
  rw [show ((r.bo.take k).filter fun u=>(List.lookup u (aN r n)).isSome)=((r.bo.take (k+1)).filter fun u=>(List.lookup u (aN r n)).isSome) from (BM hx (by rw [A9]; exact G)).symm]
  have A0:(vI (((k+1):Nat):Int))=(vI ((k:Int)+1)):=by exact cI I
  refine aS (P ⟨((k+1),a,c),(by first|omega|(simp only []; omega))⟩ _ _ _ U os (cE 4<|aV U A0<|cS.nil _) (aC [1,2,3,4,5,6,7,8,9,10,11,12]))
 rw [Bool.not_eq_false'] at G
 refine WK Ag<|WS fun _ Ai=>?_
 rw [show ((eu r.aF r.ay (x).toNat ((n:Int)).toNat).getD cg)=aY (aN r n) x from by unfold aY; rw [rv I]; rfl]
 refine rP 3 [] mn ?_
 refine RK Ai<|ai fun _ d=>av ?_
 have C:(((bG (fun u=>(aY (aN r n) u).Hi) ((r.bo.take k).filter fun u=>(List.lookup u (aN r n)).isSome)).length)≤(bG (fun u=>(aY (aN r n) u).Hi) ((r.bo.take k).filter fun u=>(List.lookup u (aN r n)).isSome)).length)∧(∀ w∈(bG (fun u=>(aY (aN r n) u).Hi) ((r.bo.take k).filter fun u=>(List.lookup u (aN r n)).isSome)).drop ((bG (fun u=>(aY (aN r n) u).Hi) ((r.bo.take k).filter fun u=>(List.lookup u (aN r n)).isSome)).length),(fun u=>(aY (aN r n) u).Hi) x<(fun u=>(aY (aN r n) u).Hi) w):=by exact ⟨Nat.le_refl _,fun z hz=>by simp at hz⟩
 refine bI (ι:={z:Nat // (z≤(bG (fun u=>(aY (aN r n) u).Hi) ((r.bo.take k).filter fun u=>(List.lookup u (aN r n)).isSome)).length)∧(∀ w∈(bG (fun u=>(aY (aN r n) u).Hi) ((r.bo.take k).filter fun u=>(List.lookup u (aN r n)).isSome)).drop z,(fun u=>(aY (aN r n) u).Hi) x<(fun u=>(aY (aN r n) u).Hi) w)}) [1,2,6,8,9,10] [0,1,2,3,4,5,6,7,8,9,10,11,12] U U (fun z=>[(12,(vI (z.1:Int)))]) (fun z=>[]) (fun _=>rfl) (fun _=>rfl) (fun z=>z.1) ⟨(bG (fun u=>(aY (aN r n) u).Hi) ((r.bo.take k).filter fun u=>(List.lookup u (aN r n)).isSome)).length,C⟩ (aU U) (aC [0,1,2,3,4,5,6,7,8,9,10,11,12]) ?_
 clear C
 rintro ⟨p,⟨A_,D⟩⟩ J42 AK
 try dsimp only
 refine ai fun _ Aj=>WS fun _ Ak=>rP 2 [] mn ?_
 refine RK Ak<|bH U (aP fun BE=>?_) (aO fun BE=>?_)
 ·refine bx<|ae<|ae<|ax<|KK d<|Er 12 U fun S=>?_
  simp only [List.length_map] at S
  have H:p=0∨ ∃ y,(bG (fun u=>(aY (aN r n) u).Hi) ((r.bo.take k).filter fun u=>(List.lookup u (aN r n)).isSome))[p-1]? =some y∧(fun u=>(aY (aN r n) u).Hi) y≤(fun u=>(aY (aN r n) u).Hi) x:=by first|exact .inl I|exact .inr ⟨y,hy,AD⟩
  refine EN (L':=[(1,(vI (n:Int))),(2,(vP b2)),(6,(vS Bm ((cj r).length) J)),(8,(vS a ((bG (fun u=>(aY (aN r n) u).Hi) ((r.bo.take k).filter fun u=>(List.lookup u (aN r n)).isSome)).length) c)),(9,(vI (k:Int))),(10,(vP N)),(12,(vI (p:Int))),(61,(vI (p:Int))),(62,(vB (decide (0<(p:Int)))))]) U<|kS bX [1,2,3,5,6,7,8,9,12,13,14] [0,4,10,11,15,16] [false,false,false,false,false,false,false,false,false,false,false] [] [(cd N 47 (aa.cells (aY (aN r n) x))),(own Bm J 78 1 (List.zipWith wF (cj r) L)),(bM (aZ yh (cj r) L)),(cd b2 32 (eC.cells (pB r kA kC cA cC bA bC slA slC drA drC heA heC))),(rd kA r.aF.aH.length 9 (r.aF.aH.map aj.cells)).ro,(rd cA r.aF.ah.length 2 (List.zipWith al.cells r.aF.ah az)).ro,(eg (aZ al.fB r.aF.ah az)).ro,(rd bA r.aF.ab.length 4 (r.aF.ab.map bL.cells)).ro,(rd slA r.aT.length 1 (r.aT.map iC)).ro,(rd drA r.bo.length 1 (r.bo.map iC)).ro,(rd heA r.ay.length 1 (List.zipWith c_ r.ay ha)).ro,(eg (aZ gP r.ay ha)).ro,(own a c 3 1 ((bG (fun u=>(aY (aN r n) u).Hi) ((r.bo.take k).filter fun u=>(List.lookup u (aN r n)).isSome)).map iC))] [] kr (aC [0,1,2,3,4,5,6,7,8,9,10,11,12]) (aC [])<|eS U (MV U)<|eS U (MV U) ?_
  refine eS U (NX p U cN I (by first|omega|exact Nat.zero_le _|(simp; omega))) ?_
  refine eS U (FA 8 U fq U)<|eS U (L1 (vS drA r.bo.length drC) 3 U bQ U U)<|eS U (MV U)<|eS U (IA k U (aq 9 U) cN dc I I)<|eS U (fE k 0 (vI x) U bQ (aq 9 U) AF U dc U)<|eS U (MV U)<|eS U (MV U) ?_
  refine eS U (Py p U cN I os) ?_
  refine dW rfl<|xI [.take 0,.op 4,.take 10,.op 11,.op 15,.op 16] [(91,(vI x))] (fun i=>match i with |0=>82|10=>92|_=>0) (fun i b=>match i with |0=> .slice (some ⟨b,0,none⟩) 0 0|10=> .slice (some ⟨b,0,none⟩) 1 1|_=>undef) (fun i b=>match i with |0=>cd b 3 []|10=>cd b 3 [(vI x)]|_=>cd b 0 []) rfl rfl rfl kr rfl rfl (aC [0,1,2,3,4,5,6,7,8,9,10,11,12]) (mz (xb rfl cN rfl rfl (fun _=>rfl) fun _=>rfl)<|lz<|mz (BG (xs:=[.tmp 91]) (cs:=[(vI x)]) rfl cN lX rfl rfl rfl rfl (by simp [Value.cells]) rfl rfl rfl (fun _=>rfl) fun _=>rfl)<|lz<|lz<|lz<|z4) ?_
  intro BC
  try dsimp only
  refine lQ U fun Y X K hT=>fp (es:=(List.map iC [])) (C':=[own (some ⟨BC,0,none⟩) 0 3 1 (List.map iC []),_,_,_,_,_,_,_,_,_,_,_,_,_]++X) 0 U sm U (by simp [maxLen]) U ?_
  refine cG (es2:=(List.map iC ((bG (fun u=>(aY (aN r n) u).Hi) ((r.bo.take k).filter fun u=>(List.lookup u (aN r n)).isSome)).take p))) (m':=((bG (fun u=>(aY (aN r n) u).Hi) ((r.bo.take k).filter fun u=>(List.lookup u (aN r n)).isSome)).take p).length) 0 U U U l0 U U sm (by rw [List.map_take]; exact wQ (au (n:=(bG (fun u=>(aY (aN r n) u).Hi) ((r.bo.take k).filter fun u=>(List.lookup u (aN r n)).isSome)).length) 13 U sm) os) (gL _) (by first|omega|(simp; omega)|(simp only [maxLen]; omega)|(simp [maxLen]; omega)) (by first|omega|(simp; omega)|(simp only [maxLen]; omega)|(simp [maxLen]; omega)) sm sq U fun BW Bc=>?_
  try dsimp only
  refine jD hT 22 14 U U (fun w hs=>St.jt [1,2,3,4,5,6,7,8,9,10,11,12,13] U U hs) U U ?_
  try dsimp only [List.take]
  intro BZ
  try dsimp only
  refine lQ U fun Y X K hT=>?_
  refine cG (es2:=(List.map iC ((bG (fun u=>(aY (aN r n) u).Hi) ((r.bo.take k).filter fun u=>(List.lookup u (aN r n)).isSome)).take p++[x]))) (m':=((bG (fun u=>(aY (aN r n) u).Hi) ((r.bo.take k).filter fun u=>(List.lookup u (aN r n)).isSome)).take p++[x]).length) 1 U U U l0 U U sm (bj (es:=List.map iC [x]) 0 U U (by simp [bW]) U) (gL _) (by first|omega|(simp; omega)|(simp only [maxLen]; omega)|(simp [maxLen]; omega)) (by first|omega|(simp; omega)|(simp only [maxLen]; omega)|(simp [maxLen]; omega)) sm sm U fun BX Bd=>?_
  try dsimp only
  refine jD hT 24 15 U U (fun w hs=>St.jt [2,3,4,5,6,7,8,9,10,11,12,13,14] U U hs) U U ?_
  try dsimp only [List.take]
  refine lQ U fun Y X K hT=>?_
  refine cG (es2:=(List.map iC ((bG (fun u=>(aY (aN r n) u).Hi) ((r.bo.take k).filter fun u=>(List.lookup u (aN r n)).isSome)).take p++[x]++(bG (fun u=>(aY (aN r n) u).Hi) ((r.bo.take k).filter fun u=>(List.lookup u (aN r n)).isSome)).drop p))) (m':=((bG (fun u=>(aY (aN r n) u).Hi) ((r.bo.take k).filter fun u=>(List.lookup u (aN r n)).isSome)).take p++[x]++(bG (fun u=>(aY (aN r n) u).Hi) ((r.bo.take k).filter fun u=>(List.lookup u (aN r n)).isSome)).drop p).length) 1 U U U l0 U U sm (by rw [List.map_drop]; exact tN 14 U sm os) (gL _) (by first|omega|(simp; omega)|(simp only [maxLen]; omega)|(simp [maxLen]; omega)) (by first|omega|(simp; omega)|(simp only [maxLen]; omega)|(simp [maxLen]; omega)) sm sq U fun m AB=>?_
  try dsimp only
  refine jD hT 25 15 U U (fun w hs=>St.jt [2,3,4,5,6,7,8,9,10,11,12,13,14] U U hs) U U ?_
  try dsimp only [List.take]
  refine lQ U fun Y X K hT=>rS (AG U)<|jD hT 26 15 U U (fun w hs=>St.jt [2,3,4,5,6,7,8,9,10,11,12,13,14] U U hs) U U ?_
  try dsimp only [List.take]
  refine aG<|KK R<|ak<|rP 3 [] mn ?_
  refine aA ?_
  rw [show (own m AB 3 1 (List.map iC ((bG (fun u=>(aY (aN r n) u).Hi) ((r.bo.take k).filter fun u=>(List.lookup u (aN r n)).isSome)).take p++[x]++(bG (fun u=>(aY (aN r n) u).Hi) ((r.bo.take k).filter fun u=>(List.lookup u (aN r n)).isSome)).drop p)))=(own m AB 3 1 ((bG (fun u=>(aY (aN r n) u).Hi) ((r.bo.take (k+1)).filter fun u=>(List.lookup u (aN r n)).isSome)).map iC)) from by rw [oJ hx (by rw [A9]; exact G),ku]; rw [ti nj I H D]]
  rw [show ((bG (fun u=>(aY (aN r n) u).Hi) ((r.bo.take k).filter fun u=>(List.lookup u (aN r n)).isSome)).take p++[x]++(bG (fun u=>(aY (aN r n) u).Hi) ((r.bo.take k).filter fun u=>(List.lookup u (aN r n)).isSome)).drop p).length=(bG (fun u=>(aY (aN r n) u).Hi) ((r.bo.take (k+1)).filter fun u=>(List.lookup u (aN r n)).isSome)).length from by rw [oJ hx (by rw [A9]; exact G),ku,← ti nj I H D]]
  have A3:(vI (((k+1):Nat):Int))=(vI ((k:Int)+1)):=by exact cI I
  refine aS (P ⟨((k+1),m,AB),(by first|omega|(simp only []; omega))⟩ _ _ _ U os (cE 4<|aV U A3<|cS.nil _) (aC [3,4,5,6,7,8,9,10,11,12,13,1]))
 refine WK Aj<|av<|ai fun _ Al=>ai fun _ Am=>dj bX [12,13] [] [] [0,1,2,3,4,5,6,7,8,9,10,11,12] [] U U U U U<|eS U (LW 3 U bQ U U)<|eS U (MV U)<|eS U (MV U)<|eS U (MV U)<|eS U (MV U)<|eS U (BI U (pG ⟨I,I⟩)) ?_
 obtain ⟨y,hy⟩:=aB (bG (fun u=>(aY (aN r n) u).Hi) ((r.bo.take k).filter fun u=>(List.lookup u (aN r n)).isSome)) (p-1) I
 have AI:=br iC hy
 refine eS U (IA (p-1) U (au (n:=(bG (fun u=>(aY (aN r n) u).Hi) ((r.bo.take k).filter fun u=>(List.lookup u (aN r n)).isSome)).length) 12 U sm) cN dc I I)<|eS U (fE (p-1) 0 (vI y) U bQ (au (n:=(bG (fun u=>(aY (aN r n) u).Hi) ((r.bo.take k).filter fun u=>(List.lookup u (aN r n)).isSome)).length) 12 U sm) AI U dc U) ?_
 have AI:=aI hy
 have BP:=(su.mem_iff.1 AI)
 obtain ⟨qy,BL⟩:=List.mem_iff_getElem?.1 (List.mem_of_mem_take (List.mem_filter.1 BP).1)
 have A7:=F.wN BL
 refine eS U (CL (AX r kA kC az cA cC bA bC slA slC drA drC ha heA heC L Bm J (n:Int) y hin I I (by first|exact AH|exact A7) (by exact F.po)) (kF [4,5,6,7,8,9,10,11]<|aL (au (n:=(cj r).length) 1 U (jK (by rw [e]; exact AE)))<|aL (eY 2 U oG)<|aR) U) ?_
 refine eS U (MV U)<|eS U (EX U)<|eS U (EX U)<|eS U (AG U)<|dW U<|bV U fun T48 Ay=>AL U cR fun s=>aA (Ay _ _ (aC [1,2,3,4,5,6,7,8,9,10,11,12,13]) ?_)
 refine bV U fun T50 Az=>fg U bS U<|aA (Az _ _ (aC [1,2,3,4,5,6,7,8,9,10,11,12,13]) ?_)
 refine eU U<|KK Am<|WS fun _ An=>rP 1 [] mn ?_
 rw [show ((eu r.aF r.ay (y).toNat ((n:Int)).toNat).getD cg)=aY (aN r n) y from by unfold aY; rw [rv I]; rfl]
 refine rP 4 [0,1] (mc 0 U (mc 1 U mn)) ?_
 refine RK An<|bH U (aP fun AD=>?_) (aO fun AD=>?_)
 ·refine WK Al<|ak<|rP 3 [] mn ?_
  refine aA<|aG ?_
  have A2:(vI (((p-1):Nat):Int))=(vI ((p:Int)-1)):=by exact cI I
  refine aS (AK ⟨(p-1),⟨I,DB I hy (by show (aY _ _).Hi<(aY _ _).Hi; omega) D⟩⟩ _ _ _ U (by first|omega|(dsimp only; omega)) (cE 6<|aV U A2<|cS.nil _) (aC [1,2,3,4,5,6,7,8,9,10,11,12,13]))
 refine bx<|ae<|gd U<|ae<|ax<|KK d<|Er 13 U fun S=>?_
 simp only [List.length_map] at S
 have H:p=0∨ ∃ y,(bG (fun u=>(aY (aN r n) u).Hi) ((r.bo.take k).filter fun u=>(List.lookup u (aN r n)).isSome))[p-1]? =some y∧(fun u=>(aY (aN r n) u).Hi) y≤(fun u=>(aY (aN r n) u).Hi) x:=by first|exact .inl I|exact .inr ⟨y,hy,AD⟩
 refine EN (L':=[(1,(vI (n:Int))),(2,(vP b2)),(6,(vS Bm ((cj r).length) J)),(8,(vS a ((bG (fun u=>(aY (aN r n) u).Hi) ((r.bo.take k).filter fun u=>(List.lookup u (aN r n)).isSome)).length) c)),(9,(vI (k:Int))),(10,(vP N)),(12,(vI (p:Int))),(13,(vP s)),(14,(vB ((eu r.aF r.ay (y).toNat ((n:Int)).toNat).isSome))),(61,(vI (p:Int))),(62,(vB (decide (0<(p:Int))))),(63,(vT [(vA (aa.cells (aY (aN r n) y))),(vB ((eu r.aF r.ay (y).toNat ((n:Int)).toNat).isSome))])),(64,(vA (eC.cells (pB r kA kC cA cC bA bC slA slC drA drC heA heC)))),(65,(vS Bm ((cj r).length) J)),(66,(vI (n:Int))),(67,(vS a ((bG (fun u=>(aY (aN r n) u).Hi) ((r.bo.take k).filter fun u=>(List.lookup u (aN r n)).isSome)).length) c)),(68,(vI (p:Int))),(69,(vI ((p:Int)-1))),(70,(Value.pointer (oo a ((p-1)*1)))),(71,(vI y)),(72,(vT [(vA (aa.cells (aY (aN r n) y))),(vB ((eu r.aF r.ay (y).toNat ((n:Int)).toNat).isSome))])),(73,(vA (aa.cells (aY (aN r n) y)))),(74,(vB ((eu r.aF r.ay (y).toNat ((n:Int)).toNat).isSome))),(75,(Value.pointer (some ⟨s,1,none⟩))),(76,(vI ((aY (aN r n) y).Hi))),(77,(Value.pointer (some ⟨N,1,none⟩))),(78,(vI ((aY (aN r n) x).Hi))),(79,(vB (decide (((aY (aN r n) y).Hi)≤((aY (aN r n) x).Hi)))))]) U<|kS bX [1,2,3,5,6,7,8,9,12,13,14] [0,4,10,11,15,16] [false,false,false,false,false,false,false,false,false,false,false] [] [(cd s 47 (aa.cells (aY (aN r n) y))),(cd N 47 (aa.cells (aY (aN r n) x))),(own Bm J 78 1 (List.zipWith wF (cj r) L)),(bM (aZ yh (cj r) L)),(cd b2 32 (eC.cells (pB r kA kC cA cC bA bC slA slC drA drC heA heC))),(rd kA r.aF.aH.length 9 (r.aF.aH.map aj.cells)).ro,(rd cA r.aF.ah.length 2 (List.zipWith al.cells r.aF.ah az)).ro,(eg (aZ al.fB r.aF.ah az)).ro,(rd bA r.aF.ab.length 4 (r.aF.ab.map bL.cells)).ro,(rd slA r.aT.length 1 (r.aT.map iC)).ro,(rd drA r.bo.length 1 (r.bo.map iC)).ro,(rd heA r.ay.length 1 (List.zipWith c_ r.ay ha)).ro,(eg (aZ gP r.ay ha)).ro,(own a c 3 1 ((bG (fun u=>(aY (aN r n) u).Hi) ((r.bo.take k).filter fun u=>(List.lookup u (aN r n)).isSome)).map iC))] [] kr (aC [0,1,2,3,4,5,6,7,8,9,10,11,12,13]) (aC [])<|eS U (MV U)<|eS U (MV U) ?_
 refine eS U (NX p U cN I (by first|omega|exact Nat.zero_le _|(simp; omega))) ?_
 refine eS U (FA 8 U fq U)<|eS U (L1 (vS drA r.bo.length drC) 4 U bQ U U)<|eS U (MV U)<|eS U (IA k U (aq 10 U) cN dc I I)<|eS U (fE k 0 (vI x) U bQ (aq 10 U) AF U dc U)<|eS U (MV U)<|eS U (MV U) ?_
 refine eS U (Py p U cN I os) ?_
 refine dW rfl<|xI [.take 0,.op 4,.take 10,.op 11,.op 15,.op 16] [(91,(vI x))] (fun i=>match i with |0=>82|10=>92|_=>0) (fun i b=>match i with |0=> .slice (some ⟨b,0,none⟩) 0 0|10=> .slice (some ⟨b,0,none⟩) 1 1|_=>undef) (fun i b=>match i with |0=>cd b 3 []|10=>cd b 3 [(vI x)]|_=>cd b 0 []) rfl rfl rfl kr rfl rfl (aC [0,1,2,3,4,5,6,7,8,9,10,11,12,13]) (mz (xb rfl cN rfl rfl (fun _=>rfl) fun _=>rfl)<|lz<|mz (BG (xs:=[.tmp 91]) (cs:=[(vI x)]) rfl cN lX rfl rfl rfl rfl (by simp [Value.cells]) rfl rfl rfl (fun _=>rfl) fun _=>rfl)<|lz<|lz<|lz<|z4) ?_
 intro BB
 try dsimp only
 refine lQ U fun Y X K hT=>fp (es:=(List.map iC [])) (C':=[own (some ⟨BB,0,none⟩) 0 3 1 (List.map iC []),_,_,_,_,_,_,_,_,_,_,_,_,_,_]++X) 0 U sm U (by simp [maxLen]) U ?_
 refine cG (es2:=(List.map iC ((bG (fun u=>(aY (aN r n) u).Hi) ((r.bo.take k).filter fun u=>(List.lookup u (aN r n)).isSome)).take p))) (m':=((bG (fun u=>(aY (aN r n) u).Hi) ((r.bo.take k).filter fun u=>(List.lookup u (aN r n)).isSome)).take p).length) 0 U U U l0 U U sm (by rw [List.map_take]; exact wQ (au (n:=(bG (fun u=>(aY (aN r n) u).Hi) ((r.bo.take k).filter fun u=>(List.lookup u (aN r n)).isSome)).length) 14 U sm) os) (gL _) (by first|omega|(simp; omega)|(simp only [maxLen]; omega)|(simp [maxLen]; omega)) (by first|omega|(simp; omega)|(simp only [maxLen]; omega)|(simp [maxLen]; omega)) sm sq U fun BU Ba=>?_
 try dsimp only
 refine jD hT 41 15 U U (fun w hs=>St.jt [1,2,3,4,5,6,7,8,9,10,11,12,13,14] U U hs) U U ?_
 try dsimp only [List.take]
 intro BY
 try dsimp only
 refine lQ U fun Y X K hT=>?_
 refine cG (es2:=(List.map iC ((bG (fun u=>(aY (aN r n) u).Hi) ((r.bo.take k).filter fun u=>(List.lookup u (aN r n)).isSome)).take p++[x]))) (m':=((bG (fun u=>(aY (aN r n) u).Hi) ((r.bo.take k).filter fun u=>(List.lookup u (aN r n)).isSome)).take p++[x]).length) 1 U U U l0 U U sm (bj (es:=List.map iC [x]) 0 U U (by simp [bW]) U) (gL _) (by first|omega|(simp; omega)|(simp only [maxLen]; omega)|(simp [maxLen]; omega)) (by first|omega|(simp; omega)|(simp only [maxLen]; omega)|(simp [maxLen]; omega)) sm sm U fun BV Bb=>?_
 try dsimp only
 refine jD hT 43 16 U U (fun w hs=>St.jt [2,3,4,5,6,7,8,9,10,11,12,13,14,15] U U hs) U U ?_
 try dsimp only [List.take]
 refine lQ U fun Y X K hT=>?_
 refine cG (es2:=(List.map iC ((bG (fun u=>(aY (aN r n) u).Hi) ((r.bo.take k).filter fun u=>(List.lookup u (aN r n)).isSome)).take p++[x]++(bG (fun u=>(aY (aN r n) u).Hi) ((r.bo.take k).filter fun u=>(List.lookup u (aN r n)).isSome)).drop p))) (m':=((bG (fun u=>(aY (aN r n) u).Hi) ((r.bo.take k).filter fun u=>(List.lookup u (aN r n)).isSome)).take p++[x]++(bG (fun u=>(aY (aN r n) u).Hi) ((r.bo.take k).filter fun u=>(List.lookup u (aN r n)).isSome)).drop p).length) 1 U U U l0 U U sm (by rw [List.map_drop]; exact tN 15 U sm os) (gL _) (by first|omega|(simp; omega)|(simp only [maxLen]; omega)|(simp [maxLen]; omega)) (by first|omega|(simp; omega)|(simp only [maxLen]; omega)|(simp [maxLen]; omega)) sm sq U fun j AA=>?_
 try dsimp only
 refine jD hT 44 16 U U (fun w hs=>St.jt [2,3,4,5,6,7,8,9,10,11,12,13,14,15] U U hs) U U ?_
 try dsimp only [List.take]
 refine lQ U fun Y X K hT=>rS (AG U)<|jD hT 45 16 U U (fun w hs=>St.jt [2,3,4,5,6,7,8,9,10,11,12,13,14,15] U U hs) U U ?_
 try dsimp only [List.take]
 refine aG<|KK R<|ak<|rP 3 [] mn ?_
 refine aA ?_
 rw [show (own j AA 3 1 (List.map iC ((bG (fun u=>(aY (aN r n) u).Hi) ((r.bo.take k).filter fun u=>(List.lookup u (aN r n)).isSome)).take p++[x]++(bG (fun u=>(aY (aN r n) u).Hi) ((r.bo.take k).filter fun u=>(List.lookup u (aN r n)).isSome)).drop p)))=(own j AA 3 1 ((bG (fun u=>(aY (aN r n) u).Hi) ((r.bo.take (k+1)).filter fun u=>(List.lookup u (aN r n)).isSome)).map iC)) from by rw [oJ hx (by rw [A9]; exact G),ku]; rw [ti nj I H D]]
 rw [show ((bG (fun u=>(aY (aN r n) u).Hi) ((r.bo.take k).filter fun u=>(List.lookup u (aN r n)).isSome)).take p++[x]++(bG (fun u=>(aY (aN r n) u).Hi) ((r.bo.take k).filter fun u=>(List.lookup u (aN r n)).isSome)).drop p).length=(bG (fun u=>(aY (aN r n) u).Hi) ((r.bo.take (k+1)).filter fun u=>(List.lookup u (aN r n)).isSome)).length from by rw [oJ hx (by rw [A9]; exact G),ku,← ti nj I H D]]
 have A1:(vI (((k+1):Nat):Int))=(vI ((k:Int)+1)):=by exact cI I
 refine aS (P ⟨((k+1),j,AA),(by first|omega|(simp only []; omega))⟩ _ _ _ U os (cE 4<|aV U A1<|cS.nil _) (aC [4,5,6,7,8,9,10,11,12,13,14,1]))
end
section
open Go.RowKit
theorem Ea (r:cV) (kA:OA) (kC:Nat) (az:List RA) (cA:OA) (cC:Nat) (bA:OA) (bC:Nat) (slA:OA) (slC:Nat) (drA:OA) (drC:Nat) (ha:List dv) (heA:OA) (heC:Nat) (hin:fZ r az ha):
 dL Tryz.prog 22 [(vA (eC.cells (pB r kA kC cA cC bA bC slA slC drA drC heA heC)))] [(rd kA r.aF.aH.length 9 (r.aF.aH.map aj.cells)),(rd cA r.aF.ah.length 2 (List.zipWith al.cells r.aF.ah az)),(eg (aZ al.fB r.aF.ah az)),(rd bA r.aF.ab.length 4 (r.aF.ab.map bL.cells)),(rd slA r.aT.length 1 (r.aT.map iC)),(rd drA r.bo.length 1 (r.bo.map iC)),(rd heA r.ay.length 1 (List.zipWith c_ r.ay ha)),(eg (aZ gP r.ay ha))] (vI (eN r)):=by
 have H:=hin.line
 have M:=hin.iG
 have N:=hin.has
 have J:=hin.iE
 have AB:=hin.draw
 have K:=dK (r:=r)
 refine bu kr Tryz.func22 U U fun V Q hQ hN=>?_
 try dsimp only
 refine WS fun _ G=>eQ U fun AA=>bp 1 U<|RK G<|WS fun _ C=>rP 1 [] (mc 0 U mn) ?_
 refine cX (pj r kA kC az cA cC bA bC slA slC drA drC ha heA heC hin) (bf [1,2,3,4,5,6,7,8]) U fun T E=>?_
 obtain ⟨F,L,P,R,S⟩:=T
 cases F
 rotate_left 1
 ·obtain ⟨he,O⟩:=E.1 rfl
  try dsimp only [cond_true,cond_false,List.cons_append,List.nil_append]
  refine bp 5 U<|RK C<|WS fun _ B=>rP 2 [] mn ?_
  refine RK B<|an<|Q1 hQ U U U ?_
  first|rfl|(rw [he])
 obtain ⟨D,he⟩:=E.2 rfl
 try dsimp only at D he
 subst D
 try dsimp only [cond_true,cond_false,List.cons_append,List.nil_append]
 refine bp 5 U<|RK C<|WS fun _ A=>rP 2 [] mn ?_
 refine RK A<|an<|Q1 hQ U U U ?_
 first|rfl|(rw [he])
end
section
open Go.RowKit
theorem zu (r:cV) (kA:OA) (kC:Nat) (az:List RA) (cA:OA) (cC:Nat) (bA:OA) (bC:Nat) (slA:OA) (slC:Nat) (drA:OA) (drC:Nat) (ha:List dv) (heA:OA) (heC:Nat) (heatX i:Int) (hraw:qA r az ha):
 dL Tryz.prog 4 [(vA (eC.cells (pB r kA kC cA cC bA bC slA slC drA drC heA heC))),(vI heatX),(vI i)] [(rd gZ 3 2 fQ),(rd kA r.aF.aH.length 9 (r.aF.aH.map aj.cells)),(rd cA r.aF.ah.length 2 (List.zipWith al.cells r.aF.ah az)),(eg (aZ al.fB r.aF.ah az)),(rd bA r.aF.ab.length 4 (r.aF.ab.map bL.cells)),(rd slA r.aT.length 1 (r.aT.map iC)),(rd drA r.bo.length 1 (r.bo.map iC)),(rd heA r.ay.length 1 (List.zipWith c_ r.ay ha)),(eg (aZ gP r.ay ha))] (vB true):=by
 refine bu kr Tryz.func4 U U fun w0 Q hQ hN=>?_
 try dsimp only
 refine WS fun _ o=>eQ U fun b2=>bp 1 U<|RK o<|ai fun _ p=>WS fun _ q=>rP 1 [] (mc 0 U mn) ?_
 refine rS (CL (zB r kA kC az cA cC bA bC slA slC drA drC ha heA heC hraw) (bf [2,3,4,5,6,7,8,9]) U)<|RK q<|cw U (aO fun S=>?_) (aP fun S=>?_)
 ·refine WS fun _ s=>rP 1 [] mn ?_
  refine RK s<|an<|Q1 hQ U U U ?_
  first|exact cB (dw rfl)|rfl
 refine WK p<|WS fun _ u=>?_
 have O:=hraw.small S
 have w:=O.line
 have AM:=O.iG
 have AN:=O.has
 have AC:=O.iE
 have AA:=O.draw
 have AD:=dK (r:=r)
 refine rP 1 [] (mc 0 U mn) ?_
 refine cX (AU r kA kC az cA cC bA bC slA slC drA drC ha heA heC sd sd) (bf [2,3,4,5,6,7,8,9]) U fun y7 x=>?_
 obtain ⟨R,H,B,AQ,G,C,J,D,K,E,L,F,M,N⟩:=y7
 try dsimp only
 obtain ⟨⟨P,v⟩,A⟩:=x
 refine AL U LH fun AG=>fg U LD U<|RK u<|WS fun _ a=>?_
 have AB:=O.KA P v A
 have AO:(eP r heatX).length≤12:=zY O.draw
 refine rP 3 [] (mc 0 U mn) ?_
 refine rS (CL (Kt heatX i r R H G B AQ C J D K E L N F M sd) (fM 10 U U<|aL (au (n:=r.aF.aH.length) 1 U sm)<|aL (au (n:=r.aF.ah.length) 2 U (jR P))<|aL (eY 3 U o0)<|aL (au (n:=r.aF.ab.length) 4 U sm)<|aL (au (n:=r.aT.length) 5 U sm)<|aL (au (n:=r.bo.length) 6 U sm)<|aL (au (n:=r.ay.length) 7 U (gn A.1))<|aL (m6 8 U A)<|aR) U) ?_
 refine bp 3 U<|AL U cR fun AH=>fg U bS U<|bp 1 U<|RK a<|WS fun _ b=>rP 3 [] (mc 10 U mn) ?_
 refine rS (CL (Hh r kA kC az cA cC bA bC slA slC drA drC ha heA heC heatX i sd) (bf [12,13,14,15,16,17,18,19]) U) ?_
 refine bp 3 U<|AL U cR fun AI=>fg U bS U<|bp 1 U<|RK b<|WS fun _ c=>rP 2 [] (mc 2 U mn) ?_
 refine rS (CL (Mx i r R H G B AQ C J D K E L N F M sd) (fM 12 U U<|aL (au (n:=r.aF.aH.length) 3 U sm)<|aL (au (n:=r.aF.ah.length) 4 U (jR P))<|aL (eY 5 U o0)<|aL (au (n:=r.aF.ab.length) 6 U sm)<|aL (au (n:=r.aT.length) 7 U sm)<|aL (au (n:=r.bo.length) 8 U sm)<|aL (au (n:=r.ay.length) 9 U (gn A.1))<|aL (m6 10 U A)<|aR) U) ?_
 refine bp 3 U<|AL U cR fun AJ=>fg U bS U<|bp 1 U<|RK c<|WS fun _ d=>rP 2 [] (mc 12 U mn) ?_
 refine rS (CL (JO r kA kC az cA cC bA bC slA slC drA drC ha heA heC i sd) (bf [14,15,16,17,18,19,20,21]) U) ?_
 refine bp 3 U<|AL U cR fun AK=>fg U bS U<|bp 1 U<|RK d<|WS fun _ e=>rP 2 [] (mc 4 U mn) ?_
 refine cX (HI heatX r R H G B AQ C J D K E L N F M sd) (fM 14 U U<|aL (au (n:=r.aF.aH.length) 5 U sm)<|aL (au (n:=r.aF.ah.length) 6 U (jR P))<|aL (eY 7 U o0)<|aL (au (n:=r.aF.ab.length) 8 U sm)<|aL (au (n:=r.aT.length) 9 U sm)<|aL (au (n:=r.bo.length) 10 U sm)<|aL (au (n:=r.ay.length) 11 U (gn A.1))<|aL (m6 12 U A)<|aR) U fun y AE=>?_
 obtain ⟨j,l⟩:=y
 try dsimp only
 refine bp 5 U<|RK e<|WS fun _ f=>rP 2 [] (mc 14 U mn) ?_
 refine cX (Fl r kA kC az cA cC bA bC slA slC drA drC ha heA heC heatX sd) (bf [16,17,18,19,20,21,22,23]) U fun z AF=>?_
 obtain ⟨k,m⟩:=z
 try dsimp only
 refine bp 5 U<|RK f<|ai fun _ g=>cU bX 41 kr<|dP 1 [] (mc 6 U mn) ?_
 refine dS (CL (E4 r R H G B AQ C J D K E L N F M sd) (fM 16 U U<|aL (au (n:=r.aF.aH.length) 7 U sm)<|aL (au (n:=r.aF.ah.length) 8 U (jR P))<|aL (eY 9 U o0)<|aL (au (n:=r.aF.ab.length) 10 U sm)<|aL (au (n:=r.aT.length) 11 U sm)<|aL (au (n:=r.bo.length) 12 U sm)<|aL (au (n:=r.ay.length) 13 U (gn A.1))<|aL (m6 14 U A)<|aR) U) ?_
 refine dP 1 [] (mc 15 U mn) ?_
 refine dS (CL (Ea r kA kC az cA cC bA bC slA slC drA drC ha heA heC sd) (bf [17,18,19,20,21,22,23,24]) U) ?_
 refine dP 2 [] mn ?_
 refine fU (t:=67) U (aP fun T=>?_) (aO fun T=>?_)
 ·exact absurd U T
 refine lg 2 [0,1] (mc 5 U (mc 4 U mn)) U<|dS (BI U (q7 _ _ (fK r heatX i) (fK r heatX i)))<|dP 2 [] mn ?_
 refine fU (t:=72) U (aP fun AP=>?_) (aO fun AP=>?_)
 ·exact absurd U AP
 refine dP 5 [] mn ?_
 refine fU (t:=77) U (aP fun V=>?_) (aO fun V=>?_)
 ·exact absurd U V
 refine lg 2 [0,1] (mc 3 U (mc 2 U mn)) U<|dS (BI U (q7 _ _ (kQ r i) (kQ r i)))<|dP 2 [] mn ?_
 refine fU (t:=82) U (aP fun W=>?_) (aO fun W=>?_)
 ·exact absurd U W
 refine dP 5 [] mn ?_
 refine fU (t:=87) U (aP fun X=>?_) (aO fun X=>?_)
 ·exact absurd U X
 refine jY 2 U<|dS (CL (ov (eP r heatX) j l (eP r heatX) k m I I) (aL (au (n:=(eP r heatX).length) 1 U sm)<|aL (au (n:=(eP r heatX).length) 0 U sm)<|aR) U)<|dP 2 [] mn ?_
 refine fU (t:=92) U (aP fun Y=>?_) (aO fun Y=>?_)
 ·exact absurd U Y
 refine dP 5 [] mn ?_
 refine fU (t:=97) U (aP fun Z=>?_) (aO fun Z=>?_)
 ·exact absurd U Z
 refine dP 2 [0,1] (mc 6 U (mc 15 U mn)) ?_
 refine dS (CL (zU r R H G B AQ C J D K E L N F M r kA kC az cA cC bA bC slA slC drA drC ha heA heC sd sd sd sd) (aL (au (n:=r.aF.aH.length) 7 U sm)<|aL (au (n:=r.aF.ah.length) 8 U (jR P))<|aL (eY 9 U o0)<|aL (au (n:=r.aF.ab.length) 10 U sm)<|aL (au (n:=r.aT.length) 11 U sm)<|aL (au (n:=r.bo.length) 12 U sm)<|aL (au (n:=r.ay.length) 13 U (gn A.1))<|aL (m6 14 U A)<|fM 17 U U<|fM 18 U U<|fM 19 U U<|fM 20 U U<|fM 21 U U<|fM 22 U U<|fM 23 U U<|fM 24 U U<|aR) U) ?_
 refine dP 2 [] mn ?_
 refine cv<|RK g<|an<|Q1 hQ U U U ?_
 first|exact cB (dw rfl)|rfl
end
section
open Go.RowKit
def gC {α:Type} (cells:α→List Value) (sz:Nat) (R:World→α→Prop) (w:World) (s:bE):Prop:= ∃ l:List α,s.n=l.length∧(rd s.a l.length sz (l.map cells)).holds w∧(∀ x∈l,R w x)∧l.length≤maxLen∧s.n≤s.c
theorem sI {w:World} {R:World→bY→Prop}: ∀ {l:List cT},(∀ x∈l,gC bY.cells 3 R w x.aK)→ ∃ (ms:List al) (az:List RA),l.map cT.cells=List.zipWith al.cells ms az∧ms.length=l.length∧az.length=l.length∧(∀ X∈aZ al.fB ms az,X.holds w)∧
 (∀ (k:Nat) m (a:RA),ms[k]? =some m→az[k]? =some a→m.aK.length≤a.2∧m.aK.length≤9223372036854775807)∧ms.map (fun m=>m.cJ)=l.map (fun x=>x.cJ)∧ ∀ (k:Nat) m y,ms[k]? =some m→y∈m.aK→R w y
 |[],_=>⟨[],[],rfl,rfl,rfl,(fun X hX=>by cases hX),(fun k m a h=>by simp at h),rfl,(fun k m y h=>by simp at h)⟩
 |x::l,h=>by
  obtain ⟨ms,az,E,F,G,H,AA,J,K⟩:=sI (fun y hy=>h y (dq _ hy))
  obtain ⟨sy,A,B,C,D,L⟩:=h x sm
  have e4':sy.length≤9223372036854775807:=D
  refine ⟨⟨x.cJ,sy⟩::ms,(x.aK.a,x.aK.c)::az,?_,by simp [F],by simp [G],fun X hX=>?_,fun k m a hm ha=>?_,by simp [J],fun k m y hm hy=>?_⟩
  ·obtain ⟨dr,⟨a,n,c⟩⟩:=x
   simp only at A
   subst A
   simp only [List.map_cons,List.zipWith_cons_cons,E]
   rfl
  ·rcases List.mem_append.1 hX with hX|hX
   ·simp only [al.fB,cu] at hX
    subst hX; exact B
   ·exact H X hX
  ·cases k with
   |zero=>
    simp only [List.getElem?_cons_zero,Option.some.injEq] at hm ha
    subst hm ha
    exact ⟨by simp only; omega,e4'⟩
   |succ k=>exact AA k m a (by simpa using hm) (by simpa using ha)
  ·cases k with
   |zero=>
    simp only [List.getElem?_cons_zero,Option.some.injEq] at hm
    subst hm
    exact C y hy
   |succ k=>exact K k m y (by simpa using hm) hy
theorem D3 {w:World} {s:cb} {R1:World→aj→Prop} {R2:World→cT→Prop} {R3:World→bL→Prop} {R4:World→bY→Prop} (h1:gC aj.cells 9 R1 w s.aH.jH) (hs: ∀ x,R1 w x→0≤x.gI∧x.gI≤255) (h2:gC cT.cells 2 R2 w s.ah) (hc: ∀ x,R2 w x→gC bY.cells 3 R4 w x.aK) (h3:gC bL.cells 4 R3 w s.ab):
 ∃ (l:aQ) (az:List RA) (kA:OA) (kC:Nat) (cA:OA) (cC:Nat) (bA:OA) (bC:Nat),s=cb.mk (bB.mk (bE.mk kA l.aH.length kC)) l.gY (bE.mk cA l.ah.length cC) (bE.mk bA l.ab.length bC) l.cQ l.eO l.cW∧qY l az∧
  ((rd kA l.aH.length 9 (l.aH.map aj.cells)).holds w∧(rd cA l.ah.length 2 (List.zipWith al.cells l.ah az)).holds w∧(eg (aZ al.fB l.ah az)).holds w∧(rd bA l.ab.length 4 (l.ab.map bL.cells)).holds w)∧l.gY=s.gY∧l.cQ=s.cQ∧l.eO=s.eO∧l.cW=s.cW:=by
 obtain ⟨⟨⟨ka,kn,kc⟩⟩,fa,⟨ca,cn,cc⟩,⟨ba,bn,bc⟩,fi,fk,mi⟩:=s
 obtain ⟨ts,E,M,N,O,T⟩:=h1
 obtain ⟨cs,B,C,H,AA,R⟩:=h2
 obtain ⟨bs,A,F,P,G,Q⟩:=h3
 simp only at E B A
 subst E B A
 obtain ⟨ms,az,J,D,S,K,L,_⟩:=sI (fun x hx=>hc x (H x hx))
 have t4':ts.length≤9223372036854775807:=O
 have c4':cs.length≤9223372036854775807:=AA
 have b4':bs.length≤9223372036854775807:=G
 refine ⟨⟨ts,fa,ms,bs,fi,fk,mi⟩,az,ka,kc,ca,cc,ba,bc,by simp only [D],⟨t4',fun x hx=>hs x (N x hx),by simp only; omega,by simp only; omega,b4',L⟩,⟨M,?_,K,F⟩,U,U,U,U⟩
 simp only at C ⊢
 rw [D,← J]; exact C
end
section
open Go.RowKit
theorem uy {w:World} {R:World→aD→Prop}: ∀ {l:List bq},(∀ x∈l,gC aD.cells 2 R w x.bO.ag)→ ∃ (ms:List aw) (az:List RA),l.map bq.cells=List.zipWith aw.cells ms az∧ms.length=l.length∧az.length=l.length∧(∀ X∈aZ aw.fB ms az,X.holds w)∧
 ∀ d∈ms,d.bO.ag.length≤9223372036854775807
 |[],_=>⟨[],[],rfl,rfl,rfl,(fun X hX=>by cases hX),fun d h=>by cases h⟩
 |x::l,h=>by
  obtain ⟨ms,az,D,E,F,G,H⟩:=uy (fun y hy=>h y (dq _ hy))
  obtain ⟨sg,A,B,AA,C,J⟩:=h x sm
  have e4':sg.length≤9223372036854775807:=C
  refine ⟨⟨x.Out,x.de,x.Time,⟨x.bO.Start,x.bO.eX,sg⟩⟩::ms,(x.bO.ag.a,x.bO.ag.c)::az,?_,by simp [E],by simp [F],fun X hX=>?_,fun d hd=>?_⟩
  ·obtain ⟨o,f,t,⟨st,nw,⟨a,n,c⟩⟩⟩:=x
   simp only at A
   subst A
   simp only [List.map_cons,List.zipWith_cons_cons,D]
   rfl
  ·rcases List.mem_append.1 hX with hX|hX
   ·simp only [aw.fB,cu] at hX
    subst hX; exact B
   ·exact G X hX
  ·rcases List.mem_cons.1 hd with rfl|hd
   ·exact e4'
   ·exact H d hd
theorem tR {w:World} {R2:World→bq→Prop} {R:World→aD→Prop} (hc: ∀ x,R2 w x→gC aD.cells 2 R w x.bO.ag): ∀ {l:List bE},(∀ x∈l,gC bq.cells 7 R2 w x)→ ∃ (ms:List (List aw)) (ha:List dv),(l.map fun s=>[vS s.a s.n s.c])=List.zipWith c_ ms ha∧ms.length=l.length∧ha.length=l.length∧(∀ X∈aZ gP ms ha,X.holds w)∧
 ∀ (k:Nat) h (a:dv),ms[k]? =some h→ha[k]? =some a→h.length≤9223372036854775807∧a.2.length=h.length∧ ∀ d∈h,d.bO.ag.length≤9223372036854775807
 |[],_=>⟨[],[],rfl,rfl,rfl,(fun X hX=>by cases hX),(fun k h a q=>by simp at q)⟩
 |x::l,h=>by
  obtain ⟨ms,ha,J,K,L,M,N⟩:=tR hc (fun y hy=>h y (dq _ hy))
  obtain ⟨ds,C,G,H,AA,P⟩:=h x sm
  obtain ⟨dm,az,D,B,O,E,F⟩:=uy fun y hy=>hc y (H y hy)
  have e4':ds.length≤9223372036854775807:=AA
  refine ⟨dm::ms,((x.a,x.c),az)::ha,?_,by simp [K],by simp [L],fun X hX=>?_,fun k m a hm A=>?_⟩
  ·obtain ⟨a,n,c⟩:=x
   simp only at C
   subst C
   simp only [List.map_cons,List.zipWith_cons_cons,J,c_,B]
  ·rcases List.mem_append.1 hX with hX|hX
   ·unfold gP at hX
    rcases List.mem_cons.1 hX with rfl|hX
    ·simp only
     rw [B,← D]; exact G
    ·exact E X hX
   ·exact M X hX
  ·cases k with
   |zero=>
    simp only [List.getElem?_cons_zero,Option.some.injEq] at hm A
    subst hm A
    exact ⟨I,by simp only; omega,F⟩
   |succ k=>exact N k m a (by simpa using hm) (by simpa using A)
theorem DG {w:World} {s:eC} {R1:World→aj→Prop} {R2:World→cT→Prop} {R3:World→bL→Prop} {R4:World→bY→Prop} {R5:World→Int→Prop} {R6:World→bE→Prop} {R7:World→bq→Prop} {R8:World→aD→Prop}
 (h1:gC aj.cells 9 R1 w s.aF.aH.jH) (hs: ∀ x,R1 w x→0≤x.gI∧x.gI≤255) (h2:gC cT.cells 2 R2 w s.aF.ah) (hc: ∀ x,R2 w x→gC bY.cells 3 R4 w x.aK) (h3:gC bL.cells 4 R3 w s.aF.ab)
 (h4:gC iC 1 R5 w s.aT) (h5:gC iC 1 R5 w s.bo) (h6:gC (fun s=>[vS s.a s.n s.c]) 1 R6 w s.ay) (h7: ∀ x,R6 w x→gC bq.cells 7 R7 w x) (h8: ∀ x,R7 w x→gC aD.cells 2 R8 w x.bO.ag):
 ∃ (r:cV) (az:List RA) (ha:List dv) (kA:OA) (kC:Nat) (cA:OA) (cC:Nat) (bA:OA) (bC:Nat) (slA:OA) (slC:Nat) (drA:OA) (drC:Nat) (heA:OA) (heC:Nat),
  s=eC.mk (cb.mk (bB.mk (bE.mk kA r.aF.aH.length kC)) r.aF.gY (bE.mk cA r.aF.ah.length cC) (bE.mk bA r.aF.ab.length bC) r.aF.cQ r.aF.eO r.aF.cW) (bE.mk slA r.aT.length slC) (bE.mk drA r.bo.length drC) r.i_ (bE.mk heA r.ay.length heC)∧qA r az ha∧
  ((rd kA r.aF.aH.length 9 (r.aF.aH.map aj.cells)).holds w∧(rd cA r.aF.ah.length 2 (List.zipWith al.cells r.aF.ah az)).holds w∧(eg (aZ al.fB r.aF.ah az)).holds w∧(rd bA r.aF.ab.length 4 (r.aF.ab.map bL.cells)).holds w∧
   (rd slA r.aT.length 1 (r.aT.map iC)).holds w∧(rd drA r.bo.length 1 (r.bo.map iC)).holds w∧(rd heA r.ay.length 1 (List.zipWith c_ r.ay ha)).holds w∧(eg (aZ gP r.ay ha)).holds w):=by
 obtain ⟨ln,⟨sa,sn,sc⟩,⟨da,dn,dc⟩,tu,⟨ea,en,ec⟩⟩:=s
 obtain ⟨l,az,kA,kC,cA,cC,bA,bC,e,A,hh,_⟩:=D3 (s:=ln) h1 hs h2 hc h3
 subst e
 obtain ⟨sl,F,N,T,O,AA⟩:=h4
 obtain ⟨dr,B,G,P,H,Q⟩:=h5
 obtain ⟨he,D,E,L,M,S⟩:=h6
 obtain ⟨ms,ha,AB,C,R,J,K⟩:=tR h8 (fun x hx=>h7 x (L x hx))
 simp only at F B D
 subst F B D
 have s4':sl.length≤9223372036854775807:=O
 have d4':dr.length≤9223372036854775807:=H
 have q4':he.length≤9223372036854775807:=M
 refine ⟨⟨l,sl,dr,tu,ms⟩,az,ha,kA,kC,cA,cC,bA,bC,sa,sc,da,dc,ea,ec,by simp only [C],⟨A,s4',d4',by simp only; omega,by simp only; omega,K⟩,hh.1,hh.2.1,hh.2.2.1,hh.2.2.2,N,G,?_,J⟩
 simp only at E ⊢
 rw [C,← AB]; exact E
end
end Go.Proofs.YtcoejkiaokbmpaaGreatDoor
