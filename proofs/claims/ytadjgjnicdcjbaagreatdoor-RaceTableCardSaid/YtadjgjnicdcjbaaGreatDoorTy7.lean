/-
 The statement raceTable_said, part 7 of 8: Async, NJoin, Rt3, Rr1, WLe, Ends5, Can, False, Sim, Told, Clear, Ways, WayM, B7, B8, B9, R1, Y1, Y2, Y3, Y5, Rx5, Rx8, Rx9.
 Conditions: none.
-/
import Derived.Test.YtadjgjnicdcjbaaGreatDoorTy1
import Derived.Test.YtadjgjnicdcjbaaGreatDoorTy2
import Derived.Test.YtadjgjnicdcjbaaGreatDoorTy3
import Derived.Test.YtadjgjnicdcjbaaGreatDoorTy4
import Derived.Test.YtadjgjnicdcjbaaGreatDoorTy5
import Derived.Test.YtadjgjnicdcjbaaGreatDoorTy6
namespace Go.Proofs.YtadjgjnicdcjbaaGreatDoor
set_option maxRecDepth 100000
set_option maxHeartbeats 4000000
set_option linter.unusedVariables false
section
open Go.RowKit
/-- a row is taken that was made before; an operation -/
inductive fy where
 |take (i:Nat)
 |op (j:Nat)
def fy.ix:fy→Nat
 | .take i=>i
 | .op j=>j
def B8 (dO:Nat→Nat):List fy→List Nat
 |[]=>[]
 | .take i::s=>dO i::B8 dO s
 | .op _::s=>B8 dO s
theorem s9 {dO:Nat→Nat} {i:Nat}: ∀ {s:List fy},fy.take i∈s→dO i∈B8 dO s
 | .take k::s,h=>by
  rcases List.mem_cons.1 h with e|h
  ·cases e; exact cb ..
  ·exact cQ _ (s9 h)
 | .op k::s,h=>by
  rcases List.mem_cons.1 h with e|h
  ·cases e
  ·exact s9 (s:=s) h
def rB (m:Array Nat) (dO:Nat→Nat) (x y:fy):Bool:=x.ix != y.ix&&(match y with | .op j=>ir m x.ix j| .take i=>match x with | .take k=>dO k != dO i| .op _=>true)
def TS (m:Array Nat) (dO:Nat→Nat):List fy→Bool
 |[]=>true
 |x::s=>s.all (rB m dO x)&&TS m dO s
theorem FR {m:Array Nat} {dO:Nat→Nat}: ∀ {s:List fy},TS m dO s=true→s.Pairwise fun x y=>rB m dO x y=true
 |[],_=>List.Pairwise.nil
 |x::s,h=>by
  simp only [TS,cJ] at h
  exact List.Pairwise.cons (fun y hy=>List.all_eq_true.1 h.1 y hy) (FR h.2)
/-- what is known of the slots B is known in L -/
def Cb (B L:List (Nat×Value)):Prop:= ∀ t v,B.lookup t=some v→L.lookup t=some v
theorem vV {B L:List (Nat×Value)} (h:B.map (fun p=>L.lookup p.1)=B.map (fun p=>some p.2)):Cb B L:=by
 induction B with
 |nil=>intro t v h; simp at h
 |cons p B ih=>
  obtain ⟨k,u⟩:=p
  simp only [List.map_cons,List.cons.injEq] at h
  intro t v hl
  by_cases e:t=k
  ·subst e
   simp only [List.lookup,beq_self_eq_true,Option.some.injEq] at hl
   rw [h.1,hl]
  ·have:(t==k)=false:=by simpa using e
   simp only [List.lookup,this] at hl
   exact ih h.2 t v hl
theorem nP {L Y:List (Nat×Value)} {t:Nat}:(L++Y).lookup t=match L.lookup t with |some v=>some v|none=>Y.lookup t:=by
 induction L with
 |nil=>rfl
 |cons p L ih=>
  obtain ⟨k,u⟩:=p
  by_cases e:t==k
  ·simp [List.lookup,e]
  ·have:(t==k)=false:=by simpa using e
   simp only [List.cons_append,List.lookup,this,ih]
theorem Cb.app {B L Y:List (Nat×Value)} (h:Cb B L):Cb B (L++Y):=fun t v ht=>by rw [nP,h t v ht]
theorem Pv {B L:List (Nat×Value)} (h:Cb B L) {x:Operand} {v:Value} (hv:ev B x=some v):ev L x=some v:=by
 cases x<;>simp only [ev] at hv ⊢ <;>first|exact h _ _ hv|exact hv
theorem Fe {B L:List (Nat×Value)} (h:Cb B L): ∀ {xs:List Operand} {vs:List Value},evs B xs=some vs→evs L xs=some vs
 |[],vs,hv=>hv
 |x::xs,vs,hv=>by
  simp only [evs] at hv ⊢
  cases e1:ev B x with
  |none=>rw [e1] at hv; simp at hv
  |some v=>
   cases e2:evs B xs with
   |none=>rw [e1,e2] at hv; simp at hv
   |some us=>
    rw [e1,e2] at hv
    rw [Pv h e1,Fe h e2]; exact hv
section
variable (E:eZ) (ops:Array Oper) (D:List Deferred) (C':List aq) (K0:Act→World→Prop) (B:List (Nat×Value)) (dO:Nat→Nat) (VO:Nat→Nat→Value) (AO:Nat→Nat→aq)
def CH:List fy→List (Nat×Value)→List aq→Prop
 |[],L,C=>KJ E K0 D L C
 | .take i::s,L,C=> ∀ b,CH s ((dO i,VO i b)::L) (AO i b::C)
 | .op j::s,L,C=> ∀ o,ops[j]? =some o→ ∀ (Y:List (Nat×Value)) (X:List aq) (K:Act→World→Prop),(∀ L' C'',(∀ w,St E.S E.w0 C'' w→St E.S E.w0 C' w)→((B8 dO s).all fun d=>(L'.lookup d).isNone)=true→B.map (fun p=>L'.lookup p.1)=B.map (fun p=>some p.2)→CH s L' C''→KJ E K D (L'++Y) (C''++X))→RJ E ops (NQ K) [o] D (L++Y) (C++X)
/-- a row that is made at any time -/
def Ts (i:Nat):Prop:= ∀ o,ops[i]? =some o→ ∀ (L:List (Nat×Value)) (C:List aq) (K:Act→World→Prop),Cb B L→(∀ b,KJ E K D ((dO i,VO i b)::L) (AO i b::C))→RJ E ops (NQ K) [o] D L C
end
section
variable {E:eZ} {ops:Array Oper} {D:List Deferred} {C' C1:List aq} {K0:Act→World→Prop} {B:List (Nat×Value)} {dO:Nat→Nat} {VO:Nat→Nat→Value} {AO:Nat→Nat→aq}
theorem Fx {Q:cY} {rest:List Oper} {L L2:List (Nat×Value)} {C C2:List aq} (hL: ∀ a,Fr E.n D L a→Fr E.n D L2 a) (hC: ∀ w,St E.S E.w0 C w→St E.S E.w0 C2 w) (h:RJ E ops Q rest D L2 C2):RJ E ops Q rest D L C:=fun a w hf hs=>h a w (hL a hf) (hC w hs)
theorem AD {K:Act→World→Prop} {L L2:List (Nat×Value)} {C C2:List aq} (hL: ∀ a,Fr E.n D L a→Fr E.n D L2 a) (hC: ∀ w,St E.S E.w0 C w→St E.S E.w0 C2 w) (h:KJ E K D L2 C2):KJ E K D L C:=fun a w hf hs=>h a w (hL a hf) (hC w hs)
theorem BP {n:Nat} {L L2:List (Nat×Value)} (h: ∀ t v,L2.lookup t=some v→L.lookup t=some v) (a:Act) (hf:Fr n D L a):Fr n D L2 a:=⟨hf.defers,hf.size,fun t v ht=>hf.at_ t v (h t v ht)⟩
theorem EG: ∀ (T0 s':List fy) (dn:List (Nat×Nat)) (L Y:List (Nat×Value)) (C:List aq),(∀ x∈T0,∃ i b,x= .take i∧(i,b)∈dn)→(T0++s').Pairwise (fun x y=>rB (pZ ops) dO x y=true)→(dn.map (·.1)).Nodup→(∀ p∈dn,fy.take p.1∈T0++s')→(∀ p∈dn,Y.lookup (dO p.1)=some (VO p.1 p.2))→(∀ i,fy.take i∈T0++s'→L.lookup (dO i)=none)→
 CH E ops D C' K0 B dO VO AO (T0++s') L C→ ∃ (dn':List (Nat×Nat)) (L':List (Nat×Value)) (C2:List aq),CH E ops D C' K0 B dO VO AO s' L' C2∧(dn'.map (·.1)).Nodup∧(∀ p,p∈dn'↔p∈dn∧fy.take p.1∈s')∧(∀ t v,(L'++Y).lookup t=some v→(L++Y).lookup t=some v)∧(∀ i,fy.take i∈s'→L'.lookup (dO i)=none)∧(∀ w,St E.S E.w0 (C++dn.map fun p=>AO p.1 p.2) w→St E.S E.w0 (C2++dn'.map fun p=>AO p.1 p.2) w)
 |[],s',dn,L,Y,C,_,_,hn,hm,_,hl,h=>⟨dn,L,C,h,hn,fun p=>⟨fun q=>⟨q,hm p q⟩,fun q=>q.1⟩,fun t v q=>q,hl,fun w q=>q⟩
 |x::T0,s',dn,L,Y,C,ht,hp,hn,hm,hy,hl,h=>by
  obtain ⟨i,b,rfl,hb⟩:=ht x (cb ..)
  obtain ⟨J,P⟩:=List.pairwise_cons.1 hp
  have AB: ∀ y∈T0++s',i≠y.ix:=fun y hy e=>by
   have:=J y hy
   simp only [rB,cJ,bne_iff_ne,fy.ix] at this
   exact this.1 e
  have N: ∀ k,fy.take k∈T0++s'→dO k≠dO i:=fun k hk e=>by
   have:=J _ hk
   simp only [rB,cJ,bne_iff_ne] at this
   exact this.2 e.symm
  have K:dn.Perm ((i,b)::dn.erase (i,b)):=List.perm_cons_erase hb
  have H:((dn.erase (i,b)).map (·.1)).Nodup∧i ∉ (dn.erase (i,b)).map (·.1):=by
   have:=(K.map (·.1)).nodup_iff.1 hn
   exact ⟨(List.nodup_cons.1 this).2,(List.nodup_cons.1 this).1⟩
  have A: ∀ p∈dn.erase (i,b),p∈dn∧p.1≠i:=fun p hp=>⟨List.mem_of_mem_erase hp,fun e=>by have q:=List.mem_map_of_mem (f:=fun p:Nat×Nat=>p.1) hp; simp only [e] at q; exact H.2 q⟩
  have O:L.lookup (dO i)=none:=hl i (cb ..)
  obtain ⟨dn',L',C2,R,T,AA,V,W,X⟩:=EG T0 s' (dn.erase (i,b)) ((dO i,VO i b)::L) Y (AO i b::C) (fun x hx=>by
   obtain ⟨k,c,rfl,hk⟩:=ht x (cQ _ hx)
   refine ⟨k,c,U,?_⟩
   have F:k≠i:=fun e=>AB _ (List.mem_append_left _ hx) e.symm
   exact (List.mem_erase_of_ne (fun e=>F (congrArg Prod.fst e))).2 hk) P H.1 (fun p hp=>by
   obtain ⟨M,G⟩:=A p hp
   rcases List.mem_cons.1 (hm p M) with e|e
   ·injection e with e; exact absurd e G
   ·exact e) (fun p hp=>hy p (A p hp).1) (fun k hk=>by
   have:(dO k==dO i)=false:=by simpa using N k hk
   simp only [List.lookup,this]
   exact hl k (cQ _ hk)) (h b)
  refine ⟨dn',L',C2,R,T,fun p=>?_,fun t v hv=>?_,W,fun w hw=>X w ?_⟩
  ·rw [AA]
   constructor
   ·rintro ⟨M,G⟩; exact ⟨(A p M).1,G⟩
   ·rintro ⟨M,G⟩
    have F:p.1≠i:=fun e=>AB _ (List.mem_append_right _ G) e.symm
    exact ⟨(List.mem_erase_of_ne (fun e=>F (congrArg Prod.fst e))).2 M,G⟩
  ·have:=V t v hv
   rw [nP] at this ⊢
   by_cases e:t=dO i
   ·subst e
    simp only [List.lookup,beq_self_eq_true] at this
    rw [O]; simp only
    rw [hy _ hb]; exact this
   ·have Q:(t==dO i)=false:=by simpa using e
    simp only [List.lookup,Q] at this
    exact this
  ·refine hw.perm ?_
   show (C++dn.map fun p=>AO p.1 p.2).Perm (AO i b::(C++(dn.erase (i,b)).map fun p=>AO p.1 p.2))
   refine ((K.map fun p:Nat×Nat=>AO p.1 p.2).append_left C).trans ?_
   exact List.perm_middle
theorem Cr: ∀ (s:List fy) (j:Nat),fy.op j∈s→ ∃ T0 k s',s=T0++fy.op k::s'∧ ∀ x∈T0,∃ i,x=fy.take i
 | .take i::s,j,h=>by
  rcases List.mem_cons.1 h with e|h
  ·cases e
  ·obtain ⟨T0,k,s',rfl,A⟩:=Cr s j h
   exact ⟨.take i::T0,k,s',U,fun x hx=>by
    rcases List.mem_cons.1 hx with rfl|hx
    ·exact ⟨i,U⟩
    ·exact A x hx⟩
 | .op k::s,j,_=>⟨[],k,s,rfl,fun x hx=>by cases hx⟩
def kz (s:List fy) (dn:List (Nat×Nat)):List Nat:=(s.map fy.ix).filter fun i=> !(dn.map (·.1)).contains i
theorem q7 {s:List fy} {dn:List (Nat×Nat)} {i:Nat}:i∈kz s dn↔(∃ x∈s,x.ix=i)∧ ∀ p∈dn,p.1≠i:=by
 unfold kz
 rw [List.mem_filter,tn]
 refine and_congr Iff.rfl ?_
 rw [Bool.not_eq_true',← Bool.not_eq_true,List.contains_iff_mem,tn]
 constructor
 ·intro h p hp e; exact h ⟨p,hp,e⟩
 ·rintro h ⟨p,hp,e⟩; exact h p hp e
theorem qB (hal: ∀ i,Ts E ops D B dO VO AO i∨True): ∀ (n:Nat) (s:List fy) (dn:List (Nat×Nat)) (L Y:List (Nat×Value)) (C:List aq),(∀ i,fy.take i∈s→Ts E ops D B dO VO AO i)→s.Pairwise (fun x y=>rB (pZ ops) dO x y=true)→(kz s dn).length=n→(dn.map (·.1)).Nodup→(∀ p∈dn,fy.take p.1∈s)→(∀ p∈dn,Y.lookup (dO p.1)=some (VO p.1 p.2))→(∀ i,fy.take i∈s→L.lookup (dO i)=none)→Cb B L→
 (∀ w,St E.S E.w0 C w→St E.S E.w0 C' w)→CH E ops D C' K0 B dO VO AO s L C→TN E ops D C' C1 (fun L C=>KJ E K0 D L C) [] n (kz s dn) (L++Y) (C++dn.map fun p=>AO p.1 p.2)
 |0,s,dn,L,Y,C,_,hp,hlen,hn,hm,hy,hl,hB,hC,h=>by
  have hr:kz s dn=[]:=jC hlen
  have Q: ∀ x∈s,∃ i b,x=fy.take i∧(i,b)∈dn:=fun x hx=>by
   have hx':x.ix ∉ kz s dn:=by rw [hr]; exact List.not_mem_nil
   rw [q7] at hx'
   have: ∃ p∈dn,p.1=x.ix:=by
    apply Classical.byContradiction
    intro q
    exact hx' ⟨⟨x,hx,U⟩,fun p hp e=>q ⟨p,hp,e⟩⟩
   obtain ⟨p,T,AG⟩:=this
   have ht:=hm p T
   rcases List.mem_iff_getElem.1 hx with ⟨a,ha,ea⟩
   rcases List.mem_iff_getElem.1 ht with ⟨c,hc,ec⟩
   have d:a=c:=by
    rcases Nat.lt_trichotomy a c with q|q|q
    ·have:=List.pairwise_iff_getElem.1 hp a c ha hc q
     simp only [rB,cJ,bne_iff_ne,ea,ec] at this
     exact absurd AG.symm this.1
    ·exact q
    ·have:=List.pairwise_iff_getElem.1 hp c a hc ha q
     simp only [rB,cJ,bne_iff_ne,ea,ec] at this
     exact absurd AG this.1
   subst d
   exact ⟨p.1,p.2,by rw [← ea,ec],T⟩
  obtain ⟨dn',L',C2,V,J,O,W,h5,X⟩:=EG s [] dn L Y C Q (by simpa using hp) hn (by simpa using hm) hy (by simpa using hl) (by simpa using h)
  show KJ E K0 D _ _
  have hd:dn'=[]:=List.eq_nil_iff_forall_not_mem.2 fun p hp=>by have:=((O p).1 hp).2; cases this
  subst hd
  refine AD (L2:=L') (C2:=C2) (fun a hf=>BP (fun t v ht=>W t v (by rw [nP,ht])) a hf) (fun w hw=>by have:=X w hw; simpa using this) V
 |n+1,s,dn,L,Y,C,hal',hp,hlen,hn,hm,hy,hl,hB,hC,h=>by
  intro i hi o ho K hK
  obtain ⟨G,m⟩:=List.mem_filter.1 hi
  obtain ⟨⟨x,hx,rfl⟩,H⟩:=q7.1 G
  have A: ∀ k∈kz s dn,ir (pZ ops) k x.ix=false:=fun k hk=>by
   have:=List.all_eq_true.1 m k hk
   simpa using this
  cases x with
  |take i=>
   simp only [fy.ix] at H A ho hK G ⊢
   refine hal' i hx o ho _ _ K hB.app fun b=>?_
   have l:=hl i hx
   have AH:(kz s dn).filter (· != i)=kz s ((i,b)::dn):=by
    unfold kz
    rw [List.filter_filter]
    apply List.filter_congr
    intro k _
    simp only [List.map_cons,List.contains_cons,Bool.not_or]
    rfl
   have N:(kz s dn).Nodup:=by
    unfold kz
    refine List.Nodup.sublist List.filter_sublist<|List.pairwise_map.2 (hp.imp fun {a c} q=>?_)
    simp only [rB,cJ,bne_iff_ne] at q
    exact q.1
   have M: ∀ k,fy.take k∈s→k≠i→dO k≠dO i:=fun k hk AA e=>by
    rcases List.mem_iff_getElem.1 hx with ⟨a,ha,ea⟩
    rcases List.mem_iff_getElem.1 hk with ⟨c,hc,ec⟩
    rcases Nat.lt_trichotomy a c with q|q|q
    ·have:=List.pairwise_iff_getElem.1 hp a c ha hc q
     simp only [rB,cJ,bne_iff_ne,ea,ec] at this
     exact this.2 e.symm
    ·subst q; rw [ea] at ec; cases ec; exact AA rfl
    ·have:=List.pairwise_iff_getElem.1 hp c a hc ha q
     simp only [rB,cJ,bne_iff_ne,ea,ec] at this
     exact this.2 e
   refine AD (L2:=L++((dO i,VO i b)::Y)) (C2:=C++((i,b)::dn).map fun p=>AO p.1 p.2) (fun a hf=>BP (fun t v ht=>?_) a hf) (fun w hw=>hw.perm (List.perm_middle).symm) (hK _ _ (fun w hw=>hC w (hw.take (List.sublist_append_left _ _))) (fun q=>by cases q) ?_)
   ·rw [nP] at ht
    by_cases e:t=dO i
    ·subst e
     rw [l] at ht
     simp only [List.lookup,beq_self_eq_true] at ht ⊢
     exact ht
    ·have e2:(t==dO i)=false:=by simpa using e
     simp only [List.lookup,e2] at ht ⊢
     rw [nP]; exact ht
   ·rw [AH]
    refine qB hal n s ((i,b)::dn) L ((dO i,VO i b)::Y) C hal' hp ?_ (List.nodup_cons.2 ⟨fun q=>?_,hn⟩) (fun p hp'=>?_) (fun p hp'=>?_) hl hB hC h
    ·rw [← AH,← List.Nodup.erase_eq_filter N,List.length_erase_of_mem G,hlen]; rfl
    ·obtain ⟨p,hp',e⟩:=List.mem_map.1 q
     exact H p hp' e
    ·rcases List.mem_cons.1 hp' with rfl|hp'
     ·exact hx
     ·exact hm p hp'
    ·rcases List.mem_cons.1 hp' with rfl|hp'
     ·simp [List.lookup]
     ·have:(dO p.1==dO i)=false:=by simpa using M p.1 (hm p hp') (H p hp')
      simp only [List.lookup,this]
      exact hy p hp'
  |op j=>
   simp only [fy.ix] at H A ho hK G ⊢
   obtain ⟨T0,k,s',rfl,hT⟩:=Cr s j hx
   obtain ⟨q1,q2,q3⟩:=List.pairwise_append.1 hp
   obtain ⟨q4,q5⟩:=List.pairwise_cons.1 q2
   have R: ∀ k',fy.op k'∈T0++fy.op k::s'→k'∈kz (T0++fy.op k::s') dn:=fun k' hk'=>by
    refine q7.2 ⟨⟨_,hk',U⟩,fun p hp' e=>?_⟩
    have ht:=hm p hp'
    rcases List.mem_iff_getElem.1 hk' with ⟨a,ha,ea⟩
    rcases List.mem_iff_getElem.1 ht with ⟨c,hc,ec⟩
    rcases Nat.lt_trichotomy a c with q|q|q
    ·have:=List.pairwise_iff_getElem.1 hp a c ha hc q
     simp only [rB,cJ,bne_iff_ne,ea,ec,fy.ix] at this
     exact this.1 e.symm
    ·subst q; rw [ea] at ec; cases ec
    ·have:=List.pairwise_iff_getElem.1 hp c a hc ha q
     simp only [rB,cJ,bne_iff_ne,ea,ec,fy.ix] at this
     exact this.1 e
   have AB:k=j:=by
    apply Classical.byContradiction
    intro AC
    have hj':fy.op j∈s':=by
     rcases List.mem_append.1 hx with q|q
     ·obtain ⟨i,e⟩:=hT _ q; cases e
     ·rcases List.mem_cons.1 q with e|q
      ·injection e with e; exact absurd e.symm AC
      ·exact q
    have:=q4 _ hj'
    simp only [rB,cJ,fy.ix] at this
    have J:=A k (R k sm)
    rw [this.2] at J; cases J
   subst AB
   have F: ∀ x∈T0,∃ i b,x=fy.take i∧(i,b)∈dn:=fun x hx'=>by
    obtain ⟨i,rfl⟩:=hT x hx'
    apply Classical.byContradiction
    intro q
    have r:i∈kz (T0++fy.op k::s') dn:=q7.2 ⟨⟨_,List.mem_append_left _ hx',rfl⟩,fun p hp' e=>q ⟨i,p.2,rfl,by rw [← e]; exact hp'⟩⟩
    have:=q3 _ hx' _ (cb ..)
    simp only [rB,cJ,fy.ix] at this
    have J:=A i r
    rw [this.2] at J; cases J
   obtain ⟨dn',L',C2,V,J,O,W,h5,X⟩:=EG T0 (fy.op k::s') dn L Y C F hp hn hm hy hl h
   refine Fx (fun a hf=>BP W a hf) X (V o ho Y (dn'.map fun p=>AO p.1 p.2) K fun L3 C3 P AE Z g=>?_)
   have AH:(kz (T0++fy.op k::s') dn).filter (· != k)=kz s' dn':=by
    unfold kz
    rw [List.map_append,List.filter_append,List.map_cons,List.filter_append]
    have e1:(List.map fy.ix T0).filter (fun i=> !(dn.map (·.1)).contains i)=[]:=by
     apply List.filter_eq_nil_iff.2
     intro z hz
     obtain ⟨x,hx',rfl⟩:=List.mem_map.1 hz
     obtain ⟨i,b,rfl,hb⟩:=F x hx'
     simp only [fy.ix,Bool.not_eq_true',Bool.not_eq_false,List.contains_iff_mem]
     exact List.mem_map_of_mem (f:=(·.1)) hb
    rw [e1]
    simp only [List.filter_nil,List.nil_append]
    have u:k ∉ dn.map (·.1):=fun q=>by
     obtain ⟨p,hp',e⟩:=List.mem_map.1 q
     exact H p hp' e
    rw [List.filter_cons_of_pos (by simpa [fy.ix] using u),List.filter_cons_of_neg (by simp [fy.ix]),List.filter_filter]
    apply List.filter_congr
    intro z hz
    obtain ⟨y,hy',rfl⟩:=List.mem_map.1 hz
    have AF:y.ix≠k:=fun e=>by
     have:=q4 y hy'
     simp only [rB,cJ,bne_iff_ne,fy.ix] at this
     exact this.1 e.symm
    rw [Bool.eq_iff_iff]
    simp only [cJ,bne_iff_ne,Bool.not_eq_true',← Bool.not_eq_true,List.contains_iff_mem]
    constructor
    ·rintro ⟨_,hq⟩ hc
     obtain ⟨p,hp',e⟩:=List.mem_map.1 hc
     exact hq (by rw [← e]; exact List.mem_map_of_mem (f:=(·.1)) ((O p).1 hp').1)
    ·intro hq
     refine ⟨AF,fun hc=>?_⟩
     obtain ⟨p,hp',e⟩:=List.mem_map.1 hc
     apply hq
     rw [← e]
     refine List.mem_map_of_mem (f:=(·.1)) ((O p).2 ⟨hp',?_⟩)
     have ht:=hm p hp'
     rcases List.mem_append.1 ht with ht|ht
     ·exfalso
      have:=q3 _ ht _ (cQ _ hy')
      simp only [rB,cJ,bne_iff_ne,fy.ix] at this
      exact this.1 e
     ·exact ht
   have N:(kz (T0++fy.op k::s') dn).Nodup:=by
    unfold kz
    refine List.Nodup.sublist List.filter_sublist<|List.pairwise_map.2 (hp.imp fun {a c} q=>?_)
    simp only [rB,cJ,bne_iff_ne] at q
    exact q.1
   refine hK _ _ (fun w hw=>P w (hw.take (List.sublist_append_left _ _))) (fun q=>by cases q) ?_
   rw [AH]
   have hdn': ∀ p∈dn',fy.take p.1∈s':=fun p hp'=>by
    rcases List.mem_cons.1 ((O p).1 hp').2 with e|e
    ·cases e
    ·exact e
   refine qB hal n s' dn' L3 Y C3 (fun i hi=>hal' i (by simp [hi])) q5 ?_ J hdn' (fun p hp'=>hy p ((O p).1 hp').1) (fun i hi=>?_) (vV Z) P g
   ·rw [← AH,← List.Nodup.erase_eq_filter N,List.length_erase_of_mem G,hlen]; rfl
   ·have:=List.all_eq_true.1 AE _ (s9 hi)
    simpa using this
/-- the rows, at any time; the others, one after the other -/
theorem NU {tb rem:List Nat} {L:List (Nat×Value)} {C:List aq} (s:List fy) (B:List (Nat×Value)) (dO:Nat→Nat) (VO:Nat→Nat→Value) (AO:Nat→Nat→aq) {n:Nat} (htb:tb=[]) (hr:s.map fy.ix=rem) (hn:rem.length=n) (hp:TS (pZ ops) dO s=true) (hl:((B8 dO s).all fun d=>(L.lookup d).isNone)=true) (hB:B.map (fun p=>L.lookup p.1)=B.map (fun p=>some p.2)) (hC: ∀ w,St E.S E.w0 C w→St E.S E.w0 C' w)
 (hal: ∀ i,fy.take i∈s→Ts E ops D B dO VO AO i) (h:CH E ops D C' K0 B dO VO AO s L C):TN E ops D C' C1 (fun L C=>KJ E K0 D L C) tb n rem L C:=by
 subst htb hr
 have e:kz s []=s.map fy.ix:=by unfold kz; simp
 have:=qB (C1:=C1) (fun i=> .inr trivial) n s [] L [] C hal (FR hp) (by rw [e]; exact hn) List.nodup_nil (fun p hp=>by cases hp) (fun p hp=>by cases hp) (fun i hi=>by
  have:=List.all_eq_true.1 hl _ (s9 hi)
  simpa using this) (vV hB) hC h
 simpa [e] using this
theorem QB {p:Nat→Prop}: ∀ i,fy.take i∈([]:List fy)→p i:=fun i h=>by cases h
theorem xg {p:Nat→Prop} {j:Nat} {s:List fy} (h: ∀ i,fy.take i∈s→p i): ∀ i,fy.take i∈fy.op j::s→p i:=fun i hi=>by
 rcases List.mem_cons.1 hi with e|hi
 ·cases e
 ·exact h i hi
theorem vY {p:Nat→Prop} {j:Nat} {s:List fy} (hj:p j) (h: ∀ i,fy.take i∈s→p i): ∀ i,fy.take i∈fy.take j::s→p i:=fun i hi=>by
 rcases List.mem_cons.1 hi with e|hi
 ·cases e; exact hj
 ·exact h i hi
end
section
variable {E:eZ} {ops:Array Oper} {D:List Deferred} {B:List (Nat×Value)} {dO:Nat→Nat} {VO:Nat→Nat→Value} {AO:Nat→Nat→aq}
variable {d:Nat} {ty:TypeId} {ps:String} {af:Array Edge}
theorem KV {i t e sz:Nat} (ho:ops[i]? =some ⟨some d,.buildSlice t 0 #[],ty,ps,af,none⟩) (ht:tE E.P t=some (e,sz)) (hd:Nat.blt d E.n=true) (h1:dO i=d) (h2: ∀ b,VO i b= .slice (some ⟨b,0,none⟩) 0 0) (h3: ∀ b,AO i b=bV b e []):Ts E ops D B dO VO AO i:=fun o ho' L C K hB hk=>by
 rw [ho] at ho'; cases ho'
 exact t_ U ht hd fun b=>aC (by have:=hk b; rw [h1,h2,h3] at this; exact this)
theorem O5 {i t e sz n:Nat} {xs:List Operand} {vs:List Value} {cs zs:List Value} (ho:ops[i]? =some ⟨some d,.buildSlice t n ((xs.zipIdx.map fun p=>(p.2,p.1)).toArray),ty,ps,af,none⟩) (ht:tE E.P t=some (e,sz)) (hz:tZ E.P e=some zs) (hx:evs B xs=some vs) (hn:xs.length=n) (hp:Nat.blt 0 (n*sz)=true) (hb:Nat.ble (n*sz) 16777216=true) (hv: ∀ v∈vs,v.cells.size=sz)
 (hc:(vs.map (·.cells.toList)).flatten=cs) (hd:Nat.blt d E.n=true) (h1:dO i=d) (h2: ∀ b,VO i b= .slice (some ⟨b,0,none⟩) n n) (h3: ∀ b,AO i b=bV b e cs):Ts E ops D B dO VO AO i:=fun o ho' L C K hB hk=>by
 rw [ho] at ho'; cases ho'
 exact cU U ht hz (Fe hB hx) hn hp hb hv hc hd fun b=>aC (by have:=hk b; rw [h1,h2,h3] at this; exact this)
end
section
variable {E:eZ} {ops:Array Oper} {D:List Deferred} {C':List aq} {K0:Act→World→Prop} {B:List (Nat×Value)} {dO:Nat→Nat} {VO:Nat→Nat→Value} {AO:Nat→Nat→aq}
theorem wX {j:Nat} {s:List fy} {L:List (Nat×Value)} {C:List aq} {o:Oper} (ho:ops[j]? =some o)
 (h: ∀ (Y:List (Nat×Value)) (X:List aq) (K:Act→World→Prop),(∀ L' C'',(∀ w,St E.S E.w0 C'' w→St E.S E.w0 C' w)→((B8 dO s).all fun d=>(L'.lookup d).isNone)=true→B.map (fun p=>L'.lookup p.1)=B.map (fun p=>some p.2)→CH E ops D C' K0 B dO VO AO s L' C''→KJ E K D (L'++Y) (C''++X))→RJ E ops (NQ K) [o] D (L++Y) (C++X)):CH E ops D C' K0 B dO VO AO (.op j::s) L C:=fun o' ho'=>by
 rw [ho] at ho'; cases ho'
 exact h
theorem rU {s:List fy} {L Y:List (Nat×Value)} {C X:List aq} {K:Act→World→Prop} (hT: ∀ L' C'',(∀ w,St E.S E.w0 C'' w→St E.S E.w0 C' w)→((B8 dO s).all fun d=>(L'.lookup d).isNone)=true→B.map (fun p=>L'.lookup p.1)=B.map (fun p=>some p.2)→CH E ops D C' K0 B dO VO AO s L' C''→KJ E K D (L'++Y) (C''++X)) (nL nC:Nat)
 (hL:L.take nL++Y=L) (hC:C.take nC++X=C) (h1: ∀ w,St E.S E.w0 (C.take nC) w→St E.S E.w0 C' w) (h2:((B8 dO s).all fun d=>((L.take nL).lookup d).isNone)=true) (h3:B.map (fun p=>(L.take nL).lookup p.1)=B.map (fun p=>some p.2)) (h:CH E ops D C' K0 B dO VO AO s (L.take nL) (C.take nC)):RJ E ops (NQ K) [] D L C:=by
 have:=hT _ _ h1 h2 h3 h
 rw [hL,hC] at this
 exact aC this
theorem Sf {c:Code} {Q:cY} {L L':List (Nat×Value)} {C:List aq} (h:L'.map (fun p=>L.lookup p.1)=L'.map (fun p=>some p.2)) (k:WJ E c Q D L' C):WJ E c Q D L C:=fun a w hf hs=>k a w (BP (vV h) a hf) hs
theorem wD: ∀ {C:List aq} {i:Nat} {A:aq},C[i]? =some A→C.Perm (A::C.eraseIdx i)
 |[],i,A,h=>by simp at h
 |x::C,0,A,h=>by
  simp at h; subst h
  exact List.Perm.refl _
 |x::C,i+1,A,h=>((wD (C:=C) (i:=i) (by simpa using h)).cons x).trans (List.Perm.swap _ _ _)
theorem St.front {S:BS} {w0 w:World} {C:List aq} {A:aq} (i:Nat) (hi:C[i]? =some A) (h:St S w0 C w):St S w0 (A::C.eraseIdx i) w:=h.perm (wD hi)
theorem Ff {K:Act→World→Prop} {L:List (Nat×Value)} {C:List aq} {A:aq} (i:Nat) (hi:C[i]? =some A) (h:KJ E K D L (A::C.eraseIdx i)):KJ E K D L C:=fun a w hf hs=>h a w hf (hs.front i hi)
theorem q6 {Q:cY} {rest:List Oper} {L:List (Nat×Value)} {C:List aq} {A:aq} (i:Nat) (hi:C[i]? =some A) (h:RJ E ops Q rest D L (A::C.eraseIdx i)):RJ E ops Q rest D L C:=fun a w hf hs=>h a w hf (hs.front i hi)
end
end
section
open Go.RowKit
section
variable {E:eZ} {ops:Array Oper} {D:List Deferred} {C' C1:List aq} {tb:List Nat}
theorem wS {V:Type} {F:List (Nat×Value)→List aq→Prop} (P:V→Prop) (fL:V→List (Nat×Value)) (fC:V→List aq) (n:Nat) (rest:List Nat) {m:Nat} {rem:List Nat} {L:List (Nat×Value)} {C:List aq} (h1:(∀ v,P v→TN E ops D C' C1 F tb n rest (fL v) (fC v))→TN E ops D C' C1 F tb m rem L C) (h2: ∀ v,P v→TN E ops D C' C1 F tb n rest (fL v) (fC v)):TN E ops D C' C1 F tb m rem L C:=h1 h2
theorem Qv {K0:Act→World→Prop} {n:Nat} {rem:List Nat} {L L2:List (Nat×Value)} {C C2:List aq} (hL: ∀ a,Fr E.n D L a→Fr E.n D L2 a) (hC: ∀ w,St E.S E.w0 C w→St E.S E.w0 C2 w) (h:TN E ops D C' C1 (fun L C=>KJ E K0 D L C) tb n rem L2 C2):TN E ops D C' C1 (fun L C=>KJ E K0 D L C) tb n rem L C:=by
 cases n with
 |zero=>exact AD hL hC h
 |succ n=>exact fun i hi o ho K hK=>Fx hL hC (h i hi o ho K hK)
theorem jJ {V:Type} {P:V→Prop} {fL:V→List (Nat×Value)} {fC:V→List aq} {K0:Act→World→Prop} {n:Nat} {rem:List Nat} {L:List (Nat×Value)} {C:List aq} (hJ: ∀ v,P v→TN E ops D C' C1 (fun L C=>KJ E K0 D L C) tb n rem (fL v) (fC v)) (v:V) (hp:P v) (ix:List Nat) (hL:(fL v).map (fun p=>L.lookup p.1)=(fL v).map (fun p=>some p.2)) (hn:decide ix.Nodup=true) (hC:pL C ix=some (fC v)):TN E ops D C' C1 (fun L C=>KJ E K0 D L C) tb n rem L C:=
 Qv (fun a hf=>BP (vV hL) a hf) (fun w hs=>St.kp _ hn (j1 hC) hs) (hJ v hp)
end
end
section
open Go.RowKit
theorem PC (h i:Int) (r:bT) (kA:OA) (kC:Nat) (az:List RA) (cA:OA) (cC:Nat) (bA:OA) (bC:Nat) (slA:OA) (slC:Nat) (drA:OA) (drC:Nat) (ha:List cO) (heA:OA) (heC:Nat) (hin:e9 r az ha):
 dT Tryz.prog 14 [(vA (cw.cells (oF r kA kC cA cC bA bC slA slC drA drC heA heC))),(vI h),(vI i)] [(rd eX 3 2 dY),(rd kA r.ao.aP.length 9 (r.ao.aP.map al.cells)),(rd cA r.ao.ak.length 2 (List.zipWith ar.cells r.ao.ak az)),(eW (aV ar.gZ r.ao.ak az)),(rd bA r.ao.ae.length 4 (r.ao.ae.map bD.cells)),(rd slA r.aQ.length 1 (r.aQ.map iC)),(rd drA r.bQ.length 1 (r.bQ.map iC)),(rd heA r.ay.length 1 (List.zipWith cP r.ay ha)),(eW (aV iq r.ay ha))] (vT [(vA (aa.cells (hZ r h i))),(vI (mN r h i))]):=by
 have AB:=hin.line
 have AJ:=hin.iM
 have AM:=hin.has
 have AG:=hin.iL
 have AE:=hin.draw
 have F:=dB (r:=r)
 refine bx kr Tryz.func14 U U fun w0 Q hQ hN=>?_
 try dsimp only
 refine WS fun _ u=>fK U fun b2=>AL U de fun b3=>bf 1 U<|RK u<|WS fun _ X=>rP 1 [] (mc 1 U mn) ?_
 refine cX (n9 r kA kC az cA cC bA bC slA slC drA drC ha heA heC hin) (bj [2,3,4,5,6,7,8,9,10]) U fun y5 c=>?_
 obtain ⟨f,AI,o,m,g,j,AK⟩:=y5
 cases f
 ·obtain ⟨Y,he⟩:=c.2 rfl
  try dsimp only at Y he
  subst Y
  try dsimp only [cond_true,cond_false,List.cons_append,List.nil_append]
  refine bf 5 U<|RK X<|ah fun _ AD=>av<|WS fun _ N=>rP 3 [] mn ?_
  refine RK N<|bL U (bp fun M=>?_) (bq fun M=>?_)
  ·exact absurd M he
  refine WS fun _ O=>rS (SX (bh (xs:=[]) (cs:=(aa.cells (aa.mk 0 0))) U U (bg gf U)) U U)<|bf 1 U<|fP U cm U<|rP 1 [] mn ?_
  refine RK O<|an<|lh hQ [0] (mc 0 U mn) U ?_
  first|(have e:=oK (h:=h) (i:=i) he; have B:hZ r h i=dw:=if_neg (fun q=>by rw [e] at q; exact he q); rw [e,B]; rfl)|(have e:=oT (h:=h) (i:=i) he I; have B:hZ r h i=dw:=if_neg (fun q=>by rw [e] at q; cases q); rw [e,B]; rfl)|(have e:=nE he I A hd C; have B:hZ r h i=dw:=if_neg (fun q=>by rw [e] at q; cases q); rw [e,B]; rfl)|(have e:=qC he I A hd C; rw [e.1,e.2,H]; done)
 obtain ⟨he,J⟩:=c.1 rfl
 try dsimp only [cond_true,cond_false,List.cons_append,List.nil_append]
 try dsimp only at J
 have a:=(iG he).2
 refine bf 5 U<|RK X<|ah fun _ P=>av<|WS fun _ R=>bf 1 U<|rS (SX (bU (r:= .bool false) U U U l6) U U)<|bf 1 U<|RK R<|aW U<|WS fun _ K=>rP 5 [] (mc 5 U mn) ?_
 refine cU (xs:=[.tmp 25]) (cs:=[(vI h)]) U cq jd U U U U (by simp [Value.cells]) U U fun k=>?_
 refine rS (CL (dT.eq (j2 0 ((r.ay.length:Int)-1) ([h]) (some ⟨k,0,none⟩) 1 sd) cS) (aw (aZ 0 U U (by simp [bB]) U)<|aI) U) ?_
 refine rP 2 [] mn ?_
 refine cR (t:=29) U (bq fun s=>?_) (bp fun s=>?_)
 ·refine bf 7 U<|RK K<|aO U<|WS fun _ S=>rS (SX (bh (xs:=[]) (cs:=(aa.cells (aa.mk 0 0))) U U (bg gf U)) U U)<|Ic U cm U<|rP 1 [] mn ?_
  refine RK S<|an<|lh hQ [0] (mc 5 U mn) U ?_
  first|(have e:=oK (h:=h) (i:=i) he; have B:hZ r h i=dw:=if_neg (fun q=>by rw [e] at q; exact he q); rw [e,B]; rfl)|(have e:=oT (h:=h) (i:=i) he I; have B:hZ r h i=dw:=if_neg (fun q=>by rw [e] at q; cases q); rw [e,B]; rfl)|(have e:=nE he I A hd C; have B:hZ r h i=dw:=if_neg (fun q=>by rw [e] at q; cases q); rw [e,B]; rfl)|(have e:=qC he I A hd C; rw [e.1,e.2,H]; done)
 refine rP 2 [] mn ?_
 refine cU (xs:=[.tmp 31]) (cs:=[(vI i)]) U cq jd U U U U (by simp [Value.cells]) U U fun l=>?_
 refine rS (CL (dT.eq (AV r kA kC az cA cC bA bC slA slC drA drC ha heA heC AK g j (Value.map (some m)) o ([i]) (some ⟨l,0,none⟩) 1 hin sd) cS) (lL [9,10,11,12,13,14,15,16]<|aw (ai (n:=(cN r).length) 3 U (mO (by rw [F]; exact J)))<|aw (cM 4 U tH)<|fz 2 U U<|aw (aZ 0 U U (by simp [bB]) U)<|aI) U) ?_
 refine rP 3 [] mn ?_
 refine RK K<|cy U (bq fun p=>?_) (bp fun p=>?_)
 ·refine WS fun _ T=>rS (SX (bh (xs:=[]) (cs:=(aa.cells (aa.mk 0 0))) U U (bg gf U)) U U)<|OR U cm U<|rP 1 [] mn ?_
  refine RK T<|an<|lh hQ [0] (mc 6 U mn) U ?_
  first|(have e:=oK (h:=h) (i:=i) he; have B:hZ r h i=dw:=if_neg (fun q=>by rw [e] at q; exact he q); rw [e,B]; rfl)|(have e:=oT (h:=h) (i:=i) he I; have B:hZ r h i=dw:=if_neg (fun q=>by rw [e] at q; cases q); rw [e,B]; rfl)|(have e:=nE he I A hd C; have B:hZ r h i=dw:=if_neg (fun q=>by rw [e] at q; cases q); rw [e,B]; rfl)|(have e:=qC he I A hd C; rw [e.1,e.2,H]; done)
 refine WS fun _ AN=>rP 3 [] (mc 7 U mn) ?_
 obtain ⟨ht,A⟩:=aJ r.ay ((h).toNat) I
 obtain ⟨D,E⟩:=aJ ha ((h).toNat) I
 have Z:(List.zipWith cP r.ay ha)[(h).toNat]? =some (cP ht D):=dy A E
 refine rS (IA ((h).toNat) U (aD 15 U) ry dc I I) ?_
 have z:=hin.o1 _ _ _ A E
 have AF:=z.ov
 have AA:=(a.o1 ht (aR A)).1
 refine rS (fV ((h).toNat) 0 (vS D.1.1 ht.length D.1.2) U bX (aD 15 U) Z U dc U)<|rP 1 [] mn ?_
 obtain ⟨d,hd⟩:=aJ ht ((i).toNat) I
 obtain ⟨da,v⟩:=aJ D.2 ((i).toNat) I
 have y:(List.zipWith ax.cells ht D.2)[(i).toNat]? =some (ax.cells d da):=dy hd v
 refine rS (IA ((i).toNat) U (show ij _ (rd D.1.1 ht.length 7 (List.zipWith ax.cells ht D.2)).holds from (du 16 U (bM A E cb))) xD dc I I)<|rS (nR (((i).toNat)*7) U (show ij _ (rd D.1.1 ht.length 7 (List.zipWith ax.cells ht D.2)).holds from (du 16 U (bM A E cb))) (Nat.mul_pos I dc) fu U)<|rS (fV ((i).toNat) 0 (vB d.Out) U bX (show ij _ (rd D.1.1 ht.length 7 (List.zipWith ax.cells ht D.2)).holds from (du 16 U (bM A E cb))) y U dc U)<|rP 1 [] mn ?_
 refine RK AN<|cy U (fun C=>?_) (fun C=>?_)
 ·refine WS fun _ V=>rS (SX (bh (xs:=[]) (cs:=(aa.cells (aa.mk 0 0))) U U (bg gf U)) U U)<|OR U cm U<|rP 1 [] mn ?_
  refine RK V<|an<|lh hQ [0] (mc 6 U mn) U ?_
  first|(have e:=oK (h:=h) (i:=i) he; have B:hZ r h i=dw:=if_neg (fun q=>by rw [e] at q; exact he q); rw [e,B]; rfl)|(have e:=oT (h:=h) (i:=i) he I; have B:hZ r h i=dw:=if_neg (fun q=>by rw [e] at q; cases q); rw [e,B]; rfl)|(have e:=nE he I A hd C; have B:hZ r h i=dw:=if_neg (fun q=>by rw [e] at q; cases q); rw [e,B]; rfl)|(have e:=qC he I A hd C; rw [e.1,e.2,H]; done)
 refine bZ<|aG<|KK P<|WS fun _ W=>bf 1 U<|rS (SX (bI U U) U U)<|rP 3 [] (mc 2 U mn) ?_
 obtain ⟨tr,AO⟩:=aJ (cN r) ((h).toNat) I
 obtain ⟨tra,G⟩:=aJ AK ((h).toNat) I
 have b:(List.zipWith E1 (cN r) AK)[(h).toNat]? =some (E1 tr tra):=dy AO G
 refine rS (IA ((h).toNat) U (ai (n:=(cN r).length) 3 U (mO (by rw [F]; exact J))) Oc dc I I) ?_
 have L:=zz A AO
 have AH:tr.length=r.aQ.length:=by rw [L,List.length_map]; exact AA
 refine rS (fV ((h).toNat) 0 (vS tra.1 tr.length tra.2) U bX (ai (n:=(cN r).length) 3 U (mO (by rw [F]; exact J))) b U dc U) ?_
 refine rP 1 [] mn ?_
 obtain ⟨x,hx⟩:=aJ tr ((i).toNat) I
 have AC:=bG aa.cells hx
 refine rS (IA ((i).toNat) U (show ij _ (rd tra.1 tr.length 2 (tr.map aa.cells)).holds from (fun w hw=>(cM 4 U tH) w hw _ (bM AO G (by simp [Mu])))) jN dc I I) ?_
 have H:=JT L hx hd
 refine rS (oH ((i).toNat) 0 (aa.cells x) U bX (show ij _ (rd tra.1 tr.length 2 (tr.map aa.cells)).holds from (fun w hw=>(cM 4 U tH) w hw _ (bM AO G (by simp [Mu])))) AC U dc U U)<|OR U cm U<|rP 1 [] mn ?_
 refine RK W<|an<|lh hQ [0] (mc 6 U mn) U ?_
 first|(have e:=oK (h:=h) (i:=i) he; have B:hZ r h i=dw:=if_neg (fun q=>by rw [e] at q; exact he q); rw [e,B]; rfl)|(have e:=oT (h:=h) (i:=i) he I; have B:hZ r h i=dw:=if_neg (fun q=>by rw [e] at q; cases q); rw [e,B]; rfl)|(have e:=nE he I A hd C; have B:hZ r h i=dw:=if_neg (fun q=>by rw [e] at q; cases q); rw [e,B]; rfl)|(have e:=qC he I A hd C; rw [e.1,e.2,H]; done)
end
section
open Go.RowKit
theorem o5 (n lo hi:Int):
 dT Tryz.prog 137 [(vI n),(vI lo),(vI hi)] [] (vB (decide (lo≤n∧n≤hi))):=by
 refine bx kr Tryz.func137 U U fun D Q hQ hN=>?_
 try dsimp only
 refine WS fun _ B=>bf 1 U<|RK B<|WS fun _ A=>rP 4 [] mn ?_
 refine cR (t:=10) U (aL fun C=>?_) (aM fun C=>?_)
 ·refine rP 5 [] mn ?_
  refine RK A<|an<|Q1 hQ U U U ?_
  exact cB (decide_eq_decide.2 I)
 refine rP 5 [] mn ?_
 refine RK A<|an<|Q1 hQ U U U ?_
 exact cB (cf I).symm
theorem Fj (r:cv) (sgA:OA) (sgC:Nat):
 dT Tryz.prog 157 [(vA (eC.cells (mD r sgA sgC)))] [(rd sgA r.ag.length 2 (r.ag.map aK.cells))] (vB (decide (mw r))):=by
 refine bx kr Tryz.func157 U U fun F Q hQ hN=>?_
 try dsimp only
 refine WS fun _ B=>fK U fun E=>bf 1 U<|RK B<|WS fun _ A=>rP 4 [] (mc 0 U mn) ?_
 refine b_ (t:=6) U (aM fun C=>?_) (aL fun C=>?_)
 ·refine rP 11 [] mn ?_
  refine RK A<|an<|Q1 hQ U U U ?_
  simp only [mw]
  exact cB (cf I).symm
 refine rP 5 [] (mc 0 U mn) ?_
 refine b_ (t:=11) U (aM fun D=>?_) (aL fun D=>?_)
 ·refine rP 6 [] mn ?_
  refine RK A<|an<|Q1 hQ U U U ?_
  simp only [mw]
  exact cB (cf I).symm
 refine rP 6 [] (mc 0 U mn) ?_
 refine RK A<|an<|Q1 hQ U U U ?_
 simp only [mw]
 exact cB (decide_eq_decide.2 I)
theorem Nc (s:aa):
 dT Tryz.prog 25 [(vA (aa.cells s))] [] (vB (decide (iH s))):=by
 refine bx kr Tryz.func25 U U fun F Q hQ hN=>?_
 try dsimp only
 refine WS fun _ B=>fK U fun E=>bf 1 U<|RK B<|WS fun _ A=>rP 4 [] (mc 0 U mn) ?_
 refine b_ (t:=6) U (aM fun C=>?_) (aL fun C=>?_)
 ·refine rP 12 [] mn ?_
  refine RK A<|an<|Q1 hQ U U U ?_
  simp only [iH]
  exact cB (cf I).symm
 refine rP 7 [] (mc 0 U mn) ?_
 refine b_ (t:=13) U (aM fun D=>?_) (aL fun D=>?_)
 ·refine rP 5 [] mn ?_
  refine RK A<|an<|Q1 hQ U U U ?_
  simp only [iH]
  exact cB (cf I).symm
 refine rP 5 [] (mc 0 U mn) ?_
 refine RK A<|an<|Q1 hQ U U U ?_
 simp only [iH]
 exact cB (decide_eq_decide.2 I)
theorem oh (la:List Int) (laA:OA) (laC:Nat) (lb:List Int) (lbA:OA) (lbC:Nat) (h1:la.length≤1000000) (h2:lb.length≤1000000):
 dT Tryz.prog 29 [(vS laA la.length laC),(vS lbA lb.length lbC)] [(rd laA la.length 1 (la.map iC)),(rd lbA lb.length 1 (lb.map iC))] (vB (decide (la=lb))):=by
 refine bx kr Tryz.func29 U U fun V Q hQ hN=>?_
 try dsimp only
 refine WS fun _ J=>bf 1 U<|RK J<|ah fun _ K=>WS fun _ L=>rP 5 [] mn ?_
 refine RK L<|cy U (bq fun hl=>?_) (bp fun hl=>?_)
 ·refine WS fun _ M=>rP 1 [] mn ?_
  refine RK M<|an<|Q1 hQ U U U ?_
  exact cB (cf (fun e=>by subst e; omega)).symm
 refine WK K<|ah fun _ N=>WS fun _ O=>rP 1 [] mn ?_
 refine RK O<|av ?_
 have A:(0≤la.length)∧(la.take 0=lb.take 0):=by simp
 refine bH (ι:={z:Nat // (z≤la.length)∧(la.take z=lb.take z)}) [0,1] [0,1] U U (fun z=>[(5,(vI (z.1:Int)))]) (fun z=>[]) (fun _=>rfl) (fun _=>rfl) (fun z=>la.length-z.1) ⟨0,A⟩ (aT U) (aH [0,1]) ?_
 clear A
 rintro ⟨i,⟨S,B⟩⟩ J7 AB
 try dsimp only
 refine ah fun _ P=>WS fun _ R=>rP 4 [] mn ?_
 refine RK R<|bL U (aM fun H=>?_) (aL fun H=>?_)
 ·refine bu<|ab<|ab<|au<|KK N<|WS fun _ F=>rP 1 [] mn ?_
  refine RK F<|an<|Q1 hQ U U U ?_
  exact cB (fI (nM I B I)).symm
 refine WK P<|ah fun _ C=>av<|ah fun _ D=>dA cu 9 kr<|dP 2 [] mn ?_
 obtain ⟨x,hx⟩:=aJ la i I
 have T:=bG iC hx
 refine dS (IA i U (aD 0 U) cq dc I I)<|dS (fV i 0 (vI x) U bX (aD 0 U) T U dc U)<|dP 2 [] mn ?_
 obtain ⟨y,hy⟩:=aJ lb i I
 have AA:=bG iC hy
 refine dS (IA i U (aD 1 U) cq dc I I)<|dS (fV i 0 (vI y) U bX (aD 1 U) AA U dc U)<|dP 1 [] mn ?_
 refine cL<|RK D<|cy U (bq fun h=>?_) (bp fun h=>?_)
 ·refine WS fun _ E=>rP 1 [] mn ?_
  refine RK E<|an<|Q1 hQ U U U ?_
  exact cB (cf (nA hx hy h)).symm
 refine bZ<|aG<|KK C<|aj<|rP 3 [] mn ?_
 refine aC ?_
 have G:(vI (((i+1):Nat):Int))=(vI ((i:Int)+1)):=by exact cI I
 refine aS (AB ⟨(i+1),⟨I,uA B hx hy h⟩⟩ _ _ _ U os (dh.cons U<|dh.cons U<|aX U G<|dh.nil _) (aH [0,1]))
end
section
structure DX (w w':bP):Prop where
 start:w'.Start=w.Start
 now:w.fZ≤w'.fZ
 n:w'.n=w.n
 least: ∀ b,bR w' b≤bR w b
 times:w'.vm=w.vm
 P2:w.cV≤w'.cV
 SQ:w.eU≤w'.eU
 sigs:w'.QC=w.QC
variable {w w':bP}
theorem DX.opt (h:DX w w') {b:Nat} {o:Int×aa} (ho:o∈il w b): ∃ o'∈il w' b,o'.1=o.1∧o'.2.Lo≤o.2.Lo∧o.2.Hi≤o'.2.Hi:=by
 unfold il at ho
 rcases List.mem_cons.1 ho with rfl|ho
 ·exact ⟨(-1,⟨w'.Start,w'.fZ⟩),cb ..,U,by simp only [h.start]; omega,h.now⟩
 ·refine ⟨o,cQ _ ?_,U,Int.le_refl _,Int.le_refl _⟩
  unfold tM at ho ⊢; rw [h.times]; exact ho
theorem DX.may (h:DX w w') {t:aB} (ht:kq w t=true):kq w' t=true:=by
 unfold kq at ht ⊢
 have:=of_decide_eq_true ht
 have A:=h.P2
 have B:=h.SQ
 have C:=h.sigs
 exact fI I
theorem DX.fwd (h:DX w w'): ∀ (b:Nat) (p:aB×Int),p∈fwd w b→ ∃ p'∈Go.Proofs.YtadjgjnicdcjbaaGreatDoor.fwd w' b,p'.1=p.1∧p'.2≤p.2:=by
 intro b
 induction b with
 |zero=>
  intro p hp
  simp only [Go.Proofs.YtadjgjnicdcjbaaGreatDoor.fwd,bS] at hp ⊢
  subst hp
  exact ⟨_,U,U,by simp only [h.start]; omega⟩
 |succ b ih=>
  intro q hq
  obtain ⟨p,hp,o,ho,e⟩:=fG.1 hq
  obtain ⟨p',hp',A,D⟩:=ih p hp
  obtain ⟨o',ho',B,E,F⟩:=h.opt ho
  have hl:=h.least b
  have hn:=h.now
  unfold kD at e
  split at e
  ·rename_i C
   simp only [Option.some.injEq] at e
   subst e
   refine ⟨(dk p'.1 (fc o'.1),max (p'.2+bR w' b) o'.2.Lo),fG.2 ⟨p',hp',o',ho',by unfold kD; rw [if_pos I]⟩,by simp only [A,B],by simp only; omega⟩
  ·cases e
theorem DX.bwd (h:DX w w'): ∀ (k:Nat) (p:aB×Int),p∈bwd w k→ ∃ p'∈Go.Proofs.YtadjgjnicdcjbaaGreatDoor.bwd w' k,p'.1=p.1∧p.2≤p'.2:=by
 intro k
 induction k with
 |zero=>
  intro p hp
  simp only [Go.Proofs.YtadjgjnicdcjbaaGreatDoor.bwd,bS] at hp ⊢
  subst hp
  exact ⟨_,U,U,h.now⟩
 |succ k ih=>
  intro q hq
  simp only [Go.Proofs.YtadjgjnicdcjbaaGreatDoor.bwd,d_,List.mem_flatMap,List.mem_filterMap] at hq ⊢
  rcases hq with rfl|⟨p,hp,o,ho,e⟩
  ·exact ⟨_,.inl U,U,h.now⟩
  ·obtain ⟨p',hp',A,D⟩:=ih p hp
   obtain ⟨o',ho',B,E,F⟩:=h.opt ho
   have hl:=h.least (w.n-(k+1))
   rw [h.n]
   unfold nS at e
   split at e
   ·rename_i C
    simp only [Option.some.injEq] at e
    subst e
    exact ⟨(dk p'.1 (fc o'.1),min p'.2 o'.2.Hi-bR w' (w.n-(k+1))),.inr ⟨p',hp',o',ho',by unfold nS; rw [if_pos I]⟩,by simp only [A,B],by simp only; omega⟩
   ·cases e
theorem DX.back (h:DX w w') {b:Nat} {p:aB×Int} (hp:p∈back w b): ∃ p'∈Go.Proofs.YtadjgjnicdcjbaaGreatDoor.back w' b,p'.1=p.1∧p.2≤p'.2:=by
 unfold Go.Proofs.YtadjgjnicdcjbaaGreatDoor.back at hp ⊢
 rw [h.n]
 exact h.bwd _ p hp
theorem DX.pass (h:DX w w') {b:Nat} {q:Int×aa} (hq:q∈l_ w b): ∃ q'∈l_ w' b,q'.1=q.1∧q'.2.Lo≤q.2.Lo∧q.2.Hi≤q'.2.Hi:=by
 obtain ⟨o,ho,p,hp,u,hu,e⟩:=g8.1 hq
 obtain ⟨D,E,rfl⟩:=jn.1 e
 obtain ⟨o',ho',A,F,G⟩:=h.opt ho
 obtain ⟨p',hp',B,H⟩:=h.fwd _ p hp
 obtain ⟨u',hu',C,AA⟩:=h.back hu
 have hl:=h.least b
 simp only [js] at D
 refine ⟨(o'.1,js w' b p' u' o'),g8.2 ⟨o',ho',p',hp',u',hu',jn.2 ⟨?_,?_,U⟩⟩,A,?_,?_⟩
 ·simp only [js]; omega
 ·have:=h.may E
  unfold w6 at this ⊢
  rw [A,B,C]; exact this
 ·simp only [js]; omega
 ·simp only [js]; omega
theorem oY {k:Int}:k∈jz w↔ ∃ i:Nat,k=(i:Int)∧i≤w.n∧jg w (fwd w i)=true:=by
 unfold jz kh
 simp only [tn,List.mem_filter,List.mem_range]
 constructor
 ·rintro ⟨i,⟨B,A⟩,rfl⟩; exact ⟨i,rfl,I,A⟩
 ·rintro ⟨i,rfl,B,A⟩; exact ⟨i,⟨I,A⟩,rfl⟩
theorem DX.HF (h:DX w w') {k:Int} (hk:k∈jz w):k∈jz w':=by
 obtain ⟨i,rfl,C,A⟩:=oY.1 hk
 refine oY.2 ⟨i,U,by rw [h.n]; exact C,?_⟩
 unfold jg at A ⊢
 obtain ⟨p,hp,D⟩:=List.any_eq_true.1 A
 obtain ⟨p',hp',B,_⟩:=h.fwd _ p hp
 exact List.any_eq_true.2 ⟨p',hp',by rw [B]; exact h.may D⟩
/-- two rides, of two lines, of which one allows more -/
structure TK (l:a_) (r:cv) (l':a_) (r':cv):Prop where
 line:dq l=0
 line':dq l'=0
 yq:e7 l r
 ride':e7 l' r'
 w:DX (cj l r) (cj l' r')
 O3:l'.ae.length=l.ae.length
variable {l l':a_} {r r':cv}
theorem TK.ok (h:TK l r l' r') (he:ew l r 0=0):ew l' r' 0=0:=by
 refine lF h.line' h.ride' U fun e=>?_
 obtain ⟨k,hk⟩:=List.exists_mem_of_ne_nil _ (jL he).2.2.2
 have:=h.w.HF hk
 rw [e] at this; cases this
theorem TK.Ao (h:TK l r l' r') {k:Int} (hk:k∈kY l r):k∈kY l' r':=by
 by_cases he:ew l r 0=0
 ·rw [lT he] at hk
  rw [lT (h.ok he)]
  exact h.w.HF hk
 ·rw [uw he] at hk; cases hk
theorem G_ {b:Nat} (hb:b<l.ae.length):ew l r (jB l b)=ew l r 0:=by rw [xe I]
theorem yx {b:Nat}:bR (cj l r) b=if b<l.ae.length then dN l b else 0:=by
 unfold bR cj cG
 split
 ·rename_i h
  simp [h]
 ·rename_i h
  simp [h]
theorem Gz {sg:List aK} {i:Nat} (h:i=0):mK sg i=⟨-1,0⟩:=by subst h; rfl
theorem qS {sg:List aK} {i:Nat} {y:aK} (h:0<i) (hy:sg[i-1]? =some y):mK sg i=y:=by unfold mK; rw [if_neg I,hy]; rfl
def QV (l:a_):Prop:= ¬ mI l∧dq l=0
noncomputable instance (l:a_):Decidable (QV l):=Classical.propDecidable _
end
section
/-- where a sled may be after k beams more -/
def fO (w:bP):Nat→Nat→aB×Int→List (aB×Int)
 |0,_,p=>[p]
 |k+1,b,p=>(il w b).flatMap fun o=>match kD w b p o with
  |some q=>fO w k (b+1) q
  |none=>[]
variable {w:bP}
theorem hE {k b:Nat} {p q:aB×Int}:q∈fO w (k+1) b p↔ ∃ o∈il w b,∃ p',kD w b p o=some p'∧q∈fO w k (b+1) p':=by
 simp only [fO,List.mem_flatMap]
 constructor
 ·rintro ⟨o,ho,h⟩
  cases e:kD w b p o with
  |none=>rw [e] at h; cases h
  |some p'=>rw [e] at h; exact ⟨o,ho,p',e,h⟩
 ·rintro ⟨o,ho,p',e,h⟩
  exact ⟨o,ho,by rw [e]; exact h⟩
theorem qN: ∀ (k b:Nat) (q:aB×Int),q∈fwd w (b+k)↔ ∃ p∈fwd w b,q∈fO w k b p:=by
 intro k
 induction k with
 |zero=>
  intro b q
  simp only [Nat.add_zero,fO,bS]
  exact ⟨fun h=>⟨q,h,rfl⟩,fun ⟨p,hp,e⟩=>e▸hp⟩
 |succ k ih=>
  intro b q
  rw [show b+(k+1)=(b+1)+k by omega,ih]
  constructor
  ·rintro ⟨p',hp',h⟩
   obtain ⟨p,hp,o,ho,e⟩:=fG.1 hp'
   exact ⟨p,hp,hE.2 ⟨o,ho,p',e,h⟩⟩
  ·rintro ⟨p,hp,h⟩
   obtain ⟨o,ho,p',e,h'⟩:=hE.1 h
   exact ⟨p',fG.2 ⟨p,hp,o,ho,e⟩,h'⟩
theorem gE {b:Nat} {p q:aB×Int} {o:Int×aa}:kD w b p o=some q↔max (p.2+bR w b) o.2.Lo≤min o.2.Hi w.fZ∧q=(dk p.1 (fc o.1),max (p.2+bR w b) o.2.Lo):=by
 unfold kD
 split
 ·rename_i h
  constructor
  ·intro e; cases e; exact ⟨h,rfl⟩
  ·rintro ⟨_,rfl⟩; rfl
 ·rename_i h
  constructor
  ·intro e; cases e
  ·rintro ⟨h',_⟩; exact absurd h' h
theorem uq {b:Nat} {p q:aB×Int} {o:Int×aa}:nS w b p o=some q↔o.2.Lo≤min p.2 o.2.Hi∧q=(dk p.1 (fc o.1),min p.2 o.2.Hi-bR w b):=by
 unfold nS
 split
 ·rename_i h
  constructor
  ·intro e; cases e; exact ⟨h,rfl⟩
  ·rintro ⟨_,rfl⟩; rfl
 ·rename_i h
  constructor
  ·intro e; cases e
  ·rintro ⟨h',_⟩; exact absurd h' h
theorem GF {b:Nat} (hb:b≤w.n):((⟨0,0⟩:aB),w.fZ)∈back w b:=by
 rcases Nat.lt_or_ge b w.n with h|h
 ·exact (o3 h).2 (.inl U)
 ·rw [uT h]; simp
theorem mY (t:aB):dk t ⟨0,0⟩=t:=by cases t; simp [dk]
theorem yP (a o u:aB):dk (dk a o) u=dk a (dk u o):=by simp only [dk,aB.mk.injEq]; omega
theorem F4 (hl: ∀ b,0≤bR w b): ∀ (k:Nat) (u:aB×Int),u∈bwd w k→u.2≤w.fZ:=by
 intro k
 induction k with
 |zero=>intro u hu; simp only [bwd,bS] at hu; subst hu; exact Int.le_refl _
 |succ k ih=>
  intro u hu
  simp only [bwd,d_,List.mem_flatMap,List.mem_filterMap] at hu
  rcases hu with rfl|⟨p,hp,o,ho,e⟩
  ·exact Int.le_refl _
  ·obtain ⟨_,rfl⟩:=uq.1 e
   have:=ih p hp
   have:=hl (w.n-(k+1))
   simp only; omega
/-- what follows a passing is told by the way back -/
theorem Og: ∀ (k b:Nat) (p q:aB×Int),b+k≤w.n→p.2≤w.fZ→q∈fO w k b p→ ∃ u∈back w b,p.2≤u.2∧q.1=dk p.1 u.1:=by
 intro k
 induction k with
 |zero=>
  intro b p q hb hp hq
  simp only [fO,bS] at hq
  subst hq
  exact ⟨_,GF I,hp,(mY _).symm⟩
 |succ k ih=>
  intro b p q hb hp hq
  obtain ⟨o,ho,p',e,h⟩:=hE.1 hq
  obtain ⟨C,rfl⟩:=gE.1 e
  obtain ⟨u',hu',B,A⟩:=ih (b+1) _ q I (by simp only; omega) h
  simp only at B A
  refine ⟨(dk u'.1 (fc o.1),min u'.2 o.2.Hi-bR w b),(o3 I).2 (.inr ⟨u',hu',o,ho,uq.2 ⟨I,U⟩⟩),by simp only; omega,?_⟩
  rw [A,yP]
theorem Lc (hl: ∀ b,0≤bR w b): ∀ (d b:Nat) (p u:aB×Int),w.n=b+d→p.2≤u.2→u∈back w b→ ∃ k,b+k≤w.n∧ ∃ q∈fO w k b p,q.1=dk p.1 u.1:=by
 intro d
 induction d with
 |zero=>
  intro b p u hd hp hu
  rw [uT I] at hu
  simp only [bS] at hu
  subst hu
  exact ⟨0,I,p,by simp [fO],(mY _).symm⟩
 |succ d ih=>
  intro b p u hd hp hu
  rcases (o3 I).1 hu with rfl|⟨u',hu',o,ho,e⟩
  ·exact ⟨0,I,p,by simp [fO],(mY _).symm⟩
  ·obtain ⟨B,rfl⟩:=uq.1 e
   have hn:u'.2≤w.fZ:=F4 hl _ _ hu'
   simp only at hp
   obtain ⟨k,hk,q,hq,A⟩:=ih (b+1) (dk p.1 (fc o.1),max (p.2+bR w b) o.2.Lo) u' I (by simp only; omega) hu'
   refine ⟨k+1,I,q,hE.2 ⟨o,ho,_,gE.2 ⟨I,U⟩,hq⟩,?_⟩
   rw [A]; simp only; rw [yP]
end
section
section
variable {l:a_} {r:cv} {one at_:Int} {d:Nat} {f g m:Int} {rec:Int→Int→Int→Bool} {i:Int}
end
theorem qM {l:a_} {r:cv} {d:Nat} (hd:d<l.ae.length) {o:Int×aa}:o∈il (cj l r) d↔o=(-1,⟨r.Start,r.fZ⟩)∨ ∃ k,k<r.ag.length∧ ∃ s,r.ag[k]? =some s∧(s.gd=(d:Int)∧(cz l s).Lo≤(cz l s).Hi)∧o=((k:Int),cz l s):=by
 unfold il tM
 show o∈(-1,(⟨r.Start,r.fZ⟩:aa))::((dQ l r.ag r.ag.length)[d]?).getD []↔_
 rw [oN hd,Option.getD_some,d_,sv]
theorem pk {l:a_} {r:cv} {d:Nat} (hd:d<l.ae.length):bR (cj l r) d=dN l d:=by rw [yx,if_pos hd]
theorem uE {l:a_} {n d:Nat} {y:Int} (h:(cG l n)[d]? =some y):y=dN l d:=by
 unfold cG at h
 rw [fq] at h
 have hd:d<n:=by
  rcases Nat.lt_or_ge d n with q|q
  ·exact q
  ·rw [List.getElem?_eq_none (by simpa using q)] at h; cases h
 rw [List.getElem?_range hd] at h
 exact (Option.some.inj h).symm
end
section
def P8 (w:bP) (b:Nat) (i:Int):Prop:= ∃ b',b'<b∧ ∃ q∈l_ w b',q.1=i
noncomputable instance (w:bP) (b:Nat) (i:Int):Decidable (P8 w b i):=Classical.propDecidable _
def v8 (w:bP) (b:Nat):Bool:=(l_ w b).any fun q=>decide (0≤q.1)
def AP (w:bP) (k:Nat):List Int:=((List.range k).filter fun b=> !v8 w b).map fun (b:Nat)=>(b:Int)
noncomputable def vX (l:a_) (r:cv):List Int:=if ew l r 0=0 then AP (cj l r) (w9 (kY l r)).toNat else []
theorem w4 {l:a_} {r:cv} (h:ew l r 0=0):vX l r=AP (cj l r) (w9 (kY l r)).toNat:=if_pos h
theorem wu {l:a_} {r:cv} (h: ¬ ew l r 0=0):vX l r=[]:=if_neg h
theorem Si {l:a_} {r:cv} (h:ew l r 0=0):0≤w9 (kY l r)∧w9 (kY l r)≤(l.ae.length:Int):=by
 have A:=(Gs (ue h)).1
 rw [lT h] at A ⊢
 obtain ⟨i,e,hi,_⟩:=oY.1 A
 have hn:(cj l r).n=l.ae.length:=dU
 omega
end
section
/-- a truth goes on from here -/
def r9 (w:bP) (b:Nat) (p:aB×Int):Prop:= ∃ k,b+k≤w.n∧ ∃ q∈fO w k b p,kq w q.1=true
/-- a truth may have come here, or earlier -/
def Dk (w:bP) (b:Nat) (p:aB×Int):Prop:= ∃ v,(p.1,v)∈fwd w b∧v≤p.2
def LV (n:Int) (p:aB×Int):aB×Int:=(p.1,p.2+n)
section
variable {w:bP}
theorem Hw: ∀ (k j b:Nat) (p q z:aB×Int),q∈fO w k b p→z∈fO w j (b+k) q→z∈fO w (k+j) b p:=by
 intro k
 induction k with
 |zero=>
  intro j b p q z A B
  simp only [fO,bS] at A
  subst A
  rw [Nat.zero_add]; exact B
 |succ k ih=>
  intro j b p q z A B
  obtain ⟨o,ho,p',e,h⟩:=hE.1 A
  rw [show k+1+j=(k+j)+1 by omega]
  exact hE.2 ⟨o,ho,p',e,ih j (b+1) p' q z h (by rw [show b+1+k=b+(k+1) by omega]; exact B)⟩
theorem CF: ∀ (k b:Nat) (t:aB) (x y:Int) (q:aB×Int),y≤x→q∈fO w k b (t,x)→ ∃ q'∈fO w k b (t,y),q'.1=q.1∧q'.2≤q.2:=by
 intro k
 induction k with
 |zero=>
  intro b t x y q A hq
  simp only [fO,bS] at hq ⊢
  subst hq
  exact ⟨_,U,U,A⟩
 |succ k ih=>
  intro b t x y q A hq
  obtain ⟨o,ho,p',e,h⟩:=hE.1 hq
  obtain ⟨B,rfl⟩:=gE.1 e
  simp only at B h
  obtain ⟨q',hq',C,D⟩:=ih (b+1) _ _ (max (y+bR w b) o.2.Lo) q I h
  exact ⟨q',hE.2 ⟨o,ho,_,gE.2 ⟨by simp only; omega,U⟩,hq'⟩,C,D⟩
theorem xd {b:Nat} {t:aB} {x y:Int} (h:r9 w b (t,x)) (hy:y≤x):r9 w b (t,y):=by
 obtain ⟨k,hk,q,hq,hm⟩:=h
 obtain ⟨q',hq',e,_⟩:=CF k b t x y q hy hq
 exact ⟨k,hk,q',hq',by rw [e]; exact hm⟩
theorem uj {k b:Nat} {p q:aB×Int} (h:q∈fO w k b p) (hv:r9 w (b+k) q):r9 w b p:=by
 obtain ⟨j,hj,z,hz,hm⟩:=hv
 exact ⟨k+j,I,z,Hw k j b p q z h hz,hm⟩
theorem Gt {b:Nat} {p q:aB×Int} {o:Int×aa} (h:Dk w b p) (ho:o∈il w b) (e:kD w b p o=some q):Dk w (b+1) q:=by
 obtain ⟨v,hv,A⟩:=h
 obtain ⟨B,rfl⟩:=gE.1 e
 exact ⟨max (v+bR w b) o.2.Lo,fG.2 ⟨_,hv,o,ho,gE.2 ⟨by simp only; omega,U⟩⟩,by simp only; omega⟩
theorem Bz {b:Nat} {p:aB×Int} (h:p∈fwd w b):Dk w b p:=⟨p.2,h,Int.le_refl _⟩
theorem yL (hl: ∀ b,0≤bR w b): ∀ (b:Nat) (p:aB×Int),p∈fwd w b→w.Start≤p.2:=by
 intro b
 induction b with
 |zero=>intro p hp; simp only [fwd,bS] at hp; subst hp; exact Int.le_refl _
 |succ b ih=>
  intro q hq
  obtain ⟨p,hp,o,ho,e⟩:=fG.1 hq
  obtain ⟨_,rfl⟩:=gE.1 e
  have:=ih p hp
  have:=hl b
  simp only; omega
/-- a beam is passed at a time, by a signal -/
def xW (w:bP) (b:Nat) (s t:Int):Prop:= ∃ p∈fwd w b,∃ o∈il w b,o.1=s∧(max (p.2+bR w b) o.2.Lo≤t∧t≤min o.2.Hi w.fZ)∧r9 w (b+1) (dk p.1 (fc o.1),t)
theorem AJ (hl: ∀ b,0≤bR w b) {b:Nat} (hb:b<w.n) {s t:Int}:(∃ q∈l_ w b,q.1=s∧q.2.Lo≤t∧t≤q.2.Hi)↔xW w b s t:=by
 constructor
 ·rintro ⟨q,hq,hs,C,D⟩
  obtain ⟨o,ho,p,hp,u,hu,e⟩:=g8.1 hq
  obtain ⟨B,A,rfl⟩:=jn.1 e
  simp only [js] at C D B
  have hn:u.2≤w.fZ:=F4 hl _ _ hu
  obtain ⟨k,hk,q,hq',E⟩:=Lc hl (w.n-(b+1)) (b+1) (dk p.1 (fc o.1),t) u I (by simp only; omega) hu
  refine ⟨p,hp,o,ho,hs,⟨I,I⟩,k,hk,q,hq',?_⟩
  rw [E]
  unfold w6 at A
  rw [show dk (dk p.1 (fc o.1)) u.1=dk (dk p.1 u.1) (fc o.1) by simp only [dk,aB.mk.injEq]; omega]
  exact A
 ·rintro ⟨p,hp,o,ho,hs,⟨C,D⟩,k,hk,q,hq,hm⟩
  obtain ⟨u,hu,B,A⟩:=Og k (b+1) _ q hk (by simp only; omega) hq
  simp only at B A
  refine ⟨(o.1,js w b p u o),g8.2 ⟨o,ho,p,hp,u,hu,jn.2 ⟨by simp only [js]; omega,?_,U⟩⟩,hs,by simp only [js]; omega,by simp only [js]; omega⟩
  unfold w6
  rw [A] at hm
  rw [show dk (dk p.1 u.1) (fc o.1)=dk (dk p.1 (fc o.1)) u.1 by simp only [dk,aB.mk.injEq]; omega]
  exact hm
end
structure yi (w w':bP) (n:Int) (f:Int→Int):Prop where
 start:w'.Start=w.Start+n
 now:w'.fZ=w.fZ+n
 wn:w'.n=w.n
 low: ∀ b,0≤bR w b
 least: ∀ b,bR w' b=bR w b
 may: ∀ t,kq w t=true→kq w' t=true
 U_: ∀ s,0≤f s↔0≤s
 opt: ∀ (b:Nat) (p:aB×Int) (o:Int×aa),b<w.n→w.Start≤p.2→Dk w b p→o∈il w b→max (p.2+bR w b) o.2.Lo≤min o.2.Hi w.fZ→r9 w (b+1) (dk p.1 (fc o.1),max (p.2+bR w b) o.2.Lo)→
  ∃ o'∈il w' b,o'.1=f o.1∧ ∀ t,w.Start≤t→t≤w.fZ→((o.2.Lo≤t∧t≤o.2.Hi)↔(o'.2.Lo≤t+n∧t+n≤o'.2.Hi))
section
variable {w w':bP} {n:Int} {f g:Int→Int}
theorem yi.one (h:yi w w' n f) (s:Int):fc (f s)=fc s:=by
 unfold fc
 have:=h.U_ s
 by_cases q:s<0
 ·rw [if_pos q,if_pos I]
 ·rw [if_neg q,if_neg I]
theorem yi.step (h:yi w w' n f) {b:Nat} {p q:aB×Int} {o:Int×aa} (hb:b<w.n) (hs:w.Start≤p.2) (hl:Dk w b p) (ho:o∈il w b) (e:kD w b p o=some q) (hv:r9 w (b+1) q):
 ∃ o'∈il w' b,kD w' b (LV n p) o'=some (LV n q):=by
 obtain ⟨E,rfl⟩:=gE.1 e
 obtain ⟨o',ho',D,A⟩:=h.opt b p o hb hs hl ho E hv
 have F:=h.low b
 have B:=A (max (p.2+bR w b) o.2.Lo) I I
 have C:=A (max (p.2+n+bR w b) o'.2.Lo-n) I
 refine ⟨o',ho',gE.2 ?_⟩
 simp only [LV,h.least,h.now]
 rw [D,h.one]
 have G:=B.1 I
 have H:=(C I).2 I
 refine ⟨I,?_⟩
 simp only [Prod.mk.injEq,true_and]
 omega
theorem yi.reach (h:yi w w' n f): ∀ (k b:Nat) (p q:aB×Int),b+k≤w.n→w.Start≤p.2→Dk w b p→q∈fO w k b p→r9 w (b+k) q→LV n q∈fO w' k b (LV n p):=by
 intro k
 induction k with
 |zero=>
  intro b p q _ _ _ hq _
  simp only [fO,bS] at hq ⊢
  rw [hq]
 |succ k ih=>
  intro b p q hb hs hl hq hv
  obtain ⟨o,ho,p',e,hq'⟩:=hE.1 hq
  have hv':r9 w (b+1) p':=uj hq' (by rw [show b+1+k=b+(k+1) by omega]; exact hv)
  obtain ⟨o',ho',e'⟩:=h.step I hs hl ho e hv'
  have A:=gE.1 e
  have B:=h.low b
  exact hE.2 ⟨o',ho',_,e',ih (b+1) p' q I (by rw [A.2]; simp only; omega) (Gt hl ho e) hq' (by rw [show b+1+k=b+(k+1) by omega]; exact hv)⟩
theorem yi.QP (h:yi w w' n f) {b:Nat} {p:aB×Int} (hs:w.Start≤p.2) (hl:Dk w b p) (hv:r9 w b p):r9 w' b (LV n p):=by
 obtain ⟨k,hk,q,hq,hm⟩:=hv
 exact ⟨k,by rw [h.wn]; exact hk,_,h.reach k b p q hk hs hl hq ⟨0,I,q,by simp [fO],hm⟩,h.may _ hm⟩
theorem yi.fwd (h:yi w w' n f) {b:Nat} {q:aB×Int} (hb:b≤w.n) (hq:q∈fwd w b) (hv:r9 w b q):LV n q∈Go.Proofs.YtadjgjnicdcjbaaGreatDoor.fwd w' b:=by
 obtain ⟨p,hp,hr⟩:=(qN b 0 q).1 (by rw [Nat.zero_add]; exact hq)
 have hr':=h.reach b 0 p q I (yL h.low 0 p hp) (Bz hp) hr (by rw [Nat.zero_add]; exact hv)
 have:LV n p∈Go.Proofs.YtadjgjnicdcjbaaGreatDoor.fwd w' 0:=by
  simp only [Go.Proofs.YtadjgjnicdcjbaaGreatDoor.fwd,bS] at hp ⊢
  subst hp
  rw [h.start]; rfl
 have A:=(qN b 0 (LV n q)).2 ⟨_,this,hr'⟩
 rwa [Nat.zero_add] at A
theorem yi.any (h:yi w w' n f) {b:Nat} (hb:b≤w.n) (hm:jg w (Go.Proofs.YtadjgjnicdcjbaaGreatDoor.fwd w b)=true):jg w' (Go.Proofs.YtadjgjnicdcjbaaGreatDoor.fwd w' b)=true:=by
 unfold jg at hm ⊢
 obtain ⟨p,hp,A⟩:=List.any_eq_true.1 hm
 exact List.any_eq_true.2 ⟨_,h.fwd hb hp ⟨0,I,p,by simp [fO],A⟩,h.may _ A⟩
theorem yi.pass (h:yi w w' n f) {b:Nat} (hb:b<w.n) {s t:Int} (hp:xW w b s t):xW w' b (f s) (t+n):=by
 obtain ⟨p,hp,o,ho,rfl,⟨D,G⟩,hv⟩:=hp
 have hs:=yL h.low b p hp
 have hl:=h.low b
 have A:r9 w (b+1) (dk p.1 (fc o.1),max (p.2+bR w b) o.2.Lo):=xd hv D
 have e:kD w b p o=some (dk p.1 (fc o.1),max (p.2+bR w b) o.2.Lo):=gE.2 ⟨I,rfl⟩
 have B:r9 w b p:=uj (k:=1) (hE.2 ⟨o,ho,_,e,by simp [fO]⟩) A
 obtain ⟨o',ho',C,E⟩:=h.opt b p o hb hs (Bz hp) ho I A
 have c:=(E t I I).1 I
 refine ⟨LV n p,h.fwd I hp B,o',ho',C,?_,?_⟩
 ·simp only [LV,h.least,h.now]; omega
 ·have F:=h.QP (b:=b+1) (p:=(dk p.1 (fc o.1),t)) (by simp only; omega) ⟨_,fG.2 ⟨p,hp,o,ho,e⟩,D⟩ hv
  rw [C,h.one]; exact F
theorem Il (h:yi w w' n f) (h':yi w' w (-n) g):jz w'=jz w:=by
 unfold jz
 rw [h.wn]
 unfold kh
 congr 1
 refine List.filter_congr fun b hb=>?_
 have hb:=List.mem_range.1 hb
 rw [Bool.eq_iff_iff]
 exact ⟨h'.any (by rw [h.wn]; omega),h.any I⟩
theorem Bp (h:yi w w' n f) (hl': ∀ b,0≤bR w' b) {b:Nat} (hb:b<w.n) {s:Int} (hq: ∃ q∈l_ w b,q.1=s): ∃ q∈l_ w' b,q.1=f s:=by
 obtain ⟨q,hq,e⟩:=hq
 have A:q.2.Lo≤q.2.Hi:=mW hq
 obtain ⟨q',hq',e',_⟩:=(AJ hl' (by rw [h.wn]; exact hb)).2 (h.pass hb ((AJ h.low hb).1 ⟨q,hq,e,Int.le_refl _,A⟩))
 exact ⟨q',hq',e'⟩
theorem GQ (h:yi w w' n f) (h':yi w' w (-n) g) {b:Nat} (hb:b<w.n):v8 w' b=v8 w b:=by
 rw [Bool.eq_iff_iff]
 unfold v8
 simp only [List.any_eq_true,decide_eq_true_eq]
 constructor
 ·rintro ⟨q,hq,A⟩
  obtain ⟨q',hq',e⟩:=Bp h' h.low (by rw [h.wn]; exact hb) ⟨q,hq,rfl⟩
  exact ⟨q',hq',by rw [e]; exact (h'.U_ _).2 A⟩
 ·rintro ⟨q,hq,A⟩
  obtain ⟨q',hq',e⟩:=Bp h h'.low hb ⟨q,hq,rfl⟩
  exact ⟨q',hq',by rw [e]; exact (h.U_ _).2 A⟩
end
section
variable {l l':a_} {r r':cv} {n:Int} {f g:Int→Int}
structure vL (l:a_) (r:cv) (l':a_) (r':cv) (n:Int) (f g:Int→Int):Prop where
 line:dq l=0
 line':dq l'=0
 yq:e7 l r
 ride':e7 l' r'
 O3:l'.ae.length=l.ae.length
 to:yi (cj l r) (cj l' r') n f
 Vv:yi (cj l' r') (cj l r) (-n) g
theorem vL.HF (h:vL l r l' r' n f g):jz (cj l' r')=jz (cj l r):=Il h.to h.Vv
theorem vL.e (h:vL l r l' r' n f g) {me:Int}:ew l' r' me=ew l r me:=by
 by_cases hm:me=0
 ·by_cases q:jz (cj l r)=[]
  ·rw [pj h.line h.yq hm q,pj h.line' h.ride' hm (h.HF.trans q)]
  ·rw [lF h.line h.yq hm q,lF h.line' h.ride' hm (by rw [h.HF]; exact q)]
 ·rw [qD h.line h.yq hm,qD h.line' h.ride' hm]
theorem vL.Ao (h:vL l r l' r' n f g):kY l' r'=kY l r:=by
 by_cases q:ew l r 0=0
 ·rw [lT q,lT (h.e.trans q),h.HF]
 ·rw [uw q,uw (by rw [h.e]; exact q)]
theorem vL.vD (h:vL l r l' r' n f g) {b:Int}:jB l' b=jB l b:=by unfold jB; rw [h.O3]
theorem vL.bn (h:vL l r l' r' n f g):(cj l r).n=l.ae.length:=dU
theorem vL.eJ (h:vL l r l' r' n f g):vX l' r'=vX l r:=by
 by_cases q:ew l r 0=0
 ·rw [w4 q,w4 (h.e.trans q),h.Ao]
  have hb:=Si q
  unfold AP
  congr 1
  refine List.filter_congr fun b A=>?_
  have A:=List.mem_range.1 A
  rw [GQ h.to h.Vv (by rw [h.bn]; omega)]
 ·rw [wu q,wu (by rw [h.e]; exact q)]
end
end
section
theorem m6 {l:a_} (ht:cT l.aP=true) (h:kT l) {i:Nat} (hi:i<l.ae.length):1≤dN l i∧dN l i≤500000000:=by
 have A:=h.Q7 i hi
 have B:=F3 ht h.vD i
 have hf:=h.head.1
 unfold dN o9
 refine ⟨(Int.le_ediv_iff_mul_le I).2 I,?_⟩
 have:(1000*lU l i+l.hO-1)/l.hO≤1000*lU l i+l.hO-1:=Int.ediv_le_self _ I
 omega
end
section
def cW (good:List Int):aB:=good.foldl (fun t g=>dk t (fc g)) ⟨0,0⟩
theorem jP {l:List Int} {g:Int}:cW (l++[g])=dk (cW l) (fc g):=by unfold cW; rw [List.foldl_append]; rfl
def s8 (r:cv) (times:List Int) (b:Nat):Int:=if b=0 then r.Start else (times[b-1]?).getD 0
theorem pw {r:cv} {times:List Int} {b:Nat} {t:Int} (h:times[b]? =some t):s8 r times (b+1)=t:=by unfold s8; rw [if_neg I,Nat.add_sub_cancel,h]; rfl
structure iu (l:a_) (r:cv) (times good:List Int):Prop where
 yq:e7 l r
 len:good.length=times.length
 le:times.length≤l.ae.length
 step: ∀ (b:Nat) t,times[b]? =some t→s8 r times b+dN l b≤t∧t≤r.fZ
 sig: ∀ (b:Nat) t g,times[b]? =some t→good[b]? =some g→g= -1∨ ∃ (k:Nat) (s:aK),g=(k:Int)∧r.ag[k]? =some s∧s.gd=(b:Int)∧(cz l s).Lo≤t∧t≤(cz l s).Hi
 IS:(cW good).eJ≤l.cV
 Sk:(r.ag.length:Int)-(cW good).right≤l.eU
section
variable {l:a_} {r:cv} {times good:List Int}
theorem iu.low (h:iu l r times good) (hl:dq l=0): ∀ b,0≤bR (cj l r) b:=fun b=>by
 obtain ⟨ht,A⟩:=gF hl
 exact ((o6 ht A h.yq).bR b).1
theorem iu.least (h:iu l r times good) {b:Nat} (hb:b<times.length):bR (cj l r) b=dN l b:=by
 have:=h.le
 rw [yx,if_pos I]
theorem iu.from_ (h:iu l r times good) (hl:dq l=0): ∀ b:Nat,b≤times.length→r.Start≤s8 r times b∧s8 r times b≤r.fZ:=by
 intro b
 induction b with
 |zero=>intro _; have:=h.yq.time; unfold s8; rw [if_pos rfl]; omega
 |succ b ih=>
  intro hb
  have ht:times[b]? =some (times[b]'I):=eE _
  have B:=ih I
  have C:=h.step b _ ht
  have A:=h.low hl b
  rw [h.least I] at A
  rw [pw ht]
  omega
/-- what comes next, in the truth -/
theorem iu.opt (h:iu l r times good) (hl:dq l=0) {b:Nat} {t g:Int} (ht:times[b]? =some t) (hg:good[b]? =some g): ∃ o∈il (cj l r) b,o.1=g∧o.2.Lo≤t∧t≤o.2.Hi:=by
 have hb:=(List.getElem?_eq_some_iff.1 ht).1
 have E:=h.le
 have F:=h.step b t ht
 have G:=h.from_ hl b I
 have B:=h.low hl b
 rw [h.least hb] at B
 rcases h.sig b t g ht hg with rfl|⟨k,s,rfl,hs,A,C,D⟩
 ·exact ⟨(-1,⟨r.Start,r.fZ⟩),(qM I).2 (.inl U),U,by simp only; omega,by simp only; omega⟩
 ·exact ⟨((k:Int),cz l s),(qM I).2 (.inr ⟨k,(List.getElem?_eq_some_iff.1 hs).1,s,hs,⟨A,I⟩,U⟩),U,C,D⟩
theorem lz {α:Type} {l:List α} {b:Nat} {x:α} (h:l[b]? =some x):l.take (b+1)=l.take b++[x]:=by rw [List.take_add_one,h]; rfl
theorem iu.live (h:iu l r times good) (hl:dq l=0): ∀ b:Nat,b≤times.length→Dk (cj l r) b (cW (good.take b),s8 r times b):=by
 intro b
 induction b with
 |zero=>intro _; exact ⟨r.Start,by simp [fwd,cW]; rfl,by unfold s8; rw [if_pos rfl]; exact Int.le_refl _⟩
 |succ b ih=>
  intro hb
  have B:=h.len
  have ht:times[b]? =some (times[b]'I):=eE _
  have hg:good[b]? =some (good[b]'I):=eE _
  obtain ⟨v,hv,A⟩:=ih I
  obtain ⟨o,ho,e,C,D⟩:=h.opt hl ht hg
  have E:=h.step b _ ht
  have F:=h.least (b:=b) I
  simp only at A hv
  rw [pw ht,lz hg,jP,← e]
  refine ⟨max (v+bR (cj l r) b) o.2.Lo,fG.2 ⟨_,hv,o,ho,gE.2 ⟨?_,U⟩⟩,?_⟩
  ·have G:(cj l r).fZ=r.fZ:=rfl
   simp only; omega
  ·simp only; omega
theorem iu.QP (h:iu l r times good) (hl:dq l=0): ∀ (d b:Nat),b+d=times.length→r9 (cj l r) b (cW (good.take b),s8 r times b):=by
 intro d
 induction d with
 |zero=>
  intro b hb
  have hn:(cj l r).n=l.ae.length:=dU
  have C:=h.len
  have D:=h.le
  refine ⟨0,I,_,by simp [fO]; rfl,?_⟩
  rw [List.take_of_length_le I]
  unfold kq
  have A:=h.IS
  have B:=h.Sk
  exact fI ⟨A,B⟩
 |succ d ih=>
  intro b hb
  have C:=h.len
  have ht:times[b]? =some (times[b]'I):=eE _
  have hg:good[b]? =some (good[b]'I):=eE _
  obtain ⟨o,ho,e,D,A⟩:=h.opt hl ht hg
  have B:=h.step b _ ht
  have E:=h.least (b:=b) I
  have F:(cj l r).fZ=r.fZ:=rfl
  have hv:=ih (b+1) I
  rw [pw ht,lz hg,jP,← e] at hv
  exact uj (k:=1) (hE.2 ⟨o,ho,_,gE.2 ⟨by first|omega|(simp only; omega),U⟩,by simp [fO]; rfl⟩) (xd hv (by first|omega|(simp only; omega)))
theorem iu.pass (h:iu l r times good) (hl:dq l=0) {b:Nat} {t g:Int} (ht:times[b]? =some t) (hg:good[b]? =some g):xW (cj l r) b g t:=by
 have hb:=(List.getElem?_eq_some_iff.1 ht).1
 obtain ⟨v,hv,A⟩:=h.live hl b I
 obtain ⟨o,ho,e,B,C⟩:=h.opt hl ht hg
 have D:=h.step b _ ht
 have E:=h.least (b:=b) hb
 have F:(cj l r).fZ=r.fZ:=rfl
 have hw:=h.QP hl (times.length-(b+1)) (b+1) I
 rw [pw ht,lz hg,jP,← e] at hw
 simp only at A
 exact ⟨_,hv,o,ho,e,⟨by simp only; omega,I⟩,hw⟩
theorem iu.num (h:iu l r times good) (hl:dq l=0):(times.length:Int)∈jz (cj l r):=by
 obtain ⟨v,hv,_⟩:=h.live hl times.length (Nat.le_refl _)
 have hn:(cj l r).n=l.ae.length:=dU
 have B:=h.le
 refine oY.2 ⟨times.length,U,I,?_⟩
 unfold jg
 refine List.any_eq_true.2 ⟨_,hv,?_⟩
 have A:=h.len
 rw [List.take_of_length_le I]
 unfold kq
 exact fI ⟨h.IS,h.Sk⟩
theorem iu.e (h:iu l r times good) (hl:dq l=0):ew l r 0=0:=lF hl h.yq rfl fun e=>by have:=h.num hl; rw [e] at this; cases this
theorem iu.Ao (h:iu l r times good) (hl:dq l=0):(times.length:Int)∈kY l r:=by rw [lT (h.e hl)]; exact h.num hl
theorem iu.clear (h:iu l r times good) (hl:dq l=0):(EP l r=2→l.cH<(times.length:Int))∧(EP l r=0→(times.length:Int)≤l.cH):=by
 have hm:=h.Ao hl
 have A:=(Gs (ue (h.e hl))).2 _ hm
 have B:=(OI (ue (h.e hl))).2 _ hm
 unfold EP
 rw [if_pos (h.e hl)]
 constructor
 ·intro q
  split at q
  ·omega
  ·split at q<;>omega
 ·intro q
  split at q
  ·omega
  ·split at q<;>omega
end
end
section
def gv (hi:Int→Int) (least:Nat→Int) (now:Int):Nat→List Int→List Int×Int
 |_,[]=>([],now)
 |b,x::xs=>((if 0≤x then min (gv hi least now (b+1) xs).2 (hi x) else (gv hi least now (b+1) xs).2)::(gv hi least now (b+1) xs).1,(if 0≤x then min (gv hi least now (b+1) xs).2 (hi x) else (gv hi least now (b+1) xs).2)-least b)
def fU (t:Int):List Int→Int
 |[]=>t
 |x::xs=>fU x xs
def j0 (w:bP):Nat→Int→List Int→List Int→Prop
 |_,_,[],[]=>True
 |b,t,x::rs,y::fs=>(∃ o∈il w b,o.1=x∧max (t+bR w b) o.2.Lo≤min o.2.Hi w.fZ∧y=max (t+bR w b) o.2.Lo)∧j0 w (b+1) y rs fs
 |_,_,_,_=>False
section
variable {w:bP} {hi:Int→Int} {least:Nat→Int} {now:Int}
theorem qU: ∀ (b:Nat) (rs:List Int),(gv hi least now b rs).1.length=rs.length
 |_,[]=>rfl
 |b,x::xs=>by simp only [gv,List.length_cons]; rw [qU]
theorem m0: ∀ (t:Int) (fs:List Int) (y:Int),fU t (fs++[y])=y
 |_,[],_=>rfl
 |t,x::fs,y=>m0 x fs y
theorem Df: ∀ (t:Int) (fs:List Int) (y:Int),fs[fs.length-1]? =some y→fU t fs=y
 |t,[],y,h=>by simp at h
 |t,[x],y,h=>by simpa [fU] using h
 |t,x::x2::fs,y,h=>by
  show fU x (x2::fs)=y
  exact Df x (x2::fs) y (by simpa using h)
theorem sX: ∀ (b:Nat) (rs:List Int) (x:Int) (ss:List Int),(gv hi least now b (rs++x::ss)).1[rs.length]? =some (if 0≤x then min (gv hi least now (b+rs.length+1) ss).2 (hi x) else (gv hi least now (b+rs.length+1) ss).2)
 |b,[],x,ss=>by simp [gv]
 |b,z::rs,x,ss=>by
  have:=sX (b+1) rs x ss
  simp only [List.cons_append,gv,List.length_cons,List.getElem?_cons_succ]
  rw [this,show b+1+rs.length+1=b+(rs.length+1)+1 by omega]
theorem j8: ∀ (b:Nat) (t:Int) (rs fs:List Int),j0 w b t rs fs→fs.length=rs.length
 |_,_,[],[],_=>rfl
 |b,t,x::rs,y::fs,h=>by simp [j8 _ _ rs fs h.2]
 |_,_,[],_::_,h=>h.elim
 |_,_,_::_,[],h=>h.elim
theorem rj: ∀ (b:Nat) (t:Int) (rs fs ss gs:List Int),fs.length=rs.length→(j0 w b t (rs++ss) (fs++gs)↔j0 w b t rs fs∧j0 w (b+rs.length) (fU t fs) ss gs)
 |b,t,[],[],ss,gs,_=>by simp [j0,fU]
 |b,t,x::rs,y::fs,ss,gs,h=>by
  have ih:=rj (b+1) y rs fs ss gs (by simpa using h)
  simp only [List.cons_append,j0,List.length_cons,fU]
  rw [ih,show b+1+rs.length=b+(rs.length+1) by omega,and_assoc]
 |_,_,[],_::_,_,_,h=>by simp at h
 |_,_,_::_,[],_,_,h=>by simp at h
theorem D1 (b:List Int): ∀ t:aB,b.foldl (fun t g=>dk t (fc g)) t=dk t (cW b):=by
 induction b with
 |nil=>intro t; exact (mY t).symm
 |cons x b ih=>
  intro t
  show b.foldl (fun t g=>dk t (fc g)) (dk t (fc x))=dk t (b.foldl (fun t g=>dk t (fc g)) (dk ⟨0,0⟩ (fc x)))
  rw [ih,ih]; simp only [dk,aB.mk.injEq]; omega
theorem rh (a b:List Int):cW (a++b)=dk (cW a) (cW b):=by
 show (a++b).foldl _ _=_
 rw [List.foldl_append,D1]; rfl
theorem qY:cW []=(⟨0,0⟩:aB):=rfl
theorem pq (l:List Int):dk (⟨0,0⟩:aB) (cW l)=cW l:=by simp [dk]
theorem sh (x:Int) (l:List Int):cW (x::l)=dk (fc x) (cW l):=by
 rw [show x::l=[x]++l from rfl,rh,show cW [x]=fc x from (jP (l:=[])).trans (by rw [qY]; simp [dk])]
theorem tT: ∀ l:List Int,0≤(cW l).right∧0≤(cW l).eJ∧(cW l).right+(cW l).eJ=(l.length:Int)
 |[]=>by rw [qY]; simp
 |x::l=>by
  rw [sh]
  have:=ud x
  have:=tT l
  simp only [dk,List.length_cons]
  omega
/-- chains are what the watch goes through -/
theorem jZ: ∀ (k b:Nat) (p q:aB×Int),q∈fO w k b p↔ ∃ rs fs,rs.length=k∧j0 w b p.2 rs fs∧q=(dk p.1 (cW rs),fU p.2 fs):=by
 intro k
 induction k with
 |zero=>
  intro b p q
  simp only [fO,bS]
  constructor
  ·rintro rfl; exact ⟨[],[],rfl,trivial,by rw [qY,mY]; rfl⟩
  ·rintro ⟨rs,fs,A,B,rfl⟩
   have A:=jC A
   subst A
   have:=jC (j8 _ _ _ _ B)
   subst this
   rw [qY,mY]; rfl
 |succ k ih=>
  intro b p q
  rw [hE]
  constructor
  ·rintro ⟨o,ho,p',e,h⟩
   obtain ⟨A,rfl⟩:=gE.1 e
   obtain ⟨rs,fs,B,C,rfl⟩:=(ih _ _ _).1 h
   refine ⟨o.1::rs,max (p.2+bR w b) o.2.Lo::fs,by simp [B],⟨⟨o,ho,U,A,U⟩,C⟩,?_⟩
   rw [sh]
   simp only [fU,dk,Prod.mk.injEq,aB.mk.injEq,and_true]; omega
  ·rintro ⟨rs,fs,A,B,rfl⟩
   cases rs with
   |nil=>simp at A
   |cons x rs=>
    cases fs with
    |nil=>exact B.elim
    |cons y fs=>
     obtain ⟨⟨o,ho,rfl,C,rfl⟩,D⟩:=B
     refine ⟨o,ho,_,gE.2 ⟨C,U⟩,(ih _ _ _).2 ⟨rs,fs,by simpa using A,D,?_⟩⟩
     rw [sh]
     simp only [fU,dk,Prod.mk.injEq,aB.mk.injEq,and_true]; omega
/-- what the reference's rows of last times know -/
structure KL (w:bP) (hi:Int→Int) (least:Nat→Int) (now:Int):Prop where
 low: ∀ b,0≤bR w b
 least: ∀ b,b<w.n→least b=bR w b
 now:now=w.fZ
 hi: ∀ b o,b<w.n→o∈il w b→0≤o.1→o.2.Hi=hi o.1
 none_: ∀ b o,b<w.n→o∈il w b→ ¬ 0≤o.1→o.2.Hi=w.fZ
theorem xP (h:KL w hi least now): ∀ (b:Nat) (rs:List Int),b+rs.length≤w.n→(gv hi least now b rs).2≤w.fZ
 |_,[],_=>by simp only [gv]; exact Int.le_of_eq h.now
 |b,x::xs,hb=>by
  simp only [List.length_cons] at hb
  have B:=xP h (b+1) xs I
  have A:=h.low b
  rw [← h.least b I] at A
  simp only [gv]
  split<;>omega
theorem qP (h:KL w hi least now): ∀ (b:Nat) (t:Int) (rs fs:List Int),b+rs.length≤w.n→t≤w.fZ→j0 w b t rs fs→t≤(gv hi least now b rs).2
 |_,t,[],[],_,ht,_=>by simp only [gv]; rw [h.now]; exact ht
 |b,t,x::rs,y::fs,hb,ht,hc=>by
  simp only [List.length_cons] at hb
  obtain ⟨⟨o,ho,rfl,D,rfl⟩,A⟩:=hc
  have B:=qP h (b+1) _ rs fs I I A
  have C:=h.least b I
  simp only [gv]
  split
  ·rename_i q
   have:=h.hi b o I ho q
   omega
  ·omega
 |_,_,[],_::_,_,_,hc=>hc.elim
 |_,_,_::_,[],_,_,hc=>hc.elim
theorem yd (h:KL w hi least now): ∀ (b:Nat) (t t':Int) (rs fs:List Int),b+rs.length≤w.n→t≤t'→t'≤(gv hi least now b rs).2→j0 w b t rs fs→ ∃ gs,j0 w b t' rs gs
 |_,t,_,[],[],_,_,_,_=>⟨[],trivial⟩
 |b,t,t',x::rs,y::fs,hb,ht,he,hc=>by
  simp only [List.length_cons] at hb
  obtain ⟨⟨o,ho,rfl,E,rfl⟩,A⟩:=hc
  have C:=qP h (b+1) _ rs fs I I A
  have D:=h.least b I
  have F:=xP h (b+1) rs I
  simp only [gv] at he
  have B:max (t'+bR w b) o.2.Lo≤min o.2.Hi w.fZ∧max (t'+bR w b) o.2.Lo≤(gv hi least now (b+1) rs).2:=by
   split at he
   ·rename_i q
    have:=h.hi b o I ho q
    omega
   ·rename_i q
    have:=h.none_ b o I ho q
    omega
  obtain ⟨gs,hg⟩:=yd h (b+1) _ (max (t'+bR w b) o.2.Lo) rs fs I I B.2 A
  exact ⟨_::gs,⟨o,ho,U,B.1,U⟩,hg⟩
 |_,_,_,[],_::_,_,_,_,hc=>hc.elim
 |_,_,_,_::_,[],_,_,_,hc=>hc.elim
theorem BU (b:Nat) (t t':Int) (rs fs:List Int) (ht:t'≤t) (hc:j0 w b t rs fs): ∃ gs,j0 w b t' rs gs:=by
 have A:(dk ⟨0,0⟩ (cW rs),fU t fs)∈fO w rs.length b (⟨0,0⟩,t):=(jZ _ _ _ _).2 ⟨rs,fs,rfl,hc,rfl⟩
 clear A
 induction rs generalizing b t t' fs with
 |nil=>exact ⟨[],trivial⟩
 |cons x rs ih=>
  cases fs with
  |nil=>exact hc.elim
  |cons y fs=>
   obtain ⟨⟨o,ho,rfl,C,rfl⟩,B⟩:=hc
   obtain ⟨gs,hg⟩:=ih (b+1) _ (max (t'+bR w b) o.2.Lo) fs I B
   exact ⟨_::gs,⟨o,ho,U,I,U⟩,hg⟩
/-- a way, as it is asked for -/
structure Pa (w:bP) (hi:Int→Int) (least:Nat→Int) (now:Int) (y:cZ):Prop where
 chain:j0 w 0 w.Start y.gl y.iz
 len:y.gl.length≤w.n
 last:y.lK=(gv hi least now 0 y.gl).1
 may:kq w (cW y.gl)=true
theorem CW {k:Nat}:jg w (fwd w k)=true↔ ∃ rs fs,rs.length=k∧j0 w 0 w.Start rs fs∧kq w (cW rs)=true:=by
 unfold jg
 rw [List.any_eq_true]
 have e:=fun q=>(qN (w:=w) k 0 q)
 rw [Nat.zero_add] at e
 constructor
 ·rintro ⟨q,hq,hm⟩
  obtain ⟨p,hp,h⟩:=(e q).1 hq
  simp only [fwd,bS] at hp
  subst hp
  obtain ⟨rs,fs,A,B,rfl⟩:=(jZ _ _ _ _).1 h
  refine ⟨rs,fs,A,B,?_⟩
  rwa [pq] at hm
 ·rintro ⟨rs,fs,A,B,C⟩
  refine ⟨_,(e _).2 ⟨((⟨0,0⟩:aB),w.Start),List.mem_singleton.2 U,(jZ _ _ _ _).2 ⟨rs,fs,A,B,U⟩⟩,?_⟩
  simp only [pq]; exact C
theorem Ih (h:KL w hi least now) (hs:w.Start≤w.fZ) {b:Nat} (hb:b<w.n) {s t:Int}:xW w b s t↔ ∃ y,Pa w hi least now y∧ ∃ f e,y.gl[b]? =some s∧y.iz[b]? =some f∧y.lK[b]? =some e∧f≤t∧t≤e:=by
 have ef:=fun q=>(qN (w:=w) b 0 q)
 rw [Nat.zero_add] at ef
 constructor
 ·rintro ⟨p,hp,o,ho,rfl,⟨C,L⟩,k,hk,q,hq,hm⟩
  obtain ⟨Y,AB,hp⟩:=(ef p).1 hp
  simp only [fwd,bS] at AB
  subst AB
  obtain ⟨rs,fs,K,D,rfl⟩:=(jZ _ _ _ _).1 hp
  obtain ⟨ss,gs,AA,E,rfl⟩:=(jZ _ _ _ _).1 hq
  simp only at C L D E hm
  obtain ⟨gs',J⟩:=BU (b+1) t (max (fU w.Start fs+bR w b) o.2.Lo) ss gs C E
  have H:=j8 _ _ _ _ D
  have T:=j8 _ _ _ _ J
  have hc:j0 w 0 w.Start (rs++o.1::ss) (fs++max (fU w.Start fs+bR w b) o.2.Lo::gs'):=(rj _ _ _ _ _ _ H).2 ⟨D,by rw [Nat.zero_add,K]; exact ⟨⟨o,ho,rfl,I,rfl⟩,J⟩⟩
  have he:=qP h (b+1) t ss gs I I E
  have A:=sX (hi:=hi) (least:=least) (now:=now) 0 rs o.1 ss
  rw [Nat.zero_add,K] at A
  refine ⟨⟨rs++o.1::ss,fs++max (fU w.Start fs+bR w b) o.2.Lo::gs',(gv hi least now 0 (rs++o.1::ss)).1⟩,⟨hc,by simp; omega,U,?_⟩,max (fU w.Start fs+bR w b) o.2.Lo,_,?_,?_,A,C,?_⟩
  ·show kq w (cW (rs++o.1::ss))=true
   rw [show rs++o.1::ss=(rs++[o.1])++ss by simp,rh,jP]
   rwa [pq] at hm
  ·show (rs++o.1::ss)[b]? =some o.1
   rw [List.getElem?_append_right I,K,Nat.sub_self]; rfl
  ·show (fs++_::gs')[b]? =_
   rw [List.getElem?_append_right I,H,K,Nat.sub_self]; rfl
  ·split
   ·rename_i q
    have:=h.hi b o hb ho q
    omega
   ·exact he
 ·rintro ⟨y,hy,f,e,C,L,P,Q,V⟩
  obtain ⟨R,F,La⟩:=y
  obtain ⟨hc,hn,A,hm⟩:=hy
  simp only at C L P hc hn A hm
  have N:=(List.getElem?_eq_some_iff.1 C).1
  have S:=j8 _ _ _ _ hc
  have eR:R=R.take b++s::R.drop (b+1):=by rw [← (List.getElem?_eq_some_iff.1 C).2]; exact (List.take_append_drop b R).symm.trans (by rw [List.drop_eq_getElem_cons N])
  have M:b<F.length:=by omega
  have eF:F=F.take b++f::F.drop (b+1):=by rw [← (List.getElem?_eq_some_iff.1 L).2]; exact (List.take_append_drop b F).symm.trans (by rw [List.drop_eq_getElem_cons M])
  rw [eR,eF,rj _ _ _ _ _ _ (by simp only [List.length_take]; omega)] at hc
  have O:(R.take b).length=b:=by rw [List.length_take]; omega
  rw [O,Nat.zero_add] at hc
  obtain ⟨D,⟨o,ho,rfl,W,rfl⟩,E⟩:=hc
  have B:=sX (hi:=hi) (least:=least) (now:=now) 0 (R.take b) o.1 (R.drop (b+1))
  rw [← eR,O,Nat.zero_add,← A,P] at B
  have B:=Option.some.inj B
  have G:t≤(gv hi least now (b+1) (R.drop (b+1))).2∧t≤min o.2.Hi w.fZ:=by
   have X:=xP h (b+1) (R.drop (b+1)) (by rw [List.length_drop]; omega)
   split at B
   ·rename_i q
    have:=h.hi b o hb ho q
    omega
   ·rename_i q
    have:=h.none_ b o hb ho q
    omega
  obtain ⟨gs,J⟩:=yd h (b+1) _ t (R.drop (b+1)) (F.drop (b+1)) (by rw [List.length_drop]; omega) Q G.1 E
  refine ⟨(dk ⟨0,0⟩ (cW (R.take b)),fU w.Start (F.take b)),(ef _).2 ⟨((⟨0,0⟩:aB),w.Start),List.mem_singleton.2 U,(jZ _ _ _ _).2 ⟨_,_,O,D,U⟩⟩,o,ho,U,⟨Q,G.2⟩,(R.drop (b+1)).length,by rw [List.length_drop]; omega,_,(jZ _ _ _ _).2 ⟨_,gs,U,J,U⟩,?_⟩
  show kq w (dk (dk (dk ⟨0,0⟩ (cW (R.take b))) (fc o.1)) (cW (R.drop (b+1))))=true
  rw [pq,← jP,← rh,show R.take b++[o.1]++R.drop (b+1)=R from by rw [List.append_assoc]; exact eR.symm]
  exact hm
end
noncomputable def Mx (l:a_) (r:cv) (x:Int):Int:=match r.ag[x.toNat]? with
 |some s=>(cz l s).Hi
 |none=>0
theorem DS {l:a_} {r:cv} {x:Int} {s:aK} (h:r.ag[x.toNat]? =some s):Mx l r x=(cz l s).Hi:=by unfold Mx; rw [h]
noncomputable def jk (l:a_) (r:cv) (rs:List Int):List Int:=(gv (Mx l r) (dN l) r.fZ 0 rs).1
noncomputable def oQ (l:a_) (r:cv) (n:Nat) (t i:Int):Option Int:=
 if i<0 then (if t≤r.fZ then some t else none) else match r.ag[i.toNat]? with
  |some s=>if (s.gd=(n:Int)∧(cz l s).Lo≤(cz l s).Hi)∧max t (cz l s).Lo≤min r.fZ (cz l s).Hi then some (max t (cz l s).Lo) else none
  |none=>none
noncomputable def gL (l:a_) (r:cv) (rs fs:List Int):List cZ:=if (r.ag.length:Int)-(cW rs).right≤l.eU then [⟨rs,fs,jk l r rs⟩] else []
noncomputable def g7 (l:a_) (r:cv):Nat→List Int→List Int→List cZ
 |0,rs,fs=>if l.cV<(cW rs).eJ then [] else gL l r rs fs
 |k+1,rs,fs=>if l.cV<(cW rs).eJ then [] else gL l r rs fs++(List.range (r.ag.length+1)).flatMap fun (j:Nat)=>match oQ l r rs.length (fU r.Start fs+dN l rs.length) ((j:Int)-1) with
  |some t=>g7 l r k (rs++[(j:Int)-1]) (fs++[t])
  |none=>[]
noncomputable def DW (l:a_) (r:cv) (k:Nat) (rs fs:List Int) (j:Nat):List cZ:=gL l r rs fs++(List.range j).flatMap fun (j:Nat)=>match oQ l r rs.length (fU r.Start fs+dN l rs.length) ((j:Int)-1) with
 |some t=>g7 l r k (rs++[(j:Int)-1]) (fs++[t])
 |none=>[]
noncomputable def hP (l:a_) (r:cv) (k:Nat) (rs fs:List Int) (j:Nat):List cZ:=(List.range j).flatMap fun (j:Nat)=>match oQ l r rs.length (fU r.Start fs+dN l rs.length) ((j:Int)-1) with
 |some t=>g7 l r k (rs++[(j:Int)-1]) (fs++[t])
 |none=>[]
section
variable {l:a_} {r:cv} {k j:Nat} {rs fs:List Int} {t:Int}
theorem qT:DW l r k rs fs j=gL l r rs fs++hP l r k rs fs j:=rfl
theorem m7 (h:oQ l r rs.length (fU r.Start fs+dN l rs.length) ((j:Int)-1)=some t):hP l r k rs fs (j+1)=hP l r k rs fs j++g7 l r k (rs++[(j:Int)-1]) (fs++[t]):=by
 unfold hP; rw [List.range_succ,List.flatMap_append]; simp [h]
theorem qk (h:oQ l r rs.length (fU r.Start fs+dN l rs.length) ((j:Int)-1)=none):hP l r k rs fs (j+1)=hP l r k rs fs j:=by
 unfold hP; rw [List.range_succ,List.flatMap_append]; simp [h]
theorem ni (h:l.cV<(cW rs).eJ):g7 l r k rs fs=[]:=by cases k<;>exact if_pos h
theorem nB (h: ¬ l.cV<(cW rs).eJ):g7 l r 0 rs fs=gL l r rs fs:=if_neg h
theorem nc (h: ¬ l.cV<(cW rs).eJ):g7 l r (k+1) rs fs=DW l r k rs fs (r.ag.length+1):=if_neg h
theorem CE {n:Nat} (hn:n<l.ae.length) (hl:0≤dN l n) (ht:r.Start≤t) {i y:Int} (hi: -1≤i):oQ l r n (t+dN l n) i=some y↔ ∃ o∈il (cj l r) n,o.1=i∧max (t+bR (cj l r) n) o.2.Lo≤min o.2.Hi (cj l r).fZ∧y=max (t+bR (cj l r) n) o.2.Lo:=by
 rw [pk hn]
 have hw:(cj l r).fZ=r.fZ:=rfl
 unfold oQ
 constructor
 ·intro h
  split at h
  ·rename_i B
   split at h
   ·cases h
    exact ⟨(-1,⟨r.Start,r.fZ⟩),(qM hn).2 (.inl U),by simp only; omega,by simp only; omega,by simp only; omega⟩
   ·cases h
  ·rename_i B
   split at h
   ·rename_i s hs
    split at h
    ·rename_i q
     cases h
     exact ⟨((i.toNat:Nat),cz l s),(qM hn).2 (.inr ⟨i.toNat,(List.getElem?_eq_some_iff.1 hs).1,s,hs,q.1,U⟩),by simp only; omega,by simp only; omega,U⟩
    ·cases h
   ·cases h
 ·rintro ⟨o,ho,rfl,A,rfl⟩
  rcases (qM hn).1 ho with rfl|⟨k,hk,s,hs,q,rfl⟩
  ·simp only at A ⊢
   rw [if_pos I,if_pos I]
   congr 1; omega
  ·simp only at A ⊢
   rw [if_neg I,Int.toNat_natCast,hs]
   simp only
   rw [if_pos ⟨q,I⟩]
theorem KQ (hl: ∀ n,n<l.ae.length→0≤dN l n): ∀ (k:Nat) (rs fs:List Int) (y:cZ),rs.length+k=l.ae.length→fs.length=rs.length→r.Start≤fU r.Start fs→
 (y∈g7 l r k rs fs↔ ∃ ss gs,j0 (cj l r) rs.length (fU r.Start fs) ss gs∧ss.length≤k∧y=⟨rs++ss,fs++gs,jk l r (rs++ss)⟩∧kq (cj l r) (cW (rs++ss))=true):=by
 have D: ∀ (rs fs:List Int) (y:cZ),¬ l.cV<(cW rs).eJ→(y∈gL l r rs fs↔y=⟨rs++[],fs++[],jk l r (rs++[])⟩∧kq (cj l r) (cW (rs++[]))=true):=by
  intro rs fs y hm
  unfold gL
  rw [List.append_nil,List.append_nil]
  have e:kq (cj l r) (cW rs)=true↔(r.ag.length:Int)-(cW rs).right≤l.eU:=by
   unfold kq
   rw [decide_eq_true_eq]
   exact ⟨fun q=>q.2,fun q=>⟨by have:(cj l r).cV=l.cV:=rfl; omega,q⟩⟩
  split
  ·rename_i q
   rw [bS]
   exact ⟨fun h=>⟨h,e.2 q⟩,fun h=>h.1⟩
  ·rename_i q
   exact ⟨fun h=>(by cases h),fun h=>absurd (e.1 h.2) q⟩
 have IS: ∀ (rs ss:List Int),l.cV<(cW rs).eJ→ ¬ kq (cj l r) (cW (rs++ss))=true:=by
  intro rs ss h q
  unfold kq at q
  have:=(of_decide_eq_true q).1
  rw [rh] at this
  have C:=tT ss
  simp only [dk] at this
  have:(cj l r).cV=l.cV:=rfl
  omega
 intro k
 induction k with
 |zero=>
  intro rs fs y hn hf hs
  by_cases hm:l.cV<(cW rs).eJ
  ·rw [ni hm]
   exact ⟨fun h=>(by cases h),fun ⟨ss,gs,_,_,_,q⟩=>absurd q (IS rs ss hm)⟩
  ·rw [nB hm,D _ _ _ hm]
   constructor
   ·rintro ⟨B,C⟩; exact ⟨[],[],trivial,sm,B,C⟩
   ·rintro ⟨ss,gs,B,C,E,F⟩
    have e:=jC (Nat.le_zero.1 C)
    subst e
    have e:=jC (j8 _ _ _ _ B)
    subst e
    exact ⟨E,F⟩
 |succ k ih=>
  intro rs fs y hn hf hs
  by_cases hm:l.cV<(cW rs).eJ
  ·rw [ni hm]
   exact ⟨fun h=>(by cases h),fun ⟨ss,gs,_,_,_,q⟩=>absurd q (IS rs ss hm)⟩
  ·rw [nc hm]
   unfold DW
   rw [kB,D _ _ _ hm,List.mem_flatMap]
   have A: ∀ (x y:Int),(rs++[x]).length+k=l.ae.length∧(fs++[y]).length=(rs++[x]).length:=fun x y=>by simp; omega
   constructor
   ·rintro (⟨B,C⟩|⟨j,hj,h⟩)
    ·exact ⟨[],[],trivial,sm,B,C⟩
    ·cases e:oQ l r rs.length (fU r.Start fs+dN l rs.length) ((j:Int)-1) with
     |none=>rw [e] at h; cases h
     |some t=>
      rw [e] at h
      simp only at h
      obtain ⟨o,ho,B,C,E⟩:=(CE I (hl _ I) hs I).1 e
      have G:r.Start≤t:=by
       have:=hl rs.length I
       rw [pk I] at E
       omega
      obtain ⟨ss,gs,F,J,H,AA⟩:=(ih _ _ y (A _ t).1 (A _ t).2 (by rw [m0]; exact G)).1 h
      rw [m0,List.length_append] at F
      refine ⟨((j:Int)-1)::ss,t::gs,⟨⟨o,ho,B,C,E⟩,F⟩,by simp; omega,by simpa using H,by simpa using AA⟩
   ·rintro ⟨ss,gs,B,C,E,F⟩
    cases ss with
    |nil=>
     have e:=jC (j8 _ _ _ _ B)
     subst e
     exact .inl ⟨E,F⟩
    |cons x ss=>
     cases gs with
     |nil=>exact B.elim
     |cons t gs=>
      obtain ⟨⟨o,ho,rfl,J,H⟩,AA⟩:=B
      right
      have hx: -1≤o.1∧o.1<(r.ag.length:Int):=by
       rcases (qM I).1 ho with rfl|⟨k,hk,s,hs,q,rfl⟩
       ·simp only; omega
       ·simp only; omega
      have G:r.Start≤t:=by
       have:=hl rs.length I
       rw [pk I] at H
       omega
      have K:((o.1+1).toNat:Int)-1=o.1:=by omega
      refine ⟨(o.1+1).toNat,List.mem_range.2 I,?_⟩
      rw [K,(CE I (hl _ I) hs I).2 ⟨o,ho,rfl,J,H⟩]
      simp only
      refine (ih _ _ y (A _ t).1 (A _ t).2 (by rw [m0]; exact G)).2 ⟨ss,gs,?_,?_,?_,?_⟩
      ·rw [m0,List.length_append]; exact AA
      ·simp only [List.length_cons] at C; omega
      ·simpa using E
      ·simpa using F
end
theorem yS {l:a_} {r:cv} {rs fs:List Int} (h:(r.ag.length:Int)-(cW rs).right≤l.eU):gL l r rs fs=[⟨rs,fs,jk l r rs⟩]:=if_pos h
theorem xj {l:a_} {r:cv} {rs fs:List Int} (h: ¬ (r.ag.length:Int)-(cW rs).right≤l.eU):gL l r rs fs=[]:=if_neg h
noncomputable def eK (l:a_) (r:cv) (i:Nat):List aa:=(r.ag.take i).map (cz l)
noncomputable def e8 (l:a_) (r:cv) (i:Nat):List Bool:=(r.ag.take i).map fun s=>decide ((cz l s).Lo≤(cz l s).Hi)
section
variable {l:a_} {r:cv} {i n:Nat} {s:aK} {rs:List Int}
theorem DO (h:r.ag[i]? =some s):eK l r (i+1)=eK l r i++[cz l s]:=by unfold eK; rw [List.take_add_one,h,List.map_append]; rfl
theorem D9 (h:r.ag[i]? =some s):e8 l r (i+1)=e8 l r i++[decide ((cz l s).Lo≤(cz l s).Hi)]:=by unfold e8; rw [List.take_add_one,h,List.map_append]; rfl
theorem rn (h:i≤r.ag.length):(eK l r i).length=i:=by unfold eK; rw [List.length_map,List.length_take]; omega
theorem uQ (h:i≤r.ag.length):(e8 l r i).length=i:=by unfold e8; rw [List.length_map,List.length_take]; omega
theorem IL {k:Nat} {z:aa} (hs:r.ag[k]? =some s) (hz:(eK l r r.ag.length)[k]? =some z):z=cz l s:=by
 unfold eK at hz
 rw [List.take_length,fq,hs] at hz
 exact (Option.some.inj hz).symm
theorem Kg {k:Nat} {z:aa} (hz:(eK l r r.ag.length)[k]? =some z): ∃ s,r.ag[k]? =some s∧z=cz l s:=by
 unfold eK at hz
 rw [List.take_length,fq] at hz
 cases h:r.ag[k]? with
 |none=>rw [h] at hz; cases hz
 |some s=>rw [h] at hz; exact ⟨s,rfl,(Option.some.inj hz).symm⟩
theorem Dc {k:Nat} {z:Bool} (hs:r.ag[k]? =some s) (hz:(e8 l r r.ag.length)[k]? =some z):z=true↔(cz l s).Lo≤(cz l s).Hi:=by
 unfold e8 at hz
 rw [List.take_length,fq,hs] at hz
 rw [← Option.some.inj hz]
 exact decide_eq_true_iff
theorem xQ (l:a_) (s:aK):(0≤(cz l s).Lo∧(cz l s).Lo≤86400001)∧ -1≤(cz l s).Hi∧(cz l s).Hi≤86400000:=by
 have A:=hU (p:=fX (pK l s) s.Read) (n:=86400001)
 have B:=hU (p:=fW (pK l s) s.Read) (n:=86400001)
 unfold cz qv
 simp only
 omega
/-- the last times from a beam on -/
noncomputable def jx (l:a_) (r:cv) (rs:List Int) (j:Nat):List Int×Int:=gv (Mx l r) (dN l) r.fZ j (rs.drop j)
noncomputable def jD (l:a_) (r:cv) (rs:List Int) (j:Nat):List Int:=List.replicate j 0++(jx l r rs j).1
noncomputable def tP (l:a_) (r:cv) (rs:List Int) (j:Nat) (x:Int):Int:=if 0≤x then min (jx l r rs j).2 (Mx l r x) else (jx l r rs j).2
theorem uk:jx l r rs rs.length=([],r.fZ):=by unfold jx; rw [List.drop_length]; rfl
theorem Hz:jD l r rs rs.length=List.replicate rs.length 0:=by unfold jD; rw [uk]; simp
theorem Ec:jD l r rs 0=jk l r rs:=by unfold jD jx jk; simp
theorem pH {j:Nat} {x:Int} (hj:0<j) (hx:rs[j-1]? =some x):jx l r rs (j-1)=(tP l r rs j x::(jx l r rs j).1,tP l r rs j x-dN l (j-1)):=by
 unfold jx tP
 have hb:=(List.getElem?_eq_some_iff.1 hx).1
 rw [List.drop_eq_getElem_cons hb,(List.getElem?_eq_some_iff.1 hx).2,show j-1+1=j by omega]
 simp only [gv]
 rw [show j-1+1=j by omega]
 rfl
theorem HA {j:Nat} (h:j≤rs.length):(jD l r rs j).length=rs.length:=by unfold jD jx; rw [List.length_append,List.length_replicate,qU,List.length_drop]; omega
theorem yU {j:Nat} {x:Int} (hj:0<j) (hx:rs[j-1]? =some x):(jD l r rs j).set (j-1) (tP l r rs j x)=jD l r rs (j-1):=by
 unfold jD
 rw [pH hj hx]
 simp only
 obtain ⟨k,rfl⟩: ∃ k,j=k+1:=⟨j-1,I⟩
 rw [Nat.add_sub_cancel,List.replicate_succ',List.append_assoc,List.set_append_right _ _ sm,List.length_replicate,Nat.sub_self]
 rfl
theorem Fy (hr:0≤r.fZ∧r.fZ≤86400000) (hl: ∀ b,b<rs.length→0≤dN l b∧dN l b≤500000000) (hrs: ∀ x∈rs,0≤x→x<(r.ag.length:Int)): ∀ (d j:Nat),j+d=rs.length→(-1-500000000*(d:Int))≤(jx l r rs j).2∧(jx l r rs j).2≤86400000
 |0,j,h=>by
  obtain rfl:j=rs.length:=by omega
  rw [uk]; simp only; omega
 |d+1,j,h=>by
  have ih:=Fy hr hl hrs d (j+1) I
  have hx:rs[j+1-1]? =some (rs[j]'I):=by rw [Nat.add_sub_cancel]; exact eE _
  have e:=pH (l:=l) (r:=r) (j:=j+1) I hx
  rw [Nat.add_sub_cancel] at e
  rw [e]
  simp only
  have A:=hl j I
  unfold tP
  split
  ·rename_i q
   have B:=hrs _ (List.getElem_mem (by omega:j<rs.length)) q
   obtain ⟨s,hs⟩: ∃ s,r.ag[(rs[j]'I).toNat]? =some s:=⟨r.ag[(rs[j]'I).toNat]'I,eE _⟩
   rw [DS hs]
   have C:=xQ l s
   omega
  ·omega
theorem LO {t i:Int} (hi:i<0):(t≤r.fZ→oQ l r n t i=some t)∧(¬ t≤r.fZ→oQ l r n t i=none):=by
 unfold oQ; rw [if_pos hi]; exact ⟨fun h=>if_pos h,fun h=>if_neg h⟩
theorem KD {t i:Int} (hi: ¬ i<0) (hs:r.ag[i.toNat]? =some s) (hb:s.gd=(n:Int)) (hw:(cz l s).Lo≤(cz l s).Hi):(max t (cz l s).Lo≤min r.fZ (cz l s).Hi→oQ l r n t i=some (max t (cz l s).Lo))∧(¬ max t (cz l s).Lo≤min r.fZ (cz l s).Hi→oQ l r n t i=none):=by
 unfold oQ; rw [if_neg hi,hs]
 exact ⟨fun h=>if_pos ⟨⟨hb,hw⟩,h⟩,fun h=>if_neg fun q=>h q.2⟩
theorem xO {t i:Int} (hi: ¬ i<0) (hs:r.ag[i.toNat]? =some s) (hb: ¬ (s.gd=(n:Int)∧(cz l s).Lo≤(cz l s).Hi)):oQ l r n t i=none:=by
 unfold oQ; rw [if_neg hi,hs]
 exact if_neg fun q=>hb q.1
theorem tR {x:Int} (hx:rs[i]? =some x):(cW (rs.take (i+1))).right=(cW (rs.take i)).right+(if 0≤x then 1 else 0):=by
 rw [lz hx,jP]
 unfold fc
 simp only [dk]
 by_cases h:x<0
 ·rw [if_pos h,if_neg I]
 ·rw [if_neg h,if_pos I]
end
theorem xL {l:a_} {r:cv} {rs fs:List Int}:(gL l r rs fs).length≤1:=by unfold gL; split<;>simp
theorem xN {l:a_} {r:cv} (hr:r.ag.length≤10): ∀ (k:Nat) (rs fs:List Int),(g7 l r k rs fs).length≤12^(k+1)
 |0,rs,fs=>by
  unfold g7
  split
  ·simp
  ·have:=xL (l:=l) (r:=r) (rs:=rs) (fs:=fs); omega
 |k+1,rs,fs=>by
  unfold g7
  split
  ·simp
  ·rw [List.length_append]
   have B:=xL (l:=l) (r:=r) (rs:=rs) (fs:=fs)
   have A: ∀ j,(hP l r k rs fs j).length≤j*12^(k+1):=by
    intro j
    induction j with
    |zero=>simp [hP]
    |succ j ih=>
     cases e:oQ l r rs.length (fU r.Start fs+dN l rs.length) ((j:Int)-1) with
     |none=>rw [qk e,Nat.succ_mul]; exact Nat.le_trans ih (Nat.le_add_right _ _)
     |some t=>rw [m7 e,List.length_append,Nat.succ_mul]; exact Nat.add_le_add ih (xN hr k (rs++[(j:Int)-1]) (fs++[t]))
   have C:=A (r.ag.length+1)
   have D:(r.ag.length+1)*12^(k+1)≤11*12^(k+1):=Nat.mul_le_mul_right _ I
   have E:0<12^(k+1):=Nat.pow_pos dc
   have F:12^(k+1+1)=12*12^(k+1):=by rw [Nat.pow_succ,Nat.mul_comm]
   show (gL l r rs fs).length+(hP l r k rs fs (r.ag.length+1)).length≤_
   omega
theorem Kt {l:a_} {r:cv} (hr:r.ag.length≤10) {k j:Nat} {rs fs:List Int} (hk:k≤5) (hj:j≤11):(hP l r k rs fs j).length≤40000000:=by
 have A: ∀ j,(hP l r k rs fs j).length≤j*12^(k+1):=by
  intro j
  induction j with
  |zero=>simp [hP]
  |succ j ih=>
   cases e:oQ l r rs.length (fU r.Start fs+dN l rs.length) ((j:Int)-1) with
   |none=>rw [qk e,Nat.succ_mul]; exact Nat.le_trans ih (Nat.le_add_right _ _)
   |some t=>rw [m7 e,List.length_append,Nat.succ_mul]; exact Nat.add_le_add ih (xN hr k (rs++[(j:Int)-1]) (fs++[t]))
 have C:=A j
 have B:12^(k+1)≤12^6:=Nat.pow_le_pow_right dc I
 have D:j*12^(k+1)≤11*12^6:=Nat.mul_le_mul hj B
 omega
theorem uh {l:a_} {r:cv} (hr:r.ag.length≤10) {k:Nat} {rs fs:List Int} (hk:k≤6):(g7 l r k rs fs).length≤40000000:=by
 have A:=xN hr k rs fs (l:=l)
 have B:12^(k+1)≤12^7:=Nat.pow_le_pow_right dc I
 omega
noncomputable def pY (l:a_) (r:cv):List cZ:=g7 l r l.ae.length [] []
section
variable {l:a_} {r:cv}
theorem l0:(cj l r).n=l.ae.length:=dU
theorem OK (hle:dq l=0) (hr:e7 l r):KL (cj l r) (Mx l r) (dN l) r.fZ:=by
 obtain ⟨ht,B⟩:=gF hle
 refine ⟨fun b=>((o6 ht B hr).bR b).1,fun b hb=>(pk (by rw [l0] at hb; exact hb)).symm,U,fun b o hb ho A=>?_,fun b o hb ho A=>?_⟩
 ·rw [l0] at hb
  rcases (qM hb).1 ho with rfl|⟨k,hk,s,hs,q,rfl⟩
  ·simp only at A; omega
  ·exact (DS (by simpa using hs)).symm
 ·rw [l0] at hb
  rcases (qM hb).1 ho with rfl|⟨k,hk,s,hs,q,rfl⟩
  ·rfl
  ·simp only at A; omega
theorem pI (hle:dq l=0) (hr:e7 l r) {y:cZ}:y∈pY l r↔Pa (cj l r) (Mx l r) (dN l) r.fZ y:=by
 obtain ⟨ht,D⟩:=gF hle
 have hl: ∀ n,n<l.ae.length→0≤dN l n:=fun n hn=>by have:=m6 ht D (i:=n) hn; omega
 unfold pY
 rw [KQ hl _ _ _ _ sm rfl (Int.le_refl _)]
 constructor
 ·rintro ⟨ss,gs,B,A,rfl,C⟩
  exact ⟨B,by rw [l0]; exact A,U,C⟩
 ·rintro ⟨B,A,E,C⟩
  rw [l0] at A
  exact ⟨y.gl,y.iz,B,A,by rw [List.nil_append,List.nil_append]; unfold jk; rw [← E],C⟩
theorem I1 (hle:dq l=0) (hr:e7 l r) {k:Nat} (hk:k≤l.ae.length):((pY l r).any fun y=>decide (y.gl.length=k))=jg (cj l r) (fwd (cj l r) k):=by
 rw [Bool.eq_iff_iff,CW,List.any_eq_true]
 constructor
 ·rintro ⟨y,hy,e⟩
  have h:=(pI hle hr).1 hy
  exact ⟨y.gl,y.iz,of_decide_eq_true e,h.chain,h.may⟩
 ·rintro ⟨rs,fs,e,A,B⟩
  exact ⟨⟨rs,fs,(gv (Mx l r) (dN l) r.fZ 0 rs).1⟩,(pI hle hr).2 ⟨A,by rw [l0]; simp only; omega,U,B⟩,fI e⟩
theorem fE (hle:dq l=0) (hr:e7 l r):pY l r=[]↔jz (cj l r)=[]:=by
 constructor
 ·intro h
  apply List.eq_nil_iff_forall_not_mem.2
  intro x hx
  obtain ⟨k,rfl,hk,hm⟩:=oY.1 hx
  rw [l0] at hk
  rw [← I1 hle hr hk,h] at hm
  cases hm
 ·intro h
  apply List.eq_nil_iff_forall_not_mem.2
  intro y hy
  have hw:=(pI hle hr).1 hy
  have:(y.gl.length:Int)∈jz (cj l r):=oY.2 ⟨y.gl.length,rfl,hw.len,CW.2 ⟨_,_,rfl,hw.chain,hw.may⟩⟩
  rw [h] at this; cases this
/-- the times at a beam, by all ways -/
def iK (b:Nat) (ws:List cZ):List (Int×aa):=ws.filterMap fun y=>match y.gl[b]?,y.iz[b]?,y.lK[b]? with
 |some s,some f,some e=>some (s,⟨f,e⟩)
 |_,_,_=>none
theorem nO {b:Nat} {ws:List cZ} {q:Int×aa}:q∈iK b ws↔ ∃ y∈ws,y.gl[b]? =some q.1∧y.iz[b]? =some q.2.Lo∧y.lK[b]? =some q.2.Hi:=by
 unfold iK
 rw [List.mem_filterMap]
 constructor
 ·rintro ⟨y,hy,h⟩
  cases e1:y.gl[b]? with
  |none=>rw [e1] at h; cases h
  |some s=>
   cases e2:y.iz[b]? with
   |none=>rw [e1,e2] at h; cases h
   |some f=>
    cases e3:y.lK[b]? with
    |none=>rw [e1,e2,e3] at h; cases h
    |some e=>
     rw [e1,e2,e3] at h; cases h
     exact ⟨y,hy,e1,e2,e3⟩
 ·rintro ⟨y,hy,A,B,C⟩
  exact ⟨y,hy,by rw [A,B,C]⟩
theorem xZ {b:Nat} {ws:List cZ} {y:cZ} (h:y.gl.length≤b):iK b (ws++[y])=iK b ws:=by
 unfold iK; rw [List.filterMap_append]; simp [List.getElem?_eq_none h]
theorem pM {b:Nat} {ws:List cZ} {y:cZ} {s f e:Int} (h1:y.gl[b]? =some s) (h2:y.iz[b]? =some f) (h3:y.lK[b]? =some e):iK b (ws++[y])=iK b ws++[(s,⟨f,e⟩)]:=by
 unfold iK; rw [List.filterMap_append]; simp [h1,h2,h3]
theorem IK (hle:dq l=0) (hr:e7 l r) {y:cZ} (hy:y∈pY l r):y.iz.length=y.gl.length∧y.lK.length=y.gl.length∧y.gl.length≤l.ae.length:=by
 have h:=(pI hle hr).1 hy
 exact ⟨j8 _ _ _ _ h.chain,by rw [h.last,qU],by have:=h.len; rwa [l0] at this⟩
theorem tW (hle:dq l=0) (hr:e7 l r) {b:Nat} (hb:b<l.ae.length) {s t:Int}:(∃ q∈l_ (cj l r) b,q.1=s∧q.2.Lo≤t∧t≤q.2.Hi)↔ ∃ q∈iK b (pY l r),q.1=s∧q.2.Lo≤t∧t≤q.2.Hi:=by
 have hh:=OK hle hr
 rw [AJ hh.low (by rw [l0]; exact hb),Ih hh hr.time.2.1 (by rw [l0]; exact hb)]
 constructor
 ·rintro ⟨y,hy,f,e,A,B,C,D,E⟩
  exact ⟨(s,⟨f,e⟩),nO.2 ⟨y,(pI hle hr).2 hy,A,B,C⟩,U,D,E⟩
 ·rintro ⟨q,hq,rfl,D,E⟩
  obtain ⟨y,hy,A,B,C⟩:=nO.1 hq
  exact ⟨y,(pI hle hr).1 hy,_,_,A,B,C,D,E⟩
/-- a way's span is none that is empty -/
theorem xH (hle:dq l=0) (hr:e7 l r) {b:Nat} {q:Int×aa} (hq:q∈iK b (pY l r)):q.2.Lo≤q.2.Hi:=by
 have hh:=OK hle hr
 obtain ⟨y,hy,C,D,H⟩:=nO.1 hq
 obtain ⟨hc,hn,B,hm⟩:=(pI hle hr).1 hy
 obtain ⟨R,F,La⟩:=y
 simp only at C D H hc hn B
 have G:=(List.getElem?_eq_some_iff.1 C).1
 have E:=(List.getElem?_eq_some_iff.1 D).1
 have L:=j8 _ _ _ _ hc
 have eR:R=R.take b++q.1::R.drop (b+1):=by rw [← (List.getElem?_eq_some_iff.1 C).2]; exact (List.take_append_drop b R).symm.trans (by rw [List.drop_eq_getElem_cons G])
 have eF:F=F.take b++q.2.Lo::F.drop (b+1):=by rw [← (List.getElem?_eq_some_iff.1 D).2]; exact (List.take_append_drop b F).symm.trans (by rw [List.drop_eq_getElem_cons E])
 rw [eR,eF,rj _ _ _ _ _ _ (by simp only [List.length_take]; omega)] at hc
 have AA:(R.take b).length=b:=by rw [List.length_take]; omega
 rw [AA,Nat.zero_add] at hc
 obtain ⟨M,⟨o,ho,K,N,O⟩,J⟩:=hc
 have A:=sX (hi:=Mx l r) (least:=dN l) (now:=r.fZ) 0 (R.take b) q.1 (R.drop (b+1))
 rw [← eR,AA,Nat.zero_add,← B,H] at A
 have A:=Option.some.inj A
 have he:=qP hh (b+1) q.2.Lo (R.drop (b+1)) (F.drop (b+1)) (by rw [List.length_drop]; omega) I J
 rw [← K] at A
 split at A
 ·rename_i z
  have:=hh.hi b o I ho z
  omega
 ·omega
theorem BD {a b:List (Int×aa)} {h k:aa} (ha:kg a h) (hb:kg b k) (hab: ∀ x∈b,(∃ y∈a,y.2.Lo≤x.2.Lo)∧ ∃ y∈a,x.2.Hi≤y.2.Hi) (hba: ∀ x∈a,(∃ y∈b,y.2.Lo≤x.2.Lo)∧ ∃ y∈b,x.2.Hi≤y.2.Hi):h=k:=by
 rcases ha with ⟨rfl,rfl⟩|ha
 ·rcases hb with ⟨rfl,rfl⟩|hb
  ·rfl
  ·obtain ⟨x,hx,_⟩:=hb.lo
   obtain ⟨⟨y,hy,_⟩,_⟩:=hab x hx
   cases hy
 ·rcases hb with ⟨rfl,rfl⟩|hb
  ·obtain ⟨x,hx,_⟩:=ha.lo
   obtain ⟨⟨y,hy,_⟩,_⟩:=hba x hx
   cases hy
  ·obtain ⟨M,E,AA⟩:=ha.lo
   obtain ⟨N,F,V⟩:=ha.hi
   obtain ⟨O,G,W⟩:=hb.lo
   obtain ⟨P,H,X⟩:=hb.hi
   obtain ⟨⟨AB,A,Y⟩,_⟩:=hba M E
   obtain ⟨_,J,B,Z⟩:=hba N F
   obtain ⟨⟨K,C,c⟩,_⟩:=hab O G
   obtain ⟨_,L,D,d⟩:=hab P H
   have Q:=hb.all AB A
   have R:=hb.all J B
   have S:=ha.all K C
   have T:=ha.all L D
   apply aa.ext
   ·omega
   ·omega
theorem Jb (hle:dq l=0) (hr:e7 l r) {b:Nat} (hb:b<l.ae.length) {h:aa} (hh:kg (iK b (pY l r)) h):h=my l r b:=by
 have hk:=ug (l:=l_ (cj l r) b) (fun q hq=>mW hq)
 refine BD hh hk (fun x hx=>?_) (fun x hx=>?_)
 ·have hle':=mW hx
  obtain ⟨y,hy,_,A,C⟩:=(tW hle hr hb (s:=x.1) (t:=x.2.Lo)).1 ⟨x,hx,rfl,Int.le_refl _,hle'⟩
  obtain ⟨z,hz,_,D,B⟩:=(tW hle hr hb (s:=x.1) (t:=x.2.Hi)).1 ⟨x,hx,rfl,hle',Int.le_refl _⟩
  exact ⟨⟨y,hy,A⟩,z,hz,B⟩
 ·have hle':=xH hle hr hx
  obtain ⟨y,hy,_,A,C⟩:=(tW hle hr hb (s:=x.1) (t:=x.2.Lo)).2 ⟨x,hx,rfl,Int.le_refl _,hle'⟩
  obtain ⟨z,hz,_,D,B⟩:=(tW hle hr hb (s:=x.1) (t:=x.2.Hi)).2 ⟨x,hx,rfl,hle',Int.le_refl _⟩
  exact ⟨⟨y,hy,A⟩,z,hz,B⟩
end
def pt (ws:List cZ) (b:Nat):Int:=if ve (iK b ws)=mh then 6 else 0
def pC (ws:List cZ) (b:Nat):aa:=if ve (iK b ws)=mh then ⟨0,0⟩ else ve (iK b ws)
theorem Oa {l:List (Int×aa)} {h:aa} (hh:kg l h) (hl: ∀ q∈l,q.2.Lo≤q.2.Hi):ve l=h:=
 BD (ug hl) hh (fun x hx=>⟨⟨x,hx,Int.le_refl _⟩,x,hx,Int.le_refl _⟩) (fun x hx=>⟨⟨x,hx,Int.le_refl _⟩,x,hx,Int.le_refl _⟩)
theorem Es {ws:List cZ} {b:Nat} (h:iK b ws=[]):pt ws b=6∧pC ws b=⟨0,0⟩:=by
 unfold pt pC; rw [h]; exact ⟨if_pos rfl,if_pos rfl⟩
theorem Ek {ws:List cZ} {b:Nat} {o:aa} (hl: ∀ q∈iK b ws,q.2.Lo≤q.2.Hi) (h:ox (iK b ws) o):pt ws b=0∧pC ws b=o:=by
 have e:=Oa (.inr h) hl
 unfold pt pC; rw [e]; exact ⟨if_neg h.ne,if_neg h.ne⟩
/-- what was found until now -/
def nk (b:Nat) (ws:List cZ) (fd:Bool) (o:aa):Prop:=(fd=false∧iK b ws=[])∨(fd=true∧ox (iK b ws) o)
theorem Hl {b:Nat} {o:aa}:nk b [] false o:= .inl ⟨rfl,rfl⟩
theorem Bq {q:Int×aa} (hq:q.2.Lo≤q.2.Hi):ox [q] q.2:=⟨hq,⟨q,sm,rfl⟩,⟨q,sm,rfl⟩,fun x hx=>by simp at hx; subst hx; exact ⟨Int.le_refl _,Int.le_refl _⟩⟩
theorem AB {l:List (Int×aa)} {h:aa} {q:Int×aa} (hh:ox l h) (hq:q.2.Lo≤q.2.Hi):ox (l++[q]) ⟨min q.2.Lo h.Lo,max q.2.Hi h.Hi⟩:=by
 have:=uH (.inr hh) hq
 unfold l8 at this
 rw [if_neg hh.ne] at this
 rcases this with ⟨e,_⟩|this
 ·simp at e
 ·exact this
theorem Ee {b:Nat} {ws:List cZ} {fd:Bool} {o:aa} {y:cZ} (h:nk b ws fd o) (hy:y.gl.length≤b):nk b (ws++[y]) fd o:=by
 unfold nk; rw [xZ hy]; exact h
theorem Bk {b:Nat} {ws:List cZ} {fd:Bool} {o:aa} {y:cZ} {s f e:Int} (h:nk b ws fd o) (hf:fd=false) (h1:y.gl[b]? =some s) (h2:y.iz[b]? =some f) (h3:y.lK[b]? =some e) (hle:f≤e):nk b (ws++[y]) true ⟨f,e⟩:=by
 rcases h with ⟨_,q⟩|⟨q,_⟩
 ·right
  rw [pM h1 h2 h3,q]
  exact ⟨U,Bq hle⟩
 ·rw [q] at hf; cases hf
theorem DD {b:Nat} {ws:List cZ} {fd:Bool} {o:aa} {y:cZ} {s f e:Int} (h:nk b ws fd o) (hf:fd=true) (h1:y.gl[b]? =some s) (h2:y.iz[b]? =some f) (h3:y.lK[b]? =some e) (hle:f≤e):nk b (ws++[y]) true ⟨min f o.Lo,max e o.Hi⟩:=by
 rcases h with ⟨q,_⟩|⟨_,q⟩
 ·rw [q] at hf; cases hf
 ·right
  rw [pM h1 h2 h3]
  exact ⟨U,AB q hle⟩
theorem zb {b:Nat} {ws:List cZ} {fd:Bool} {o:aa} (h:nk b ws fd o) (hl: ∀ q∈iK b ws,q.2.Lo≤q.2.Hi):(fd=false→pt ws b=6∧pC ws b=⟨0,0⟩)∧(fd=true→pt ws b=0∧pC ws b=o):=by
 rcases h with ⟨q,h⟩|⟨q,h⟩
 ·exact ⟨fun _=>Es h,fun e=>(by rw [q] at e; cases e)⟩
 ·exact ⟨fun e=>(by rw [q] at e; cases e),fun _=>Ek hl h⟩
section
variable {l:a_} {r:cv}
theorem JM (he:ew l r 0=0) {b:Nat} (hb:b<l.ae.length):pt (pY l r) b=eL l r b∧pC (pY l r) b=eQ l r b:=by
 obtain ⟨A,hr,_,_⟩:=jL he
 have h:=Jb A hr hb (ug fun q hq=>xH A hr hq)
 have ho:ew l r (jB l b)=0:=by rw [G_ hb]; exact he
 unfold pt pC
 rw [h]
 by_cases e:my l r b=mh
 ·rw [if_pos e,if_pos e,(qm ho e).1,(qm ho e).2]; exact ⟨rfl,rfl⟩
 ·rw [if_neg e,if_neg e,(oa ho e).1,(oa ho e).2]; exact ⟨rfl,rfl⟩
theorem Qq (hle:dq l=0) (hr:e7 l r) {y:cZ} (hy:y∈pY l r) {b:Nat} {f e:Int} (hb:b<y.gl.length) (h2:y.iz[b]? =some f) (h3:y.lK[b]? =some e):f≤e:=
 xH hle hr (q:=(y.gl[b],⟨f,e⟩)) (nO.2 ⟨y,hy,eE _,h2,h3⟩)
theorem Cq:ew l r (jB l l.cH)=ew l r 0:=by
 by_cases h:dq l=0
 ·obtain ⟨_,A⟩:=gF h
  have hh:=A.head
  unfold gp at hh
  rw [xe I]
 ·rw [nX h,nX h]
theorem vu (h: ¬ ew l r 0=0):eL l r l.cH=ew l r 0:=by
 have:=(np (b:=l.cH) (by rw [Cq]; exact h)).1
 rw [this,Cq]
/-- rows of times that are those of ways -/
structure Oy (ws:List cZ):Prop where
 lens: ∀ y∈ws,y.iz.length=y.gl.length∧y.lK.length=y.gl.length∧y.gl.length≤6
 le: ∀ y∈ws,∀ (b:Nat) f e,b<y.gl.length→y.iz[b]? =some f→y.lK[b]? =some e→f≤e
 num:ws.length≤40000000
theorem Oy.Fv {ws:List cZ} (h:Oy ws) {b:Nat}: ∀ q∈iK b ws,q.2.Lo≤q.2.Hi:=fun q hq=>by
 obtain ⟨y,hy,A,B,C⟩:=nO.1 hq
 exact h.le y hy b _ _ (List.getElem?_eq_some_iff.1 A).1 B C
theorem PY (hle:dq l=0) (hr:e7 l r):Oy (pY l r):=by
 obtain ⟨ht,B⟩:=gF hle
 have hh:=B.head
 unfold gp at hh
 refine ⟨fun y hy=>?_,fun y hy b f e hb A C=>Qq hle hr hy hb A C,uh hr.len I⟩
 obtain ⟨D,A,C⟩:=IK hle hr hy
 exact ⟨D,A,I⟩
end
end
section
open Go.RowKit
theorem Dg (l:List cZ) (az:List ki): ∀ v∈(List.zipWith cZ.cells l az).flatten,v.oneCell'=true:=by
 induction l generalizing az with
 |nil=>intro v hv; simp at hv
 |cons x l ih=>
  cases az with
  |nil=>intro v hv; simp at hv
  |cons a az=>
   intro v hv
   simp only [List.zipWith_cons_cons,List.flatten_cons,kB] at hv
   rcases hv with hv|hv
   ·simp only [cZ.cells,xE.cells,d_,List.not_mem_nil,or_false] at hv
    rcases hv with rfl|rfl|rfl<;>rfl
   ·exact ih az v hv
theorem My: ∀ (m:cZ) (a:ki) (w:World),(∀ X∈cZ.owns m a,X.holds w)→ ∀ X∈cZ.gZ m a,X.holds w:=fun m a w h X hX=>by
 simp only [cZ.gZ,d_,List.not_mem_nil,or_false] at hX
 have A:=nq (h (own a.1.1 a.1.2 lG 1 (m.gl.map iC)) (by simp [cZ.owns]))
 have B:=nq (h (own a.2.1.1 a.2.1.2 lG 1 (m.iz.map iC)) (by simp [cZ.owns]))
 have C:=nq (h (own a.2.2.1 a.2.2.2 lG 1 (m.lK.map iC)) (by simp [cZ.owns]))
 rcases hX with rfl|rfl|rfl
 ·simpa using A
 ·simpa using B
 ·simpa using C
theorem pD: ∀ (l:List cZ) (az:List ki),(aV cZ.owns l az).all (·.wr)=true
 |[],_=>rfl
 |_::_,[]=>rfl
 |x::l,a::az=>by
  simp only [aV,List.all_append,cJ]
  exact ⟨U,pD l az⟩
theorem Jx (l:List cZ) (az:List ki):(bw (aV cZ.owns l az)).wr=true:=pD l az
theorem Jo {l m:List cZ} {az bz:List ki} (h:az.length=l.length):List.zipWith cZ.cells (l++m) (az++bz)=List.zipWith cZ.cells l az++List.zipWith cZ.cells m bz:=List.zipWith_append h.symm
theorem sP {l:List cZ} {az:List ki} (h:az.length=l.length):(List.zipWith cZ.cells l az).length=l.length:=by rw [List.length_zipWith]; omega
/-- what is read of a thing that is tied, and frozen -/
theorem pz {C L:List aq} {a:OA} {c e sz n:Nat} {es:List (List Value)} (i:Nat) (hC:C[i]? =some (bw L).ro) (hm:own a c e sz es∈L) (hn:es.length=n):ij C (rd a n sz es).holds:=fun w hw=>by
 subst hn
 exact nq ((show (bw L).holds w from (hw _ (aR hC):(bw L).ro.holds w)).1 _ hm)
section
variable {E:eZ} {ops:Array Oper} {Q:cY} {rest:List Oper} {D:List Deferred} {L:List (Nat×Value)} {C C1:List aq}
theorem St.Pz {S:BS} {w0 w:World} {X C:List aq} {A:aq} (h:St S w0 (bw (X++[A])::C) w):St S w0 (A::bw X::C) w:=by
 have B:=h.ic
 have D:St S w0 (X++(A::C)) w:=by simpa using B
 exact D.tied.perm (List.Perm.swap _ _ _)
theorem St.merge {S:BS} {w0 w:World} {X Y C:List aq} (h:St S w0 (bw X::bw Y::C) w):St S w0 (bw (X++Y)::C) w:=by
 have A:St S w0 (bw Y::(X++C)) w:=(h.ic).perm (List.perm_middle (a:=bw Y) (l₁:=X) (l₂:=C))
 have B:St S w0 (Y++(X++C)) w:=A.ic
 have D:St S w0 ((X++Y)++C) w:=B.perm (by rw [← List.append_assoc]; exact List.perm_append_comm.append_right _)
 exact D.tied
end
section
variable {E:eZ} {ops:Array Oper} {Q:cY} {rest:List Oper} {D:List Deferred} {L:List (Nat×Value)} {C:List aq}
theorem zY {A:aq} {X X':List aq} (e:X++[A]=X') (h:RJ E ops Q rest D L (bw X'::C)):RJ E ops Q rest D L (A::bw X::C):=fun a w hf hs=>h a w hf (hs.tie e)
theorem zG {X:List aq} {A:aq} (h:RJ E ops Q rest D L (A::bw X::C)):RJ E ops Q rest D L (bw (X++[A])::C):=fun a w hf hs=>h a w hf hs.Pz
theorem Lb {K:Act→World→Prop} {ms ns:List cZ} {az bz:List ki} (hl:az.length=ms.length) (h:KJ E K D L (bw (aV cZ.owns (ms++ns) (az++bz))::C)):KJ E K D L (bw (aV cZ.owns ms az)::bw (aV cZ.owns ns bz)::C):=fun a w hf hs=>h a w hf (by rw [jF hl.symm]; exact hs.merge)
end
/-- the head of the ways: the way that ends here, if it may -/
def xu (l:a_) (r:cv) (rs fs:List Int) (ra fa:RA) (hz:List ki) (LA:List aq):Prop:=
 ((r.ag.length:Int)-(cW rs).right≤l.eU∧ ∃ la:RA,hz=[(ra,fa,la)]∧LA=[own la.1 la.2 lG 1 ((jk l r rs).map iC)])∨(¬ (r.ag.length:Int)-(cW rs).right≤l.eU∧hz=[]∧LA=[])
theorem xu.len {l:a_} {r:cv} {rs fs:List Int} {ra fa:RA} {hz:List ki} {LA:List aq} (h:xu l r rs fs ra fa hz LA):hz.length=(gL l r rs fs).length:=by
 unfold gL
 rcases h with ⟨q,la,rfl,rfl⟩|⟨q,rfl,rfl⟩
 ·rw [if_pos q]; rfl
 ·rw [if_neg q]; rfl
theorem xu.wr {l:a_} {r:cv} {rs fs:List Int} {ra fa:RA} {hz:List ki} {LA:List aq} (h:xu l r rs fs ra fa hz LA):LA.all (·.wr)=true:=by
 rcases h with ⟨q,la,rfl,rfl⟩|⟨q,rfl,rfl⟩<;>rfl
theorem Kh {S:BS} {w0 w:World} {l:a_} {r:cv} {rs fs:List Int} {ra fa:RA} {hz az:List ki} {LA:List aq} {R:List cZ} {A:aq} (hh:xu l r rs fs ra fa hz LA)
 (h:St S w0 [bw [own ra.1 ra.2 lG 1 (rs.map iC),own fa.1 fa.2 lG 1 (fs.map iC)],A,bw LA,bw (aV cZ.owns R az)] w):St S w0 [bw (aV cZ.owns (gL l r rs fs++R) (hz++az)++[A])] w:=by
 rw [jF hh.len.symm]
 have D:St S w0 [own ra.1 ra.2 lG 1 (rs.map iC),own fa.1 fa.2 lG 1 (fs.map iC),A,bw LA,bw (aV cZ.owns R az)] w:=h.ic
 rcases hh with ⟨q,la,rfl,rfl⟩|⟨q,rfl,rfl⟩
 ·unfold gL
  rw [if_pos q]
  have B:=(St.kp [3,0,1,2,4] rfl rfl D).ic
  have E:=(St.kp [4,1,2,0,3] rfl rfl B).ic
  have C:St S w0 (((aV cZ.owns [(⟨rs,fs,jk l r rs⟩:cZ)] [(ra,fa,la)]++aV cZ.owns R az)++[A])++[]) w:=by
   rw [List.append_nil]
   refine E.perm ?_
   show (aV cZ.owns R az++(aV cZ.owns [(⟨rs,fs,jk l r rs⟩:cZ)] [(ra,fa,la)]++[A])).Perm _
   rw [← List.append_assoc]
   exact List.perm_append_comm.append_right _
  exact C.tied
 ·unfold gL
  rw [if_neg q]
  have B:=(St.kp [4,2] rfl rfl D).ic
  have C:St S w0 (((aV cZ.owns [] []++aV cZ.owns R az)++[A])++[]) w:=by
   rw [List.append_nil]; exact B
  exact C.tied
theorem Im {E:eZ} {K:Act→World→Prop} {D:List Deferred} {L:List (Nat×Value)} {l:a_} {r:cv} {rs fs:List Int} {ra fa:RA} {hz az z:List ki} {LA:List aq} {R W:List cZ} {A A':aq} (hh:xu l r rs fs ra fa hz LA) (hW:gL l r rs fs++R=W) (hz':hz++az=z) (hA:A=A')
 (h:KJ E K D L [bw (aV cZ.owns W z++[A'])]):KJ E K D L [bw [own ra.1 ra.2 lG 1 (rs.map iC),own fa.1 fa.2 lG 1 (fs.map iC)],A,bw LA,bw (aV cZ.owns R az)]:=fun a w hf hs=>h a w hf (by subst hW hz' hA; exact Kh hh hs)
theorem QY {E:eZ} {K:Act→World→Prop} {D:List Deferred} {L:List (Nat×Value)} {X A:aq} {W:List cZ} (h:KJ E K D L [bw (aV cZ.owns W []++[A])]):KJ E K D L [X,A]:=fun a w hf hs=>h a w hf (by
 have B:St E.S E.w0 [A] w:=St.kp [1] rfl rfl hs
 have C:St E.S E.w0 (([]++[A])++[]) w:=B
 have e:aV cZ.owns W []=[]:=by cases W<;>rfl
 rw [e]
 exact C.tied)
theorem H3 {E:eZ} {K:Act→World→Prop} {D:List Deferred} {L:List (Nat×Value)} {C:List aq} (e sz:Nat) (k:KJ E K D L (own none 0 e sz []::C)):KJ E K D L C:=fun a w hf hs=>k a w hf (hs.rm e sz)
end
section
open Go.RowKit
theorem iy (n lo hi:Int):
 dT Tryz.prog 153 [(vI n),(vI lo),(vI hi)] [] (vB (decide (lo≤n∧n≤hi))):=by
 refine bx kr Tryz.func153 U U fun D Q hQ hN=>?_
 try dsimp only
 refine WS fun _ B=>bf 1 U<|RK B<|WS fun _ A=>rP 4 [] mn ?_
 refine cR (t:=10) U (aL fun C=>?_) (aM fun C=>?_)
 ·refine rP 5 [] mn ?_
  refine RK A<|an<|Q1 hQ U U U ?_
  exact cB (decide_eq_decide.2 I)
 refine rP 5 [] mn ?_
 refine RK A<|an<|Q1 hQ U U U ?_
 exact cB (cf I).symm
theorem C5 (ts:List al) (tsA:OA) (tsC:Nat) (hst: ∀ x∈ts,bJ x) (hlen:ts.length≤12):
 lq Tryz.prog 170 [(vA (bE.cells (bE.mk (br.mk tsA ts.length tsC))))] [(rd tsA ts.length 9 (ts.map al.cells))] (fun (x:(OA)×Nat)=>(vS x.1 ((g5 ts (ts.length+1)).length) x.2)) (fun (x:(OA)×Nat)=>True) (fun (x:(OA)×Nat)=>[(own x.1 x.2 40 2 ((g5 ts (ts.length+1)).map aa.cells))]):=by
 refine dj kr Tryz.func170 U U fun V Q hQ hN=>?_
 try dsimp only
 refine WS fun _ J=>fK U fun AA=>bf 1 U<|RK J<|WS fun _ K=>bf 1 U<|RK K<|ah fun _ L=>WS fun _ M=>rP 1 [] mn ?_
 refine RK M<|av<|fT 40 2 ?_
 have A:(0≤ts.length+1):=by exact Nat.zero_le _
 refine bH (ι:={z:Nat×(OA)×Nat // (z.1≤ts.length+1)}) [1] [1,2] U U (fun z=>[(3,(vS z.1.2.1 ((g5 ts z.1.1).length) z.1.2.2)),(4,(vI (z.1.1:Int)))]) (fun z=>[(own z.1.2.1 z.1.2.2 40 2 ((g5 ts z.1.1).map aa.cells))]) (fun _=>rfl) (fun _=>rfl) (fun z=>ts.length+1-z.1.1) ⟨(0,none,0),A⟩ (aT U) (aH [1,2,0]) ?_
 clear A
 rintro ⟨⟨i,a,c⟩,B⟩ J6 AB
 try dsimp only at B
 try dsimp only
 refine ah fun _ N=>WS fun _ O=>rP 5 [] (mc 0 U mn) ?_
 refine RK O<|bL U (aM fun T=>?_) (aL fun T=>?_)
 ·refine bu<|ab<|ab<|au<|KK L<|WS fun _ E=>?_
  obtain rfl:i=ts.length+1:=by omega
  refine rP 2 [] mn ?_
  refine RK E<|an<|LX hQ (a,c) [2] [] mn U U U U ?_
  trivial
 refine WK N<|ah fun _ C=>av<|WS fun _ D=>fw 2 [] (mc 0 U mn) U<|rS (CL (Aq ts tsA tsC 0 (i:Int) hst hlen I) (bj [1]) U)<|bf 3 U<|AL U de fun P=>AL U de fun R=>ua U cm U<|fP U cm U<|RK D<|aj<|rP 2 [] (mc 1 U mn) ?_
 refine cU (xs:=[.tmp 21]) (cs:=(aa.cells (eA ts (0:Int).toNat ((i:Int)-0).toNat))) U jN de U U U U (by simp [Value.cells,aa.aU]) U U fun S=>?_
 refine db (es2:=(List.map aa.cells (g5 ts (i+1)))) (m':=(g5 ts (i+1)).length) 5 U U U DM U U sm (aZ (es:=List.map aa.cells [(eA ts (0:Int).toNat ((i:Int)-0).toNat)]) 0 U U (by simp [aa.aU]) U) (gS _) (by simp only [oo]; omega) (by simp only [maxLen,oo]; omega) (by rw [CY]; simp) sm U fun G H=>?_
 try dsimp only
 refine bf 1 U<|aC<|aG<|KK C<|aj<|rP 3 [] mn ?_
 refine aC ?_
 have F:(vI (((i+1):Nat):Int))=(vI ((i:Int)+1)):=by exact cI I
 refine aS (AB ⟨((i+1),G,H),(by first|omega|(simp only []; omega))⟩ _ _ _ U os (dh.cons U<|dh.cons U<|aX U F<|dh.nil _) (aH [3,4,5]))
theorem SA (ts:List al) (tsA:OA) (tsC:Nat) (s:cD) (hlen:ts.length≤1000000) (hside: ∀ x∈ts,0≤x.iS∧x.iS≤255):
 dT Tryz.prog 165 [(vA (bE.cells (bE.mk (br.mk tsA ts.length tsC)))),(vA (cD.cells s))] [(rd tsA ts.length 9 (ts.map al.cells))] (vT [(vA (aa.cells (PJ ts s))),(vI (FJ ts s))]):=by
 refine bx kr Tryz.func165 U U fun r Q hQ hN=>?_
 try dsimp only
 refine WS fun _ R=>fK U fun i=>fK U fun k=>AL U de fun l=>bf 1 U<|RK R<|ah fun _ S=>WS fun _ T=>fw 1 [] (mc 2 U mn) U<|rS (CL (vO ts tsA tsC hlen) (bj [3]) U)<|rP 1 [] mn ?_
 refine RK T<|cy U (fun AB=>?_) (fun AB=>?_)
 ·rw [Bool.not_eq_true'] at AB
  refine WS fun _ AA=>rS (SX (bh (xs:=[]) (cs:=(aa.cells (aa.mk 0 0))) U U (bg gf U)) U U)<|fP U cm U<|rP 1 [] mn ?_
  refine RK AA<|an<|lh hQ [0] (mc 0 U mn) U ?_
  (have e:=Ip (s:=s) (by simpa using AB); rw [e.1,e.2]<;>rfl)
 rw [Bool.not_eq_false'] at AB
 refine WK S<|ah fun _ V=>WS fun _ W=>?_
 have M:=jH AB
 have Z:=kK AB
 refine fw 2 [0,1] (mc 2 U (mc 1 U mn)) U<|rS (CL (qV ts tsA tsC s asm asm) (bj [3]) U)<|rP 1 [] mn ?_
 refine RK W<|cy U (bq fun D=>?_) (bp fun D=>?_)
 ·refine WS fun _ O=>rS (SX (bh (xs:=[]) (cs:=(aa.cells (aa.mk 0 0))) U U (bg gf U)) U U)<|fP U cm U<|rP 1 [] mn ?_
  refine RK O<|an<|lh hQ [0] (mc 0 U mn) U ?_
  (have e:=Mj AB D; rw [e.1,e.2]<;>rfl)
 refine WK V<|ah fun _ H=>rp cu [0,2,3] [1,4,5,6,7] [false,false,false] [] [(bV l 40 (aa.cells (aa.mk 0 0))),(bV k 111 (cD.cells s)),(bV i 27 (bE.cells (bE.mk (br.mk tsA ts.length tsC)))),(rd tsA ts.length 9 (ts.map al.cells)).ro] [] kr (aH [0,1,2,3]) (aH []) ?_
 have q:=D.1
 have N:=qJ M D
 have p:(g5 ts (ts.length+1)).length=ts.length+1:=oo
 refine eS U (LW 2 U bX U U)<|eS U (FA 0 U fu U)<|eS U (L1 (vI s.aY) 1 U bX U U)<|eV U<|iU [1,6] kr (eG ?_<|eG ?_<|kS)
 rotate_left 1
 ·refine NO U U [1,4,5,7] fun T12 J=>AL U de fun f=>RD J 1 U<|N1 1<|NO U U [4,5,7] fun T14 P=>cX (C5 ts tsA tsC asm asm) (bj [4]) U fun Y b=>?_
  obtain ⟨d,o⟩:=Y
  try dsimp only
  refine RD P 2 U<|N1 4<|NO U U [5,7] fun T19 E=>?_
  obtain ⟨z,hz⟩:=aJ (g5 ts (ts.length+1)) ((s.aY).toNat) I
  have A:=bG aa.cells hz
  refine rS (IA ((s.aY).toNat) U (ai (n:=(g5 ts (ts.length+1)).length) 0 U sm) jN dc I I)<|RD E 2 U<|N1 5<|NO U U [7] fun T20 F=>rS (oH ((s.aY).toNat) 0 (aa.cells z) U bX (ai (n:=(g5 ts (ts.length+1)).length) 0 U sm) A U dc U U)<|RD F 2 U<|N1 7<|NO U U [] fun T21 C=>ua U cm U<|RD C 2 U<|pV<|KK H<|WS fun _ B=>rP 1 [] mn ?_
  have A:=pc hz
  have G:=lZ M 0 s.aY.toNat
  unfold lj at N
  rw [← A] at G
  refine fw 11 [0,1,0,1] (mc 1 U (mc 3 U mn)) U<|rS (SX (bh (xs:=[(0,.tmp 27),(1,.tmp 33)]) (cs:=(aa.cells (aa.mk (z.Lo+s.mE.Lo) (z.Hi+s.mE.Hi)))) U U (bg gf U)) U U)<|HL U cm U<|rP 1 [] mn ?_
  refine RK B<|an<|lh hQ [0] (mc 2 U mn) U ?_
  (have e:=wy AB D; subst A; rw [e.1,e.2]<;>rfl)
 refine NO U U [4,5,6,7] fun T12 J=>cX (C5 ts tsA tsC asm asm) (bj [3]) U fun X a=>?_
 obtain ⟨c,m⟩:=X
 try dsimp only
 refine RD J 1 U<|iU [4,6] kr (eG ?_<|eG ?_<|kS)
 rotate_left 1
 ·refine NO U U [4,5,7] fun T17 K=>AL U de fun g=>RD K 2 U<|N1 4<|NO U U [5,7] fun T19 E=>?_
  obtain ⟨z,hz⟩:=aJ (g5 ts (ts.length+1)) ((s.aY).toNat) I
  have A:=bG aa.cells hz
  refine rS (IA ((s.aY).toNat) U (ai (n:=(g5 ts (ts.length+1)).length) 1 U sm) jN dc I I)<|RD E 2 U<|N1 5<|NO U U [7] fun T20 F=>rS (oH ((s.aY).toNat) 0 (aa.cells z) U bX (ai (n:=(g5 ts (ts.length+1)).length) 1 U sm) A U dc U U)<|RD F 2 U<|N1 7<|NO U U [] fun T21 C=>fP U cm U<|RD C 2 U<|pV<|KK H<|WS fun _ B=>rP 1 [] mn ?_
  have A:=pc hz
  have G:=lZ M 0 s.aY.toNat
  unfold lj at N
  rw [← A] at G
  refine fw 11 [0,1,0,1] (mc 0 U (mc 3 U mn)) U<|rS (SX (bh (xs:=[(0,.tmp 27),(1,.tmp 33)]) (cs:=(aa.cells (aa.mk (z.Lo+s.mE.Lo) (z.Hi+s.mE.Hi)))) U U (bg gf U)) U U)<|HL U cm U<|rP 1 [] mn ?_
  refine RK B<|an<|lh hQ [0] (mc 2 U mn) U ?_
  (have e:=wy AB D; subst A; rw [e.1,e.2]<;>rfl)
 refine NO U U [5,6,7] fun T17 K=>?_
 obtain ⟨z,hz⟩:=aJ (g5 ts (ts.length+1)) ((s.aY).toNat) I
 have A:=bG aa.cells hz
 refine rS (IA ((s.aY).toNat) U (ai (n:=(g5 ts (ts.length+1)).length) 0 U sm) jN dc I I)<|RD K 1 U<|iU [5,6] kr (eG ?_<|eG ?_<|kS)
 rotate_left 1
 ·refine NO U U [5,7] fun T18 L=>AL U de fun h=>RD L 2 U<|N1 5<|NO U U [7] fun T20 F=>rS (oH ((s.aY).toNat) 0 (aa.cells z) U bX (ai (n:=(g5 ts (ts.length+1)).length) 1 U sm) A U dc U U)<|RD F 2 U<|N1 7<|NO U U [] fun T21 C=>fP U cm U<|RD C 2 U<|pV<|KK H<|WS fun _ B=>rP 1 [] mn ?_
  have A:=pc hz
  have G:=lZ M 0 s.aY.toNat
  unfold lj at N
  rw [← A] at G
  refine fw 11 [0,1,0,1] (mc 0 U (mc 3 U mn)) U<|rS (SX (bh (xs:=[(0,.tmp 27),(1,.tmp 33)]) (cs:=(aa.cells (aa.mk (z.Lo+s.mE.Lo) (z.Hi+s.mE.Hi)))) U U (bg gf U)) U U)<|HL U cm U<|rP 1 [] mn ?_
  refine RK B<|an<|lh hQ [0] (mc 2 U mn) U ?_
  (have e:=wy AB D; subst A; rw [e.1,e.2]<;>rfl)
 refine NO U U [6,7] fun T18 L=>rS (oH ((s.aY).toNat) 0 (aa.cells z) U bX (ai (n:=(g5 ts (ts.length+1)).length) 0 U sm) A U dc U U)<|RD L 1 U<|N1 6<|NO U U [7] fun T19 E=>AL U de fun j=>RD E 2 U<|N1 7<|NO U U [] fun T21 C=>fP U cm U<|RD C 2 U<|pV<|KK H<|WS fun _ B=>rP 1 [] mn ?_
 have A:=pc hz
 have G:=lZ M 0 s.aY.toNat
 unfold lj at N
 rw [← A] at G
 refine fw 11 [0,1,0,1] (mc 0 U (mc 3 U mn)) U<|rS (SX (bh (xs:=[(0,.tmp 27),(1,.tmp 33)]) (cs:=(aa.cells (aa.mk (z.Lo+s.mE.Lo) (z.Hi+s.mE.Hi)))) U U (bg gf U)) U U)<|HL U cm U<|rP 1 [] mn ?_
 refine RK B<|an<|lh hQ [0] (mc 2 U mn) U ?_
 (have e:=wy AB D; subst A; rw [e.1,e.2]<;>rfl)
theorem HC (ts:List al) (tsA:OA) (tsC:Nat) (p:cD) (q:cD) (hlen:ts.length≤1000000) (hside: ∀ x∈ts,0≤x.iS∧x.iS≤255) (hord: ¬ q.aY<p.aY):
 dT Tryz.prog 166 [(vA (bE.cells (bE.mk (br.mk tsA ts.length tsC)))),(vA (cD.cells p)),(vA (cD.cells q))] [(rd tsA ts.length 9 (ts.map al.cells))] (vT [(vA (aa.cells (kF ts p q))),(vI (lO ts p q))]):=by
 refine bx kr Tryz.func166 U U fun k Q hQ hN=>?_
 try dsimp only
 refine WS fun _ N=>fK U fun f=>fK U fun g=>fK U fun i=>AL U de fun j=>bf 1 U<|RK N<|ah fun _ O=>WS fun _ P=>fw 1 [] (mc 3 U mn) U<|rS (CL (vO ts tsA tsC hlen) (bj [4]) U)<|rP 1 [] mn ?_
 refine RK P<|cy U (fun A=>?_) (fun A=>?_)
 ·rw [Bool.not_eq_true'] at A
  refine WS fun _ R=>rS (SX (bh (xs:=[]) (cs:=(aa.cells (aa.mk 0 0))) U U (bg gf U)) U U)<|fP U cm U<|rP 1 [] mn ?_
  refine RK R<|an<|lh hQ [0] (mc 0 U mn) U ?_
  (have e:=uM (a:=p) (b:=q) (by simpa using A); rw [e.1,e.2]<;>rfl)
 rw [Bool.not_eq_false'] at A
 refine WK O<|ah fun _ S=>WS fun _ E=>?_
 have D:=jH A
 have M:=kK A
 refine fw 2 [0,1] (mc 3 U (mc 2 U mn)) U<|rS (CL (qV ts tsA tsC p asm asm) (bj [4]) U)<|rP 2 [] mn ?_
 refine cR (t:=20) U (bq fun B=>?_) (bp fun B=>?_)
 ·refine bf 5 U<|RK E<|aO U<|WS fun _ G=>rS (SX (bh (xs:=[]) (cs:=(aa.cells (aa.mk 0 0))) U U (bg gf U)) U U)<|fP U cm U<|rP 1 [] mn ?_
  refine RK G<|an<|lh hQ [0] (mc 0 U mn) U ?_
  (have e:=oZ (a:=p) (b:=q) A (fun h=>by first|exact B h.1|exact C h.2); rw [e.1,e.2]<;>rfl)
 refine fw 2 [0,1] (mc 3 U (mc 1 U mn)) U<|rS (CL (qV ts tsA tsC q asm asm) (bj [4]) U)<|rP 2 [] mn ?_
 refine RK E<|cy U (bq fun C=>?_) (bp fun C=>?_)
 ·refine WS fun _ H=>rS (SX (bh (xs:=[]) (cs:=(aa.cells (aa.mk 0 0))) U U (bg gf U)) U U)<|fP U cm U<|rP 1 [] mn ?_
  refine RK H<|an<|lh hQ [0] (mc 0 U mn) U ?_
  (have e:=oZ (a:=p) (b:=q) A (fun h=>by first|exact B h.1|exact C h.2); rw [e.1,e.2]<;>rfl)
 refine WK S<|ah fun _ AB=>WS fun _ J=>?_
 have AA:ff ts p∧ff ts q:=⟨B,C⟩
 have T:=qJ D B
 have V:=qJ D C
 have c:=B.1
 have d:=C.1
 have Y:=x8 D M C B
 unfold lj at T V
 refine rP 5 [0,1] (mc 1 U (mc 2 U mn)) ?_
 refine RK J<|cy U (aL fun F=>?_) (aM fun F=>?_)
 ·exfalso; omega
 refine WK AB<|WS fun _ K=>rP 2 [] (mc 3 U mn) ?_
 have Z:=lZ D p.aY.toNat (q.aY-p.aY).toNat
 refine fw 3 [0,1] (mc 2 U (mc 1 U mn)) U<|rS (CL (Aq ts tsA tsC p.aY q.aY asm asm I) (bj [4]) U)<|bf 3 U<|AL U de fun W=>AL U de fun X=>ua U cm U<|fP U cm U<|RK K<|WS fun _ L=>fw 20 [0,1,2,0,1,2] (mc 1 U (mc 3 U (mc 4 U mn))) U<|rS (SX (bh (xs:=[(0,.tmp 64),(1,.tmp 74)]) (cs:=(aa.cells (aa.mk ((((eA ts p.aY.toNat (q.aY-p.aY).toNat).Lo)+q.mE.Lo)-p.mE.Hi) ((((eA ts p.aY.toNat (q.aY-p.aY).toNat).Hi)+q.mE.Hi)-p.mE.Lo)))) U U (bg gf U)) U U)<|HL U cm U<|rP 1 [] mn ?_
 refine RK L<|an<|lh hQ [0] (mc 2 U mn) U ?_
 (have e:=k9 A AA; rw [e.1,e.2,p6 F]<;>rfl)
theorem Le (ts:List al) (tsA:OA) (tsC:Nat) (p:cD) (q:cD) (hlen:ts.length≤1000000) (hside: ∀ x∈ts,0≤x.iS∧x.iS≤255):
 dT Tryz.prog 166 [(vA (bE.cells (bE.mk (br.mk tsA ts.length tsC)))),(vA (cD.cells p)),(vA (cD.cells q))] [(rd tsA ts.length 9 (ts.map al.cells))] (vT [(vA (aa.cells (kF ts p q))),(vI (lO ts p q))]):=by
 refine bx kr Tryz.func166 U U fun u Q hQ hN=>?_
 try dsimp only
 refine WS fun _ S=>fK U fun n=>fK U fun o=>fK U fun r=>AL U de fun s=>bf 1 U<|RK S<|ah fun _ T=>WS fun _ AA=>fw 1 [] (mc 3 U mn) U<|rS (CL (vO ts tsA tsC hlen) (bj [4]) U)<|rP 1 [] mn ?_
 refine RK AA<|cy U (fun A=>?_) (fun A=>?_)
 ·rw [Bool.not_eq_true'] at A
  refine WS fun _ V=>rS (SX (bh (xs:=[]) (cs:=(aa.cells (aa.mk 0 0))) U U (bg gf U)) U U)<|fP U cm U<|rP 1 [] mn ?_
  refine RK V<|an<|lh hQ [0] (mc 0 U mn) U ?_
  (have e:=uM (a:=p) (b:=q) (by simpa using A); rw [e.1,e.2]<;>rfl)
 rw [Bool.not_eq_false'] at A
 refine WK T<|ah fun _ W=>WS fun _ E=>?_
 have D:=jH A
 have P:=kK A
 refine fw 2 [0,1] (mc 3 U (mc 2 U mn)) U<|rS (CL (qV ts tsA tsC p asm asm) (bj [4]) U)<|rP 2 [] mn ?_
 refine cR (t:=20) U (bq fun B=>?_) (bp fun B=>?_)
 ·refine bf 5 U<|RK E<|aO U<|WS fun _ G=>rS (SX (bh (xs:=[]) (cs:=(aa.cells (aa.mk 0 0))) U U (bg gf U)) U U)<|fP U cm U<|rP 1 [] mn ?_
  refine RK G<|an<|lh hQ [0] (mc 0 U mn) U ?_
  (have e:=oZ (a:=p) (b:=q) A (fun h=>by first|exact B h.1|exact C h.2); rw [e.1,e.2]<;>rfl)
 refine fw 2 [0,1] (mc 3 U (mc 1 U mn)) U<|rS (CL (qV ts tsA tsC q asm asm) (bj [4]) U)<|rP 2 [] mn ?_
 refine RK E<|cy U (bq fun C=>?_) (bp fun C=>?_)
 ·refine WS fun _ H=>rS (SX (bh (xs:=[]) (cs:=(aa.cells (aa.mk 0 0))) U U (bg gf U)) U U)<|fP U cm U<|rP 1 [] mn ?_
  refine RK H<|an<|lh hQ [0] (mc 0 U mn) U ?_
  (have e:=oZ (a:=p) (b:=q) A (fun h=>by first|exact B h.1|exact C h.2); rw [e.1,e.2]<;>rfl)
 refine WK W<|ah fun _ AB=>WS fun _ J=>?_
 have R:ff ts p∧ff ts q:=⟨B,C⟩
 have X:=qJ D B
 have Y:=qJ D C
 have l:=B.1
 have m:=C.1
 have j:=x8 D P C B
 unfold lj at X Y
 refine rP 5 [0,1] (mc 1 U (mc 2 U mn)) ?_
 refine RK J<|cy U (aL fun F=>?_) (aM fun F=>?_)
 ·refine WS fun _ K=>fw 3 [0,1,2] (mc 3 U (mc 1 U (mc 2 U mn))) U<|rS (CL (HC ts tsA tsC q p hlen hside I) (bj [4]) U)<|bf 3 U<|AL U de fun d=>fP U cm U<|bf 1 U<|RK K<|WS fun _ L=>rP 2 [] (mc 0 U mn) ?_
  have O:kF ts q p=jX ts q p:=(k9 A ⟨C,B⟩).2
  have Z: -400000≤(kF ts q p).Lo∧(kF ts q p).Hi≤400000:=by rw [O]; omega
  have c:(kF ts q p).Lo≤(kF ts q p).Hi:=by rw [O]; omega
  refine rS (NG U ⟨I,I⟩)<|fw 2 [] (mc 0 U mn) U<|rS (NG U ⟨I,I⟩)<|rS (SX (bh (xs:=[(0,.tmp 41),(1,.tmp 44)]) (cs:=(aa.cells (aa.mk (-((kF ts q p).Hi)) (-((kF ts q p).Lo))))) U U (bg gf U)) U U)<|ua U cm U<|rP 1 [] mn ?_
  refine RK L<|an<|lh hQ [0] (mc 1 U mn) U ?_
  (have e:=k9 A R; have i:=k9 A ⟨C,B⟩; rw [e.1,e.2,i.2,D3 F]<;>rfl)
 refine WK AB<|WS fun _ M=>rP 2 [] (mc 3 U mn) ?_
 have k:=lZ D p.aY.toNat (q.aY-p.aY).toNat
 refine fw 3 [0,1] (mc 2 U (mc 1 U mn)) U<|rS (CL (Aq ts tsA tsC p.aY q.aY asm asm I) (bj [4]) U)<|bf 3 U<|AL U de fun f=>AL U de fun g=>ua U cm U<|fP U cm U<|RK M<|WS fun _ N=>fw 20 [0,1,2,0,1,2] (mc 1 U (mc 3 U (mc 4 U mn))) U<|rS (SX (bh (xs:=[(0,.tmp 64),(1,.tmp 74)]) (cs:=(aa.cells (aa.mk ((((eA ts p.aY.toNat (q.aY-p.aY).toNat).Lo)+q.mE.Lo)-p.mE.Hi) ((((eA ts p.aY.toNat (q.aY-p.aY).toNat).Hi)+q.mE.Hi)-p.mE.Lo)))) U U (bg gf U)) U U)<|HL U cm U<|rP 1 [] mn ?_
 refine RK N<|an<|lh hQ [0] (mc 2 U mn) U ?_
 (have e:=k9 A R; rw [e.1,e.2,p6 F]<;>rfl)
end
section
open Go.RowKit
theorem LY (l:a_) (kA:OA) (kC:Nat) (az:List RA) (cA:OA) (cC:Nat) (bA:OA) (bC:Nat) (hraw:tQ l az):
 dT Tryz.prog 76 [(vA (ck.cells (lk l kA kC cA cC bA bC)))] [(rd kA l.aP.length 9 (l.aP.map al.cells)),(rd cA l.ak.length 2 (List.zipWith ar.cells l.ak az)),(eW (aV ar.gZ l.ak az)),(rd bA l.ae.length 4 (l.ae.map bD.cells))] (vB (decide (mI l))):=by
 have e:=hraw.sH
 have d:=hraw.sI
 have a:=hraw.ov
 have b:=hraw.sD
 refine bx kr Tryz.func76 U U fun g Q hQ hN=>?_
 try dsimp only
 refine WS fun _ O=>fK U fun f=>bf 1 U<|RK O<|ah fun _ P=>WS fun _ D=>bf 1 U<|rS (LP (bE.cells (bE.mk (br.mk kA l.aP.length kC))) 0 U bX U U U)<|rS (CL (Ok l.aP kA kC) (bj [1]) U)<|rP 1 [] mn ?_
 refine cR (t:=7) U (aL fun Z=>?_) (aM fun Z=>?_)
 ·refine bf 11 U<|RK D<|aO U<|WS fun _ R=>rP 1 [] mn ?_
  refine RK R<|an<|Q1 hQ U U U ?_
  exact cB (fI (.inl I)).symm
 refine rP 6 [] (mc 0 U mn) ?_
 refine cR (t:=13) U (aL fun C=>?_) (aM fun C=>?_)
 ·refine bf 5 U<|RK D<|aO U<|WS fun _ S=>rP 1 [] mn ?_
  refine RK S<|an<|Q1 hQ U U U ?_
  exact cB (fI (.inl I)).symm
 refine rP 5 [] (mc 0 U mn) ?_
 refine RK D<|cy U (aL fun N=>?_) (aM fun N=>?_)
 ·refine WS fun _ T=>rP 1 [] mn ?_
  refine RK T<|an<|Q1 hQ U U U ?_
  exact cB (fI (.inl I)).symm
 refine WK P<|ah fun _ AA=>WS fun _ V=>rP 1 [] mn ?_
 refine RK V<|av ?_
 have A:(0≤l.ak.length)∧(z3 l 0):=by exact ⟨Nat.zero_le _,fun j c hj=>absurd hj (Nat.not_lt_zero _)⟩
 refine bH (ι:={z:Nat // (z≤l.ak.length)∧(z3 l z)}) [1] [0,1,2,3,4] U U (fun z=>[(3,(vI (z.1:Int)))]) (fun z=>[]) (fun _=>rfl) (fun _=>rfl) (fun z=>l.ak.length-z.1) ⟨0,A⟩ (aT U) (aH [0,1,2,3,4]) ?_
 clear A
 rintro ⟨i,⟨W,B⟩⟩ J10 F
 try dsimp only
 refine ah fun _ G=>WS fun _ H=>rP 5 [] (mc 0 U mn) ?_
 refine RK H<|bL U (aM fun C=>?_) (aL fun C=>?_)
 ·refine bu<|ab<|ab<|au<|KK AA<|WS fun _ L=>rP 1 [] mn ?_
  refine RK L<|an<|Q1 hQ U U U ?_
  exact cB (cf (JR I I B)).symm
 refine WK G<|ah fun _ AB=>av<|WS fun _ J=>rP 3 [] (mc 0 U mn) ?_
 obtain ⟨x,hx⟩:=aJ l.ak i I
 obtain ⟨xa,X⟩:=aJ az i I
 have Y:(List.zipWith ar.cells l.ak az)[i]? =some (ar.cells x xa):=dy hx X
 refine rS (IA i U (aD 2 U) zR dc I I)<|rS (nR ((i*2)+1) U (aD 2 U) (Nat.mul_pos I dc) fu U)<|rS (fV i 1 (vS xa.1 x.bo.length xa.2) U bX (aD 2 U) Y U dc U)<|rP 2 [] mn ?_
 refine RK J<|cy U (aL fun E=>?_) (aM fun E=>?_)
 ·refine WS fun _ K=>rP 1 [] mn ?_
  refine RK K<|an<|Q1 hQ U U U ?_
  exact cB (fI (Jn hx E)).symm
 refine bZ<|aG<|KK AB<|aj<|rP 3 [] mn ?_
 refine aC ?_
 have M:(vI (((i+1):Nat):Int))=(vI ((i:Int)+1)):=by exact cI I
 refine aS (F ⟨(i+1),⟨I,lM B hx I⟩⟩ _ _ _ U os (dh.cons U<|aX U M<|dh.nil _) (aH [0,1,2,3,4]))
theorem wP (d m:Int) (hd:0≤d∧d≤1000) (hm:0≤m∧m≤90000000):
 dT Tryz.prog 164 [(vI d),(vI m)] [] (vI (o9 (d*m) 1000000)):=by
 have J:=QO (a:=d) (b:=m) (A:=1000) (B:=90000000) hd.1 hd.2 hm.1 hm.2
 refine bx kr Tryz.func164 U U fun K Q hQ hN=>?_
 try dsimp only
 refine WS fun _ C=>bf 1 U<|RK C<|WS fun _ D=>bf 2 U<|rS (BI U (Fi ⟨I,I⟩))<|bf 1 U<|RK D<|ah fun _ E=>WS fun _ F=>bf 1 U<|rS (BI U (Ta I I))<|rP 1 [] mn ?_
 refine RK F<|cy U (aL fun AA=>?_) (aM fun AA=>?_)
 ·refine WS fun _ G=>bf 1 U<|rS (BI U (sL I I I))<|rP 2 [] mn ?_
  refine RK G<|an<|Q1 hQ U U U ?_
  exact cI (by unfold o9; omega)
 refine WK E<|WS fun _ H=>bf 1 U<|rS (BI U (sL I I I))<|rP 1 [] mn ?_
 refine RK H<|an<|Q1 hQ U U U ?_
 exact cI (by unfold o9; omega)
theorem IW (c:ar) (sA:OA) (sC:Nat) (hlen:c.bo.length≤1000000):
 dT Tryz.prog 154 [(vA (dp.cells (dp.mk c.dg (br.mk sA c.bo.length sC))))] [(rd sA c.bo.length 3 (c.bo.map cx.cells))] (vB (decide (eT c))):=by
 refine bx kr Tryz.func154 U U fun w0 Q hQ hN=>?_
 try dsimp only
 refine WS fun _ Ac=>fK U fun b2=>bf 1 U<|RK Ac<|ah fun _ Ad=>WS fun _ AK=>fw 2 [] (mc 0 U mn) U<|rS (CL (iy c.dg 0 1000) (aI) U)<|rP 2 [] mn ?_
 refine cR (t:=14) U (bq fun AU=>?_) (bp fun AU=>?_)
 ·refine bf 6 U<|RK AK<|aO U<|WS fun _ Ae=>rP 1 [] mn ?_
  refine RK Ae<|an<|Q1 hQ U U U ?_
  exact cB (cf fun h=>by have q1:=h.rO; have q2:=h.len; omega).symm
 refine fw 3 [] (mc 0 U mn) U<|rS (CL (iy (c.bo.length:Int) 1 5) (aI) U)<|rP 2 [] mn ?_
 refine RK AK<|cy U (bq fun AV=>?_) (bp fun AV=>?_)
 ·refine WS fun _ Af=>rP 1 [] mn ?_
  refine RK Af<|an<|Q1 hQ U U U ?_
  exact cB (cf fun h=>by have q1:=h.rO; have q2:=h.len; omega).symm
 refine WK Ad<|ah fun _ Ag=>WS fun _ Ah=>rP 1 [] mn ?_
 refine RK Ah<|av ?_
 have A:(0≤c.bo.length)∧(∀ (j:Nat) y,j<0→c.bo[j]? =some y→fh c j y):=by exact ⟨Nat.zero_le _,fun j y hj=>absurd hj (Nat.not_lt_zero _)⟩
 refine bH (ι:={z:Nat // (z≤c.bo.length)∧(∀ (j:Nat) y,j<z→c.bo[j]? =some y→fh c j y)}) [1] [0,1] U U (fun z=>[(3,(vI (z.1:Int)))]) (fun z=>[]) (fun _=>rfl) (fun _=>rfl) (fun z=>c.bo.length-z.1) ⟨0,A⟩ (aT U) (aH [0,1]) ?_
 clear A
 rintro ⟨i,⟨a,C⟩⟩ J9 f
 try dsimp only
 have An:=KU a C
 refine ah fun _ g=>WS fun _ l=>rP 5 [] (mc 0 U mn) ?_
 refine RK l<|cy U (aL fun AW=>?_) (aM fun AW=>?_)
 ·refine WK g<|ah fun _ Am=>av<|WS fun _ n=>rP 3 [] (mc 0 U mn) ?_
  obtain ⟨x,hx⟩:=aJ c.bo i I
  have b:=bG cx.cells hx
  refine rS (IA i U (aD 1 U) p9 dc I I)<|rS (oH i 0 (cx.cells x) U bX (aD 1 U) b U dc U U)<|AL U rN fun Al=>fP U tD U<|RK n<|ah fun _ B=>dA cu 41 kr<|mJ 2 [] (mc 0 U mn) U<|dS (CL (iy x.At 0 86400000) (aI) U)<|dP 2 [] mn ?_
  refine iY (t:=37) U (bq fun AX=>?_) (bp fun AX=>?_)
  ·refine lJ 36 U<|cL<|RK B<|aO U<|WS fun _ p=>rP 1 [] mn ?_
   refine RK p<|an<|Q1 hQ U U U ?_
   exact cB (cf fun h=>by have q:=h.sync i x hx; unfold fh at q; (rw [gr I] at q; omega)).symm
  refine dP 3 [] mn ?_
  refine jh (t:=40) U (aM fun AY=>?_) (aL fun AY=>?_)
  ·refine dP 19 [] (mc 0 U mn) ?_
   refine iY (t:=59) U (aL fun X=>?_) (aM fun X=>?_)
   ·refine lJ 14 U<|cL<|RK B<|aO U<|WS fun _ w=>rP 1 [] mn ?_
    refine RK w<|an<|Q1 hQ U U U ?_
    exact cB (cf fun h=>by have q:=h.sync i x hx; unfold fh at q; (rw [gr I] at q; omega)).symm
   refine dP 9 [] (mc 0 U mn) ?_
   refine iY (t:=68) U (aL fun Y=>?_) (aM fun Y=>?_)
   ·refine lJ 5 U<|cL<|RK B<|aO U<|WS fun _ AA=>rP 1 [] mn ?_
    refine RK AA<|an<|Q1 hQ U U U ?_
    exact cB (cf fun h=>by have q:=h.sync i x hx; unfold fh at q; (rw [gr I] at q; omega)).symm
   refine dP 5 [] (mc 0 U mn) ?_
   refine cL<|RK B<|bL U (aM fun Z=>?_) (aL fun Z=>?_)
   ·refine bZ<|aG<|KK Am<|aj<|rP 3 [] mn ?_
    refine aC ?_
    have AO:(vI (((i+1):Nat):Int))=(vI ((i:Int)+1)):=by exact cI I
    refine aS (f ⟨(i+1),⟨I,lM C hx (by unfold fh; (rw [gr I]; omega))⟩⟩ _ _ _ U os (dh.cons U<|aX U AO<|dh.nil _) (aH [1,2]))
   refine WS fun _ AB=>rP 1 [] mn ?_
   refine RK AB<|an<|Q1 hQ U U U ?_
   exact cB (cf fun h=>by have q:=h.sync i x hx; unfold fh at q; (rw [gr I] at q; omega)).symm
  refine dP 6 [0,1] (mc 0 U (mc 1 U mn)) ?_
  obtain ⟨y,hy⟩:=aJ c.bo (i-1) I
  have d:=bG cx.cells hy
  refine dS (IA (i-1) U (aD 2 U) p9 dc I I)<|dS (nR ((i-1)*3) U (aD 2 U) (Nat.mul_pos I dc) fu U)<|dS (fV (i-1) 0 (vI y.At) U bX (aD 2 U) d U dc U)<|dP 4 [] mn ?_
  refine iY (t:=53) U (aL fun AZ=>?_) (aM fun AZ=>?_)
  ·refine lJ 20 U<|cL<|RK B<|aO U<|WS fun _ r=>rP 1 [] mn ?_
   refine RK r<|an<|Q1 hQ U U U ?_
   exact cB (cf fun h=>by have q:=h.sync i x hx; unfold fh at q; (rw [wE I hy] at q; omega)).symm
  refine dP 6 [] (mc 0 U mn) ?_
  refine iY (t:=59) U (aL fun X=>?_) (aM fun X=>?_)
  ·refine lJ 14 U<|cL<|RK B<|aO U<|WS fun _ s=>rP 1 [] mn ?_
   refine RK s<|an<|Q1 hQ U U U ?_
   exact cB (cf fun h=>by have q:=h.sync i x hx; unfold fh at q; (rw [gr I] at q; omega)).symm
  refine dP 9 [] (mc 0 U mn) ?_
  refine iY (t:=68) U (aL fun Y=>?_) (aM fun Y=>?_)
  ·refine lJ 5 U<|cL<|RK B<|aO U<|WS fun _ u=>rP 1 [] mn ?_
   refine RK u<|an<|Q1 hQ U U U ?_
   exact cB (cf fun h=>by have q:=h.sync i x hx; unfold fh at q; (rw [gr I] at q; omega)).symm
  refine dP 5 [] (mc 0 U mn) ?_
  refine cL<|RK B<|bL U (aM fun Z=>?_) (aL fun Z=>?_)
  ·refine bZ<|aG<|KK Am<|aj<|rP 3 [] mn ?_
   refine aC ?_
   have AN:(vI (((i+1):Nat):Int))=(vI ((i:Int)+1)):=by exact cI I
   refine aS (f ⟨(i+1),⟨I,lM C hx (by unfold fh; (rw [wE I hy]; omega))⟩⟩ _ _ _ U os (dh.cons U<|aX U AN<|dh.nil _) (aH [1,2]))
  refine WS fun _ v=>rP 1 [] mn ?_
  refine RK v<|an<|Q1 hQ U U U ?_
  exact cB (cf fun h=>by have q:=h.sync i x hx; unfold fh at q; (rw [gr I] at q; omega)).symm
 refine bu<|ab<|ab<|au<|KK Ag<|ah fun _ AC=>WS fun _ AD=>rP 1 [] mn ?_
 refine RK AD<|av ?_
 have A:(0≤c.bo.length)∧(td c 0):=by exact ⟨Nat.zero_le _,fun j y hj=>absurd hj (Nat.not_lt_zero _)⟩
 refine bH (ι:={z:Nat // (z≤c.bo.length)∧(td c z)}) [1] [0,1] U U (fun z=>[(5,(vI (z.1:Int)))]) (fun z=>[]) (fun _=>rfl) (fun _=>rfl) (fun z=>c.bo.length-z.1) ⟨0,A⟩ (aT U) (aH [0,1]) ?_
 clear A
 rintro ⟨m,⟨AQ,G⟩⟩ J28 e
 try dsimp only
 have F:=xr (P:=fh c) I C
 refine ah fun _ AE=>WS fun _ AF=>rP 5 [] (mc 0 U mn) ?_
 refine RK AF<|bL U (aM fun Aa=>?_) (aL fun Aa=>?_)
 ·refine bu<|ab<|ab<|au<|KK AC<|WS fun _ AM=>rP 1 [] mn ?_
  refine RK AM<|an<|Q1 hQ U U U ?_
  exact cB (fI (Ik I I (xr I C) I G)).symm
 refine WK AE<|ah fun _ AG=>av<|WS fun _ AH=>rP 1 [] mn ?_
 refine RK AH<|av ?_
 have A:(0≤m)∧(∀ y,c.bo[m]? =some y→FH c y 0):=by exact ⟨Nat.zero_le _,fun y _ j o hj=>absurd hj (Nat.not_lt_zero _)⟩
 refine bH (ι:={z:Nat // (z≤m)∧(∀ y,c.bo[m]? =some y→FH c y z)}) [1,5] [0,1] U U (fun z=>[(6,(vI (z.1:Int)))]) (fun z=>[]) (fun _=>rfl) (fun _=>rfl) (fun z=>m-z.1) ⟨0,A⟩ (aT U) (aH [0,1]) ?_
 clear A
 rintro ⟨k,⟨AR,D⟩⟩ J33 T
 try dsimp only
 refine ah fun _ AI=>WS fun _ AJ=>rP 3 [] mn ?_
 refine RK AJ<|bL U (aM fun Ab=>?_) (aL fun Ab=>?_)
 ·refine bu<|ab<|ab<|au<|aG<|KK AG<|aj<|rP 3 [] mn ?_
  refine aC ?_
  have AP:(vI (((m+1):Nat):Int))=(vI ((m:Int)+1)):=by exact cI I
  refine aS (e ⟨(m+1),⟨I,ER G D I⟩⟩ _ _ _ U os (dh.cons U<|aX U AP<|dh.nil _) (aH [0,1]))
 refine WK AI<|ah fun _ V=>av<|ah fun _ W=>rp cu [0,1,2,3,4,5,6,7,8,9] [10,11,12,13] [false,false,false,false,false,false,false,false,false,false] [] [(bV b2 119 (dp.cells (dp.mk c.dg (br.mk sA c.bo.length sC)))),(rd sA c.bo.length 3 (c.bo.map cx.cells)).ro] [] kr (aH [0,1]) (aH [])<|eS U (FA 1 U fu U)<|eS U (L1 (vS sA c.bo.length sC) 0 U bX U U)<|eS U (MV U) ?_
 obtain ⟨x,hx⟩:=aJ c.bo k I
 have b:=bG cx.cells hx
 refine eS U (IA k U (aD 1 U) p9 dc I I)<|eS U (oH k 0 (cx.cells x) U bX (aD 1 U) b U dc U U)<|eS U (FA 1 U fu U)<|eS U (L1 (vS sA c.bo.length sC) 0 U bX U U)<|eS U (MV U) ?_
 obtain ⟨y,hy⟩:=aJ c.bo m I
 have d:=bG cx.cells hy
 refine eS U (IA m U (aD 1 U) p9 dc I I)<|eS U (oH m 0 (cx.cells y) U bX (aD 1 U) d U dc U U)<|eV U<|iU [10,11] kr (eG ?_<|eG ?_<|kS)
 rotate_left 1
 ·refine NO U U [10,12,13] fun T38 M=>AL U rN fun AS=>RD M 1 U<|N1 10<|NO U U [12,13] fun T40 N=>AL U rN fun AT=>RD N 2 U<|N1 12<|NO U U [13] fun T42 O=>fP U tD U<|RD O 2 U<|N1 13<|NO U U [] fun T43 R=>ua U tD U<|RD R 2 U<|pV<|KK W<|WS fun _ J=>rP 6 [0,1,2] (mc 2 U (mc 1 U (mc 0 U mn))) ?_
  obtain ⟨Ai,Aj,Ak⟩:=uy (fun j z _ hz=>F j z hz) hy (F _ _ hy) (show k<m by omega) hx
  refine bf 1 U<|rS (CL (wP c.dg (y.At-x.At) I I) (aI) U)<|bf 1 U<|RK J<|WS fun _ E=>rP 10 [0,1] (mc 0 U (mc 1 U mn)) ?_
  refine cR (t:=113) U (aL fun H=>?_) (aM fun H=>?_)
  ·refine bf 10 U<|RK E<|aO U<|WS fun _ K=>rP 1 [] mn ?_
   refine RK K<|an<|Q1 hQ U U U ?_
   exact cB (cf fun h=>by have q:=h.pair m k y x hy I hx; unfold nF at q; omega).symm
  refine rP 10 [0,1] (mc 1 U (mc 0 U mn)) ?_
  refine RK E<|bL U (aM fun Ao=>?_) (aL fun Ao=>?_)
  ·refine bZ<|aG<|KK V<|aj<|rP 3 [] mn ?_
   refine aC ?_
   have S:(vI (((k+1):Nat):Int))=(vI ((k:Int)+1)):=by exact cI I
   refine aS (T ⟨(k+1),⟨I,fun z hz=>by rw [hy] at hz; cases hz; exact lM (D _ hy) hx (by unfold nF; omega)⟩⟩ _ _ _ rfl os (dh.cons rfl<|dh.cons rfl<|aX rfl S<|dh.nil _) (aH [2,3]))
  refine WS fun _ L=>rP 1 [] mn ?_
  refine RK L<|an<|Q1 hQ U U U ?_
  exact cB (cf fun h=>by have q:=h.pair m k y x hy I hx; unfold nF at q; omega).symm
 refine NO U U [11,12,13] fun T38 M=>AL U rN fun AS=>RD M 1 U<|N1 11<|NO U U [12,13] fun T40 N=>AL U rN fun AT=>RD N 2 U<|N1 12<|NO U U [13] fun T42 O=>ua U tD U<|RD O 2 U<|N1 13<|NO U U [] fun T43 R=>fP U tD U<|RD R 2 U<|pV<|KK W<|WS fun _ J=>rP 6 [0,1,2] (mc 2 U (mc 0 U (mc 1 U mn))) ?_
 obtain ⟨Ai,Aj,Ak⟩:=uy (fun j z _ hz=>F j z hz) hy (F _ _ hy) (show k<m by omega) hx
 refine bf 1 U<|rS (CL (wP c.dg (y.At-x.At) I I) (aI) U)<|bf 1 U<|RK J<|WS fun _ E=>rP 10 [0,1] (mc 1 U (mc 0 U mn)) ?_
 refine cR (t:=113) U (aL fun H=>?_) (aM fun H=>?_)
 ·refine bf 10 U<|RK E<|aO U<|WS fun _ K=>rP 1 [] mn ?_
  refine RK K<|an<|Q1 hQ U U U ?_
  exact cB (cf fun h=>by have q:=h.pair m k y x hy I hx; unfold nF at q; omega).symm
 refine rP 10 [0,1] (mc 0 U (mc 1 U mn)) ?_
 refine RK E<|bL U (aM fun Ao=>?_) (aL fun Ao=>?_)
 ·refine bZ<|aG<|KK V<|aj<|rP 3 [] mn ?_
  refine aC ?_
  have S:(vI (((k+1):Nat):Int))=(vI ((k:Int)+1)):=by exact cI I
  refine aS (T ⟨(k+1),⟨I,fun z hz=>by rw [hy] at hz; cases hz; exact lM (D _ hy) hx (by unfold nF; omega)⟩⟩ _ _ _ rfl os (dh.cons rfl<|dh.cons rfl<|aX rfl S<|dh.nil _) (aH [2,3]))
 refine WS fun _ L=>rP 1 [] mn ?_
 refine RK L<|an<|Q1 hQ U U U ?_
 exact cB (cf fun h=>by have q:=h.pair m k y x hy I hx; unfold nF at q; omega).symm
theorem B1 (c:ar) (sA:OA) (sC:Nat) (at_:Int) (hc:eT c) (ha:0≤at_∧at_≤90000000):
 dT Tryz.prog 178 [(vA (dp.cells (dp.mk c.dg (br.mk sA c.bo.length sC)))),(vI at_)] [(rd sA c.bo.length 3 (c.bo.map cx.cells))] (vA (aa.cells (ia c at_))):=by
 have e:=hc.len
 have W:=hc.rO
 refine bx kr Tryz.func178 U U fun j Q hQ hN=>?_
 try dsimp only
 refine WS fun _ R=>fK U fun g=>AL U de fun h=>RK R<|WS fun _ S=>AL U de fun d=>RK S<|ah fun _ T=>WS fun _ AA=>rP 1 [] mn ?_
 refine RK AA<|av ?_
 have A:(0≤c.bo.length):=by exact Nat.zero_le _
 refine bH (ι:={z:Nat // (z≤c.bo.length)}) [1,2,4,5] [1,2,3] U U (fun z=>[(6,(vI (z.1:Int)))]) (fun z=>[(bV d 40 (aa.cells (kG c at_ z.1)))]) (fun _=>rfl) (fun _=>rfl) (fun z=>c.bo.length-z.1) ⟨0,A⟩ (aT U) (aH [1,2,3,0]) ?_
 clear A
 rintro ⟨i,X⟩ J8 D
 try dsimp only
 refine ah fun _ V=>WS fun _ E=>rP 5 [] (mc 1 U mn) ?_
 refine RK E<|bL U (aM fun O=>?_) (aL fun O=>?_)
 ·refine bu<|ab<|ab<|au<|KK T<|WS fun _ J=>rP 1 [] (mc 3 U mn) ?_
  refine fP U cm U<|RK J<|an<|Ie hQ [0] (mc 0 U mn) U ?_
  rw [E3 hc (show c.bo.length≤i by omega)]
 refine WK V<|ah fun _ B=>av<|WS fun _ F=>rP 3 [] (mc 1 U mn) ?_
 obtain ⟨x,hx⟩:=aJ c.bo i I
 have Z:=bG cx.cells hx
 refine rS (IA i U (aD 2 U) p9 dc I I)<|rS (oH i 0 (cx.cells x) U bX (aD 2 U) Z U dc U U)<|AL U rN fun a=>fP U tD U<|RK F<|WS fun _ G=>rP 2 [] (mc 2 U mn) ?_
 have Y:=hc.uf hx
 have f:0≤o9 (c.dg*max (at_-x.At) (x.At-at_)) 1000000∧o9 (c.dg*max (at_-x.At) (x.At-at_)) 1000000≤90001:=uz W ha Y.1
 refine fw 8 [] (mc 0 U mn) U<|rS (MX U)<|rS (CL (wP c.dg (max (at_-x.At) (x.At-at_)) I I) (aI) U)<|bf 1 U<|RK G<|WS fun _ H=>fw 10 [] (mc 0 U mn) U<|rS (SX (bh (xs:=[(0,.tmp 38),(1,.tmp 43)]) (cs:=(aa.cells (aa.mk (x.ek.Lo-(o9 (c.dg*(max (at_-x.At) (x.At-at_))) 1000000)) (x.ek.Hi+(o9 (c.dg*(max (at_-x.At) (x.At-at_))) 1000000))))) U U (bg gf U)) U U)<|AL U de fun b=>fP U cm U<|RK H<|ah fun _ C=>WS fun _ AB=>rP 2 [] mn ?_
 refine RK AB<|bL U (aM fun P=>?_) (aL fun P=>?_)
 ·refine WK C<|aj<|fw 4 [0,1] (mc 5 U (mc 0 U mn)) U<|rS (MX U)<|rP 4 [0,1] (mc 5 U (mc 0 U mn)) ?_
  refine rS (MN U)<|rS (SX (bh (xs:=[(0,.tmp 52),(1,.tmp 57)]) (cs:=(aa.cells (aa.mk (max ((kG c at_ i).Lo) (x.ek.Lo-(o9 (c.dg*(max (at_-x.At) (x.At-at_))) 1000000))) (min ((kG c at_ i).Hi) (x.ek.Hi+(o9 (c.dg*(max (at_-x.At) (x.At-at_))) 1000000)))))) U U (bg gf U)) U U)<|Ic U cm U<|aC<|aG<|KK B ?_
  have M:(aa.cells (aa.mk (max ((kG c at_ i).Lo) (x.ek.Lo-(o9 (c.dg*(max (at_-x.At) (x.At-at_))) 1000000))) (min ((kG c at_ i).Hi) (x.ek.Hi+(o9 (c.dg*(max (at_-x.At) (x.At-at_))) 1000000)))))=(aa.cells (kG c at_ (i+1))):=by exact congrArg aa.cells (CI hx I).symm
  rw [M]
  refine aj<|rP 3 [] mn ?_
  refine aC ?_
  have N:(vI (((i+1):Nat):Int))=(vI ((i:Int)+1)):=by exact cI I
  refine aS (D ⟨(i+1),(by first|omega|(simp only []; omega))⟩ _ _ _ U os (ct 4<|aX U N<|dh.nil _) (aH [2,3,4,5]))
 refine aj<|fw 1 [] (mc 0 U mn) U<|Ic U cm U<|RK C<|aj<|fw 4 [0,1] (mc 5 U (mc 0 U mn)) U<|rS (MX U)<|rP 4 [0,1] (mc 5 U (mc 0 U mn)) ?_
 refine rS (MN U)<|rS (SX (bh (xs:=[(0,.tmp 52),(1,.tmp 57)]) (cs:=(aa.cells (aa.mk (max (x.ek.Lo-(o9 (c.dg*(max (at_-x.At) (x.At-at_))) 1000000)) (x.ek.Lo-(o9 (c.dg*(max (at_-x.At) (x.At-at_))) 1000000))) (min (x.ek.Hi+(o9 (c.dg*(max (at_-x.At) (x.At-at_))) 1000000)) (x.ek.Hi+(o9 (c.dg*(max (at_-x.At) (x.At-at_))) 1000000)))))) U U (bg gf U)) U U)<|Ic U cm U<|aC<|aG<|KK B ?_
 have K:(aa.cells (aa.mk (max (x.ek.Lo-(o9 (c.dg*(max (at_-x.At) (x.At-at_))) 1000000)) (x.ek.Lo-(o9 (c.dg*(max (at_-x.At) (x.At-at_))) 1000000))) (min (x.ek.Hi+(o9 (c.dg*(max (at_-x.At) (x.At-at_))) 1000000)) (x.ek.Hi+(o9 (c.dg*(max (at_-x.At) (x.At-at_))) 1000000)))))=(aa.cells (kG c at_ (i+1))):=by exact congrArg aa.cells (Ab hc ha hx I).symm
 rw [K]
 refine aj<|rP 3 [] mn ?_
 refine aC ?_
 have L:(vI (((i+1):Nat):Int))=(vI ((i:Int)+1)):=by exact cI I
 refine aS (D ⟨(i+1),(by first|omega|(simp only []; omega))⟩ _ _ _ U os (ct 4<|aX U L<|dh.nil _) (aH [2,3,4,5]))
theorem Iw (l:a_) (kA:OA) (kC:Nat) (az:List RA) (cA:OA) (cC:Nat) (bA:OA) (bC:Nat) (n:Int) (hin:er l az) (htr:cT l.aP=true) (hbk: ∀ b∈l.ae,jS l b) (hn:0≤n∧n<(l.ae.length:Int)):
 dT Tryz.prog 156 [(vA (ck.cells (lk l kA kC cA cC bA bC))),(vI n)] [(rd kA l.aP.length 9 (l.aP.map al.cells)),(rd cA l.ak.length 2 (List.zipWith ar.cells l.ak az)),(eW (aV ar.gZ l.ak az)),(rd bA l.ae.length 4 (l.ae.map bD.cells))] (vI (lU l n.toNat)):=by
 have AA:=hin.sH
 have S:=hin.sI
 have P:=hin.ov
 have R:=hin.sD
 have T:=hin.side
 refine bx kr Tryz.func156 U U fun X Q hQ hN=>?_
 try dsimp only
 refine WS fun _ G=>fK U fun V=>bf 1 U<|RK G<|ah fun _ H=>WS fun _ AB=>rP 2 [] mn ?_
 refine RK AB<|cy U (aL fun F=>?_) (aM fun F=>?_)
 ·refine ah fun _ J=>dG cu [11,12] [] [] [0,1,2,3,4] [] U U U U U<|eS U (FA 0 U fu U)<|eS U (LP (bE.cells (bE.mk (br.mk kA l.aP.length kC))) 0 U bX U U U)<|eS U (FA 3 U fu U)<|eS U (L1 (vS bA l.ae.length bC) 0 U bX U U) ?_
  obtain ⟨y,hy⟩:=aJ l.ae 0 I
  have A:=bG bD.cells hy
  refine eS U (IA 0 U (aD 4 U) vE dc U I)<|eS U (nR (0*4) U (aD 4 U) (Nat.mul_pos I dc) fu U)<|eS U (oH 0 0 (cD.cells y.mH) U bX (aD 4 U) A U dc U U)<|eS U (CL (SA l.aP kA kC y.mH asm asm) (bj [1]) U)<|eS U (MV U)<|eS U (EX U)<|eS U (EX U)<|eS U (AG U)<|eV U<|bY U fun T6 L=>AL U de fun W=>aC (L _ _ (aH [1,2,3,4,5]) ?_)
  refine bY U fun T8 M=>fP U cm U<|aC (M _ _ (aH [1,2,3,4,5]) ?_)
  refine fF U<|KK J<|WS fun _ K=>rP 3 [] (mc 0 U mn) ?_
  refine RK K<|an<|Q1 hQ U U U ?_
  (refine congrArg (Value.int .i64) ?_; rw [show n.toNat=0 by omega]; rw [yX hy,(wy htr (hbk _ (List.mem_of_getElem? hy)).1).2])
 refine WK H<|ah fun _ B=>dG cu [19,20] [] [] [0,1,2,3,4] [] U U U U U<|eS U (FA 0 U fu U)<|eS U (LP (bE.cells (bE.mk (br.mk kA l.aP.length kC))) 0 U bX U U U)<|eS U (FA 3 U fu U)<|eS U (L1 (vS bA l.ae.length bC) 0 U bX U U)<|eS U (MV U)<|eS U (BI U (rM ⟨I,I⟩)) ?_
 obtain ⟨y,hy⟩:=aJ l.ae (((n-1)).toNat) I
 have A:=bG bD.cells hy
 refine eS U (IA (((n-1)).toNat) U (aD 4 U) vE dc I I)<|eS U (nR ((((n-1)).toNat)*4) U (aD 4 U) (Nat.mul_pos I dc) fu U)<|eS U (oH (((n-1)).toNat) 0 (cD.cells y.mH) U bX (aD 4 U) A U dc U U)<|eS U (FA 3 U fu U)<|eS U (L1 (vS bA l.ae.length bC) 0 U bX U U)<|eS U (MV U) ?_
 obtain ⟨x,hx⟩:=aJ l.ae ((n).toNat) I
 have N:=bG bD.cells hx
 refine eS U (IA ((n).toNat) U (aD 4 U) vE dc I I)<|eS U (nR (((n).toNat)*4) U (aD 4 U) (Nat.mul_pos I dc) fu U)<|eS U (oH ((n).toNat) 0 (cD.cells x.mH) U bX (aD 4 U) N U dc U U)<|eS U (CL (Le l.aP kA kC y.mH x.mH asm asm) (bj [1]) U)<|eS U (MV U)<|eS U (EX U)<|eS U (EX U)<|eS U (AG U)<|eV U<|bY U fun T11 D=>AL U de fun O=>aC (D _ _ (aH [1,2,3,4,5]) ?_)
 refine bY U fun T13 E=>fP U cm U<|aC (E _ _ (aH [1,2,3,4,5]) ?_)
 refine fF U<|KK B<|WS fun _ C=>rP 3 [] (mc 0 U mn) ?_
 refine RK C<|an<|Q1 hQ U U U ?_
 (refine congrArg (Value.int .i64) ?_; rw [BO I hx (by rw [show n.toNat-1=(n-1).toNat by omega]; exact hy),(k9 htr ⟨(hbk _ (List.mem_of_getElem? hy)).1,(hbk _ (List.mem_of_getElem? hx)).1⟩).2])
theorem JK (l:a_) (kA:OA) (kC:Nat) (az:List RA) (cA:OA) (cC:Nat) (bA:OA) (bC:Nat) (n:Int) (hin:er l az) (htr:cT l.aP=true) (hok:kT l) (hn:0≤n∧n<(l.ae.length:Int)):
 dT Tryz.prog 176 [(vA (ck.cells (lk l kA kC cA cC bA bC))),(vI n)] [(rd kA l.aP.length 9 (l.aP.map al.cells)),(rd cA l.ak.length 2 (List.zipWith ar.cells l.ak az)),(eW (aV ar.gZ l.ak az)),(rd bA l.ae.length 4 (l.ae.map bD.cells))] (vI (dN l n.toNat)):=by
 have G:=hin.sH
 have F:=hin.sI
 have D:=hin.ov
 have E:=hin.sD
 have C:=hok.head
 unfold gp at C
 have H:=F3 htr hok.vD n.toNat
 have AA:=hok.Q7 n.toNat I
 refine bx kr Tryz.func176 U U fun K Q hQ hN=>?_
 try dsimp only
 refine WS fun _ A=>fK U fun J=>bf 1 U<|RK A<|ah fun _ B=>dA cu 12 kr<|mJ 2 [] (mc 0 U mn) U<|dS (CL (Iw l kA kC az cA cC bA bC n hin htr (by exact hok.vD) hn) (bj [1,2,3,4]) U)<|dS (BI U (Fi ⟨I,I⟩))<|mJ 6 [] (mc 0 U mn) U<|dS (BI U (sL I I I))<|dP 1 [] mn ?_
 refine cL<|RK B<|an<|Q1 hQ U U U ?_
 exact cI (by unfold dN o9; rw [Int.mul_comm])
theorem Nu (l:a_) (kA:OA) (kC:Nat) (az:List RA) (cA:OA) (cC:Nat) (bA:OA) (bC:Nat) (hin:er l az) (htr:cT l.aP=true):
 dT Tryz.prog 136 [(vA (ck.cells (lk l kA kC cA cC bA bC)))] [(rd kA l.aP.length 9 (l.aP.map al.cells)),(rd cA l.ak.length 2 (List.zipWith ar.cells l.ak az)),(eW (aV ar.gZ l.ak az)),(rd bA l.ae.length 4 (l.ae.map bD.cells))] (vB (decide (kT l))):=by
 have Ae:=hin.sH
 have Aa:=hin.sI
 have AX:=hin.ov
 have AZ:=hin.sD
 have Ab:=hin.side
 have Ac:=jH htr
 have AW:=kK htr
 refine bx kr Tryz.func136 U U fun w0 Q hQ hN=>?_
 try dsimp only
 refine WS fun _ AM=>fK U fun b2=>bf 1 U<|RK AM<|ah fun _ AN=>WS fun _ D=>fw 2 [] (mc 0 U mn) U<|rS (CL (iy l.hO 1 5000) (aI) U)<|rP 2 [] mn ?_
 refine cR (t:=10) U (bq fun AC=>?_) (bp fun AC=>?_)
 ·refine bf 35 U<|RK D<|aO U<|WS fun _ AO=>rP 1 [] mn ?_
  refine RK AO<|an<|Q1 hQ U U U ?_
  exact cB (cf fun h=>by have q:=h.head; unfold gp at q; omega).symm
 refine fw 3 [] (mc 0 U mn) U<|rS (CL (iy (l.ak.length:Int) 1 4) (aI) U)<|rP 3 [] mn ?_
 refine cR (t:=17) U (bq fun AD=>?_) (bp fun AD=>?_)
 ·refine bf 28 U<|RK D<|aO U<|WS fun _ AP=>rP 1 [] mn ?_
  refine RK AP<|an<|Q1 hQ U U U ?_
  exact cB (cf fun h=>by have q:=h.head; unfold gp at q; omega).symm
 refine fw 3 [] (mc 0 U mn) U<|rS (CL (iy (l.ae.length:Int) 1 6) (aI) U)<|rP 3 [] mn ?_
 refine cR (t:=24) U (bq fun AE=>?_) (bp fun AE=>?_)
 ·refine bf 21 U<|RK D<|aO U<|WS fun _ AQ=>rP 1 [] mn ?_
  refine RK AQ<|an<|Q1 hQ U U U ?_
  exact cB (cf fun h=>by have q:=h.head; unfold gp at q; omega).symm
 refine fw 6 [] (mc 0 U mn) U<|rS (CL (iy l.cH 0 ((l.ae.length:Int)-1)) (aI) U)<|rP 3 [] mn ?_
 refine cR (t:=34) U (bq fun AF=>?_) (bp fun AF=>?_)
 ·refine bf 11 U<|RK D<|aO U<|WS fun _ AR=>rP 1 [] mn ?_
  refine RK AR<|an<|Q1 hQ U U U ?_
  exact cB (cf fun h=>by have q:=h.head; unfold gp at q; omega).symm
 refine fw 2 [] (mc 0 U mn) U<|rS (CL (iy l.eU 0 3) (aI) U)<|rP 3 [] mn ?_
 refine cR (t:=40) U (bq fun AG=>?_) (bp fun AG=>?_)
 ·refine bf 5 U<|RK D<|aO U<|WS fun _ AS=>rP 1 [] mn ?_
  refine RK AS<|an<|Q1 hQ U U U ?_
  exact cB (cf fun h=>by have q:=h.head; unfold gp at q; omega).symm
 refine fw 2 [] (mc 0 U mn) U<|rS (CL (iy l.cV 0 3) (aI) U)<|rP 2 [] mn ?_
 refine RK D<|cy U (bq fun AH=>?_) (bp fun AH=>?_)
 ·refine WS fun _ N=>rP 1 [] mn ?_
  refine RK N<|an<|Q1 hQ U U U ?_
  exact cB (cf fun h=>by have q:=h.head; unfold gp at q; omega).symm
 refine WK AN<|ah fun _ O=>WS fun _ R=>rP 1 [] mn ?_
 refine RK R<|av ?_
 have A:(0≤l.ak.length)∧(∀ (j:Nat) y,j<0→l.ak[j]? =some y→eT y):=by exact ⟨Nat.zero_le _,fun j y hj=>absurd hj (Nat.not_lt_zero _)⟩
 refine bH (ι:={z:Nat // (z≤l.ak.length)∧(∀ (j:Nat) y,j<z→l.ak[j]? =some y→eT y)}) [1] [0,1,2,3,4] U U (fun z=>[(3,(vI (z.1:Int)))]) (fun z=>[]) (fun _=>rfl) (fun _=>rfl) (fun z=>l.ak.length-z.1) ⟨0,A⟩ (aT U) (aH [0,1,2,3,4]) ?_
 clear A
 rintro ⟨i,⟨AT,F⟩⟩ J13 K
 try dsimp only
 refine ah fun _ S=>WS fun _ T=>rP 5 [] (mc 0 U mn) ?_
 refine RK T<|cy U (aL fun AI=>?_) (aM fun AI=>?_)
 ·refine WK S<|ah fun _ Af=>av<|WS fun _ V=>rP 3 [] (mc 0 U mn) ?_
  obtain ⟨x,hx⟩:=aJ l.ak i I
  obtain ⟨xa,J⟩:=aJ az i I
  have AV:(List.zipWith ar.cells l.ak az)[i]? =some (ar.cells x xa):=dy hx J
  refine rS (IA i U (aD 2 U) zR dc I I)<|rS (oH i 0 (dp.cells (dp.mk x.dg (br.mk xa.1 x.bo.length xa.2))) U bX (aD 2 U) AV U dc U U) ?_
  have Ad:=(hin.Q4 _ _ _ hx J).2
  refine rS (CL (IW x xa.1 xa.2 asm) (aw (show ij _ (rd xa.1 x.bo.length 3 (x.bo.map cx.cells)).holds from (du 3 U (bM hx J (by simp [ar.gZ]))))<|aI) U)<|rP 1 [] mn ?_
  refine RK V<|bL U (bp fun Ag=>?_) (bq fun Ag=>?_)
  ·refine bZ<|aG<|KK Af<|aj<|rP 3 [] mn ?_
   refine aC ?_
   have u:(vI (((i+1):Nat):Int))=(vI ((i:Int)+1)):=by exact cI I
   refine aS (K ⟨(i+1),⟨I,lM (P:=fun _ y=>eT y) F hx Ag⟩⟩ _ _ _ U os (dh.cons U<|aX U u<|dh.nil _) (aH [0,1,2,3,4]))
  refine WS fun _ W=>rP 1 [] mn ?_
  refine RK W<|an<|Q1 hQ U U U ?_
  exact cB (cf fun h=>Ag (h.clock _ (aR hx))).symm
 refine bu<|ab<|ab<|au<|KK O<|ah fun _ X=>WS fun _ Y=>rP 1 [] mn ?_
 refine RK Y<|av ?_
 have A:(0≤l.ae.length)∧(∀ (j:Nat) y,j<0→l.ae[j]? =some y→jS l y):=by exact ⟨Nat.zero_le _,fun j y hj=>absurd hj (Nat.not_lt_zero _)⟩
 refine bH (ι:={z:Nat // (z≤l.ae.length)∧(∀ (j:Nat) y,j<z→l.ae[j]? =some y→jS l y)}) [1] [0,1,2,3,4] U U (fun z=>[(4,(vI (z.1:Int)))]) (fun z=>[]) (fun _=>rfl) (fun _=>rfl) (fun z=>l.ae.length-z.1) ⟨0,A⟩ (aT U) (aH [0,1,2,3,4]) ?_
 clear A
 rintro ⟨m,⟨AU,B⟩⟩ J22 L
 try dsimp only
 refine ah fun _ Z=>WS fun _ a=>rP 5 [] (mc 0 U mn) ?_
 refine RK a<|bL U (aM fun AJ=>?_) (aL fun AJ=>?_)
 ·refine bu<|ab<|ab<|au<|KK X<|ah fun _ e=>WS fun _ f=>rP 1 [] mn ?_
  refine RK f<|av ?_
  have A:(0≤l.ae.length)∧(∀ j,j<0→1≤lU l j):=by exact ⟨Nat.zero_le _,fun j hj=>absurd hj (Nat.not_lt_zero _)⟩
  refine bH (ι:={z:Nat // (z≤l.ae.length)∧(∀ j,j<z→1≤lU l j)}) [1] [0,1,2,3,4] U U (fun z=>[(5,(vI (z.1:Int)))]) (fun z=>[]) (fun _=>rfl) (fun _=>rfl) (fun z=>l.ae.length-z.1) ⟨0,A⟩ (aT U) (aH [0,1,2,3,4]) ?_
  clear A
  rintro ⟨n,⟨AB,C⟩⟩ J32 M
  try dsimp only
  have AY:=xU (P:=jS l) I B
  refine ah fun _ g=>WS fun _ k=>rP 5 [] (mc 0 U mn) ?_
  refine RK k<|bL U (aM fun AL=>?_) (aL fun AL=>?_)
  ·refine bu<|ab<|ab<|au<|KK e<|WS fun _ s=>rP 1 [] mn ?_
   refine RK s<|an<|Q1 hQ U U U ?_
   exact cB (fI (yr (by unfold gp; omega) (xU I F) (xU I B) (fun j hj=>C j I))).symm
  refine WK g<|ah fun _ o=>av<|WS fun _ p=>fw 2 [] (mc 0 U mn) U<|rS (CL (Iw l kA kC az cA cC bA bC (n:Int) hin htr asm I) (bj [1,2,3,4]) U)<|rP 1 [] mn ?_
  refine RK p<|bL U (aM fun E=>?_) (aL fun E=>?_)
  ·refine bZ<|aG<|KK o<|aj<|rP 3 [] mn ?_
   refine aC ?_
   have w:(vI (((n+1):Nat):Int))=(vI ((n:Int)+1)):=by exact cI I
   refine aS (M ⟨(n+1),⟨I,fun j hj=>by rcases Nat.lt_or_ge j n with q|q; exact C j q; (obtain rfl:j=n:=by omega); simp only [Int.toNat_natCast] at E; omega⟩⟩ _ _ _ rfl os (dh.cons rfl<|aX rfl w<|dh.nil _) (aH [0,1,2,3,4]))
  refine WS fun _ r=>rP 1 [] mn ?_
  refine RK r<|an<|Q1 hQ U U U ?_
  exact cB (cf fun h=>by have q:=h.Q7 n I; simp only [Int.toNat_natCast] at E; omega).symm
 refine WK Z<|ah fun _ b=>av<|ah fun _ H=>dA cu 24 kr<|lJ 1 U<|dS (LP (bE.cells (bE.mk (br.mk kA l.aP.length kC))) 0 U bX U U U)<|dP 3 [] (mc 0 U mn) ?_
 obtain ⟨y,hy⟩:=aJ l.ae m I
 have AA:=bG bD.cells hy
 refine dS (IA m U (aD 4 U) vE dc I I)<|dS (nR (m*4) U (aD 4 U) (Nat.mul_pos I dc) fu U)<|dS (oH m 0 (cD.cells y.mH) U bX (aD 4 U) AA U dc U U)<|dS (CL (qV l.aP kA kC y.mH asm asm) (bj [1]) U)<|dP 2 [] mn ?_
 refine iY (t:=77) U (bq fun G=>?_) (bp fun G=>?_)
 ·refine lJ 13 U<|cL<|RK H<|aO U<|WS fun _ c=>rP 1 [] mn ?_
  refine RK c<|an<|Q1 hQ U U U ?_
  exact cB (cf fun h=>by have q:=h.vD _ (aR hy); have q2:=q.2; first|exact G q.1|omega).symm
 refine mJ 3 [] (mc 0 U mn) U<|dS (IA m U (aD 4 U) vE dc I I)<|dS (nR ((m*4)+3) U (aD 4 U) (Nat.mul_pos I dc) fu U)<|dS (fV m 3 (vI y.jV) U bX (aD 4 U) AA U dc U)<|mJ 4 [] (mc 0 U mn) U<|dS (CL (iy y.jV 0 ((l.ak.length:Int)-1)) (aI) U)<|dP 2 [] mn ?_
 refine cL<|RK H<|bL U (bp fun AK=>?_) (bq fun AK=>?_)
 ·refine bZ<|aG<|KK b<|aj<|rP 3 [] mn ?_
  refine aC ?_
  have v:(vI (((m+1):Nat):Int))=(vI ((m:Int)+1)):=by exact cI I
  refine aS (L ⟨(m+1),⟨I,lM (P:=fun _ y=>jS l y) B hy ⟨G,I,I⟩⟩⟩ _ _ _ U os (dh.cons U<|aX U v<|dh.nil _) (aH [0,1,2,3,4]))
 refine WS fun _ d=>rP 1 [] mn ?_
 refine RK d<|an<|Q1 hQ U U U ?_
 exact cB (cf fun h=>by have q:=h.vD _ (aR hy); have q2:=q.2; first|exact G q.1|omega).symm
end
section
open Go.RowKit
theorem CS (l:a_) (kA:OA) (kC:Nat) (az:List RA) (cA:OA) (cC:Nat) (bA:OA) (bC:Nat) (hin:er l az):
 dT Tryz.prog 111 [(vA (ck.cells (lk l kA kC cA cC bA bC)))] [(rd kA l.aP.length 9 (l.aP.map al.cells)),(rd cA l.ak.length 2 (List.zipWith ar.cells l.ak az)),(eW (aV ar.gZ l.ak az)),(rd bA l.ae.length 4 (l.ae.map bD.cells))] (vI (dq l)):=by
 have N:=hin.sH
 have M:=hin.sI
 have K:=hin.ov
 have L:=hin.sD
 refine bx kr Tryz.func111 U U fun P Q hQ hN=>?_
 try dsimp only
 refine WS fun _ C=>fK U fun O=>bf 1 U<|RK C<|ah fun _ D=>WS fun _ E=>bf 1 U<|rS (LP (bE.cells (bE.mk (br.mk kA l.aP.length kC))) 0 U bX U U U)<|rS (CL (vO l.aP kA kC asm) (bj [1]) U)<|rP 1 [] mn ?_
 refine RK E<|cy U (fun A=>?_) (fun A=>?_)
 ·rw [Bool.not_eq_true'] at A
  refine WS fun _ F=>rP 1 [] mn ?_
  refine RK F<|an<|Q1 hQ U U U ?_
  exact cI (yD (by simpa using A)).symm
 rw [Bool.not_eq_false'] at A
 refine WK D<|ah fun _ G=>WS fun _ H=>fw 1 [] (mc 0 U mn) U<|rS (CL (Nu l kA kC az cA cC bA bC hin asm) (bj [1,2,3,4]) U)<|rP 1 [] mn ?_
 refine RK H<|cy U (bq fun B=>?_) (bp fun B=>?_)
 ·refine WS fun _ AA=>rP 1 [] mn ?_
  refine RK AA<|an<|Q1 hQ U U U ?_
  exact cI (qL A B).symm
 refine WK G<|WS fun _ J=>rP 1 [] mn ?_
 refine RK J<|an<|Q1 hQ U U U ?_
 exact cI (xX A B).symm
theorem NI (l:a_) (kA:OA) (kC:Nat) (az:List RA) (cA:OA) (cC:Nat) (bA:OA) (bC:Nat) (s:aK) (hin:er l az) (hok:kT l) (hs:(0≤s.gd∧s.gd≤(l.ae.length:Int)-1)∧0≤s.Read∧s.Read≤86400000):
 dT Tryz.prog 177 [(vA (ck.cells (lk l kA kC cA cC bA bC))),(vA (aK.cells s))] [(rd kA l.aP.length 9 (l.aP.map al.cells)),(rd cA l.ak.length 2 (List.zipWith ar.cells l.ak az)),(eW (aV ar.gZ l.ak az)),(rd bA l.ae.length 4 (l.ae.map bD.cells))] (vT [(vA (aa.cells (cz l s))),(vB (decide ((cz l s).Lo≤(cz l s).Hi)))]):=by
 have AE:=hin.sH
 have AD:=hin.sI
 have AB:=hin.ov
 have AC:=hin.sD
 refine bx kr Tryz.func177 U U fun w0 Q hQ hN=>?_
 try dsimp only
 refine WS fun _ i=>fK U fun b2=>fK U fun b3=>AL U de fun b4=>rP 1 [] mn ?_
 refine RK i<|ah fun _ j=>dG cu [11,12] [] [] [0,1,2,3,4,5,6] [] U U U U U<|eS U (FA 2 U fu U)<|eS U (L1 (vS cA l.ak.length cC) 2 U bX U U)<|eS U (FA 3 U fu U)<|eS U (L1 (vS bA l.ae.length bC) 2 U bX U U)<|eS U (FA 0 U fu U)<|eS U (L1 (vI s.gd) 1 U bX U U) ?_
 obtain ⟨y,hy⟩:=aJ l.ae ((s.gd).toNat) I
 have w:=bG bD.cells hy
 refine eS U (IA ((s.gd).toNat) U (aD 6 U) vE dc I I)<|eS U (nR ((((s.gd).toNat)*4)+3) U (aD 6 U) (Nat.mul_pos I dc) fu U)<|eS U (fV ((s.gd).toNat) 3 (vI y.jV) U bX (aD 6 U) w U dc U) ?_
 have AF:=(hok.vD _ (aR hy)).2
 obtain ⟨x,hx⟩:=aJ l.ak ((y.jV).toNat) I
 obtain ⟨xa,J⟩:=aJ az ((y.jV).toNat) I
 have u:(List.zipWith ar.cells l.ak az)[(y.jV).toNat]? =some (ar.cells x xa):=dy hx J
 refine eS U (IA ((y.jV).toNat) U (aD 4 U) zR dc I I)<|eS U (oH ((y.jV).toNat) 0 (dp.cells (dp.mk x.dg (br.mk xa.1 x.bo.length xa.2))) U bX (aD 4 U) u U dc U U)<|eV U<|bY U fun T6 m=>AL U Lv fun b7=>aC (m _ _ (aH [1,2,3,4,5,6,7]) ?_)
 refine bY U fun T8 o=>fP U O4 U<|aC (o _ _ (aH [1,2,3,4,5,6,7]) ?_)
 refine fF U<|KK j<|WS fun _ k=>rP 2 [] mn ?_
 refine RK k<|ah fun _ K=>av ?_
 have A:(0≤(0:Int)∧(0:Int)≤(fj (fX x s.Read) 86400001))∧((fj (fX x s.Read) 86400001)≤(86400001:Int)∧(86400001:Int)≤86400001):=by (have Z:=hU (p:=fX x s.Read) (n:=86400001); omega)
 refine bH (ι:={z:Int×Int // (0≤z.1∧z.1≤(fj (fX x s.Read) 86400001))∧((fj (fX x s.Read) 86400001)≤z.2∧z.2≤86400001)}) [2,3,4,6] [0,1,2,3,4,5,6,7] U U (fun z=>[(7,(vI z.1.1)),(8,(vI z.1.2))]) (fun z=>[]) (fun _=>rfl) (fun _=>rfl) (fun z=>(z.1.2-z.1.1).toNat) ⟨((0:Int),(86400001:Int)),A⟩ (aT U) (aH [0,1,2,3,4,5,6,7]) ?_
 clear A
 rintro ⟨⟨a,b⟩,⟨H,AG⟩⟩ J11 F
 try dsimp only at H AG
 try dsimp only
 have B:=hok.clock _ (aR hx)
 have Z:=hU (p:=fX x s.Read) (n:=86400001)
 have Y:=hU (p:=fW x s.Read) (n:=86400001)
 refine ah fun _ L=>WS fun _ M=>rP 3 [] mn ?_
 refine RK M<|cy U (aL fun c=>?_) (aM fun c=>?_)
 ·refine WK L<|av<|WS fun _ N=>bf 3 U<|rS (BI U (sL I I I))<|bf 1 U<|RK N<|ah fun _ O=>dA cu 9 kr<|dP 3 [] (mc 0 U mn) ?_
  refine dS (CL (B1 x xa.1 xa.2 ((a+b)/2) asm I) (aw (show ij _ (rd xa.1 x.bo.length 3 (x.bo.map cx.cells)).holds from (du 6 U (bM hx J (by simp [ar.gZ]))))<|aI) U)<|dS (SX (kR (v:=(vI ((ia x ((a+b)/2)).Hi))) U U fu z_ U) U U) ?_
  have t:=qK B (show 0≤(a+b)/2∧(a+b)/2≤90000000 by omega)
  refine dP 4 [] (mc 2 U mn) ?_
  refine cL<|RK O<|cy U (aL fun g=>?_) (aM fun g=>?_)
  ·refine aj<|rP 2 [] mn ?_
   refine aC<|aG ?_
   refine aS (F ⟨(a,((a+b)/2)),(by dsimp only; have hm:=kP (r:=s.Read) B (x:=(a+b)/2) I I; rcases Int.lt_or_le ((a+b)/2) (fj (fX x s.Read) 86400001) with q|q; (have C:=hm.1 q; simp only [fX,decide_eq_false_iff_not] at C; omega); (have C:=hm.2.1 q; simp only [fX,decide_eq_true_eq] at C; omega))⟩ _ _ _ rfl (by simp only []; omega) (aT rfl) (aH [0,1,2,3,4,5,6,7]))
  refine aj<|rP 3 [] mn ?_
  refine aC<|aG ?_
  refine aS (F ⟨((((a+b)/2)+1),b),(by dsimp only; have hm:=kP (r:=s.Read) B (x:=(a+b)/2) I I; rcases Int.lt_or_le ((a+b)/2) (fj (fX x s.Read) 86400001) with q|q; (have C:=hm.1 q; simp only [fX,decide_eq_false_iff_not] at C; omega); (have C:=hm.2.1 q; simp only [fX,decide_eq_true_eq] at C; omega))⟩ _ _ _ rfl (by simp only []; omega) (aT rfl) (aH [0,1,2,3,4,5,6,7]))
 refine bu<|ab<|ab<|au<|KK K<|WS fun _ P=>bf 2 U<|RK P<|WS fun _ R=>rP 2 [] mn ?_
 refine RK R<|ah fun _ S=>av ?_
 have A:(-1≤((-1):Int)∧((-1):Int)≤(fj (fW x s.Read) 86400001)-1)∧((fj (fW x s.Read) 86400001)-1≤(86400000:Int)∧(86400000:Int)≤86400000):=by (have Y:=hU (p:=fW x s.Read) (n:=86400001); omega)
 refine bH (ι:={z:Int×Int // (-1≤z.1∧z.1≤(fj (fW x s.Read) 86400001)-1)∧((fj (fW x s.Read) 86400001)-1≤z.2∧z.2≤86400000)}) [2,3,4,6,10] [0,1,2,3,4,5,6,7] U U (fun z=>[(7,(vI z.1.1)),(8,(vI z.1.2))]) (fun z=>[]) (fun _=>rfl) (fun _=>rfl) (fun z=>(z.1.2-z.1.1).toNat) ⟨(((-1):Int),(86400000:Int)),A⟩ (aT U) (aH [0,1,2,3,4,5,6,7]) ?_
 clear A
 rintro ⟨⟨d,e⟩,⟨D,E⟩⟩ J20 G
 try dsimp only at D E
 try dsimp only
 have B:=hok.clock _ (aR hx)
 have Z:=hU (p:=fX x s.Read) (n:=86400001)
 have Y:=hU (p:=fW x s.Read) (n:=86400001)
 refine ah fun _ T=>WS fun _ AA=>rP 3 [] mn ?_
 refine RK AA<|bL U (aM fun f=>?_) (aL fun f=>?_)
 ·refine bu<|ab<|ab<|au<|KK S<|WS fun _ X=>bf 2 U<|rS (SX (bh (xs:=[(0,.tmp 63),(1,.tmp 64)]) (cs:=(aa.cells (aa.mk a d))) U U (bg gf U)) U U)<|bf 3 U<|ua U cm U<|rP 1 [] mn ?_
  refine RK X<|an<|lh hQ [0] (mc 1 U mn) U ?_
  have e0:cz l s=⟨a,d⟩:=by (unfold cz qv; rw [xq hy hx,show a=(fj (fX x s.Read) 86400001) by omega,show d=(fj (fW x s.Read) 86400001)-1 by omega])
  rw [e0]
 refine WK T<|av<|WS fun _ V=>bf 4 U<|rS (BI U (sL I I I))<|bf 1 U<|RK V<|ah fun _ W=>dA cu 9 kr<|dP 3 [] (mc 0 U mn) ?_
 refine dS (CL (B1 x xa.1 xa.2 (((d+e)+1)/2) asm I) (aw (show ij _ (rd xa.1 x.bo.length 3 (x.bo.map cx.cells)).holds from (du 6 U (bM hx J (by simp [ar.gZ]))))<|aI) U)<|dS (SX (kR (v:=(vI ((ia x (((d+e)+1)/2)).Lo))) U U fu zX U) U U) ?_
 have t:=qK B (show 0≤(d+e+1)/2∧(d+e+1)/2≤90000000 by omega)
 refine dP 4 [] (mc 2 U mn) ?_
 refine cL<|RK W<|cy U (aL fun h=>?_) (aM fun h=>?_)
 ·refine aj<|rP 2 [] mn ?_
  refine aC<|aG ?_
  refine aS (G ⟨((((d+e)+1)/2),e),(by dsimp only; have hm:=kP (r:=s.Read) B (x:=(d+e+1)/2) I I; rcases Int.lt_or_le ((d+e+1)/2) (fj (fW x s.Read) 86400001) with q|q; (have C:=hm.2.2.1 q; simp only [fW,decide_eq_false_iff_not] at C; omega); (have C:=hm.2.2.2 q; simp only [fW,decide_eq_true_eq] at C; omega))⟩ _ _ _ rfl (by simp only []; omega) (aT rfl) (aH [0,1,2,3,4,5,6,7]))
 refine aj<|rP 3 [] mn ?_
 refine aC<|aG ?_
 refine aS (G ⟨(d,((((d+e)+1)/2)-1)),(by dsimp only; have hm:=kP (r:=s.Read) B (x:=(d+e+1)/2) I I; rcases Int.lt_or_le ((d+e+1)/2) (fj (fW x s.Read) 86400001) with q|q; (have C:=hm.2.2.1 q; simp only [fW,decide_eq_false_iff_not] at C; omega); (have C:=hm.2.2.2 q; simp only [fW,decide_eq_true_eq] at C; omega))⟩ _ _ _ rfl (by simp only []; omega) (aT rfl) (aH [0,1,2,3,4,5,6,7]))
end
section
open Go.RowKit
theorem Ng (l:a_) (kA:OA) (kC:Nat) (az:List RA) (cA:OA) (cC:Nat) (bA:OA) (bC:Nat) (r:cv) (sgA:OA) (sgC:Nat) (hin:er l az) (hsl:r.ag.length≤1000000):
 dT Tryz.prog 172 [(vA (ck.cells (lk l kA kC cA cC bA bC))),(vA (eC.cells (mD r sgA sgC)))] [(rd kA l.aP.length 9 (l.aP.map al.cells)),(rd cA l.ak.length 2 (List.zipWith ar.cells l.ak az)),(eW (aV ar.gZ l.ak az)),(rd bA l.ae.length 4 (l.ae.map bD.cells)),(rd sgA r.ag.length 2 (r.ag.map aK.cells))] (vB (decide (e7 l r))):=by
 have AC:=hin.sH
 have AB:=hin.sI
 have w:=hin.ov
 have AA:=hin.sD
 refine bx kr Tryz.func172 U U fun w0 Q hQ hN=>?_
 try dsimp only
 refine WS fun _ h=>fK U fun b2=>fK U fun b3=>bf 1 U<|RK h<|ah fun _ j=>WS fun _ H=>fw 2 [] (mc 0 U mn) U<|rS (CL (iy r.Start 0 86400000) (aI) U)<|rP 2 [] mn ?_
 refine cR (t:=11) U (bq fun X=>?_) (bp fun X=>?_)
 ·refine bf 13 U<|RK H<|aO U<|WS fun _ k=>rP 1 [] mn ?_
  refine RK k<|an<|Q1 hQ U U U ?_
  exact cB (cf fun q=>by have C:=q.time; have u:=q.len; omega).symm
 refine fw 4 [] (mc 0 U mn) U<|rS (CL (iy r.fZ r.Start 86400000) (aI) U)<|rP 3 [] mn ?_
 refine cR (t:=19) U (bq fun Z=>?_) (bp fun Z=>?_)
 ·refine bf 5 U<|RK H<|aO U<|WS fun _ m=>rP 1 [] mn ?_
  refine RK m<|an<|Q1 hQ U U U ?_
  exact cB (cf fun q=>by have C:=q.time; have u:=q.len; omega).symm
 refine rP 5 [] (mc 0 U mn) ?_
 refine RK H<|cy U (aL fun a=>?_) (aM fun a=>?_)
 ·refine WS fun _ n=>rP 1 [] mn ?_
  refine RK n<|an<|Q1 hQ U U U ?_
  exact cB (cf fun q=>by have C:=q.time; have u:=q.len; omega).symm
 refine WK j<|ah fun _ o=>WS fun _ J=>rP 1 [] mn ?_
 refine RK J<|av ?_
 have F:(0≤r.ag.length)∧(qc l r.ag 0):=by exact ⟨Nat.zero_le _,yZ⟩
 refine bH (ι:={z:Nat // (z≤r.ag.length)∧(qc l r.ag z)}) [2,3] [0,1,2,3,4,5,6] U U (fun z=>[(5,(vI (z.1:Int)))]) (fun z=>[]) (fun _=>rfl) (fun _=>rfl) (fun z=>r.ag.length-z.1) ⟨0,F⟩ (aT U) (aH [0,1,2,3,4,5,6]) ?_
 clear F
 rintro ⟨i,⟨p,A⟩⟩ J11 D
 try dsimp only
 refine ah fun _ K=>WS fun _ L=>rP 5 [] (mc 0 U mn) ?_
 refine RK L<|bL U (aM fun Y=>?_) (aL fun Y=>?_)
 ·refine bu<|ab<|ab<|au<|KK o<|WS fun _ T=>rP 1 [] mn ?_
  refine RK T<|an<|Q1 hQ U U U ?_
  exact cB (fI (C_ I I A I)).symm
 refine WK K<|ah fun _ E=>av<|WS fun _ M=>rP 3 [] (mc 0 U mn) ?_
 obtain ⟨x,hx⟩:=aJ r.ag i I
 have s:=bG aK.cells hx
 refine rS (IA i U (aD 6 U) Aj dc I I)<|rS (oH i 0 (aK.cells x) U bX (aD 6 U) s U dc U U)<|AL U F_ fun v=>fP U wo U<|RK M<|ah fun _ N=>WS fun _ G=>fw 6 [0,1] (mc 0 U (mc 2 U mn)) U<|rS (CL (iy x.gd 0 ((l.ae.length:Int)-1)) (aI) U)<|rP 2 [] mn ?_
 refine cR (t:=45) U (bq fun b=>?_) (bp fun b=>?_)
 ·refine bf 5 U<|RK G<|aO U<|WS fun _ O=>rP 1 [] mn ?_
  refine RK O<|an<|Q1 hQ U U U ?_
  exact cB (cf fun q=>by have C:=q.sig i x hx; unfold j_ ld at C; omega).symm
 refine fw 2 [] (mc 0 U mn) U<|rS (CL (iy x.Read 0 86400000) (aI) U)<|rP 2 [] mn ?_
 refine RK G<|cy U (bq fun c=>?_) (bp fun c=>?_)
 ·refine WS fun _ P=>rP 1 [] mn ?_
  refine RK P<|an<|Q1 hQ U U U ?_
  exact cB (cf fun q=>by have C:=q.sig i x hx; unfold j_ ld at C; omega).symm
 refine WK N<|ah fun _ B=>dA cu 38 kr<|dP 3 [] mn ?_
 refine jh (t:=53) U (aM fun d=>?_) (aL fun d=>?_)
 ·refine lJ 35 U<|cL<|RK B<|aW U<|bZ<|aG<|KK E<|aj<|rP 3 [] mn ?_
  refine aC ?_
  have W:(vI (((i+1):Nat):Int))=(vI ((i:Int)+1)):=by exact cI I
  refine aS (D ⟨(i+1),⟨I,lP A hx (by unfold j_ ld; (rw [Gz I]; simp only; omega))⟩⟩ _ _ _ U os (dh.cons U<|dh.cons U<|aX U W<|dh.nil _) (aH [1,2,3,4,5,6,7]))
 refine dP 6 [0,1] (mc 0 U (mc 1 U mn)) ?_
 obtain ⟨y,hy⟩:=aJ r.ag (i-1) I
 have AE:=bG aK.cells hy
 refine dS (IA (i-1) U (aD 7 U) Aj dc I I)<|dS (nR ((i-1)*2) U (aD 7 U) (Nat.mul_pos I dc) fu U)<|dS (fV (i-1) 0 (vI y.gd) U bX (aD 7 U) AE U dc U)<|dP 2 [] mn ?_
 refine iY (t:=64) U (aL fun e=>?_) (aM fun e=>?_)
 ·refine lJ 24 U<|cL<|RK B<|aO U<|WS fun _ R=>rP 1 [] mn ?_
  refine RK R<|an<|Q1 hQ U U U ?_
  exact cB (cf fun q=>by have C:=q.sig i x hx; unfold j_ ld at C; (rw [qS I hy] at C; omega)).symm
 refine mJ 6 [0,1] (mc 0 U (mc 1 U mn)) U<|dS (IA (i-1) U (aD 7 U) Aj dc I I)<|dS (nR ((i-1)*2) U (aD 7 U) (Nat.mul_pos I dc) fu U)<|dS (fV (i-1) 0 (vI y.gd) U bX (aD 7 U) AE U dc U)<|dP 2 [] mn ?_
 refine jh (t:=75) U (aM fun f=>?_) (aL fun f=>?_)
 ·refine lJ 13 U<|cL<|RK B<|aW U<|bZ<|aG<|KK E<|aj<|rP 3 [] mn ?_
  refine aC ?_
  have V:(vI (((i+1):Nat):Int))=(vI ((i:Int)+1)):=by exact cI I
  refine aS (D ⟨(i+1),⟨I,lP A hx (by unfold j_ ld; (rw [qS I hy]; omega))⟩⟩ _ _ _ U os (dh.cons U<|dh.cons U<|aX U V<|dh.nil _) (aH [1,2,3,4,5,6,7]))
 refine mJ 6 [0,1] (mc 0 U (mc 1 U mn)) U<|dS (IA (i-1) U (aD 7 U) Aj dc I I)<|dS (nR (((i-1)*2)+1) U (aD 7 U) (Nat.mul_pos I dc) fu U)<|dS (fV (i-1) 1 (vI y.Read) U bX (aD 7 U) AE U dc U)<|dP 4 [] mn ?_
 refine cL<|RK B<|cy U (aL fun g=>?_) (aM fun g=>?_)
 ·refine WS fun _ S=>rP 1 [] mn ?_
  refine RK S<|an<|Q1 hQ U U U ?_
  exact cB (cf fun q=>by have C:=q.sig i x hx; unfold j_ ld at C; (rw [qS I hy] at C; omega)).symm
 refine bZ<|aG<|KK E<|aj<|rP 3 [] mn ?_
 refine aC ?_
 have AD:(vI (((i+1):Nat):Int))=(vI ((i:Int)+1)):=by exact cI I
 refine aS (D ⟨(i+1),⟨I,lP A hx (by unfold j_ ld; (rw [qS I hy]; omega))⟩⟩ _ _ _ U os (dh.cons U<|dh.cons U<|aX U AD<|dh.nil _) (aH [1,2,3,4,5,6,7]))
end
section
open Go.RowKit
theorem Oj (l:a_) (kA:OA) (kC:Nat) (az:List RA) (cA:OA) (cC:Nat) (bA:OA) (bC:Nat) (r:cv) (sgA:OA) (sgC:Nat) (hin:er l az) (hle:dq l=0) (hr:e7 l r):
 lq Tryz.prog 174 [(vA (ck.cells (lk l kA kC cA cC bA bC))),(vA (eC.cells (mD r sgA sgC)))] [(rd kA l.aP.length 9 (l.aP.map al.cells)),(rd cA l.ak.length 2 (List.zipWith ar.cells l.ak az)),(eW (aV ar.gZ l.ak az)),(rd bA l.ae.length 4 (l.ae.map bD.cells)),(rd sgA r.ag.length 2 (r.ag.map aK.cells))] (fun (x:(OA)×Nat×(OA)×Nat×(OA)×Nat)=>(vA (im.cells (im.mk (br.mk x.1 ((cG l l.ae.length).length) x.2.1) (br.mk x.2.2.1 ((eK l r r.ag.length).length) x.2.2.2.1) (br.mk x.2.2.2.2.1 ((e8 l r r.ag.length).length) x.2.2.2.2.2))))) (fun (x:(OA)×Nat×(OA)×Nat×(OA)×Nat)=>True) (fun (x:(OA)×Nat×(OA)×Nat×(OA)×Nat)=>[(own x.1 x.2.1 3 1 ((cG l l.ae.length).map iC)),(own x.2.2.1 x.2.2.2.1 40 2 ((eK l r r.ag.length).map aa.cells)),(own x.2.2.2.2.1 x.2.2.2.2.2 4 1 ((e8 l r r.ag.length).map pR))]):=by
 have AM:=hin.sH
 have AF:=hin.sI
 have AD:=hin.ov
 have AE:=hin.sD
 obtain ⟨w,g⟩:=gF hle
 have t:=g.head
 unfold gp at t
 have AJ:=hr.len
 have AK:=hr.time
 refine dj kr Tryz.func174 U U fun w0 Q hQ hN=>?_
 try dsimp only
 refine WS fun _ n=>fK U fun b2=>fK U fun b3=>AL U O1 fun b4=>RK n<|WS fun _ o=>AL U O1 fun h=>RK o<|ah fun _ p=>WS fun _ q=>rP 1 [] mn ?_
 refine RK q<|av<|fT 3 1 ?_
 have A:(0≤l.ae.length):=by exact Nat.zero_le _
 refine bH (ι:={z:Nat×(OA)×Nat // (z.1≤l.ae.length)}) [2,3,4,5] [2,3,4,5,6,7,8,9] U U (fun z=>[(6,(vI (z.1.1:Int)))]) (fun z=>[(own z.1.2.1 z.1.2.2 3 1 ((cG l z.1.1).map iC)),(bV h 238 (im.cells (im.mk (br.mk z.1.2.1 ((cG l z.1.1).length) z.1.2.2) (br.mk none 0 0) (br.mk none 0 0))))]) (fun _=>rfl) (fun _=>rfl) (fun z=>l.ae.length-z.1.1) ⟨(0,none,0),A⟩ (aT U) (aH [2,3,4,5,6,7,8,9,0,1]) ?_
 clear A
 rintro ⟨⟨b,a,c⟩,F⟩ J9 m
 try dsimp only at F
 try dsimp only
 refine ah fun _ K=>WS fun _ L=>rP 5 [] (mc 2 U mn) ?_
 refine RK L<|cy U (aL fun j=>?_) (aM fun j=>?_)
 ·refine WK K<|ah fun _ M=>av<|dG cu [5,6,8] [1] [0] [0,1,2,3,4,5,6,7] [0,1,2,3,4,5,6,7,8,9] U U U U U<|eS U (FA 0 U fu U)<|fS U (L1 (vS a ((cG l b).length) c) 9 U bX U U)<|eS U (LW 2 U bX U U)<|eS U (MV U) ?_
  have AH:=m6 w g (i:=b) I
  refine eS U (CL (JK l kA kC az cA cC bA bC (b:Int) hin asm asm I) (bj [3,4,5,6]) U)<|eS U (FA 0 U fu U)<|eV U<|iB U fun T14 W=>cU (xs:=[.tmp 21]) (cs:=[(vI (dN l (b:Int).toNat))]) U cq jd U U U U (by simp [Value.cells]) U U fun y=>aC (W _ _ (aH [1,2,3,4,5,6,7,8]) (aH [1,2,3,4,5,6,7,8,9,10]) ?_)
  refine bY U fun T16 X=>?_
  refine db (es2:=(List.map iC (cG l (b+1)))) (m':=(cG l (b+1)).length) 9 U U U pX U U sm (aZ (es:=List.map iC [(dN l (b:Int).toNat)]) 0 U U (by simp [bB]) U) (kf _) (by simp only [dU]; omega) (by simp only [maxLen,dU]; omega) (by rw [vt]; simp) sm U fun H AO=>?_
  try dsimp only
  refine aC (X _ _ (aH [1,2,3,4,5,6,7,8]) ?_)
  refine bY U fun T19 Y=>Vo (im.cells (im.mk (br.mk H ((cG l (b+1)).length) AO) (br.mk none 0 0) (br.mk none 0 0))) U AI U U<|aC (Y _ _ (aH [1,2,3,4,5,6,7,8]) ?_)
  refine fF U<|aG<|KK M<|aj<|rP 3 [] mn ?_
  refine aC ?_
  have e:(vI (((b+1):Nat):Int))=(vI ((b:Int)+1)):=by exact cI I
  refine aS (m ⟨((b+1),H,AO),(by first|omega|(simp only []; omega))⟩ _ _ _ U os (ct 4<|aX U e<|dh.nil _) (aH [1,2,3,4,5,6,7,8,9,10]))
 refine bu<|ab<|ab<|au<|KK p<|ah fun _ N=>WS fun _ O=>?_
 rw [show cG l b=(cG l l.ae.length) from by rw [show b=l.ae.length by omega]]
 refine rP 1 [] mn ?_
 refine RK O<|av<|fT 40 2<|fT 4 1 ?_
 have A:(0≤r.ag.length):=by exact Nat.zero_le _
 refine bH (ι:={z:Nat×(OA)×Nat×(OA)×Nat // (z.1≤r.ag.length)}) [2,3,4,5] [2,3,4,5,6,7,8,9,10] U U (fun z=>[(7,(vI (z.1.1:Int)))]) (fun z=>[(own z.1.2.2.2.1 z.1.2.2.2.2 4 1 ((e8 l r z.1.1).map pR)),(own z.1.2.1 z.1.2.2.1 40 2 ((eK l r z.1.1).map aa.cells)),(bV h 238 (im.cells (im.mk (br.mk a ((cG l l.ae.length).length) c) (br.mk z.1.2.1 ((eK l r z.1.1).length) z.1.2.2.1) (br.mk z.1.2.2.2.1 ((e8 l r z.1.1).length) z.1.2.2.2.2))))]) (fun _=>rfl) (fun _=>rfl) (fun z=>r.ag.length-z.1.1) ⟨(0,none,0,none,0),A⟩ (aT U) (aH [2,3,4,5,6,7,8,9,10,0,1,11]) ?_
 clear A
 rintro ⟨⟨i,ta,tc,sa,sc⟩,G⟩ J23 J
 try dsimp only at G
 try dsimp only
 refine ah fun _ P=>WS fun _ R=>rP 5 [] (mc 1 U mn) ?_
 refine RK R<|bL U (aM fun k=>?_) (aL fun k=>?_)
 ·refine bu<|ab<|ab<|au<|KK N<|WS fun _ V=>?_
  rw [show eK l r i=(eK l r r.ag.length) from by rw [show i=r.ag.length by omega]]
  rw [show e8 l r i=(e8 l r r.ag.length) from by rw [show i=r.ag.length by omega]]
  refine rP 1 [] (mc 11 U mn) ?_
  refine fP U Rd U<|RK V<|an<|LX hQ (a,c,ta,tc,sa,sc) [8,10,9] [0] (mc 0 U mn) U U U U ?_
  trivial
 refine WK P<|ah fun _ S=>av<|ah fun _ T=>dG cu [10,11] [] [] [0,1,2,3,4,5,6,7,8,9,10,11] [] U U U U U<|eS U (LW 2 U bX U U)<|eS U (FA 2 U fu U)<|eS U (L1 (vS sgA r.ag.length sgC) 1 U bX U U)<|eS U (MV U) ?_
 obtain ⟨s,hs⟩:=aJ r.ag i I
 have v:=bG aK.cells hs
 refine eS U (IA i U (aD 7 U) Aj dc I I)<|eS U (oH i 0 (aK.cells s) U bX (aD 7 U) v U dc U U) ?_
 have u:=(hr.sig i s hs).1
 refine eS U (CL (NI l kA kC az cA cC bA bC s hin asm (by exact u)) (bj [3,4,5,6]) U)<|eS U (MV U)<|eS U (EX U)<|eS U (EX U)<|eS U (AG U)<|eV U<|bY U fun T29 Z=>AL U de fun AA=>aC (Z _ _ (aH [1,2,3,4,5,6,7,8,9,10,11,12]) ?_)
 refine bY U fun T31 d=>fP U cm U<|aC (d _ _ (aH [1,2,3,4,5,6,7,8,9,10,11,12]) ?_)
 refine fF U<|KK T<|WS fun _ AN=>rP 3 [0,1] (mc 12 U (mc 0 U mn)) ?_
 refine cU (xs:=[.tmp 44]) (cs:=(aa.cells (cz l s))) U jN de U U U U (by simp [Value.cells,aa.aU]) U U fun AB=>?_
 refine db (es2:=(List.map aa.cells (eK l r (i+1)))) (m':=(eK l r (i+1)).length) 12 U U U DM U U sm (aZ (es:=List.map aa.cells [(cz l s)]) 0 U U (by simp [aa.aU]) U) (gS _) (by rw [rn I]; omega) (by rw [rn I]; simp only [maxLen]; omega) (by rw [DO hs]; simp) sm U fun B C=>?_
 try dsimp only
 refine bf 1 U<|jl (vs:=[(vS B ((eK l r (i+1)).length) C)]) (cs':=(im.cells (im.mk (br.mk a ((cG l l.ae.length).length) c) (br.mk B ((eK l r (i+1)).length) C) (br.mk sa ((e8 l r i).length) sc)))) (C':=[_,_,_,_,_,_,_,_,_,_,_,_,_,(bV h 238 (im.cells (im.mk (br.mk a ((cG l l.ae.length).length) c) (br.mk B ((eK l r (i+1)).length) C) (br.mk sa ((e8 l r i).length) sc))))]) 13 U U U Ut U U U U U U U<|RK AN<|aj<|rP 3 [] (mc 13 U mn) ?_
 refine cU (xs:=[.tmp 50]) (cs:=[(vB (decide ((cz l s).Lo≤(cz l s).Hi)))]) U Ps VH U U U U (by simp [Value.cells]) U U fun AC=>?_
 refine db (es2:=(List.map pR (e8 l r (i+1)))) (m':=(e8 l r (i+1)).length) 12 U U U Tc U U sm (aZ (es:=List.map pR [(decide ((cz l s).Lo≤(cz l s).Hi))]) 0 U U (by simp [Ad]) U) (Hd _) (by rw [uQ I]; omega) (by rw [uQ I]; simp only [maxLen]; omega) (by rw [D9 hs]; simp) sm U fun D E=>?_
 try dsimp only
 refine bf 1 U<|jl (vs:=[(vS D ((e8 l r (i+1)).length) E)]) (cs':=(im.cells (im.mk (br.mk a ((cG l l.ae.length).length) c) (br.mk B ((eK l r (i+1)).length) C) (br.mk D ((e8 l r (i+1)).length) E)))) (C':=[_,_,_,_,_,_,_,_,_,_,_,_,_,_,(bV h 238 (im.cells (im.mk (br.mk a ((cG l l.ae.length).length) c) (br.mk B ((eK l r (i+1)).length) C) (br.mk D ((e8 l r (i+1)).length) E))))]) 14 U U U RB U U U U U U U<|aC<|aG<|KK S<|aj<|bf 2 U<|rP 1 [] mn ?_
 refine aC ?_
 have f:(vI (((i+1):Nat):Int))=(vI ((i:Int)+1)):=by exact cI I
 refine aS (J ⟨((i+1),B,C,D,E),(by first|omega|(simp only []; omega))⟩ _ _ _ U os (ct 4<|aX U f<|dh.nil _) (aH [3,4,5,6,7,8,9,10,11,12,13,14]))
theorem Md (r:cv) (sgA:OA) (sgC:Nat) (l:a_) (wA:OA) (wC:Nat) (tA:OA) (tC:Nat) (bA:OA) (bC:Nat) (rs:List Int) (rsA:OA) (rsC:Nat) (hle:dq l=0) (hr:e7 l r) (hn:rs.length≤l.ae.length) (hrs: ∀ x∈rs,0≤x→x<(r.ag.length:Int)):
 lq Tryz.prog 175 [(vA (eC.cells (mD r sgA sgC))),(vA (im.cells (im.mk (br.mk wA ((cG l l.ae.length).length) wC) (br.mk tA ((eK l r r.ag.length).length) tC) (br.mk bA ((e8 l r r.ag.length).length) bC)))),(vS rsA rs.length rsC)] [(rd sgA r.ag.length 2 (r.ag.map aK.cells)),(rd wA ((cG l l.ae.length).length) 1 ((cG l l.ae.length).map iC)),(rd tA ((eK l r r.ag.length).length) 2 ((eK l r r.ag.length).map aa.cells)),(rd bA ((e8 l r r.ag.length).length) 1 ((e8 l r r.ag.length).map pR)),(rd rsA rs.length 1 (rs.map iC))] (fun (x:(OA)×Nat)=>(vS x.1 ((jk l r rs).length) x.2)) (fun (x:(OA)×Nat)=>True) (fun (x:(OA)×Nat)=>[(own x.1 x.2 3 1 ((jk l r rs).map iC))]):=by
 obtain ⟨J,D⟩:=gF hle
 have v:=D.head
 unfold gp at v
 have AG:=hr.len
 have AH:=hr.time
 have w:=Fy (l:=l) (rs:=rs) ⟨I,I⟩ (fun b hb=>by have:=m6 J D (i:=b) I; omega) hrs
 have AE:=dU (l:=l) (n:=l.ae.length)
 have AI:=rn (l:=l) (Nat.le_refl r.ag.length)
 refine dj kr Tryz.func175 U U fun w0 Q hQ hN=>?_
 try dsimp only
 refine WS fun _ h=>fK U fun b2=>fK U fun b3=>bf 1 U<|RK h<|WS fun _ m=>rP 2 [] mn ?_
 refine xh (n:=rs.length) (es:=(List.map iC (List.replicate rs.length 0))) U U U pX I I (by simp only [maxLen]; omega) (by rw [List.map_replicate]; rfl) U fun E=>?_
 try dsimp only
 refine bf 1 U<|RK m<|WS fun _ p=>fw 3 [] (mc 2 U mn) U<|RK p<|ah fun _ q=>WS fun _ t=>rP 4 [] mn ?_
 refine RK t<|av ?_
 rw [show (own (some ⟨E,0,none⟩) rs.length 3 1 (List.map iC (List.replicate rs.length 0)))=(own (some ⟨E,0,none⟩) rs.length 3 1 ((jD l r rs rs.length).map iC)) from by rw [Hz]]
 have B:(rs.length≤rs.length):=by exact Nat.le_refl _
 have u:(vI ((jx l r rs rs.length).2))=(vI r.fZ):=by rw [uk]
 refine bH (ι:={z:Nat // (z≤rs.length)}) [2,3,4,7] [1,2,3,4,5,6,7] U U (fun z=>[(8,(vI ((jx l r rs z.1).2))),(9,(vI ((z.1:Int)-1)))]) (fun z=>[(own (some ⟨E,0,none⟩) rs.length 3 1 ((jD l r rs z.1).map iC))]) (fun _=>rfl) (fun _=>rfl) (fun z=>z.1) ⟨rs.length,B⟩ (aX U u<|aT U) (aH [1,2,3,4,5,6,7,0]) ?_
 clear B
 rintro ⟨j,AA⟩ J10 F
 try dsimp only
 have AF:=HA (l:=l) (r:=r) (rs:=rs) (j:=j) I
 refine ah fun _ L=>WS fun _ M=>rP 2 [] mn ?_
 refine RK M<|bL U (aM fun g=>?_) (aL fun g=>?_)
 ·refine bu<|ab<|ab<|au<|KK q<|WS fun _ R=>rP 1 [] mn ?_
  rw [show (Value.slice (some ⟨E,0,none⟩) rs.length rs.length)=(Value.slice (some ⟨E,0,none⟩) ((jk l r rs).length) rs.length) from by rw [show (jk l r rs).length=rs.length from qU _ _]]
  rw [show jD l r rs j=jk l r rs from by rw [show j=0 by omega]; exact Ec]
  refine rP 1 [] mn ?_
  refine RK R<|an<|LX hQ ((some ⟨E,0,none⟩),rs.length) [7] [] mn U U U U ?_
  trivial
 refine WK L<|ah fun _ G=>av<|ah fun _ H=>WS fun _ N=>rP 2 [] mn ?_
 have AD:=w (rs.length-j) j I
 obtain ⟨x,hx⟩:=aJ rs (j-1) I
 have d:=bG iC hx
 refine rS (IA (j-1) U (aD 6 U) cq dc I I)<|rS (fV (j-1) 0 (vI x) U bX (aD 6 U) d U dc U)<|rP 1 [] mn ?_
 refine RK N<|bL U (aM fun A=>?_) (aL fun A=>?_)
 ·refine WK H<|WS fun _ P=>rP 3 [] mn ?_
  obtain ⟨AL,c⟩:=aJ (jD l r rs j) (j-1) I
  have hx25m:=bG iC c
  refine rS (IA (j-1) U (ai (n:=rs.length) 7 U sq) cq dc I I) ?_
  have V:((jD l r rs j).set (j-1) ((jx l r rs j).2))=(jD l r rs (j-1)):=by (rw [← yU I hx]; congr 1; unfold tP; (rw [if_neg A]; done))
  refine eu (k:=(j-1)) (o:=0) (vs:=[(vI ((jx l r rs j).2))]) (es':=(List.map iC (jD l r rs (j-1)))) (C':=[_,_,_,_,_,_,_,(own (some ⟨E,0,none⟩) rs.length 3 1 (List.map iC (jD l r rs (j-1))))]) 7 U U U Cg U U U U hx25m U dc (by exact (List.map_set (f:=iC) (l:=(jD l r rs j)) (i:=(j-1)) (a:=(jx l r rs j).2)).symm.trans (congrArg _ V)) U<|RK P<|aj<|rP 4 [] (mc 0 U mn) ?_
  obtain ⟨y,hy⟩:=aJ (cG l l.ae.length) (j-1) I
  have K:=bG iC hy
  refine rS (IA (j-1) U (aD 3 U) cq dc I I)<|rS (fV (j-1) 0 (vI y) U bX (aD 3 U) K U dc U) ?_
  have C:=uE hy
  have AN:=m6 J D (i:=j-1) I
  rw [← C] at AN
  refine bf 2 U<|aC<|aG<|KK G<|aj<|rP 3 [] mn ?_
  refine aC ?_
  have W:(vI ((jx l r rs (j-1)).2))=(vI (((jx l r rs j).2)-y)):=by exact cI (by rw [pH I hx]; simp only; unfold tP; rw [C]; (rw [if_neg A]; done))
  have X:(vI ((((j-1):Nat):Int)-1))=(vI (((j:Int)-1)-1)):=by exact cI I
  refine aS (F ⟨(j-1),(by first|omega|(simp only []; omega))⟩ _ _ _ U os (ct 4<|aX U W<|aX U X<|dh.nil _) (aH [0,1,2,3,4,5,6,7]))
 refine dA cu 12 kr<|dP 5 [] (mc 0 U mn) ?_
 refine dS (IA (j-1) U (aD 6 U) cq dc I I)<|dS (fV (j-1) 0 (vI x) U bX (aD 6 U) d U dc U) ?_
 have AJ:=hrs x (aR hx) A
 obtain ⟨z,hz⟩:=aJ (eK l r r.ag.length) ((x).toNat) I
 have AC:=bG aa.cells hz
 refine dS (IA ((x).toNat) U (aD 4 U) jN dc I I)<|dS (nR ((((x).toNat)*2)+1) U (aD 4 U) (Nat.mul_pos I dc) fu U) ?_
 obtain ⟨s,hs,e⟩:=Kg hz
 have AB:=xQ l s
 rw [← e] at AB
 have Y:Mx l r x=z.Hi:=by rw [DS hs,e]
 refine dS (fV ((x).toNat) 1 (vI z.Hi) U bX (aD 4 U) AC U dc U)<|dS (MN U)<|lJ 1 U<|cL<|RK H<|WS fun _ O=>rP 3 [] mn ?_
 obtain ⟨AK,Z⟩:=aJ (jD l r rs j) (j-1) I
 have hx19m:=bG iC Z
 refine rS (IA (j-1) U (ai (n:=rs.length) 7 U sq) cq dc I I) ?_
 have S:((jD l r rs j).set (j-1) (min ((jx l r rs j).2) z.Hi))=(jD l r rs (j-1)):=by (rw [← yU I hx]; congr 1; unfold tP; (rw [if_pos A,Y]; done))
 refine eu (k:=(j-1)) (o:=0) (vs:=[(vI (min ((jx l r rs j).2) z.Hi))]) (es':=(List.map iC (jD l r rs (j-1)))) (C':=[_,_,_,_,_,_,_,(own (some ⟨E,0,none⟩) rs.length 3 1 (List.map iC (jD l r rs (j-1))))]) 7 U U U Cg U U U U hx19m U dc (by exact (List.map_set (f:=iC) (l:=(jD l r rs j)) (i:=(j-1)) (a:=(min ((jx l r rs j).2) z.Hi))).symm.trans (congrArg _ S)) U<|RK O<|aj<|rP 4 [] (mc 0 U mn) ?_
 obtain ⟨y,hy⟩:=aJ (cG l l.ae.length) (j-1) I
 have K:=bG iC hy
 refine rS (IA (j-1) U (aD 3 U) cq dc I I)<|rS (fV (j-1) 0 (vI y) U bX (aD 3 U) K U dc U) ?_
 have C:=uE hy
 have AN:=m6 J D (i:=j-1) I
 rw [← C] at AN
 refine bf 2 U<|aC<|aG<|KK G<|aj<|rP 3 [] mn ?_
 refine aC ?_
 have T:(vI ((jx l r rs (j-1)).2))=(vI ((min ((jx l r rs j).2) z.Hi)-y)):=by exact cI (by rw [pH I hx]; simp only; unfold tP; rw [C]; (rw [if_pos A,Y]; done))
 have AM:(vI ((((j-1):Nat):Int)-1))=(vI (((j:Int)-1)-1)):=by exact cI I
 refine aS (F ⟨(j-1),(by first|omega|(simp only []; omega))⟩ _ _ _ U os (ct 4<|aX U T<|aX U AM<|dh.nil _) (aH [0,1,2,3,4,5,6,7]))
end
section
open Go.RowKit
theorem G0 (l:a_) (kA:OA) (kC:Nat) (az:List RA) (cA:OA) (cC:Nat) (bA:OA) (bC:Nat) (r:cv) (sgA:OA) (sgC:Nat) (vwA:OA) (vwC:Nat) (vtA:OA) (vtC:Nat) (vbA:OA) (vbC k:Nat) (rs:List Int) (rA:OA) (rC:Nat) (fs:List Int) (fA:OA) (fC:Nat) (hin:er l az) (hle:dq l=0) (hr:e7 l r) (hk:rs.length+k=l.ae.length) (hfl:fs.length=rs.length) (hst:r.Start≤fU r.Start fs∧fU r.Start fs≤r.fZ) (hrs: ∀ x∈rs,-1≤x∧x<(r.ag.length:Int)) (hrec: ∀ (k2:Nat) (rs2:List Int) (rA2:OA) (rC2:Nat) (fs2:List Int) (fA2:OA) (fC2:Nat),(k2<k)→(rs2.length+k2=l.ae.length)→(fs2.length=rs2.length)→(r.Start≤fU r.Start fs2∧fU r.Start fs2≤r.fZ)→(∀ x∈rs2,-1≤x∧x<(r.ag.length:Int))→Dr Tryz.prog 173 [(vA (ck.cells (lk l kA kC cA cC bA bC))),(vA (eC.cells (mD r sgA sgC))),(vA (im.cells (im.mk (br.mk vwA ((cG l l.ae.length).length) vwC) (br.mk vtA ((eK l r r.ag.length).length) vtC) (br.mk vbA ((e8 l r r.ag.length).length) vbC)))),(vS rA2 rs2.length rC2),(vS fA2 fs2.length fC2)] [(rd kA l.aP.length 9 (l.aP.map al.cells)),(rd cA l.ak.length 2 (List.zipWith ar.cells l.ak az)),(eW (aV ar.gZ l.ak az)),(rd bA l.ae.length 4 (l.ae.map bD.cells)),(rd sgA r.ag.length 2 (r.ag.map aK.cells)),(rd vwA ((cG l l.ae.length).length) 1 ((cG l l.ae.length).map iC)),(rd vtA ((eK l r r.ag.length).length) 2 ((eK l r r.ag.length).map aa.cells)),(rd vbA ((e8 l r r.ag.length).length) 1 ((e8 l r r.ag.length).map pR))] (bw [own rA2 rC2 3 1 (rs2.map iC),own fA2 fC2 3 1 (fs2.map iC)]) (fun (x:(OA)×Nat×(List ki))=>(vS x.1 ((g7 l r k2 rs2 fs2).length) x.2.1)) (fun (x:(OA)×Nat×(List ki))=>x.2.2.length=(g7 l r k2 rs2 fs2).length) (fun (x:(OA)×Nat×(List ki))=>(bw (aV cZ.owns (g7 l r k2 rs2 fs2) x.2.2++[own x.1 x.2.1 241 3 (List.zipWith cZ.cells (g7 l r k2 rs2 fs2) x.2.2)])))):
 Dr Tryz.prog 173 [(vA (ck.cells (lk l kA kC cA cC bA bC))),(vA (eC.cells (mD r sgA sgC))),(vA (im.cells (im.mk (br.mk vwA ((cG l l.ae.length).length) vwC) (br.mk vtA ((eK l r r.ag.length).length) vtC) (br.mk vbA ((e8 l r r.ag.length).length) vbC)))),(vS rA rs.length rC),(vS fA fs.length fC)] [(rd kA l.aP.length 9 (l.aP.map al.cells)),(rd cA l.ak.length 2 (List.zipWith ar.cells l.ak az)),(eW (aV ar.gZ l.ak az)),(rd bA l.ae.length 4 (l.ae.map bD.cells)),(rd sgA r.ag.length 2 (r.ag.map aK.cells)),(rd vwA ((cG l l.ae.length).length) 1 ((cG l l.ae.length).map iC)),(rd vtA ((eK l r r.ag.length).length) 2 ((eK l r r.ag.length).map aa.cells)),(rd vbA ((e8 l r r.ag.length).length) 1 ((e8 l r r.ag.length).map pR))] (bw [own rA rC 3 1 (rs.map iC),own fA fC 3 1 (fs.map iC)]) (fun (x:(OA)×Nat×(List ki))=>(vS x.1 ((g7 l r k rs fs).length) x.2.1)) (fun (x:(OA)×Nat×(List ki))=>x.2.2.length=(g7 l r k rs fs).length) (fun (x:(OA)×Nat×(List ki))=>(bw (aV cZ.owns (g7 l r k rs fs) x.2.2++[own x.1 x.2.1 241 3 (List.zipWith cZ.cells (g7 l r k rs fs) x.2.2)]))):=by
 have Bl:=hin.sH
 have Bd:=hin.sI
 have Bb:=hin.ov
 have Bc:=hin.sD
 obtain ⟨BJ,Al⟩:=gF hle
 have BD:=Al.head
 unfold gp at BD
 have AD:=hr.len
 have Bi:=hr.time
 have Bh:=dU (l:=l) (n:=l.ae.length)
 have Bm:=rn (l:=l) (Nat.le_refl r.ag.length)
 have Bk:=uQ (l:=l) (Nat.le_refl r.ag.length)
 have Bn:=tT rs
 refine mF kr Tryz.func173 U U fun w0 Q hQ hN=>?_
 try dsimp only
 refine De 0 U U fun wz Sz hz=>?_
 try dsimp only
 refine WS fun _ A7=>fK U fun b2=>fK U fun b3=>fK U fun b4=>bf 1 U<|RK A7<|WS fun _ A8=>bf 1 U<|RK A8<|WS fun _ A9=>bf 4 U<|RK A9<|ah fun _ A_=>WS fun _ BA=>rP 1 [] mn ?_
 refine RK BA<|av ?_
 have C:(0≤rs.length):=by exact Nat.zero_le _
 have BB:(vI ((cW (rs.take 0)).right))=(vI 0):=by rfl
 refine bH (ι:={z:Nat // (z≤rs.length)}) [3,4,5,6,7,11,12] [0,1,2,3,4,5,6,7,8,9,10,11] U U (fun z=>[(13,(vI ((cW (rs.take z.1)).right))),(14,(vI (z.1:Int)))]) (fun z=>[]) (fun _=>rfl) (fun _=>rfl) (fun z=>rs.length-z.1) ⟨0,C⟩ (aX U BB<|aT U) (aH [0,1,2,3,4,5,6,7,8,9,10,11]) ?_
 clear C
 rintro ⟨i,BF⟩ J10 g
 try dsimp only
 have BH:=tT (rs.take i)
 rw [List.length_take] at BH
 refine ah fun _ AH=>WS fun _ AI=>rP 3 [] mn ?_
 refine RK AI<|cy U (aL fun A1=>?_) (aM fun A1=>?_)
 ·refine WK AH<|ah fun _ h=>av<|WS fun _ AJ=>rP 2 [] mn ?_
  obtain ⟨x,hx⟩:=aJ rs i I
  have BK:=bG iC hx
  refine rS (IA i U (show ij _ (rd rA rs.length 1 (rs.map iC)).holds from (pz (c:=rC) (e:=3) 3 U sm sm)) cq dc I I)<|rS (fV i 0 (vI x) U bX (show ij _ (rd rA rs.length 1 (rs.map iC)).holds from (pz (c:=rC) (e:=3) 3 U sm sm)) BK U dc U)<|rP 1 [] mn ?_
  refine RK AJ<|bL U (aM fun AB=>?_) (aL fun AB=>?_)
  ·refine bZ<|aG<|KK h<|aj<|rP 3 [] mn ?_
   refine aC ?_
   have AZ:(vI ((cW (rs.take (i+1))).right))=(vI ((cW (rs.take i)).right)):=by exact cI (by rw [tR hx]; (rw [if_neg AB]; exact Int.add_zero _))
   have Aa:(vI (((i+1):Nat):Int))=(vI ((i:Int)+1)):=by exact cI I
   refine aS (g ⟨(i+1),(by first|omega|(simp only []; omega))⟩ _ _ _ U os (ct 7<|aX U AZ<|aX U Aa<|dh.nil _) (aH [0,1,2,3,4,5,6,7,8,9,10,11]))
  refine aj<|bf 3 U<|aC<|aG<|KK h<|aj<|rP 3 [] mn ?_
  refine aC ?_
  have AX:(vI ((cW (rs.take (i+1))).right))=(vI (((cW (rs.take i)).right)+1)):=by exact cI (by rw [tR hx]; (rw [if_pos AB]; done))
  have AY:(vI (((i+1):Nat):Int))=(vI ((i:Int)+1)):=by exact cI I
  refine aS (g ⟨(i+1),(by first|omega|(simp only []; omega))⟩ _ _ _ U os (ct 7<|aX U AX<|aX U AY<|dh.nil _) (aH [0,1,2,3,4,5,6,7,8,9,10,11]))
 refine bu<|ab<|ab<|au<|KK A_<|ah fun _ AK=>ah fun _ AL=>?_
 rw [show rs.take i=rs from List.take_of_length_le I]
 refine aj<|rP 6 [] (mc 2 U mn) ?_
 refine RK AL<|cy U (aL fun A3=>?_) (aM fun A3=>?_)
 ·refine WS fun _ AM=>dH 241 3<|rP 1 [] mn ?_
  refine RK AM<|an<|Av (C1:=[(own none 0 241 3 [])]) hz [0] U U U<|QY (W:=g7 l r k rs fs) ?_
  rw [show (own none 0 241 3 [])=(own none 0 241 3 (List.zipWith cZ.cells (g7 l r k rs fs) [])) from by rw [ni I]; rfl]
  refine LM hQ (none,0,[]) 0 [] mn U (by show List.all _ _=true; rw [List.all_append,pD]; rfl) U ?_ ?_
  ·exact (by rw [ni I]; rfl)
  ·rw [ni I]; rfl
 refine WK AK ?_
 refine nV (ι:={z:(OA)×Nat×(List ki)×(List aq) // (xu l r rs fs (rA,rC) (fA,fC) z.2.2.1 z.2.2.2)}) [3,4,5,6,7,12] [0,1,2,3,4,5,6,7,8,9,10,11] U U (fun z=>[(11,(vS z.1.1 ((gL l r rs fs).length) z.1.2.1))]) (fun z=>[(own z.1.1 z.1.2.1 241 3 (List.zipWith cZ.cells (gL l r rs fs) z.1.2.2.1)),(bw z.1.2.2.2)]) (fun _=>rfl) (fun _=>rfl) ?_ fun K23 m=>?_
 ·rintro ⟨⟨oA,oC,E,LA⟩,H⟩
  try dsimp only at H
  try dsimp only
  have D:=H
  have BE:=D.len
  have Be:=xL (l:=l) (r:=r) (rs:=rs) (fs:=fs)
  refine ah fun _ V=>WS fun _ AN=>rP 4 [] (mc 2 U mn) ?_
  have Bo:=uh (l:=l) (r:=r) (rs:=rs) (fs:=fs) AD (k:=k) I
  refine rP 1 [] mn ?_
  refine RK AN<|cy U (aL fun A4=>?_) (aM fun A4=>?_)
  ·refine WS fun _ AO=>bf 1 U<|rP 1 [] mn ?_
   refine RK AO<|an ?_
   obtain rfl:k=0:=by omega
   refine Eh ?_
   try dsimp only
   refine Av (C1:=[(own oA oC 241 3 (List.zipWith cZ.cells (gL l r rs fs) E)),(bw LA),(bw (aV cZ.owns [] []))]) hz [13,14,0] U U (by simp only [fB,List.all_nil,Bool.and_true,cJ]; exact ⟨U,D.wr,pD _ _⟩) ?_
   refine Im (ra:=(rA,rC)) (fa:=(fA,fC)) (A':=(own oA oC 241 3 (List.zipWith cZ.cells (g7 l r 0 rs fs) E))) D ((List.append_nil _).trans (nB I).symm) (List.append_nil _) (by rw [nB I]) ?_
   refine LM hQ (oA,oC,E) 0 [] mn U (by show List.all _ _=true; rw [List.all_append,pD]; rfl) U ?_ ?_
   ·exact (by (rw [nB I]; rfl))
   ·rw [nB I]; exact BE
  refine WK V<|WS fun _ AP=>?_
  obtain ⟨B,rfl⟩: ∃ B,k=B+1:=⟨k-1,I⟩
  refine rP 3 [] (mc 1 U mn) ?_
  refine RK AP ?_
  refine nV (ι:=Unit) [3,4,5,6,7,11,12] [0,1,2,3,4,5,6,7,8,9,10,11,12,13] U U (fun z=>[(15,(vI (fU r.Start fs)))]) (fun z=>[]) (fun _=>rfl) (fun _=>rfl) ?_ fun K28 o=>?_
  ·intro _
   try dsimp only
   refine WS fun _ Z=>rP 4 [] (mc 0 U mn) ?_
   obtain ⟨yls,Ao⟩:=aJ (cG l l.ae.length) (rs.length) I
   have Ap:=bG iC Ao
   refine rS (IA rs.length U (aD 9 U) cq dc I I)<|rS (fV rs.length 0 (vI yls) U bX (aD 9 U) Ap U dc U) ?_
   have Bg:=m6 BJ Al (i:=rs.length) I
   rw [uE Ao]
   refine bf 2 U<|RK Z<|ah fun _ AQ=>WS fun _ AR=>rP 1 [] mn ?_
   refine RK AR<|av ?_
   rw [show (gL l r rs fs)=((gL l r rs fs)++(hP l r B rs fs 0)) from (List.append_nil _).symm]
   rw [show E=E++[] from (List.append_nil _).symm]
   refine oz ?_
   try dsimp only
   have C:(0≤r.ag.length+1)∧(([]:List ki).length=(hP l r B rs fs 0).length):=by exact ⟨Nat.zero_le _,rfl⟩
   have d:(vI ((0:Int)-1))=(vI (-1)):=by exact cI I
   refine bH (ι:={z:Nat×(OA)×Nat×(List ki) // (z.1≤r.ag.length+1)∧(z.2.2.2.length=(hP l r B rs fs z.1).length)}) [3,4,5,6,7,12,15] [1,2,3,4,5,6,7,8,9,10,11,12,14] U U (fun z=>[(11,(vS z.1.2.1 (((gL l r rs fs)++(hP l r B rs fs z.1.1)).length) z.1.2.2.1)),(16,(vI ((z.1.1:Int)-1)))]) (fun z=>[(bw (aV cZ.owns (hP l r B rs fs z.1.1) z.1.2.2.2)),(own z.1.2.1 z.1.2.2.1 241 3 (List.zipWith cZ.cells ((gL l r rs fs)++(hP l r B rs fs z.1.1)) (E++z.1.2.2.2)))]) (fun _=>rfl) (fun _=>rfl) (fun z=>r.ag.length+1-z.1.1) ⟨(0,oA,oC,([]:List ki)),C⟩ (dh.cons U<|aX U d<|dh.nil _) (aH [1,2,3,4,5,6,7,8,9,10,11,12,14,0,13]) ?_
   clear C
   rintro ⟨⟨j,M,N,azW⟩,⟨f,A⟩⟩ J33 O
   try dsimp only at f A
   try dsimp only
   have BI:=Kt (l:=l) (r:=r) (k:=B) (j:=j) (rs:=rs) (fs:=fs) AD I I
   refine ah fun _ AS=>WS fun _ AT=>rP 5 [] (mc 1 U mn) ?_
   refine RK AT<|bL U (aM fun A2=>?_) (aL fun A2=>?_)
   ·refine bu<|ab<|ab<|au<|KK AQ<|WS fun _ AW=>bf 1 U<|rP 1 [] mn ?_
    refine RK AW<|an ?_
    refine Av (C1:=[(own M N 241 3 (List.zipWith cZ.cells ((gL l r rs fs)++(hP l r B rs fs j)) (E++azW))),(bw LA),(bw (aV cZ.owns (hP l r B rs fs j) azW))]) hz [14,12,13] U U (by simp only [fB,List.all_nil,Bool.and_true,cJ]; exact ⟨U,D.wr,pD _ _⟩) ?_
    refine Im (ra:=(rA,rC)) (fa:=(fA,fC)) (W:=g7 l r (B+1) rs fs) (A':=(own M N 241 3 (List.zipWith cZ.cells (g7 l r (B+1) rs fs) (E++azW)))) D (by rw [nc I,qT,show r.ag.length+1=j by omega]) U (by rw [nc I,qT,show r.ag.length+1=j by omega]) ?_
    refine LM hQ (M,N,(E++azW)) 0 [] mn U (by show List.all _ _=true; rw [List.all_append,pD]; rfl) U ?_ ?_
    ·exact (by (rw [nc I,qT,show r.ag.length+1=j by omega]; rfl))
    ·rw [nc I,qT,show r.ag.length+1=j by omega]; simp only [List.length_append]; omega
   refine WK AS<|ah fun _ P=>av<|ah fun _ AU=>dA cu 5 kr<|dP 5 [] (mc 1 U mn) ?_
   refine cL<|RK AU ?_
   refine nV (ι:={z:Int×Int // ((z.1≤z.2→oQ l r rs.length (fU r.Start fs+dN l rs.length) ((j:Int)-1)=some z.1)∧(¬ z.1≤z.2→oQ l r rs.length (fU r.Start fs+dN l rs.length) ((j:Int)-1)=none))∧(r.Start≤z.1∧z.2≤r.fZ)}) [3,4,5,6,7,11,12,15,16] [0,1,2,3,4,5,6,7,8,9,10,11,12,13,14] U U (fun z=>[(17,(vI z.1.1)),(18,(vI z.1.2))]) (fun z=>[]) (fun _=>rfl) (fun _=>rfl) ?_ fun K39 p=>?_
   ·rintro ⟨⟨tt,ee⟩,⟨BP,J⟩⟩
    try dsimp only at BP J
    try dsimp only
    have Ak:=BP
    have Bf:=J
    refine WS fun _ a=>rP 3 [] mn ?_
    refine RK a<|bL U (aM fun BO=>?_) (aL fun BO=>?_)
    ·refine bZ<|aG<|KK P<|aj<|rP 3 [] mn ?_
     refine aC ?_
     have L:(hP l r B rs fs (j+1))=(hP l r B rs fs j):=by exact qk (Ak.2 BO)
     rw [← L]
     have Ah:(vI ((((j+1):Nat):Int)-1))=(vI (((j:Int)-1)+1)):=by exact cI I
     refine aS (O ⟨((j+1),M,N,azW),⟨I,by dsimp only; (rw [L]; exact A)⟩⟩ _ _ _ U os (ct 8<|aX U Ah<|dh.nil _) (aH [0,1,2,3,4,5,6,7,8,9,10,11,12,13,14]))
    refine Sf (L':=[(3,(vS rA rs.length rC)),(4,(vS fA fs.length fC)),(5,(vP b2)),(6,(vP b3)),(7,(vP b4)),(11,(vS M (((gL l r rs fs)++(hP l r B rs fs j)).length) N)),(12,(vI (rs.length:Int))),(15,(vI ((fU r.Start fs)+(dN l rs.length)))),(16,(vI ((j:Int)-1))),(17,(vI tt)),(18,(vI ee)),(123,(vI tt)),(124,(vI ee)),(125,(vB (decide (tt≤ee))))]) rfl<|rp cu [0,1,2,3,5,7,11,13] [4,6,8,9,10,12,14,15,16,17,18] [false,false,false,false,false,false,false,false] [] [(bV b4 238 (im.cells (im.mk (br.mk vwA ((cG l l.ae.length).length) vwC) (br.mk vtA ((eK l r r.ag.length).length) vtC) (br.mk vbA ((e8 l r r.ag.length).length) vbC)))),(bV b3 43 (eC.cells (mD r sgA sgC))),(bV b2 31 (ck.cells (lk l kA kC cA cC bA bC))),(bw [own rA rC 3 1 (rs.map iC),own fA fC 3 1 (fs.map iC)]).ro,(rd kA l.aP.length 9 (l.aP.map al.cells)).ro,(rd cA l.ak.length 2 (List.zipWith ar.cells l.ak az)).ro,(eW (aV ar.gZ l.ak az)).ro,(rd bA l.ae.length 4 (l.ae.map bD.cells)).ro,(rd sgA r.ag.length 2 (r.ag.map aK.cells)).ro,(rd vwA ((cG l l.ae.length).length) 1 ((cG l l.ae.length).map iC)).ro,(rd vtA ((eK l r r.ag.length).length) 2 ((eK l r r.ag.length).map aa.cells)).ro,(rd vbA ((e8 l r r.ag.length).length) 1 ((e8 l r r.ag.length).map pR)).ro,(bw LA),(bw (aV cZ.owns (hP l r B rs fs j) azW))] [] kr (aH [0,1,2,3,4,5,6,7,8,9,10,11,12,13]) (aH [])<|eS rfl (MV rfl)<|eS rfl (LW 2 rfl bX rfl rfl)<|eS rfl (LW 1 rfl bX rfl rfl)<|eS rfl (LW 0 rfl bX rfl rfl)<|eS rfl (MV rfl)<|eS rfl (MV rfl)<|eS rfl (MV rfl)<|eS rfl (MV rfl)<|eV rfl<|NU [.take 4,.op 6,.take 8,.op 9,.take 10,.op 12,.take 14,.op 15,.op 16,.op 17,.op 18] [(133,(vI ((j:Int)-1))),(139,(vI tt))] (fun i=>match i with |4=>130|8=>134|10=>136|14=>140|_=>0) (fun i b=>match i with |4=> .slice (some ⟨b,0,none⟩) 0 0|8=> .slice (some ⟨b,0,none⟩) 1 1|10=> .slice (some ⟨b,0,none⟩) 0 0|14=> .slice (some ⟨b,0,none⟩) 1 1|_=>undef) (fun i b=>match i with |4=>bV b 3 []|8=>bV b 3 [(vI ((j:Int)-1))]|10=>bV b 3 []|14=>bV b 3 [(vI tt)]|_=>bV b 0 []) rfl rfl rfl kr rfl rfl (aH [0,1,2,3,4,5,6,7,8,9,10,11,12,13]) (vY (KV rfl cq rfl rfl (fun _=>rfl) fun _=>rfl)<|xg<|vY (O5 (xs:=[.tmp 133]) (cs:=[(vI ((j:Int)-1))]) rfl cq jd rfl rfl rfl rfl (by simp [Value.cells]) rfl rfl rfl (fun _=>rfl) fun _=>rfl)<|xg<|vY (KV rfl cq rfl rfl (fun _=>rfl) fun _=>rfl)<|xg<|vY (O5 (xs:=[.tmp 139]) (cs:=[(vI tt)]) rfl cq jd rfl rfl rfl rfl (by simp [Value.cells]) rfl rfl rfl (fun _=>rfl) fun _=>rfl)<|xg<|xg<|xg<|xg<|QB) ?_
    intro Aw
    try dsimp only
    refine wX U fun Y X K hT=>dM (es:=(List.map iC [])) (C':=[own (some ⟨Aw,0,none⟩) 0 3 1 (List.map iC []),_,_,_,_,_,_,_,_,_,_,_,_,_,_,_]++X) 0 U sm U (by simp [maxLen]) U ?_
    refine db (es2:=(List.map iC rs)) (m':=rs.length) 0 U U U pX U U sm (show ij _ (rd rA rs.length 1 (rs.map iC)).holds from (pz (c:=rC) (e:=3) 4 U sm sm)) (kf _) (by first|omega|(simp; done)|(simp; omega)) (by (simp only [maxLen]; omega)) sm sm U fun BU BZ=>?_
    try dsimp only
    refine rU hT 24 16 U U (fun w hs=>St.kp [1,2,3,4,5,6,7,8,9,10,11,12,13,14] U U hs) U U ?_
    try dsimp only [List.take]
    intro BX
    try dsimp only
    refine wX U fun Y X K hT=>?_
    refine db (es2:=(List.map iC (rs++[(j:Int)-1]))) (m':=(rs++[(j:Int)-1]).length) 1 U U U pX U U sm (aZ (es:=List.map iC [((j:Int)-1)]) 0 U U (by simp [bB]) U) (kf _) (by first|omega|(simp; done)|(simp; omega)) (by (simp only [maxLen]; omega)) sm sm U fun As Ay=>?_
    try dsimp only
    refine rU hT 26 17 U U (fun w hs=>St.kp [2,3,4,5,6,7,8,9,10,11,12,13,14,15] U U hs) U U ?_
    try dsimp only [List.take]
    intro Ax
    try dsimp only
    refine wX U fun Y X K hT=>dM (es:=(List.map iC [])) (C':=[own (some ⟨Ax,0,none⟩) 0 3 1 (List.map iC []),_,_,_,_,_,_,_,_,_,_,_,_,_,_,_,_,_]++X) 0 U sm U (by simp [maxLen]) U ?_
    refine db (es2:=(List.map iC fs)) (m':=fs.length) 0 U U U pX U U sm (show ij _ (rd fA fs.length 1 (fs.map iC)).holds from (pz (c:=fC) (e:=3) 6 U sm sm)) (kf _) (by first|omega|(simp; done)|(simp; omega)) (by (simp only [maxLen]; omega)) sm sm U fun BV Ba=>?_
    try dsimp only
    refine rU hT 28 18 U U (fun w hs=>St.kp [3,4,5,6,7,8,9,10,11,12,13,14,15,16] U U hs) U U ?_
    try dsimp only [List.take]
    intro BY
    try dsimp only
    refine wX U fun Y X K hT=>?_
    refine db (es2:=(List.map iC (fs++[tt]))) (m':=(fs++[tt]).length) 1 U U U pX U U sm (aZ (es:=List.map iC [tt]) 0 U U (by simp [bB]) U) (kf _) (by first|omega|(simp; done)|(simp; omega)) (by (simp only [maxLen]; omega)) sm sm U fun At Az=>?_
    try dsimp only
    refine rU hT 30 19 U U (fun w hs=>St.kp [4,5,6,7,8,9,10,11,12,13,14,15,16,17] U U hs) U U ?_
    try dsimp only [List.take]
    refine wX U fun Y X K hT=>?_
    have R:=Ak.1 BO
    refine wJ<|q6 4 U ?_
    try dsimp only [List.eraseIdx]
    refine zY U<|q6 2 U ?_
    try dsimp only [List.eraseIdx]
    refine zY U ?_
    try dsimp only
    refine iO 0 rfl rfl rfl rfl (hrec B (rs++[(j:Int)-1]) As Ay (fs++[tt]) At Az I (by simp only [List.length_append,List.length_singleton]; omega) (by simp only [List.length_append,List.length_singleton]; omega) (by rw [m0]; omega) (by intro x hx; rcases List.mem_append.1 hx with hx|hx; exact hrs x hx; rw [List.mem_singleton.1 hx]; omega)) rfl (dR 7 rfl rfl (dD (bO _)) (dR 8 rfl rfl (dD (bO _)) (dR 9 rfl rfl (dD (bO _)) (dR 10 rfl rfl (dD (bO _)) (dR 11 rfl rfl (dD (bO _)) (dR 12 rfl rfl (dD (bO _)) (dR 13 rfl rfl (dD (bO _)) (dR 14 rfl rfl (dD (bO _)) kd)))))))) rfl (fun BN AE=>?_)
    obtain ⟨BS,BT,v⟩:=BN
    try dsimp only
    dsimp only at AE
    refine rU hT 31 18 U U (fun w hs=>St.kp [3,4,5,6,7,8,9,10,11,12,13,14,15,16] U U hs) U U ?_
    try dsimp only [List.take]
    refine wX U fun Y X K hT=>q6 0 U ?_
    try dsimp only [List.eraseIdx]
    refine zG ?_
    have Bp:=uh (l:=l) (r:=r) (k:=B) (rs:=(rs++[(j:Int)-1])) (fs:=(fs++[tt])) AD I
    refine db (es2:=(List.zipWith cZ.cells ((gL l r rs fs)++(hP l r B rs fs (j+1))) (E++(azW++v)))) (m':=((gL l r rs fs)++(hP l r B rs fs (j+1))).length) 18 U U U Pn U U (sP (by simp only [List.length_append]; omega)).symm (ai (n:=(g7 l r B (rs++[(j:Int)-1]) (fs++[tt])).length) 0 U (sP AE)) (Dg _ _) (by simp only [List.length_append]; omega) (by simp only [List.length_append,maxLen]; omega) (by rw [m7 R,← List.append_assoc,← List.append_assoc]; exact (Jo (by simp only [List.length_append]; omega)).symm) (sP (by rw [m7 R]; simp only [List.length_append]; omega)) U fun Au A0=>?_
    try dsimp only
    refine rU hT 32 19 U U (fun w hs=>St.kp [4,5,6,7,8,9,10,11,12,13,14,15,16,17] U U hs) U U ?_
    try dsimp only [List.take]
    refine wX U fun Y X K hT=>rS (AG U)<|rU hT 33 19 U U (fun w hs=>St.kp [4,5,6,7,8,9,10,11,12,13,14,15,16,17] U U hs) U U ?_
    try dsimp only [List.take]
    refine aG<|KK P<|aj<|rP 3 [] mn ?_
    refine aC<|Ff 1 U ?_
    try dsimp only [List.eraseIdx]
    refine Ff 17 U ?_
    try dsimp only [List.eraseIdx]
    refine Lb A ?_
    rw [← m7 R]
    try dsimp only
    have Ag:(vI ((((j+1):Nat):Int)-1))=(vI (((j:Int)-1)+1)):=by exact cI I
    refine aS (O ⟨((j+1),Au,A0,(azW++v)),⟨I,by dsimp only; (rw [m7 R,List.length_append,List.length_append,A,AE])⟩⟩ _ _ _ U os (ct 8<|aX U Ag<|dh.nil _) (aH [4,5,6,7,8,9,10,11,12,13,14,15,16,0,17]))
   refine WS fun _ a=>rP 2 [] mn ?_
   refine RK a<|bL U (aM fun A6=>?_) (aL fun A6=>?_)
   ·refine bZ ?_
    refine aS (jy (aT U) (aH [0,1,2,3,4,5,6,7,8,9,10,11,12,13,14]) (p ⟨(((fU r.Start fs)+(dN l rs.length)),r.fZ),⟨by exact LO I,I⟩⟩))
   refine ah fun _ AV=>WS fun _ u=>rP 3 [] (mc 1 U mn) ?_
   obtain ⟨s,hs⟩:=aJ r.ag ((((j:Int)-1)).toNat) I
   have BG:=bG aK.cells hs
   refine rS (IA ((((j:Int)-1)).toNat) U (aD 8 U) Aj dc I I)<|rS (nR (((((j:Int)-1)).toNat)*2) U (aD 8 U) (Nat.mul_pos I dc) fu U)<|rS (fV ((((j:Int)-1)).toNat) 0 (vI s.gd) U bX (aD 8 U) BG U dc U) ?_
   have Bj:=(hr.sig _ s hs).1
   refine rP 3 [] mn ?_
   refine cR (t:=99) U (bq fun AF=>?_) (bp fun AF=>?_)
   ·refine bf 7 U<|RK u<|aO U<|bu<|ab<|ab<|au<|KK P<|aj<|rP 3 [] mn ?_
    refine aC ?_
    have L:(hP l r B rs fs (j+1))=(hP l r B rs fs j):=by exact qk (xO I hs (fun q=>AF I))
    rw [← L]
    have Ae:(vI ((((j+1):Nat):Int)-1))=(vI (((j:Int)-1)+1)):=by exact cI I
    refine aS (O ⟨((j+1),M,N,azW),⟨I,by dsimp only; (rw [L]; exact A)⟩⟩ _ _ _ U os (ct 8<|aX U Ae<|dh.nil _) (aH [0,1,2,3,4,5,6,7,8,9,10,11,12,13,14]))
   refine rP 3 [] (mc 0 U mn) ?_
   obtain ⟨bs,AC⟩:=aJ (e8 l r r.ag.length) ((((j:Int)-1)).toNat) I
   have Ai:=bG pR AC
   refine rS (IA ((((j:Int)-1)).toNat) U (aD 11 U) Ps dc I I)<|rS (fV ((((j:Int)-1)).toNat) 0 (vB bs) U bX (aD 11 U) Ai U dc U)<|rP 2 [] mn ?_
   refine RK u<|cy U (fun F=>?_) (fun F=>?_)
   ·rw [Bool.not_eq_true'] at F
    refine bu<|ab<|ab<|au<|KK P<|aj<|rP 3 [] mn ?_
    refine aC ?_
    have L:(hP l r B rs fs (j+1))=(hP l r B rs fs j):=by exact qk (xO I hs (fun q=>by rw [(Dc hs AC).2 q.2] at F; cases F))
    rw [← L]
    have Af:(vI ((((j+1):Nat):Int)-1))=(vI (((j:Int)-1)+1)):=by exact cI I
    refine aS (O ⟨((j+1),M,N,azW),⟨I,by dsimp only; (rw [L]; exact A)⟩⟩ _ _ _ U os (ct 8<|aX U Af<|dh.nil _) (aH [0,1,2,3,4,5,6,7,8,9,10,11,12,13,14]))
   rw [Bool.not_eq_false'] at F
   refine WK AV<|dA cu 18 kr<|dP 4 [] (mc 0 U mn) ?_
   obtain ⟨z,hz⟩:=aJ (eK l r r.ag.length) ((((j:Int)-1)).toNat) I
   have Aq:=bG aa.cells hz
   refine dS (IA ((((j:Int)-1)).toNat) U (aD 10 U) jN dc I I)<|dS (nR (((((j:Int)-1)).toNat)*2) U (aD 10 U) (Nat.mul_pos I dc) fu U) ?_
   have Ar:=IL hs hz
   have BL:=xQ l s
   rw [← Ar] at BL
   have BC:(cz l s).Lo≤(cz l s).Hi:=(Dc hs AC).1 F
   refine dS (fV ((((j:Int)-1)).toNat) 0 (vI z.Lo) U bX (aD 10 U) Aq U dc U)<|dS (MX U)<|mJ 4 [] (mc 0 U mn) U<|dS (IA ((((j:Int)-1)).toNat) U (aD 10 U) jN dc I I)<|dS (nR ((((((j:Int)-1)).toNat)*2)+1) U (aD 10 U) (Nat.mul_pos I dc) fu U)<|dS (fV ((((j:Int)-1)).toNat) 1 (vI z.Hi) U bX (aD 10 U) Aq U dc U)<|dS (MN U)<|dP 2 [] mn ?_
   refine cL<|aC ?_
   refine aS (jy (aT U) (aH [0,1,2,3,4,5,6,7,8,9,10,11,12,13,14]) (p ⟨((max ((fU r.Start fs)+(dN l rs.length)) z.Lo),(min r.fZ z.Hi)),⟨by (rw [Ar]; exact KD I hs I BC),I⟩⟩))
  refine WS fun _ Z=>rP 2 [] mn ?_
  refine RK Z<|bL U (aM fun A5=>?_) (aL fun A5=>?_)
  ·refine bZ ?_
   have Ac:(vI (fU r.Start fs))=(vI r.Start):=by exact cI (by have e:fs=[]:=jC I; rw [e]; rfl)
   refine aS (jy (ct 7<|aX U Ac<|dh.nil _) (aH [0,1,2,3,4,5,6,7,8,9,10,11,12,13]) (o ()))
  refine aj<|rP 3 [] mn ?_
  obtain ⟨xf,Am⟩:=aJ fs (rs.length-1) I
  have An:=bG iC Am
  refine rS (IA (rs.length-1) U (show ij _ (rd fA fs.length 1 (fs.map iC)).holds from (pz (c:=fC) (e:=3) 3 U sm sm)) cq dc I I)<|rS (fV (rs.length-1) 0 (vI xf) U bX (show ij _ (rd fA fs.length 1 (fs.map iC)).holds from (pz (c:=fC) (e:=3) 3 U sm sm)) An U dc U)<|rP 1 [] mn ?_
  refine aC ?_
  have Ab:(vI (fU r.Start fs))=(vI xf):=by exact cI (Df _ _ _ (by rw [hfl]; exact Am))
  refine aS (jy (ct 7<|aX U Ab<|dh.nil _) (aH [0,1,2,3,4,5,6,7,8,9,10,11,12,13]) (o ()))
 refine WS fun _ V=>rP 8 [0,1] (mc 1 U (mc 2 U mn)) ?_
 refine RK V<|bL U (aM fun G=>?_) (aL fun G=>?_)
 ·refine bZ<|Eh<|H3 241 3 ?_
  rw [show (own none 0 241 3 [])=(own none 0 241 3 (List.zipWith cZ.cells (gL l r rs fs) [])) from by rw [xj G]; rfl]
  have Ad:(vS none ((gL l r rs fs).length) 0)=(vS none 0 0):=by first|rfl|(rw [xj G]; rfl)
  refine aS (jy (ct 6<|aX U Ad<|dh.nil _) (aH [2,3,4,5,6,7,8,9,10,11,12,13,0,1]) (m ⟨(none,0,[],[]),(by exact .inr ⟨G,U,U⟩)⟩))
 refine aj<|rP 6 [0,1] (mc 1 U (mc 0 U mn)) ?_
 refine cX (Md r sgA sgC l vwA vwC vtA vtC vbA vbC rs rA rC hle hr I (by exact fun x hx h0=>(hrs x hx).2)) (lL [8,9,10,11]<|aw (show ij _ (rd rA rs.length 1 (rs.map iC)).holds from (pz (c:=rC) (e:=3) 3 U sm sm))<|aI) U fun BM BR=>?_
 obtain ⟨S,T⟩:=BM
 try dsimp only
 refine rS (SX (bh (xs:=[(0,.tmp 48),(1,.tmp 49),(2,.tmp 53)]) (cs:=(xE.cells (xE.mk (br.mk rA rs.length rC) (br.mk fA fs.length fC) (br.mk S ((jk l r rs).length) T)))) U U (bg Rk U)) U U)<|cU (xs:=[.tmp 54]) (cs:=(xE.cells (xE.mk (br.mk rA rs.length rC) (br.mk fA fs.length fC) (br.mk S ((jk l r rs).length) T)))) U FT SL U U U U (by simp [Value.cells,xE.aU]) U U fun BW=>dH 241 3 ?_
 refine db (es2:=(List.zipWith cZ.cells (gL l r rs fs) ([((rA,rC),(fA,fC),(S,T))]))) (m':=(gL l r rs fs).length) 0 rfl rfl rfl Pn rfl rfl rfl (aZ (es:=List.zipWith cZ.cells [(cZ.mk rs fs (jk l r rs))] [((rA,rC),(fA,fC),(S,T))]) 1 rfl rfl (by intro e he; simp at he; subst he; rfl) rfl) (Dg _ _) dc dc (by rw [yS G]; rfl) (by rw [yS G]; rfl) rfl fun y AA=>?_
 try dsimp only
 refine wJ<|Pe 0 3 U U U ?_
 try dsimp only
 refine rP 1 [] mn ?_
 refine aC ?_
 have d:(vS y ((gL l r rs fs).length) AA)=(vS y ((gL l r rs fs).length) AA):=by first|rfl|(rw [xj G]; rfl)
 refine aS (jy (ct 6<|aX U d<|dh.nil _) (aH [3,4,5,6,7,8,9,10,11,12,13,14,1,0]) (m ⟨(y,AA,[((rA,rC),(fA,fC),(S,T))],[(own S T 3 1 ((jk l r rs).map iC))]),(by exact .inl ⟨G,_,U,U⟩)⟩))
theorem Px (l:a_) (kA:OA) (kC:Nat) (az:List RA) (cA:OA) (cC:Nat) (bA:OA) (bC:Nat) (r:cv) (sgA:OA) (sgC:Nat) (vwA:OA) (vwC:Nat) (vtA:OA) (vtC:Nat) (vbA:OA) (vbC k:Nat) (rs:List Int) (rA:OA) (rC:Nat) (fs:List Int) (fA:OA) (fC:Nat) (hin:er l az) (hle:dq l=0) (hr:e7 l r) (hk:rs.length+k=l.ae.length) (hfl:fs.length=rs.length) (hst:r.Start≤fU r.Start fs∧fU r.Start fs≤r.fZ) (hrs: ∀ x∈rs,-1≤x∧x<(r.ag.length:Int)):
 Dr Tryz.prog 173 [(vA (ck.cells (lk l kA kC cA cC bA bC))),(vA (eC.cells (mD r sgA sgC))),(vA (im.cells (im.mk (br.mk vwA ((cG l l.ae.length).length) vwC) (br.mk vtA ((eK l r r.ag.length).length) vtC) (br.mk vbA ((e8 l r r.ag.length).length) vbC)))),(vS rA rs.length rC),(vS fA fs.length fC)] [(rd kA l.aP.length 9 (l.aP.map al.cells)),(rd cA l.ak.length 2 (List.zipWith ar.cells l.ak az)),(eW (aV ar.gZ l.ak az)),(rd bA l.ae.length 4 (l.ae.map bD.cells)),(rd sgA r.ag.length 2 (r.ag.map aK.cells)),(rd vwA ((cG l l.ae.length).length) 1 ((cG l l.ae.length).map iC)),(rd vtA ((eK l r r.ag.length).length) 2 ((eK l r r.ag.length).map aa.cells)),(rd vbA ((e8 l r r.ag.length).length) 1 ((e8 l r r.ag.length).map pR))] (bw [own rA rC 3 1 (rs.map iC),own fA fC 3 1 (fs.map iC)]) (fun (x:(OA)×Nat×(List ki))=>(vS x.1 ((g7 l r k rs fs).length) x.2.1)) (fun (x:(OA)×Nat×(List ki))=>x.2.2.length=(g7 l r k rs fs).length) (fun (x:(OA)×Nat×(List ki))=>(bw (aV cZ.owns (g7 l r k rs fs) x.2.2++[own x.1 x.2.1 241 3 (List.zipWith cZ.cells (g7 l r k rs fs) x.2.2)]))):=by
 induction k using Nat.strongRecOn generalizing rs rA rC fs fA fC with
 |ind k ih=>exact G0 l kA kC az cA cC bA bC r sgA sgC vwA vwC vtA vtC vbA vbC k rs rA rC fs fA fC hin hle hr hk hfl hst hrs (fun L F D E C A B G H AA J K=>ih L G F D E C A B H AA J K)
end
section
open Go.RowKit
theorem M5 (l:a_) (kA:OA) (kC:Nat) (az:List RA) (cA:OA) (cC:Nat) (bA:OA) (bC:Nat) (r:cv) (sgA:OA) (sgC:Nat) (hin:er l az) (hsl:r.ag.length≤1000000):
 lq Tryz.prog 167 [(vA (ck.cells (lk l kA kC cA cC bA bC))),(vA (eC.cells (mD r sgA sgC)))] [(rd kA l.aP.length 9 (l.aP.map al.cells)),(rd cA l.ak.length 2 (List.zipWith ar.cells l.ak az)),(eW (aV ar.gZ l.ak az)),(rd bA l.ae.length 4 (l.ae.map bD.cells)),(rd sgA r.ag.length 2 (r.ag.map aK.cells))] (fun (x:Bool×Int×(OA)×Nat×(List ki))=>bif x.1 then (vT [(vS x.2.2.1 ((pY l r).length) x.2.2.2.1),(vI 0)]) else (vT [(vS none 0 0),(vI x.2.1)])) (fun (x:Bool×Int×(OA)×Nat×(List ki))=>(x.1=true→(ew l r 0=0∧x.2.2.2.2.length=(pY l r).length))∧(x.1=false→(x.2.1=ew l r 0∧ ¬ ew l r 0=0))) (fun (x:Bool×Int×(OA)×Nat×(List ki))=>bif x.1 then [(own x.2.2.1 x.2.2.2.1 241 3 (List.zipWith cZ.cells (pY l r) x.2.2.2.2)),(bw (aV cZ.owns (pY l r) x.2.2.2.2))] else []):=by
 have k:=hin.sH
 have j:=hin.sI
 have h:=hin.ov
 have i:=hin.sD
 refine dj kr Tryz.func167 U U fun o Q hQ hN=>?_
 try dsimp only
 refine WS fun _ X=>fK U fun m=>fK U fun n=>bf 2 U<|RK X<|ah fun _ Y=>WS fun _ Z=>fw 1 [] (mc 1 U mn) U<|rS (CL (CS l kA kC az cA cC bA bC hin) (bj [2,3,4,5]) U)<|bf 1 U<|RK Z<|WS fun _ a=>rP 2 [] mn ?_
 refine RK a<|cy U (bq fun A=>?_) (bp fun A=>?_)
 ·refine WS fun _ b=>rP 3 [] mn ?_
  refine RK b<|an<|LX hQ (false,(dq l),none,0,[]) [] [] mn U (by rfl) U U ?_
  exact rr<|Me (nX (r:=r) (me:=0) A) A
 refine WK Y<|ah fun _ c=>WS fun _ d=>fw 2 [0,1] (mc 1 U (mc 0 U mn)) U<|rS (CL (Ng l kA kC az cA cC bA bC r sgA sgC hin (by exact hsl)) (bj [2,3,4,5,6]) U)<|rP 1 [] mn ?_
 refine RK d<|cy U (bq fun B=>?_) (bp fun B=>?_)
 ·refine WS fun _ D=>rP 2 [] mn ?_
  refine RK D<|an<|LX hQ (false,51,none,0,[]) [] [] mn U (by rfl) U U ?_
  exact rr<|pU (jf (me:=0) A B)
 refine WK c<|ah fun _ E=>dG cu [4,5,6] [] [] [0,1,2,3,4,5,6] [] U U U U U<|eS U (LW 1 U bX U U)<|eS U (LW 0 U bX U U)<|eS U (LW 1 U bX U U)<|eS U (LW 0 U bX U U)<|eV U<|bY U fun T12 J=>cX (Oj l kA kC az cA cC bA bC r sgA sgC hin (by exact A) (by exact B)) (bj [2,3,4,5,6]) U fun e g=>?_
 obtain ⟨V,W,T,AA,R,S⟩:=e
 try dsimp only
 refine aC (J _ _ (aH [3,4,5,6,7,8,9]) ?_)
 refine bY U fun T21 K=>dH 3 1<|dH 3 1<|wJ<|q6 1 U ?_
 try dsimp only [List.eraseIdx]
 refine zY U<|q6 1 U ?_
 try dsimp only [List.eraseIdx]
 refine zY U ?_
 try dsimp only
 refine iO 0 rfl rfl rfl rfl (Px l kA kC az cA cC bA bC r sgA sgC V W T AA R S l.ae.length ([]:List Int) none 0 ([]:List Int) none 0 hin (by exact A) (by exact B) sm (by rfl) (by exact ⟨Int.le_refl _,B.time.2.1⟩) (by intro x hx; cases hx)) rfl (dR 6 rfl rfl (dD (bO _)) (dR 7 rfl rfl (dD (bO _)) (dR 8 rfl rfl (dD (bO _)) (dR 9 rfl rfl (dD (bO _)) (dR 10 rfl rfl (dD (bO _)) (dR 1 rfl rfl (j9 sm) (dR 2 rfl rfl (j9 sm) (dR 3 rfl rfl (j9 sm) kd)))))))) rfl (fun f M=>?_)
 obtain ⟨N,O,P⟩:=f
 try dsimp only
 refine aC (K _ _ (aH [4,5,6,7,8,9,10]) ?_)
 refine bY U fun T26 L=>q6 0 U ?_
 try dsimp only [List.eraseIdx]
 refine zG ?_
 dsimp only at M
 refine rS (AG U)<|aC (L _ _ (aH [5,6,7,8,9,10,11]) ?_)
 refine fF U<|KK E<|ah fun _ F=>WS fun _ G=>rP 3 [] mn ?_
 refine RK G<|bL U (aM fun C=>?_) (aL fun C=>?_)
 ·refine WK F<|WS fun _ AB=>rP 3 [] mn ?_
  refine RK AB<|an ?_
  refine LX hQ (true,0,N,O,P) [0,1] [] mn U (by (show List.all _ _=true; simp only [cond_true,fB,List.all_nil,Jx,Bool.and_true]; rfl)) U U ?_
  exact ⟨fun _=>⟨lF A B U fun q=>C (by rw [show g7 l r l.ae.length [] []=[] from (fE A B).2 q]; rfl),M⟩,ND⟩
 refine WS fun _ H=>rP 2 [] mn ?_
 refine RK H<|an<|LX hQ (false,8,none,0,[]) [] [] mn U (by rfl) U U ?_
 exact rr<|pU (pj (me:=0) A B U ((fE A B).1 (jC (Int.natCast_eq_zero.1 C))))
theorem HU (ws:List cZ) (wz:List ki) (wA:OA) (wC b:Nat) (hws:Oy ws) (hwz:wz.length=ws.length) (hb:b≤6):
 dT Tryz.prog 168 [(vS wA ws.length wC),(vI (b:Int))] [(rd wA ws.length 3 (List.zipWith cZ.cells ws wz)),(eW (aV cZ.gZ ws wz))] (vT [(vA (aa.cells (pC ws b))),(vI (pt ws b))]):=by
 have u:=hws.num
 refine bx kr Tryz.func168 U U fun x Q hQ hN=>?_
 try dsimp only
 refine WS fun _ g=>AL U de fun w=>bf 1 U<|RK g<|WS fun _ h=>AL U de fun t=>RK h<|WS fun _ j=>bf 1 U<|RK j<|ah fun _ k=>WS fun _ l=>rP 1 [] mn ?_
 refine RK l<|av ?_
 have D:(0≤ws.length)∧(nk b (ws.take 0) false (aa.mk 0 0)):=by exact ⟨Nat.zero_le _,Hl⟩
 refine bH (ι:={z:Nat×Bool×aa // (z.1≤ws.length)∧(nk b (ws.take z.1) z.2.1 z.2.2)}) [0,1,4,5,6] [1,2,3] U U (fun z=>[(7,(vB z.1.2.1)),(8,(vI (z.1.1:Int)))]) (fun z=>[(bV t 40 (aa.cells z.1.2.2))]) (fun _=>rfl) (fun _=>rfl) (fun z=>ws.length-z.1.1) ⟨(0,false,(aa.mk 0 0)),D⟩ (aT U) (aH [1,2,3,0]) ?_
 clear D
 rintro ⟨⟨i,fd,o⟩,⟨J,A⟩⟩ J8 H
 try dsimp only at J A
 try dsimp only
 refine ah fun _ m=>WS fun _ L=>rP 4 [] mn ?_
 refine RK L<|bL U (aM fun c=>?_) (aL fun c=>?_)
 ·refine bu<|ab<|ab<|au<|KK k<|ah fun _ R=>WS fun _ S=>rP 2 [] mn ?_
  refine RK S<|bL U (fun B=>?_) (fun B=>?_)
  ·rw [Bool.not_eq_false'] at B
   refine WK R<|WS fun _ AA=>fw 1 [] (mc 3 U mn) U<|fP U cm U<|rP 1 [] mn ?_
   refine RK AA<|an<|lh hQ [0] (mc 0 U mn) U ?_
   have AB:=zb (by have q:=A; rwa [List.take_of_length_le I] at q) hws.Fv
   (have q:=AB.2 B; rw [q.1,q.2]; done)
  rw [Bool.not_eq_true'] at B
  refine WS fun _ T=>rS (SX (bh (xs:=[]) (cs:=(aa.cells (aa.mk 0 0))) U U (bg gf U)) U U)<|fP U cm U<|rP 1 [] mn ?_
  refine RK T<|an<|lh hQ [0] (mc 0 U mn) U ?_
  have AB:=zb (by have q:=A; rwa [List.take_of_length_le I] at q) hws.Fv
  (have q:=AB.1 B; rw [q.1,q.2]; done)
 refine WK m<|ah fun _ C=>av<|ah fun _ M=>WS fun _ N=>rP 2 [] mn ?_
 obtain ⟨y,hy⟩:=aJ ws i I
 obtain ⟨ya,E⟩:=aJ wz i I
 have K:(List.zipWith cZ.cells ws wz)[i]? =some (cZ.cells y ya):=dy hy E
 refine rS (IA i U (aD 1 U) FT dc I I)<|rS (nR (i*3) U (aD 1 U) (Nat.mul_pos I dc) fu U)<|rS (fV i 0 (vS ya.1.1 y.gl.length ya.1.2) U bX (aD 1 U) K U dc U)<|rP 3 [] mn ?_
 refine RK N<|cy U (aL fun d=>?_) (aM fun d=>?_)
 ·refine bu<|ab<|au<|KK C<|aj<|rP 3 [] mn ?_
  refine aC ?_
  have X:(vI (((i+1):Nat):Int))=(vI ((i:Int)+1)):=by exact cI I
  refine aS (H ⟨((i+1),fd,o),⟨I,by dsimp only; rw [lz hy]; exact Ee A I⟩⟩ _ _ _ U os (ct 6<|aX U X<|dh.nil _) (aH [0,1,2,3]))
 refine WK M<|ah fun _ O=>dG cu [17,18] [] [] [0,1,2,3] [] U U U U U ?_
 have v:=hws.lens y (aR hy)
 obtain ⟨s,hs⟩: ∃ s,y.gl[b]? =some s:=⟨y.gl[b]'I,eE _⟩
 refine eS U (MV U)<|eS U (MV U)<|eS U (IA i U (aD 1 U) FT dc I I)<|eS U (nR ((i*3)+1) U (aD 1 U) (Nat.mul_pos I dc) fu U)<|eS U (fV i 1 (vS ya.2.1.1 y.iz.length ya.2.1.2) U bX (aD 1 U) K U dc U)<|eS U (MV U) ?_
 obtain ⟨f,hf⟩:=aJ y.iz b I
 have p:=bG iC hf
 refine eS U (IA b U (show ij _ (rd ya.2.1.1 y.iz.length 1 (y.iz.map iC)).holds from (du 2 U (bM hy E (by simp [cZ.gZ])))) cq dc I I)<|eS U (fV b 0 (vI f) U bX (show ij _ (rd ya.2.1.1 y.iz.length 1 (y.iz.map iC)).holds from (du 2 U (bM hy E (by simp [cZ.gZ])))) p U dc U)<|eS U (MV U)<|eS U (MV U)<|eS U (IA i U (aD 1 U) FT dc I I)<|eS U (nR ((i*3)+2) U (aD 1 U) (Nat.mul_pos I dc) fu U)<|eS U (fV i 2 (vS ya.2.2.1 y.lK.length ya.2.2.2) U bX (aD 1 U) K U dc U)<|eS U (MV U) ?_
 obtain ⟨e,he⟩:=aJ y.lK b I
 have n:=bG iC he
 refine eS U (IA b U (show ij _ (rd ya.2.2.1 y.lK.length 1 (y.lK.map iC)).holds from (du 2 U (bM hy E (by simp [cZ.gZ])))) cq dc I I)<|eS U (fV b 0 (vI e) U bX (show ij _ (rd ya.2.2.1 y.lK.length 1 (y.lK.map iC)).holds from (du 2 U (bM hy E (by simp [cZ.gZ])))) n U dc U)<|eS U (SX (bh (xs:=[(0,.tmp 31),(1,.tmp 39)]) (cs:=(aa.cells (aa.mk f e))) U U (bg gf U)) U U)<|eV U<|bY U fun T17 V=>AL U de fun r=>aC (V _ _ (aH [1,2,3,4]) ?_)
 refine bY U fun T19 W=>fP U cm U<|aC (W _ _ (aH [1,2,3,4]) ?_)
 refine fF U<|KK O<|ah fun _ F=>WS fun _ P=>?_
 have a:=hws.le y (aR hy) b f e I hf he
 refine rP 1 [] mn ?_
 refine RK P<|bL U (fun G=>?_) (fun G=>?_)
 ·refine WK F<|aj<|fw 1 [] (mc 0 U mn) U<|Pd U cm U<|bf 1 U<|aC<|aG<|KK C<|aj<|rP 3 [] mn ?_
  refine aC ?_
  have Z:(vI (((i+1):Nat):Int))=(vI ((i:Int)+1)):=by exact cI I
  refine aS (H ⟨((i+1),true,(aa.mk f e)),⟨I,by dsimp only; rw [lz hy]; exact Bk A G hs hf he a⟩⟩ _ _ _ U os (ct 6<|aX U Z<|dh.nil _) (aH [1,2,3,4]))
 refine aj<|fw 4 [0,1] (mc 0 U (mc 4 U mn)) U<|rS (MN U)<|fw 4 [0,1] (mc 0 U (mc 4 U mn)) U<|rS (MX U)<|rS (SX (bh (xs:=[(0,.tmp 46),(1,.tmp 51)]) (cs:=(aa.cells (aa.mk (min f o.Lo) (max e o.Hi)))) U U (bg gf U)) U U)<|fP U cm U<|RK F<|aj<|fw 1 [] (mc 0 U mn) U<|Pd U cm U<|bf 1 U<|aC<|aG<|KK C<|aj<|rP 3 [] mn ?_
 refine aC ?_
 have Y:(vI (((i+1):Nat):Int))=(vI ((i:Int)+1)):=by exact cI I
 refine aS (H ⟨((i+1),true,(aa.mk (min f o.Lo) (max e o.Hi))),⟨I,by dsimp only; rw [lz hy]; exact DD A G hs hf he a⟩⟩ _ _ _ U os (ct 6<|aX U Y<|dh.nil _) (aH [1,2,3,4]))
end
section
open Go.RowKit
theorem Pw (l:a_) (kA:OA) (kC:Nat) (az:List RA) (cA:OA) (cC:Nat) (bA:OA) (bC:Nat) (r:cv) (sgA:OA) (sgC:Nat) (hin:er l az) (hsl:r.ag.length≤1000000):
 dT Tryz.prog 158 [(vA (ck.cells (ck.mk (bE.mk (br.mk kA l.aP.length kC)) l.hO (br.mk cA l.ak.length cC) (br.mk bA l.ae.length bC) l.cH l.eU l.cV))),(vA (eC.cells (mD r sgA sgC)))] [(rd kA l.aP.length 9 (l.aP.map al.cells)),(rd cA l.ak.length 2 (List.zipWith ar.cells l.ak az)),(eW (aV ar.gZ l.ak az)),(rd bA l.ae.length 4 (l.ae.map bD.cells)),(rd sgA r.ag.length 2 (r.ag.map aK.cells))] (vT [(vA (aa.cells (zO l r))),(vI (eL l r l.cH))]):=by
 have q:=hin.sH
 have j:=hin.sI
 have h:=hin.ov
 have i:=hin.sD
 refine bx kr Tryz.func158 U U fun y Q hQ hN=>?_
 try dsimp only
 refine WS fun _ Z=>fK U fun v=>fK U fun w=>AL U de fun x=>bf 1 U<|RK Z<|WS fun _ P=>rP 2 [0,1] (mc 2 U (mc 1 U mn)) ?_
 refine cX (M5 l kA kC az cA cC bA bC r sgA sgC hin hsl) (bj [3,4,5,6,7]) U fun u V=>?_
 obtain ⟨W,g,e,Y,X⟩:=u
 cases W
 ·obtain ⟨R,he⟩:=V.2 rfl
  try dsimp only at R he
  subst R
  try dsimp only [cond_true,cond_false,List.cons_append,List.nil_append]
  refine bf 5 U<|RK P<|ah fun _ d=>WS fun _ G=>rP 2 [] mn ?_
  refine RK G<|bL U (bp fun F=>?_) (bq fun F=>?_)
  ·exact absurd F he
  refine WS fun _ H=>rS (SX (bh (xs:=[]) (cs:=(aa.cells (aa.mk 0 0))) U U (bg gf U)) U U)<|bf 1 U<|fP U cm U<|rP 1 [] mn ?_
  refine RK H<|an<|lh hQ [0] (mc 0 U mn) U ?_
  (rw [EN (fun z=>he ((vu he).symm.trans z)),vu he]<;>rfl)
 obtain ⟨he,C⟩:=V.1 rfl
 try dsimp only [cond_true,cond_false,List.cons_append,List.nil_append]
 try dsimp only at he C
 obtain ⟨T,E,_,k⟩:=jL he
 obtain ⟨s,c⟩:=gF T
 have a:=c.head
 unfold gp at a
 have AA:=PY T E
 have t:=AA.num
 have o:=E.len
 have p:=E.time
 refine bf 5 U<|RK P<|ah fun _ AB=>WS fun _ J=>rP 1 [] mn ?_
 refine rS (SX (bU (r:= .bool false) U U U l6) U U)<|RK J<|aW U<|WK AB<|ah fun _ K=>?_
 obtain ⟨b,S⟩: ∃ b:Nat,l.cH=(b:Int):=⟨l.cH.toNat,I⟩
 have A:=JM he (b:=b) I
 rw [← S] at A
 rw [S]
 refine aj<|fw 3 [] (mc 4 U mn) U<|rS (CL (HU (pY l r) X e Y b (by exact AA) (by exact C) I) (aw (ai (n:=(pY l r).length) 0 U (sP C))<|aw (cM 1 U My)<|aI) U)<|bf 3 U<|AL U de fun f=>fP U cm U<|bf 1 U<|RK K<|ah fun _ L=>WS fun _ M=>rP 2 [] mn ?_
 refine RK M<|cy U (bq fun B=>?_) (bp fun B=>?_)
 ·refine WS fun _ N=>rS (SX (bh (xs:=[]) (cs:=(aa.cells (aa.mk 0 0))) U U (bg gf U)) U U)<|bf 1 U<|TR U cm U<|rP 1 [] mn ?_
  refine RK N<|an<|lh hQ [0] (mc 3 U mn) U ?_
  (rw [EN (fun z=>B (A.1.trans z)),← A.1]<;>rfl)
 refine WK L<|ah fun _ O=>?_
 have D:eL l r l.cH=0:=A.1.symm.trans B
 have m:=wT D
 rw [A.2]
 refine aj<|fw 10 [0,1,0,1] (mc 0 U (mc 4 U mn)) U<|rS (SX (bh (xs:=[(0,.tmp 34),(1,.tmp 39)]) (cs:=(aa.cells (aa.mk (((eQ l r l.cH).Lo)-r.Start) (((eQ l r l.cH).Hi)-r.Start)))) U U (bg gf U)) U U)<|TR U cm U<|rP 1 [] mn ?_
 refine RK O<|an<|lh hQ [0] (mc 3 U mn) U ?_
 (rw [Au D,D])
end
section
open Go.RowKit
theorem u9 (G:List (List Int)) (H:List (List Int)) (gz:List RA) (gA:OA) (gC:Nat) (hz:List RA) (hA:OA) (hC:Nat) (h1:G.length≤1000000) (h2:H.length≤1000000) (h3: ∀ l∈G,l.length≤1000000) (h4: ∀ l∈H,l.length≤1000000) (hgz:gz.length=G.length) (hhz:hz.length=H.length):
 dT Tryz.prog 22 [(vS gA G.length gC),(vS hA H.length hC)] [(rd gA G.length 1 (List.zipWith lW G gz)),(eW (aV A_ G gz)),(rd hA H.length 1 (List.zipWith lW H hz)),(eW (aV A_ H hz))] (vB (decide (G=H))):=by
 refine bx kr Tryz.func22 U U fun Z Q hQ hN=>?_
 try dsimp only
 refine WS fun _ N=>bf 1 U<|RK N<|ah fun _ O=>WS fun _ P=>rP 5 [] mn ?_
 refine RK P<|cy U (bq fun hl=>?_) (bp fun hl=>?_)
 ·refine WS fun _ R=>rP 1 [] mn ?_
  refine RK R<|an<|Q1 hQ U U U ?_
  first|exact cB (cf (nA hx hy h)).symm|exact cB (fI (nM I A I)).symm|exact cB (cf (fun e=>by subst e; omega)).symm
 refine WK O<|ah fun _ S=>WS fun _ T=>rP 1 [] mn ?_
 refine RK T<|av ?_
 have B:(0≤G.length)∧(G.take 0=H.take 0):=by exact ⟨Nat.zero_le _,rfl⟩
 refine bH (ι:={z:Nat // (z≤G.length)∧(G.take z=H.take z)}) [0,1] [0,1,2,3] U U (fun z=>[(5,(vI (z.1:Int)))]) (fun z=>[]) (fun _=>rfl) (fun _=>rfl) (fun z=>G.length-z.1) ⟨0,B⟩ (aT U) (aH [0,1,2,3]) ?_
 clear B
 rintro ⟨i,⟨W,A⟩⟩ J7 M
 try dsimp only
 refine ah fun _ AA=>WS fun _ V=>rP 4 [] mn ?_
 refine RK V<|bL U (aM fun L=>?_) (aL fun L=>?_)
 ·refine bu<|ab<|ab<|au<|KK S<|WS fun _ F=>rP 1 [] mn ?_
  refine RK F<|an<|Q1 hQ U U U ?_
  first|exact cB (cf (nA hx hy h)).symm|exact cB (fI (nM I A I)).symm|exact cB (cf (fun e=>by subst e; omega)).symm
 refine WK AA<|ah fun _ C=>av<|ah fun _ D=>dA cu 10 kr<|dP 2 [] mn ?_
 obtain ⟨x,hx⟩:=aJ G i I
 obtain ⟨xa,J⟩:=aJ gz i I
 have X:(List.zipWith lW G gz)[i]? =some (lW x xa):=dy hx J
 refine dS (IA i U (aD 0 U) nT dc I I)<|dS (fV i 0 (vS xa.1 x.length xa.2) U bX (aD 0 U) X U dc U)<|dP 2 [] mn ?_
 obtain ⟨y,hy⟩:=aJ H i I
 obtain ⟨ya,K⟩:=aJ hz i I
 have Y:(List.zipWith lW H hz)[i]? =some (lW y ya):=dy hy K
 refine dS (IA i U (aD 2 U) nT dc I I)<|dS (fV i 0 (vS ya.1 y.length ya.2) U bX (aD 2 U) Y U dc U)<|dS (CL (oh x xa.1 xa.2 y ya.1 ya.2 (by exact h3 x (aR hx)) (by exact h4 y (aR hy))) (aw (show ij _ (rd xa.1 x.length 1 (x.map iC)).holds from (du 1 U (bM hx J (by simp [A_]))))<|aw (show ij _ (rd ya.1 y.length 1 (y.map iC)).holds from (du 3 U (bM hy K (by simp [A_]))))<|aI) U)<|dP 1 [] mn ?_
 refine cL<|RK D<|cy U (bq fun h=>?_) (bp fun h=>?_)
 ·refine WS fun _ E=>rP 1 [] mn ?_
  refine RK E<|an<|Q1 hQ U U U ?_
  first|exact cB (cf (nA hx hy h)).symm|exact cB (fI (nM I A I)).symm|exact cB (cf (fun e=>by subst e; omega)).symm
 refine bZ<|aG<|KK C<|aj<|rP 3 [] mn ?_
 refine aC ?_
 have AB:(vI (((i+1):Nat):Int))=(vI ((i:Int)+1)):=by exact cI I
 refine aS (M ⟨(i+1),⟨I,uA A hx hy h⟩⟩ _ _ _ U os (dh.cons U<|dh.cons U<|aX U AB<|dh.nil _) (aH [0,1,2,3]))
end
section
open Go.RowKit
theorem JW (l:List al) (lA:OA) (lC:Nat) (hlen:l.length≤1000000):
 lq Tryz.prog 87 [(vS lA l.length lC)] [(rd lA l.length 9 (l.map al.cells))] (fun (x:(OA)×Nat)=>(vS x.1 l.length x.2)) (fun (x:(OA)×Nat)=>True) (fun (x:(OA)×Nat)=>[(own x.1 x.2 114 9 (l.map al.cells))]):=by
 refine dj kr Tryz.func87 U U fun L Q hQ hN=>?_
 try dsimp only
 refine WS fun _ D=>bf 1 U<|RK D<|ah fun _ E=>WS fun _ F=>rP 1 [] mn ?_
 refine rS (BI U (qh QW))<|RK F<|cy U (aL fun B=>?_) (aM fun B=>?_)
 ·refine WS fun _ G=>mj (aD 0 U) B dc fun C=>?_
  have A:l=[]:=by simpa using C
  refine dH 114 9 ?_
  rw [show (own none 0 114 9 ([]:List (List Value)))=own none 0 114 9 (l.map al.cells) from by rw [A]; rfl]
  refine rP 1 [] mn ?_
  refine RK G<|an ?_
  refine LX hQ (none,0) [0] [] mn U U U ?_ ?_
  ·first|rfl|(rw [A]; rfl)
  ·trivial
 refine WK E<|WS fun _ H=>t_ U yn U fun J=>rP 1 [] mn ?_
 refine dM (es:=(List.map al.cells [])) (C':=[own (some ⟨J,0,none⟩) 0 114 9 (List.map al.cells []),_]) 0 U sm U (by simp [maxLen]) U ?_
 refine db (es2:=(List.map al.cells l)) (m':=l.length) 0 U U U Uk U U sm (aD 1 U) (se _) os (by first|(simp only [maxLen]; omega)|(simp [maxLen]; omega)) sm sm U fun AA K=>?_
 try dsimp only
 refine rP 1 [] mn ?_
 refine RK H<|an ?_
 refine LX hQ (AA,K) [0] [] mn U U U ?_ ?_
 ·first|rfl|(rw [A]; rfl)
 ·trivial
theorem Jj (l:List bD) (lA:OA) (lC:Nat) (hlen:l.length≤1000000):
 lq Tryz.prog 89 [(vS lA l.length lC)] [(rd lA l.length 4 (l.map bD.cells))] (fun (x:(OA)×Nat)=>(vS x.1 l.length x.2)) (fun (x:(OA)×Nat)=>True) (fun (x:(OA)×Nat)=>[(own x.1 x.2 121 4 (l.map bD.cells))]):=by
 refine dj kr Tryz.func89 U U fun L Q hQ hN=>?_
 try dsimp only
 refine WS fun _ D=>bf 1 U<|RK D<|ah fun _ E=>WS fun _ F=>rP 1 [] mn ?_
 refine rS (BI U (qh Qo))<|RK F<|cy U (aL fun B=>?_) (aM fun B=>?_)
 ·refine WS fun _ G=>mj (aD 0 U) B dc fun C=>?_
  have A:l=[]:=by simpa using C
  refine dH 121 4 ?_
  rw [show (own none 0 121 4 ([]:List (List Value)))=own none 0 121 4 (l.map bD.cells) from by rw [A]; rfl]
  refine rP 1 [] mn ?_
  refine RK G<|an ?_
  refine LX hQ (none,0) [0] [] mn U U U ?_ ?_
  ·first|rfl|(rw [A]; rfl)
  ·trivial
 refine WK E<|WS fun _ H=>t_ U vE U fun J=>rP 1 [] mn ?_
 refine dM (es:=(List.map bD.cells [])) (C':=[own (some ⟨J,0,none⟩) 0 121 4 (List.map bD.cells []),_]) 0 U sm U (by simp [maxLen]) U ?_
 refine db (es2:=(List.map bD.cells l)) (m':=l.length) 0 U U U UF U U sm (aD 1 U) (vy _) os (by first|(simp only [maxLen]; omega)|(simp [maxLen]; omega)) sm sm U fun AA K=>?_
 try dsimp only
 refine rP 1 [] mn ?_
 refine RK H<|an ?_
 refine LX hQ (AA,K) [0] [] mn U U U ?_ ?_
 ·first|rfl|(rw [A]; rfl)
 ·trivial
theorem Ld (l:List cx) (lA:OA) (lC:Nat) (hlen:l.length≤1000000):
 lq Tryz.prog 90 [(vS lA l.length lC)] [(rd lA l.length 3 (l.map cx.cells))] (fun (x:(OA)×Nat)=>(vS x.1 l.length x.2)) (fun (x:(OA)×Nat)=>True) (fun (x:(OA)×Nat)=>[(own x.1 x.2 116 3 (l.map cx.cells))]):=by
 refine dj kr Tryz.func90 U U fun L Q hQ hN=>?_
 try dsimp only
 refine WS fun _ D=>bf 1 U<|RK D<|ah fun _ E=>WS fun _ F=>rP 1 [] mn ?_
 refine rS (BI U (qh OV))<|RK F<|cy U (aL fun B=>?_) (aM fun B=>?_)
 ·refine WS fun _ G=>mj (aD 0 U) B dc fun C=>?_
  have A:l=[]:=by simpa using C
  refine dH 116 3 ?_
  rw [show (own none 0 116 3 ([]:List (List Value)))=own none 0 116 3 (l.map cx.cells) from by rw [A]; rfl]
  refine rP 1 [] mn ?_
  refine RK G<|an ?_
  refine LX hQ (none,0) [0] [] mn U U U ?_ ?_
  ·first|rfl|(rw [A]; rfl)
  ·trivial
 refine WK E<|WS fun _ H=>t_ U p9 U fun J=>rP 1 [] mn ?_
 refine dM (es:=(List.map cx.cells [])) (C':=[own (some ⟨J,0,none⟩) 0 116 3 (List.map cx.cells []),_]) 0 U sm U (by simp [maxLen]) U ?_
 refine db (es2:=(List.map cx.cells l)) (m':=l.length) 0 U U U RG U U sm (aD 1 U) (vK _) os (by first|(simp only [maxLen]; omega)|(simp [maxLen]; omega)) sm sm U fun AA K=>?_
 try dsimp only
 refine rP 1 [] mn ?_
 refine RK H<|an ?_
 refine LX hQ (AA,K) [0] [] mn U U U ?_ ?_
 ·first|rfl|(rw [A]; rfl)
 ·trivial
theorem IJ (l:List aK) (lA:OA) (lC:Nat) (hlen:l.length≤1000000):
 lq Tryz.prog 93 [(vS lA l.length lC)] [(rd lA l.length 2 (l.map aK.cells))] (fun (x:(OA)×Nat)=>(vS x.1 l.length x.2)) (fun (x:(OA)×Nat)=>True) (fun (x:(OA)×Nat)=>[(own x.1 x.2 123 2 (l.map aK.cells))]):=by
 refine dj kr Tryz.func93 U U fun L Q hQ hN=>?_
 try dsimp only
 refine WS fun _ D=>bf 1 U<|RK D<|ah fun _ E=>WS fun _ F=>rP 1 [] mn ?_
 refine rS (BI U (qh RT))<|RK F<|cy U (aL fun B=>?_) (aM fun B=>?_)
 ·refine WS fun _ G=>mj (aD 0 U) B dc fun C=>?_
  have A:l=[]:=by simpa using C
  refine dH 123 2 ?_
  rw [show (own none 0 123 2 ([]:List (List Value)))=own none 0 123 2 (l.map aK.cells) from by rw [A]; rfl]
  refine rP 1 [] mn ?_
  refine RK G<|an ?_
  refine LX hQ (none,0) [0] [] mn U U U ?_ ?_
  ·first|rfl|(rw [A]; rfl)
  ·trivial
 refine WK E<|WS fun _ H=>t_ U Aj U fun J=>rP 1 [] mn ?_
 refine dM (es:=(List.map aK.cells [])) (C':=[own (some ⟨J,0,none⟩) 0 123 2 (List.map aK.cells []),_]) 0 U sm U (by simp [maxLen]) U ?_
 refine db (es2:=(List.map aK.cells l)) (m':=l.length) 0 U U U TZ U U sm (aD 1 U) (tU _) os (by first|(simp only [maxLen]; omega)|(simp [maxLen]; omega)) sm sm U fun AA K=>?_
 try dsimp only
 refine rP 1 [] mn ?_
 refine RK H<|an ?_
 refine LX hQ (AA,K) [0] [] mn U U U ?_ ?_
 ·first|rfl|(rw [A]; rfl)
 ·trivial
theorem Jq (es:List (List Value)) (lA:OA) (n lC:Nat) (hlen:n≤1000000) (hes:es.length=n) (hone: ∀ v∈es.flatten,v.oneCell'=true):
 lq Tryz.prog 88 [(vS lA n lC)] [(rd lA n 2 es)] (fun (x:(OA)×Nat)=>(vS x.1 n x.2)) (fun (x:(OA)×Nat)=>True) (fun (x:(OA)×Nat)=>[(own x.1 x.2 119 2 es)]):=by
 refine dj kr Tryz.func88 U U fun L Q hQ hN=>?_
 try dsimp only
 refine WS fun _ D=>bf 1 U<|RK D<|ah fun _ E=>WS fun _ F=>rP 1 [] mn ?_
 refine rS (BI U (qh Sq))<|RK F<|cy U (aL fun B=>?_) (aM fun B=>?_)
 ·refine WS fun _ G=>mj (aD 0 U) B dc fun C=>?_
  have A:es=[]:=C
  refine dH 119 2 ?_
  rw [show (own none 0 119 2 ([]:List (List Value)))=own none 0 119 2 es from by rw [A]]
  refine rP 1 [] mn ?_
  refine RK G<|an ?_
  refine LX hQ (none,0) [0] [] mn U U U ?_ ?_
  ·first|rfl|(rw [hes]; rfl)|(rw [← hes,A]; rfl)
  ·trivial
 refine WK E<|WS fun _ H=>t_ U zR U fun J=>rP 1 [] mn ?_
 refine dM (es:=(List.map dp.cells [])) (C':=[own (some ⟨J,0,none⟩) 0 119 2 (List.map dp.cells []),_]) 0 U sm U (by simp [maxLen]) U ?_
 refine db (es2:=es) (m':=es.length) 0 U U U Up U U sm (aD 1 U) hone (by simp; omega) (by simp [maxLen]; omega) sm U U fun AA K=>?_
 try dsimp only
 refine rP 1 [] mn ?_
 refine RK H<|an ?_
 refine LX hQ (AA,K) [0] [] mn U U U ?_ ?_
 ·first|rfl|(rw [hes]; rfl)|(rw [← hes,A]; rfl)
 ·trivial
theorem KN (es:List (List Value)) (lA:OA) (n lC:Nat) (hlen:n≤1000000) (hes:es.length=n) (hone: ∀ v∈es.flatten,v.oneCell'=true):
 lq Tryz.prog 92 [(vS lA n lC)] [(rd lA n 7 es)] (fun (x:(OA)×Nat)=>(vS x.1 n x.2)) (fun (x:(OA)×Nat)=>True) (fun (x:(OA)×Nat)=>[(own x.1 x.2 45 7 es)]):=by
 refine dj kr Tryz.func92 U U fun L Q hQ hN=>?_
 try dsimp only
 refine WS fun _ D=>bf 1 U<|RK D<|ah fun _ E=>WS fun _ F=>rP 1 [] mn ?_
 refine rS (BI U (qh Th))<|RK F<|cy U (aL fun B=>?_) (aM fun B=>?_)
 ·refine WS fun _ G=>mj (aD 0 U) B dc fun C=>?_
  have A:es=[]:=C
  refine dH 45 7 ?_
  rw [show (own none 0 45 7 ([]:List (List Value)))=own none 0 45 7 es from by rw [A]]
  refine rP 1 [] mn ?_
  refine RK G<|an ?_
  refine LX hQ (none,0) [0] [] mn U U U ?_ ?_
  ·first|rfl|(rw [hes]; rfl)|(rw [← hes,A]; rfl)
  ·trivial
 refine WK E<|WS fun _ H=>t_ U xD U fun J=>rP 1 [] mn ?_
 refine dM (es:=(List.map bk.cells [])) (C':=[own (some ⟨J,0,none⟩) 0 45 7 (List.map bk.cells []),_]) 0 U sm U (by simp [maxLen]) U ?_
 refine db (es2:=es) (m':=es.length) 0 U U U UE U U sm (aD 1 U) hone (by simp; omega) (by simp [maxLen]; omega) sm U U fun AA K=>?_
 try dsimp only
 refine rP 1 [] mn ?_
 refine RK H<|an ?_
 refine LX hQ (AA,K) [0] [] mn U U U ?_ ?_
 ·first|rfl|(rw [hes]; rfl)|(rw [← hes,A]; rfl)
 ·trivial
theorem Kw (es:List (List Value)) (lA:OA) (n lC:Nat) (hlen:n≤1000000) (hes:es.length=n) (hone: ∀ v∈es.flatten,v.oneCell'=true):
 lq Tryz.prog 91 [(vS lA n lC)] [(rd lA n 1 es)] (fun (x:(OA)×Nat)=>(vS x.1 n x.2)) (fun (x:(OA)×Nat)=>True) (fun (x:(OA)×Nat)=>[(own x.1 x.2 46 1 es)]):=by
 refine dj kr Tryz.func91 U U fun L Q hQ hN=>?_
 try dsimp only
 refine WS fun _ D=>bf 1 U<|RK D<|ah fun _ E=>WS fun _ F=>rP 1 [] mn ?_
 refine rS (BI U (qh Ru))<|RK F<|cy U (aL fun B=>?_) (aM fun B=>?_)
 ·refine WS fun _ G=>mj (aD 0 U) B dc fun C=>?_
  have A:es=[]:=C
  refine dH 46 1 ?_
  rw [show (own none 0 46 1 ([]:List (List Value)))=own none 0 46 1 es from by rw [A]]
  refine rP 1 [] mn ?_
  refine RK G<|an ?_
  refine LX hQ (none,0) [0] [] mn U U U ?_ ?_
  ·first|rfl|(rw [hes]; rfl)|(rw [← hes,A]; rfl)
  ·trivial
 refine WK E<|WS fun _ H=>t_ U ry U fun J=>rP 1 [] mn ?_
 refine dM (es:=(List.map sC [])) (C':=[own (some ⟨J,0,none⟩) 0 46 1 (List.map sC []),_]) 0 U sm U (by simp [maxLen]) U ?_
 refine db (es2:=es) (m':=es.length) 0 U U U Vj U U sm (aD 1 U) hone (by simp; omega) (by simp [maxLen]; omega) sm U U fun AA K=>?_
 try dsimp only
 refine rP 1 [] mn ?_
 refine RK H<|an ?_
 refine LX hQ (AA,K) [0] [] mn U U U ?_ ?_
 ·first|rfl|(rw [hes]; rfl)|(rw [← hes,A]; rfl)
 ·trivial
end
section
open Go.RowKit
theorem Ns (r:bT) (kA:OA) (kC:Nat) (az:List RA) (cA:OA) (cC:Nat) (bA:OA) (bC:Nat) (slA:OA) (slC:Nat) (drA:OA) (drC:Nat) (ha:List cO) (heA:OA) (heC:Nat) (hin:e9 r az ha):
 lq Tryz.prog 66 [(vA (cw.cells (oF r kA kC cA cC bA bC slA slC drA drC heA heC)))] [(rd kA r.ao.aP.length 9 (r.ao.aP.map al.cells)),(rd cA r.ao.ak.length 2 (List.zipWith ar.cells r.ao.ak az)),(eW (aV ar.gZ r.ao.ak az)),(rd bA r.ao.ae.length 4 (r.ao.ae.map bD.cells)),(rd slA r.aQ.length 1 (r.aQ.map iC)),(rd drA r.bQ.length 1 (r.bQ.map iC)),(rd heA r.ay.length 1 (List.zipWith cP r.ay ha)),(eW (aV iq r.ay ha))] (fun (x:(OA)×Nat×(OA)×Nat×(List RA)×(OA)×Nat×(OA)×Nat×(OA)×Nat×(OA)×Nat×(List cO))=>(vA (cw.cells (cw.mk (ck.mk (bE.mk (br.mk x.1 r.ao.aP.length x.2.1)) r.ao.hO (br.mk x.2.2.1 r.ao.ak.length x.2.2.2.1) (br.mk x.2.2.2.2.2.1 r.ao.ae.length x.2.2.2.2.2.2.1) r.ao.cH r.ao.eU r.ao.cV) (br.mk x.2.2.2.2.2.2.2.1 r.aQ.length x.2.2.2.2.2.2.2.2.1) (br.mk x.2.2.2.2.2.2.2.2.2.1 r.bQ.length x.2.2.2.2.2.2.2.2.2.2.1) r.iI (br.mk x.2.2.2.2.2.2.2.2.2.2.2.1 r.ay.length x.2.2.2.2.2.2.2.2.2.2.2.2.1))))) (fun (x:(OA)×Nat×(OA)×Nat×(List RA)×(OA)×Nat×(OA)×Nat×(OA)×Nat×(OA)×Nat×(List cO))=>(x.2.2.2.2.1.length=r.ao.ak.length∧rJ r.ao.ak x.2.2.2.2.1)∧sR r.ay x.2.2.2.2.2.2.2.2.2.2.2.2.2) (fun (x:(OA)×Nat×(OA)×Nat×(List RA)×(OA)×Nat×(OA)×Nat×(OA)×Nat×(OA)×Nat×(List cO))=>[(own x.1 x.2.1 114 9 (r.ao.aP.map al.cells)),(own x.2.2.1 x.2.2.2.1 119 2 (List.zipWith ar.cells r.ao.ak x.2.2.2.2.1)),(bw (aV ar.owns r.ao.ak x.2.2.2.2.1)),(own x.2.2.2.2.2.1 x.2.2.2.2.2.2.1 121 4 (r.ao.ae.map bD.cells)),(own x.2.2.2.2.2.2.2.1 x.2.2.2.2.2.2.2.2.1 3 1 (r.aQ.map iC)),(own x.2.2.2.2.2.2.2.2.2.1 x.2.2.2.2.2.2.2.2.2.2.1 3 1 (r.bQ.map iC)),(own x.2.2.2.2.2.2.2.2.2.2.2.1 x.2.2.2.2.2.2.2.2.2.2.2.2.1 46 1 (List.zipWith cP r.ay x.2.2.2.2.2.2.2.2.2.2.2.2.2)),(bw (aV jc r.ay x.2.2.2.2.2.2.2.2.2.2.2.2.2))]):=by
 have C:=hin.line
 have A9:=hin.iM
 have M:=hin.has
 have BL:=hin.iL
 have BJ:=hin.draw
 have BM:=dB (r:=r)
 have BZ:=C.sH
 have BW:=C.sI
 have BV:=C.sD
 have A6:=C.ov
 refine dj kr Tryz.func66 U U fun w0 Q hQ hN=>?_
 try dsimp only
 refine WS fun _ A2=>fK U fun b2=>AL U Cu fun b3=>RK A2<|WS fun _ A3=>rP 2 [] mn ?_
 refine RK A3<|ah fun _ A4=>dG cu [8,13,18,22,25,28] [7,11,15] [0,1,2] [0,2,3,4,5,6,7,8,9] [0,1,2,3,4,5,6,7,8,9] U U U U U<|eS U (MV U)<|eS U (MV U)<|eS U (MV U)<|eS U (MV U)<|eS U (SX (bI U U) U U)<|eS U (FA 0 U fu U)<|eS U (FA 0 U fu U)<|fS U (L1 (vS kA r.ao.aP.length kC) 1 U bX U U)<|eS U (MV U)<|eS U (SX (bI U U) U U)<|eS U (FA 2 U fu U)<|fS U (L1 (vS cA r.ao.ak.length cC) 1 U bX U U)<|eS U (MV U)<|eS U (SX (bI U U) U U)<|eS U (FA 3 U fu U)<|fS U (L1 (vS bA r.ao.ae.length bC) 1 U bX U U)<|eS U (SX (bI U U) U U)<|eS U (FA 0 U fu U)<|eS U (FA 0 U fu U)<|eS U (SX (bI U U) U U)<|eS U (FA 2 U fu U)<|eS U (SX (bI U U) U U)<|eS U (FA 3 U fu U)<|eV U<|iB U fun T6 A5=>?_
 refine cX (JW r.ao.aP kA kC sd) (bj [2]) U fun y7 Ba=>?_
 obtain ⟨a9,S⟩:=y7
 try dsimp only
 refine aC (A5 _ _ (aH [1,3,4,5,6,7,8,9,10]) (aH [1,2,3,4,5,6,7,8,9,10]) ?_)
 refine iB U fun T11 Af=>?_
 refine cX (Jq (List.zipWith ar.cells r.ao.ak az) cA r.ao.ak.length cC sd (by exact g4 A6) (by exact E0 _ _)) (bj [4]) U fun BA BN=>?_
 obtain ⟨J,K⟩:=BA
 try dsimp only
 refine aC (Af _ _ (aH [2,4,5,6,7,8,9,10,11]) (aH [2,3,4,5,6,7,8,9,10,11]) ?_)
 refine iB U fun T16 Ag=>?_
 refine cX (Jj r.ao.ae bA bC sd) (bj [7]) U fun BB BO=>?_
 obtain ⟨Y,Z⟩:=BB
 try dsimp only
 refine aC (Ag _ _ (aH [3,5,6,7,8,9,10,11,12]) (aH [3,4,5,6,7,8,9,10,11,12]) ?_)
 refine bY U fun T21 Ah=>Vd (cw.cells (cw.mk (ck.mk (bE.mk (br.mk a9 r.ao.aP.length S)) r.ao.hO (br.mk cA r.ao.ak.length cC) (br.mk bA r.ao.ae.length bC) r.ao.cH r.ao.eU r.ao.cV) (br.mk slA r.aQ.length slC) (br.mk drA r.bQ.length drC) r.iI (br.mk heA r.ay.length heC))) U Um U U<|aC (Ah _ _ (aH [3,5,6,7,8,9,10,11,12]) ?_)
 refine bY U fun T22 Ai=>Vd (cw.cells (cw.mk (ck.mk (bE.mk (br.mk a9 r.ao.aP.length S)) r.ao.hO (br.mk J r.ao.ak.length K) (br.mk bA r.ao.ae.length bC) r.ao.cH r.ao.eU r.ao.cV) (br.mk slA r.aQ.length slC) (br.mk drA r.bQ.length drC) r.iI (br.mk heA r.ay.length heC))) U Uw U U<|aC (Ai _ _ (aH [3,5,6,7,8,9,10,11,12]) ?_)
 refine bY U fun T23 Aj=>Vd (cw.cells (cw.mk (ck.mk (bE.mk (br.mk a9 r.ao.aP.length S)) r.ao.hO (br.mk J r.ao.ak.length K) (br.mk Y r.ao.ae.length Z) r.ao.cH r.ao.eU r.ao.cV) (br.mk slA r.aQ.length slC) (br.mk drA r.bQ.length drC) r.iI (br.mk heA r.ay.length heC))) U Ud U U<|aC (Aj _ _ (aH [3,5,6,7,8,9,10,11,12]) ?_)
 refine fF U<|KK A4<|ah fun _ AJ=>WS fun _ AK=>bf 1 U<|rS (SX (bI U U) U U)<|rP 4 [] (mc 4 U mn) ?_
 refine RK AK<|av<|oz ?_
 have E:(0≤r.ao.ak.length)∧(([]:List RA).length=0)∧(rJ r.ao.ak ([]:List RA)):=by exact ⟨Nat.zero_le _,rfl,fun k m a _ h=>by simp at h⟩
 refine bH (ι:={z:Nat×(List RA) // (z.1≤r.ao.ak.length)∧(z.2.length=z.1)∧(rJ r.ao.ak z.2)}) [1,2,3,39] [1,3,4,5,6,7,8,9,10,11,12,13] U U (fun z=>[(40,(vI (z.1.1:Int)))]) (fun z=>[(bw (aV ar.owns (r.ao.ak.take z.1.1) z.1.2)),(own J K 119 2 (List.zipWith ar.cells r.ao.ak (ky z.1.2 az z.1.1)))]) (fun _=>rfl) (fun _=>rfl) (fun z=>r.ao.ak.length-z.1.1) ⟨(0,([]:List RA)),E⟩ (aT U) (aH [1,3,4,5,6,7,8,9,10,11,12,13,0,2]) ?_
 clear E
 rintro ⟨⟨i,bz⟩,⟨AE,B,V⟩⟩ J26 AF
 try dsimp only at AE B V
 try dsimp only
 refine WS fun _ AM=>rP 1 [] mn ?_
 refine RK AM<|ah fun _ AN=>cy U (aL fun Az=>?_) (aM fun Az=>?_)
 ·refine WK AN<|ah fun _ AO=>av<|WS fun _ AP=>rP 2 [] mn ?_
  refine RK AP<|dG cu [13,16] [10,11,12,13,14] [0] [0,1,2,3,4,5,6,7,8,9,10,11,12] [0,1,2,3,4,5,6,7,8,9,10,11,12,13] U U U U U<|eS U (MV U)<|eS U (SX (bI U U) U U)<|eS U (FA 2 U fu U)<|eS U (L1 (vS J r.ao.ak.length K) 3 U bX U U)<|eS U (MV U)<|eS U (MV U)<|eS U (SX (bI U U) U U)<|eS U (FA 2 U fu U)<|eS U (L1 (vS J r.ao.ak.length K) 3 U bX U U)<|eS U (MV U) ?_
  obtain ⟨x,hx⟩:=aJ r.ao.ak i I
  obtain ⟨xa,s⟩:=aJ az i I
  have Ay:(List.zipWith ar.cells r.ao.ak (ky bz az i))[i]? =some (ar.cells x xa):=dy hx (z6 B s)
  have BY:=(C.Q4 _ _ _ hx s).2
  refine fS U (IA i U (ai (n:=r.ao.ak.length) 13 U (g4 (by rw [iD B I]; exact C.ov))) zR dc I I) ?_
  refine fS U (nR ((i*2)+1) U (ai (n:=r.ao.ak.length) 13 U (g4 (by rw [iD B I]; exact C.ov))) (Nat.mul_pos I dc) fu U) ?_
  refine fS U (fV i 1 (vS xa.1 x.bo.length xa.2) U bX (ai (n:=r.ao.ak.length) 13 U (g4 (by rw [iD B I]; exact C.ov))) Ay U dc U) ?_
  refine fS U (IA i U (ai (n:=r.ao.ak.length) 13 U (g4 (by rw [iD B I]; exact C.ov))) zR dc I I) ?_
  refine fS U (nR ((i*2)+1) U (ai (n:=r.ao.ak.length) 13 U (g4 (by rw [iD B I]; exact C.ov))) (Nat.mul_pos I dc) fu U) ?_
  refine eV U<|iB U fun T32 Ak=>?_
  refine cX (Ld x.bo xa.1 xa.2 sd) (aw (show ij _ (rd xa.1 x.bo.length 3 (x.bo.map cx.cells)).holds from (du 6 U (bM hx s (by simp [ar.gZ]))))<|aI) U fun BC BP=>?_
  obtain ⟨P,T⟩:=BC
  try dsimp only
  refine aC (Ak _ _ (aH [1,2,3,4,5,6,7,8,9,10,11,12,13]) (aH [1,2,3,4,5,6,7,8,9,10,11,12,13,14]) ?_)
  refine bY U fun T37 Al=>eu (k:=i) (o:=1) (vs:=[(vS P x.bo.length T)]) (es':=(List.zipWith ar.cells r.ao.ak (ky (bz++[(P,T)]) az (i+1)))) (C':=[_,_,_,_,_,_,_,_,_,_,_,_,_,_,(own J K 119 2 (List.zipWith ar.cells r.ao.ak (ky (bz++[(P,T)]) az (i+1))))]) 14 U U U RX U U U U Ay U dc (by exact xV (c:=ar.cells) (b:=(P,T)) hx B s) U<|aC (Al _ _ (aH [1,2,3,4,5,6,7,8,9,10,11,12,13]) ?_)
  refine fF U<|aG<|KK AO<|aj<|rP 2 [] mn ?_
  refine aC<|PX 0 U fun t=>?_
  simp only [List.length_map] at t
  refine I8 (Y':=aV ar.owns (r.ao.ak.take (i+1)) (bz++[(P,T)])) 13 0 U U (rR (f:=ar.owns) (b:=(P,T)) hx B) ?_
  have Au:(vI (((i+1):Nat):Int))=(vI ((i:Int)+1)):=by exact cI I
  refine aS (AF ⟨((i+1),(bz++[(P,T)])),⟨I,by simp; omega,IG V B hx t⟩⟩ _ _ _ U os (ct 4<|aX U Au<|dh.nil _) (aH [1,2,3,4,5,6,7,8,9,10,11,12,0,13]))
 refine bu<|ab<|ab<|au<|KK AJ<|ah fun _ AQ=>?_
 have A7:bz.length=r.ao.ak.length:=by omega
 have A8:=V
 rw [show (ky bz az i)=bz from xK I,show r.ao.ak.take i=r.ao.ak from List.take_of_length_le I]
 refine dG cu [2,5,8,10,12,14] [1,3,5] [0,1,2] [0,1,2,4,5,6,7,8,9,10,11,12,13] [0,1,2,3,4,5,6,7,8,9,10,11,12,13] U U U U U<|eS U (FA 7 U fu U)<|fS U (L1 (vS slA r.aQ.length slC) 3 U bX U U)<|eS U (FA 8 U fu U)<|fS U (L1 (vS drA r.bQ.length drC) 3 U bX U U)<|eS U (FA 10 U fu U)<|fS U (L1 (vS heA r.ay.length heC) 3 U bX U U)<|eS U (FA 7 U fu U)<|eS U (FA 8 U fu U)<|eS U (FA 10 U fu U)<|eV U<|iB U fun T40 Am=>?_
 refine cX (v7 r.aQ slA slC sd) (bj [8]) U fun BD BQ=>?_
 obtain ⟨g,j⟩:=BD
 try dsimp only
 refine aC (Am _ _ (aH [1,2,3,5,6,7,8,9,10,11,12,13,14]) (aH [1,2,3,4,5,6,7,8,9,10,11,12,13,14]) ?_)
 refine iB U fun T45 An=>?_
 refine cX (v7 r.bQ drA drC sd) (bj [10]) U fun BE BR=>?_
 obtain ⟨w,AB⟩:=BE
 try dsimp only
 refine aC (An _ _ (aH [2,3,4,6,7,8,9,10,11,12,13,14,15]) (aH [2,3,4,5,6,7,8,9,10,11,12,13,14,15]) ?_)
 refine iB U fun T50 Ao=>?_
 refine cX (Kw (List.zipWith cP r.ay ha) heA r.ay.length heC sd (by exact fg M) (by exact GP _ _)) (bj [12]) U fun BF BS=>?_
 obtain ⟨W,X⟩:=BF
 try dsimp only
 refine aC (Ao _ _ (aH [3,4,5,7,8,9,10,11,12,13,14,15,16]) (aH [3,4,5,6,7,8,9,10,11,12,13,14,15,16]) ?_)
 refine bY U fun T55 Ap=>Vb (cw.cells (cw.mk (ck.mk (bE.mk (br.mk a9 r.ao.aP.length S)) r.ao.hO (br.mk J r.ao.ak.length K) (br.mk Y r.ao.ae.length Z) r.ao.cH r.ao.eU r.ao.cV) (br.mk g r.aQ.length j) (br.mk drA r.bQ.length drC) r.iI (br.mk heA r.ay.length heC))) U AI U U<|aC (Ap _ _ (aH [3,4,5,7,8,9,10,11,12,13,14,15,16]) ?_)
 refine bY U fun T56 Aq=>Vb (cw.cells (cw.mk (ck.mk (bE.mk (br.mk a9 r.ao.aP.length S)) r.ao.hO (br.mk J r.ao.ak.length K) (br.mk Y r.ao.ae.length Z) r.ao.cH r.ao.eU r.ao.cV) (br.mk g r.aQ.length j) (br.mk w r.bQ.length AB) r.iI (br.mk heA r.ay.length heC))) U AI U U<|aC (Aq _ _ (aH [3,4,5,7,8,9,10,11,12,13,14,15,16]) ?_)
 refine bY U fun T57 Ar=>Vb (cw.cells (cw.mk (ck.mk (bE.mk (br.mk a9 r.ao.aP.length S)) r.ao.hO (br.mk J r.ao.ak.length K) (br.mk Y r.ao.ae.length Z) r.ao.cH r.ao.eU r.ao.cV) (br.mk g r.aQ.length j) (br.mk w r.bQ.length AB) r.iI (br.mk W r.ay.length X))) U Vm U U<|aC (Ar _ _ (aH [3,4,5,7,8,9,10,11,12,13,14,15,16]) ?_)
 refine fF U<|KK AQ<|ah fun _ AR=>WS fun _ AS=>rP 4 [] (mc 6 U mn) ?_
 refine RK AS<|av<|oz ?_
 have E:(0≤r.ay.length)∧(([]:List cO).length=0)∧(∀ (k:Nat) y (a:cO),r.ay[k]? =some y→([]:List cO)[k]? =some a→a.2.length=y.length):=by exact ⟨Nat.zero_le _,rfl,fun k y a _ q=>by simp at q⟩
 refine bH (ι:={z:Nat×(List cO) // (z.1≤r.ay.length)∧(z.2.length=z.1)∧(∀ (k:Nat) y (a:cO),r.ay[k]? =some y→z.2[k]? =some a→a.2.length=y.length)}) [1,2,74] [2,3,4,5,6,7,8,9,10,11,12,13,14,15,16,17] U U (fun z=>[(75,(vI (z.1.1:Int)))]) (fun z=>[(bw (aV jc (r.ay.take z.1.1) z.1.2)),(own W X 46 1 (List.zipWith cP r.ay (ky z.1.2 ha z.1.1)))]) (fun _=>rfl) (fun _=>rfl) (fun z=>r.ay.length-z.1.1) ⟨(0,([]:List cO)),E⟩ (aT U) (aH [2,3,4,5,6,7,8,9,10,11,12,13,14,15,16,17,0,1]) ?_
 clear E
 rintro ⟨⟨h,hz⟩,⟨l,A,L⟩⟩ J60 AG
 try dsimp only at l A L
 try dsimp only
 refine WS fun _ AT=>rP 1 [] mn ?_
 refine RK AT<|ah fun _ AU=>bL U (aM fun A0=>?_) (aL fun A0=>?_)
 ·refine bu<|ab<|ab<|au<|KK AR<|ah fun _ Ae=>?_
  have A_:sR r.ay hz:=⟨I,L⟩
  rw [show (ky hz ha h)=hz from xK I,show r.ay.take h=r.ay from List.take_of_length_le I]
  refine aj<|rP 1 [] (mc 5 U mn) ?_
  refine Pd U sU U<|RK Ae<|an ?_
  refine LX hQ (a9,S,J,K,bz,Y,Z,g,j,w,AB,W,X,hz) [3,15,14,2,1,0,17,16] [0] (mc 4 U mn) U (by show List.all _ _=true; simp only [fB,List.all_nil,gj,kv,Bool.and_true]; rfl) U U ?_
  exact ⟨⟨A7,A8⟩,A_⟩
 refine WK AU<|ah fun _ AV=>av<|WS fun _ AW=>rP 2 [] mn ?_
 refine RK AW<|ah fun _ AX=>dG cu [8,10] [6,7,8] [0] [0,1,2,3,4,5,6,7,8,9,10,11,12,13,14,15,16] [0,1,2,3,4,5,6,7,8,9,10,11,12,13,14,15,16,17] U U U U U<|eS U (FA 10 U fu U)<|eS U (L1 (vS W r.ay.length X) 5 U bX U U)<|eS U (MV U)<|eS U (FA 10 U fu U)<|eS U (L1 (vS W r.ay.length X) 5 U bX U U)<|eS U (MV U) ?_
 obtain ⟨ht,N⟩:=aJ r.ay h I
 obtain ⟨D,O⟩:=aJ ha h I
 have u:(List.zipWith cP r.ay (ky hz ha h))[h]? =some (cP ht D):=dy N (z6 A O)
 have AD:=hin.o1 _ _ _ N O
 have e:=AD.ov
 have A9:=AD.len
 refine fS U (IA h U (ai (n:=r.ay.length) 17 U (fg (by rw [iD A I]; exact M))) ry dc I I) ?_
 refine fS U (fV h 0 (vS D.1.1 ht.length D.1.2) U bX (ai (n:=r.ay.length) 17 U (fg (by rw [iD A I]; exact M))) u U dc U) ?_
 refine fS U (IA h U (ai (n:=r.ay.length) 17 U (fg (by rw [iD A I]; exact M))) ry dc I I) ?_
 refine eV U<|iB U fun T67 As=>?_
 refine cX (KN (List.zipWith ax.cells ht D.2) D.1.1 ht.length D.1.2 sd (by exact qi e) (by exact Ny _ _)) (aw (show ij _ (rd D.1.1 ht.length 7 (List.zipWith ax.cells ht D.2)).holds from (du 13 U (bM N O cb)))<|aI) U fun BG BT=>?_
 obtain ⟨G,H⟩:=BG
 try dsimp only
 refine aC (As _ _ (aH [1,2,3,4,5,6,7,8,9,10,11,12,13,14,15,16,17]) (aH [1,2,3,4,5,6,7,8,9,10,11,12,13,14,15,16,17,18]) ?_)
 refine bY U fun T72 At=>eu (k:=h) (o:=0) (vs:=[(vS G ht.length H)]) (es':=(List.zipWith cP r.ay (ky (hz++[((G,H),D.2)]) ha (h+1)))) (C':=[_,_,_,_,_,_,_,_,_,_,_,_,_,_,_,_,_,_,(own W X 46 1 (List.zipWith cP r.ay (ky (hz++[((G,H),D.2)]) ha (h+1))))]) 18 U U U UB U U U U u U dc (by exact xV (b:=((G,H),D.2)) N A O) U<|aC (At _ _ (aH [1,2,3,4,5,6,7,8,9,10,11,12,13,14,15,16,17]) ?_)
 refine fF U<|KK AX<|WS fun _ AY=>rP 3 [] (mc 6 U mn) ?_
 have v:(List.zipWith cP r.ay (ky (hz++[((G,H),D.2)]) ha (h+1)))[h]? =some (cP ht ((G,H),D.2)):=dy N (KX A)
 refine rS (IA h U (ai (n:=r.ay.length) 18 U (fg (by rw [iD (by simp; omega) I]; exact M))) ry dc I I) ?_
 refine rS (fV h 0 (vS G ht.length H) U bX (ai (n:=r.ay.length) 18 U (fg (by rw [iD (by simp; omega) I]; exact M))) v U dc U) ?_
 refine rP 2 [] mn ?_
 refine RK AY<|av<|oz ?_
 have E:(0≤ht.length)∧(([]:List RA).length=0):=by exact ⟨Nat.zero_le _,rfl⟩
 refine bH (ι:={z:Nat×(List RA) // (z.1≤ht.length)∧(z.2.length=z.1)}) [1,2,5,74,75,93] [2,3,4,5,6,7,8,9,10,11,12,13,14,15,16,17,18,19] U U (fun z=>[(94,(vI (z.1.1:Int)))]) (fun z=>[(bw (aV oE (ht.take z.1.1) z.1.2)),(own G H 45 7 (List.zipWith ax.cells ht (ky z.1.2 D.2 z.1.1)))]) (fun _=>rfl) (fun _=>rfl) (fun z=>ht.length-z.1.1) ⟨(0,([]:List RA)),E⟩ (aT U) (aH [2,3,4,5,6,7,8,9,10,11,12,13,14,15,16,17,18,19,0,1]) ?_
 clear E
 rintro ⟨⟨i,dz⟩,⟨p,F⟩⟩ J74 AH
 try dsimp only at p F
 try dsimp only
 refine WS fun _ AZ=>rP 1 [] mn ?_
 refine RK AZ<|ah fun _ Aa=>bL U (aM fun A1=>?_) (aL fun A1=>?_)
 ·refine bu<|ab<|ab<|au<|aG<|KK AV<|aj<|rP 2 [] mn ?_
  refine aC ?_
  have BK:dz.length=ht.length:=by omega
  rw [show (ky dz D.2 i)=dz from xK I,show ht.take i=ht from List.take_of_length_le I]
  refine Qz (Z':=aV jc (r.ay.take (h+1)) (hz++[((G,H),dz)])) 16 18 19 U U (rR (f:=jc) (b:=((G,H),dz)) N A) ?_
  rw [Iy (y:=dz)]
  have Aw:(vI (((h+1):Nat):Int))=(vI ((h:Int)+1)):=by exact cI I
  refine aS (AG ⟨((h+1),(hz++[((G,H),dz)])),⟨I,by simp; omega,Oh N L A dso⟩⟩ _ _ _ U os (ct 3<|aX U Aw<|dh.nil _) (aH [1,2,3,4,5,6,7,8,9,10,11,12,13,14,15,16,0,17]))
 refine WK Aa<|ah fun _ Ab=>av<|WS fun _ Ac=>rP 2 [] mn ?_
 refine RK Ac<|ah fun _ Ad=>?_
 refine DQ 19 U (by rw [qi (by rw [iD F I]; exact e)]; omega) (fun BI Bb=>?_)
 refine aj<|rP 3 [] (mc 5 U mn) ?_
 refine rS (IA h U (ai (n:=r.ay.length) 17 U (fg (by rw [iD (by simp; omega) I]; exact M))) ry dc I I) ?_
 refine rS (fV h 0 (vS G ht.length H) U bX (ai (n:=r.ay.length) 17 U (fg (by rw [iD (by simp; omega) I]; exact M))) v U dc U) ?_
 refine rP 1 [] mn ?_
 obtain ⟨d,hd⟩:=aJ ht i I
 obtain ⟨da,AC⟩:=aJ D.2 i I
 have Ax:(List.zipWith ax.cells ht (ky dz D.2 i))[i]? =some (ax.cells d da):=dy hd (z6 F AC)
 have BX:=AD.sig d (aR hd)
 refine rS (VJ i U Bb xD I I)<|rS (UU ((i*7)+4) U Bb fu U)<|bf 1 U<|RK Ad<|aj<|rP 2 [] mn ?_
 refine rS (SX (zt U U Bb) U U)<|rS (UU (((i*7)+4)+2) U Bb fu U) ?_
 refine rS (fV i 6 (vS da.1 d.cr.ag.length da.2) U bX (ai (n:=ht.length) 19 U (qi (by rw [iD F I]; exact e))) Ax U dc U) ?_
 refine cX (IJ d.cr.ag da.1 da.2 sd) (aw (show ij _ (rd da.1 d.cr.ag.length 2 (d.cr.ag.map aK.cells)).holds from (du 13 U (bM N O (cQ _ (bM hd AC (by simp [ax.gZ]))))))<|aI) U fun BH BU=>?_
 obtain ⟨R,AA⟩:=BH
 try dsimp only
 refine rS (SX (zt U U Bb) U U)<|rS (UU (((i*7)+4)+2) U Bb fu U)<|eu (k:=i) (o:=6) (vs:=[(vS R d.cr.ag.length AA)]) (es':=(List.zipWith ax.cells ht (ky (dz++[(R,AA)]) D.2 (i+1)))) (C':=[_,_,_,_,_,_,_,_,_,_,_,_,_,_,_,_,_,_,_,_,(own G H 45 7 (List.zipWith ax.cells ht (ky (dz++[(R,AA)]) D.2 (i+1))))]) 20 U U U Va U U U U Ax U dc (by exact xV (c:=ax.cells) (b:=(R,AA)) hd F AC) U<|aC<|aG<|KK Ab<|aj<|rP 2 [] mn ?_
 refine aC<|I8 (Y':=aV oE (ht.take (i+1)) (dz++[(R,AA)])) 19 0 U U (rR (f:=oE) (b:=(R,AA)) hd F) ?_
 have Av:(vI (((i+1):Nat):Int))=(vI ((i:Int)+1)):=by exact cI I
 refine aS (AH ⟨((i+1),(dz++[(R,AA)])),⟨I,by simp; omega⟩⟩ _ _ _ U os (ct 6<|aX U Av<|dh.nil _) (aH [1,2,3,4,5,6,7,8,9,10,11,12,13,14,15,16,17,18,0,19]))
end
end Go.Proofs.YtadjgjnicdcjbaaGreatDoor
