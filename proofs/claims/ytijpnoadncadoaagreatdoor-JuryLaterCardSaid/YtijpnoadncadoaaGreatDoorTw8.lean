/-
 The statement juryLater_said, part 8 of 9: Async, WayM, R1, Y1, Y2, Y3, Y5, Rr3, Rr4, Rr5, Rra, Jr2, Jr3, Jz1, Jz2, Jz3, Jz4, Jl4, LineOpen, RaceOpen, JOpen.
 Conditions: none.
-/
import Derived.Test.YtijpnoadncadoaaGreatDoorTw1
import Derived.Test.YtijpnoadncadoaaGreatDoorTw2
import Derived.Test.YtijpnoadncadoaaGreatDoorTw3
import Derived.Test.YtijpnoadncadoaaGreatDoorTw4
import Derived.Test.YtijpnoadncadoaaGreatDoorTw5
import Derived.Test.YtijpnoadncadoaaGreatDoorTw6
import Derived.Test.YtijpnoadncadoaaGreatDoorTw7
namespace Go.Proofs.YtijpnoadncadoaaGreatDoor
set_option maxRecDepth 100000
set_option maxHeartbeats 4000000
set_option linter.unusedVariables false
section
open Go.RowKit
/-- a row is taken that was made before; an operation -/
inductive gD where
 |take (i:Nat)
 |op (j:Nat)
def gD.ix:gD→Nat
 | .take i=>i
 | .op j=>j
def CK (dO:Nat→Nat):List gD→List Nat
 |[]=>[]
 | .take i::s=>dO i::CK dO s
 | .op _::s=>CK dO s
theorem uN {dO:Nat→Nat} {i:Nat}: ∀ {s:List gD},gD.take i∈s→dO i∈CK dO s
 | .take k::s,h=>by
  rcases bU.1 h with e|h
  ·cases e; exact cD ..
  ·exact dU _ (uN h)
 | .op k::s,h=>by
  rcases bU.1 h with e|h
  ·cases e
  ·exact uN (s:=s) h
def rB (m:Array Nat) (dO:Nat→Nat) (x y:gD):Bool:=x.ix != y.ix&&(match y with | .op j=>js m x.ix j| .take i=>match x with | .take k=>dO k != dO i| .op _=>true)
def Vq (m:Array Nat) (dO:Nat→Nat):List gD→Bool
 |[]=>true
 |x::s=>s.all (rB m dO x)&&Vq m dO s
theorem F8 {m:Array Nat} {dO:Nat→Nat}: ∀ {s:List gD},Vq m dO s=true→s.Pairwise fun x y=>rB m dO x y=true
 |[],_=>List.Pairwise.nil
 |x::s,h=>by
  simp only [Vq,cZ] at h
  exact List.Pairwise.cons (fun y hy=>de.1 h.1 y hy) (F8 h.2)
/-- what is known of the slots B is known in L -/
def Cf (B L:dC):Prop:= ∀ t v,B.lookup t=some v→L.lookup t=some v
theorem AV {B L:dC} (h:B.map (fun p=>L.lookup p.1)=B.map (fun p=>some p.2)):Cf B L:=by
 induction B with
 |nil=>intro t v h; simp at h
 |cons p B ih=>
  obtain ⟨k,u⟩:=p
  simp only [List.map_cons,List.cons.injEq] at h
  intro t v hl
  by_cases e:t=k
  ·subst e
   simp only [List.lookup,beq_self_eq_true,Option.some.injEq] at hl
   rw [h.1,hl]
  ·have:(t==k)=false:=by simpa using e
   simp only [List.lookup,this] at hl
   exact ih h.2 t v hl
theorem oT {L Y:dC} {t:Nat}:(L++Y).lookup t=match L.lookup t with |some v=>some v|none=>Y.lookup t:=by
 induction L with
 |nil=>rfl
 |cons p L ih=>
  obtain ⟨k,u⟩:=p
  by_cases e:t==k
  ·simp [List.lookup,e]
  ·have:(t==k)=false:=by simpa using e
   simp only [List.cons_append,List.lookup,this,ih]
theorem Cf.app {B L Y:dC} (h:Cf B L):Cf B (L++Y):=fun t v ht=>by rw [oT,h t v ht]
theorem Sh {B L:dC} (h:Cf B L) {x:Operand} {v:Value} (hv:ev B x=some v):ev L x=some v:=by
 cases x<;>simp only [ev] at hv ⊢ <;>first|exact h _ _ hv|exact hv
theorem F9 {B L:dC} (h:Cf B L): ∀ {xs:List Operand} {vs:List Value},evs B xs=some vs→evs L xs=some vs
 |[],vs,hv=>hv
 |x::xs,vs,hv=>by
  simp only [evs] at hv ⊢
  cases e1:ev B x with
  |none=>rw [e1] at hv; simp at hv
  |some v=>
   cases e2:evs B xs with
   |none=>rw [e1,e2] at hv; simp at hv
   |some us=>
    rw [e1,e2] at hv
    rw [Sh h e1,F9 h e2]; exact hv
section
variable (E:fG) (ops:Array Oper) (D:List Deferred) (C':List aB) (K0:Act→World→Prop) (B:List (Nat×Value)) (dO:Nat→Nat) (VO:Nat→Nat→Value) (AO:Nat→Nat→aB)
def CH:List gD→dC→List aB→Prop
 |[],L,C=>KJ E K0 D L C
 | .take i::s,L,C=> ∀ b,CH s ((dO i,VO i b)::L) (AO i b::C)
 | .op j::s,L,C=> ∀ o,ops[j]? =some o→ ∀ (Y:dC) (X:List aB) (K:Act→World→Prop),(∀ L' C'',(∀ w,St E.S E.w0 C'' w→St E.S E.w0 C' w)→((CK dO s).all fun d=>(L'.lookup d).isNone)=true→B.map (fun p=>L'.lookup p.1)=B.map (fun p=>some p.2)→CH s L' C''→KJ E K D (L'++Y) (C''++X))→RJ E ops (NQ K) [o] D (L++Y) (C++X)
/-- a row that is made at any time -/
def TK (i:Nat):Prop:= ∀ o,ops[i]? =some o→ ∀ (L:dC) (C:List aB) (K:Act→World→Prop),Cf B L→(∀ w,St E.S E.w0 C w→St E.S E.w0 C' w)→(∀ b,KJ E K D ((dO i,VO i b)::L) (AO i b::C))→RJ E ops (NQ K) [o] D L C
end
section
variable {E:fG} {ops:Array Oper} {D:List Deferred} {C' C1:List aB} {K0:Act→World→Prop} {B:List (Nat×Value)} {dO:Nat→Nat} {VO:Nat→Nat→Value} {AO:Nat→Nat→aB}
theorem Ow {Q:dk} {rest:List Oper} {L L2:dC} {C C2:List aB} (hL: ∀ a,Fr E.n D L a→Fr E.n D L2 a) (hC: ∀ w,St E.S E.w0 C w→St E.S E.w0 C2 w) (h:RJ E ops Q rest D L2 C2):RJ E ops Q rest D L C:=fun a w hf hs=>h a w (hL a hf) (hC w hs)
theorem F5 {K:Act→World→Prop} {L L2:dC} {C C2:List aB} (hL: ∀ a,Fr E.n D L a→Fr E.n D L2 a) (hC: ∀ w,St E.S E.w0 C w→St E.S E.w0 C2 w) (h:KJ E K D L2 C2):KJ E K D L C:=fun a w hf hs=>h a w (hL a hf) (hC w hs)
theorem Ge {n:Nat} {L L2:dC} (h: ∀ t v,L2.lookup t=some v→L.lookup t=some v) (a:Act) (hf:Fr n D L a):Fr n D L2 a:=⟨hf.defers,hf.size,fun t v ht=>hf.at_ t v (h t v ht)⟩
theorem EP: ∀ (T0 s':List gD) (dn:List (Nat×Nat)) (L Y:dC) (C:List aB),(∀ x∈T0,∃ i b,x= .take i∧(i,b)∈dn)→(T0++s').Pairwise (fun x y=>rB (q_ ops) dO x y=true)→(dn.map (·.1)).Nodup→(∀ p∈dn,gD.take p.1∈T0++s')→(∀ p∈dn,Y.lookup (dO p.1)=some (VO p.1 p.2))→(∀ i,gD.take i∈T0++s'→L.lookup (dO i)=none)→
 CH E ops D C' K0 B dO VO AO (T0++s') L C→ ∃ (dn':List (Nat×Nat)) (L':dC) (C2:List aB),CH E ops D C' K0 B dO VO AO s' L' C2∧(dn'.map (·.1)).Nodup∧(∀ p,p∈dn'↔p∈dn∧gD.take p.1∈s')∧(∀ t v,(L'++Y).lookup t=some v→(L++Y).lookup t=some v)∧(∀ i,gD.take i∈s'→L'.lookup (dO i)=none)∧(∀ w,St E.S E.w0 (C++dn.map fun p=>AO p.1 p.2) w→St E.S E.w0 (C2++dn'.map fun p=>AO p.1 p.2) w)
 |[],s',dn,L,Y,C,_,_,hn,hm,_,hl,h=>⟨dn,L,C,h,hn,fun p=>⟨fun q=>⟨q,hm p q⟩,fun q=>q.1⟩,fun t v q=>q,hl,fun w q=>q⟩
 |x::T0,s',dn,L,Y,C,ht,hp,hn,hm,hy,hl,h=>by
  obtain ⟨i,b,rfl,hb⟩:=ht x (cD ..)
  obtain ⟨J,P⟩:=List.pairwise_cons.1 hp
  have AB: ∀ y∈T0++s',i≠y.ix:=fun y hy e=>by
   have:=J y hy
   simp only [rB,cZ,bne_iff_ne,gD.ix] at this
   exact this.1 e
  have N: ∀ k,gD.take k∈T0++s'→dO k≠dO i:=fun k hk e=>by
   have:=J _ hk
   simp only [rB,cZ,bne_iff_ne] at this
   exact this.2 e.symm
  have K:dn.Perm ((i,b)::dn.erase (i,b)):=List.perm_cons_erase hb
  have H:((dn.erase (i,b)).map (·.1)).Nodup∧i ∉ (dn.erase (i,b)).map (·.1):=by
   have:=(K.map (·.1)).nodup_iff.1 hn
   exact ⟨(List.nodup_cons.1 this).2,(List.nodup_cons.1 this).1⟩
  have A: ∀ p∈dn.erase (i,b),p∈dn∧p.1≠i:=fun p hp=>⟨List.mem_of_mem_erase hp,fun e=>by have q:=List.mem_map_of_mem (f:=fun p:Nat×Nat=>p.1) hp; simp only [e] at q; exact H.2 q⟩
  have O:L.lookup (dO i)=none:=hl i (cD ..)
  obtain ⟨dn',L',C2,R,T,AA,V,W,X⟩:=EP T0 s' (dn.erase (i,b)) ((dO i,VO i b)::L) Y (AO i b::C) (fun x hx=>by
   obtain ⟨k,c,rfl,hk⟩:=ht x (dU _ hx)
   refine ⟨k,c,U,?_⟩
   have F:k≠i:=fun e=>AB _ (List.mem_append_left _ hx) e.symm
   exact (List.mem_erase_of_ne (fun e=>F (congrArg Prod.fst e))).2 hk) P H.1 (fun p hp=>by
   obtain ⟨M,G⟩:=A p hp
   rcases bU.1 (hm p M) with e|e
   ·injection e with e; exact absurd e G
   ·exact e) (fun p hp=>hy p (A p hp).1) (fun k hk=>by
   have:(dO k==dO i)=false:=by simpa using N k hk
   simp only [List.lookup,this]
   exact hl k (dU _ hk)) (h b)
  refine ⟨dn',L',C2,R,T,fun p=>?_,fun t v hv=>?_,W,fun w hw=>X w ?_⟩
  ·rw [AA]
   constructor
   ·rintro ⟨M,G⟩; exact ⟨(A p M).1,G⟩
   ·rintro ⟨M,G⟩
    have F:p.1≠i:=fun e=>AB _ (List.mem_append_right _ G) e.symm
    exact ⟨(List.mem_erase_of_ne (fun e=>F (congrArg Prod.fst e))).2 M,G⟩
  ·have:=V t v hv
   rw [oT] at this ⊢
   by_cases e:t=dO i
   ·subst e
    simp only [List.lookup,beq_self_eq_true] at this
    rw [O]; simp only
    rw [hy _ hb]; exact this
   ·have Q:(t==dO i)=false:=by simpa using e
    simp only [List.lookup,Q] at this
    exact this
  ·refine hw.perm ?_
   show (C++dn.map fun p=>AO p.1 p.2).Perm (AO i b::(C++(dn.erase (i,b)).map fun p=>AO p.1 p.2))
   refine ((K.map fun p:Nat×Nat=>AO p.1 p.2).append_left C).trans ?_
   exact List.perm_middle
theorem Cy: ∀ (s:List gD) (j:Nat),gD.op j∈s→ ∃ T0 k s',s=T0++gD.op k::s'∧ ∀ x∈T0,∃ i,x=gD.take i
 | .take i::s,j,h=>by
  rcases bU.1 h with e|h
  ·cases e
  ·obtain ⟨T0,k,s',rfl,A⟩:=Cy s j h
   exact ⟨.take i::T0,k,s',U,fun x hx=>by
    rcases bU.1 hx with rfl|hx
    ·exact ⟨i,U⟩
    ·exact A x hx⟩
 | .op k::s,j,_=>⟨[],k,s,rfl,fun x hx=>by cases hx⟩
def lF (s:List gD) (dn:List (Nat×Nat)):List Nat:=(s.map gD.ix).filter fun i=> !(dn.map (·.1)).contains i
theorem sD {s:List gD} {dn:List (Nat×Nat)} {i:Nat}:i∈lF s dn↔(∃ x∈s,x.ix=i)∧ ∀ p∈dn,p.1≠i:=by
 unfold lF
 rw [List.mem_filter,cp]
 refine and_congr Iff.rfl ?_
 rw [Bool.not_eq_true',← Bool.not_eq_true,List.contains_iff_mem,cp]
 constructor
 ·intro h p hp e; exact h ⟨p,hp,e⟩
 ·rintro h ⟨p,hp,e⟩; exact h p hp e
theorem sr (hal: ∀ i,TK E ops D C' B dO VO AO i∨True): ∀ (n:Nat) (s:List gD) (dn:List (Nat×Nat)) (L Y:dC) (C:List aB),(∀ i,gD.take i∈s→TK E ops D C' B dO VO AO i)→s.Pairwise (fun x y=>rB (q_ ops) dO x y=true)→(lF s dn).length=n→(dn.map (·.1)).Nodup→(∀ p∈dn,gD.take p.1∈s)→(∀ p∈dn,Y.lookup (dO p.1)=some (VO p.1 p.2))→(∀ i,gD.take i∈s→L.lookup (dO i)=none)→Cf B L→
 (∀ w,St E.S E.w0 C w→St E.S E.w0 C' w)→CH E ops D C' K0 B dO VO AO s L C→TN E ops D C' C1 (fun L C=>KJ E K0 D L C) [] n (lF s dn) (L++Y) (C++dn.map fun p=>AO p.1 p.2)
 |0,s,dn,L,Y,C,_,hp,hlen,hn,hm,hy,hl,hB,hC,h=>by
  have hr:lF s dn=[]:=iD hlen
  have Q: ∀ x∈s,∃ i b,x=gD.take i∧(i,b)∈dn:=fun x hx=>by
   have hx':x.ix ∉ lF s dn:=by rw [hr]; exact List.not_mem_nil
   rw [sD] at hx'
   have: ∃ p∈dn,p.1=x.ix:=by
    apply Classical.byContradiction
    intro q
    exact hx' ⟨⟨x,hx,U⟩,fun p hp e=>q ⟨p,hp,e⟩⟩
   obtain ⟨p,T,AA⟩:=this
   have ht:=hm p T
   rcases List.mem_iff_getElem.1 hx with ⟨a,ha,ea⟩
   rcases List.mem_iff_getElem.1 ht with ⟨c,hc,ec⟩
   have d:a=c:=by
    rcases Nat.lt_trichotomy a c with q|q|q
    ·have:=fg.1 hp a c ha hc q
     simp only [rB,cZ,bne_iff_ne,ea,ec] at this
     exact absurd AA.symm this.1
    ·exact q
    ·have:=fg.1 hp c a hc ha q
     simp only [rB,cZ,bne_iff_ne,ea,ec] at this
     exact absurd AA this.1
   subst d
   exact ⟨p.1,p.2,by rw [← ea,ec],T⟩
  obtain ⟨dn',L',C2,V,J,O,W,h5,X⟩:=EP s [] dn L Y C Q (by simpa using hp) hn (by simpa using hm) hy (by simpa using hl) (by simpa using h)
  show KJ E K0 D _ _
  have hd:dn'=[]:=List.eq_nil_iff_forall_not_mem.2 fun p hp=>by have:=((O p).1 hp).2; cases this
  subst hd
  refine F5 (L2:=L') (C2:=C2) (fun a hf=>Ge (fun t v ht=>W t v (by rw [oT,ht])) a hf) (fun w hw=>by have:=X w hw; simpa using this) V
 |n+1,s,dn,L,Y,C,hal',hp,hlen,hn,hm,hy,hl,hB,hC,h=>by
  intro i hi o ho K hK
  obtain ⟨G,m⟩:=List.mem_filter.1 hi
  obtain ⟨⟨x,hx,rfl⟩,H⟩:=sD.1 G
  have A: ∀ k∈lF s dn,js (q_ ops) k x.ix=false:=fun k hk=>by
   have:=de.1 m k hk
   simpa using this
  cases x with
  |take i=>
   simp only [gD.ix] at H A ho hK G ⊢
   refine hal' i hx o ho _ _ K hB.app (fun w hw=>hC w (hw.take (List.sublist_append_left _ _))) fun b=>?_
   have l:=hl i hx
   have AB:(lF s dn).filter (· != i)=lF s ((i,b)::dn):=by
    unfold lF
    rw [List.filter_filter]
    apply List.filter_congr
    intro k _
    simp only [List.map_cons,List.contains_cons,Bool.not_or]
    rfl
   have N:(lF s dn).Nodup:=by
    unfold lF
    refine List.Nodup.sublist List.filter_sublist<|List.pairwise_map.2 (hp.imp fun {a c} q=>?_)
    simp only [rB,cZ,bne_iff_ne] at q
    exact q.1
   have M: ∀ k,gD.take k∈s→k≠i→dO k≠dO i:=fun k hk AC e=>by
    rcases List.mem_iff_getElem.1 hx with ⟨a,ha,ea⟩
    rcases List.mem_iff_getElem.1 hk with ⟨c,hc,ec⟩
    rcases Nat.lt_trichotomy a c with q|q|q
    ·have:=fg.1 hp a c ha hc q
     simp only [rB,cZ,bne_iff_ne,ea,ec] at this
     exact this.2 e.symm
    ·subst q; rw [ea] at ec; cases ec; exact AC rfl
    ·have:=fg.1 hp c a hc ha q
     simp only [rB,cZ,bne_iff_ne,ea,ec] at this
     exact this.2 e
   refine F5 (L2:=L++((dO i,VO i b)::Y)) (C2:=C++((i,b)::dn).map fun p=>AO p.1 p.2) (fun a hf=>Ge (fun t v ht=>?_) a hf) (fun w hw=>hw.perm (List.perm_middle).symm) (hK _ _ (fun w hw=>hC w (hw.take (List.sublist_append_left _ _))) (fun q=>by cases q) ?_)
   ·rw [oT] at ht
    by_cases e:t=dO i
    ·subst e
     rw [l] at ht
     simp only [List.lookup,beq_self_eq_true] at ht ⊢
     exact ht
    ·have e2:(t==dO i)=false:=by simpa using e
     simp only [List.lookup,e2] at ht ⊢
     rw [oT]; exact ht
   ·rw [AB]
    refine sr hal n s ((i,b)::dn) L ((dO i,VO i b)::Y) C hal' hp ?_ (List.nodup_cons.2 ⟨fun q=>?_,hn⟩) (fun p hp'=>?_) (fun p hp'=>?_) hl hB hC h
    ·rw [← AB,← List.Nodup.erase_eq_filter N,List.length_erase_of_mem G,hlen]; rfl
    ·obtain ⟨p,hp',e⟩:=cp.1 q
     exact H p hp' e
    ·rcases bU.1 hp' with rfl|hp'
     ·exact hx
     ·exact hm p hp'
    ·rcases bU.1 hp' with rfl|hp'
     ·simp [List.lookup]
     ·have:(dO p.1==dO i)=false:=by simpa using M p.1 (hm p hp') (H p hp')
      simp only [List.lookup,this]
      exact hy p hp'
  |op j=>
   simp only [gD.ix] at H A ho hK G ⊢
   obtain ⟨T0,k,s',rfl,hT⟩:=Cy s j hx
   obtain ⟨q1,q2,q3⟩:=List.pairwise_append.1 hp
   obtain ⟨q4,q5⟩:=List.pairwise_cons.1 q2
   have R: ∀ k',gD.op k'∈T0++gD.op k::s'→k'∈lF (T0++gD.op k::s') dn:=fun k' hk'=>by
    refine sD.2 ⟨⟨_,hk',U⟩,fun p hp' e=>?_⟩
    have ht:=hm p hp'
    rcases List.mem_iff_getElem.1 hk' with ⟨a,ha,ea⟩
    rcases List.mem_iff_getElem.1 ht with ⟨c,hc,ec⟩
    rcases Nat.lt_trichotomy a c with q|q|q
    ·have:=fg.1 hp a c ha hc q
     simp only [rB,cZ,bne_iff_ne,ea,ec,gD.ix] at this
     exact this.1 e.symm
    ·subst q; rw [ea] at ec; cases ec
    ·have:=fg.1 hp c a hc ha q
     simp only [rB,cZ,bne_iff_ne,ea,ec,gD.ix] at this
     exact this.1 e
   have AD:k=j:=by
    apply Classical.byContradiction
    intro AR
    have hj':gD.op j∈s':=by
     rcases g9.1 hx with q|q
     ·obtain ⟨i,e⟩:=hT _ q; cases e
     ·rcases bU.1 q with e|q
      ·injection e with e; exact absurd e.symm AR
      ·exact q
    have:=q4 _ hj'
    simp only [rB,cZ,gD.ix] at this
    have J:=A k (R k sm)
    rw [this.2] at J; cases J
   subst AD
   have F: ∀ x∈T0,∃ i b,x=gD.take i∧(i,b)∈dn:=fun x hx'=>by
    obtain ⟨i,rfl⟩:=hT x hx'
    apply Classical.byContradiction
    intro q
    have r:i∈lF (T0++gD.op k::s') dn:=sD.2 ⟨⟨_,List.mem_append_left _ hx',rfl⟩,fun p hp' e=>q ⟨i,p.2,rfl,by rw [← e]; exact hp'⟩⟩
    have:=q3 _ hx' _ (cD ..)
    simp only [rB,cZ,gD.ix] at this
    have J:=A i r
    rw [this.2] at J; cases J
   obtain ⟨dn',L',C2,V,J,O,W,h5,X⟩:=EP T0 (gD.op k::s') dn L Y C F hp hn hm hy hl h
   refine Ow (fun a hf=>Ge W a hf) X (V o ho Y (dn'.map fun p=>AO p.1 p.2) K fun L3 C3 P AY Z g=>?_)
   have AB:(lF (T0++gD.op k::s') dn).filter (· != k)=lF s' dn':=by
    unfold lF
    rw [List.map_append,List.filter_append,List.map_cons,List.filter_append]
    have e1:(List.map gD.ix T0).filter (fun i=> !(dn.map (·.1)).contains i)=[]:=by
     apply List.filter_eq_nil_iff.2
     intro z hz
     obtain ⟨x,hx',rfl⟩:=cp.1 hz
     obtain ⟨i,b,rfl,hb⟩:=F x hx'
     simp only [gD.ix,Bool.not_eq_true',Bool.not_eq_false,List.contains_iff_mem]
     exact List.mem_map_of_mem (f:=(·.1)) hb
    rw [e1]
    simp only [List.filter_nil,List.nil_append]
    have u:k ∉ dn.map (·.1):=fun q=>by
     obtain ⟨p,hp',e⟩:=cp.1 q
     exact H p hp' e
    rw [List.filter_cons_of_pos (by simpa [gD.ix] using u),List.filter_cons_of_neg (by simp [gD.ix]),List.filter_filter]
    apply List.filter_congr
    intro z hz
    obtain ⟨y,hy',rfl⟩:=cp.1 hz
    have Ae:y.ix≠k:=fun e=>by
     have:=q4 y hy'
     simp only [rB,cZ,bne_iff_ne,gD.ix] at this
     exact this.1 e.symm
    rw [Bool.eq_iff_iff]
    simp only [cZ,bne_iff_ne,Bool.not_eq_true',← Bool.not_eq_true,List.contains_iff_mem]
    constructor
    ·rintro ⟨_,hq⟩ hc
     obtain ⟨p,hp',e⟩:=cp.1 hc
     exact hq (by rw [← e]; exact List.mem_map_of_mem (f:=(·.1)) ((O p).1 hp').1)
    ·intro hq
     refine ⟨Ae,fun hc=>?_⟩
     obtain ⟨p,hp',e⟩:=cp.1 hc
     apply hq
     rw [← e]
     refine List.mem_map_of_mem (f:=(·.1)) ((O p).2 ⟨hp',?_⟩)
     have ht:=hm p hp'
     rcases g9.1 ht with ht|ht
     ·exfalso
      have:=q3 _ ht _ (dU _ hy')
      simp only [rB,cZ,bne_iff_ne,gD.ix] at this
      exact this.1 e
     ·exact ht
   have N:(lF (T0++gD.op k::s') dn).Nodup:=by
    unfold lF
    refine List.Nodup.sublist List.filter_sublist<|List.pairwise_map.2 (hp.imp fun {a c} q=>?_)
    simp only [rB,cZ,bne_iff_ne] at q
    exact q.1
   refine hK _ _ (fun w hw=>P w (hw.take (List.sublist_append_left _ _))) (fun q=>by cases q) ?_
   rw [AB]
   have hdn': ∀ p∈dn',gD.take p.1∈s':=fun p hp'=>by
    rcases bU.1 ((O p).1 hp').2 with e|e
    ·cases e
    ·exact e
   refine sr hal n s' dn' L3 Y C3 (fun i hi=>hal' i (by simp [hi])) q5 ?_ J hdn' (fun p hp'=>hy p ((O p).1 hp').1) (fun i hi=>?_) (AV Z) P g
   ·rw [← AB,← List.Nodup.erase_eq_filter N,List.length_erase_of_mem G,hlen]; rfl
   ·have:=de.1 AY _ (uN hi)
    simpa using this
/-- the rows, at any time; the others, one after the other -/
theorem GN {tb rem:List Nat} {L:dC} {C:List aB} (s:List gD) (B:dC) (dO:Nat→Nat) (VO:Nat→Nat→Value) (AO:Nat→Nat→aB) {n:Nat} (htb:tb=[]) (hr:s.map gD.ix=rem) (hn:rem.length=n) (hp:Vq (q_ ops) dO s=true) (hl:((CK dO s).all fun d=>(L.lookup d).isNone)=true) (hB:B.map (fun p=>L.lookup p.1)=B.map (fun p=>some p.2)) (hC: ∀ w,St E.S E.w0 C w→St E.S E.w0 C' w)
 (hal: ∀ i,gD.take i∈s→TK E ops D C' B dO VO AO i) (h:CH E ops D C' K0 B dO VO AO s L C):TN E ops D C' C1 (fun L C=>KJ E K0 D L C) tb n rem L C:=by
 subst htb hr
 have e:lF s []=s.map gD.ix:=by unfold lF; simp
 have:=sr (C1:=C1) (fun i=> .inr trivial) n s [] L [] C hal (F8 hp) (by rw [e]; exact hn) List.nodup_nil (fun p hp=>by cases hp) (fun p hp=>by cases hp) (fun i hi=>by
  have:=de.1 hl _ (uN hi)
  simpa using this) (AV hB) hC h
 simpa [e] using this
theorem Ms {p:Nat→Prop}: ∀ i,gD.take i∈([]:List gD)→p i:=fun i h=>by cases h
theorem rX {p:Nat→Prop} {j:Nat} {s:List gD} (h: ∀ i,gD.take i∈s→p i): ∀ i,gD.take i∈gD.op j::s→p i:=fun i hi=>by
 rcases bU.1 hi with e|hi
 ·cases e
 ·exact h i hi
theorem m8 {p:Nat→Prop} {j:Nat} {s:List gD} (hj:p j) (h: ∀ i,gD.take i∈s→p i): ∀ i,gD.take i∈gD.take j::s→p i:=fun i hi=>by
 rcases bU.1 hi with e|hi
 ·cases e; exact hj
 ·exact h i hi
end
section
variable {E:fG} {ops:Array Oper} {D:List Deferred} {C':List aB} {B:List (Nat×Value)} {dO:Nat→Nat} {VO:Nat→Nat→Value} {AO:Nat→Nat→aB}
variable {d:Nat} {ty:TypeId} {ps:String} {af:Array Edge}
theorem KC {i t e sz:Nat} (ho:ops[i]? =some ⟨some d,.buildSlice t 0 #[],ty,ps,af,none⟩) (ht:tE E.P t=some (e,sz)) (hd:Nat.blt d E.n=true) (h1:dO i=d) (h2: ∀ b,VO i b= .slice (some ⟨b,0,none⟩) 0 0) (h3: ∀ b,AO i b=cv b e []):TK E ops D C' B dO VO AO i:=fun o ho' L C K hB _ hk=>by
 rw [ho] at ho'; cases ho'
 exact qT U ht hd fun b=>aJ (by have:=hk b; rw [h1,h2,h3] at this; exact this)
theorem w4 {i t e sz n:Nat} {xs:List Operand} {vs:List Value} {cs zs:List Value} (ho:ops[i]? =some ⟨some d,.buildSlice t n ((xs.zipIdx.map fun p=>(p.2,p.1)).toArray),ty,ps,af,none⟩) (ht:tE E.P t=some (e,sz)) (hz:tZ E.P e=some zs) (hx:evs B xs=some vs) (hn:xs.length=n) (hp:Nat.blt 0 (n*sz)=true) (hb:Nat.ble (n*sz) 16777216=true) (hv: ∀ v∈vs,v.cells.size=sz)
 (hc:(vs.map (·.cells.toList)).flatten=cs) (hd:Nat.blt d E.n=true) (h1:dO i=d) (h2: ∀ b,VO i b= .slice (some ⟨b,0,none⟩) n n) (h3: ∀ b,AO i b=cv b e cs):TK E ops D C' B dO VO AO i:=fun o ho' L C K hB _ hk=>by
 rw [ho] at ho'; cases ho'
 exact eJ U ht hz (F9 hB hx) hn hp hb hv hc hd fun b=>aJ (by have:=hk b; rw [h1,h2,h3] at this; exact this)
end
section
variable {E:fG} {ops:Array Oper} {D:List Deferred} {C':List aB} {K0:Act→World→Prop} {B:List (Nat×Value)} {dO:Nat→Nat} {VO:Nat→Nat→Value} {AO:Nat→Nat→aB}
theorem rq {j:Nat} {s:List gD} {L:dC} {C:List aB} {o:Oper} (ho:ops[j]? =some o)
 (h: ∀ (Y:dC) (X:List aB) (K:Act→World→Prop),(∀ L' C'',(∀ w,St E.S E.w0 C'' w→St E.S E.w0 C' w)→((CK dO s).all fun d=>(L'.lookup d).isNone)=true→B.map (fun p=>L'.lookup p.1)=B.map (fun p=>some p.2)→CH E ops D C' K0 B dO VO AO s L' C''→KJ E K D (L'++Y) (C''++X))→RJ E ops (NQ K) [o] D (L++Y) (C++X)):CH E ops D C' K0 B dO VO AO (.op j::s) L C:=fun o' ho'=>by
 rw [ho] at ho'; cases ho'
 exact h
theorem oN {s:List gD} {L Y:dC} {C X:List aB} {K:Act→World→Prop} (hT: ∀ L' C'',(∀ w,St E.S E.w0 C'' w→St E.S E.w0 C' w)→((CK dO s).all fun d=>(L'.lookup d).isNone)=true→B.map (fun p=>L'.lookup p.1)=B.map (fun p=>some p.2)→CH E ops D C' K0 B dO VO AO s L' C''→KJ E K D (L'++Y) (C''++X)) (nL nC:Nat)
 (hL:L.take nL++Y=L) (hC:C.take nC++X=C) (h1: ∀ w,St E.S E.w0 (C.take nC) w→St E.S E.w0 C' w) (h2:((CK dO s).all fun d=>((L.take nL).lookup d).isNone)=true) (h3:B.map (fun p=>(L.take nL).lookup p.1)=B.map (fun p=>some p.2)) (h:CH E ops D C' K0 B dO VO AO s (L.take nL) (C.take nC)):RJ E ops (NQ K) [] D L C:=by
 have:=hT _ _ h1 h2 h3 h
 rw [hL,hC] at this
 exact aJ this
theorem PC {c:Code} {Q:dk} {L L':dC} {C:List aB} (h:L'.map (fun p=>L.lookup p.1)=L'.map (fun p=>some p.2)) (k:WJ E c Q D L' C):WJ E c Q D L C:=fun a w hf hs=>k a w (Ge (AV h) a hf) hs
theorem x4: ∀ {C:List aB} {i:Nat} {A:aB},C[i]? =some A→C.Perm (A::C.eraseIdx i)
 |[],i,A,h=>by simp at h
 |x::C,0,A,h=>by
  simp at h; subst h
  exact List.Perm.refl _
 |x::C,i+1,A,h=>((x4 (C:=C) (i:=i) (by simpa using h)).cons x).trans (List.Perm.swap _ _ _)
theorem St.front {S:BS} {w0 w:World} {C:List aB} {A:aB} (i:Nat) (hi:C[i]? =some A) (h:St S w0 C w):St S w0 (A::C.eraseIdx i) w:=h.perm (x4 hi)
theorem F6 {K:Act→World→Prop} {L:dC} {C:List aB} {A:aB} (i:Nat) (hi:C[i]? =some A) (h:KJ E K D L (A::C.eraseIdx i)):KJ E K D L C:=fun a w hf hs=>h a w hf (hs.front i hi)
theorem sS {Q:dk} {rest:List Oper} {L:dC} {C:List aB} {A:aB} (i:Nat) (hi:C[i]? =some A) (h:RJ E ops Q rest D L (A::C.eraseIdx i)):RJ E ops Q rest D L C:=fun a w hf hs=>h a w hf (hs.front i hi)
end
end
section
open Go.RowKit
theorem CF (l:List dB) (az:List lz): ∀ v∈(List.zipWith dB.cells l az).flatten,v.oneCell'=true:=by
 induction l generalizing az with
 |nil=>intro v hv; simp at hv
 |cons x l ih=>
  cases az with
  |nil=>intro v hv; simp at hv
  |cons a az=>
   intro v hv
   simp only [List.zipWith_cons_cons,List.flatten_cons,g9] at hv
   rcases hv with hv|hv
   ·simp only [dB.cells,zd.cells,bU,List.not_mem_nil,or_false] at hv
    rcases hv with rfl|rfl|rfl<;>rfl
   ·exact ih az v hv
theorem Pu: ∀ (m:dB) (a:lz) (w:World),(∀ X∈dB.owns m a,X.holds w)→ ∀ X∈dB.gG m a,X.holds w:=fun m a w h X hX=>by
 simp only [dB.gG,bU,List.not_mem_nil,or_false] at hX
 have A:=oo (h (own a.1.1 a.1.2 mP 1 (m.g4.map iC)) (by simp [dB.owns]))
 have B:=oo (h (own a.2.1.1 a.2.1.2 mP 1 (m.jv.map iC)) (by simp [dB.owns]))
 have C:=oo (h (own a.2.2.1 a.2.2.2 mP 1 (m.mG.map iC)) (by simp [dB.owns]))
 rcases hX with rfl|rfl|rfl
 ·simpa using A
 ·simpa using B
 ·simpa using C
theorem qv: ∀ (l:List dB) (az:List lz),(a_ dB.owns l az).all (·.wr)=true
 |[],_=>rfl
 |_::_,[]=>rfl
 |x::l,a::az=>by
  simp only [a_,List.all_append,cZ]
  exact ⟨U,qv l az⟩
theorem KO (l:List dB) (az:List lz):(bK (a_ dB.owns l az)).wr=true:=qv l az
theorem Mh {l m:List dB} {az bz:List lz} (h:az.length=l.length):List.zipWith dB.cells (l++m) (az++bz)=List.zipWith dB.cells l az++List.zipWith dB.cells m bz:=List.zipWith_append h.symm
theorem vr {l:List dB} {az:List lz} (h:az.length=l.length):(List.zipWith dB.cells l az).length=l.length:=by rw [List.length_zipWith]; omega
/-- what is read of a thing that is tied, and frozen -/
theorem qM {C L:List aB} {a:OA} {c e sz n:Nat} {es:List (List Value)} (i:Nat) (hC:C[i]? =some (bK L).ro) (hm:own a c e sz es∈L) (hn:es.length=n):jC C (rd a n sz es).holds:=fun w hw=>by
 subst hn
 exact oo ((show (bK L).holds w from (hw _ (aQ hC):(bK L).ro.holds w)).1 _ hm)
section
variable {E:fG} {ops:Array Oper} {Q:dk} {rest:List Oper} {D:List Deferred} {L:List (Nat×Value)} {C C1:List aB}
theorem St.Qn {S:BS} {w0 w:World} {X C:List aB} {A:aB} (h:St S w0 (bK (X++[A])::C) w):St S w0 (A::bK X::C) w:=by
 have B:=h.je
 have D:St S w0 (X++(A::C)) w:=by simpa using B
 exact D.tied.perm (List.Perm.swap _ _ _)
theorem St.merge {S:BS} {w0 w:World} {X Y C:List aB} (h:St S w0 (bK X::bK Y::C) w):St S w0 (bK (X++Y)::C) w:=by
 have A:St S w0 (bK Y::(X++C)) w:=(h.je).perm (List.perm_middle (a:=bK Y) (l₁:=X) (l₂:=C))
 have B:St S w0 (Y++(X++C)) w:=A.je
 have D:St S w0 ((X++Y)++C) w:=B.perm (by rw [← List.append_assoc]; exact List.perm_append_comm.append_right _)
 exact D.tied
end
section
variable {E:fG} {ops:Array Oper} {Q:dk} {rest:List Oper} {D:List Deferred} {L:List (Nat×Value)} {C:List aB}
theorem BK {A:aB} {X X':List aB} (e:X++[A]=X') (h:RJ E ops Q rest D L (bK X'::C)):RJ E ops Q rest D L (A::bK X::C):=fun a w hf hs=>h a w hf (hs.tie e)
theorem zQ {X:List aB} {A:aB} (h:RJ E ops Q rest D L (A::bK X::C)):RJ E ops Q rest D L (bK (X++[A])::C):=fun a w hf hs=>h a w hf hs.Qn
theorem Kh {K:Act→World→Prop} {ms ns:List dB} {az bz:List lz} (hl:az.length=ms.length) (h:KJ E K D L (bK (a_ dB.owns (ms++ns) (az++bz))::C)):KJ E K D L (bK (a_ dB.owns ms az)::bK (a_ dB.owns ns bz)::C):=fun a w hf hs=>h a w hf (by rw [jU hl.symm]; exact hs.merge)
end
/-- the head of the ways: the way that ends here, if it may -/
def yh (l:bg) (r:cr) (rs fs:List Int) (ra fa:RA) (hz:List lz) (LA:List aB):Prop:=
 ((r.aa.length:Int)-(dv rs).right≤l.fT∧ ∃ la:RA,hz=[(ra,fa,la)]∧LA=[own la.1 la.2 mP 1 ((j1 l r rs).map iC)])∨(¬ (r.aa.length:Int)-(dv rs).right≤l.fT∧hz=[]∧LA=[])
theorem yh.len {l:bg} {r:cr} {rs fs:List Int} {ra fa:RA} {hz:List lz} {LA:List aB} (h:yh l r rs fs ra fa hz LA):hz.length=(iw l r rs fs).length:=by
 unfold iw
 rcases h with ⟨q,la,rfl,rfl⟩|⟨q,rfl,rfl⟩
 ·rw [if_pos q]; rfl
 ·rw [if_neg q]; rfl
theorem yh.wr {l:bg} {r:cr} {rs fs:List Int} {ra fa:RA} {hz:List lz} {LA:List aB} (h:yh l r rs fs ra fa hz LA):LA.all (·.wr)=true:=by
 rcases h with ⟨q,la,rfl,rfl⟩|⟨q,rfl,rfl⟩<;>rfl
theorem JM {S:BS} {w0 w:World} {l:bg} {r:cr} {rs fs:List Int} {ra fa:RA} {hz az:List lz} {LA:List aB} {R:List dB} {A:aB} (hh:yh l r rs fs ra fa hz LA)
 (h:St S w0 [bK [own ra.1 ra.2 mP 1 (rs.map iC),own fa.1 fa.2 mP 1 (fs.map iC)],A,bK LA,bK (a_ dB.owns R az)] w):St S w0 [bK (a_ dB.owns (iw l r rs fs++R) (hz++az)++[A])] w:=by
 rw [jU hh.len.symm]
 have D:St S w0 [own ra.1 ra.2 mP 1 (rs.map iC),own fa.1 fa.2 mP 1 (fs.map iC),A,bK LA,bK (a_ dB.owns R az)] w:=h.je
 rcases hh with ⟨q,la,rfl,rfl⟩|⟨q,rfl,rfl⟩
 ·unfold iw
  rw [if_pos q]
  have B:=(St.kv [3,0,1,2,4] rfl rfl D).je
  have E:=(St.kv [4,1,2,0,3] rfl rfl B).je
  have C:St S w0 (((a_ dB.owns [(⟨rs,fs,j1 l r rs⟩:dB)] [(ra,fa,la)]++a_ dB.owns R az)++[A])++[]) w:=by
   rw [List.append_nil]
   refine E.perm ?_
   show (a_ dB.owns R az++(a_ dB.owns [(⟨rs,fs,j1 l r rs⟩:dB)] [(ra,fa,la)]++[A])).Perm _
   rw [← List.append_assoc]
   exact List.perm_append_comm.append_right _
  exact C.tied
 ·unfold iw
  rw [if_neg q]
  have B:=(St.kv [4,2] rfl rfl D).je
  have C:St S w0 (((a_ dB.owns [] []++a_ dB.owns R az)++[A])++[]) w:=by
   rw [List.append_nil]; exact B
  exact C.tied
theorem Mc {E:fG} {K:Act→World→Prop} {D:ik} {L:dC} {l:bg} {r:cr} {rs fs:List Int} {ra fa:RA} {hz az z:List lz} {LA:List aB} {R W:List dB} {A A':aB} (hh:yh l r rs fs ra fa hz LA) (hW:iw l r rs fs++R=W) (hz':hz++az=z) (hA:A=A')
 (h:KJ E K D L [bK (a_ dB.owns W z++[A'])]):KJ E K D L [bK [own ra.1 ra.2 mP 1 (rs.map iC),own fa.1 fa.2 mP 1 (fs.map iC)],A,bK LA,bK (a_ dB.owns R az)]:=fun a w hf hs=>h a w hf (by subst hW hz' hA; exact JM hh hs)
theorem Sa {E:fG} {K:Act→World→Prop} {D:ik} {L:dC} {X A:aB} {W:List dB} (h:KJ E K D L [bK (a_ dB.owns W []++[A])]):KJ E K D L [X,A]:=fun a w hf hs=>h a w hf (by
 have B:St E.S E.w0 [A] w:=St.kv [1] rfl rfl hs
 have C:St E.S E.w0 (([]++[A])++[]) w:=B
 have e:a_ dB.owns W []=[]:=by cases W<;>rfl
 rw [e]
 exact C.tied)
theorem HX {E:fG} {K:Act→World→Prop} {D:ik} {L:dC} {C:List aB} (e sz:Nat) (k:KJ E K D L (own none 0 e sz []::C)):KJ E K D L C:=fun a w hf hs=>k a w hf (hs.uz e sz)
end
section
open Go.RowKit
theorem Pp (l:bg) (kA:OA) (kC:Nat) (az:List RA) (cA:OA) (cC:Nat) (bA:OA) (bC:Nat) (r:cr) (sgA:OA) (sgC:Nat) (hin:ep l az) (hsl:r.aa.length≤1000000):
 dN Tryz.prog 162 [(vA (cw.cells (kj l kA kC cA cC bA bC))),(vA (cM.cells (jI r sgA sgC)))] [(rd kA l.aR.length 9 (l.aR.map ar.cells)),(rd cA l.aj.length 2 (List.zipWith ax.cells l.aj az)),(dV (a_ ax.gG l.aj az)),(rd bA l.ab.length 4 (l.ab.map bJ.cells)),(rd sgA r.aa.length 2 (r.aa.map aH.cells))] (vB (decide (dW l r))):=by
 have AO:=hin.sZ
 have AD:=hin.rn
 have w:=hin.n_
 have AC:=hin.sB
 refine bH kr Tryz.func162 U U fun w0 Q hQ hN=>?_
 try dsimp only
 refine WS fun _ h=>eT U fun b2=>eT U fun b3=>bG 1 U<|RK h<|aq fun _ j=>WS fun _ H=>fD 2 [] (mc 0 U mn) U<|rS (CL (jB r.Start 0 86400000) (aN) U)<|rP 2 [] mn ?_
 refine cg (t:=11) U (bB fun X=>?_) (bx fun X=>?_)
 ·refine bG 13 U<|RK H<|aU U<|WS fun _ k=>rP 1 [] mn ?_
  refine RK k<|av<|Q1 hQ U U U ?_
  exact cB (bI fun q=>by have C:=q.time; have u:=q.len; omega).symm
 refine fD 4 [] (mc 0 U mn) U<|rS (CL (jB r.fI r.Start 86400000) (aN) U)<|rP 3 [] mn ?_
 refine cg (t:=19) U (bB fun Z=>?_) (bx fun Z=>?_)
 ·refine bG 5 U<|RK H<|aU U<|WS fun _ m=>rP 1 [] mn ?_
  refine RK m<|av<|Q1 hQ U U U ?_
  exact cB (bI fun q=>by have C:=q.time; have u:=q.len; omega).symm
 refine rP 5 [] (mc 0 U mn) ?_
 refine RK H<|cG U (aV fun a=>?_) (aW fun a=>?_)
 ·refine WS fun _ n=>rP 1 [] mn ?_
  refine RK n<|av<|Q1 hQ U U U ?_
  exact cB (bI fun q=>by have C:=q.time; have u:=q.len; omega).symm
 refine WK j<|aq fun _ o=>WS fun _ J=>rP 1 [] mn ?_
 refine RK J<|aG ?_
 have F:(0≤r.aa.length)∧(pB l r.aa 0):=by exact ⟨Nat.zero_le _,wo⟩
 refine bS (ι:={z:Nat // (z≤r.aa.length)∧(pB l r.aa z)}) [2,3] [0,1,2,3,4,5,6] U U (fun z=>[(5,(vI (z.1:Int)))]) (fun z=>[]) (fun _=>rfl) (fun _=>rfl) (fun z=>r.aa.length-z.1) ⟨0,F⟩ (bw U) (aS [0,1,2,3,4,5,6]) ?_
 clear F
 rintro ⟨i,⟨p,A⟩⟩ J11 D
 try dsimp only
 refine aq fun _ K=>WS fun _ L=>rP 5 [] (mc 0 U mn) ?_
 refine RK L<|bV U (aW fun Y=>?_) (aV fun Y=>?_)
 ·refine bL<|ai<|ai<|aI<|KK o<|WS fun _ T=>rP 1 [] mn ?_
  refine RK T<|av<|Q1 hQ U U U ?_
  exact cB (dM (x7 I I A I)).symm
 refine WK K<|aq fun _ E=>aG<|WS fun _ M=>rP 3 [] (mc 0 U mn) ?_
 obtain ⟨x,hx⟩:=aM r.aa i I
 have s:=bQ aH.cells hx
 refine rS (IA i U (aF 6 U) xI dc I I)<|rS (mq i 0 (aH.cells x) U cf (aF 6 U) s U dc U U)<|AL U IV fun v=>gl U v9 U<|RK M<|aq fun _ N=>WS fun _ G=>fD 6 [0,1] (mc 0 U (mc 2 U mn)) U<|rS (CL (jB x.eZ 0 ((l.ab.length:Int)-1)) (aN) U)<|rP 2 [] mn ?_
 refine cg (t:=45) U (bB fun b=>?_) (bx fun b=>?_)
 ·refine bG 5 U<|RK G<|aU U<|WS fun _ O=>rP 1 [] mn ?_
  refine RK O<|av<|Q1 hQ U U U ?_
  exact cB (bI fun q=>by have C:=q.sig i x hx; unfold iz iI at C; omega).symm
 refine fD 2 [] (mc 0 U mn) U<|rS (CL (jB x.Read 0 86400000) (aN) U)<|rP 2 [] mn ?_
 refine RK G<|cG U (bB fun c=>?_) (bx fun c=>?_)
 ·refine WS fun _ P=>rP 1 [] mn ?_
  refine RK P<|av<|Q1 hQ U U U ?_
  exact cB (bI fun q=>by have C:=q.sig i x hx; unfold iz iI at C; omega).symm
 refine WK N<|aq fun _ B=>dy cy 38 kr<|dP 3 [] mn ?_
 refine j0 (t:=53) U (aW fun d=>?_) (aV fun d=>?_)
 ·refine lP 35 U<|cO<|RK B<|ct U<|cx<|aO<|KK E<|ay<|rP 3 [] mn ?_
  refine aJ ?_
  have W:(vI (((i+1):Nat):Int))=(vI ((i:Int)+1)):=by exact cI I
  refine bj (D ⟨(i+1),⟨I,jR A hx (by unfold iz iI; (rw [Hz I]; simp only; omega))⟩⟩ _ _ _ U os (dx.cons U<|dx.cons U<|bk U W<|dx.nil _) (aS [1,2,3,4,5,6,7]))
 refine dP 6 [0,1] (mc 0 U (mc 1 U mn)) ?_
 obtain ⟨y,hy⟩:=aM r.aa (i-1) I
 have AB:=bQ aH.cells hy
 refine dS (IA (i-1) U (aF 7 U) xI dc I I)<|dS (nv ((i-1)*2) U (aF 7 U) (Nat.mul_pos I dc) eP U)<|dS (hP (i-1) 0 (vI y.eZ) U cf (aF 7 U) AB U dc U)<|dP 2 [] mn ?_
 refine iu (t:=64) U (aV fun e=>?_) (aW fun e=>?_)
 ·refine lP 24 U<|cO<|RK B<|aU U<|WS fun _ R=>rP 1 [] mn ?_
  refine RK R<|av<|Q1 hQ U U U ?_
  exact cB (bI fun q=>by have C:=q.sig i x hx; unfold iz iI at C; (rw [sK I hy] at C; omega)).symm
 refine mz 6 [0,1] (mc 0 U (mc 1 U mn)) U<|dS (IA (i-1) U (aF 7 U) xI dc I I)<|dS (nv ((i-1)*2) U (aF 7 U) (Nat.mul_pos I dc) eP U)<|dS (hP (i-1) 0 (vI y.eZ) U cf (aF 7 U) AB U dc U)<|dP 2 [] mn ?_
 refine j0 (t:=75) U (aW fun f=>?_) (aV fun f=>?_)
 ·refine lP 13 U<|cO<|RK B<|ct U<|cx<|aO<|KK E<|ay<|rP 3 [] mn ?_
  refine aJ ?_
  have V:(vI (((i+1):Nat):Int))=(vI ((i:Int)+1)):=by exact cI I
  refine bj (D ⟨(i+1),⟨I,jR A hx (by unfold iz iI; (rw [sK I hy]; omega))⟩⟩ _ _ _ U os (dx.cons U<|dx.cons U<|bk U V<|dx.nil _) (aS [1,2,3,4,5,6,7]))
 refine mz 6 [0,1] (mc 0 U (mc 1 U mn)) U<|dS (IA (i-1) U (aF 7 U) xI dc I I)<|dS (nv (((i-1)*2)+1) U (aF 7 U) (Nat.mul_pos I dc) eP U)<|dS (hP (i-1) 1 (vI y.Read) U cf (aF 7 U) AB U dc U)<|dP 4 [] mn ?_
 refine cO<|RK B<|cG U (aV fun g=>?_) (aW fun g=>?_)
 ·refine WS fun _ S=>rP 1 [] mn ?_
  refine RK S<|av<|Q1 hQ U U U ?_
  exact cB (bI fun q=>by have C:=q.sig i x hx; unfold iz iI at C; (rw [sK I hy] at C; omega)).symm
 refine cx<|aO<|KK E<|ay<|rP 3 [] mn ?_
 refine aJ ?_
 have AA:(vI (((i+1):Nat):Int))=(vI ((i:Int)+1)):=by exact cI I
 refine bj (D ⟨(i+1),⟨I,jR A hx (by unfold iz iI; (rw [sK I hy]; omega))⟩⟩ _ _ _ U os (dx.cons U<|dx.cons U<|bk U AA<|dx.nil _) (aS [1,2,3,4,5,6,7]))
end
section
open Go.RowKit
theorem N0 (l:bg) (kA:OA) (kC:Nat) (az:List RA) (cA:OA) (cC:Nat) (bA:OA) (bC:Nat) (r:cr) (sgA:OA) (sgC:Nat) (hin:ep l az) (hle:dw l=0) (hr:dW l r):
 qB Tryz.prog 164 [(vA (cw.cells (kj l kA kC cA cC bA bC))),(vA (cM.cells (jI r sgA sgC)))] [(rd kA l.aR.length 9 (l.aR.map ar.cells)),(rd cA l.aj.length 2 (List.zipWith ax.cells l.aj az)),(dV (a_ ax.gG l.aj az)),(rd bA l.ab.length 4 (l.ab.map bJ.cells)),(rd sgA r.aa.length 2 (r.aa.map aH.cells))] (fun (x:(OA)×Nat×(OA)×Nat×(OA)×Nat)=>(vA (jm.cells (jm.mk (bE.mk x.1 ((cd l l.ab.length).length) x.2.1) (bE.mk x.2.2.1 ((fj l r r.aa.length).length) x.2.2.2.1) (bE.mk x.2.2.2.2.1 ((fP l r r.aa.length).length) x.2.2.2.2.2))))) (fun (x:(OA)×Nat×(OA)×Nat×(OA)×Nat)=>True) (fun (x:(OA)×Nat×(OA)×Nat×(OA)×Nat)=>[(own x.1 x.2.1 3 1 ((cd l l.ab.length).map iC)),(own x.2.2.1 x.2.2.2.1 53 2 ((fj l r r.aa.length).map ag.cells)),(own x.2.2.2.2.1 x.2.2.2.2.2 4 1 ((fP l r r.aa.length).map qQ))]):=by
 have A3:=hin.sZ
 have Ae:=hin.rn
 have AR:=hin.n_
 have AY:=hin.sB
 obtain ⟨w,g⟩:=dq hle
 have t:=g.head
 unfold eY at t
 have A1:=hr.len
 have A2:=hr.time
 refine fO kr Tryz.func164 U U fun w0 Q hQ hN=>?_
 try dsimp only
 refine WS fun _ n=>eT U fun b2=>eT U fun b3=>AL U P7 fun b4=>RK n<|WS fun _ o=>AL U P7 fun h=>RK o<|aq fun _ p=>WS fun _ q=>rP 1 [] mn ?_
 refine RK q<|aG<|e9 3 1 ?_
 have A:(0≤l.ab.length):=by exact Nat.zero_le _
 refine bS (ι:={z:Nat×(OA)×Nat // (z.1≤l.ab.length)}) [2,3,4,5] [2,3,4,5,6,7,8,9] U U (fun z=>[(6,(vI (z.1.1:Int)))]) (fun z=>[(own z.1.2.1 z.1.2.2 3 1 ((cd l z.1.1).map iC)),(cv h 252 (jm.cells (jm.mk (bE.mk z.1.2.1 ((cd l z.1.1).length) z.1.2.2) (bE.mk none 0 0) (bE.mk none 0 0))))]) (fun _=>rfl) (fun _=>rfl) (fun z=>l.ab.length-z.1.1) ⟨(0,none,0),A⟩ (bw U) (aS [2,3,4,5,6,7,8,9,0,1]) ?_
 clear A
 rintro ⟨⟨b,a,c⟩,F⟩ J9 m
 try dsimp only at F
 try dsimp only
 refine aq fun _ K=>WS fun _ L=>rP 5 [] (mc 2 U mn) ?_
 refine RK L<|cG U (aV fun j=>?_) (aW fun j=>?_)
 ·refine WK K<|aq fun _ M=>aG<|dT cy [5,6,8] [1] [0] [0,1,2,3,4,5,6,7] [0,1,2,3,4,5,6,7,8,9] U U U U U<|eS U (FA 0 U eP U)<|fS U (L1 (vS a ((cd l b).length) c) 9 U cf U U)<|eS U (LW 2 U cf U U)<|eS U (MV U) ?_
  have A0:=n9 w g (i:=b) I
  refine eS U (CL (KI l kA kC az cA cC bA bC (b:Int) hin asm asm I) (bq [3,4,5,6]) U)<|eS U (FA 0 U eP U)<|eN U<|jZ U fun T14 W=>eJ (xs:=[.tmp 21]) (cs:=[(vI (eu l (b:Int).toNat))]) U dJ kY U U U U (by simp [Value.cells]) U U fun y=>aJ (W _ _ (aS [1,2,3,4,5,6,7,8]) (aS [1,2,3,4,5,6,7,8,9,10]) ?_)
  refine cm U fun T16 X=>?_
  refine dR (es2:=(List.map iC (cd l (b+1)))) (m':=(cd l (b+1)).length) 9 U U U ti U U sm (br (es:=List.map iC [(eu l (b:Int).toNat)]) 0 U U (by simp [bR]) U) (lM _) (by simp only [cE]; omega) (by simp only [maxLen,cE]; omega) (by rw [rI]; simp) sm U fun H AB=>?_
  try dsimp only
  refine aJ (X _ _ (aS [1,2,3,4,5,6,7,8]) ?_)
  refine cm U fun T19 Y=>UP (jm.cells (jm.mk (bE.mk H ((cd l (b+1)).length) AB) (bE.mk none 0 0) (bE.mk none 0 0))) U IF U U<|aJ (Y _ _ (aS [1,2,3,4,5,6,7,8]) ?_)
  refine f_ U<|aO<|KK M<|ay<|rP 3 [] mn ?_
  refine aJ ?_
  have e:(vI (((b+1):Nat):Int))=(vI ((b:Int)+1)):=by exact cI I
  refine bj (m ⟨((b+1),H,AB),(by first|omega|(simp only []; omega))⟩ _ _ _ U os (cQ 4<|bk U e<|dx.nil _) (aS [1,2,3,4,5,6,7,8,9,10]))
 refine bL<|ai<|ai<|aI<|KK p<|aq fun _ N=>WS fun _ O=>?_
 rw [show cd l b=(cd l l.ab.length) from by rw [show b=l.ab.length by omega]]
 refine rP 1 [] mn ?_
 refine RK O<|aG<|e9 53 2<|e9 4 1 ?_
 have A:(0≤r.aa.length):=by exact Nat.zero_le _
 refine bS (ι:={z:Nat×(OA)×Nat×(OA)×Nat // (z.1≤r.aa.length)}) [2,3,4,5] [2,3,4,5,6,7,8,9,10] U U (fun z=>[(7,(vI (z.1.1:Int)))]) (fun z=>[(own z.1.2.2.2.1 z.1.2.2.2.2 4 1 ((fP l r z.1.1).map qQ)),(own z.1.2.1 z.1.2.2.1 53 2 ((fj l r z.1.1).map ag.cells)),(cv h 252 (jm.cells (jm.mk (bE.mk a ((cd l l.ab.length).length) c) (bE.mk z.1.2.1 ((fj l r z.1.1).length) z.1.2.2.1) (bE.mk z.1.2.2.2.1 ((fP l r z.1.1).length) z.1.2.2.2.2))))]) (fun _=>rfl) (fun _=>rfl) (fun z=>r.aa.length-z.1.1) ⟨(0,none,0,none,0),A⟩ (bw U) (aS [2,3,4,5,6,7,8,9,10,0,1,11]) ?_
 clear A
 rintro ⟨⟨i,ta,tc,sa,sc⟩,G⟩ J23 J
 try dsimp only at G
 try dsimp only
 refine aq fun _ P=>WS fun _ R=>rP 5 [] (mc 1 U mn) ?_
 refine RK R<|bV U (aW fun k=>?_) (aV fun k=>?_)
 ·refine bL<|ai<|ai<|aI<|KK N<|WS fun _ V=>?_
  rw [show fj l r i=(fj l r r.aa.length) from by rw [show i=r.aa.length by omega]]
  rw [show fP l r i=(fP l r r.aa.length) from by rw [show i=r.aa.length by omega]]
  refine rP 1 [] (mc 11 U mn) ?_
  refine gl U Vd U<|RK V<|av<|LX hQ (a,c,ta,tc,sa,sc) [8,10,9] [0] (mc 0 U mn) U U U U ?_
  trivial
 refine WK P<|aq fun _ S=>aG<|aq fun _ T=>dT cy [10,11] [] [] [0,1,2,3,4,5,6,7,8,9,10,11] [] U U U U U<|eS U (LW 2 U cf U U)<|eS U (FA 2 U eP U)<|eS U (L1 (vS sgA r.aa.length sgC) 1 U cf U U)<|eS U (MV U) ?_
 obtain ⟨s,hs⟩:=aM r.aa i I
 have v:=bQ aH.cells hs
 refine eS U (IA i U (aF 7 U) xI dc I I)<|eS U (mq i 0 (aH.cells s) U cf (aF 7 U) v U dc U U) ?_
 have u:=(hr.sig i s hs).1
 refine eS U (CL (N3 l kA kC az cA cC bA bC s hin asm (by exact u)) (bq [3,4,5,6]) U)<|eS U (MV U)<|eS U (EX U)<|eS U (EX U)<|eS U (AG U)<|eN U<|cm U fun T29 Z=>AL U ej fun AC=>aJ (Z _ _ (aS [1,2,3,4,5,6,7,8,9,10,11,12]) ?_)
 refine cm U fun T31 d=>gl U c_ U<|aJ (d _ _ (aS [1,2,3,4,5,6,7,8,9,10,11,12]) ?_)
 refine f_ U<|KK T<|WS fun _ AA=>rP 3 [0,1] (mc 12 U (mc 0 U mn)) ?_
 refine eJ (xs:=[.tmp 44]) (cs:=(ag.cells (cJ l s))) U lU ej U U U U (by simp [Value.cells,ag.bf]) U U fun AD=>?_
 refine dR (es2:=(List.map ag.cells (fj l r (i+1)))) (m':=(fj l r (i+1)).length) 12 U U U Gu U U sm (br (es:=List.map ag.cells [(cJ l s)]) 0 U U (by simp [ag.bf]) U) (lI _) (by rw [sw I]; omega) (by rw [sw I]; simp only [maxLen]; omega) (by rw [E6 hs]; simp) sm U fun B C=>?_
 try dsimp only
 refine bG 1 U<|iT (vs:=[(vS B ((fj l r (i+1)).length) C)]) (cs':=(jm.cells (jm.mk (bE.mk a ((cd l l.ab.length).length) c) (bE.mk B ((fj l r (i+1)).length) C) (bE.mk sa ((fP l r i).length) sc)))) (C':=[_,_,_,_,_,_,_,_,_,_,_,_,_,(cv h 252 (jm.cells (jm.mk (bE.mk a ((cd l l.ab.length).length) c) (bE.mk B ((fj l r (i+1)).length) C) (bE.mk sa ((fP l r i).length) sc))))]) 13 U U U SG U U U U U U U<|RK AA<|ay<|rP 3 [] (mc 13 U mn) ?_
 refine eJ (xs:=[.tmp 50]) (cs:=[(vB (decide ((cJ l s).Lo≤(cJ l s).Hi)))]) U PN XV U U U U (by simp [Value.cells]) U U fun AO=>?_
 refine dR (es2:=(List.map qQ (fP l r (i+1)))) (m':=(fP l r (i+1)).length) 12 U U U U3 U U sm (br (es:=List.map qQ [(decide ((cJ l s).Lo≤(cJ l s).Hi))]) 0 U U (by simp [Bb]) U) (Iz _) (by rw [wE I]; omega) (by rw [wE I]; simp only [maxLen]; omega) (by rw [FE hs]; simp) sm U fun D E=>?_
 try dsimp only
 refine bG 1 U<|iT (vs:=[(vS D ((fP l r (i+1)).length) E)]) (cs':=(jm.cells (jm.mk (bE.mk a ((cd l l.ab.length).length) c) (bE.mk B ((fj l r (i+1)).length) C) (bE.mk D ((fP l r (i+1)).length) E)))) (C':=[_,_,_,_,_,_,_,_,_,_,_,_,_,_,(cv h 252 (jm.cells (jm.mk (bE.mk a ((cd l l.ab.length).length) c) (bE.mk B ((fj l r (i+1)).length) C) (bE.mk D ((fP l r (i+1)).length) E))))]) 14 U U U Tr U U U U U U U<|aJ<|aO<|KK S<|ay<|bG 2 U<|rP 1 [] mn ?_
 refine aJ ?_
 have f:(vI (((i+1):Nat):Int))=(vI ((i:Int)+1)):=by exact cI I
 refine bj (J ⟨((i+1),B,C,D,E),(by first|omega|(simp only []; omega))⟩ _ _ _ U os (cQ 4<|bk U f<|dx.nil _) (aS [3,4,5,6,7,8,9,10,11,12,13,14]))
theorem Mr (r:cr) (sgA:OA) (sgC:Nat) (l:bg) (wA:OA) (wC:Nat) (tA:OA) (tC:Nat) (bA:OA) (bC:Nat) (rs:List Int) (rsA:OA) (rsC:Nat) (hle:dw l=0) (hr:dW l r) (hn:rs.length≤l.ab.length) (hrs: ∀ x∈rs,0≤x→x<(r.aa.length:Int)):
 qB Tryz.prog 176 [(vA (cM.cells (jI r sgA sgC))),(vA (jm.cells (jm.mk (bE.mk wA ((cd l l.ab.length).length) wC) (bE.mk tA ((fj l r r.aa.length).length) tC) (bE.mk bA ((fP l r r.aa.length).length) bC)))),(vS rsA rs.length rsC)] [(rd sgA r.aa.length 2 (r.aa.map aH.cells)),(rd wA ((cd l l.ab.length).length) 1 ((cd l l.ab.length).map iC)),(rd tA ((fj l r r.aa.length).length) 2 ((fj l r r.aa.length).map ag.cells)),(rd bA ((fP l r r.aa.length).length) 1 ((fP l r r.aa.length).map qQ)),(rd rsA rs.length 1 (rs.map iC))] (fun (x:(OA)×Nat)=>(vS x.1 ((j1 l r rs).length) x.2)) (fun (x:(OA)×Nat)=>True) (fun (x:(OA)×Nat)=>[(own x.1 x.2 3 1 ((j1 l r rs).map iC))]):=by
 obtain ⟨J,D⟩:=dq hle
 have v:=D.head
 unfold eY at v
 have A0:=hr.len
 have A1:=hr.time
 have w:=F2 (l:=l) (rs:=rs) ⟨I,I⟩ (fun b hb=>by have:=n9 J D (i:=b) I; omega) hrs
 have AY:=cE (l:=l) (n:=l.ab.length)
 have A2:=sw (l:=l) (Nat.le_refl r.aa.length)
 refine fO kr Tryz.func176 U U fun w0 Q hQ hN=>?_
 try dsimp only
 refine WS fun _ h=>eT U fun b2=>eT U fun b3=>bG 1 U<|RK h<|WS fun _ m=>rP 2 [] mn ?_
 refine wS (n:=rs.length) (es:=(List.map iC (List.replicate rs.length 0))) U U U ti I I (by simp only [maxLen]; omega) (by rw [List.map_replicate]; rfl) U fun E=>?_
 try dsimp only
 refine bG 1 U<|RK m<|WS fun _ p=>fD 3 [] (mc 2 U mn) U<|RK p<|aq fun _ q=>WS fun _ t=>rP 4 [] mn ?_
 refine RK t<|aG ?_
 rw [show (own (some ⟨E,0,none⟩) rs.length 3 1 (List.map iC (List.replicate rs.length 0)))=(own (some ⟨E,0,none⟩) rs.length 3 1 ((ks l r rs rs.length).map iC)) from by rw [IB]]
 have B:(rs.length≤rs.length):=by exact Nat.le_refl _
 have u:(vI ((kf l r rs rs.length).2))=(vI r.fI):=by rw [wa]
 refine bS (ι:={z:Nat // (z≤rs.length)}) [2,3,4,7] [1,2,3,4,5,6,7] U U (fun z=>[(8,(vI ((kf l r rs z.1).2))),(9,(vI ((z.1:Int)-1)))]) (fun z=>[(own (some ⟨E,0,none⟩) rs.length 3 1 ((ks l r rs z.1).map iC))]) (fun _=>rfl) (fun _=>rfl) (fun z=>z.1) ⟨rs.length,B⟩ (bk U u<|bw U) (aS [1,2,3,4,5,6,7,0]) ?_
 clear B
 rintro ⟨j,AC⟩ J10 F
 try dsimp only
 have Ae:=Ir (l:=l) (r:=r) (rs:=rs) (j:=j) I
 refine aq fun _ L=>WS fun _ M=>rP 2 [] mn ?_
 refine RK M<|bV U (aW fun g=>?_) (aV fun g=>?_)
 ·refine bL<|ai<|ai<|aI<|KK q<|WS fun _ R=>rP 1 [] mn ?_
  rw [show (Value.slice (some ⟨E,0,none⟩) rs.length rs.length)=(Value.slice (some ⟨E,0,none⟩) ((j1 l r rs).length) rs.length) from by rw [show (j1 l r rs).length=rs.length from sv _ _]]
  rw [show ks l r rs j=j1 l r rs from by rw [show j=0 by omega]; exact Et]
  refine rP 1 [] mn ?_
  refine RK R<|av<|LX hQ ((some ⟨E,0,none⟩),rs.length) [7] [] mn U U U U ?_
  trivial
 refine WK L<|aq fun _ G=>aG<|aq fun _ H=>WS fun _ N=>rP 2 [] mn ?_
 have AR:=w (rs.length-j) j I
 obtain ⟨x,hx⟩:=aM rs (j-1) I
 have d:=bQ iC hx
 refine rS (IA (j-1) U (aF 6 U) dJ dc I I)<|rS (hP (j-1) 0 (vI x) U cf (aF 6 U) d U dc U)<|rP 1 [] mn ?_
 refine RK N<|bV U (aW fun A=>?_) (aV fun A=>?_)
 ·refine WK H<|WS fun _ P=>rP 3 [] mn ?_
  obtain ⟨A5,c⟩:=aM (ks l r rs j) (j-1) I
  have hx25m:=bQ iC c
  refine rS (IA (j-1) U (au (n:=rs.length) 7 U sq) dJ dc I I) ?_
  have V:((ks l r rs j).set (j-1) ((kf l r rs j).2))=(ks l r rs (j-1)):=by (rw [← Aa I hx]; congr 1; unfold vh; (rw [if_neg A]; done))
  refine eE (k:=(j-1)) (o:=0) (vs:=[(vI ((kf l r rs j).2))]) (es':=(List.map iC (ks l r rs (j-1)))) (C':=[_,_,_,_,_,_,_,(own (some ⟨E,0,none⟩) rs.length 3 1 (List.map iC (ks l r rs (j-1))))]) 7 U U U zM U U U U hx25m U dc (by exact (List.map_set (f:=iC) (l:=(ks l r rs j)) (i:=(j-1)) (a:=(kf l r rs j).2)).symm.trans (congrArg _ V)) U<|RK P<|ay<|rP 4 [] (mc 0 U mn) ?_
  obtain ⟨y,hy⟩:=aM (cd l l.ab.length) (j-1) I
  have K:=bQ iC hy
  refine rS (IA (j-1) U (aF 3 U) dJ dc I I)<|rS (hP (j-1) 0 (vI y) U cf (aF 3 U) K U dc U) ?_
  have C:=wH hy
  have AB:=n9 J D (i:=j-1) I
  rw [← C] at AB
  refine bG 2 U<|aJ<|aO<|KK G<|ay<|rP 3 [] mn ?_
  refine aJ ?_
  have W:(vI ((kf l r rs (j-1)).2))=(vI (((kf l r rs j).2)-y)):=by exact cI (by rw [qu I hx]; simp only; unfold vh; rw [C]; (rw [if_neg A]; done))
  have X:(vI ((((j-1):Nat):Int)-1))=(vI (((j:Int)-1)-1)):=by exact cI I
  refine bj (F ⟨(j-1),(by first|omega|(simp only []; omega))⟩ _ _ _ U os (cQ 4<|bk U W<|bk U X<|dx.nil _) (aS [0,1,2,3,4,5,6,7]))
 refine dy cy 12 kr<|dP 5 [] (mc 0 U mn) ?_
 refine dS (IA (j-1) U (aF 6 U) dJ dc I I)<|dS (hP (j-1) 0 (vI x) U cf (aF 6 U) d U dc U) ?_
 have A3:=hrs x (aQ hx) A
 obtain ⟨z,hz⟩:=aM (fj l r r.aa.length) ((x).toNat) I
 have AO:=bQ ag.cells hz
 refine dS (IA ((x).toNat) U (aF 4 U) lU dc I I)<|dS (nv ((((x).toNat)*2)+1) U (aF 4 U) (Nat.mul_pos I dc) eP U) ?_
 obtain ⟨s,hs,e⟩:=Kq hz
 have AD:=yZ l s
 rw [← e] at AD
 have Y:Ng l r x=z.Hi:=by rw [E3 hs,e]
 refine dS (hP ((x).toNat) 1 (vI z.Hi) U cf (aF 4 U) AO U dc U)<|dS (MN U)<|lP 1 U<|cO<|RK H<|WS fun _ O=>rP 3 [] mn ?_
 obtain ⟨A4,Z⟩:=aM (ks l r rs j) (j-1) I
 have hx19m:=bQ iC Z
 refine rS (IA (j-1) U (au (n:=rs.length) 7 U sq) dJ dc I I) ?_
 have S:((ks l r rs j).set (j-1) (min ((kf l r rs j).2) z.Hi))=(ks l r rs (j-1)):=by (rw [← Aa I hx]; congr 1; unfold vh; (rw [if_pos A,Y]; done))
 refine eE (k:=(j-1)) (o:=0) (vs:=[(vI (min ((kf l r rs j).2) z.Hi))]) (es':=(List.map iC (ks l r rs (j-1)))) (C':=[_,_,_,_,_,_,_,(own (some ⟨E,0,none⟩) rs.length 3 1 (List.map iC (ks l r rs (j-1))))]) 7 U U U zM U U U U hx19m U dc (by exact (List.map_set (f:=iC) (l:=(ks l r rs j)) (i:=(j-1)) (a:=(min ((kf l r rs j).2) z.Hi))).symm.trans (congrArg _ S)) U<|RK O<|ay<|rP 4 [] (mc 0 U mn) ?_
 obtain ⟨y,hy⟩:=aM (cd l l.ab.length) (j-1) I
 have K:=bQ iC hy
 refine rS (IA (j-1) U (aF 3 U) dJ dc I I)<|rS (hP (j-1) 0 (vI y) U cf (aF 3 U) K U dc U) ?_
 have C:=wH hy
 have AB:=n9 J D (i:=j-1) I
 rw [← C] at AB
 refine bG 2 U<|aJ<|aO<|KK G<|ay<|rP 3 [] mn ?_
 refine aJ ?_
 have T:(vI ((kf l r rs (j-1)).2))=(vI ((min ((kf l r rs j).2) z.Hi)-y)):=by exact cI (by rw [qu I hx]; simp only; unfold vh; rw [C]; (rw [if_pos A,Y]; done))
 have AA:(vI ((((j-1):Nat):Int)-1))=(vI (((j:Int)-1)-1)):=by exact cI I
 refine bj (F ⟨(j-1),(by first|omega|(simp only []; omega))⟩ _ _ _ U os (cQ 4<|bk U T<|bk U AA<|dx.nil _) (aS [0,1,2,3,4,5,6,7]))
end
section
open Go.RowKit
theorem H7 (l:bg) (kA:OA) (kC:Nat) (az:List RA) (cA:OA) (cC:Nat) (bA:OA) (bC:Nat) (r:cr) (sgA:OA) (sgC:Nat) (vwA:OA) (vwC:Nat) (vtA:OA) (vtC:Nat) (vbA:OA) (vbC k:Nat) (rs:List Int) (rA:OA) (rC:Nat) (fs:List Int) (fA:OA) (fC:Nat) (hin:ep l az) (hle:dw l=0) (hr:dW l r) (hk:rs.length+k=l.ab.length) (hfl:fs.length=rs.length) (hst:r.Start≤gT r.Start fs∧gT r.Start fs≤r.fI) (hrs: ∀ x∈rs,-1≤x∧x<(r.aa.length:Int)) (hrec: ∀ (k2:Nat) (rs2:List Int) (rA2:OA) (rC2:Nat) (fs2:List Int) (fA2:OA) (fC2:Nat),(k2<k)→(rs2.length+k2=l.ab.length)→(fs2.length=rs2.length)→(r.Start≤gT r.Start fs2∧gT r.Start fs2≤r.fI)→(∀ x∈rs2,-1≤x∧x<(r.aa.length:Int))→Nb Tryz.prog 163 [(vA (cw.cells (kj l kA kC cA cC bA bC))),(vA (cM.cells (jI r sgA sgC))),(vA (jm.cells (jm.mk (bE.mk vwA ((cd l l.ab.length).length) vwC) (bE.mk vtA ((fj l r r.aa.length).length) vtC) (bE.mk vbA ((fP l r r.aa.length).length) vbC)))),(vS rA2 rs2.length rC2),(vS fA2 fs2.length fC2)] [(rd kA l.aR.length 9 (l.aR.map ar.cells)),(rd cA l.aj.length 2 (List.zipWith ax.cells l.aj az)),(dV (a_ ax.gG l.aj az)),(rd bA l.ab.length 4 (l.ab.map bJ.cells)),(rd sgA r.aa.length 2 (r.aa.map aH.cells)),(rd vwA ((cd l l.ab.length).length) 1 ((cd l l.ab.length).map iC)),(rd vtA ((fj l r r.aa.length).length) 2 ((fj l r r.aa.length).map ag.cells)),(rd vbA ((fP l r r.aa.length).length) 1 ((fP l r r.aa.length).map qQ))] (bK [own rA2 rC2 3 1 (rs2.map iC),own fA2 fC2 3 1 (fs2.map iC)]) (fun (x:(OA)×Nat×(List lz))=>(vS x.1 ((iY l r k2 rs2 fs2).length) x.2.1)) (fun (x:(OA)×Nat×(List lz))=>x.2.2.length=(iY l r k2 rs2 fs2).length) (fun (x:(OA)×Nat×(List lz))=>(bK (a_ dB.owns (iY l r k2 rs2 fs2) x.2.2++[own x.1 x.2.1 255 3 (List.zipWith dB.cells (iY l r k2 rs2 fs2) x.2.2)])))):
 Nb Tryz.prog 163 [(vA (cw.cells (kj l kA kC cA cC bA bC))),(vA (cM.cells (jI r sgA sgC))),(vA (jm.cells (jm.mk (bE.mk vwA ((cd l l.ab.length).length) vwC) (bE.mk vtA ((fj l r r.aa.length).length) vtC) (bE.mk vbA ((fP l r r.aa.length).length) vbC)))),(vS rA rs.length rC),(vS fA fs.length fC)] [(rd kA l.aR.length 9 (l.aR.map ar.cells)),(rd cA l.aj.length 2 (List.zipWith ax.cells l.aj az)),(dV (a_ ax.gG l.aj az)),(rd bA l.ab.length 4 (l.ab.map bJ.cells)),(rd sgA r.aa.length 2 (r.aa.map aH.cells)),(rd vwA ((cd l l.ab.length).length) 1 ((cd l l.ab.length).map iC)),(rd vtA ((fj l r r.aa.length).length) 2 ((fj l r r.aa.length).map ag.cells)),(rd vbA ((fP l r r.aa.length).length) 1 ((fP l r r.aa.length).map qQ))] (bK [own rA rC 3 1 (rs.map iC),own fA fC 3 1 (fs.map iC)]) (fun (x:(OA)×Nat×(List lz))=>(vS x.1 ((iY l r k rs fs).length) x.2.1)) (fun (x:(OA)×Nat×(List lz))=>x.2.2.length=(iY l r k rs fs).length) (fun (x:(OA)×Nat×(List lz))=>(bK (a_ dB.owns (iY l r k rs fs) x.2.2++[own x.1 x.2.1 255 3 (List.zipWith dB.cells (iY l r k rs fs) x.2.2)]))):=by
 have R2:=hin.sZ
 have Qr:=hin.rn
 have Qi:=hin.n_
 have Qn:=hin.sB
 obtain ⟨Li,Fn⟩:=dq hle
 have K5:=Fn.head
 unfold eY at K5
 have AR:=hr.len
 have Rr:=hr.time
 have Rc:=cE (l:=l) (n:=l.ab.length)
 have R3:=sw (l:=l) (Nat.le_refl r.aa.length)
 have R1:=wE (l:=l) (Nat.le_refl r.aa.length)
 have R4:=vz rs
 refine wh kr Tryz.func163 U U fun w0 Q hQ hN=>?_
 try dsimp only
 refine Du 0 U U fun wz Sz hz=>?_
 try dsimp only
 refine WS fun _ J7=>eT U fun b2=>eT U fun b3=>eT U fun b4=>bG 1 U<|RK J7<|WS fun _ J8=>bG 1 U<|RK J8<|WS fun _ J9=>bG 4 U<|RK J9<|aq fun _ Kc=>WS fun _ Ky=>rP 1 [] mn ?_
 refine RK Ky<|aG ?_
 have C:(0≤rs.length):=by exact Nat.zero_le _
 have K0:(vI ((dv (rs.take 0)).right))=(vI 0):=by rfl
 refine bS (ι:={z:Nat // (z≤rs.length)}) [3,4,5,6,7,11,12] [0,1,2,3,4,5,6,7,8,9,10,11] U U (fun z=>[(13,(vI ((dv (rs.take z.1)).right))),(14,(vI (z.1:Int)))]) (fun z=>[]) (fun _=>rfl) (fun _=>rfl) (fun z=>rs.length-z.1) ⟨0,C⟩ (bk U K0<|bw U) (aS [0,1,2,3,4,5,6,7,8,9,10,11]) ?_
 clear C
 rintro ⟨i,LB⟩ J10 g
 try dsimp only
 have LT:=vz (rs.take i)
 rw [List.length_take] at LT
 refine aq fun _ A0=>WS fun _ A1=>rP 3 [] mn ?_
 refine RK A1<|cG U (aV fun J1=>?_) (aW fun J1=>?_)
 ·refine WK A0<|aq fun _ h=>aG<|WS fun _ A2=>rP 2 [] mn ?_
  obtain ⟨x,hx⟩:=aM rs i I
  have Lk:=bQ iC hx
  refine rS (IA i U (show jC _ (rd rA rs.length 1 (rs.map iC)).holds from (qM (c:=rC) (e:=3) 3 U sm sm)) dJ dc I I)<|rS (hP i 0 (vI x) U cf (show jC _ (rd rA rs.length 1 (rs.map iC)).holds from (qM (c:=rC) (e:=3) 3 U sm sm)) Lk U dc U)<|rP 1 [] mn ?_
  refine RK A2<|bV U (aW fun AD=>?_) (aV fun AD=>?_)
  ·refine cx<|aO<|KK h<|ay<|rP 3 [] mn ?_
   refine aJ ?_
   have Cx:(vI ((dv (rs.take (i+1))).right))=(vI ((dv (rs.take i)).right)):=by exact cI (by rw [u_ hx]; (rw [if_neg AD]; exact Int.add_zero _))
   have C0:(vI (((i+1):Nat):Int))=(vI ((i:Int)+1)):=by exact cI I
   refine bj (g ⟨(i+1),(by first|omega|(simp only []; omega))⟩ _ _ _ U os (cQ 7<|bk U Cx<|bk U C0<|dx.nil _) (aS [0,1,2,3,4,5,6,7,8,9,10,11]))
  refine ay<|bG 3 U<|aJ<|aO<|KK h<|ay<|rP 3 [] mn ?_
  refine aJ ?_
  have Cl:(vI ((dv (rs.take (i+1))).right))=(vI (((dv (rs.take i)).right)+1)):=by exact cI (by rw [u_ hx]; (rw [if_pos AD]; done))
  have Cp:(vI (((i+1):Nat):Int))=(vI ((i:Int)+1)):=by exact cI I
  refine bj (g ⟨(i+1),(by first|omega|(simp only []; omega))⟩ _ _ _ U os (cQ 7<|bk U Cl<|bk U Cp<|dx.nil _) (aS [0,1,2,3,4,5,6,7,8,9,10,11]))
 refine bL<|ai<|ai<|aI<|KK Kc<|aq fun _ A3=>aq fun _ A4=>?_
 rw [show rs.take i=rs from List.take_of_length_le I]
 refine ay<|rP 6 [] (mc 2 U mn) ?_
 refine RK A4<|cG U (aV fun J3=>?_) (aW fun J3=>?_)
 ·refine WS fun _ A5=>lY 255 3<|rP 1 [] mn ?_
  refine RK A5<|av<|AX (C1:=[(own none 0 255 3 [])]) hz [0] U U U<|Sa (W:=iY l r k rs fs) ?_
  rw [show (own none 0 255 3 [])=(own none 0 255 3 (List.zipWith dB.cells (iY l r k rs fs) [])) from by rw [oG I]; rfl]
  refine LM hQ (none,0,[]) 0 [] mn U (by show List.all _ _=true; rw [List.all_append,qv]; rfl) U ?_ ?_
  ·exact (by rw [oG I]; rfl)
  ·rw [oG I]; rfl
 refine WK A3 ?_
 refine oW (ι:={z:(OA)×Nat×(List lz)×(List aB) // (yh l r rs fs (rA,rC) (fA,fC) z.2.2.1 z.2.2.2)}) [3,4,5,6,7,12] [0,1,2,3,4,5,6,7,8,9,10,11] U U (fun z=>[(11,(vS z.1.1 ((iw l r rs fs).length) z.1.2.1))]) (fun z=>[(own z.1.1 z.1.2.1 255 3 (List.zipWith dB.cells (iw l r rs fs) z.1.2.2.1)),(bK z.1.2.2.2)]) (fun _=>rfl) (fun _=>rfl) ?_ fun K23 m=>?_
 ·rintro ⟨⟨oA,oC,E,LA⟩,H⟩
  try dsimp only at H
  try dsimp only
  have D:=H
  have K8:=D.len
  have Q4:=yv (l:=l) (r:=r) (rs:=rs) (fs:=fs)
  refine aq fun _ V=>WS fun _ A6=>rP 4 [] (mc 2 U mn) ?_
  have R5:=we (l:=l) (r:=r) (rs:=rs) (fs:=fs) AR (k:=k) I
  refine rP 1 [] mn ?_
  refine RK A6<|cG U (aV fun J4=>?_) (aW fun J4=>?_)
  ·refine WS fun _ A7=>bG 1 U<|rP 1 [] mn ?_
   refine RK A7<|av ?_
   obtain rfl:k=0:=by omega
   refine Ej ?_
   try dsimp only
   refine AX (C1:=[(own oA oC 255 3 (List.zipWith dB.cells (iw l r rs fs) E)),(bK LA),(bK (a_ dB.owns [] []))]) hz [13,14,0] U U (by simp only [fE,List.all_nil,Bool.and_true,cZ]; exact ⟨U,D.wr,qv _ _⟩) ?_
   refine Mc (ra:=(rA,rC)) (fa:=(fA,fC)) (A':=(own oA oC 255 3 (List.zipWith dB.cells (iY l r 0 rs fs) E))) D ((List.append_nil _).trans (oj I).symm) (List.append_nil _) (by rw [oj I]) ?_
   refine LM hQ (oA,oC,E) 0 [] mn U (by show List.all _ _=true; rw [List.all_append,qv]; rfl) U ?_ ?_
   ·exact (by (rw [oj I]; rfl))
   ·rw [oj I]; exact K8
  refine WK V<|WS fun _ A8=>?_
  obtain ⟨B,rfl⟩: ∃ B,k=B+1:=⟨k-1,I⟩
  refine rP 3 [] (mc 1 U mn) ?_
  refine RK A8 ?_
  refine oW (ι:=Unit) [3,4,5,6,7,11,12] [0,1,2,3,4,5,6,7,8,9,10,11,12,13] U U (fun z=>[(15,(vI (gT r.Start fs)))]) (fun z=>[]) (fun _=>rfl) (fun _=>rfl) ?_ fun K28 o=>?_
  ·intro _
   try dsimp only
   refine WS fun _ Z=>rP 4 [] (mc 0 U mn) ?_
   obtain ⟨yls,Go⟩:=aM (cd l l.ab.length) (rs.length) I
   have Gq:=bQ iC Go
   refine rS (IA rs.length U (aF 9 U) dJ dc I I)<|rS (hP rs.length 0 (vI yls) U cf (aF 9 U) Gq U dc U) ?_
   have RU:=n9 Li Fn (i:=rs.length) I
   rw [wH Go]
   refine bG 2 U<|RK Z<|aq fun _ A9=>WS fun _ BE=>rP 1 [] mn ?_
   refine RK BE<|aG ?_
   rw [show (iw l r rs fs)=((iw l r rs fs)++(jh l r B rs fs 0)) from (List.append_nil _).symm]
   rw [show E=E++[] from (List.append_nil _).symm]
   refine oM ?_
   try dsimp only
   have C:(0≤r.aa.length+1)∧(([]:List lz).length=(jh l r B rs fs 0).length):=by exact ⟨Nat.zero_le _,rfl⟩
   have d:(vI ((0:Int)-1))=(vI (-1)):=by exact cI I
   refine bS (ι:={z:Nat×(OA)×Nat×(List lz) // (z.1≤r.aa.length+1)∧(z.2.2.2.length=(jh l r B rs fs z.1).length)}) [3,4,5,6,7,12,15] [1,2,3,4,5,6,7,8,9,10,11,12,14] U U (fun z=>[(11,(vS z.1.2.1 (((iw l r rs fs)++(jh l r B rs fs z.1.1)).length) z.1.2.2.1)),(16,(vI ((z.1.1:Int)-1)))]) (fun z=>[(bK (a_ dB.owns (jh l r B rs fs z.1.1) z.1.2.2.2)),(own z.1.2.1 z.1.2.2.1 255 3 (List.zipWith dB.cells ((iw l r rs fs)++(jh l r B rs fs z.1.1)) (E++z.1.2.2.2)))]) (fun _=>rfl) (fun _=>rfl) (fun z=>r.aa.length+1-z.1.1) ⟨(0,oA,oC,([]:List lz)),C⟩ (dx.cons U<|bk U d<|dx.nil _) (aS [1,2,3,4,5,6,7,8,9,10,11,12,14,0,13]) ?_
   clear C
   rintro ⟨⟨j,M,N,azW⟩,⟨f,A⟩⟩ J33 O
   try dsimp only at f A
   try dsimp only
   have La:=M4 (l:=l) (r:=r) (k:=B) (j:=j) (rs:=rs) (fs:=fs) AR I I
   refine aq fun _ Bc=>WS fun _ B3=>rP 5 [] (mc 1 U mn) ?_
   refine RK B3<|bV U (aW fun J2=>?_) (aV fun J2=>?_)
   ·refine bL<|ai<|ai<|aI<|KK A9<|WS fun _ Ck=>bG 1 U<|rP 1 [] mn ?_
    refine RK Ck<|av ?_
    refine AX (C1:=[(own M N 255 3 (List.zipWith dB.cells ((iw l r rs fs)++(jh l r B rs fs j)) (E++azW))),(bK LA),(bK (a_ dB.owns (jh l r B rs fs j) azW))]) hz [14,12,13] U U (by simp only [fE,List.all_nil,Bool.and_true,cZ]; exact ⟨U,D.wr,qv _ _⟩) ?_
    refine Mc (ra:=(rA,rC)) (fa:=(fA,fC)) (W:=iY l r (B+1) rs fs) (A':=(own M N 255 3 (List.zipWith dB.cells (iY l r (B+1) rs fs) (E++azW)))) D (by rw [oS I,sO,show r.aa.length+1=j by omega]) U (by rw [oS I,sO,show r.aa.length+1=j by omega]) ?_
    refine LM hQ (M,N,(E++azW)) 0 [] mn U (by show List.all _ _=true; rw [List.all_append,qv]; rfl) U ?_ ?_
    ·exact (by (rw [oS I,sO,show r.aa.length+1=j by omega]; rfl))
    ·rw [oS I,sO,show r.aa.length+1=j by omega]; simp only [List.length_append]; omega
   refine WK Bc<|aq fun _ P=>aG<|aq fun _ B9=>dy cy 5 kr<|dP 5 [] (mc 1 U mn) ?_
   refine cO<|RK B9 ?_
   refine oW (ι:={z:Int×Int // ((z.1≤z.2→pP l r rs.length (gT r.Start fs+eu l rs.length) ((j:Int)-1)=some z.1)∧(¬ z.1≤z.2→pP l r rs.length (gT r.Start fs+eu l rs.length) ((j:Int)-1)=none))∧(r.Start≤z.1∧z.2≤r.fI)}) [3,4,5,6,7,11,12,15,16] [0,1,2,3,4,5,6,7,8,9,10,11,12,13,14] U U (fun z=>[(17,(vI z.1.1)),(18,(vI z.1.2))]) (fun z=>[]) (fun _=>rfl) (fun _=>rfl) ?_ fun K39 p=>?_
   ·rintro ⟨⟨tt,ee⟩,⟨AB,J⟩⟩
    try dsimp only at AB J
    try dsimp only
    have Fd:=AB
    have Q5:=J
    refine WS fun _ a=>rP 3 [] mn ?_
    refine RK a<|bV U (aW fun AA=>?_) (aV fun AA=>?_)
    ·refine cx<|aO<|KK P<|ay<|rP 3 [] mn ?_
     refine aJ ?_
     have L:(jh l r B rs fs (j+1))=(jh l r B rs fs j):=by exact rG (Fd.2 AA)
     rw [← L]
     have E1:(vI ((((j+1):Nat):Int)-1))=(vI (((j:Int)-1)+1)):=by exact cI I
     refine bj (O ⟨((j+1),M,N,azW),⟨I,by dsimp only; (rw [L]; exact A)⟩⟩ _ _ _ U os (cQ 8<|bk U E1<|dx.nil _) (aS [0,1,2,3,4,5,6,7,8,9,10,11,12,13,14]))
    refine PC (L':=[(3,(vS rA rs.length rC)),(4,(vS fA fs.length fC)),(5,(vP b2)),(6,(vP b3)),(7,(vP b4)),(11,(vS M (((iw l r rs fs)++(jh l r B rs fs j)).length) N)),(12,(vI (rs.length:Int))),(15,(vI ((gT r.Start fs)+(eu l rs.length)))),(16,(vI ((j:Int)-1))),(17,(vI tt)),(18,(vI ee)),(123,(vI tt)),(124,(vI ee)),(125,(vB (decide (tt≤ee))))]) rfl<|m7 cy [0,1,2,3,5,7,11,13] [4,6,8,9,10,12,14,15,16,17,18] [false,false,false,false,false,false,false,false] [] [(cv b4 252 (jm.cells (jm.mk (bE.mk vwA ((cd l l.ab.length).length) vwC) (bE.mk vtA ((fj l r r.aa.length).length) vtC) (bE.mk vbA ((fP l r r.aa.length).length) vbC)))),(cv b3 56 (cM.cells (jI r sgA sgC))),(cv b2 28 (cw.cells (kj l kA kC cA cC bA bC))),(bK [own rA rC 3 1 (rs.map iC),own fA fC 3 1 (fs.map iC)]).ro,(rd kA l.aR.length 9 (l.aR.map ar.cells)).ro,(rd cA l.aj.length 2 (List.zipWith ax.cells l.aj az)).ro,(dV (a_ ax.gG l.aj az)).ro,(rd bA l.ab.length 4 (l.ab.map bJ.cells)).ro,(rd sgA r.aa.length 2 (r.aa.map aH.cells)).ro,(rd vwA ((cd l l.ab.length).length) 1 ((cd l l.ab.length).map iC)).ro,(rd vtA ((fj l r r.aa.length).length) 2 ((fj l r r.aa.length).map ag.cells)).ro,(rd vbA ((fP l r r.aa.length).length) 1 ((fP l r r.aa.length).map qQ)).ro,(bK LA),(bK (a_ dB.owns (jh l r B rs fs j) azW))] [] kr (aS [0,1,2,3,4,5,6,7,8,9,10,11,12,13]) (aS [])<|eS rfl (MV rfl)<|eS rfl (LW 2 rfl cf rfl rfl)<|eS rfl (LW 1 rfl cf rfl rfl)<|eS rfl (LW 0 rfl cf rfl rfl)<|eS rfl (MV rfl)<|eS rfl (MV rfl)<|eS rfl (MV rfl)<|eS rfl (MV rfl)<|eN rfl<|GN [.take 4,.op 6,.take 8,.op 9,.take 10,.op 12,.take 14,.op 15,.op 16,.op 17,.op 18] [(133,(vI ((j:Int)-1))),(139,(vI tt))] (fun i=>match i with |4=>130|8=>134|10=>136|14=>140|_=>0) (fun i b=>match i with |4=> .slice (some ⟨b,0,none⟩) 0 0|8=> .slice (some ⟨b,0,none⟩) 1 1|10=> .slice (some ⟨b,0,none⟩) 0 0|14=> .slice (some ⟨b,0,none⟩) 1 1|_=>undef) (fun i b=>match i with |4=>cv b 3 []|8=>cv b 3 [(vI ((j:Int)-1))]|10=>cv b 3 []|14=>cv b 3 [(vI tt)]|_=>cv b 0 []) rfl rfl rfl kr rfl rfl (aS [0,1,2,3,4,5,6,7,8,9,10,11,12,13]) (m8 (KC rfl dJ rfl rfl (fun _=>rfl) fun _=>rfl)<|rX<|m8 (w4 (xs:=[.tmp 133]) (cs:=[(vI ((j:Int)-1))]) rfl dJ kY rfl rfl rfl rfl (by simp [Value.cells]) rfl rfl rfl (fun _=>rfl) fun _=>rfl)<|rX<|m8 (KC rfl dJ rfl rfl (fun _=>rfl) fun _=>rfl)<|rX<|m8 (w4 (xs:=[.tmp 139]) (cs:=[(vI tt)]) rfl dJ kY rfl rfl rfl rfl (by simp [Value.cells]) rfl rfl rfl (fun _=>rfl) fun _=>rfl)<|rX<|rX<|rX<|rX<|Ms) ?_
    intro If
    try dsimp only
    refine rq U fun Y X K hT=>fU (es:=(List.map iC [])) (C':=[own (some ⟨If,0,none⟩) 0 3 1 (List.map iC []),_,_,_,_,_,_,_,_,_,_,_,_,_,_,_]++X) 0 U sm U (by simp [maxLen]) U ?_
    refine dR (es2:=(List.map iC rs)) (m':=rs.length) 0 U U U ti U U sm (show jC _ (rd rA rs.length 1 (rs.map iC)).holds from (qM (c:=rC) (e:=3) 4 U sm sm)) (lM _) (by first|omega|(simp; done)|(simp; omega)) (by (simp only [maxLen]; omega)) sm sm U fun Or Pl=>?_
    try dsimp only
    refine oN hT 24 16 U U (fun w hs=>St.kv [1,2,3,4,5,6,7,8,9,10,11,12,13,14] U U hs) U U ?_
    try dsimp only [List.take]
    intro PP
    try dsimp only
    refine rq U fun Y X K hT=>?_
    refine dR (es2:=(List.map iC (rs++[(j:Int)-1]))) (m':=(rs++[(j:Int)-1]).length) 1 U U U ti U U sm (br (es:=List.map iC [((j:Int)-1)]) 0 U U (by simp [bR]) U) (lM _) (by first|omega|(simp; done)|(simp; omega)) (by (simp only [maxLen]; omega)) sm sm U fun IO JJ=>?_
    try dsimp only
    refine oN hT 26 17 U U (fun w hs=>St.kv [2,3,4,5,6,7,8,9,10,11,12,13,14,15] U U hs) U U ?_
    try dsimp only [List.take]
    intro In
    try dsimp only
    refine rq U fun Y X K hT=>fU (es:=(List.map iC [])) (C':=[own (some ⟨In,0,none⟩) 0 3 1 (List.map iC []),_,_,_,_,_,_,_,_,_,_,_,_,_,_,_,_,_]++X) 0 U sm U (by simp [maxLen]) U ?_
    refine dR (es2:=(List.map iC fs)) (m':=fs.length) 0 U U U ti U U sm (show jC _ (rd fA fs.length 1 (fs.map iC)).holds from (qM (c:=fC) (e:=3) 6 U sm sm)) (lM _) (by first|omega|(simp; done)|(simp; omega)) (by (simp only [maxLen]; omega)) sm sm U fun Os QH=>?_
    try dsimp only
    refine oN hT 28 18 U U (fun w hs=>St.kv [3,4,5,6,7,8,9,10,11,12,13,14,15,16] U U hs) U U ?_
    try dsimp only [List.take]
    intro Pi
    try dsimp only
    refine rq U fun Y X K hT=>?_
    refine dR (es2:=(List.map iC (fs++[tt]))) (m':=(fs++[tt]).length) 1 U U U ti U U sm (br (es:=List.map iC [tt]) 0 U U (by simp [bR]) U) (lM _) (by first|omega|(simp; done)|(simp; omega)) (by (simp only [maxLen]; omega)) sm sm U fun IR JR=>?_
    try dsimp only
    refine oN hT 30 19 U U (fun w hs=>St.kv [4,5,6,7,8,9,10,11,12,13,14,15,16,17] U U hs) U U ?_
    try dsimp only [List.take]
    refine rq U fun Y X K hT=>?_
    have R:=Fd.1 AA
    refine yf<|sS 4 U ?_
    try dsimp only [List.eraseIdx]
    refine BK U<|sS 2 U ?_
    try dsimp only [List.eraseIdx]
    refine BK U ?_
    try dsimp only
    refine ph 0 rfl rfl rfl rfl (hrec B (rs++[(j:Int)-1]) IO JJ (fs++[tt]) IR JR I (by simp only [List.length_append,List.length_singleton]; omega) (by simp only [List.length_append,List.length_singleton]; omega) (by rw [nY]; omega) (by intro x hx; rcases g9.1 hx with hx|hx; exact hrs x hx; rw [ck.1 hx]; omega)) rfl (eC 7 rfl rfl (dQ (bY _)) (eC 8 rfl rfl (dQ (bY _)) (eC 9 rfl rfl (dQ (bY _)) (eC 10 rfl rfl (dQ (bY _)) (eC 11 rfl rfl (dQ (bY _)) (eC 12 rfl rfl (dQ (bY _)) (eC 13 rfl rfl (dQ (bY _)) (eC 14 rfl rfl (dQ (bY _)) rh)))))))) rfl (fun L3 AY=>?_)
    obtain ⟨OY,Op,v⟩:=L3
    try dsimp only
    dsimp only at AY
    refine oN hT 31 18 U U (fun w hs=>St.kv [3,4,5,6,7,8,9,10,11,12,13,14,15,16] U U hs) U U ?_
    try dsimp only [List.take]
    refine rq U fun Y X K hT=>sS 0 U ?_
    try dsimp only [List.eraseIdx]
    refine zQ ?_
    have R6:=we (l:=l) (r:=r) (k:=B) (rs:=(rs++[(j:Int)-1])) (fs:=(fs++[tt])) AR I
    refine dR (es2:=(List.zipWith dB.cells ((iw l r rs fs)++(jh l r B rs fs (j+1))) (E++(azW++v)))) (m':=((iw l r rs fs)++(jh l r B rs fs (j+1))).length) 18 U U U PV U U (vr (by simp only [List.length_append]; omega)).symm (au (n:=(iY l r B (rs++[(j:Int)-1]) (fs++[tt])).length) 0 U (vr AY)) (CF _ _) (by simp only [List.length_append]; omega) (by simp only [List.length_append,maxLen]; omega) (by rw [od R,← List.append_assoc,← List.append_assoc]; exact (Mh (by simp only [List.length_append]; omega)).symm) (vr (by rw [od R]; simp only [List.length_append]; omega)) U fun Id Jr=>?_
    try dsimp only
    refine oN hT 32 19 U U (fun w hs=>St.kv [4,5,6,7,8,9,10,11,12,13,14,15,16,17] U U hs) U U ?_
    try dsimp only [List.take]
    refine rq U fun Y X K hT=>rS (AG U)<|oN hT 33 19 U U (fun w hs=>St.kv [4,5,6,7,8,9,10,11,12,13,14,15,16,17] U U hs) U U ?_
    try dsimp only [List.take]
    refine aO<|KK P<|ay<|rP 3 [] mn ?_
    refine aJ<|F6 1 U ?_
    try dsimp only [List.eraseIdx]
    refine F6 17 U ?_
    try dsimp only [List.eraseIdx]
    refine Kh A ?_
    rw [← od R]
    try dsimp only
    have Eq:(vI ((((j+1):Nat):Int)-1))=(vI (((j:Int)-1)+1)):=by exact cI I
    refine bj (O ⟨((j+1),Id,Jr,(azW++v)),⟨I,by dsimp only; (rw [od R,List.length_append,List.length_append,A,AY])⟩⟩ _ _ _ U os (cQ 8<|bk U Eq<|dx.nil _) (aS [4,5,6,7,8,9,10,11,12,13,14,15,16,0,17]))
   refine WS fun _ a=>rP 2 [] mn ?_
   refine RK a<|bV U (aW fun J6=>?_) (aV fun J6=>?_)
   ·refine cx ?_
    refine bj (km (bw U) (aS [0,1,2,3,4,5,6,7,8,9,10,11,12,13,14]) (p ⟨(((gT r.Start fs)+(eu l rs.length)),r.fI),⟨by exact Ll I,I⟩⟩))
   refine aq fun _ Ci=>WS fun _ u=>rP 3 [] (mc 1 U mn) ?_
   obtain ⟨s,hs⟩:=aM r.aa ((((j:Int)-1)).toNat) I
   have LE:=bQ aH.cells hs
   refine rS (IA ((((j:Int)-1)).toNat) U (aF 8 U) xI dc I I)<|rS (nv (((((j:Int)-1)).toNat)*2) U (aF 8 U) (Nat.mul_pos I dc) eP U)<|rS (hP ((((j:Int)-1)).toNat) 0 (vI s.eZ) U cf (aF 8 U) LE U dc U) ?_
   have R0:=(hr.sig _ s hs).1
   refine rP 3 [] mn ?_
   refine cg (t:=99) U (bB fun Ae=>?_) (bx fun Ae=>?_)
   ·refine bG 7 U<|RK u<|aU U<|bL<|ai<|ai<|aI<|KK P<|ay<|rP 3 [] mn ?_
    refine aJ ?_
    have L:(jh l r B rs fs (j+1))=(jh l r B rs fs j):=by exact rG (xX I hs (fun q=>Ae I))
    rw [← L]
    have Do:(vI ((((j+1):Nat):Int)-1))=(vI (((j:Int)-1)+1)):=by exact cI I
    refine bj (O ⟨((j+1),M,N,azW),⟨I,by dsimp only; (rw [L]; exact A)⟩⟩ _ _ _ U os (cQ 8<|bk U Do<|dx.nil _) (aS [0,1,2,3,4,5,6,7,8,9,10,11,12,13,14]))
   refine rP 3 [] (mc 0 U mn) ?_
   obtain ⟨bs,AO⟩:=aM (fP l r r.aa.length) ((((j:Int)-1)).toNat) I
   have FS:=bQ qQ AO
   refine rS (IA ((((j:Int)-1)).toNat) U (aF 11 U) PN dc I I)<|rS (hP ((((j:Int)-1)).toNat) 0 (vB bs) U cf (aF 11 U) FS U dc U)<|rP 2 [] mn ?_
   refine RK u<|cG U (fun F=>?_) (fun F=>?_)
   ·rw [Bool.not_eq_true'] at F
    refine bL<|ai<|ai<|aI<|KK P<|ay<|rP 3 [] mn ?_
    refine aJ ?_
    have L:(jh l r B rs fs (j+1))=(jh l r B rs fs j):=by exact rG (xX I hs (fun q=>by rw [(Dv hs AO).2 q.2] at F; cases F))
    rw [← L]
    have EQ:(vI ((((j+1):Nat):Int)-1))=(vI (((j:Int)-1)+1)):=by exact cI I
    refine bj (O ⟨((j+1),M,N,azW),⟨I,by dsimp only; (rw [L]; exact A)⟩⟩ _ _ _ U os (cQ 8<|bk U EQ<|dx.nil _) (aS [0,1,2,3,4,5,6,7,8,9,10,11,12,13,14]))
   rw [Bool.not_eq_false'] at F
   refine WK Ci<|dy cy 18 kr<|dP 4 [] (mc 0 U mn) ?_
   obtain ⟨z,hz⟩:=aM (fj l r r.aa.length) ((((j:Int)-1)).toNat) I
   have H1:=bQ ag.cells hz
   refine dS (IA ((((j:Int)-1)).toNat) U (aF 10 U) lU dc I I)<|dS (nv (((((j:Int)-1)).toNat)*2) U (aF 10 U) (Nat.mul_pos I dc) eP U) ?_
   have ID:=Mi hs hz
   have L0:=yZ l s
   rw [← ID] at L0
   have K4:(cJ l s).Lo≤(cJ l s).Hi:=(Dv hs AO).1 F
   refine dS (hP ((((j:Int)-1)).toNat) 0 (vI z.Lo) U cf (aF 10 U) H1 U dc U)<|dS (MX U)<|mz 4 [] (mc 0 U mn) U<|dS (IA ((((j:Int)-1)).toNat) U (aF 10 U) lU dc I I)<|dS (nv ((((((j:Int)-1)).toNat)*2)+1) U (aF 10 U) (Nat.mul_pos I dc) eP U)<|dS (hP ((((j:Int)-1)).toNat) 1 (vI z.Hi) U cf (aF 10 U) H1 U dc U)<|dS (MN U)<|dP 2 [] mn ?_
   refine cO<|aJ ?_
   refine bj (km (bw U) (aS [0,1,2,3,4,5,6,7,8,9,10,11,12,13,14]) (p ⟨((max ((gT r.Start fs)+(eu l rs.length)) z.Lo),(min r.fI z.Hi)),⟨by (rw [ID]; exact MI I hs I K4),I⟩⟩))
  refine WS fun _ Z=>rP 2 [] mn ?_
  refine RK Z<|bV U (aW fun J5=>?_) (aV fun J5=>?_)
  ·refine cx ?_
   have C3:(vI (gT r.Start fs))=(vI r.Start):=by exact cI (by have e:fs=[]:=iD I; rw [e]; rfl)
   refine bj (km (cQ 7<|bk U C3<|dx.nil _) (aS [0,1,2,3,4,5,6,7,8,9,10,11,12,13]) (o ()))
  refine ay<|rP 3 [] mn ?_
  obtain ⟨xf,GE⟩:=aM fs (rs.length-1) I
  have GT:=bQ iC GE
  refine rS (IA (rs.length-1) U (show jC _ (rd fA fs.length 1 (fs.map iC)).holds from (qM (c:=fC) (e:=3) 3 U sm sm)) dJ dc I I)<|rS (hP (rs.length-1) 0 (vI xf) U cf (show jC _ (rd fA fs.length 1 (fs.map iC)).holds from (qM (c:=fC) (e:=3) 3 U sm sm)) GT U dc U)<|rP 1 [] mn ?_
  refine aJ ?_
  have C2:(vI (gT r.Start fs))=(vI xf):=by exact cI (DX _ _ _ (by rw [hfl]; exact GE))
  refine bj (km (cQ 7<|bk U C2<|dx.nil _) (aS [0,1,2,3,4,5,6,7,8,9,10,11,12,13]) (o ()))
 refine WS fun _ V=>rP 8 [0,1] (mc 1 U (mc 2 U mn)) ?_
 refine RK V<|bV U (aW fun G=>?_) (aV fun G=>?_)
 ·refine cx<|Ej<|HX 255 3 ?_
  rw [show (own none 0 255 3 [])=(own none 0 255 3 (List.zipWith dB.cells (iw l r rs fs) [])) from by rw [yG G]; rfl]
  have Di:(vS none ((iw l r rs fs).length) 0)=(vS none 0 0):=by first|rfl|(rw [yG G]; rfl)
  refine bj (km (cQ 6<|bk U Di<|dx.nil _) (aS [2,3,4,5,6,7,8,9,10,11,12,13,0,1]) (m ⟨(none,0,[],[]),(by exact .inr ⟨G,U,U⟩)⟩))
 refine ay<|rP 6 [0,1] (mc 1 U (mc 0 U mn)) ?_
 refine cX (Mr r sgA sgC l vwA vwC vtA vtC vbA vbC rs rA rC hle hr I (by exact fun x hx h0=>(hrs x hx).2)) (pC [8,9,10,11]<|aD (show jC _ (rd rA rs.length 1 (rs.map iC)).holds from (qM (c:=rC) (e:=3) 3 U sm sm))<|aN) U fun L2 Ne=>?_
 obtain ⟨S,T⟩:=L2
 try dsimp only
 refine rS (SX (bp (xs:=[(0,.tmp 48),(1,.tmp 49),(2,.tmp 53)]) (cs:=(zd.cells (zd.mk (bE.mk rA rs.length rC) (bE.mk fA fs.length fC) (bE.mk S ((j1 l r rs).length) T)))) U U (bo UZ U)) U U)<|eJ (xs:=[.tmp 54]) (cs:=(zd.cells (zd.mk (bE.mk rA rs.length rC) (bE.mk fA fs.length fC) (bE.mk S ((j1 l r rs).length) T)))) U Gk Tc U U U U (by simp [Value.cells,zd.bf]) U U fun Ox=>lY 255 3 ?_
 refine dR (es2:=(List.zipWith dB.cells (iw l r rs fs) ([((rA,rC),(fA,fC),(S,T))]))) (m':=(iw l r rs fs).length) 0 rfl rfl rfl PV rfl rfl rfl (br (es:=List.zipWith dB.cells [(dB.mk rs fs (j1 l r rs))] [((rA,rC),(fA,fC),(S,T))]) 1 rfl rfl (by intro e he; simp at he; subst he; rfl) rfl) (CF _ _) dc dc (by rw [zY G]; rfl) (by rw [zY G]; rfl) rfl fun y AC=>?_
 try dsimp only
 refine yf<|PA 0 3 U U U ?_
 try dsimp only
 refine rP 1 [] mn ?_
 refine aJ ?_
 have d:(vS y ((iw l r rs fs).length) AC)=(vS y ((iw l r rs fs).length) AC):=by first|rfl|(rw [yG G]; rfl)
 refine bj (km (cQ 6<|bk U d<|dx.nil _) (aS [3,4,5,6,7,8,9,10,11,12,13,14,1,0]) (m ⟨(y,AC,[((rA,rC),(fA,fC),(S,T))],[(own S T 3 1 ((j1 l r rs).map iC))]),(by exact .inl ⟨G,_,U,U⟩)⟩))
theorem RI (l:bg) (kA:OA) (kC:Nat) (az:List RA) (cA:OA) (cC:Nat) (bA:OA) (bC:Nat) (r:cr) (sgA:OA) (sgC:Nat) (vwA:OA) (vwC:Nat) (vtA:OA) (vtC:Nat) (vbA:OA) (vbC k:Nat) (rs:List Int) (rA:OA) (rC:Nat) (fs:List Int) (fA:OA) (fC:Nat) (hin:ep l az) (hle:dw l=0) (hr:dW l r) (hk:rs.length+k=l.ab.length) (hfl:fs.length=rs.length) (hst:r.Start≤gT r.Start fs∧gT r.Start fs≤r.fI) (hrs: ∀ x∈rs,-1≤x∧x<(r.aa.length:Int)):
 Nb Tryz.prog 163 [(vA (cw.cells (kj l kA kC cA cC bA bC))),(vA (cM.cells (jI r sgA sgC))),(vA (jm.cells (jm.mk (bE.mk vwA ((cd l l.ab.length).length) vwC) (bE.mk vtA ((fj l r r.aa.length).length) vtC) (bE.mk vbA ((fP l r r.aa.length).length) vbC)))),(vS rA rs.length rC),(vS fA fs.length fC)] [(rd kA l.aR.length 9 (l.aR.map ar.cells)),(rd cA l.aj.length 2 (List.zipWith ax.cells l.aj az)),(dV (a_ ax.gG l.aj az)),(rd bA l.ab.length 4 (l.ab.map bJ.cells)),(rd sgA r.aa.length 2 (r.aa.map aH.cells)),(rd vwA ((cd l l.ab.length).length) 1 ((cd l l.ab.length).map iC)),(rd vtA ((fj l r r.aa.length).length) 2 ((fj l r r.aa.length).map ag.cells)),(rd vbA ((fP l r r.aa.length).length) 1 ((fP l r r.aa.length).map qQ))] (bK [own rA rC 3 1 (rs.map iC),own fA fC 3 1 (fs.map iC)]) (fun (x:(OA)×Nat×(List lz))=>(vS x.1 ((iY l r k rs fs).length) x.2.1)) (fun (x:(OA)×Nat×(List lz))=>x.2.2.length=(iY l r k rs fs).length) (fun (x:(OA)×Nat×(List lz))=>(bK (a_ dB.owns (iY l r k rs fs) x.2.2++[own x.1 x.2.1 255 3 (List.zipWith dB.cells (iY l r k rs fs) x.2.2)]))):=by
 induction k using Nat.strongRecOn generalizing rs rA rC fs fA fC with
 |ind k ih=>exact H7 l kA kC az cA cC bA bC r sgA sgC vwA vwC vtA vtC vbA vbC k rs rA rC fs fA fC hin hle hr hk hfl hst hrs (fun L F D E C A B G H AA J K=>ih L G F D E C A B H AA J K)
end
section
open Go.RowKit
theorem Ou (l:bg) (kA:OA) (kC:Nat) (az:List RA) (cA:OA) (cC:Nat) (bA:OA) (bC:Nat) (r:cr) (sgA:OA) (sgC:Nat) (hin:ep l az) (hsl:r.aa.length≤1000000):
 qB Tryz.prog 155 [(vA (cw.cells (kj l kA kC cA cC bA bC))),(vA (cM.cells (jI r sgA sgC)))] [(rd kA l.aR.length 9 (l.aR.map ar.cells)),(rd cA l.aj.length 2 (List.zipWith ax.cells l.aj az)),(dV (a_ ax.gG l.aj az)),(rd bA l.ab.length 4 (l.ab.map bJ.cells)),(rd sgA r.aa.length 2 (r.aa.map aH.cells))] (fun (x:Bool×Int×(OA)×Nat×(List lz))=>bif x.1 then (vT [(vS x.2.2.1 ((q8 l r).length) x.2.2.2.1),(vI 0)]) else (vT [(vS none 0 0),(vI x.2.1)])) (fun (x:Bool×Int×(OA)×Nat×(List lz))=>(x.1=true→(dG l r 0=0∧x.2.2.2.2.length=(q8 l r).length))∧(x.1=false→(x.2.1=dG l r 0∧ ¬ dG l r 0=0))) (fun (x:Bool×Int×(OA)×Nat×(List lz))=>bif x.1 then [(own x.2.2.1 x.2.2.2.1 255 3 (List.zipWith dB.cells (q8 l r) x.2.2.2.2)),(bK (a_ dB.owns (q8 l r) x.2.2.2.2))] else []):=by
 have k:=hin.sZ
 have j:=hin.rn
 have h:=hin.n_
 have i:=hin.sB
 refine fO kr Tryz.func155 U U fun o Q hQ hN=>?_
 try dsimp only
 refine WS fun _ X=>eT U fun m=>eT U fun n=>bG 2 U<|RK X<|aq fun _ Y=>WS fun _ Z=>fD 1 [] (mc 1 U mn) U<|rS (CL (Cu l kA kC az cA cC bA bC hin) (bq [2,3,4,5]) U)<|bG 1 U<|RK Z<|WS fun _ a=>rP 2 [] mn ?_
 refine RK a<|cG U (bB fun A=>?_) (bx fun A=>?_)
 ·refine WS fun _ b=>rP 3 [] mn ?_
  refine RK b<|av<|LX hQ (false,(dw l),none,0,[]) [] [] mn U (by rfl) U U ?_
  exact xJ<|FP (gS (r:=r) (me:=0) A) A
 refine WK Y<|aq fun _ c=>WS fun _ d=>fD 2 [0,1] (mc 1 U (mc 0 U mn)) U<|rS (CL (Pp l kA kC az cA cC bA bC r sgA sgC hin (by exact hsl)) (bq [2,3,4,5,6]) U)<|rP 1 [] mn ?_
 refine RK d<|cG U (bB fun B=>?_) (bx fun B=>?_)
 ·refine WS fun _ D=>rP 2 [] mn ?_
  refine RK D<|av<|LX hQ (false,51,none,0,[]) [] [] mn U (by rfl) U U ?_
  exact xJ<|oP (dp (me:=0) A B)
 refine WK c<|aq fun _ E=>dT cy [4,5,6] [] [] [0,1,2,3,4,5,6] [] U U U U U<|eS U (LW 1 U cf U U)<|eS U (LW 0 U cf U U)<|eS U (LW 1 U cf U U)<|eS U (LW 0 U cf U U)<|eN U<|cm U fun T12 J=>cX (N0 l kA kC az cA cC bA bC r sgA sgC hin (by exact A) (by exact B)) (bq [2,3,4,5,6]) U fun e g=>?_
 obtain ⟨V,W,T,AA,R,S⟩:=e
 try dsimp only
 refine aJ (J _ _ (aS [3,4,5,6,7,8,9]) ?_)
 refine cm U fun T21 K=>lY 3 1<|lY 3 1<|yf<|sS 1 U ?_
 try dsimp only [List.eraseIdx]
 refine BK U<|sS 1 U ?_
 try dsimp only [List.eraseIdx]
 refine BK U ?_
 try dsimp only
 refine ph 0 rfl rfl rfl rfl (RI l kA kC az cA cC bA bC r sgA sgC V W T AA R S l.ab.length ([]:List Int) none 0 ([]:List Int) none 0 hin (by exact A) (by exact B) sm (by rfl) (by exact ⟨Int.le_refl _,B.time.2.1⟩) (by intro x hx; cases hx)) rfl (eC 6 rfl rfl (dQ (bY _)) (eC 7 rfl rfl (dQ (bY _)) (eC 8 rfl rfl (dQ (bY _)) (eC 9 rfl rfl (dQ (bY _)) (eC 10 rfl rfl (dQ (bY _)) (eC 1 rfl rfl (jO sm) (eC 2 rfl rfl (jO sm) (eC 3 rfl rfl (jO sm) rh)))))))) rfl (fun f M=>?_)
 obtain ⟨N,O,P⟩:=f
 try dsimp only
 refine aJ (K _ _ (aS [4,5,6,7,8,9,10]) ?_)
 refine cm U fun T26 L=>sS 0 U ?_
 try dsimp only [List.eraseIdx]
 refine zQ ?_
 dsimp only at M
 refine rS (AG U)<|aJ (L _ _ (aS [5,6,7,8,9,10,11]) ?_)
 refine f_ U<|KK E<|aq fun _ F=>WS fun _ G=>rP 3 [] mn ?_
 refine RK G<|bV U (aW fun C=>?_) (aV fun C=>?_)
 ·refine WK F<|WS fun _ AB=>rP 3 [] mn ?_
  refine RK AB<|av ?_
  refine LX hQ (true,0,N,O,P) [0,1] [] mn U (by (show List.all _ _=true; simp only [cond_true,fE,List.all_nil,KO,Bool.and_true]; rfl)) U U ?_
  exact ⟨fun _=>⟨l3 A B U fun q=>C (by rw [show iY l r l.ab.length [] []=[] from (fF A B).2 q]; rfl),M⟩,Su⟩
 refine WS fun _ H=>rP 2 [] mn ?_
 refine RK H<|av<|LX hQ (false,8,none,0,[]) [] [] mn U (by rfl) U U ?_
 exact xJ<|oP (ia (me:=0) A B U ((fF A B).1 (iD (Int.natCast_eq_zero.1 C))))
theorem Hu (ws:List dB) (wz:List lz) (wA:OA) (wC b:Nat) (hws:OG ws) (hwz:wz.length=ws.length) (hb:b≤6):
 dN Tryz.prog 156 [(vS wA ws.length wC),(vI (b:Int))] [(rd wA ws.length 3 (List.zipWith dB.cells ws wz)),(dV (a_ dB.gG ws wz))] (vT [(vA (ag.cells (qA ws b))),(vI (qC ws b))]):=by
 have u:=hws.num
 refine bH kr Tryz.func156 U U fun x Q hQ hN=>?_
 try dsimp only
 refine WS fun _ g=>AL U ej fun w=>bG 1 U<|RK g<|WS fun _ h=>AL U ej fun t=>RK h<|WS fun _ j=>bG 1 U<|RK j<|aq fun _ k=>WS fun _ l=>rP 1 [] mn ?_
 refine RK l<|aG ?_
 have D:(0≤ws.length)∧(ou b (ws.take 0) false (ag.mk 0 0)):=by exact ⟨Nat.zero_le _,Ik⟩
 refine bS (ι:={z:Nat×Bool×ag // (z.1≤ws.length)∧(ou b (ws.take z.1) z.2.1 z.2.2)}) [0,1,4,5,6] [1,2,3] U U (fun z=>[(7,(vB z.1.2.1)),(8,(vI (z.1.1:Int)))]) (fun z=>[(cv t 53 (ag.cells z.1.2.2))]) (fun _=>rfl) (fun _=>rfl) (fun z=>ws.length-z.1.1) ⟨(0,false,(ag.mk 0 0)),D⟩ (bw U) (aS [1,2,3,0]) ?_
 clear D
 rintro ⟨⟨i,fd,o⟩,⟨J,A⟩⟩ J8 H
 try dsimp only at J A
 try dsimp only
 refine aq fun _ m=>WS fun _ L=>rP 4 [] mn ?_
 refine RK L<|bV U (aW fun c=>?_) (aV fun c=>?_)
 ·refine bL<|ai<|ai<|aI<|KK k<|aq fun _ R=>WS fun _ S=>rP 2 [] mn ?_
  refine RK S<|bV U (fun B=>?_) (fun B=>?_)
  ·rw [Bool.not_eq_false'] at B
   refine WK R<|WS fun _ AA=>fD 1 [] (mc 3 U mn) U<|gl U c_ U<|rP 1 [] mn ?_
   refine RK AA<|av<|nE hQ [0] (mc 0 U mn) U ?_
   have AB:=Au (by have q:=A; rwa [List.take_of_length_le I] at q) hws.Gq
   (have q:=AB.2 B; rw [q.1,q.2]; done)
  rw [Bool.not_eq_true'] at B
  refine WS fun _ T=>rS (SX (bp (xs:=[]) (cs:=(ag.cells (ag.mk 0 0))) U U (bo hU U)) U U)<|gl U c_ U<|rP 1 [] mn ?_
  refine RK T<|av<|nE hQ [0] (mc 0 U mn) U ?_
  have AB:=Au (by have q:=A; rwa [List.take_of_length_le I] at q) hws.Gq
  (have q:=AB.1 B; rw [q.1,q.2]; done)
 refine WK m<|aq fun _ C=>aG<|aq fun _ M=>WS fun _ N=>rP 2 [] mn ?_
 obtain ⟨y,hy⟩:=aM ws i I
 obtain ⟨ya,E⟩:=aM wz i I
 have K:(List.zipWith dB.cells ws wz)[i]? =some (dB.cells y ya):=dH hy E
 refine rS (IA i U (aF 1 U) Gk dc I I)<|rS (nv (i*3) U (aF 1 U) (Nat.mul_pos I dc) eP U)<|rS (hP i 0 (vS ya.1.1 y.g4.length ya.1.2) U cf (aF 1 U) K U dc U)<|rP 3 [] mn ?_
 refine RK N<|cG U (aV fun d=>?_) (aW fun d=>?_)
 ·refine bL<|ai<|aI<|KK C<|ay<|rP 3 [] mn ?_
  refine aJ ?_
  have X:(vI (((i+1):Nat):Int))=(vI ((i:Int)+1)):=by exact cI I
  refine bj (H ⟨((i+1),fd,o),⟨I,by dsimp only; rw [mT hy]; exact Eg A I⟩⟩ _ _ _ U os (cQ 6<|bk U X<|dx.nil _) (aS [0,1,2,3]))
 refine WK M<|aq fun _ O=>dT cy [17,18] [] [] [0,1,2,3] [] U U U U U ?_
 have v:=hws.lens y (aQ hy)
 obtain ⟨s,hs⟩: ∃ s,y.g4[b]? =some s:=⟨y.g4[b]'I,eU _⟩
 refine eS U (MV U)<|eS U (MV U)<|eS U (IA i U (aF 1 U) Gk dc I I)<|eS U (nv ((i*3)+1) U (aF 1 U) (Nat.mul_pos I dc) eP U)<|eS U (hP i 1 (vS ya.2.1.1 y.jv.length ya.2.1.2) U cf (aF 1 U) K U dc U)<|eS U (MV U) ?_
 obtain ⟨f,hf⟩:=aM y.jv b I
 have p:=bQ iC hf
 refine eS U (IA b U (show jC _ (rd ya.2.1.1 y.jv.length 1 (y.jv.map iC)).holds from (cW 2 U (bT hy E (by simp [dB.gG])))) dJ dc I I)<|eS U (hP b 0 (vI f) U cf (show jC _ (rd ya.2.1.1 y.jv.length 1 (y.jv.map iC)).holds from (cW 2 U (bT hy E (by simp [dB.gG])))) p U dc U)<|eS U (MV U)<|eS U (MV U)<|eS U (IA i U (aF 1 U) Gk dc I I)<|eS U (nv ((i*3)+2) U (aF 1 U) (Nat.mul_pos I dc) eP U)<|eS U (hP i 2 (vS ya.2.2.1 y.mG.length ya.2.2.2) U cf (aF 1 U) K U dc U)<|eS U (MV U) ?_
 obtain ⟨e,he⟩:=aM y.mG b I
 have n:=bQ iC he
 refine eS U (IA b U (show jC _ (rd ya.2.2.1 y.mG.length 1 (y.mG.map iC)).holds from (cW 2 U (bT hy E (by simp [dB.gG])))) dJ dc I I)<|eS U (hP b 0 (vI e) U cf (show jC _ (rd ya.2.2.1 y.mG.length 1 (y.mG.map iC)).holds from (cW 2 U (bT hy E (by simp [dB.gG])))) n U dc U)<|eS U (SX (bp (xs:=[(0,.tmp 31),(1,.tmp 39)]) (cs:=(ag.cells (ag.mk f e))) U U (bo hU U)) U U)<|eN U<|cm U fun T17 V=>AL U ej fun r=>aJ (V _ _ (aS [1,2,3,4]) ?_)
 refine cm U fun T19 W=>gl U c_ U<|aJ (W _ _ (aS [1,2,3,4]) ?_)
 refine f_ U<|KK O<|aq fun _ F=>WS fun _ P=>?_
 have a:=hws.le y (aQ hy) b f e I hf he
 refine rP 1 [] mn ?_
 refine RK P<|bV U (fun G=>?_) (fun G=>?_)
 ·refine WK F<|ay<|fD 1 [] (mc 0 U mn) U<|Tf U c_ U<|bG 1 U<|aJ<|aO<|KK C<|ay<|rP 3 [] mn ?_
  refine aJ ?_
  have Z:(vI (((i+1):Nat):Int))=(vI ((i:Int)+1)):=by exact cI I
  refine bj (H ⟨((i+1),true,(ag.mk f e)),⟨I,by dsimp only; rw [mT hy]; exact CQ A G hs hf he a⟩⟩ _ _ _ U os (cQ 6<|bk U Z<|dx.nil _) (aS [1,2,3,4]))
 refine ay<|fD 4 [0,1] (mc 0 U (mc 4 U mn)) U<|rS (MN U)<|fD 4 [0,1] (mc 0 U (mc 4 U mn)) U<|rS (MX U)<|rS (SX (bp (xs:=[(0,.tmp 46),(1,.tmp 51)]) (cs:=(ag.cells (ag.mk (min f o.Lo) (max e o.Hi)))) U U (bo hU U)) U U)<|gl U c_ U<|RK F<|ay<|fD 1 [] (mc 0 U mn) U<|Tf U c_ U<|bG 1 U<|aJ<|aO<|KK C<|ay<|rP 3 [] mn ?_
 refine aJ ?_
 have Y:(vI (((i+1):Nat):Int))=(vI ((i:Int)+1)):=by exact cI I
 refine bj (H ⟨((i+1),true,(ag.mk (min f o.Lo) (max e o.Hi))),⟨I,by dsimp only; rw [mT hy]; exact FJ A G hs hf he a⟩⟩ _ _ _ U os (cQ 6<|bk U Y<|dx.nil _) (aS [1,2,3,4]))
end
section
open Go.RowKit
theorem QV (l:bg) (kA:OA) (kC:Nat) (az:List RA) (cA:OA) (cC:Nat) (bA:OA) (bC:Nat) (r:cr) (sgA:OA) (sgC:Nat) (hin:ep l az) (hsl:r.aa.length≤1000000):
 dN Tryz.prog 143 [(vA (cw.cells (cw.mk (bO.mk (bE.mk kA l.aR.length kC)) l.iN (bE.mk cA l.aj.length cC) (bE.mk bA l.ab.length bC) l.bM l.fT l.dE))),(vA (cM.cells (jI r sgA sgC)))] [(rd kA l.aR.length 9 (l.aR.map ar.cells)),(rd cA l.aj.length 2 (List.zipWith ax.cells l.aj az)),(dV (a_ ax.gG l.aj az)),(rd bA l.ab.length 4 (l.ab.map bJ.cells)),(rd sgA r.aa.length 2 (r.aa.map aH.cells))] (vT [(vA (ag.cells (Bv l r))),(vI (dj l r l.bM))]):=by
 have q:=hin.sZ
 have j:=hin.rn
 have h:=hin.n_
 have i:=hin.sB
 refine bH kr Tryz.func143 U U fun y Q hQ hN=>?_
 try dsimp only
 refine WS fun _ Z=>eT U fun v=>eT U fun w=>AL U ej fun x=>bG 1 U<|RK Z<|WS fun _ P=>rP 2 [0,1] (mc 2 U (mc 1 U mn)) ?_
 refine cX (Ou l kA kC az cA cC bA bC r sgA sgC hin hsl) (bq [3,4,5,6,7]) U fun u V=>?_
 obtain ⟨W,g,e,Y,X⟩:=u
 cases W
 ·obtain ⟨R,he⟩:=V.2 rfl
  try dsimp only at R he
  subst R
  try dsimp only [cond_true,cond_false,List.cons_append,List.nil_append]
  refine bG 5 U<|RK P<|aq fun _ d=>WS fun _ G=>rP 2 [] mn ?_
  refine RK G<|bV U (bx fun F=>?_) (bB fun F=>?_)
  ·exact absurd F he
  refine WS fun _ H=>rS (SX (bp (xs:=[]) (cs:=(ag.cells (ag.mk 0 0))) U U (bo hU U)) U U)<|bG 1 U<|gl U c_ U<|rP 1 [] mn ?_
  refine RK H<|av<|nE hQ [0] (mc 0 U mn) U ?_
  (rw [Ez (fun z=>he ((xu he).symm.trans z)),xu he]<;>rfl)
 obtain ⟨he,C⟩:=V.1 rfl
 try dsimp only [cond_true,cond_false,List.cons_append,List.nil_append]
 try dsimp only at he C
 obtain ⟨T,E,_,k⟩:=iG he
 obtain ⟨s,c⟩:=dq T
 have a:=c.head
 unfold eY at a
 have AA:=Ql T E
 have t:=AA.num
 have o:=E.len
 have p:=E.time
 refine bG 5 U<|RK P<|aq fun _ AB=>WS fun _ J=>rP 1 [] mn ?_
 refine rS (SX (gL (r:= .bool false) U U U xo) U U)<|RK J<|ct U<|WK AB<|aq fun _ K=>?_
 obtain ⟨b,S⟩: ∃ b:Nat,l.bM=(b:Int):=⟨l.bM.toNat,I⟩
 have A:=Lt he (b:=b) I
 rw [← S] at A
 rw [S]
 refine ay<|fD 3 [] (mc 4 U mn) U<|rS (CL (Hu (q8 l r) X e Y b (by exact AA) (by exact C) I) (aD (au (n:=(q8 l r).length) 0 U (vr C))<|aD (e7 1 U Pu)<|aN) U)<|bG 3 U<|AL U ej fun f=>gl U c_ U<|bG 1 U<|RK K<|aq fun _ L=>WS fun _ M=>rP 2 [] mn ?_
 refine RK M<|cG U (bB fun B=>?_) (bx fun B=>?_)
 ·refine WS fun _ N=>rS (SX (bp (xs:=[]) (cs:=(ag.cells (ag.mk 0 0))) U U (bo hU U)) U U)<|bG 1 U<|Vo U c_ U<|rP 1 [] mn ?_
  refine RK N<|av<|nE hQ [0] (mc 3 U mn) U ?_
  (rw [Ez (fun z=>B (A.1.trans z)),← A.1]<;>rfl)
 refine WK L<|aq fun _ O=>?_
 have D:dj l r l.bM=0:=A.1.symm.trans B
 have m:=uM D
 rw [A.2]
 refine ay<|fD 10 [0,1,0,1] (mc 0 U (mc 4 U mn)) U<|rS (SX (bp (xs:=[(0,.tmp 34),(1,.tmp 39)]) (cs:=(ag.cells (ag.mk (((cV l r l.bM).Lo)-r.Start) (((cV l r l.bM).Hi)-r.Start)))) U U (bo hU U)) U U)<|Vo U c_ U<|rP 1 [] mn ?_
 refine RK O<|av<|nE hQ [0] (mc 3 U mn) U ?_
 (rw [AK D,D])
end
section
open Go.RowKit
theorem EZ (l:bg) (kA:OA) (kC:Nat) (az:List RA) (cA:OA) (cC:Nat) (bA:OA) (bC:Nat) (d:ao) (sgA:OA) (sgC:Nat) (hin:ep l az) (hle:dw l=0) (hsl:d.aZ.aa.length≤1000000) (hk:d.Out=true):
 dN Tryz.prog 123 [(vA (cw.cells (kj l kA kC cA cC bA bC))),(vA (aP.cells (aP.mk d.Out d.cY d.Time (jI d.aZ sgA sgC))))] [(rd kA l.aR.length 9 (l.aR.map ar.cells)),(rd cA l.aj.length 2 (List.zipWith ax.cells l.aj az)),(dV (a_ ax.gG l.aj az)),(rd bA l.ab.length 4 (l.ab.map bJ.cells)),(rd sgA d.aZ.aa.length 2 (d.aZ.aa.map aH.cells))] (vT [(vA (ag.cells (pS l d))),(vB (decide (iW l d)))]):=by
 have K:=hin.sZ
 have J:=hin.rn
 have H:=hin.n_
 have AA:=hin.sB
 refine bH kr Tryz.func123 U U fun O Q hQ hN=>?_
 try dsimp only
 refine WS fun _ B=>eT U fun L=>eT U fun M=>AL U ej fun N=>bG 1 U<|RK B<|aq fun _ E=>aG<|WS fun _ C=>rP 3 [] (mc 1 U mn) ?_
 refine RK C<|bV U (fun G=>?_) (fun G=>?_)
 ·exact absurd ((hk).symm.trans G) dc
 refine WS fun _ A=>rS (SX (bp (xs:=[]) (cs:=(ag.cells (ag.mk 0 0))) U U (bo hU U)) U U)<|rP 4 [] (mc 1 U mn) ?_
 refine cu (t:=15) U (fun D=>?_) (fun D=>?_)
 ·rw [Bool.not_eq_false'] at D
  refine bG 10 U<|gl U c_ U<|rP 1 [] mn ?_
  refine RK A<|av<|nE hQ [0] (mc 0 U mn) U ?_
  clear hQ hN A C E B
  rw [BM hk]
  simp only [m_ hk]
  refine congrArg (fun z=>Value.tuple #[_,vB z]) ?_
  first|rfl|(simp_all [gV]; done)
 rw [Bool.not_eq_true'] at D
 refine bG 1 U<|rS (LP (ag.cells d.Time) 1 U cf U U U)<|rS (SX (bp (xs:=[]) (cs:=(ag.cells (ag.mk 0 0))) U U (bo hU U)) U U)<|rS (BI U (x5 _ _ d.Time (ag.mk 0 0)))<|rP 2 [] mn ?_
 refine cu (t:=21) U (aW fun F=>?_) (aV fun F=>?_)
 ·refine bG 4 U<|gl U c_ U<|rP 1 [] mn ?_
  refine RK A<|av<|nE hQ [0] (mc 0 U mn) U ?_
  clear hQ hN A C E B
  rw [BM hk]
  simp only [m_ hk]
  refine congrArg (fun z=>Value.tuple #[_,vB z]) ?_
  first|rfl|(simp_all [gV]; done)
 refine bG 1 U<|rS (LP (cM.cells (jI d.aZ sgA sgC)) 1 U cf U U U)<|rS (CL (Gx d.aZ sgA sgC) (bq [7]) U)<|bG 1 U<|gl U c_ U<|rP 1 [] mn ?_
 refine RK A<|av<|nE hQ [0] (mc 0 U mn) U ?_
 clear hQ hN A C E B
 rw [BM hk]
 simp only [m_ hk]
 refine congrArg (fun z=>Value.tuple #[_,vB z]) ?_
 first|rfl|(simp_all [gV]; done)
theorem EG (l:bg) (kA:OA) (kC:Nat) (az:List RA) (cA:OA) (cC:Nat) (bA:OA) (bC:Nat) (d:ao) (sgA:OA) (sgC:Nat) (hin:ep l az) (hle:dw l=0) (hsl:d.aZ.aa.length≤1000000) (hk:d.Out=false∧d.cY=true):
 dN Tryz.prog 123 [(vA (cw.cells (kj l kA kC cA cC bA bC))),(vA (aP.cells (aP.mk d.Out d.cY d.Time (jI d.aZ sgA sgC))))] [(rd kA l.aR.length 9 (l.aR.map ar.cells)),(rd cA l.aj.length 2 (List.zipWith ax.cells l.aj az)),(dV (a_ ax.gG l.aj az)),(rd bA l.ab.length 4 (l.ab.map bJ.cells)),(rd sgA d.aZ.aa.length 2 (d.aZ.aa.map aH.cells))] (vT [(vA (ag.cells (pS l d))),(vB (decide (iW l d)))]):=by
 have N:=hin.sZ
 have M:=hin.rn
 have K:=hin.n_
 have L:=hin.sB
 refine bH kr Tryz.func123 U U fun S Q hQ hN=>?_
 try dsimp only
 refine WS fun _ D=>eT U fun O=>eT U fun P=>AL U ej fun R=>bG 1 U<|RK D<|aq fun _ H=>aG<|WS fun _ E=>rP 3 [] (mc 1 U mn) ?_
 refine RK E<|cG U (fun J=>?_) (fun J=>?_)
 ·exact absurd ((hk.1).symm.trans J) dc
 refine WS fun _ F=>rP 3 [] (mc 1 U mn) ?_
 refine RK F<|bV U (fun G=>?_) (fun G=>?_)
 ·exact absurd ((hk.2).symm.trans G) dc
 refine aq fun _ B=>dT cy [10] [] [] [1,2,3,4,5,6,7] [] U U U U U<|eS U (FA 2 U eP U)<|eS U (LP (ag.cells d.Time) 0 U cf U U U)<|eS U (FA 2 U eP U)<|eS U (LP (ag.cells d.Time) 0 U cf U U U)<|eS U (CL (Ob d.Time) (aN) U)<|eS U (MV U)<|sP (t:=34) U (fun A=>?_) (fun A=>?_)
 rotate_left 1
 ·replace A:=DF A
  refine eS U (OX U)<|eS U (OX U)<|eS U (OX U)<|eS U (PK U)<|eS U (AG U)<|eN U<|cm U fun T10 C=>gl U c_ U<|aJ (C _ _ (aS [1,2,3,4,5,6,7]) ?_)
  refine f_ U<|KK B<|av<|nE hQ [0] (mc 0 U mn) U ?_
  clear hQ hN C T10 B F E H D
  rw [Gj hk]
  simp only [ow hk]
  refine congrArg (fun z=>Value.tuple #[_,vB z]) ?_
  first|rfl|(simp_all; done)
 replace A:=DT A
 refine eS U (FA 4 U eP U)<|eS U (LP (cM.cells (jI d.aZ sgA sgC)) 0 U cf U U U)<|eS U (CL (Gx d.aZ sgA sgC) (bq [6]) U)<|eS U (PK U)<|eS U (AG U)<|eN U<|cm U fun T9 AA=>gl U c_ U<|aJ (AA _ _ (aS [1,2,3,4,5,6,7]) ?_)
 refine f_ U<|KK B<|av<|nE hQ [0] (mc 0 U mn) U ?_
 clear hQ hN AA T9 B F E H D
 rw [Gj hk]
 simp only [ow hk]
 refine congrArg (fun z=>Value.tuple #[_,vB z]) ?_
 first|rfl|(simp_all; done)
theorem Fy (l:bg) (kA:OA) (kC:Nat) (az:List RA) (cA:OA) (cC:Nat) (bA:OA) (bC:Nat) (d:ao) (sgA:OA) (sgC:Nat) (hin:ep l az) (hle:dw l=0) (hsl:d.aZ.aa.length≤1000000) (hk:d.Out=false∧d.cY=false):
 dN Tryz.prog 123 [(vA (cw.cells (kj l kA kC cA cC bA bC))),(vA (aP.cells (aP.mk d.Out d.cY d.Time (jI d.aZ sgA sgC))))] [(rd kA l.aR.length 9 (l.aR.map ar.cells)),(rd cA l.aj.length 2 (List.zipWith ax.cells l.aj az)),(dV (a_ ax.gG l.aj az)),(rd bA l.ab.length 4 (l.ab.map bJ.cells)),(rd sgA d.aZ.aa.length 2 (d.aZ.aa.map aH.cells))] (vT [(vA (ag.cells (pS l d))),(vB (decide (iW l d)))]):=by
 have O:=hin.sZ
 have N:=hin.rn
 have L:=hin.n_
 have M:=hin.sB
 refine bH kr Tryz.func123 U U fun AA Q hQ hN=>?_
 try dsimp only
 refine WS fun _ E=>eT U fun P=>eT U fun R=>AL U ej fun S=>bG 1 U<|RK E<|aq fun _ F=>aG<|WS fun _ G=>rP 3 [] (mc 1 U mn) ?_
 refine RK G<|cG U (fun K=>?_) (fun K=>?_)
 ·exact absurd ((hk.1).symm.trans K) dc
 refine WS fun _ H=>rP 3 [] (mc 1 U mn) ?_
 refine RK H<|cG U (fun J=>?_) (fun J=>?_)
 ·exact absurd ((hk.2).symm.trans J) dc
 refine cx<|aO<|KK F<|WS fun _ AB=>fD 2 [] (mc 2 U mn) U<|rS (LP (cM.cells (jI d.aZ sgA sgC)) 1 U cf U U U)<|rS (CL (QV l kA kC az cA cC bA bC d.aZ sgA sgC hin hsl) (bq [3,4,5,6,7]) U)<|bG 3 U<|AL U ej fun T=>gl U c_ U<|rP 1 [] mn ?_
 refine RK AB<|aq fun _ A=>dT cy [9] [] [] [0,2,3,4,5,6,7,8] [] U U U U U<|eS U (LW 0 U cf U U)<|eS U (MV U)<|eS U (BI U nP)<|eS U (MV U)<|sP (t:=49) U (fun B=>?_) (fun B=>?_)
 rotate_left 1
 ·replace B:=DF B
  refine eS U (OX U)<|eS U (OX U)<|eS U (OX U)<|eS U (OX U)<|eS U (PK U)<|eS U (AG U)<|eN U<|cm U fun T12 D=>rV U c_ U<|aJ (D _ _ (aS [0,2,3,4,5,6,7,8]) ?_)
  refine f_ U<|KK A<|av<|nE hQ [0] (mc 1 U mn) U ?_
  clear hQ hN D T12 A AB H G F E
  rw [Gs hk]
  simp only [kF hk]
  refine congrArg (fun z=>Value.tuple #[_,vB z]) ?_
  first|rfl|(simp_all [gV]; done)
 replace B:=DT B
 refine eS U (FA 2 U eP U)<|eS U (LP (ag.cells d.Time) 1 U cf U U U)<|eS U (SX (bp (xs:=[]) (cs:=(ag.cells (ag.mk 0 0))) U U (bo hU U)) U U)<|eS U (BI U (x5 _ _ d.Time (ag.mk 0 0)))<|eS U (PK U)<|eS U (AG U)<|eN U<|cm U fun T11 C=>rV U c_ U<|aJ (C _ _ (aS [0,2,3,4,5,6,7,8]) ?_)
 refine f_ U<|KK A<|av<|nE hQ [0] (mc 1 U mn) U ?_
 clear hQ hN C T11 A AB H G F E
 rw [Gs hk]
 simp only [kF hk]
 refine congrArg (fun z=>Value.tuple #[_,vB z]) ?_
 first|rfl|(simp_all [gV]; done)
theorem Hl (l:bg) (kA:OA) (kC:Nat) (az:List RA) (cA:OA) (cC:Nat) (bA:OA) (bC:Nat) (d:ao) (sgA:OA) (sgC:Nat) (hin:ep l az) (hle:dw l=0) (hsl:d.aZ.aa.length≤1000000):
 dN Tryz.prog 123 [(vA (cw.cells (kj l kA kC cA cC bA bC))),(vA (aP.cells (aP.mk d.Out d.cY d.Time (jI d.aZ sgA sgC))))] [(rd kA l.aR.length 9 (l.aR.map ar.cells)),(rd cA l.aj.length 2 (List.zipWith ax.cells l.aj az)),(dV (a_ ax.gG l.aj az)),(rd bA l.ab.length 4 (l.ab.map bJ.cells)),(rd sgA d.aZ.aa.length 2 (d.aZ.aa.map aH.cells))] (vT [(vA (ag.cells (pS l d))),(vB (decide (iW l d)))]):=by
 by_cases ho:d.Out=true
 ·exact EZ l kA kC az cA cC bA bC d sgA sgC hin hle hsl ho
 by_cases hf:d.cY=true
 ·exact EG l kA kC az cA cC bA bC d sgA sgC hin hle hsl ⟨by simpa using ho,hf⟩
 ·exact Fy l kA kC az cA cC bA bC d sgA sgC hin hle hsl ⟨by simpa using ho,by simpa using hf⟩
end
section
open Go.RowKit
theorem Fi (r:dY) (kA:OA) (kC:Nat) (az:List RA) (cA:OA) (cC:Nat) (bA:OA) (bC:Nat) (slA:OA) (slC:Nat) (drA:OA) (drC:Nat) (ha:List cN) (heA:OA) (heC:Nat) (hin:lO r az ha) (hle:dw r.ak=0):
 qB Tryz.prog 102 [(vA (fu.cells (zH r kA kC cA cC bA bC slA slC drA drC heA heC)))] [(rd kA r.ak.aR.length 9 (r.ak.aR.map ar.cells)),(rd cA r.ak.aj.length 2 (List.zipWith ax.cells r.ak.aj az)),(dV (a_ ax.gG r.ak.aj az)),(rd bA r.ak.ab.length 4 (r.ak.ab.map bJ.cells)),(rd slA r.aY.length 1 (r.aY.map iC)),(rd drA r.b_.length 1 (r.b_.map iC)),(rd heA r.aA.length 1 (List.zipWith cq r.aA ha)),(dV (a_ eV r.aA ha))] (fun (x:Bool×Int×(OA)×Nat×(List RA))=>bif x.1 then (vT [(vS x.2.2.1 ((gn r).length) x.2.2.2.1),(vB true)]) else (vT [(vS none 0 0),(vB false)])) (fun (x:Bool×Int×(OA)×Nat×(List RA))=>(x.1=true→(fZ r∧x.2.2.2.2.length=r.aA.length))∧(x.1=false→(x.2.1=0∧ ¬ fZ r))) (fun (x:Bool×Int×(OA)×Nat×(List RA))=>bif x.1 then [(own x.2.2.1 x.2.2.2.1 204 1 (List.zipWith OK (gn r) x.2.2.2.2)),(bK (a_ GV (gn r) x.2.2.2.2))] else []):=by
 have L3:=hin.line
 have PP:=hin.iJ
 have Pi:=hin.has
 have OY:=hin.iK
 have NE:=hin.draw
 have Op:=kJ (r:=r)
 refine fO kr Tryz.func102 U U fun w0 Q hQ hN=>?_
 try dsimp only
 refine WS fun _ LA=>eT U fun b2=>bG 2 U<|RK LA<|WS fun _ LB=>fD 4 [] (mc 0 U mn) U<|RK LB<|aq fun _ LE=>WS fun _ N=>bG 1 U<|rS (CL (pN (r.aY.length:Int) 1 5) (aN) U)<|rP 2 [] mn ?_
 refine cg (t:=19) U (bB fun J6=>?_) (bx fun J6=>?_)
 ·refine bG 19 U<|RK N<|aU U<|WS fun _ LT=>rP 2 [] mn ?_
  refine RK LT<|av<|LX hQ (false,0,none,0,[]) [] [] mn U (by rfl) U U ?_
  (exact ⟨zK,fun _=>⟨rfl,fun q=>by have S:=q.num; have q2:=q.BE; have q3:=q.nh; have q4:=q.AR; omega⟩⟩)
 refine rP 7 [] (mc 0 U mn) ?_
 refine cg (t:=26) U (bB fun X=>?_) (bx fun X=>?_)
 ·refine bG 12 U<|RK N<|aU U<|WS fun _ La=>rP 2 [] mn ?_
  refine RK La<|av<|LX hQ (false,0,none,0,[]) [] [] mn U (by rfl) U U ?_
  (exact ⟨zK,fun _=>⟨rfl,fun q=>by have S:=q.num; have q2:=q.BE; have q3:=q.nh; have q4:=q.AR; omega⟩⟩)
 refine fD 2 [] (mc 0 U mn) U<|rS (CL (pN r.lG 0 5) (aN) U)<|rP 3 [] mn ?_
 refine cg (t:=32) U (bB fun J7=>?_) (bx fun J7=>?_)
 ·refine bG 6 U<|RK N<|aU U<|WS fun _ Li=>rP 2 [] mn ?_
  refine RK Li<|av<|LX hQ (false,0,none,0,[]) [] [] mn U (by rfl) U U ?_
  (exact ⟨zK,fun _=>⟨rfl,fun q=>by have S:=q.num; have q2:=q.BE; have q3:=q.nh; have q4:=q.AR; omega⟩⟩)
 refine fD 3 [] (mc 0 U mn) U<|rS (CL (pN (r.aA.length:Int) 1 3) (aN) U)<|rP 2 [] mn ?_
 refine RK N<|cG U (bB fun J9=>?_) (bx fun J9=>?_)
 ·refine WS fun _ Lk=>rP 2 [] mn ?_
  refine RK Lk<|av<|LX hQ (false,0,none,0,[]) [] [] mn U (by rfl) U U ?_
  (exact ⟨zK,fun _=>⟨rfl,fun q=>by have S:=q.num; have q2:=q.BE; have q3:=q.nh; have q4:=q.AR; omega⟩⟩)
 refine WK LE<|aq fun _ o=>WS fun _ p=>rP 1 [] mn ?_
 refine RK p<|aG ?_
 have A:(0≤r.aY.length)∧(yi r 0):=by exact ⟨Nat.zero_le _,Lg⟩
 refine bS (ι:={z:Nat // (z≤r.aY.length)∧(yi r z)}) [1,4] [0,1,2,3,4,5,6,7,8] U U (fun z=>[(5,(vI (z.1:Int)))]) (fun z=>[]) (fun _=>rfl) (fun _=>rfl) (fun z=>r.aY.length-z.1) ⟨0,A⟩ (bw U) (aS [0,1,2,3,4,5,6,7,8]) ?_
 clear A
 rintro ⟨i,⟨L2,AB⟩⟩ J12 T
 try dsimp only
 refine aq fun _ s=>WS fun _ v=>rP 3 [] mn ?_
 refine RK v<|bV U (aW fun J5=>?_) (aV fun J5=>?_)
 ·refine bL<|ai<|ai<|aI<|KK o<|WS fun _ Bc=>bG 1 U<|RK Bc<|aq fun _ B3=>WS fun _ B9=>rP 1 [] mn ?_
  refine RK B9<|aG<|e9 204 1<|oM ?_
  have A:(0≤r.aA.length)∧(([]:List RA).length=0)∧(kT r 0):=by exact ⟨Nat.zero_le _,rfl,yO⟩
  refine bS (ι:={z:Nat×(List RA)×(OA)×Nat // (z.1≤r.aA.length)∧(z.2.1.length=z.1)∧(kT r z.1)}) [1,4] [2,3,4,5,6,7,8,9,10] U U (fun z=>[(7,(vS z.1.2.2.1 ((List.zipWith Dm (hG r z.1.1) z.1.2.1).length) z.1.2.2.2)),(8,(vI (z.1.1:Int)))]) (fun z=>[(bK (a_ GV (hG r z.1.1) z.1.2.1)),(own z.1.2.2.1 z.1.2.2.2 204 1 (List.map sC (List.zipWith Dm (hG r z.1.1) z.1.2.1)))]) (fun _=>rfl) (fun _=>rfl) (fun z=>r.aA.length-z.1.1) ⟨(0,([]:List RA),none,0),A⟩ (bw U) (aS [2,3,4,5,6,7,8,9,10,0,1]) ?_
  clear A
  rintro ⟨⟨h,tz,a,c⟩,⟨P,C,F⟩⟩ J46 l
  try dsimp only at P C F
  try dsimp only
  refine aq fun _ Ci=>WS fun _ Ck=>rP 5 [] (mc 0 U mn) ?_
  refine RK Ck<|bV U (aW fun Ky=>?_) (aV fun Ky=>?_)
  ·refine bL<|ai<|ai<|aI<|KK B3<|aq fun _ Fn=>?_
   have L0:hG r h=gn r:=by unfold gn; rw [show h=r.aA.length by omega]
   have Mn:tz.length=r.aA.length:=by omega
   rw [L0,z8,show (List.zipWith Dm (gn r) tz).length=(gn r).length from by rw [List.length_zipWith]; omega]
   have If:fZ r:=HH (n:=i) I I I I I AB F I
   refine ay<|rP 3 [] mn ?_
   refine RK Fn<|av ?_
   refine LX hQ (true,0,a,c,tz) [10,9] [] mn U (by (show List.all _ _=true; simp only [cond_true,fE,List.all_nil,E5,Bool.and_true]; rfl)) U U ?_
   exact ⟨fun _=>⟨If,Mn⟩,Su⟩
  refine WK Ci<|aq fun _ Cl=>aG<|aq fun _ Cp=>WS fun _ Cx=>rP 3 [] (mc 0 U mn) ?_
  obtain ⟨ht,D⟩:=aM r.aA h I
  obtain ⟨E,H⟩:=aM ha h I
  have W:(List.zipWith cq r.aA ha)[h]? =some (cq ht E):=dH D H
  refine rS (IA h U (aF 7 U) oQ dc I I) ?_
  have Id:=hin.gM _ _ _ D H
  have Ne:=Id.n_
  refine rS (hP h 0 (vS E.1.1 ht.length E.1.2) U cf (aF 7 U) W U dc U)<|rP 3 [] mn ?_
  refine RK Cx<|cG U (bB fun e=>?_) (bx fun e=>?_)
  ·refine WS fun _ C0=>rP 2 [] mn ?_
   refine RK C0<|av<|LX hQ (false,0,none,0,[]) [] [] mn U (by rfl) U U ?_
   (exact ⟨zK,fun _=>⟨rfl,fun q=>by have S:=(q.gM ht (aQ D)).1; omega⟩⟩)
  refine WK Cp<|WS fun _ C1=>bG 1 U<|RK C1<|aq fun _ C2=>WS fun _ C3=>rP 1 [] mn ?_
  refine RK C3<|aG<|e9 53 2 ?_
  have A:(0≤ht.length)∧(o7 r.ak ht 0):=by exact ⟨Nat.zero_le _,xx⟩
  refine bS (ι:={z:Nat×(OA)×Nat // (z.1≤ht.length)∧(o7 r.ak ht z.1)}) [1,4,7,8] [1,2,3,4,5,6,7,8,9,10,11] U U (fun z=>[(9,(vS z.1.2.1 (((ht.take z.1.1).map (gr r.ak)).length) z.1.2.2)),(10,(vI (z.1.1:Int)))]) (fun z=>[(own z.1.2.1 z.1.2.2 53 2 (((ht.take z.1.1).map (gr r.ak)).map ag.cells))]) (fun _=>rfl) (fun _=>rfl) (fun z=>ht.length-z.1.1) ⟨(0,none,0),A⟩ (bw U) (aS [1,2,3,4,5,6,7,8,9,10,11,0]) ?_
  clear A
  rintro ⟨⟨j,la,lc⟩,⟨R,G⟩⟩ J57 m
  try dsimp only at R G
  try dsimp only
  refine aq fun _ Di=>WS fun _ Do=>rP 3 [] mn ?_
  refine RK Do<|bV U (aW fun K5=>?_) (aV fun K5=>?_)
  ·refine bL<|ai<|ai<|aI<|KK C2<|ay ?_
   rw [show ((ht.take j).map (gr r.ak))=ht.map (gr r.ak) from by rw [List.take_of_length_le I]]
   refine rP 2 [] mn ?_
   refine eJ (xs:=[.tmp 137]) (cs:=[(vS la ((ht.map (gr r.ak)).length) lc)]) U MT PF U U U U (by simp [Value.cells]) U U fun Ox=>?_
   refine dR (es2:=(List.map sC (List.zipWith Dm (hG r (h+1)) (tz++[(la,lc)])))) (m':=(List.zipWith Dm (hG r (h+1)) (tz++[(la,lc)])).length) 11 U U U Qb U U sm (br (es:=List.map sC [(bE.mk la ((ht.map (gr r.ak)).length) lc)]) 0 U U (by simp [Ay]) U) (KG _) (by rw [List.length_zipWith,lR I]; omega) (by rw [List.length_zipWith,lR I]; simp only [maxLen]; omega) (by rw [uS D C,List.map_append]; rfl) (by rw [uS D C]; simp) U fun J2 J4=>?_
   try dsimp only
   refine bG 1 U<|aJ<|aO<|KK Cl<|ay<|rP 3 [] mn ?_
   refine aJ<|y7 (X':=a_ GV (hG r (h+1)) (tz++[(la,lc)])) 10 12 U U (CZ (a:=(la,lc)) D C) ?_
   have IO:(vI (((h+1):Nat):Int))=(vI ((h:Int)+1)):=by exact cI I
   refine bj (l ⟨((h+1),(tz++[(la,lc)]),J2,J4),⟨I,by simp; omega,yr F D (Gi I G I)⟩⟩ _ _ _ U os (cQ 3<|bk U IO<|dx.nil _) (aS [2,3,4,5,6,7,8,9,10,0,11]))
  refine WK Di<|aq fun _ EQ=>aG<|aq fun _ Eq=>dT cy [14,15] [] [] [0,1,2,3,4,5,6,7,8,9,10,11] [] U U U U U<|eS U (FA 0 U eP U)<|eS U (LP (cw.cells (kj r.ak kA kC cA cC bA bC)) 0 U cf U U U)<|eS U (FA 10 U eP U)<|eS U (L1 (vS heA r.aA.length heC) 0 U cf U U)<|eS U (MV U)<|eS U (IA h U (aF 7 U) oQ dc I I)<|eS U (hP h 0 (vS E.1.1 ht.length E.1.2) U cf (aF 7 U) W U dc U)<|eS U (MV U) ?_
  obtain ⟨d,hd⟩:=aM ht j I
  obtain ⟨da,IR⟩:=aM E.2 j I
  have Lo:(List.zipWith ao.cells ht E.2)[j]? =some (ao.cells d da):=dH hd IR
  refine eS U (IA j U (show jC _ (rd E.1.1 ht.length 7 (List.zipWith ao.cells ht E.2)).holds from (cW 8 U (bT D H cD))) r8 dc I I)<|eS U (mq j 0 (aP.cells (aP.mk d.Out d.cY d.Time (cM.mk d.aZ.Start d.aZ.fI (bE.mk da.1 d.aZ.aa.length da.2)))) U cf (show jC _ (rd E.1.1 ht.length 7 (List.zipWith ao.cells ht E.2)).holds from (cW 8 U (bT D H cD))) Lo U dc U U) ?_
  have Pl:=Id.sig d (aQ hd)
  refine eS U (CL (Hl r.ak kA kC az cA cC bA bC d da.1 da.2 asm hle asm) (pC [1,2,3,4]<|aD (show jC _ (rd da.1 d.aZ.aa.length 2 (d.aZ.aa.map aH.cells)).holds from (cW 8 U (bT D H (dU _ (bT hd IR (by simp [ao.gG]))))))<|aN) U)<|eS U (MV U)<|eS U (EX U)<|eS U (EX U)<|eS U (AG U)<|eN U<|cm U fun T63 GE=>AL U ej fun Or=>aJ (GE _ _ (aS [1,2,3,4,5,6,7,8,9,10,11,12]) ?_)
  refine cm U fun T65 GT=>gl U c_ U<|aJ (GT _ _ (aS [1,2,3,4,5,6,7,8,9,10,11,12]) ?_)
  refine f_ U<|KK Eq<|aq fun _ E1=>WS fun _ FS=>rP 2 [] mn ?_
  refine RK FS<|cG U (bB fun J=>?_) (bx fun J=>?_)
  ·refine WS fun _ Fd=>rP 2 [] mn ?_
   refine RK Fd<|av<|LX hQ (false,0,none,0,[]) [] [] mn U (by rfl) U U ?_
   (exact ⟨zK,fun _=>⟨rfl,fun q=>by exact J ((q.gM ht (aQ D)).2 d (aQ hd))⟩⟩)
  refine WK E1<|ay<|rP 2 [] (mc 0 U mn) ?_
  refine eJ (xs:=[.tmp 133]) (cs:=(ag.cells (pS r.ak d))) U lU ej U U U U (by simp [Value.cells,ag.bf]) U U fun Os=>?_
  refine dR (es2:=(List.map ag.cells ((ht.take (j+1)).map (gr r.ak)))) (m':=((ht.take (j+1)).map (gr r.ak)).length) 13 U U U Gu U U sm (br (es:=List.map ag.cells [(pS r.ak d)]) 0 U U (by simp [ag.bf]) U) (lI _) (by simp only [List.length_map,List.length_take]; omega) (by simp only [maxLen,List.length_map,List.length_take]; omega) (by rw [List.take_add_one,hd]; simp [Km J]) sq U fun J1 J3=>?_
  try dsimp only
  refine bG 1 U<|aJ<|aO<|KK EQ<|ay<|rP 3 [] mn ?_
  refine aJ ?_
  have ID:(vI (((j+1):Nat):Int))=(vI ((j:Int)+1)):=by exact cI I
  refine bj (m ⟨((j+1),J1,J3),⟨I,w5 G hd J⟩⟩ _ _ _ U os (cQ 5<|bk U ID<|dx.nil _) (aS [2,3,4,5,6,7,8,9,10,11,12,13]))
 refine WK s<|aq fun _ AA=>aG<|aq fun _ V=>aq fun _ K=>dy cy 36 kr<|dP 3 [] (mc 0 U mn) ?_
 obtain ⟨y,hy⟩:=aM r.aY i I
 have In:=bQ iC hy
 refine dS (IA i U (aF 5 U) dJ dc I I)<|dS (hP i 0 (vI y) U cf (aF 5 U) In U dc U)<|dS (CL (pN y 0 9999) (aN) U)<|dP 2 [] mn ?_
 refine iu (t:=51) U (bB fun K0=>?_) (bx fun K0=>?_)
 ·refine lP 28 U<|cO<|RK K<|aU U<|WS fun _ w=>rP 2 [] mn ?_
  refine RK w<|av<|LX hQ (false,0,none,0,[]) [] [] mn U (by rfl) U U ?_
  (exact ⟨zK,fun _=>⟨rfl,fun q=>by have S:=(q.ids i y hy).1; omega⟩⟩)
 refine dP 3 [] mn ?_
 refine j0 (t:=54) U (aW fun K4=>?_) (aV fun K4=>?_)
 ·refine dP 18 [] (mc 0 U mn) ?_
  obtain ⟨x,hx⟩:=aM r.b_ i I
  have M:=bQ iC hx
  refine dS (IA i U (aF 6 U) dJ dc I I)<|dS (hP i 0 (vI x) U cf (aF 6 U) M U dc U)<|lP 2 U<|dS (CL (pN x 0 ((r.aY.length:Int)-1)) (aN) U)<|dP 2 [] mn ?_
  refine cO<|RK K<|cG U (bB fun Y=>?_) (bx fun Y=>?_)
  ·refine WS fun _ A3=>rP 2 [] mn ?_
   refine RK A3<|av<|LX hQ (false,0,none,0,[]) [] [] mn U (by rfl) U U ?_
   (exact ⟨zK,fun _=>⟨rfl,fun q=>by have S:=q.Kc hx; omega⟩⟩)
  refine WK V<|WS fun _ A4=>rP 1 [] mn ?_
  refine RK A4<|aG ?_
  have A:(0≤i)∧(∀ (q:Nat) y,q<0→r.b_[q]? =some y→y≠x):=by exact ⟨Nat.zero_le _,fun q y hq=>absurd hq (Nat.not_lt_zero _)⟩
  refine bS (ι:={z:Nat // (z≤i)∧(∀ (q:Nat) y,q<z→r.b_[q]? =some y→y≠x)}) [1,4,5] [0,1,2,3,4,5,6,7,8] U U (fun z=>[(6,(vI (z.1:Int)))]) (fun z=>[]) (fun _=>rfl) (fun _=>rfl) (fun z=>i-z.1) ⟨0,A⟩ (bw U) (aS [0,1,2,3,4,5,6,7,8]) ?_
  clear A
  rintro ⟨k,⟨O,B⟩⟩ J34 g
  try dsimp only
  refine aq fun _ A5=>WS fun _ A6=>rP 3 [] mn ?_
  refine RK A6<|bV U (aW fun J8=>?_) (aV fun J8=>?_)
  ·refine bL<|ai<|ai<|aI<|aO<|KK AA<|ay<|rP 3 [] mn ?_
   refine aJ ?_
   have H1:(vI (((i+1):Nat):Int))=(vI ((i:Int)+1)):=by exact cI I
   refine bj (T ⟨(i+1),⟨I,B8 AB (fun a ha=>by rw [hy] at ha; cases ha; exact ⟨I,fun b hb hc=>by omega⟩) (fun a ha=>by rw [hx] at ha; cases ha; exact ⟨I,fun k b hk hb=>B k b I hb⟩)⟩⟩ _ _ _ rfl os (dx.cons rfl<|dx.cons rfl<|bk rfl H1<|dx.nil _) (aS [0,1,2,3,4,5,6,7,8]))
  refine WK A5<|aq fun _ A7=>aG<|aq fun _ A8=>dy cy 11 kr<|dP 3 [] (mc 0 U mn) ?_
  obtain ⟨u,hu⟩:=aM r.b_ k I
  have Z:=bQ iC hu
  refine dS (IA k U (aF 6 U) dJ dc I I)<|dS (hP k 0 (vI u) U cf (aF 6 U) Z U dc U)<|mz 3 [] (mc 0 U mn) U<|dS (IA i U (aF 6 U) dJ dc I I)<|dS (hP i 0 (vI x) U cf (aF 6 U) M U dc U)<|dP 1 [] mn ?_
  refine cO<|RK A8<|bV U (aW fun L=>?_) (aV fun L=>?_)
  ·refine cx<|aO<|KK A7<|ay<|rP 3 [] mn ?_
   refine aJ ?_
   have Hi:(vI (((k+1):Nat):Int))=(vI ((k:Int)+1)):=by exact cI I
   refine bj (g ⟨(k+1),⟨I,zl B hu L⟩⟩ _ _ _ U os (cQ 3<|bk U Hi<|dx.nil _) (aS [0,1,2,3,4,5,6,7,8]))
  refine WS fun _ A9=>rP 2 [] mn ?_
  refine RK A9<|av<|LX hQ (false,0,none,0,[]) [] [] mn U (by rfl) U U ?_
  (exact ⟨zK,fun _=>⟨rfl,fun q=>by have S:=q.num; have q2:=q.BE; have q3:=q.nh; have q4:=q.AR; omega⟩⟩)
 refine mz 3 [] (mc 0 U mn) U<|dS (IA i U (aF 5 U) dJ dc I I)<|dS (hP i 0 (vI y) U cf (aF 5 U) In U dc U)<|dP 4 [] (mc 0 U mn) ?_
 obtain ⟨z,hz⟩:=aM r.aY (i-1) I
 have M2:=bQ iC hz
 refine dS (IA (i-1) U (aF 5 U) dJ dc I I)<|dS (hP (i-1) 0 (vI z) U cf (aF 5 U) M2 U dc U)<|dP 4 [] mn ?_
 refine iu (t:=69) U (aV fun K8=>?_) (aW fun K8=>?_)
 ·refine lP 10 U<|cO<|RK K<|aU U<|WS fun _ AC=>rP 2 [] mn ?_
  refine RK AC<|av<|LX hQ (false,0,none,0,[]) [] [] mn U (by rfl) U U ?_
  (exact ⟨zK,fun _=>⟨rfl,fun q=>by have S:=(q.ids i y hy).2 z I hz; omega⟩⟩)
 refine dP 3 [] (mc 0 U mn) ?_
 obtain ⟨x,hx⟩:=aM r.b_ i I
 have M:=bQ iC hx
 refine dS (IA i U (aF 6 U) dJ dc I I)<|dS (hP i 0 (vI x) U cf (aF 6 U) M U dc U)<|lP 2 U<|dS (CL (pN x 0 ((r.aY.length:Int)-1)) (aN) U)<|dP 2 [] mn ?_
 refine cO<|RK K<|cG U (bB fun Y=>?_) (bx fun Y=>?_)
 ·refine WS fun _ AD=>rP 2 [] mn ?_
  refine RK AD<|av<|LX hQ (false,0,none,0,[]) [] [] mn U (by rfl) U U ?_
  (exact ⟨zK,fun _=>⟨rfl,fun q=>by have S:=q.Kc hx; omega⟩⟩)
 refine WK V<|WS fun _ AO=>rP 1 [] mn ?_
 refine RK AO<|aG ?_
 have A:(0≤i)∧(∀ (q:Nat) y,q<0→r.b_[q]? =some y→y≠x):=by exact ⟨Nat.zero_le _,fun q y hq=>absurd hq (Nat.not_lt_zero _)⟩
 refine bS (ι:={z:Nat // (z≤i)∧(∀ (q:Nat) y,q<z→r.b_[q]? =some y→y≠x)}) [1,4,5] [0,1,2,3,4,5,6,7,8] U U (fun z=>[(6,(vI (z.1:Int)))]) (fun z=>[]) (fun _=>rfl) (fun _=>rfl) (fun z=>i-z.1) ⟨0,A⟩ (bw U) (aS [0,1,2,3,4,5,6,7,8]) ?_
 clear A
 rintro ⟨k,⟨O,B⟩⟩ J23 f
 try dsimp only
 refine aq fun _ AY=>WS fun _ Ae=>rP 3 [] mn ?_
 refine RK Ae<|bV U (aW fun X=>?_) (aV fun X=>?_)
 ·refine bL<|ai<|ai<|aI<|aO<|KK AA<|ay<|rP 3 [] mn ?_
  refine aJ ?_
  have Gq:(vI (((i+1):Nat):Int))=(vI ((i:Int)+1)):=by exact cI I
  refine bj (T ⟨(i+1),⟨I,B8 AB (fun a ha=>by rw [hy] at ha; cases ha; exact ⟨I,fun b hb hc=>by (rw [hz] at hc; cases hc; omega)⟩) (fun a ha=>by rw [hx] at ha; cases ha; exact ⟨I,fun k b hk hb=>B k b I hb⟩)⟩⟩ _ _ _ rfl os (dx.cons rfl<|dx.cons rfl<|bk rfl Gq<|dx.nil _) (aS [0,1,2,3,4,5,6,7,8]))
 refine WK AY<|aq fun _ A0=>aG<|aq fun _ A1=>dy cy 11 kr<|dP 3 [] (mc 0 U mn) ?_
 obtain ⟨u,hu⟩:=aM r.b_ k I
 have Z:=bQ iC hu
 refine dS (IA k U (aF 6 U) dJ dc I I)<|dS (hP k 0 (vI u) U cf (aF 6 U) Z U dc U)<|mz 3 [] (mc 0 U mn) U<|dS (IA i U (aF 6 U) dJ dc I I)<|dS (hP i 0 (vI x) U cf (aF 6 U) M U dc U)<|dP 1 [] mn ?_
 refine cO<|RK A1<|bV U (aW fun L=>?_) (aV fun L=>?_)
 ·refine cx<|aO<|KK A0<|ay<|rP 3 [] mn ?_
  refine aJ ?_
  have Go:(vI (((k+1):Nat):Int))=(vI ((k:Int)+1)):=by exact cI I
  refine bj (f ⟨(k+1),⟨I,zl B hu L⟩⟩ _ _ _ U os (cQ 3<|bk U Go<|dx.nil _) (aS [0,1,2,3,4,5,6,7,8]))
 refine WS fun _ A2=>rP 2 [] mn ?_
 refine RK A2<|av<|LX hQ (false,0,none,0,[]) [] [] mn U (by rfl) U U ?_
 (exact ⟨zK,fun _=>⟨rfl,fun q=>by exact q.RU I hu hx L⟩⟩)
end
section
open Go.RowKit
theorem Hr (r:dY) (kA:OA) (kC:Nat) (az:List RA) (cA:OA) (cC:Nat) (bA:OA) (bC:Nat) (slA:OA) (slC:Nat) (drA:OA) (drC:Nat) (ha:List cN) (heA:OA) (heC:Nat) (hin:lO r az ha):
 qB Tryz.prog 76 [(vA (fu.cells (zH r kA kC cA cC bA bC slA slC drA drC heA heC)))] [(rd kA r.ak.aR.length 9 (r.ak.aR.map ar.cells)),(rd cA r.ak.aj.length 2 (List.zipWith ax.cells r.ak.aj az)),(dV (a_ ax.gG r.ak.aj az)),(rd bA r.ak.ab.length 4 (r.ak.ab.map bJ.cells)),(rd slA r.aY.length 1 (r.aY.map iC)),(rd drA r.b_.length 1 (r.b_.map iC)),(rd heA r.aA.length 1 (List.zipWith cq r.aA ha)),(dV (a_ eV r.aA ha))] (fun (x:Bool×Int×(OA)×Nat×(List RA))=>bif x.1 then (vT [(vS x.2.2.1 ((gn r).length) x.2.2.2.1),(vI 0)]) else (vT [(vS none 0 0),(vI x.2.1)])) (fun (x:Bool×Int×(OA)×Nat×(List RA))=>(x.1=true→(il r=0∧x.2.2.2.2.length=r.aA.length))∧(x.1=false→(x.2.1=il r∧ ¬ il r=0))) (fun (x:Bool×Int×(OA)×Nat×(List RA))=>bif x.1 then [(own x.2.2.1 x.2.2.2.1 204 1 (List.zipWith OK (gn r) x.2.2.2.2)),(bK (a_ GV (gn r) x.2.2.2.2))] else []):=by
 have AA:=hin.line
 have b:=hin.iJ
 have c:=hin.has
 have Z:=hin.iK
 have Y:=hin.draw
 have a:=kJ (r:=r)
 refine fO kr Tryz.func76 U U fun f Q hQ hN=>?_
 try dsimp only
 refine WS fun _ O=>eT U fun e=>bG 2 U<|RK O<|aq fun _ P=>WS fun _ R=>bG 1 U<|rS (LP (cw.cells (kj r.ak kA kC cA cC bA bC)) 0 U cf U U U)<|rS (CL (Cu r.ak kA kC az cA cC bA bC asm) (bq [1,2,3,4]) U)<|bG 1 U<|RK R<|WS fun _ S=>rP 2 [] mn ?_
 refine RK S<|cG U (bB fun A=>?_) (bx fun A=>?_)
 ·refine WS fun _ T=>rP 3 [] mn ?_
  refine RK T<|av<|LX hQ (false,(dw r.ak),none,0,[]) [] [] mn U (by rfl) U U ?_
  exact xJ<|FP (zU A) A
 refine WK P<|WS fun _ G=>rP 1 [] (mc 0 U mn) ?_
 refine cX (Fi r kA kC az cA cC bA bC slA slC drA drC ha heA heC hin (by exact A)) (bq [1,2,3,4,5,6,7,8]) U fun d J=>?_
 obtain ⟨K,W,L,M,N⟩:=d
 cases K
 rotate_left 1
 ·obtain ⟨AB,V⟩:=J.1 rfl
  try dsimp only [cond_true,cond_false,List.cons_append,List.nil_append]
  refine bG 5 U<|RK G<|aq fun _ D=>WS fun _ E=>bG 2 U<|RK E<|ct U<|WK D<|WS fun _ F=>rP 3 [] mn ?_
  refine RK F<|av ?_
  refine LX hQ (true,0,L,M,N) [0,1] [] mn U (by (show List.all _ _=true; simp only [cond_true,fE,List.all_nil,E5,Bool.and_true]; rfl)) U U ?_
  exact ⟨fun _=>⟨D0 A AB,V⟩,Su⟩
 obtain ⟨H,he⟩:=J.2 rfl
 try dsimp only at H he
 subst H
 try dsimp only [cond_true,cond_false,List.cons_append,List.nil_append]
 refine bG 5 U<|RK G<|aq fun _ X=>WS fun _ B=>bG 2 U<|RK B<|aU U<|WS fun _ C=>rP 2 [] mn ?_
 refine RK C<|av<|LX hQ (false,60,none,0,[]) [] [] mn U (by rfl) U U ?_
 exact xJ<|oP (lE A he)
end
section
open Go.RowKit
theorem IM (r:dY) (kA:OA) (kC:Nat) (az:List RA) (cA:OA) (cC:Nat) (bA:OA) (bC:Nat) (slA:OA) (slC:Nat) (drA:OA) (drC:Nat) (ha:List cN) (heA:OA) (heC:Nat) (hin:lO r az ha):
 dN Tryz.prog 50 [(vA (fu.cells (zH r kA kC cA cC bA bC slA slC drA drC heA heC)))] [(rd kA r.ak.aR.length 9 (r.ak.aR.map ar.cells)),(rd cA r.ak.aj.length 2 (List.zipWith ax.cells r.ak.aj az)),(dV (a_ ax.gG r.ak.aj az)),(rd bA r.ak.ab.length 4 (r.ak.ab.map bJ.cells)),(rd slA r.aY.length 1 (r.aY.map iC)),(rd drA r.b_.length 1 (r.b_.map iC)),(rd heA r.aA.length 1 (List.zipWith cq r.aA ha)),(dV (a_ eV r.aA ha))] (vI (il r)):=by
 have H:=hin.line
 have M:=hin.iJ
 have N:=hin.has
 have J:=hin.iK
 have AB:=hin.draw
 have K:=kJ (r:=r)
 refine bH kr Tryz.func50 U U fun V Q hQ hN=>?_
 try dsimp only
 refine WS fun _ G=>eT U fun AA=>bG 1 U<|RK G<|WS fun _ C=>rP 1 [] (mc 0 U mn) ?_
 refine cX (Hr r kA kC az cA cC bA bC slA slC drA drC ha heA heC hin) (bq [1,2,3,4,5,6,7,8]) U fun T E=>?_
 obtain ⟨F,L,P,R,S⟩:=T
 cases F
 rotate_left 1
 ·obtain ⟨he,O⟩:=E.1 rfl
  try dsimp only [cond_true,cond_false,List.cons_append,List.nil_append]
  refine bG 5 U<|RK C<|WS fun _ B=>rP 2 [] mn ?_
  refine RK B<|av<|Q1 hQ U U U ?_
  first|rfl|(rw [he])
 obtain ⟨D,he⟩:=E.2 rfl
 try dsimp only at D he
 subst D
 try dsimp only [cond_true,cond_false,List.cons_append,List.nil_append]
 refine bG 5 U<|RK C<|WS fun _ A=>rP 2 [] mn ?_
 refine RK A<|av<|Q1 hQ U U U ?_
 first|rfl|(rw [he])
end
section
open Go.RowKit
theorem It (j:cR) (kA:OA) (kC:Nat) (az:List RA) (cA:OA) (cC:Nat) (bA:OA) (bC:Nat) (slA:OA) (slC:Nat) (drA:OA) (drC:Nat) (ha:List cN) (heA:OA) (heC:Nat) (faA:OA) (faC:Nat) (prA:OA) (prC:Nat) (hin:gY j az ha) (hjr:il j.Race=0):
 dN Tryz.prog 51 [(vA (eD.cells (nN j kA kC cA cC bA bC slA slC drA drC heA heC faA faC prA prC)))] [(rd kA j.Race.ak.aR.length 9 (j.Race.ak.aR.map ar.cells)),(rd cA j.Race.ak.aj.length 2 (List.zipWith ax.cells j.Race.ak.aj az)),(dV (a_ ax.gG j.Race.ak.aj az)),(rd bA j.Race.ak.ab.length 4 (j.Race.ak.ab.map bJ.cells)),(rd slA j.Race.aY.length 1 (j.Race.aY.map iC)),(rd drA j.Race.b_.length 1 (j.Race.b_.map iC)),(rd heA j.Race.aA.length 1 (List.zipWith cq j.Race.aA ha)),(dV (a_ eV j.Race.aA ha)),(rd faA j.aC.length 4 (j.aC.map aL.cells)),(rd prA j.aw.length 5 (j.aw.map aT.cells))] (vB (decide (qn j))):=by
 have n:=hin.race
 have M2:=hin.race.line
 have Qr:=hin.race.iJ
 have Q4:=hin.race.has
 have Or:=hin.race.iK
 have OY:=hin.nf
 have Op:=hin.np
 have Q5:=(d_ hjr).1
 have If:=(d_ hjr).2
 refine bH kr Tryz.func51 U U fun w0 Q hQ hN=>?_
 try dsimp only
 refine WS fun _ Lk=>eT U fun b2=>bG 1 U<|RK Lk<|aq fun _ Lo=>WS fun _ a=>rP 5 [] (mc 0 U mn) ?_
 refine cg (t:=12) U (aV fun h5=>?_) (aW fun h5=>?_)
 ·refine bG 17 U<|RK a<|aU U<|WS fun _ L0=>rP 1 [] mn ?_
  refine RK L0<|av<|Q1 hQ U U U ?_
  first|exact cB (bI (fun q=>by have C:=q.nf; have H:=q.min_; have J:=q.ui; have K:=q.np; omega)).symm|exact cB (bI (fun q=>by have C:=q.fault f (aQ hf); unfold fh at C; split at C<;>omega)).symm|exact cB (bI (fun q=>by have A:=q.hE _ p hp; have C:=A.id; have H:=A.l7; have J:=A.gM; have K:=A.fault; simp only [qS] at H; first|omega|(have V:=A.up AA I L; omega))).symm|exact cB (bI (fun q=>by obtain ⟨R,G,AB,T⟩:=(q.hE _ p hp).jL; rw [F] at G; cases G; first|exact E AB|exact h148 AB|omega)).symm|exact cB (dM ⟨I,dZ D I,I,I,I,fun i p hi=>B i p (by have:=(aX.1 hi).1; omega) hi⟩).symm
 refine fD 2 [] (mc 0 U mn) U<|rS (CL (jA j.eh 0 60) (aN) U)<|rP 3 [] mn ?_
 refine cg (t:=18) U (bB fun h7=>?_) (bx fun h7=>?_)
 ·refine bG 11 U<|RK a<|aU U<|WS fun _ L2=>rP 1 [] mn ?_
  refine RK L2<|av<|Q1 hQ U U U ?_
  first|exact cB (bI (fun q=>by have C:=q.nf; have H:=q.min_; have J:=q.ui; have K:=q.np; omega)).symm|exact cB (bI (fun q=>by have C:=q.fault f (aQ hf); unfold fh at C; split at C<;>omega)).symm|exact cB (bI (fun q=>by have A:=q.hE _ p hp; have C:=A.id; have H:=A.l7; have J:=A.gM; have K:=A.fault; simp only [qS] at H; first|omega|(have V:=A.up AA I L; omega))).symm|exact cB (bI (fun q=>by obtain ⟨R,G,AB,T⟩:=(q.hE _ p hp).jL; rw [F] at G; cases G; first|exact E AB|exact h148 AB|omega)).symm|exact cB (dM ⟨I,dZ D I,I,I,I,fun i p hi=>B i p (by have:=(aX.1 hi).1; omega) hi⟩).symm
 refine fD 2 [] (mc 0 U mn) U<|rS (CL (jA j.xA 0 100000) (aN) U)<|rP 3 [] mn ?_
 refine cg (t:=24) U (bB fun h9=>?_) (bx fun h9=>?_)
 ·refine bG 5 U<|RK a<|aU U<|WS fun _ s=>rP 1 [] mn ?_
  refine RK s<|av<|Q1 hQ U U U ?_
  first|exact cB (bI (fun q=>by have C:=q.nf; have H:=q.min_; have J:=q.ui; have K:=q.np; omega)).symm|exact cB (bI (fun q=>by have C:=q.fault f (aQ hf); unfold fh at C; split at C<;>omega)).symm|exact cB (bI (fun q=>by have A:=q.hE _ p hp; have C:=A.id; have H:=A.l7; have J:=A.gM; have K:=A.fault; simp only [qS] at H; first|omega|(have V:=A.up AA I L; omega))).symm|exact cB (bI (fun q=>by obtain ⟨R,G,AB,T⟩:=(q.hE _ p hp).jL; rw [F] at G; cases G; first|exact E AB|exact h148 AB|omega)).symm|exact cB (dM ⟨I,dZ D I,I,I,I,fun i p hi=>B i p (by have:=(aX.1 hi).1; omega) hi⟩).symm
 refine rP 5 [] (mc 0 U mn) ?_
 refine RK a<|cG U (aV fun JJ=>?_) (aW fun JJ=>?_)
 ·refine WS fun _ u=>rP 1 [] mn ?_
  refine RK u<|av<|Q1 hQ U U U ?_
  first|exact cB (bI (fun q=>by have C:=q.nf; have H:=q.min_; have J:=q.ui; have K:=q.np; omega)).symm|exact cB (bI (fun q=>by have C:=q.fault f (aQ hf); unfold fh at C; split at C<;>omega)).symm|exact cB (bI (fun q=>by have A:=q.hE _ p hp; have C:=A.id; have H:=A.l7; have J:=A.gM; have K:=A.fault; simp only [qS] at H; first|omega|(have V:=A.up AA I L; omega))).symm|exact cB (bI (fun q=>by obtain ⟨R,G,AB,T⟩:=(q.hE _ p hp).jL; rw [F] at G; cases G; first|exact E AB|exact h148 AB|omega)).symm|exact cB (dM ⟨I,dZ D I,I,I,I,fun i p hi=>B i p (by have:=(aX.1 hi).1; omega) hi⟩).symm
 refine WK Lo<|aq fun _ v=>WS fun _ w=>rP 1 [] mn ?_
 refine RK w<|aG ?_
 have S:(0≤j.aC.length)∧(pY j 0):=by exact ⟨Nat.zero_le _,B0⟩
 refine bS (ι:={z:Nat // (z≤j.aC.length)∧(pY j z)}) [1] [0,1,2,3,4,5,6,7,8,9,10] U U (fun z=>[(3,(vI (z.1:Int)))]) (fun z=>[]) (fun _=>rfl) (fun _=>rfl) (fun z=>j.aC.length-z.1) ⟨0,S⟩ (bw U) (aS [0,1,2,3,4,5,6,7,8,9,10]) ?_
 clear S
 rintro ⟨i,⟨Mn,D⟩⟩ J15 W
 try dsimp only
 refine aq fun _ x=>WS fun _ y=>rP 5 [] (mc 0 U mn) ?_
 refine RK y<|cG U (aV fun JR=>?_) (aW fun JR=>?_)
 ·refine WK x<|aq fun _ X=>aG<|WS fun _ AC=>rP 3 [] (mc 0 U mn) ?_
  obtain ⟨f,hf⟩:=aM j.aC i I
  have L3:=bQ aL.cells hf
  refine rS (IA i U (aF 9 U) vV dc I I)<|rS (mq i 0 (aL.cells f) U cf (aF 9 U) L3 U dc U U)<|AL U QK fun Os=>gl U TO U<|RK AC<|aq fun _ AD=>WS fun _ c=>fD 4 [] (mc 0 U mn) U<|rS (CL (jA f.gI 0 f.To) (aN) U)<|rP 2 [] mn ?_
  refine cg (t:=48) U (bB fun J1=>?_) (bx fun J1=>?_)
  ·refine bG 4 U<|RK c<|aU U<|WS fun _ AO=>rP 1 [] mn ?_
   refine RK AO<|av<|Q1 hQ U U U ?_
   first|exact cB (bI (fun q=>by have C:=q.nf; have H:=q.min_; have J:=q.ui; have K:=q.np; omega)).symm|exact cB (bI (fun q=>by have C:=q.fault f (aQ hf); unfold fh at C; split at C<;>omega)).symm|exact cB (bI (fun q=>by have A:=q.hE _ p hp; have C:=A.id; have H:=A.l7; have J:=A.gM; have K:=A.fault; simp only [qS] at H; first|omega|(have V:=A.up AA I L; omega))).symm|exact cB (bI (fun q=>by obtain ⟨R,G,AB,T⟩:=(q.hE _ p hp).jL; rw [F] at G; cases G; first|exact E AB|exact h148 AB|omega)).symm|exact cB (dM ⟨I,dZ D I,I,I,I,fun i p hi=>B i p (by have:=(aX.1 hi).1; omega) hi⟩).symm
  refine rP 4 [] (mc 0 U mn) ?_
  refine RK c<|cG U (aV fun J2=>?_) (aW fun J2=>?_)
  ·refine WS fun _ AR=>rP 1 [] mn ?_
   refine RK AR<|av<|Q1 hQ U U U ?_
   first|exact cB (bI (fun q=>by have C:=q.nf; have H:=q.min_; have J:=q.ui; have K:=q.np; omega)).symm|exact cB (bI (fun q=>by have C:=q.fault f (aQ hf); unfold fh at C; split at C<;>omega)).symm|exact cB (bI (fun q=>by have A:=q.hE _ p hp; have C:=A.id; have H:=A.l7; have J:=A.gM; have K:=A.fault; simp only [qS] at H; first|omega|(have V:=A.up AA I L; omega))).symm|exact cB (bI (fun q=>by obtain ⟨R,G,AB,T⟩:=(q.hE _ p hp).jL; rw [F] at G; cases G; first|exact E AB|exact h148 AB|omega)).symm|exact cB (dM ⟨I,dZ D I,I,I,I,fun i p hi=>B i p (by have:=(aX.1 hi).1; omega) hi⟩).symm
  refine WK AD<|WS fun _ AY=>fD 2 [] (mc 0 U mn) U<|RK AY<|aG<|WS fun _ Ae=>rS (BI U nP)<|rP 1 [] mn ?_
  refine RK Ae<|cG U (aV fun J3=>?_) (aW fun J3=>?_)
  ·refine WS fun _ A0=>rP 3 [] (mc 0 U mn) ?_
   refine RK A0<|bV U (bx fun J4=>?_) (bB fun J4=>?_)
   ·refine cx<|aO<|aO<|KK X<|ay<|rP 3 [] mn ?_
    refine aJ ?_
    have Go:(vI (((i+1):Nat):Int))=(vI ((i:Int)+1)):=by exact cI I
    refine bj (W ⟨(i+1),⟨I,rF D hf (by refine ⟨I,I,I,?_⟩; split<;>omega)⟩⟩ _ _ _ U os (dx.cons U<|bk U Go<|dx.nil _) (aS [1,2,3,4,5,6,7,8,9,10,11]))
   refine WS fun _ A1=>rP 1 [] mn ?_
   refine RK A1<|av<|Q1 hQ U U U ?_
   first|exact cB (bI (fun q=>by have C:=q.nf; have H:=q.min_; have J:=q.ui; have K:=q.np; omega)).symm|exact cB (bI (fun q=>by have C:=q.fault f (aQ hf); unfold fh at C; split at C<;>omega)).symm|exact cB (bI (fun q=>by have A:=q.hE _ p hp; have C:=A.id; have H:=A.l7; have J:=A.gM; have K:=A.fault; simp only [qS] at H; first|omega|(have V:=A.up AA I L; omega))).symm|exact cB (bI (fun q=>by obtain ⟨R,G,AB,T⟩:=(q.hE _ p hp).jL; rw [F] at G; cases G; first|exact E AB|exact h148 AB|omega)).symm|exact cB (dM ⟨I,dZ D I,I,I,I,fun i p hi=>B i p (by have:=(aX.1 hi).1; omega) hi⟩).symm
  refine aq fun _ e=>WS fun _ A2=>rS (BI U nP)<|rP 1 [] mn ?_
  refine RK A2<|cG U (aV fun J5=>?_) (aW fun J5=>?_)
  ·refine WK e<|bV U (aW fun J6=>?_) (aV fun J6=>?_)
   ·refine WS fun _ A5=>rP 1 [] mn ?_
    refine RK A5<|av<|Q1 hQ U U U ?_
    first|exact cB (bI (fun q=>by have C:=q.nf; have H:=q.min_; have J:=q.ui; have K:=q.np; omega)).symm|exact cB (bI (fun q=>by have C:=q.fault f (aQ hf); unfold fh at C; split at C<;>omega)).symm|exact cB (bI (fun q=>by have A:=q.hE _ p hp; have C:=A.id; have H:=A.l7; have J:=A.gM; have K:=A.fault; simp only [qS] at H; first|omega|(have V:=A.up AA I L; omega))).symm|exact cB (bI (fun q=>by obtain ⟨R,G,AB,T⟩:=(q.hE _ p hp).jL; rw [F] at G; cases G; first|exact E AB|exact h148 AB|omega)).symm|exact cB (dM ⟨I,dZ D I,I,I,I,fun i p hi=>B i p (by have:=(aX.1 hi).1; omega) hi⟩).symm
   refine WS fun _ A3=>fD 6 [0,1] (mc 0 U (mc 1 U mn)) U<|rS (CL (jA f.eW 0 j.Race.ak.bM) (aN) U)<|rP 1 [] mn ?_
   refine RK A3<|bV U (bx fun J7=>?_) (bB fun J7=>?_)
   ·refine cx<|aO<|aO<|KK X<|ay<|rP 3 [] mn ?_
    refine aJ ?_
    have Gq:(vI (((i+1):Nat):Int))=(vI ((i:Int)+1)):=by exact cI I
    refine bj (W ⟨(i+1),⟨I,rF D hf (by refine ⟨I,I,I,?_⟩; split<;>omega)⟩⟩ _ _ _ U os (dx.cons U<|bk U Gq<|dx.nil _) (aS [1,2,3,4,5,6,7,8,9,10,11]))
   refine WS fun _ A4=>rP 1 [] mn ?_
   refine RK A4<|av<|Q1 hQ U U U ?_
   first|exact cB (bI (fun q=>by have C:=q.nf; have H:=q.min_; have J:=q.ui; have K:=q.np; omega)).symm|exact cB (bI (fun q=>by have C:=q.fault f (aQ hf); unfold fh at C; split at C<;>omega)).symm|exact cB (bI (fun q=>by have A:=q.hE _ p hp; have C:=A.id; have H:=A.l7; have J:=A.gM; have K:=A.fault; simp only [qS] at H; first|omega|(have V:=A.up AA I L; omega))).symm|exact cB (bI (fun q=>by obtain ⟨R,G,AB,T⟩:=(q.hE _ p hp).jL; rw [F] at G; cases G; first|exact E AB|exact h148 AB|omega)).symm|exact cB (dM ⟨I,dZ D I,I,I,I,fun i p hi=>B i p (by have:=(aX.1 hi).1; omega) hi⟩).symm
  refine ay<|rS (BI U nP)<|rP 1 [] mn ?_
  refine RK e<|bV U (aW fun J8=>?_) (aV fun J8=>?_)
  ·refine WS fun _ A8=>rP 1 [] mn ?_
   refine RK A8<|av<|Q1 hQ U U U ?_
   first|exact cB (bI (fun q=>by have C:=q.nf; have H:=q.min_; have J:=q.ui; have K:=q.np; omega)).symm|exact cB (bI (fun q=>by have C:=q.fault f (aQ hf); unfold fh at C; split at C<;>omega)).symm|exact cB (bI (fun q=>by have A:=q.hE _ p hp; have C:=A.id; have H:=A.l7; have J:=A.gM; have K:=A.fault; simp only [qS] at H; first|omega|(have V:=A.up AA I L; omega))).symm|exact cB (bI (fun q=>by obtain ⟨R,G,AB,T⟩:=(q.hE _ p hp).jL; rw [F] at G; cases G; first|exact E AB|exact h148 AB|omega)).symm|exact cB (dM ⟨I,dZ D I,I,I,I,fun i p hi=>B i p (by have:=(aX.1 hi).1; omega) hi⟩).symm
  refine WS fun _ A6=>fD 6 [0,1] (mc 0 U (mc 1 U mn)) U<|rS (CL (jA f.eW 0 j.Race.ak.bM) (aN) U)<|rP 1 [] mn ?_
  refine RK A6<|bV U (bx fun J9=>?_) (bB fun J9=>?_)
  ·refine cx<|aO<|aO<|KK X<|ay<|rP 3 [] mn ?_
   refine aJ ?_
   have Hi:(vI (((i+1):Nat):Int))=(vI ((i:Int)+1)):=by exact cI I
   refine bj (W ⟨(i+1),⟨I,rF D hf (by refine ⟨I,I,I,?_⟩; split<;>omega)⟩⟩ _ _ _ U os (dx.cons U<|bk U Hi<|dx.nil _) (aS [1,2,3,4,5,6,7,8,9,10,11]))
  refine WS fun _ A7=>rP 1 [] mn ?_
  refine RK A7<|av<|Q1 hQ U U U ?_
  first|exact cB (bI (fun q=>by have C:=q.nf; have H:=q.min_; have J:=q.ui; have K:=q.np; omega)).symm|exact cB (bI (fun q=>by have C:=q.fault f (aQ hf); unfold fh at C; split at C<;>omega)).symm|exact cB (bI (fun q=>by have A:=q.hE _ p hp; have C:=A.id; have H:=A.l7; have J:=A.gM; have K:=A.fault; simp only [qS] at H; first|omega|(have V:=A.up AA I L; omega))).symm|exact cB (bI (fun q=>by obtain ⟨R,G,AB,T⟩:=(q.hE _ p hp).jL; rw [F] at G; cases G; first|exact E AB|exact h148 AB|omega)).symm|exact cB (dM ⟨I,dZ D I,I,I,I,fun i p hi=>B i p (by have:=(aX.1 hi).1; omega) hi⟩).symm
 refine bL<|ai<|ai<|aI<|KK v<|aq fun _ A9=>WS fun _ BE=>rP 1 [] mn ?_
 refine RK BE<|aG ?_
 have S:(0≤j.aw.length)∧(o8 j 0):=by exact ⟨Nat.zero_le _,y_⟩
 refine bS (ι:={z:Nat // (z≤j.aw.length)∧(o8 j z)}) [1] [0,1,2,3,4,5,6,7,8,9,10] U U (fun z=>[(5,(vI (z.1:Int)))]) (fun z=>[]) (fun _=>rfl) (fun _=>rfl) (fun z=>j.aw.length-z.1) ⟨0,S⟩ (bw U) (aS [0,1,2,3,4,5,6,7,8,9,10]) ?_
 clear S
 rintro ⟨k,⟨In,B⟩⟩ J52 b
 try dsimp only
 refine aq fun _ Bc=>WS fun _ B3=>rP 5 [] (mc 0 U mn) ?_
 refine RK B3<|bV U (aW fun Kc=>?_) (aV fun Kc=>?_)
 ·refine bL<|ai<|ai<|aI<|KK A9<|WS fun _ FS=>rP 1 [] mn ?_
  refine RK FS<|av<|Q1 hQ U U U ?_
  first|exact cB (bI (fun q=>by have C:=q.nf; have H:=q.min_; have J:=q.ui; have K:=q.np; omega)).symm|exact cB (bI (fun q=>by have C:=q.fault f (aQ hf); unfold fh at C; split at C<;>omega)).symm|exact cB (bI (fun q=>by have A:=q.hE _ p hp; have C:=A.id; have H:=A.l7; have J:=A.gM; have K:=A.fault; simp only [qS] at H; first|omega|(have V:=A.up AA I L; omega))).symm|exact cB (bI (fun q=>by obtain ⟨R,G,AB,T⟩:=(q.hE _ p hp).jL; rw [F] at G; cases G; first|exact E AB|exact h148 AB|omega)).symm|exact cB (dM ⟨I,dZ D I,I,I,I,fun i p hi=>B i p (by have:=(aX.1 hi).1; omega) hi⟩).symm
 refine WK Bc<|aq fun _ g=>aG<|WS fun _ B9=>rP 3 [] (mc 0 U mn) ?_
 obtain ⟨p,hp⟩:=aM j.aw k I
 have NE:=bQ aT.cells hp
 refine rS (IA k U (aF 10 U) zI dc I I)<|rS (mq k 0 (aT.cells p) U cf (aF 10 U) NE U dc U U)<|AL U O_ fun Ox=>gl U QN U<|RK B9<|aq fun _ h=>aq fun _ P=>dy cy 52 kr<|mz 2 [] (mc 0 U mn) U<|dS (CL (jA p.Id 0 9999) (aN) U)<|dP 2 [] mn ?_
 refine iu (t:=87) U (bB fun Ky=>?_) (bx fun Ky=>?_)
 ·refine lP 47 U<|cO<|RK P<|aU U<|WS fun _ Ci=>rP 1 [] mn ?_
  refine RK Ci<|av<|Q1 hQ U U U ?_
  first|exact cB (bI (fun q=>by have C:=q.nf; have H:=q.min_; have J:=q.ui; have K:=q.np; omega)).symm|exact cB (bI (fun q=>by have C:=q.fault f (aQ hf); unfold fh at C; split at C<;>omega)).symm|exact cB (bI (fun q=>by have A:=q.hE _ p hp; have C:=A.id; have H:=A.l7; have J:=A.gM; have K:=A.fault; simp only [qS] at H; omega)).symm|exact cB (bI (fun q=>by obtain ⟨R,G,AB,T⟩:=(q.hE _ p hp).jL; rw [F] at G; cases G; first|exact E AB|exact h148 AB|omega)).symm|exact cB (dM ⟨I,dZ D I,I,I,I,fun i p hi=>B i p (by have:=(aX.1 hi).1; omega) hi⟩).symm
 refine dP 3 [] mn ?_
 refine j0 (t:=90) U (aW fun K0=>?_) (aV fun K0=>?_)
 ·refine mz 20 [0,1] (mc 0 U (mc 1 U mn)) U<|dS (CL (jA p.iX 0 ((j.Race.aY.length:Int)-1)) (aN) U)<|dP 3 [] mn ?_
  refine iu (t:=114) U (bB fun LE=>?_) (bx fun LE=>?_)
  ·refine lP 20 U<|cO<|RK P<|aU U<|WS fun _ C3=>rP 1 [] mn ?_
   refine RK C3<|av<|Q1 hQ U U U ?_
   first|exact cB (bI (fun q=>by have C:=q.nf; have H:=q.min_; have J:=q.ui; have K:=q.np; omega)).symm|exact cB (bI (fun q=>by have C:=q.fault f (aQ hf); unfold fh at C; split at C<;>omega)).symm|exact cB (bI (fun q=>by have A:=q.hE _ p hp; have C:=A.id; have H:=A.l7; have J:=A.gM; have K:=A.fault; simp only [qS] at H; omega)).symm|exact cB (bI (fun q=>by obtain ⟨R,G,AB,T⟩:=(q.hE _ p hp).jL; rw [F] at G; cases G; first|exact E AB|exact h148 AB|omega)).symm|exact cB (dM ⟨I,dZ D I,I,I,I,fun i p hi=>B i p (by have:=(aX.1 hi).1; omega) hi⟩).symm
  refine mz 7 [0,1] (mc 0 U (mc 1 U mn)) U<|dS (CL (jA p.jo 0 ((j.Race.aA.length:Int)-1)) (aN) U)<|dP 3 [] mn ?_
  refine iu (t:=125) U (bB fun LT=>?_) (bx fun LT=>?_)
  ·refine lP 9 U<|cO<|RK P<|aU U<|WS fun _ Di=>rP 1 [] mn ?_
   refine RK Di<|av<|Q1 hQ U U U ?_
   first|exact cB (bI (fun q=>by have C:=q.nf; have H:=q.min_; have J:=q.ui; have K:=q.np; omega)).symm|exact cB (bI (fun q=>by have C:=q.fault f (aQ hf); unfold fh at C; split at C<;>omega)).symm|exact cB (bI (fun q=>by have A:=q.hE _ p hp; have C:=A.id; have H:=A.l7; have J:=A.gM; have K:=A.fault; simp only [qS] at H; omega)).symm|exact cB (bI (fun q=>by obtain ⟨R,G,AB,T⟩:=(q.hE _ p hp).jL; rw [F] at G; cases G; first|exact E AB|exact h148 AB|omega)).symm|exact cB (dM ⟨I,dZ D I,I,I,I,fun i p hi=>B i p (by have:=(aX.1 hi).1; omega) hi⟩).symm
  refine mz 6 [0,1] (mc 0 U (mc 1 U mn)) U<|dS (CL (jA p.iM 0 ((j.aC.length:Int)-1)) (aN) U)<|dP 2 [] mn ?_
  refine cO<|RK P<|cG U (bB fun La=>?_) (bx fun La=>?_)
  ·refine WS fun _ Do=>rP 1 [] mn ?_
   refine RK Do<|av<|Q1 hQ U U U ?_
   first|exact cB (bI (fun q=>by have C:=q.nf; have H:=q.min_; have J:=q.ui; have K:=q.np; omega)).symm|exact cB (bI (fun q=>by have C:=q.fault f (aQ hf); unfold fh at C; split at C<;>omega)).symm|exact cB (bI (fun q=>by have A:=q.hE _ p hp; have C:=A.id; have H:=A.l7; have J:=A.gM; have K:=A.fault; simp only [qS] at H; omega)).symm|exact cB (bI (fun q=>by obtain ⟨R,G,AB,T⟩:=(q.hE _ p hp).jL; rw [F] at G; cases G; first|exact E AB|exact h148 AB|omega)).symm|exact cB (dM ⟨I,dZ D I,I,I,I,fun i p hi=>B i p (by have:=(aX.1 hi).1; omega) hi⟩).symm
  refine WK h<|aq fun _ EQ=>dT cy [11,12] [] [] [0,1,2,3,4,5,6,7,8,9,10,11] [] U U U U U<|eS U (FA 0 U eP U)<|eS U (FA 10 U eP U)<|eS U (L1 (vS heA j.Race.aA.length heC) 1 U cf U U)<|eS U (FA 2 U eP U)<|eS U (L1 (vI p.jo) 0 U cf U U) ?_
  obtain ⟨ht,O⟩:=aM j.Race.aA ((p.jo).toNat) I
  obtain ⟨M,N⟩:=aM ha ((p.jo).toNat) I
  have Z:(List.zipWith cq j.Race.aA ha)[(p.jo).toNat]? =some (cq ht M):=dH O N
  refine eS U (IA ((p.jo).toNat) U (aF 8 U) oQ dc I I) ?_
  have Y:=n.gM _ _ _ O N
  have IO:=Y.n_
  have IR:=(If.gM ht (aQ O)).1
  refine eS U (hP ((p.jo).toNat) 0 (vS M.1.1 ht.length M.1.2) U cf (aF 8 U) Z U dc U)<|eS U (FA 1 U eP U)<|eS U (L1 (vI p.iX) 0 U cf U U) ?_
  obtain ⟨d,hd⟩:=aM ht ((p.iX).toNat) I
  obtain ⟨da,o⟩:=aM M.2 ((p.iX).toNat) I
  have r:(List.zipWith ao.cells ht M.2)[(p.iX).toNat]? =some (ao.cells d da):=dH hd o
  refine eS U (IA ((p.iX).toNat) U (show jC _ (rd M.1.1 ht.length 7 (List.zipWith ao.cells ht M.2)).holds from (cW 9 U (bT O N cD))) r8 dc I I) ?_
  have F:=p_ (j:=j) (p:=p) O hd
  have Ne:=Y.sig d (aQ hd)
  refine eS U (mq ((p.iX).toNat) 0 (aP.cells (aP.mk d.Out d.cY d.Time (cM.mk d.aZ.Start d.aZ.fI (bE.mk da.1 d.aZ.aa.length da.2)))) U cf (show jC _ (rd M.1.1 ht.length 7 (List.zipWith ao.cells ht M.2)).holds from (cW 9 U (bT O N cD))) r U dc U U)<|eN U<|cm U fun T88 GE=>AL U BZ fun Pi=>aJ (GE _ _ (aS [1,2,3,4,5,6,7,8,9,10,11,12]) ?_)
  refine cm U fun T90 GT=>gl U Ht U<|aJ (GT _ _ (aS [1,2,3,4,5,6,7,8,9,10,11,12]) ?_)
  refine f_ U<|KK EQ<|WS fun _ m=>fD 1 [] (mc 0 U mn) U<|rS (CL (Gw d.Out d.cY d.Time (cM.mk d.aZ.Start d.aZ.fI (bE.mk da.1 d.aZ.aa.length da.2))) (aN) U)<|rP 2 [] mn ?_
  refine cg (t:=149) U (bB fun E=>?_) (bx fun E=>?_)
  ·refine bG 8 U<|RK m<|aU U<|WS fun _ Eq=>rP 1 [] mn ?_
   refine RK Eq<|av<|Q1 hQ U U U ?_
   first|exact cB (bI (fun q=>by have C:=q.nf; have H:=q.min_; have J:=q.ui; have K:=q.np; omega)).symm|exact cB (bI (fun q=>by have C:=q.fault f (aQ hf); unfold fh at C; split at C<;>omega)).symm|exact cB (bI (fun q=>by have A:=q.hE _ p hp; have C:=A.id; have H:=A.l7; have J:=A.gM; have K:=A.fault; simp only [qS] at H; first|omega|(have V:=A.up AA I L; omega))).symm|exact cB (bI (fun q=>by obtain ⟨R,G,AB,T⟩:=(q.hE _ p hp).jL; rw [F] at G; cases G; exact E AB)).symm|exact cB (dM ⟨I,dZ D I,I,I,I,fun i p hi=>B i p (by have:=(aX.1 hi).1; omega) hi⟩).symm
  refine fD 5 [0,1] (mc 1 U (mc 0 U mn)) U<|rS (CL (jA p.At d.aZ.Start 86400000) (aN) U)<|rP 2 [] mn ?_
  refine RK m<|bV U (bx fun Li=>?_) (bB fun Li=>?_)
  ·refine cx<|aO<|KK g<|ay<|rP 3 [] mn ?_
   refine aJ ?_
   have ID:(vI (((k+1):Nat):Int))=(vI ((k:Int)+1)):=by exact cI I
   refine bj (b ⟨(k+1),⟨I,ub B hp ⟨I,fun q h1 h2=>by omega,by simp only [qS]; omega,I,I,d,F,by first|exact E|exact h148,I⟩⟩⟩ _ _ _ U os (dx.cons U<|bk U ID<|dx.nil _) (aS [2,3,4,5,6,7,8,9,10,11,12]))
  refine WS fun _ E1=>rP 1 [] mn ?_
  refine RK E1<|av<|Q1 hQ U U U ?_
  first|exact cB (bI (fun q=>by have C:=q.nf; have H:=q.min_; have J:=q.ui; have K:=q.np; omega)).symm|exact cB (bI (fun q=>by have C:=q.fault f (aQ hf); unfold fh at C; split at C<;>omega)).symm|exact cB (bI (fun q=>by have A:=q.hE _ p hp; have C:=A.id; have H:=A.l7; have J:=A.gM; have K:=A.fault; simp only [qS] at H; first|omega|(have V:=A.up AA I L; omega))).symm|exact cB (bI (fun q=>by obtain ⟨R,G,AB,T⟩:=(q.hE _ p hp).jL; rw [F] at G; cases G; omega)).symm|exact cB (dM ⟨I,dZ D I,I,I,I,fun i p hi=>B i p (by have:=(aX.1 hi).1; omega) hi⟩).symm
 refine dP 6 [0,1] (mc 0 U (mc 1 U mn)) ?_
 obtain ⟨AA,L⟩:=aM j.aw (k-1) I
 have hp0m:=bQ aT.cells L
 refine dS (IA (k-1) U (aF 11 U) zI dc I I)<|dS (nv ((k-1)*5) U (aF 11 U) (Nat.mul_pos I dc) eP U)<|dS (hP (k-1) 0 (vI AA.Id) U cf (aF 11 U) hp0m U dc U)<|dP 4 [] mn ?_
 refine iu (t:=103) U (aV fun K4=>?_) (aW fun K4=>?_)
 ·refine lP 31 U<|cO<|RK P<|aU U<|WS fun _ Ck=>rP 1 [] mn ?_
  refine RK Ck<|av<|Q1 hQ U U U ?_
  first|exact cB (bI (fun q=>by have C:=q.nf; have H:=q.min_; have J:=q.ui; have K:=q.np; omega)).symm|exact cB (bI (fun q=>by have C:=q.fault f (aQ hf); unfold fh at C; split at C<;>omega)).symm|exact cB (bI (fun q=>by have A:=q.hE _ p hp; have C:=A.id; have H:=A.l7; have J:=A.gM; have K:=A.fault; simp only [qS] at H; (have V:=A.up AA I L; omega))).symm|exact cB (bI (fun q=>by obtain ⟨R,G,AB,T⟩:=(q.hE _ p hp).jL; rw [F] at G; cases G; first|exact E AB|exact h148 AB|omega)).symm|exact cB (dM ⟨I,dZ D I,I,I,I,fun i p hi=>B i p (by have:=(aX.1 hi).1; omega) hi⟩).symm
 refine mz 7 [0,1] (mc 0 U (mc 1 U mn)) U<|dS (CL (jA p.iX 0 ((j.Race.aY.length:Int)-1)) (aN) U)<|dP 3 [] mn ?_
 refine iu (t:=114) U (bB fun K5=>?_) (bx fun K5=>?_)
 ·refine lP 20 U<|cO<|RK P<|aU U<|WS fun _ Cl=>rP 1 [] mn ?_
  refine RK Cl<|av<|Q1 hQ U U U ?_
  first|exact cB (bI (fun q=>by have C:=q.nf; have H:=q.min_; have J:=q.ui; have K:=q.np; omega)).symm|exact cB (bI (fun q=>by have C:=q.fault f (aQ hf); unfold fh at C; split at C<;>omega)).symm|exact cB (bI (fun q=>by have A:=q.hE _ p hp; have C:=A.id; have H:=A.l7; have J:=A.gM; have K:=A.fault; simp only [qS] at H; omega)).symm|exact cB (bI (fun q=>by obtain ⟨R,G,AB,T⟩:=(q.hE _ p hp).jL; rw [F] at G; cases G; first|exact E AB|exact h148 AB|omega)).symm|exact cB (dM ⟨I,dZ D I,I,I,I,fun i p hi=>B i p (by have:=(aX.1 hi).1; omega) hi⟩).symm
 refine mz 7 [0,1] (mc 0 U (mc 1 U mn)) U<|dS (CL (jA p.jo 0 ((j.Race.aA.length:Int)-1)) (aN) U)<|dP 3 [] mn ?_
 refine iu (t:=125) U (bB fun K8=>?_) (bx fun K8=>?_)
 ·refine lP 9 U<|cO<|RK P<|aU U<|WS fun _ Cp=>rP 1 [] mn ?_
  refine RK Cp<|av<|Q1 hQ U U U ?_
  first|exact cB (bI (fun q=>by have C:=q.nf; have H:=q.min_; have J:=q.ui; have K:=q.np; omega)).symm|exact cB (bI (fun q=>by have C:=q.fault f (aQ hf); unfold fh at C; split at C<;>omega)).symm|exact cB (bI (fun q=>by have A:=q.hE _ p hp; have C:=A.id; have H:=A.l7; have J:=A.gM; have K:=A.fault; simp only [qS] at H; omega)).symm|exact cB (bI (fun q=>by obtain ⟨R,G,AB,T⟩:=(q.hE _ p hp).jL; rw [F] at G; cases G; first|exact E AB|exact h148 AB|omega)).symm|exact cB (dM ⟨I,dZ D I,I,I,I,fun i p hi=>B i p (by have:=(aX.1 hi).1; omega) hi⟩).symm
 refine mz 6 [0,1] (mc 0 U (mc 1 U mn)) U<|dS (CL (jA p.iM 0 ((j.aC.length:Int)-1)) (aN) U)<|dP 2 [] mn ?_
 refine cO<|RK P<|cG U (bB fun LA=>?_) (bx fun LA=>?_)
 ·refine WS fun _ Cx=>rP 1 [] mn ?_
  refine RK Cx<|av<|Q1 hQ U U U ?_
  first|exact cB (bI (fun q=>by have C:=q.nf; have H:=q.min_; have J:=q.ui; have K:=q.np; omega)).symm|exact cB (bI (fun q=>by have C:=q.fault f (aQ hf); unfold fh at C; split at C<;>omega)).symm|exact cB (bI (fun q=>by have A:=q.hE _ p hp; have C:=A.id; have H:=A.l7; have J:=A.gM; have K:=A.fault; simp only [qS] at H; omega)).symm|exact cB (bI (fun q=>by obtain ⟨R,G,AB,T⟩:=(q.hE _ p hp).jL; rw [F] at G; cases G; first|exact E AB|exact h148 AB|omega)).symm|exact cB (dM ⟨I,dZ D I,I,I,I,fun i p hi=>B i p (by have:=(aX.1 hi).1; omega) hi⟩).symm
 refine WK h<|aq fun _ C0=>dT cy [11,12] [] [] [0,1,2,3,4,5,6,7,8,9,10,11] [] U U U U U<|eS U (FA 0 U eP U)<|eS U (FA 10 U eP U)<|eS U (L1 (vS heA j.Race.aA.length heC) 1 U cf U U)<|eS U (FA 2 U eP U)<|eS U (L1 (vI p.jo) 0 U cf U U) ?_
 obtain ⟨ht,O⟩:=aM j.Race.aA ((p.jo).toNat) I
 obtain ⟨M,N⟩:=aM ha ((p.jo).toNat) I
 have Z:(List.zipWith cq j.Race.aA ha)[(p.jo).toNat]? =some (cq ht M):=dH O N
 refine eS U (IA ((p.jo).toNat) U (aF 8 U) oQ dc I I) ?_
 have Y:=n.gM _ _ _ O N
 have IO:=Y.n_
 have IR:=(If.gM ht (aQ O)).1
 refine eS U (hP ((p.jo).toNat) 0 (vS M.1.1 ht.length M.1.2) U cf (aF 8 U) Z U dc U)<|eS U (FA 1 U eP U)<|eS U (L1 (vI p.iX) 0 U cf U U) ?_
 obtain ⟨d,hd⟩:=aM ht ((p.iX).toNat) I
 obtain ⟨da,o⟩:=aM M.2 ((p.iX).toNat) I
 have r:(List.zipWith ao.cells ht M.2)[(p.iX).toNat]? =some (ao.cells d da):=dH hd o
 refine eS U (IA ((p.iX).toNat) U (show jC _ (rd M.1.1 ht.length 7 (List.zipWith ao.cells ht M.2)).holds from (cW 9 U (bT O N cD))) r8 dc I I) ?_
 have F:=p_ (j:=j) (p:=p) O hd
 have Ne:=Y.sig d (aQ hd)
 refine eS U (mq ((p.iX).toNat) 0 (aP.cells (aP.mk d.Out d.cY d.Time (cM.mk d.aZ.Start d.aZ.fI (bE.mk da.1 d.aZ.aa.length da.2)))) U cf (show jC _ (rd M.1.1 ht.length 7 (List.zipWith ao.cells ht M.2)).holds from (cW 9 U (bT O N cD))) r U dc U U)<|eN U<|cm U fun T73 Fd=>AL U BZ fun PP=>aJ (Fd _ _ (aS [1,2,3,4,5,6,7,8,9,10,11,12]) ?_)
 refine cm U fun T75 Fn=>gl U Ht U<|aJ (Fn _ _ (aS [1,2,3,4,5,6,7,8,9,10,11,12]) ?_)
 refine f_ U<|KK C0<|WS fun _ l=>fD 1 [] (mc 0 U mn) U<|rS (CL (Gw d.Out d.cY d.Time (cM.mk d.aZ.Start d.aZ.fI (bE.mk da.1 d.aZ.aa.length da.2))) (aN) U)<|rP 2 [] mn ?_
 refine cg (t:=149) U (bB fun E=>?_) (bx fun E=>?_)
 ·refine bG 8 U<|RK l<|aU U<|WS fun _ C1=>rP 1 [] mn ?_
  refine RK C1<|av<|Q1 hQ U U U ?_
  first|exact cB (bI (fun q=>by have C:=q.nf; have H:=q.min_; have J:=q.ui; have K:=q.np; omega)).symm|exact cB (bI (fun q=>by have C:=q.fault f (aQ hf); unfold fh at C; split at C<;>omega)).symm|exact cB (bI (fun q=>by have A:=q.hE _ p hp; have C:=A.id; have H:=A.l7; have J:=A.gM; have K:=A.fault; simp only [qS] at H; first|omega|(have V:=A.up AA I L; omega))).symm|exact cB (bI (fun q=>by obtain ⟨R,G,AB,T⟩:=(q.hE _ p hp).jL; rw [F] at G; cases G; exact E AB)).symm|exact cB (dM ⟨I,dZ D I,I,I,I,fun i p hi=>B i p (by have:=(aX.1 hi).1; omega) hi⟩).symm
 refine fD 5 [0,1] (mc 1 U (mc 0 U mn)) U<|rS (CL (jA p.At d.aZ.Start 86400000) (aN) U)<|rP 2 [] mn ?_
 refine RK l<|bV U (bx fun LB=>?_) (bB fun LB=>?_)
 ·refine cx<|aO<|KK g<|ay<|rP 3 [] mn ?_
  refine aJ ?_
  have H1:(vI (((k+1):Nat):Int))=(vI ((k:Int)+1)):=by exact cI I
  refine bj (b ⟨(k+1),⟨I,ub B hp ⟨I,fun q h1 h2=>by (rw [L] at h2; cases h2; omega),by simp only [qS]; omega,I,I,d,F,by first|exact E|exact h148,I⟩⟩⟩ _ _ _ rfl os (dx.cons rfl<|bk rfl H1<|dx.nil _) (aS [2,3,4,5,6,7,8,9,10,11,12]))
 refine WS fun _ C2=>rP 1 [] mn ?_
 refine RK C2<|av<|Q1 hQ U U U ?_
 first|exact cB (bI (fun q=>by have C:=q.nf; have H:=q.min_; have J:=q.ui; have K:=q.np; omega)).symm|exact cB (bI (fun q=>by have C:=q.fault f (aQ hf); unfold fh at C; split at C<;>omega)).symm|exact cB (bI (fun q=>by have A:=q.hE _ p hp; have C:=A.id; have H:=A.l7; have J:=A.gM; have K:=A.fault; simp only [qS] at H; first|omega|(have V:=A.up AA I L; omega))).symm|exact cB (bI (fun q=>by obtain ⟨R,G,AB,T⟩:=(q.hE _ p hp).jL; rw [F] at G; cases G; omega)).symm|exact cB (dM ⟨I,dZ D I,I,I,I,fun i p hi=>B i p (by have:=(aX.1 hi).1; omega) hi⟩).symm
end
section
open Go.RowKit
theorem C5 (j:cR) (kA:OA) (kC:Nat) (az:List RA) (cA:OA) (cC:Nat) (bA:OA) (bC:Nat) (slA:OA) (slC:Nat) (drA:OA) (drC:Nat) (ha:List cN) (heA:OA) (heC:Nat) (faA:OA) (faC:Nat) (prA:OA) (prC:Nat) (hin:gY j az ha):
 dN Tryz.prog 28 [(vA (eD.cells (nN j kA kC cA cC bA bC slA slC drA drC heA heC faA faC prA prC)))] [(rd kA j.Race.ak.aR.length 9 (j.Race.ak.aR.map ar.cells)),(rd cA j.Race.ak.aj.length 2 (List.zipWith ax.cells j.Race.ak.aj az)),(dV (a_ ax.gG j.Race.ak.aj az)),(rd bA j.Race.ak.ab.length 4 (j.Race.ak.ab.map bJ.cells)),(rd slA j.Race.aY.length 1 (j.Race.aY.map iC)),(rd drA j.Race.b_.length 1 (j.Race.b_.map iC)),(rd heA j.Race.aA.length 1 (List.zipWith cq j.Race.aA ha)),(dV (a_ eV j.Race.aA ha)),(rd faA j.aC.length 4 (j.aC.map aL.cells)),(rd prA j.aw.length 5 (j.aw.map aT.cells))] (vI (di j)):=by
 have O:=hin.race
 have L:=hin.race.line
 have R:=hin.race.iJ
 have S:=hin.race.has
 have P:=hin.race.iK
 have M:=hin.nf
 have N:=hin.np
 refine bH kr Tryz.func28 U U fun AA Q hQ hN=>?_
 try dsimp only
 refine WS fun _ D=>eT U fun T=>bG 1 U<|RK D<|aq fun _ E=>WS fun _ F=>bG 1 U<|rS (LP (fu.cells (zH j.Race kA kC cA cC bA bC slA slC drA drC heA heC)) 0 U cf U U U)<|rS (CL (IM j.Race kA kC az cA cC bA bC slA slC drA drC ha heA heC asm) (bq [1,2,3,4,5,6,7,8]) U)<|bG 1 U<|RK F<|WS fun _ G=>rP 2 [] mn ?_
 refine RK G<|cG U (bB fun C=>?_) (bx fun C=>?_)
 ·refine WS fun _ H=>rP 2 [] mn ?_
  refine RK H<|av<|Q1 hQ U U U ?_
  exact cI (zO C).symm
 refine WK E<|aq fun _ AB=>WS fun _ J=>fD 1 [] (mc 0 U mn) U<|rS (CL (It j kA kC az cA cC bA bC slA slC drA drC ha heA heC faA faC prA prC hin asm) (bq [1,2,3,4,5,6,7,8,9,10]) U)<|rP 1 [] mn ?_
 refine RK J<|cG U (bB fun A=>?_) (bx fun A=>?_)
 ·refine WS fun _ K=>rP 1 [] mn ?_
  refine RK K<|av<|Q1 hQ U U U ?_
  exact cI (j9 C A).symm
 refine WK AB<|WS fun _ B=>rP 1 [] mn ?_
 refine RK B<|av<|Q1 hQ U U U ?_
 exact cI (yP C A).symm
end
section
open Go.RowKit
theorem qk (x y:Int):
 dN Tryz.prog 47 [(vI x),(vI y)] [] (vA (ag.cells (ag.mk x y))):=by
 refine bH kr Tryz.func47 U U fun D Q hQ hN=>?_
 try dsimp only
 refine WS fun _ A=>AL U ej fun C=>RK A<|WS fun _ B=>rP 2 [] mn ?_
 refine rS (SX (bp (xs:=[(0,.tmp 5),(1,.tmp 6)]) (cs:=(ag.cells (ag.mk x y))) U U (bo hU U)) U U)<|gl U c_ U<|RK B<|av ?_
 exact D8 hQ [0] (mc 0 U mn) U U
theorem sh (x y:Int):
 dN Tryz.prog 48 [(vI x),(vI y)] [] (vA (aP.cells (aP.mk false true (ag.mk x y) (cM.mk 0 0 (bE.mk none 0 0))))):=by
 refine bH kr Tryz.func48 U U fun D Q hQ hN=>?_
 try dsimp only
 refine WS fun _ A=>AL U BZ fun C=>RK A<|WS fun _ B=>rP 2 [] mn ?_
 refine rS (CL (qk x y) (aN) U)<|rS (SX (bp (xs:=[(1,.const (vB true)),(2,.tmp 7)]) (cs:=(aP.cells (aP.mk false true (ag.mk x y) (cM.mk 0 0 (bE.mk none 0 0))))) U U (bo Tq U)) U U)<|gl U Ht U<|RK B<|av ?_
 exact D8 hQ [0] (mc 0 U mn) U U
theorem DQ (j:cR) (kA:OA) (kC:Nat) (az:List RA) (cA:OA) (cC:Nat) (bA:OA) (bC:Nat) (slA:OA) (slC:Nat) (drA:OA) (drC:Nat) (ha:List cN) (heA:OA) (heC:Nat) (faA:OA) (faC:Nat) (prA:OA) (prC:Nat) (hraw:po j az ha):
 dN Tryz.prog 9 [(vA (eD.cells (nN j kA kC cA cC bA bC slA slC drA drC heA heC faA faC prA prC)))] [(rd kA j.Race.ak.aR.length 9 (j.Race.ak.aR.map ar.cells)),(rd cA j.Race.ak.aj.length 2 (List.zipWith ax.cells j.Race.ak.aj az)),(dV (a_ ax.gG j.Race.ak.aj az)),(rd bA j.Race.ak.ab.length 4 (j.Race.ak.ab.map bJ.cells)),(rd slA j.Race.aY.length 1 (j.Race.aY.map iC)),(rd drA j.Race.b_.length 1 (j.Race.b_.map iC)),(rd heA j.Race.aA.length 1 (List.zipWith cq j.Race.aA ha)),(dV (a_ eV j.Race.aA ha)),(rd faA j.aC.length 4 (j.aC.map aL.cells)),(rd prA j.aw.length 5 (j.aw.map aT.cells))] (vB (decide (¬ pI j∧di j=0))):=by
 refine bH kr Tryz.func9 U U fun F Q hQ hN=>?_
 try dsimp only
 refine WS fun _ C=>eT U fun E=>bG 1 U<|RK C<|WS fun _ A=>fD 1 [] (mc 0 U mn) U<|rS (CL (Le j kA kC az cA cC bA bC slA slC drA drC ha heA heC faA faC prA prC hraw) (bq [1,2,3,4,5,6,7,8,9,10]) U)<|rP 2 [] mn ?_
 refine cu (t:=6) U (bx fun B=>?_) (bB fun B=>?_)
 ·refine bG 1 U<|rP 4 [] mn ?_
  refine RK A<|av<|Q1 hQ U U U ?_
  exact cB (bI fun q=>q.1 B).symm
 refine rP 1 [] (mc 0 U mn) ?_
 have D:=hraw.small B
 refine rS (CL (C5 j kA kC az cA cC bA bC slA slC drA drC ha heA heC faA faC prA prC asm) (bq [1,2,3,4,5,6,7,8,9,10]) U)<|rP 3 [] mn ?_
 refine RK A<|av<|Q1 hQ U U U ?_
 exact cB (g5.2 ⟨fun q=>⟨B,q⟩,fun q=>q.2⟩)
theorem KR (o fx:Bool) (tm:ag) (rv:cM):
 dN Tryz.prog 14 [(vA (aP.cells (aP.mk o fx tm rv)))] [] (vB (decide (o=false∧fx=false))):=by
 refine bH kr Tryz.func14 U U fun E Q hQ hN=>?_
 try dsimp only
 refine WS fun _ B=>eT U fun D=>bG 1 U<|RK B<|WS fun _ A=>rP 4 [] (mc 0 U mn) ?_
 refine cu (t:=6) U (fun C=>?_) (fun C=>?_)
 ·rw [Bool.not_eq_false'] at C
  refine rP 5 [] mn ?_
  refine RK A<|av<|Q1 hQ U U U ?_
  clear hQ hN A B
  refine cB ?_
  (simp_all; done)
 rw [Bool.not_eq_true'] at C
 refine rP 5 [] (mc 0 U mn) ?_
 refine RK A<|av<|Q1 hQ U U U ?_
 clear hQ hN A B
 refine cB ?_
 (simp_all; done)
end
section
open Go.RowKit
theorem td:
 qB Tryz.prog 24 [] [] (fun (x:(OA)×Nat×(OA)×Nat×(List RA)×(OA)×Nat×(OA)×Nat×(OA)×Nat×(OA)×Nat×(List cN)×(OA)×Nat×(OA)×Nat)=>(vA (eD.cells (eD.mk (fu.mk (cw.mk (bO.mk (bE.mk x.1 ew.Race.ak.aR.length x.2.1)) ew.Race.ak.iN (bE.mk x.2.2.1 ew.Race.ak.aj.length x.2.2.2.1) (bE.mk x.2.2.2.2.2.1 ew.Race.ak.ab.length x.2.2.2.2.2.2.1) ew.Race.ak.bM ew.Race.ak.fT ew.Race.ak.dE) (bE.mk x.2.2.2.2.2.2.2.1 ew.Race.aY.length x.2.2.2.2.2.2.2.2.1) (bE.mk x.2.2.2.2.2.2.2.2.2.1 ew.Race.b_.length x.2.2.2.2.2.2.2.2.2.2.1) ew.Race.lG (bE.mk x.2.2.2.2.2.2.2.2.2.2.2.1 ew.Race.aA.length x.2.2.2.2.2.2.2.2.2.2.2.2.1)) (bE.mk x.2.2.2.2.2.2.2.2.2.2.2.2.2.2.1 ew.aC.length x.2.2.2.2.2.2.2.2.2.2.2.2.2.2.2.1) (bE.mk x.2.2.2.2.2.2.2.2.2.2.2.2.2.2.2.2.1 ew.aw.length x.2.2.2.2.2.2.2.2.2.2.2.2.2.2.2.2.2) ew.eh ew.xA)))) (fun (x:(OA)×Nat×(OA)×Nat×(List RA)×(OA)×Nat×(OA)×Nat×(OA)×Nat×(OA)×Nat×(List cN)×(OA)×Nat×(OA)×Nat)=>gY ew x.2.2.2.2.1 x.2.2.2.2.2.2.2.2.2.2.2.2.2.1∧x.2.2.2.2.1.length=ew.Race.ak.aj.length∧v7 ew.Race.aA x.2.2.2.2.2.2.2.2.2.2.2.2.2.1) (fun (x:(OA)×Nat×(OA)×Nat×(List RA)×(OA)×Nat×(OA)×Nat×(OA)×Nat×(OA)×Nat×(List cN)×(OA)×Nat×(OA)×Nat)=>[(own x.1 x.2.1 118 9 (ew.Race.ak.aR.map ar.cells)),(own x.2.2.1 x.2.2.2.1 73 2 (List.zipWith ax.cells ew.Race.ak.aj x.2.2.2.2.1)),(bK (a_ ax.owns ew.Race.ak.aj x.2.2.2.2.1)),(own x.2.2.2.2.2.1 x.2.2.2.2.2.2.1 122 4 (ew.Race.ak.ab.map bJ.cells)),(own x.2.2.2.2.2.2.2.1 x.2.2.2.2.2.2.2.2.1 3 1 (ew.Race.aY.map iC)),(own x.2.2.2.2.2.2.2.2.2.1 x.2.2.2.2.2.2.2.2.2.2.1 3 1 (ew.Race.b_.map iC)),(own x.2.2.2.2.2.2.2.2.2.2.2.1 x.2.2.2.2.2.2.2.2.2.2.2.2.1 51 1 (List.zipWith cq ew.Race.aA x.2.2.2.2.2.2.2.2.2.2.2.2.2.1)),(bK (a_ jT ew.Race.aA x.2.2.2.2.2.2.2.2.2.2.2.2.2.1)),(own x.2.2.2.2.2.2.2.2.2.2.2.2.2.2.1 x.2.2.2.2.2.2.2.2.2.2.2.2.2.2.2.1 80 4 (ew.aC.map aL.cells)),(own x.2.2.2.2.2.2.2.2.2.2.2.2.2.2.2.2.1 x.2.2.2.2.2.2.2.2.2.2.2.2.2.2.2.2.2 47 5 (ew.aw.map aT.cells))]):=by
 refine fO kr Tryz.func24 U U fun V Q hQ hN=>?_
 try dsimp only
 refine WS fun _ P=>AL U Sj fun T=>RK P<|WS fun _ R=>rS (CL (qk 10000 10200) (aN) U)<|rS (SX (bp (xs:=[(0,.const (vI 1)),(1,.tmp 3)]) (cs:=(ar.cells (ar.mk 1 (ag.mk 10000 10200) (ag.mk 0 0) (ag.mk 0 0) 0 0))) U U (bo Ue U)) U U)<|eJ (xs:=[.tmp 4]) (cs:=(ar.cells (ar.mk 1 (ag.mk 10000 10200) (ag.mk 0 0) (ag.mk 0 0) 0 0))) U zJ G2 U U U U (by simp [Value.cells,ar.bf]) U U fun E=>rS (SX (bp (xs:=[(0,.tmp 5)]) (cs:=(bO.cells (bO.mk (bE.mk (some ⟨E,0,none⟩) 1 1)))) U U (bo UC U)) U U)<|rS (CL (qk 0 2) (aN) U)<|rS (SX (bp (xs:=[(0,.const (vI 0)),(1,.tmp 7)]) (cs:=(cz.cells (cz.mk 0 (ag.mk 0 2)))) U U (bo SI U)) U U)<|rS (CL (qk 5 6) (aN) U)<|rS (SX (bp (xs:=[(0,.const (vI 100000)),(1,.tmp 9)]) (cs:=(cz.cells (cz.mk 100000 (ag.mk 5 6)))) U U (bo SI U)) U U)<|eJ (xs:=[.tmp 8,.tmp 10]) (cs:=((cz.cells (cz.mk 0 (ag.mk 0 2)))++(cz.cells (cz.mk 100000 (ag.mk 5 6))))) U vM zF U U U U (by simp [Value.cells,cz.bf]) U U fun J=>rS (SX (bp (xs:=[(0,.const (vI 100)),(1,.tmp 11)]) (cs:=(dA.cells (dA.mk 100 (bE.mk (some ⟨J,0,none⟩) 2 2)))) U U (bo Xd U)) U U)<|eJ (xs:=[.tmp 12]) (cs:=(dA.cells (dA.mk 100 (bE.mk (some ⟨J,0,none⟩) 2 2)))) U x9 RV U U U U (by simp [Value.cells,dA.bf]) U U fun L=>rS (CL (qk 1000 1000) (aN) U)<|rS (SX (bp (xs:=[(1,.tmp 14)]) (cs:=(cK.cells (cK.mk 0 (ag.mk 1000 1000)))) U U (bo Ls U)) U U)<|rS (SX (bp (xs:=[(0,.tmp 15)]) (cs:=(bJ.cells (bJ.mk (cK.mk 0 (ag.mk 1000 1000)) 0))) U U (bo JE U)) U U)<|rS (CL (qk 4000 4000) (aN) U)<|rS (SX (bp (xs:=[(1,.tmp 17)]) (cs:=(cK.cells (cK.mk 0 (ag.mk 4000 4000)))) U U (bo Ls U)) U U)<|rS (SX (bp (xs:=[(0,.tmp 18)]) (cs:=(bJ.cells (bJ.mk (cK.mk 0 (ag.mk 4000 4000)) 0))) U U (bo JE U)) U U)<|rS (CL (qk 9000 9000) (aN) U)<|rS (SX (bp (xs:=[(1,.tmp 20)]) (cs:=(cK.cells (cK.mk 0 (ag.mk 9000 9000)))) U U (bo Ls U)) U U)<|rS (SX (bp (xs:=[(0,.tmp 21)]) (cs:=(bJ.cells (bJ.mk (cK.mk 0 (ag.mk 9000 9000)) 0))) U U (bo JE U)) U U)<|eJ (xs:=[.tmp 16,.tmp 19,.tmp 22]) (cs:=((bJ.cells (bJ.mk (cK.mk 0 (ag.mk 1000 1000)) 0))++(bJ.cells (bJ.mk (cK.mk 0 (ag.mk 4000 4000)) 0))++(bJ.cells (bJ.mk (cK.mk 0 (ag.mk 9000 9000)) 0)))) U xz Tu U U U U (by simp [Value.cells,bJ.bf]) U U fun M=>rS (SX (bp (xs:=[(0,.tmp 6),(1,.const (vI 2000)),(4,.const (vI 1)),(5,.const (vI 1)),(6,.const (vI 1)),(2,.tmp 13),(3,.tmp 23)]) (cs:=(cw.cells (cw.mk (bO.mk (bE.mk (some ⟨E,0,none⟩) 1 1)) 2000 (bE.mk (some ⟨L,0,none⟩) 1 1) (bE.mk (some ⟨M,0,none⟩) 3 3) 1 1 1))) U U (bo Wp U)) U U)<|AL U Uj fun AA=>?_
 refine fU (es:=(ew.Race.ak.aR.map ar.cells)) (C':=[_,_,_,_,(own (some ⟨E,0,none⟩) 1 118 9 (ew.Race.ak.aR.map ar.cells)),_]) 4 U (nT ar.bf _) U (by show _≤maxLen; exact Nat.le_trans (m:=10) (show (1:Nat)≤10 by decide) dc) U ?_
 refine fU (es:=(zD.bu.map cz.cells)) (C':=[_,_,_,(own (some ⟨J,0,none⟩) 2 75 3 (zD.bu.map cz.cells)),_,_]) 3 U (nT cz.bf _) U (by show _≤maxLen; exact Nat.le_trans (m:=10) (show (2:Nat)≤10 by decide) dc) U ?_
 refine fU (es:=(List.zipWith ax.cells ew.Race.ak.aj [((some ⟨J,0,none⟩),2)])) (C':=[_,_,(own (some ⟨L,0,none⟩) 1 73 2 (List.zipWith ax.cells ew.Race.ak.aj [((some ⟨J,0,none⟩),2)])),_,_,_]) 2 U (by intro x hx; change x∈[ax.cells zD ((some ⟨J,0,none⟩),2)] at hx; rw [ck.1 hx]; rfl) U (by show _≤maxLen; exact Nat.le_trans (m:=10) (show (1:Nat)≤10 by decide) dc) U ?_
 refine fU (es:=(ew.Race.ak.ab.map bJ.cells)) (C':=[_,(own (some ⟨M,0,none⟩) 3 122 4 (ew.Race.ak.ab.map bJ.cells)),_,_,_,_]) 1 U (nT bJ.bf _) U (by show _≤maxLen; exact Nat.le_trans (m:=10) (show (3:Nat)≤10 by decide) dc) U ?_
 refine yf<|PA (X:=[]) (X':=a_ ax.owns ew.Race.ak.aj [((some ⟨J,0,none⟩),2)]) 0 4 rfl rfl rfl<|rV rfl QX rfl<|RK R<|WS fun _ S=>rS (SX (bp (xs:=[(0,.const (vI 0)),(1,.const (vI 10600))]) (cs:=(aH.cells (aH.mk 0 10600))) rfl rfl (bo Mu rfl)) rfl rfl)<|rS (SX (bp (xs:=[(0,.const (vI 0)),(1,.const (vI 11000))]) (cs:=(aH.cells (aH.mk 0 11000))) rfl rfl (bo Mu rfl)) rfl rfl)<|rS (SX (bp (xs:=[(0,.const (vI 1)),(1,.const (vI 12600))]) (cs:=(aH.cells (aH.mk 1 12600))) rfl rfl (bo Mu rfl)) rfl rfl)<|eJ (xs:=[.tmp 25,.tmp 26,.tmp 27]) (cs:=((aH.cells (aH.mk 0 10600))++(aH.cells (aH.mk 0 11000))++(aH.cells (aH.mk 1 12600)))) rfl xI IV rfl rfl rfl rfl (by simp [Value.cells,aH.bf]) rfl rfl fun A=>rS (SX (bp (xs:=[(0,.const (vI 10000)),(1,.const (vI 20000)),(2,.tmp 28)]) (cs:=(cM.cells (cM.mk 10000 20000 (bE.mk (some ⟨A,0,none⟩) 3 3)))) rfl rfl (bo WT rfl)) rfl rfl)<|AL rfl UL fun N=>fU (es:=(mF.aa.map aH.cells)) (C':=[_,(own (some ⟨A,0,none⟩) 3 78 2 (mF.aa.map aH.cells)),_,_,_,_,_,_]) 1 rfl (nT aH.bf _) rfl dc rfl<|gl rfl Qj rfl<|RK S<|aq fun _ O=>PC (L':=[(0,(vP T)),(1,(vP AA)),(2,(vP N)),(3,(vA (ag.cells (ag.mk 10000 10200)))),(4,(vA (ar.cells (ar.mk 1 (ag.mk 10000 10200) (ag.mk 0 0) (ag.mk 0 0) 0 0)))),(5,(vS (some ⟨E,0,none⟩) 1 1)),(6,(vA (bO.cells (bO.mk (bE.mk (some ⟨E,0,none⟩) 1 1))))),(7,(vA (ag.cells (ag.mk 0 2)))),(8,(vA (cz.cells (cz.mk 0 (ag.mk 0 2))))),(9,(vA (ag.cells (ag.mk 5 6)))),(10,(vA (cz.cells (cz.mk 100000 (ag.mk 5 6))))),(11,(vS (some ⟨J,0,none⟩) 2 2)),(12,(vA (dA.cells (dA.mk 100 (bE.mk (some ⟨J,0,none⟩) 2 2))))),(13,(vS (some ⟨L,0,none⟩) 1 1)),(14,(vA (ag.cells (ag.mk 1000 1000)))),(15,(vA (cK.cells (cK.mk 0 (ag.mk 1000 1000))))),(16,(vA (bJ.cells (bJ.mk (cK.mk 0 (ag.mk 1000 1000)) 0)))),(17,(vA (ag.cells (ag.mk 4000 4000)))),(18,(vA (cK.cells (cK.mk 0 (ag.mk 4000 4000))))),(19,(vA (bJ.cells (bJ.mk (cK.mk 0 (ag.mk 4000 4000)) 0)))),(20,(vA (ag.cells (ag.mk 9000 9000)))),(21,(vA (cK.cells (cK.mk 0 (ag.mk 9000 9000))))),(22,(vA (bJ.cells (bJ.mk (cK.mk 0 (ag.mk 9000 9000)) 0)))),(23,(vS (some ⟨M,0,none⟩) 3 3)),(24,(vA (cw.cells (cw.mk (bO.mk (bE.mk (some ⟨E,0,none⟩) 1 1)) 2000 (bE.mk (some ⟨L,0,none⟩) 1 1) (bE.mk (some ⟨M,0,none⟩) 3 3) 1 1 1)))),(25,(vA (aH.cells (aH.mk 0 10600)))),(26,(vA (aH.cells (aH.mk 0 11000)))),(27,(vA (aH.cells (aH.mk 1 12600)))),(28,(vS (some ⟨A,0,none⟩) 3 3)),(29,(vA (cM.cells (cM.mk 10000 20000 (bE.mk (some ⟨A,0,none⟩) 3 3)))))]) rfl<|m7 cy [0,3,4,5,6,8,9,10,14,15,16,17,19,20,21] [7,11,12,1,2,13,18,22,23,24] [false,false,false,false,false,false,false,false,false,false,false,false,false,false,false] [] [(cv N 56 (cM.cells (cM.mk 10000 20000 (bE.mk (some ⟨A,0,none⟩) 3 3)))),(own (some ⟨A,0,none⟩) 3 78 2 (mF.aa.map aH.cells)),(bK (a_ ax.owns ew.Race.ak.aj [((some ⟨J,0,none⟩),2)])),(cv AA 28 (cw.cells (cw.mk (bO.mk (bE.mk (some ⟨E,0,none⟩) 1 1)) 2000 (bE.mk (some ⟨L,0,none⟩) 1 1) (bE.mk (some ⟨M,0,none⟩) 3 3) 1 1 1))),(own (some ⟨M,0,none⟩) 3 122 4 (ew.Race.ak.ab.map bJ.cells)),(own (some ⟨L,0,none⟩) 1 73 2 (List.zipWith ax.cells ew.Race.ak.aj [((some ⟨J,0,none⟩),2)])),(own (some ⟨E,0,none⟩) 1 118 9 (ew.Race.ak.aR.map ar.cells))] [] kr (aS [0,1,2,3,4,5,6]) (aS [])<|eS rfl (LW 3 rfl cf rfl rfl)<|eS rfl (LW 0 rfl cf rfl rfl)<|eS rfl (SX (bp (xs:=[(3,.tmp 33)]) (cs:=(aP.cells (aP.mk false false (ag.mk 0 0) (cM.mk 10000 20000 (bE.mk (some ⟨A,0,none⟩) 3 3))))) rfl rfl (bo Tq rfl)) rfl rfl)<|eS rfl (CL (sh 2600 2600) (aN) rfl)<|eS rfl (CL (sh 2580 2609) (aN) rfl)<|eS rfl (CL (sh 2555 2559) (aN) rfl)<|eS rfl (CL (sh 2540 2549) (aN) rfl)<|eS rfl (CL (sh 2570 2575) (aN) rfl)<|eS rfl (SX (bp (xs:=[(0,.const (Value.int .u8 1)),(2,.const (vI 12600)),(3,.const (vI 13000))]) (cs:=(aL.cells (aL.mk 1 0 12600 13000))) rfl rfl (bo OE rfl)) rfl rfl)<|eS rfl (SX (bp (xs:=[(0,.const (Value.int .u8 2)),(1,.const (vI 1)),(2,.const (vI 11003)),(3,.const (vI 11100))]) (cs:=(aL.cells (aL.mk 2 1 11003 11100))) rfl rfl (bo OE rfl)) rfl rfl)<|eS rfl (SX (bp (xs:=[(0,.const (Value.int .u8 3)),(2,.const (vI 10700)),(3,.const (vI 10900))]) (cs:=(aL.cells (aL.mk 3 0 10700 10900))) rfl rfl (bo OE rfl)) rfl rfl)<|eS rfl (SX (bp (xs:=[(0,.const (Value.int .u8 1)),(2,.const (vI 13000)),(3,.const (vI 14000))]) (cs:=(aL.cells (aL.mk 1 0 13000 14000))) rfl rfl (bo OE rfl)) rfl rfl)<|eS rfl (SX (bp (xs:=[(0,.const (vI 2)),(3,.const (vI 0)),(4,.const (vI 72596))]) (cs:=(aT.cells (aT.mk 2 0 0 0 72596))) rfl rfl (bo Rv rfl)) rfl rfl)<|eS rfl (SX (bp (xs:=[(0,.const (vI 5)),(3,.const (vI 1)),(4,.const (vI 72603))]) (cs:=(aT.cells (aT.mk 5 0 0 1 72603))) rfl rfl (bo Rv rfl)) rfl rfl)<|eS rfl (SX (bp (xs:=[(0,.const (vI 6)),(3,.const (vI 3)),(4,.const (vI 20000))]) (cs:=(aT.cells (aT.mk 6 0 0 3 20000))) rfl rfl (bo Rv rfl)) rfl rfl)<|eN rfl<|GN [.take 7,.take 11,.op 12,.take 1,.take 2,.op 13,.take 18,.take 22,.op 23,.op 24] [(34,(vA (aP.cells (aP.mk false false (ag.mk 0 0) (cM.mk 10000 20000 (bE.mk (some ⟨A,0,none⟩) 3 3)))))),(35,(vA (aP.cells (aP.mk false true (ag.mk 2600 2600) (cM.mk 0 0 (bE.mk none 0 0)))))),(36,(vA (aP.cells (aP.mk false true (ag.mk 2580 2609) (cM.mk 0 0 (bE.mk none 0 0)))))),(38,(vA (aP.cells (aP.mk false true (ag.mk 2555 2559) (cM.mk 0 0 (bE.mk none 0 0)))))),(39,(vA (aP.cells (aP.mk false true (ag.mk 2540 2549) (cM.mk 0 0 (bE.mk none 0 0)))))),(40,(vA (aP.cells (aP.mk false true (ag.mk 2570 2575) (cM.mk 0 0 (bE.mk none 0 0)))))),(44,(vA (aL.cells (aL.mk 1 0 12600 13000)))),(45,(vA (aL.cells (aL.mk 2 1 11003 11100)))),(46,(vA (aL.cells (aL.mk 3 0 10700 10900)))),(47,(vA (aL.cells (aL.mk 1 0 13000 14000)))),(49,(vA (aT.cells (aT.mk 2 0 0 0 72596)))),(50,(vA (aT.cells (aT.mk 5 0 0 1 72603)))),(51,(vA (aT.cells (aT.mk 6 0 0 3 20000))))] (fun i=>match i with |7=>37|11=>41|1=>31|2=>32|18=>48|22=>52|_=>0) (fun i b=>match i with |7=> .slice (some ⟨b,0,none⟩) 3 3|11=> .slice (some ⟨b,0,none⟩) 3 3|1=> .slice (some ⟨b,0,none⟩) 3 3|2=> .slice (some ⟨b,0,none⟩) 3 3|18=> .slice (some ⟨b,0,none⟩) 4 4|22=> .slice (some ⟨b,0,none⟩) 3 3|_=>undef) (fun i b=>match i with |7=>cv b 58 ((aP.cells (aP.mk false false (ag.mk 0 0) (cM.mk 10000 20000 (bE.mk (some ⟨A,0,none⟩) 3 3))))++(aP.cells (aP.mk false true (ag.mk 2600 2600) (cM.mk 0 0 (bE.mk none 0 0))))++(aP.cells (aP.mk false true (ag.mk 2580 2609) (cM.mk 0 0 (bE.mk none 0 0)))))|11=>cv b 58 ((aP.cells (aP.mk false true (ag.mk 2555 2559) (cM.mk 0 0 (bE.mk none 0 0))))++(aP.cells (aP.mk false true (ag.mk 2540 2549) (cM.mk 0 0 (bE.mk none 0 0))))++(aP.cells (aP.mk false true (ag.mk 2570 2575) (cM.mk 0 0 (bE.mk none 0 0)))))|1=>cv b 3 [(vI 4),(vI 7),(vI 9)]|2=>cv b 3 [(vI 2),(vI 0),(vI 1)]|18=>cv b 80 ((aL.cells (aL.mk 1 0 12600 13000))++(aL.cells (aL.mk 2 1 11003 11100))++(aL.cells (aL.mk 3 0 10700 10900))++(aL.cells (aL.mk 1 0 13000 14000)))|22=>cv b 47 ((aT.cells (aT.mk 2 0 0 0 72596))++(aT.cells (aT.mk 5 0 0 1 72603))++(aT.cells (aT.mk 6 0 0 3 20000)))|_=>cv b 0 []) rfl rfl rfl kr rfl rfl (aS [0,1,2,3,4,5,6]) (m8 (w4 (xs:=[.tmp 34,.tmp 35,.tmp 36]) (cs:=((aP.cells (aP.mk false false (ag.mk 0 0) (cM.mk 10000 20000 (bE.mk (some ⟨A,0,none⟩) 3 3))))++(aP.cells (aP.mk false true (ag.mk 2600 2600) (cM.mk 0 0 (bE.mk none 0 0))))++(aP.cells (aP.mk false true (ag.mk 2580 2609) (cM.mk 0 0 (bE.mk none 0 0)))))) rfl r8 BZ rfl rfl rfl rfl (by simp [Value.cells,aP.bf]) rfl rfl rfl (fun _=>rfl) fun _=>rfl)<|m8 (w4 (xs:=[.tmp 38,.tmp 39,.tmp 40]) (cs:=((aP.cells (aP.mk false true (ag.mk 2555 2559) (cM.mk 0 0 (bE.mk none 0 0))))++(aP.cells (aP.mk false true (ag.mk 2540 2549) (cM.mk 0 0 (bE.mk none 0 0))))++(aP.cells (aP.mk false true (ag.mk 2570 2575) (cM.mk 0 0 (bE.mk none 0 0)))))) rfl r8 BZ rfl rfl rfl rfl (by simp [Value.cells,aP.bf]) rfl rfl rfl (fun _=>rfl) fun _=>rfl)<|rX<|m8 (w4 (xs:=[.const (vI 4),.const (vI 7),.const (vI 9)]) (cs:=[(vI 4),(vI 7),(vI 9)]) rfl dJ kY rfl rfl rfl rfl (by simp [Value.cells]) rfl rfl rfl (fun _=>rfl) fun _=>rfl)<|m8 (w4 (xs:=[.const (vI 2),.const (vI 0),.const (vI 1)]) (cs:=[(vI 2),(vI 0),(vI 1)]) rfl dJ kY rfl rfl rfl rfl (by simp [Value.cells]) rfl rfl rfl (fun _=>rfl) fun _=>rfl)<|rX<|m8 (w4 (xs:=[.tmp 44,.tmp 45,.tmp 46,.tmp 47]) (cs:=((aL.cells (aL.mk 1 0 12600 13000))++(aL.cells (aL.mk 2 1 11003 11100))++(aL.cells (aL.mk 3 0 10700 10900))++(aL.cells (aL.mk 1 0 13000 14000)))) rfl vV QK rfl rfl rfl rfl (by simp [Value.cells,aL.bf]) rfl rfl rfl (fun _=>rfl) fun _=>rfl)<|m8 (w4 (xs:=[.tmp 49,.tmp 50,.tmp 51]) (cs:=((aT.cells (aT.mk 2 0 0 0 72596))++(aT.cells (aT.mk 5 0 0 1 72603))++(aT.cells (aT.mk 6 0 0 3 20000)))) rfl zI O_ rfl rfl rfl rfl (by simp [Value.cells,aT.bf]) rfl rfl rfl (fun _=>rfl) fun _=>rfl)<|rX<|rX<|Ms) ?_
 intro F
 try dsimp only
 intro G
 try dsimp only
 refine rq U fun Y X K hT=>eJ (xs:=[.tmp 37,.tmp 41]) (cs:=[(vS (some ⟨F,0,none⟩) 3 3),(vS (some ⟨G,0,none⟩) 3 3)]) U oQ Xb U U U U (by simp [Value.cells]) U U fun B=>oN hT 48 11 U U (fun w hs=>St.kv [3,4,5,6,7,8,9] U U hs) U U ?_
 try dsimp only [List.take]
 intro C
 try dsimp only
 intro D
 try dsimp only
 refine rq U fun Y X K hT=>rS (SX (bp (xs:=[(0,.tmp 30),(1,.tmp 31),(2,.tmp 32),(3,.const (vI 2)),(4,.tmp 42)]) (cs:=(fu.cells (fu.mk (cw.mk (bO.mk (bE.mk (some ⟨E,0,none⟩) 1 1)) 2000 (bE.mk (some ⟨L,0,none⟩) 1 1) (bE.mk (some ⟨M,0,none⟩) 3 3) 1 1 1) (bE.mk (some ⟨C,0,none⟩) 3 3) (bE.mk (some ⟨D,0,none⟩) 3 3) 2 (bE.mk (some ⟨B,0,none⟩) 2 2)))) U U (bo VQ U)) U U)<|oN hT 51 13 U U (fun w hs=>St.kv [5,6,7,8,9,10,11] U U hs) U U ?_
 try dsimp only [List.take]
 intro H
 try dsimp only
 intro AB
 try dsimp only
 refine rq U fun Y X K hT=>rS (SX (bp (xs:=[(0,.tmp 43),(1,.tmp 48),(2,.tmp 52),(3,.const (vI 1)),(4,.const (vI 500))]) (cs:=(eD.cells (eD.mk (fu.mk (cw.mk (bO.mk (bE.mk (some ⟨E,0,none⟩) 1 1)) 2000 (bE.mk (some ⟨L,0,none⟩) 1 1) (bE.mk (some ⟨M,0,none⟩) 3 3) 1 1 1) (bE.mk (some ⟨C,0,none⟩) 3 3) (bE.mk (some ⟨D,0,none⟩) 3 3) 2 (bE.mk (some ⟨B,0,none⟩) 2 2)) (bE.mk (some ⟨H,0,none⟩) 4 4) (bE.mk (some ⟨AB,0,none⟩) 3 3) 1 500))) U U (bo Wq U)) U U)<|oN hT 54 15 U U (fun w hs=>St.kv [7,8,9,10,11,12,13] U U hs) U U ?_
 try dsimp only [List.take]
 refine rq U fun Y X K hT=>iT (vs:=(eD.cells (eD.mk (fu.mk (cw.mk (bO.mk (bE.mk (some ⟨E,0,none⟩) 1 1)) 2000 (bE.mk (some ⟨L,0,none⟩) 1 1) (bE.mk (some ⟨M,0,none⟩) 3 3) 1 1 1) (bE.mk (some ⟨C,0,none⟩) 3 3) (bE.mk (some ⟨D,0,none⟩) 3 3) 2 (bE.mk (some ⟨B,0,none⟩) 2 2)) (bE.mk (some ⟨H,0,none⟩) 4 4) (bE.mk (some ⟨AB,0,none⟩) 3 3) 1 500))) (cs':=(eD.cells (eD.mk (fu.mk (cw.mk (bO.mk (bE.mk (some ⟨E,0,none⟩) 1 1)) 2000 (bE.mk (some ⟨L,0,none⟩) 1 1) (bE.mk (some ⟨M,0,none⟩) 3 3) 1 1 1) (bE.mk (some ⟨C,0,none⟩) 3 3) (bE.mk (some ⟨D,0,none⟩) 3 3) 2 (bE.mk (some ⟨B,0,none⟩) 2 2)) (bE.mk (some ⟨H,0,none⟩) 4 4) (bE.mk (some ⟨AB,0,none⟩) 3 3) 1 500))) (C':=[_,_,_,_,_,_,_,_,_,_,_,_,_,_,(cv T 36 (eD.cells (eD.mk (fu.mk (cw.mk (bO.mk (bE.mk (some ⟨E,0,none⟩) 1 1)) 2000 (bE.mk (some ⟨L,0,none⟩) 1 1) (bE.mk (some ⟨M,0,none⟩) 3 3) 1 1 1) (bE.mk (some ⟨C,0,none⟩) 3 3) (bE.mk (some ⟨D,0,none⟩) 3 3) 2 (bE.mk (some ⟨B,0,none⟩) 2 2)) (bE.mk (some ⟨H,0,none⟩) 4 4) (bE.mk (some ⟨AB,0,none⟩) 3 3) 1 500)))]++X) 14 U U U Rn U U U U U U U<|oN hT 54 15 U U (fun w hs=>St.kv [7,8,9,10,11,12,13] U U hs) U U ?_
 try dsimp only [List.take]
 refine KK O ?_
 refine mL (es:=(ew.Race.aY.map iC)) (C':=[_,_,_,(own (some ⟨C,0,none⟩) 3 3 1 (ew.Race.aY.map iC)),_,_,_,_,_,_,_,_,_,_,_]) 3 U (nT bR _) U (by show _≤maxLen; exact Nat.le_trans (m:=10) (show (3:Nat)≤10 by decide) dc) U ?_
 refine mL (es:=(ew.Race.b_.map iC)) (C':=[_,_,(own (some ⟨D,0,none⟩) 3 3 1 (ew.Race.b_.map iC)),_,_,_,_,_,_,_,_,_,_,_,_]) 2 U (nT bR _) U (by show _≤maxLen; exact Nat.le_trans (m:=10) (show (3:Nat)≤10 by decide) dc) U ?_
 refine mL (es:=(ew.aC.map aL.cells)) (C':=[_,(own (some ⟨H,0,none⟩) 4 80 4 (ew.aC.map aL.cells)),_,_,_,_,_,_,_,_,_,_,_,_,_]) 1 U (nT aL.bf _) U (by show _≤maxLen; exact Nat.le_trans (m:=10) (show (4:Nat)≤10 by decide) dc) U ?_
 refine mL (es:=(ew.aw.map aT.cells)) (C':=[(own (some ⟨AB,0,none⟩) 3 47 5 (ew.aw.map aT.cells)),_,_,_,_,_,_,_,_,_,_,_,_,_,_]) 0 U (nT aT.bf _) U (by show _≤maxLen; exact Nat.le_trans (m:=10) (show (3:Nat)≤10 by decide) dc) U ?_
 refine mL (es:=(List.zipWith ao.cells L7 [((some ⟨A,0,none⟩),3),(none,0),(none,0)])) (C':=[_,_,_,_,_,_,(own (some ⟨F,0,none⟩) 3 58 7 (List.zipWith ao.cells L7 [((some ⟨A,0,none⟩),3),(none,0),(none,0)])),_,_,_,_,_,_,_,_]) 6 U (rz FR) U (by show _≤maxLen; exact Nat.le_trans (m:=10) (show (3:Nat)≤10 by decide) dc) U ?_
 refine mL (es:=(List.zipWith ao.cells Uc [(none,0),(none,0),(none,0)])) (C':=[_,_,_,_,_,(own (some ⟨G,0,none⟩) 3 58 7 (List.zipWith ao.cells Uc [(none,0),(none,0),(none,0)])),_,_,_,_,_,_,_,_,_]) 5 U (rz FR) U (by show _≤maxLen; exact Nat.le_trans (m:=10) (show (3:Nat)≤10 by decide) dc) U ?_
 refine mL (es:=(List.zipWith cq ew.Race.aA [(((some ⟨F,0,none⟩),3),[((some ⟨A,0,none⟩),3),(none,0),(none,0)]),(((some ⟨G,0,none⟩),3),[(none,0),(none,0),(none,0)])])) (C':=[_,_,_,_,(own (some ⟨B,0,none⟩) 2 51 1 (List.zipWith cq ew.Race.aA [(((some ⟨F,0,none⟩),3),[((some ⟨A,0,none⟩),3),(none,0),(none,0)]),(((some ⟨G,0,none⟩),3),[(none,0),(none,0),(none,0)])])),_,_,_,_,_,_,_,_,_,_]) 4 U (rz MY) U (by show _≤maxLen; exact Nat.le_trans (m:=10) (show (2:Nat)≤10 by decide) dc) U ?_
 refine e9 78 2<|e9 78 2<|e9 78 2<|e9 78 2<|e9 78 2<|IL (a_ jT ew.Race.aA [(((some ⟨F,0,none⟩),3),[((some ⟨A,0,none⟩),3),(none,0),(none,0)]),(((some ⟨G,0,none⟩),3),[(none,0),(none,0),(none,0)])]) [11,13,0,1,10,2,3,4] [5,6,7,8,9,12,14,15,16,17,18,19] U U<|av ?_
 refine LX hQ ((some ⟨E,0,none⟩),1,(some ⟨L,0,none⟩),1,[((some ⟨J,0,none⟩),2)],(some ⟨M,0,none⟩),3,(some ⟨C,0,none⟩),3,(some ⟨D,0,none⟩),3,(some ⟨B,0,none⟩),2,[(((some ⟨F,0,none⟩),3),[((some ⟨A,0,none⟩),3),(none,0),(none,0)]),(((some ⟨G,0,none⟩),3),[(none,0),(none,0),(none,0)])],(some ⟨H,0,none⟩),4,(some ⟨AB,0,none⟩),3) [11,10,7,9,4,3,5,0,2,1] [0] (mc 12 U mn) U (by show List.all _ _=true; simp only [fE,List.all_nil,nU,zq,Bool.and_true]; rfl) U U ?_
 exact ⟨Qw (S8 1 dc) Ke,U,Ke⟩
end
section
open Go.RowKit
theorem uG (G:List (List Int)) (H:List (List Int)) (gz:List RA) (gA:OA) (gC:Nat) (hz:List RA) (hA:OA) (hC:Nat) (h1:G.length≤1000000) (h2:H.length≤1000000) (h3: ∀ l∈G,l.length≤1000000) (h4: ∀ l∈H,l.length≤1000000) (hgz:gz.length=G.length) (hhz:hz.length=H.length):
 dN Tryz.prog 20 [(vS gA G.length gC),(vS hA H.length hC)] [(rd gA G.length 1 (List.zipWith zL G gz)),(dV (a_ SB G gz)),(rd hA H.length 1 (List.zipWith zL H hz)),(dV (a_ SB H hz))] (vB (decide (G=H))):=by
 refine bH kr Tryz.func20 U U fun Z Q hQ hN=>?_
 try dsimp only
 refine WS fun _ N=>bG 1 U<|RK N<|aq fun _ O=>WS fun _ P=>rP 5 [] mn ?_
 refine RK P<|cG U (bB fun hl=>?_) (bx fun hl=>?_)
 ·refine WS fun _ R=>rP 1 [] mn ?_
  refine RK R<|av<|Q1 hQ U U U ?_
  exact cB (bI (fun e=>by subst e; omega)).symm
 refine WK O<|aq fun _ S=>WS fun _ T=>rP 1 [] mn ?_
 refine RK T<|aG ?_
 have A:(0≤G.length)∧(G.take 0=H.take 0):=by exact ⟨Nat.zero_le _,rfl⟩
 refine bS (ι:={z:Nat // (z≤G.length)∧(G.take z=H.take z)}) [0,1] [0,1,2,3] U U (fun z=>[(5,(vI (z.1:Int)))]) (fun z=>[]) (fun _=>rfl) (fun _=>rfl) (fun z=>G.length-z.1) ⟨0,A⟩ (bw U) (aS [0,1,2,3]) ?_
 clear A
 rintro ⟨i,⟨W,B⟩⟩ J7 M
 try dsimp only
 refine aq fun _ AA=>WS fun _ V=>rP 4 [] mn ?_
 refine RK V<|bV U (aW fun L=>?_) (aV fun L=>?_)
 ·refine bL<|ai<|ai<|aI<|KK S<|WS fun _ F=>rP 1 [] mn ?_
  refine RK F<|av<|Q1 hQ U U U ?_
  exact cB (dM (rK I B I)).symm
 refine WK AA<|aq fun _ C=>aG<|aq fun _ D=>dy cy 10 kr<|dP 2 [] mn ?_
 obtain ⟨x,hx⟩:=aM G i I
 obtain ⟨xa,J⟩:=aM gz i I
 have X:(List.zipWith zL G gz)[i]? =some (zL x xa):=dH hx J
 refine dS (IA i U (aF 0 U) Oz dc I I)<|dS (hP i 0 (vS xa.1 x.length xa.2) U cf (aF 0 U) X U dc U)<|dP 2 [] mn ?_
 obtain ⟨y,hy⟩:=aM H i I
 obtain ⟨ya,K⟩:=aM hz i I
 have Y:(List.zipWith zL H hz)[i]? =some (zL y ya):=dH hy K
 refine dS (IA i U (aF 2 U) Oz dc I I)<|dS (hP i 0 (vS ya.1 y.length ya.2) U cf (aF 2 U) Y U dc U)<|dS (CL (DH x xa.1 xa.2 y ya.1 ya.2 (by exact h3 x (aQ hx)) (by exact h4 y (aQ hy))) (aD (show jC _ (rd xa.1 x.length 1 (x.map iC)).holds from (cW 1 U (bT hx J (by simp [SB]))))<|aD (show jC _ (rd ya.1 y.length 1 (y.map iC)).holds from (cW 3 U (bT hy K (by simp [SB]))))<|aN) U)<|dP 1 [] mn ?_
 refine cO<|RK D<|cG U (bB fun h=>?_) (bx fun h=>?_)
 ·refine WS fun _ E=>rP 1 [] mn ?_
  refine RK E<|av<|Q1 hQ U U U ?_
  exact cB (bI (rJ hx hy h)).symm
 refine cx<|aO<|KK C<|ay<|rP 3 [] mn ?_
 refine aJ ?_
 have AB:(vI (((i+1):Nat):Int))=(vI ((i:Int)+1)):=by exact cI I
 refine bj (M ⟨(i+1),⟨I,wJ B hx hy h⟩⟩ _ _ _ U os (dx.cons U<|dx.cons U<|bk U AB<|dx.nil _) (aS [0,1,2,3]))
theorem yN (fq sq x:Int):
 dN Tryz.prog 25 [(vI fq),(vI sq),(Value.int .u8 x)] [(rd gK 3 2 fK)] (vB (decide (mo ew fq 0 sq=0∧nJ ew fq 0 sq=x))):=by
 refine bH kr Tryz.func25 U U fun c Q hQ hN=>?_
 try dsimp only
 refine WS fun _ X=>rP 1 [] mn ?_
 refine RK X<|WS fun _ Y=>cX td (aN) U fun b a=>?_
 obtain ⟨S,V,T,W,AA,C,G,D,H,E,AB,F,J,O,K,L,P,R⟩:=b
 try dsimp only
 obtain ⟨N,Z,M⟩:=a
 refine bG 2 U<|rS (CL (Bn ew S V AA T W C G D H E AB O F J K L P R fq 0 sq (by exact N)) (gX 10 U U<|aD (au (n:=ew.Race.ak.aR.length) 0 U sm)<|aD (au (n:=ew.Race.ak.aj.length) 1 U (g7 Z))<|aD (e7 2 U kB)<|aD (au (n:=ew.Race.ak.ab.length) 3 U sm)<|aD (au (n:=ew.Race.aY.length) 4 U sm)<|aD (au (n:=ew.Race.b_.length) 5 U sm)<|aD (au (n:=ew.Race.aA.length) 6 U (fB M.1))<|aD (jS 7 U M)<|aD (au (n:=ew.aC.length) 8 U sm)<|aD (au (n:=ew.aw.length) 9 U sm)<|aN) U)<|bG 5 U<|RK Y<|WS fun _ A=>rP 3 [] mn ?_
 refine cu (t:=18) U (aW fun B=>?_) (aV fun B=>?_)
 ·refine rP 5 [] mn ?_
  refine RK A<|av<|Q1 hQ U U U ?_
  exact cB (bI fun q=>B q.1).symm
 refine bG 2 U<|rS (BI U nP)<|rP 2 [] mn ?_
 refine RK A<|av<|Q1 hQ U U U ?_
 exact cB (g5.2 ⟨fun q=>⟨B,q⟩,fun q=>q.2⟩)
theorem Gc (iq x:Int):
 dN Tryz.prog 26 [(vI iq),(Value.int .u8 x)] [(rd gK 3 2 fK)] (vB (decide (u0 ew iq=0∧wU ew iq=x))):=by
 refine bH kr Tryz.func26 U U fun c Q hQ hN=>?_
 try dsimp only
 refine WS fun _ X=>rP 1 [] mn ?_
 refine RK X<|WS fun _ Y=>cX td (aN) U fun b a=>?_
 obtain ⟨S,V,T,W,AA,C,G,D,H,E,AB,F,J,O,K,L,P,R⟩:=b
 try dsimp only
 obtain ⟨N,Z,M⟩:=a
 refine bG 1 U<|rS (CL (R_ ew S V AA T W C G D H E AB O F J K L P R iq (by exact N)) (gX 10 U U<|aD (au (n:=ew.Race.ak.aR.length) 0 U sm)<|aD (au (n:=ew.Race.ak.aj.length) 1 U (g7 Z))<|aD (e7 2 U kB)<|aD (au (n:=ew.Race.ak.ab.length) 3 U sm)<|aD (au (n:=ew.Race.aY.length) 4 U sm)<|aD (au (n:=ew.Race.b_.length) 5 U sm)<|aD (au (n:=ew.Race.aA.length) 6 U (fB M.1))<|aD (jS 7 U M)<|aD (au (n:=ew.aC.length) 8 U sm)<|aD (au (n:=ew.aw.length) 9 U sm)<|aN) U)<|bG 5 U<|RK Y<|WS fun _ A=>rP 3 [] mn ?_
 refine cu (t:=15) U (aW fun B=>?_) (aV fun B=>?_)
 ·refine rP 5 [] mn ?_
  refine RK A<|av<|Q1 hQ U U U ?_
  exact cB (bI fun q=>B q.1).symm
 refine bG 2 U<|rS (BI U nP)<|rP 2 [] mn ?_
 refine RK A<|av<|Q1 hQ U U U ?_
 exact cB (g5.2 ⟨fun q=>⟨B,q⟩,fun q=>q.2⟩)
end
section
open Go.RowKit
theorem Kg:
 dN Tryz.prog 8 [] [(rd gK 3 2 fK)] (vB true):=by
 refine bH kr Tryz.func8 U U fun w0 Q hQ hN=>?_
 try dsimp only
 refine WS fun _ J6=>rP 1 [] mn ?_
 refine RK J6<|WS fun _ J7=>cX td (aN) U fun y3 J8=>?_
 obtain ⟨If,J2,JJ,J4,J1,K,l,O,r,T,w,X,AC,Fd,AY,A2,Go,ID⟩:=y3
 try dsimp only
 obtain ⟨B,C,A⟩:=J8
 refine cX (vy ew If J2 J1 JJ J4 K l O r T w Fd X AC AY A2 Go ID (by exact B)) (gX 10 U U<|aD (au (n:=ew.Race.ak.aR.length) 0 U sm)<|aD (au (n:=ew.Race.ak.aj.length) 1 U (g7 C))<|aD (e7 2 U kB)<|aD (au (n:=ew.Race.ak.ab.length) 3 U sm)<|aD (au (n:=ew.Race.aY.length) 4 U sm)<|aD (au (n:=ew.Race.b_.length) 5 U sm)<|aD (au (n:=ew.Race.aA.length) 6 U (fB A.1))<|aD (jS 7 U A)<|aD (au (n:=ew.aC.length) 8 U sm)<|aD (au (n:=ew.aw.length) 9 U sm)<|aN) U fun J9 K5=>?_
 obtain ⟨In,J3⟩:=J9
 try dsimp only
 refine Bu [0,11] U U<|rP 5 [] mn ?_
 refine RK J7<|WS fun _ C1=>cX td (aN) U fun Kc EQ=>?_
 obtain ⟨E,f,H,i,c,L,o,P,s,AA,x,Y,AD,Fn,Ae,A3,Gq,IO⟩:=Kc
 try dsimp only
 obtain ⟨B,C,A⟩:=EQ
 refine cX (vJ ew E f c H i L o P s AA x Fn Y AD Ae A3 Gq IO (by exact B)) (gX 11 U U<|aD (au (n:=ew.Race.ak.aR.length) 0 U sm)<|aD (au (n:=ew.Race.ak.aj.length) 1 U (g7 C))<|aD (e7 2 U kB)<|aD (au (n:=ew.Race.ak.ab.length) 3 U sm)<|aD (au (n:=ew.Race.aY.length) 4 U sm)<|aD (au (n:=ew.Race.b_.length) 5 U sm)<|aD (au (n:=ew.Race.aA.length) 6 U (fB A.1))<|aD (jS 7 U A)<|aD (au (n:=ew.aC.length) 8 U sm)<|aD (au (n:=ew.aw.length) 9 U sm)<|aN) U fun Ky Eq=>?_
 obtain ⟨A6,JR,J5⟩:=Ky
 try dsimp only
 have Do:=Eq
 refine Bu [0,1,12,13] U U<|rP 5 [] mn ?_
 refine RK C1<|WS fun _ C2=>cX td (aN) U fun K0 E1=>?_
 obtain ⟨F,g,AB,j,d,M,p,R,u,V,y,Z,AO,GE,A0,A4,Hi,IR⟩:=K0
 try dsimp only
 obtain ⟨B,C,A⟩:=E1
 refine rS (CL (Bl ew F g d AB j M p R u V y GE Z AO A0 A4 Hi IR (by exact B)) (gX 13 U U<|aD (au (n:=ew.Race.ak.aR.length) 0 U sm)<|aD (au (n:=ew.Race.ak.aj.length) 1 U (g7 C))<|aD (e7 2 U kB)<|aD (au (n:=ew.Race.ak.ab.length) 3 U sm)<|aD (au (n:=ew.Race.aY.length) 4 U sm)<|aD (au (n:=ew.Race.b_.length) 5 U sm)<|aD (au (n:=ew.Race.aA.length) 6 U (fB A.1))<|aD (jS 7 U A)<|aD (au (n:=ew.aC.length) 8 U sm)<|aD (au (n:=ew.aw.length) 9 U sm)<|aN) U)<|Bu [10,11,12,13] U U<|rP 7 [] mn ?_
 refine RK C2<|WS fun _ C3=>cX td (aN) U fun K4 FS=>?_
 obtain ⟨G,h,J,k,e,N,q,S,v,W,z,a,AR,GT,A1,A5,H1,Id⟩:=K4
 try dsimp only
 obtain ⟨B,C,A⟩:=FS
 refine rS (CL (Nx ew G h e J k N q S v W z GT a AR A1 A5 H1 Id 0 (by exact B)) (gX 13 U U<|aD (au (n:=ew.Race.ak.aR.length) 0 U sm)<|aD (au (n:=ew.Race.ak.aj.length) 1 U (g7 C))<|aD (e7 2 U kB)<|aD (au (n:=ew.Race.ak.ab.length) 3 U sm)<|aD (au (n:=ew.Race.aY.length) 4 U sm)<|aD (au (n:=ew.Race.b_.length) 5 U sm)<|aD (au (n:=ew.Race.aA.length) 6 U (fB A.1))<|aD (jS 7 U A)<|aD (au (n:=ew.aC.length) 8 U sm)<|aD (au (n:=ew.aw.length) 9 U sm)<|aN) U)<|Bu [10,11,12,13] U U<|bG 5 U<|RK C3<|WS fun _ Di=>rS (CL (yN 0 0 1) (bq [3]) U)<|rP 1 [] mn ?_
 refine cu (t:=32) U (aW fun A7=>?_) (aV fun A7=>?_)
 ·exact absurd (QB) A7
 refine rS (CL (yN 1 0 2) (bq [3]) U)<|rP 2 [] mn ?_
 refine cu (t:=35) U (aW fun A8=>?_) (aV fun A8=>?_)
 ·exact absurd (Sb) A8
 refine rS (CL (yN 3 0 0) (bq [3]) U)<|rP 2 [] mn ?_
 refine cu (t:=38) U (aW fun A9=>?_) (aV fun A9=>?_)
 ·exact absurd (RB) A9
 refine rS (CL (Gc 0 0) (bq [3]) U)<|rP 2 [] mn ?_
 refine cu (t:=41) U (aW fun BE=>?_) (aV fun BE=>?_)
 ·exact absurd (QO) BE
 refine rS (CL (Gc 1 2) (bq [3]) U)<|rP 2 [] mn ?_
 refine cu (t:=44) U (aW fun Bc=>?_) (aV fun Bc=>?_)
 ·exact absurd (Rg) Bc
 refine rP 4 [] mn ?_
 refine cu (t:=48) U (aW fun B3=>?_) (aV fun B3=>?_)
 ·exact absurd (oY) B3
 refine rP 1 [] mn ?_
 refine eJ (xs:=[.const (vI 0)]) (cs:=[(vI 0)]) U dJ kY U U U U (by simp [Value.cells]) U U fun Jr=>?_
 refine rS (CL (yD (iE ew) In J3 ([0]) (some ⟨Jr,0,none⟩) 1 (by rw [P1]; decide) dc) (aD (au (n:=(iE ew).length) 3 U sm)<|aD (br 0 U U (by simp [bR]) U)<|aN) U) ?_
 refine rP 2 [] mn ?_
 refine cu (t:=53) U (aW fun B9=>?_) (aV fun B9=>?_)
 ·exact absurd (P1) B9
 refine rP 4 [] mn ?_
 refine cu (t:=57) U (aW fun Ci=>?_) (aV fun Ci=>?_)
 ·exact absurd (oY) Ci
 refine rP 1 [] mn ?_
 refine eJ (xs:=[.const (vI 0)]) (cs:=[(vI 0)]) U dJ kY U U U U (by simp [Value.cells]) U U fun D=>eJ (xs:=[.tmp 59,.const (vS none 0 0)]) (cs:=[(vS (some ⟨D,0,none⟩) 1 1),(vS none 0 0)]) U Oz Tp U U U U (by simp [Value.cells]) U U fun b=>?_
 refine fU (es:=(([0]:List Int).map iC)) (C':=[_,(own (some ⟨D,0,none⟩) 1 3 1 (([0]:List Int).map iC)),_,_,_,_,_]) 1 U (nT bR _) U (by show _≤maxLen; exact Nat.le_trans (m:=10) (show (1:Nat)≤10 by decide) dc) U ?_
 refine lY 3 1 ?_
 refine fU (es:=(List.zipWith zL [([0]:List Int),([]:List Int)] [((some ⟨D,0,none⟩),1),(none,0)])) (C':=[_,(own (some ⟨b,0,none⟩) 2 29 1 (List.zipWith zL [([0]:List Int),([]:List Int)] [((some ⟨D,0,none⟩),1),(none,0)])),_,_,_,_,_,_]) 1 U (rz RG) U (by show _≤maxLen; exact Nat.le_trans (m:=10) (show (2:Nat)≤10 by decide) dc) U ?_
 refine G9 (a_ I7 [([0]:List Int),([]:List Int)] [((some ⟨D,0,none⟩),1),(none,0)]) [2,0] [1,3,4,5,6,7] U U ?_
 refine rS (CL (uG (fY ew) ([([0]:List Int),([]:List Int)]) A6 JR J5 ([((some ⟨D,0,none⟩),1),(none,0)]) (some ⟨b,0,none⟩) 2 (by rw [MK]; decide) dc (by rw [MK]; decide) dc (by exact Do) (by rfl)) (aD (au (n:=(fY ew).length) 3 U (vC Do))<|aD (e7 4 U GJ)<|aD (au (n:=([([0]:List Int),([]:List Int)]).length) 1 U sm)<|aD (e7 0 U GJ)<|aN) U) ?_
 refine rP 2 [] mn ?_
 refine cu (t:=63) U (aW fun Ck=>?_) (aV fun Ck=>?_)
 ·exact absurd (MK) Ck
 refine rP 4 [] mn ?_
 refine cu (t:=67) U (aW fun Cl=>?_) (aV fun Cl=>?_)
 ·exact absurd (oY) Cl
 refine rP 4 [] mn ?_
 refine cu (t:=71) U (aW fun Cp=>?_) (aV fun Cp=>?_)
 ·exact absurd (Pw.1) Cp
 refine rP 4 [] mn ?_
 refine cu (t:=75) U (aW fun Cx=>?_) (aV fun Cx=>?_)
 ·exact absurd (Pw.2) Cx
 refine rP 4 [] mn ?_
 refine cu (t:=79) U (aW fun C0=>?_) (aV fun C0=>?_)
 ·exact absurd (Py.1) C0
 refine rP 4 [] mn ?_
 refine RK Di<|av<|Q1 hQ U U U ?_
 exact cB (dM Py.2)
end
section
open Go.RowKit
theorem Ce (j:cR) (kA:OA) (kC:Nat) (az:List RA) (cA:OA) (cC:Nat) (bA:OA) (bC:Nat) (slA:OA) (slC:Nat) (drA:OA) (drC:Nat) (ha:List cN) (heA:OA) (heC:Nat) (faA:OA) (faC:Nat) (prA:OA) (prC:Nat) (later:Int) (hraw:po j az ha) (hmb:0≤later∧later≤4294967295):
 dN Tryz.prog 6 [(vA (eD.cells (nN j kA kC cA cC bA bC slA slC drA drC heA heC faA faC prA prC))),(Value.int .u32 later)] [(rd gK 3 2 fK),(rd kA j.Race.ak.aR.length 9 (j.Race.ak.aR.map ar.cells)),(rd cA j.Race.ak.aj.length 2 (List.zipWith ax.cells j.Race.ak.aj az)),(dV (a_ ax.gG j.Race.ak.aj az)),(rd bA j.Race.ak.ab.length 4 (j.Race.ak.ab.map bJ.cells)),(rd slA j.Race.aY.length 1 (j.Race.aY.map iC)),(rd drA j.Race.b_.length 1 (j.Race.b_.map iC)),(rd heA j.Race.aA.length 1 (List.zipWith cq j.Race.aA ha)),(dV (a_ eV j.Race.aA ha)),(rd faA j.aC.length 4 (j.aC.map aL.cells)),(rd prA j.aw.length 5 (j.aw.map aT.cells))] (vB true):=by
 refine bH kr Tryz.func6 U U fun w0 Q hQ hN=>?_
 try dsimp only
 refine WS fun _ Yo=>eT U fun b2=>bG 1 U<|RK Yo<|WS fun _ Yp=>rS (CL Kg (bq [1]) U)<|bG 1 U<|RK Yp<|aq fun _ Yq=>WS fun _ R7=>fD 1 [] (mc 0 U mn) U<|rS (CL (DQ j kA kC az cA cC bA bC slA slC drA drC ha heA heC faA faC prA prC hraw) (bq [2,3,4,5,6,7,8,9,10,11]) U)<|rP 2 [] mn ?_
 refine cg (t:=41) U (bB fun K=>?_) (bx fun K=>?_)
 ·refine bG 1 U<|bG 2 U<|RK R7<|aU U<|WS fun _ Yr=>rP 2 [] mn ?_
  refine RK Yr<|av<|Q1 hQ U U U ?_
  rfl
 refine rP 1 [] mn ?_
 have Z:=hraw.small K.1
 have YI:=Z.race
 have Yw:=Z.race.line
 have ZB:=Z.race.iJ
 have ZC:=Z.race.has
 have Y8:=Z.race.iK
 have Y3:=Z.nf
 have Y7:=Z.np
 have w:=(dF K.2).1
 have AR:=(dF K.2).2
 have YC:=(d_ w).1
 have YJ:=(d_ w).2
 have Yu:=(dq YC).2.head
 unfold eY at Yu
 have ZG:=YJ.num
 have ZF:=YJ.nh
 have ZE:=AR.nf
 have ZH:=AR.np
 have Y_:=AR.ui
 have Y9:=Z.race.line.rn
 refine bG 2 U<|RK R7<|ct U<|WK Yq<|WS fun _ Ys=>bG 1 U<|rS (SX (qo (m:=later) U U Uk um (Bz (by first|assumption|omega))) U U)<|rS (BI U (PD I I))<|rP 1 [] mn ?_
 refine RK Ys<|aq fun _ Yt=>?_
 have Yx:=Ug later 1000000 hmb.1 I
 obtain ⟨nn,YD⟩: ∃ z:Int,(later % 1000000)=z:=⟨_,rfl⟩
 rw [YD]
 rw [YD] at Yx
 refine ay<|rP 1 [] (mc 0 U mn) ?_
 refine cX (Pq j kA kC az cA cC bA bC slA slC drA drC ha heA heC faA faC prA prC (by exact Z) (by exact K.1)) (bq [2,3,4,5,6,7,8,9,10,11]) U fun y9 YN=>?_
 obtain ⟨P,AA,L,N,C,R,V,S,W,T,X,M,O,B,F,G,H,AB⟩:=y9
 try dsimp only
 obtain ⟨⟨Y,X_⟩,e⟩:=YN
 try dsimp only at Y X_ e
 have hin2r:=YI.So Y X_ e
 have YB:gY j _ _:=⟨hin2r,Z.nf,Z.np,Z.kind⟩
 obtain ⟨ZL,YE⟩:=dq YC
 have Y5:=e.1
 refine AL U Sj fun Ae=>gl U Rn U<|RK Yt<|aq fun _ Qr=>aq fun _ Q4=>?_
 rw [show (bK (a_ ax.owns j.Race.ak.aj C))=(bK (a_ ax.owns (df (eX nn) 0 j.Race.ak.aj) C)) from by rw [kS]]
 refine ay<|rP 6 [] (mc 0 U mn) ?_
 refine RK Q4<|aG ?_
 have A:(0≤j.Race.ak.aj.length):=by exact Nat.zero_le _
 refine bS (ι:={z:Nat // (z≤j.Race.ak.aj.length)}) [2,5,6,7,55] [0,1,2,4,5,6,7,8,9,10,11,12,13,14,15,16,17,18,19,20,21,22] U U (fun z=>[(56,(vI (z.1:Int)))]) (fun z=>[(bK (a_ ax.owns (df (eX nn) z.1 j.Race.ak.aj) C))]) (fun _=>rfl) (fun _=>rfl) (fun z=>j.Race.ak.aj.length-z.1) ⟨0,A⟩ (bw U) (aS [0,1,2,4,5,6,7,8,9,10,11,12,13,14,15,16,17,18,19,20,21,22,3]) ?_
 clear A
 rintro ⟨i,Yv⟩ J32 PP
 try dsimp only
 refine WS fun _ Q5=>rP 1 [] mn ?_
 refine RK Q5<|aq fun _ RU=>cG U (aV fun Yg=>?_) (aW fun Yg=>?_)
 ·refine WK RU<|aq fun _ Rc=>aG<|WS fun _ Rr=>bG 2 U<|RK Rr<|WS fun _ R0=>rP 5 [] (mc 0 U mn) ?_
  obtain ⟨x,hx⟩:=aM j.Race.ak.aj i I
  obtain ⟨xa,Lk⟩:=aM C i I
  have YL:(List.zipWith ax.cells j.Race.ak.aj C)[i]? =some (ax.cells x xa):=dH hx Lk
  refine rS (IA i U (au (n:=j.Race.ak.aj.length) 2 U (g7 Y)) x9 dc I I)<|rS (nv ((i*2)+1) U (au (n:=j.Race.ak.aj.length) 2 U (g7 Y)) (Nat.mul_pos I dc) eP U)<|rS (hP i 1 (vS xa.1 x.bu.length xa.2) U cf (au (n:=j.Race.ak.aj.length) 2 U (g7 Y)) YL U dc U)<|rP 2 [] mn ?_
  refine RK R0<|aG ?_
  have ZM:=(YE.clock _ (aQ hx)).len
  refine LO (f:=ax.owns) 22 ((nR (f:=eX nn)).trans hx) Lk U U U ?_
  have YM:(df (jr nn) 0 x.bu)=x.bu:=kS
  refine AZ (C':=[(own xa.1 xa.2 75 3 ((df (jr nn) 0 x.bu).map cz.cells)),(bK (gP ax.owns (df (eX nn) i j.Race.ak.aj) C i)),(cv Ae 36 (eD.cells (eD.mk (fu.mk (cw.mk (bO.mk (bE.mk P j.Race.ak.aR.length AA)) j.Race.ak.iN (bE.mk L j.Race.ak.aj.length N) (bE.mk R j.Race.ak.ab.length V) j.Race.ak.bM j.Race.ak.fT j.Race.ak.dE) (bE.mk S j.Race.aY.length W) (bE.mk T j.Race.b_.length X) j.Race.lG (bE.mk M j.Race.aA.length O)) (bE.mk F j.aC.length G) (bE.mk H j.aw.length AB) j.eh j.xA))),(own P AA 118 9 (j.Race.ak.aR.map ar.cells)),(own L N 73 2 (List.zipWith ax.cells j.Race.ak.aj C)),(own R V 122 4 (j.Race.ak.ab.map bJ.cells)),(own S W 3 1 (j.Race.aY.map iC)),(own T X 3 1 (j.Race.b_.map iC)),(own M O 51 1 (List.zipWith cq j.Race.aA B)),(bK (a_ jT j.Race.aA B)),(own F G 80 4 (j.aC.map aL.cells)),(own H AB 47 5 (j.aw.map aT.cells)),(cv b2 36 (eD.cells (nN j kA kC cA cC bA bC slA slC drA drC heA heC faA faC prA prC))),(rd gK 3 2 fK).ro,(rd kA j.Race.ak.aR.length 9 (j.Race.ak.aR.map ar.cells)).ro,(rd cA j.Race.ak.aj.length 2 (List.zipWith ax.cells j.Race.ak.aj az)).ro,(dV (a_ ax.gG j.Race.ak.aj az)).ro,(rd bA j.Race.ak.ab.length 4 (j.Race.ak.ab.map bJ.cells)).ro,(rd slA j.Race.aY.length 1 (j.Race.aY.map iC)).ro,(rd drA j.Race.b_.length 1 (j.Race.b_.map iC)).ro,(rd heA j.Race.aA.length 1 (List.zipWith cq j.Race.aA ha)).ro,(dV (a_ eV j.Race.aA ha)).ro,(rd faA j.aC.length 4 (j.aC.map aL.cells)).ro,(rd prA j.aw.length 5 (j.aw.map aT.cells)).ro]) (by rw [YM]<;>rfl) ?_
  have A:(0≤x.bu.length):=by exact Nat.zero_le _
  refine bS (ι:={z:Nat // (z≤x.bu.length)}) [2,5,6,7,8,55,56,67] [1,2,3,4,5,6,7,8,9,10,11,12,13,14,15,16,17,18,19,20,21,22,23] U U (fun z=>[(68,(vI (z.1:Int)))]) (fun z=>[(own xa.1 xa.2 75 3 ((df (jr nn) z.1 x.bu).map cz.cells))]) (fun _=>rfl) (fun _=>rfl) (fun z=>x.bu.length-z.1) ⟨0,A⟩ (bw U) (aS [1,2,3,4,5,6,7,8,9,10,11,12,13,14,15,16,17,18,19,20,21,22,23,0]) ?_
  clear A
  rintro ⟨k,YX⟩ J39 Pi
  try dsimp only
  have Li:(df (jr nn) k x.bu).length=x.bu.length:=iO
  refine WS fun _ R1=>rP 1 [] mn ?_
  refine RK R1<|aq fun _ R2=>bV U (aW fun Yh=>?_) (aV fun Yh=>?_)
  ·refine bL<|ai<|ai<|aI<|aO<|KK Rc<|ay<|rP 2 [] mn ?_
   refine aJ ?_
   rw [show df (jr nn) k x.bu=(eX nn x).bu from oF I]
   refine GS (f:=ax.owns) (ms:=df (eX nn) i j.Race.ak.aj) (m:=eX nn x) 0 23 (by rw [iO]; omega) Lk U U U ?_
   rw [nj hx]
   have Xg:(vI (((i+1):Nat):Int))=(vI ((i:Int)+1)):=by exact cI I
   refine bj (PP ⟨(i+1),(by first|omega|(simp only []; omega))⟩ _ _ _ U os (cQ 5<|bk U Xg<|dx.nil _) (aS [1,2,3,4,5,6,7,8,9,10,11,12,13,14,15,16,17,18,19,20,21,22,0]))
  refine WK R2<|aq fun _ R3=>aG<|WS fun _ R4=>bG 2 U<|RK R4<|ay<|fD 5 [] (mc 1 U mn) U<|rS (IA i U (au (n:=j.Race.ak.aj.length) 3 U (g7 Y)) x9 dc I I)<|rS (nv ((i*2)+1) U (au (n:=j.Race.ak.aj.length) 3 U (g7 Y)) (Nat.mul_pos I dc) eP U)<|rS (hP i 1 (vS xa.1 x.bu.length xa.2) U cf (au (n:=j.Race.ak.aj.length) 3 U (g7 Y)) YL U dc U)<|rP 1 [] mn ?_
  obtain ⟨y,hy⟩:=aM (df (jr nn) k x.bu) k I
  have YO:=bQ cz.cells hy
  refine rS (IA k U (au (n:=x.bu.length) 23 U sq) vM dc I I) ?_
  refine rS (nv (k*3) U (au (n:=(df (jr nn) k x.bu).length) 23 U sm) (Nat.mul_pos I dc) eP U)<|rS (hP k 0 (vI y.At) U cf (au (n:=(df (jr nn) k x.bu).length) 23 U sm) YO U dc U) ?_
  have YP:=nR.symm.trans hy
  have ZN:=(YE.clock _ (aQ hx)).uc YP
  refine rP 2 [] mn ?_
  refine rS (IA k U (au (n:=x.bu.length) 23 U sq) vM dc I I) ?_
  refine rS (nv (k*3) U (au (n:=(df (jr nn) k x.bu).length) 23 U sm) (Nat.mul_pos I dc) eP U) ?_
  have XN:((df (jr nn) k x.bu).set k (cz.mk (y.At+nn) y.eB))=(df (jr nn) (k+1) x.bu):=by exact nj (f:=jr nn) YP
  refine eE (k:=k) (o:=0) (vs:=[(vI (y.At+nn))]) (es':=(List.map cz.cells (df (jr nn) (k+1) x.bu))) (C':=[_,_,_,_,_,_,_,_,_,_,_,_,_,_,_,_,_,_,_,_,_,_,_,(own xa.1 xa.2 75 3 (List.map cz.cells (df (jr nn) (k+1) x.bu)))]) 23 U U U zM U U U U YO U dc (by exact (List.map_set (f:=cz.cells) (l:=(df (jr nn) k x.bu)) (i:=k) (a:=(cz.mk (y.At+nn) y.eB))).symm.trans (congrArg _ XN)) U<|aJ<|aO<|KK R3<|ay<|rP 2 [] mn ?_
  refine aJ ?_
  have XS:(vI (((k+1):Nat):Int))=(vI ((k:Int)+1)):=by exact cI I
  refine bj (Pi ⟨(k+1),(by first|omega|(simp only []; omega))⟩ _ _ _ U os (cQ 8<|bk U XS<|dx.nil _) (aS [0,1,2,3,4,5,6,7,8,9,10,11,12,13,14,15,16,17,18,19,20,21,22,23]))
 refine bL<|ai<|ai<|aI<|KK Qr<|aq fun _ R5=>aq fun _ R6=>?_
 rw [show df (eX nn) i j.Race.ak.aj=j.Race.ak.aj.map (eX nn) from oF I]
 rw [show (List.zipWith ax.cells j.Race.ak.aj C)=(List.zipWith ax.cells (j.Race.ak.aj.map (eX nn)) C) from Hg.symm]
 rw [show bE.mk L j.Race.ak.aj.length N=bE.mk L ((j.Race.ak.aj.map (eX nn)).length) N from by rw [List.length_map]]
 rw [show (bK (a_ jT j.Race.aA B))=(bK (a_ jT (df (fun x=>x.map (dg nn)) 0 j.Race.aA) B)) from by rw [kS]]
 refine ay<|rP 5 [] (mc 0 U mn) ?_
 refine RK R6<|aG ?_
 have A:(0≤j.Race.aA.length):=by exact Nat.zero_le _
 refine bS (ι:={z:Nat // (z≤j.Race.aA.length)}) [2,5,6,7,92] [0,1,2,3,4,5,6,8,9,10,11,12,13,14,15,16,17,18,19,20,21,22] U U (fun z=>[(93,(vI (z.1:Int)))]) (fun z=>[(bK (a_ jT (df (fun x=>x.map (dg nn)) z.1 j.Race.aA) B))]) (fun _=>rfl) (fun _=>rfl) (fun z=>j.Race.aA.length-z.1) ⟨0,A⟩ (bw U) (aS [0,1,2,3,4,5,6,8,9,10,11,12,13,14,15,16,17,18,19,20,21,22,7]) ?_
 clear A
 rintro ⟨h,YY⟩ J50 Pl
 try dsimp only
 refine WS fun _ R8=>rP 1 [] mn ?_
 refine RK R8<|aq fun _ R9=>cG U (aV fun Yi=>?_) (aW fun Yi=>?_)
 ·refine WK R9<|aq fun _ SA=>aG<|WS fun _ SN=>bG 2 U<|RK SN<|WS fun _ ST=>rP 4 [] (mc 0 U mn) ?_
  obtain ⟨ht,r⟩:=aM j.Race.aA h I
  obtain ⟨E,q⟩:=aM B h I
  have Cx:(List.zipWith cq j.Race.aA B)[h]? =some (cq ht E):=dH r q
  have La:=hin2r.gM _ _ _ r q
  have ZP:=La.n_
  have Y4:=La.len
  refine rS (IA h U (au (n:=j.Race.aA.length) 6 U (fB e.1)) oQ dc I I)<|rS (hP h 0 (vS E.1.1 ht.length E.1.2) U cf (au (n:=j.Race.aA.length) 6 U (fB e.1)) Cx U dc U)<|rP 2 [] mn ?_
  refine RK ST<|aG<|Rm (k:=h) 22 (nR.trans r) q U U ?_
  rw [show (List.zipWith ao.cells ht E.2)=(List.zipWith ao.cells (df (dg nn) 0 ht) E.2) from by rw [kS],show (bK (a_ ru ht E.2))=(bK (a_ ru (df (dg nn) 0 ht) E.2)) from by rw [kS]]
  have A:(0≤ht.length):=by exact Nat.zero_le _
  refine bS (ι:={z:Nat // (z≤ht.length)}) [2,5,6,7,10,92,93,102] [2,3,4,5,6,7,8,9,10,11,12,13,14,15,16,17,18,19,20,21,22,23,24] U U (fun z=>[(103,(vI (z.1:Int)))]) (fun z=>[(own E.1.1 E.1.2 58 7 (List.zipWith ao.cells (df (dg nn) z.1 ht) E.2)),(bK (a_ ru (df (dg nn) z.1 ht) E.2))]) (fun _=>rfl) (fun _=>rfl) (fun z=>ht.length-z.1) ⟨0,A⟩ (bw U) (aS [2,3,4,5,6,7,8,9,10,11,12,13,14,15,16,17,18,19,20,21,22,23,24,0,1]) ?_
  clear A
  rintro ⟨i,YZ⟩ J57 B3
  try dsimp only
  refine WS fun _ Sf=>rP 1 [] mn ?_
  refine RK Sf<|aq fun _ Sz=>bV U (aW fun Yj=>?_) (aV fun Yj=>?_)
  ·refine bL<|ai<|ai<|aI<|aO<|KK SA<|ay<|rP 2 [] mn ?_
   refine aJ ?_
   rw [show (df (dg nn) i ht)=ht.map (dg nn) from oF I]
   refine OP (h':=ht.map (dg nn)) (a':=E) 0 24 23 (by rw [iO]; omega) (by have:=(aX.1 q).1; exact this) U U (Iw r q) ?_
   have X6:(vI (((h+1):Nat):Int))=(vI ((h:Int)+1)):=by exact cI I
   refine bj (Pl ⟨(h+1),(by first|omega|(simp only []; omega))⟩ _ _ _ U os (cQ 5<|bk U X6<|dx.nil _) (aS [1,2,3,4,5,6,7,8,9,10,11,12,13,14,15,16,17,18,19,20,21,22,0]))
  refine WK Sz<|aq fun _ B9=>aG<|WS fun _ S1=>rP 2 [] mn ?_
  refine RK S1<|aq fun _ S2=>?_
  obtain ⟨d,hd⟩:=aM ht i I
  obtain ⟨da,c⟩:=aM E.2 i I
  have LB:(List.zipWith ao.cells (df (dg nn) i ht) E.2)[i]? =some (ao.cells d da):=dH (nR.trans hd) c
  have ZK:=La.sig d (aQ hd)
  refine Ea 23 U (by rw [List.length_zipWith,iO]; omega) (fun Y1 D=>?_)
  refine ay<|fD 4 [] (mc 1 U mn) U<|rS (IA h U (au (n:=j.Race.aA.length) 7 U (fB e.1)) oQ dc I I)<|rS (hP h 0 (vS E.1.1 ht.length E.1.2) U cf (au (n:=j.Race.aA.length) 7 U (fB e.1)) Cx U dc U)<|bG 1 U<|rS (XL i U D r8 I I)<|bG 1 U<|RK S2<|aq fun _ Tw=>WS fun _ T0=>rP 1 [] mn ?_
  refine rS (SX (mJ U U D) U U) ?_
  refine rS (mq i 0 (aP.cells (aP.mk d.Out d.cY d.Time (cM.mk d.aZ.Start d.aZ.fI (bE.mk da.1 d.aZ.aa.length da.2)))) U cf (au (n:=(df (dg nn) i ht).length) 23 U (by rw [List.length_zipWith]; (simp only [iO]; omega))) LB U dc U U) ?_
  refine rS (CL (KR d.Out d.cY d.Time (cM.mk d.aZ.Start d.aZ.fI (bE.mk da.1 d.aZ.aa.length da.2))) (aN) U)<|rP 1 [] mn ?_
  refine RK T0<|cG U (bB fun AD=>?_) (bx fun AD=>?_)
  ·refine bL<|ai<|aI<|KK B9<|ay<|rP 2 [] mn ?_
   refine aJ ?_
   rw [show (df (dg nn) i ht)=(df (dg nn) (i+1) ht) from (H2 hd (w8 (Pk w r hd AD))).symm]
   have Xk:(vI (((i+1):Nat):Int))=(vI ((i:Int)+1)):=by exact cI I
   refine bj (B3 ⟨(i+1),(by first|omega|(simp only []; omega))⟩ _ _ _ U os (cQ 8<|bk U Xk<|dx.nil _) (aS [0,1,2,3,4,5,6,7,8,9,10,11,12,13,14,15,16,17,18,19,20,21,22,23,24]))
  refine WK Tw<|WS fun _ T4=>rP 1 [] mn ?_
  refine rS (SX (mJ U U D) U U)<|rS (I6 ((i*7)+4) U D eP U) ?_
  have LA:=LG w r hd AD
  have Yy:=EY w r hd LA
  refine rS (I6 ((i*7)+4) U D eP U) ?_
  refine rS (hP i 4 (vI d.aZ.Start) U cf (au (n:=(df (dg nn) i ht).length) 23 U (by rw [List.length_zipWith]; (simp only [iO]; omega))) LB U dc U) ?_
  refine bG 2 U<|rS (SX (mJ U U D) U U)<|rS (I6 ((i*7)+4) U D eP U)<|rS (I6 ((i*7)+4) U D eP U)<|eE (k:=i) (o:=4) (vs:=[(vI (d.aZ.Start+nn))]) (es':=(List.zipWith ao.cells ((df (dg nn) i ht).set i (xp nn d)) E.2)) (C':=[_,_,_,_,_,_,_,_,_,_,_,_,_,_,_,_,_,_,_,_,_,_,_,(own E.1.1 E.1.2 58 7 (List.zipWith ao.cells ((df (dg nn) i ht).set i (xp nn d)) E.2)),_]) 23 U U U zM U U U U LB U dc (by exact MH (d:=d) c) U<|RK T4<|WS fun _ T5=>rP 1 [] mn ?_
  refine rS (SX (mJ U U D) U U)<|rS (I6 ((i*7)+4) U D eP U)<|rS (I6 (((i*7)+4)+1) U D eP U) ?_
  have Ci:(List.zipWith ao.cells ((df (dg nn) i ht).set i (xp nn d)) E.2)[i]? =some (ao.cells (xp nn d) da):=F3 I c
  refine rS (hP i 5 (vI d.aZ.fI) U cf (au (n:=((df (dg nn) i ht).set i (xp nn d)).length) 23 U (by rw [List.length_zipWith]; (simp only [iO,List.length_set]; omega))) Ci U dc U) ?_
  refine bG 2 U<|rS (SX (mJ U U D) U U)<|rS (I6 ((i*7)+4) U D eP U)<|rS (I6 (((i*7)+4)+1) U D eP U)<|eE (k:=i) (o:=5) (vs:=[(vI (d.aZ.fI+nn))]) (es':=(List.zipWith ao.cells ((df (dg nn) i ht).set i (q6 nn d)) E.2)) (C':=[_,_,_,_,_,_,_,_,_,_,_,_,_,_,_,_,_,_,_,_,_,_,_,(own E.1.1 E.1.2 58 7 (List.zipWith ao.cells ((df (dg nn) i ht).set i (q6 nn d)) E.2)),_]) 23 U U U zM U U U U Ci U dc (by exact Lq (d:=d) c) U<|RK T5<|WS fun _ T6=>rP 1 [] mn ?_
  refine rS (SX (mJ U U D) U U)<|rS (I6 ((i*7)+4) U D eP U)<|rS (I6 (((i*7)+4)+2) U D eP U) ?_
  have Ck:(List.zipWith ao.cells ((df (dg nn) i ht).set i (q6 nn d)) E.2)[i]? =some (ao.cells (q6 nn d) da):=F3 I c
  refine rS (hP i 6 (vS da.1 d.aZ.aa.length da.2) U cf (au (n:=((df (dg nn) i ht).set i (q6 nn d)).length) 23 U (by rw [List.length_zipWith]; (simp only [iO,List.length_set]; omega))) Ck U dc U) ?_
  refine rP 2 [] mn ?_
  refine RK T6<|aG<|LO (f:=ru) 24 (nR.trans hd) c U U U ?_
  have YK:(df (gZ nn) 0 d.aZ.aa)=d.aZ.aa:=kS
  refine AZ (C':=[(own da.1 da.2 78 2 ((df (gZ nn) 0 d.aZ.aa).map aH.cells)),(bK (gP ru (df (dg nn) i ht) E.2 i)),(bK (gP jT (df (fun x=>x.map (dg nn)) h j.Race.aA) B h)),(cv Ae 36 (eD.cells (eD.mk (fu.mk (cw.mk (bO.mk (bE.mk P j.Race.ak.aR.length AA)) j.Race.ak.iN (bE.mk L ((j.Race.ak.aj.map (eX nn)).length) N) (bE.mk R j.Race.ak.ab.length V) j.Race.ak.bM j.Race.ak.fT j.Race.ak.dE) (bE.mk S j.Race.aY.length W) (bE.mk T j.Race.b_.length X) j.Race.lG (bE.mk M j.Race.aA.length O)) (bE.mk F j.aC.length G) (bE.mk H j.aw.length AB) j.eh j.xA))),(own P AA 118 9 (j.Race.ak.aR.map ar.cells)),(own L N 73 2 (List.zipWith ax.cells (j.Race.ak.aj.map (eX nn)) C)),(own R V 122 4 (j.Race.ak.ab.map bJ.cells)),(own S W 3 1 (j.Race.aY.map iC)),(own T X 3 1 (j.Race.b_.map iC)),(own M O 51 1 (List.zipWith cq j.Race.aA B)),(own F G 80 4 (j.aC.map aL.cells)),(own H AB 47 5 (j.aw.map aT.cells)),(cv b2 36 (eD.cells (nN j kA kC cA cC bA bC slA slC drA drC heA heC faA faC prA prC))),(rd gK 3 2 fK).ro,(rd kA j.Race.ak.aR.length 9 (j.Race.ak.aR.map ar.cells)).ro,(rd cA j.Race.ak.aj.length 2 (List.zipWith ax.cells j.Race.ak.aj az)).ro,(dV (a_ ax.gG j.Race.ak.aj az)).ro,(rd bA j.Race.ak.ab.length 4 (j.Race.ak.ab.map bJ.cells)).ro,(rd slA j.Race.aY.length 1 (j.Race.aY.map iC)).ro,(rd drA j.Race.b_.length 1 (j.Race.b_.map iC)).ro,(rd heA j.Race.aA.length 1 (List.zipWith cq j.Race.aA ha)).ro,(dV (a_ eV j.Race.aA ha)).ro,(rd faA j.aC.length 4 (j.aC.map aL.cells)).ro,(rd prA j.aw.length 5 (j.aw.map aT.cells)).ro,(bK (a_ ax.owns (j.Race.ak.aj.map (eX nn)) C)),(own E.1.1 E.1.2 58 7 (List.zipWith ao.cells ((df (dg nn) i ht).set i (q6 nn d)) E.2))]) (by rw [YK]<;>rfl) ?_
  have A:(0≤d.aZ.aa.length):=by exact Nat.zero_le _
  refine bS (ι:={z:Nat // (z≤d.aZ.aa.length)}) [2,5,6,7,10,11,12,92,93,102,103,144] [1,2,3,4,5,6,7,8,9,10,11,12,13,14,15,16,17,18,19,20,21,22,23,24,25] U U (fun z=>[(145,(vI (z.1:Int)))]) (fun z=>[(own da.1 da.2 78 2 ((df (gZ nn) z.1 d.aZ.aa).map aH.cells))]) (fun _=>rfl) (fun _=>rfl) (fun z=>d.aZ.aa.length-z.1) ⟨0,A⟩ (bw U) (aS [1,2,3,4,5,6,7,8,9,10,11,12,13,14,15,16,17,18,19,20,21,22,23,24,25,0]) ?_
  clear A
  rintro ⟨g,Ya⟩ J72 QH
  try dsimp only
  have Li:(df (gZ nn) g d.aZ.aa).length=d.aZ.aa.length:=iO
  refine WS fun _ T7=>rP 1 [] mn ?_
  refine RK T7<|aq fun _ T8=>bV U (aW fun Yk=>?_) (aV fun Yk=>?_)
  ·refine bL<|ai<|ai<|aI<|aO<|KK B9<|ay<|rP 2 [] mn ?_
   refine aJ ?_
   rw [show df (gZ nn) g d.aZ.aa=(fR nn d.aZ).aa from oF I]
   refine GS (f:=ru) (ms:=(df (dg nn) i ht)) (m:=⟨d.Out,d.cY,d.Time,fR nn d.aZ⟩) 0 25 (by rw [iO]; omega) c U U U ?_
   rw [B6 hd (rL LA),O8 hd c LA]
   have X5:(vI (((i+1):Nat):Int))=(vI ((i:Int)+1)):=by exact cI I
   refine bj (B3 ⟨(i+1),(by first|omega|(simp only []; omega))⟩ _ _ _ U os (cQ 8<|bk U X5<|dx.nil _) (aS [1,2,3,4,5,6,7,8,9,10,11,12,13,14,15,16,17,18,19,20,21,22,23,24,0]))
  refine WK T8<|aq fun _ T9=>aG<|WS fun _ UV=>bG 2 U<|RK UV<|ay<|rP 1 [] mn ?_
  refine rS (SX (mJ U U D) U U)<|rS (I6 ((i*7)+4) U D eP U)<|rS (I6 (((i*7)+4)+2) U D eP U) ?_
  refine rS (hP i 6 (vS da.1 d.aZ.aa.length da.2) U cf (au (n:=((df (dg nn) i ht).set i (q6 nn d)).length) 24 U (by rw [List.length_zipWith]; (simp only [iO,List.length_set]; omega))) Ck U dc U) ?_
  refine rP 1 [] mn ?_
  obtain ⟨z,YQ⟩:=aM (df (gZ nn) g d.aZ.aa) g I
  have hz9m:=bQ aH.cells YQ
  refine rS (IA g U (au (n:=d.aZ.aa.length) 25 U sq) xI dc I I) ?_
  refine rS (nv ((g*2)+1) U (au (n:=(df (gZ nn) g d.aZ.aa).length) 25 U sm) (Nat.mul_pos I dc) eP U)<|rS (hP g 1 (vI z.Read) U cf (au (n:=(df (gZ nn) g d.aZ.aa).length) 25 U sm) hz9m U dc U) ?_
  have YR:=nR.symm.trans YQ
  have ZO:=Yy.2.2 z (aQ YR)
  refine rP 2 [] mn ?_
  refine rS (IA g U (au (n:=d.aZ.aa.length) 25 U sq) xI dc I I) ?_
  refine rS (nv ((g*2)+1) U (au (n:=(df (gZ nn) g d.aZ.aa).length) 25 U sm) (Nat.mul_pos I dc) eP U) ?_
  have X1:((df (gZ nn) g d.aZ.aa).set g (aH.mk z.eZ (z.Read+nn)))=(df (gZ nn) (g+1) d.aZ.aa):=by exact nj (f:=gZ nn) YR
  refine eE (k:=g) (o:=1) (vs:=[(vI (z.Read+nn))]) (es':=(List.map aH.cells (df (gZ nn) (g+1) d.aZ.aa))) (C':=[_,_,_,_,_,_,_,_,_,_,_,_,_,_,_,_,_,_,_,_,_,_,_,_,_,(own da.1 da.2 78 2 (List.map aH.cells (df (gZ nn) (g+1) d.aZ.aa)))]) 25 U U U zM U U U U hz9m U dc (by exact (List.map_set (f:=aH.cells) (l:=(df (gZ nn) g d.aZ.aa)) (i:=g) (a:=(aH.mk z.eZ (z.Read+nn)))).symm.trans (congrArg _ X1)) U<|aJ<|aO<|KK T9<|ay<|rP 2 [] mn ?_
  refine aJ ?_
  have X4:(vI (((g+1):Nat):Int))=(vI ((g:Int)+1)):=by exact cI I
  refine bj (QH ⟨(g+1),(by first|omega|(simp only []; omega))⟩ _ _ _ U os (cQ 12<|bk U X4<|dx.nil _) (aS [0,1,2,3,4,5,6,7,8,9,10,11,12,13,14,15,16,17,18,19,20,21,22,23,24,25]))
 refine bL<|ai<|ai<|aI<|KK R5<|aq fun _ VO=>aq fun _ Vs=>?_
 rw [show df (fun x=>x.map (dg nn)) h j.Race.aA=(e8 nn j.Race).aA from oF I]
 have b:v7 (e8 nn j.Race).aA B:=Mk I e.2
 rw [show (List.zipWith cq j.Race.aA B)=(List.zipWith cq (e8 nn j.Race).aA B) from IX rfl]
 rw [show bE.mk M j.Race.aA.length O=bE.mk M ((e8 nn j.Race).aA.length) O from by rw [show (e8 nn j.Race).aA.length=j.Race.aA.length from List.length_map _]]
 have Y2:(df (dh nn) 0 j.aC)=j.aC:=kS
 refine AZ (C':=[(cv Ae 36 (eD.cells (eD.mk (fu.mk (cw.mk (bO.mk (bE.mk P j.Race.ak.aR.length AA)) j.Race.ak.iN (bE.mk L ((j.Race.ak.aj.map (eX nn)).length) N) (bE.mk R j.Race.ak.ab.length V) j.Race.ak.bM j.Race.ak.fT j.Race.ak.dE) (bE.mk S j.Race.aY.length W) (bE.mk T j.Race.b_.length X) j.Race.lG (bE.mk M ((e8 nn j.Race).aA.length) O)) (bE.mk F j.aC.length G) (bE.mk H j.aw.length AB) j.eh j.xA))),(own P AA 118 9 (j.Race.ak.aR.map ar.cells)),(own L N 73 2 (List.zipWith ax.cells (j.Race.ak.aj.map (eX nn)) C)),(own R V 122 4 (j.Race.ak.ab.map bJ.cells)),(own S W 3 1 (j.Race.aY.map iC)),(own T X 3 1 (j.Race.b_.map iC)),(own M O 51 1 (List.zipWith cq (e8 nn j.Race).aA B)),(own F G 80 4 ((df (dh nn) 0 j.aC).map aL.cells)),(own H AB 47 5 (j.aw.map aT.cells)),(cv b2 36 (eD.cells (nN j kA kC cA cC bA bC slA slC drA drC heA heC faA faC prA prC))),(rd gK 3 2 fK).ro,(rd kA j.Race.ak.aR.length 9 (j.Race.ak.aR.map ar.cells)).ro,(rd cA j.Race.ak.aj.length 2 (List.zipWith ax.cells j.Race.ak.aj az)).ro,(dV (a_ ax.gG j.Race.ak.aj az)).ro,(rd bA j.Race.ak.ab.length 4 (j.Race.ak.ab.map bJ.cells)).ro,(rd slA j.Race.aY.length 1 (j.Race.aY.map iC)).ro,(rd drA j.Race.b_.length 1 (j.Race.b_.map iC)).ro,(rd heA j.Race.aA.length 1 (List.zipWith cq j.Race.aA ha)).ro,(dV (a_ eV j.Race.aA ha)).ro,(rd faA j.aC.length 4 (j.aC.map aL.cells)).ro,(rd prA j.aw.length 5 (j.aw.map aT.cells)).ro,(bK (a_ ax.owns (j.Race.ak.aj.map (eX nn)) C)),(bK (a_ jT (e8 nn j.Race).aA B))]) (by rw [show (df (dh nn) 0 j.aC)=j.aC from kS])<|ay<|rP 4 [] (mc 0 U mn) ?_
 refine RK Vs<|aG ?_
 have A:(0≤j.aC.length):=by exact Nat.zero_le _
 refine bS (ι:={z:Nat // (z≤j.aC.length)}) [2,5,6,7,166] [0,1,2,3,4,5,6,8,9,10,11,12,13,14,15,16,17,18,19,20,21,22] U U (fun z=>[(167,(vI (z.1:Int)))]) (fun z=>[(own F G 80 4 ((df (dh nn) z.1 j.aC).map aL.cells))]) (fun _=>rfl) (fun _=>rfl) (fun z=>j.aC.length-z.1) ⟨0,A⟩ (bw U) (aS [0,1,2,3,4,5,6,8,9,10,11,12,13,14,15,16,17,18,19,20,21,22,7]) ?_
 clear A
 rintro ⟨k,Yb⟩ J84 Qi
 try dsimp only
 have Li:(df (dh nn) k j.aC).length=j.aC.length:=iO
 refine WS fun _ WE=>rP 1 [] mn ?_
 refine RK WE<|aq fun _ WF=>cG U (aV fun Ym=>?_) (aW fun Ym=>?_)
 ·refine WK WF<|aq fun _ WG=>aG<|WS fun _ WP=>bG 2 U<|RK WP<|WS fun _ WV=>rP 3 [] (mc 0 U mn) ?_
  obtain ⟨f,hf⟩:=aM (df (dh nn) k j.aC) k I
  have YA:=bQ aL.cells hf
  refine rS (IA k U (au (n:=j.aC.length) 22 U sq) vV dc I I) ?_
  refine rS (nv ((k*4)+2) U (au (n:=(df (dh nn) k j.aC).length) 22 U (by (simp; done))) (Nat.mul_pos I dc) eP U) ?_
  refine rS (hP k 2 (vI f.gI) U cf (au (n:=(df (dh nn) k j.aC).length) 22 U (by (simp; done))) YA U dc U) ?_
  have LT:=nR.symm.trans hf
  have ZA:=(AR.fault f (aQ LT)).2.1
  refine rP 2 [] mn ?_
  refine rS (IA k U (au (n:=j.aC.length) 22 U sq) vV dc I I) ?_
  refine rS (nv ((k*4)+2) U (au (n:=(df (dh nn) k j.aC).length) 22 U (by (simp; done))) (Nat.mul_pos I dc) eP U) ?_
  have X7:((df (dh nn) k j.aC).set k (aL.mk f.Kind f.eW (f.gI+nn) f.To))=((df (dh nn) k j.aC).set k (aL.mk f.Kind f.eW (f.gI+nn) f.To)):=by rfl
  refine eE (k:=k) (o:=2) (vs:=[(vI (f.gI+nn))]) (es':=(List.map aL.cells ((df (dh nn) k j.aC).set k (aL.mk f.Kind f.eW (f.gI+nn) f.To)))) (C':=[_,_,_,_,_,_,_,_,_,_,_,_,_,_,_,_,_,_,_,_,_,_,(own F G 80 4 (List.map aL.cells ((df (dh nn) k j.aC).set k (aL.mk f.Kind f.eW (f.gI+nn) f.To))))]) 22 U U U zM U U U U YA U dc (by exact (List.map_set (f:=aL.cells) (l:=(df (dh nn) k j.aC)) (i:=k) (a:=(aL.mk f.Kind f.eW (f.gI+nn) f.To))).symm.trans (congrArg _ X7)) U<|RK WV ?_
  have Y6:((df (dh nn) k j.aC).set k (aL.mk f.Kind f.eW (f.gI+nn) f.To)).length=j.aC.length:=by simp
  refine ay<|rP 3 [] (mc 0 U mn) ?_
  obtain ⟨f1,LE⟩:=aM ((df (dh nn) k j.aC).set k (aL.mk f.Kind f.eW (f.gI+nn) f.To)) k os
  have hf1m:(List.map aL.cells ((df (dh nn) k j.aC).set k (aL.mk f.Kind f.eW (f.gI+nn) f.To)))[k]? =some (aL.cells f1):=by rw [dL,LE]; rfl
  refine rS (IA k U (au (n:=j.aC.length) 22 U sq) vV dc I I) ?_
  refine rS (nv ((k*4)+3) U (au (n:=((df (dh nn) k j.aC).set k (aL.mk f.Kind f.eW (f.gI+nn) f.To)).length) 22 U (by (simp; done))) (Nat.mul_pos I dc) eP U) ?_
  refine rS (hP k 3 (vI f1.To) U cf (au (n:=((df (dh nn) k j.aC).set k (aL.mk f.Kind f.eW (f.gI+nn) f.To)).length) 22 U (by (simp; done))) hf1m U dc U) ?_
  have hf1t:=FI LT LE
  refine rP 2 [] mn ?_
  refine rS (IA k U (au (n:=j.aC.length) 22 U sq) vV dc I I) ?_
  refine rS (nv ((k*4)+3) U (au (n:=((df (dh nn) k j.aC).set k (aL.mk f.Kind f.eW (f.gI+nn) f.To)).length) 22 U (by (simp; done))) (Nat.mul_pos I dc) eP U) ?_
  have X8:(((df (dh nn) k j.aC).set k (aL.mk f.Kind f.eW (f.gI+nn) f.To)).set k (aL.mk f1.Kind f1.eW f1.gI (f1.To+nn)))=(df (dh nn) (k+1) j.aC):=by exact IJ LT LE
  refine eE (k:=k) (o:=3) (vs:=[(vI (f1.To+nn))]) (es':=(List.map aL.cells (df (dh nn) (k+1) j.aC))) (C':=[_,_,_,_,_,_,_,_,_,_,_,_,_,_,_,_,_,_,_,_,_,_,(own F G 80 4 (List.map aL.cells (df (dh nn) (k+1) j.aC)))]) 22 U U U zM U U U U hf1m U dc (by exact (List.map_set (f:=aL.cells) (l:=((df (dh nn) k j.aC).set k (aL.mk f.Kind f.eW (f.gI+nn) f.To))) (i:=k) (a:=(aL.mk f1.Kind f1.eW f1.gI (f1.To+nn)))).symm.trans (congrArg _ X8)) U<|aJ<|aO<|KK WG<|ay<|rP 2 [] mn ?_
  refine aJ ?_
  have X9:(vI (((k+1):Nat):Int))=(vI ((k:Int)+1)):=by exact cI I
  refine bj (Qi ⟨(k+1),(by first|omega|(simp only []; omega))⟩ _ _ _ U os (cQ 5<|bk U X9<|dx.nil _) (aS [0,1,2,3,4,5,6,7,8,9,10,11,12,13,14,15,16,17,18,19,20,21,22]))
 refine bL<|ai<|ai<|aI<|KK VO<|aq fun _ Wy=>aq fun _ W1=>?_
 rw [show df (dh nn) k j.aC=j.aC.map (dh nn) from oF I]
 rw [show bE.mk F j.aC.length G=bE.mk F ((j.aC.map (dh nn)).length) G from by rw [List.length_map]]
 refine AZ (C':=[(cv Ae 36 (eD.cells (eD.mk (fu.mk (cw.mk (bO.mk (bE.mk P j.Race.ak.aR.length AA)) j.Race.ak.iN (bE.mk L ((j.Race.ak.aj.map (eX nn)).length) N) (bE.mk R j.Race.ak.ab.length V) j.Race.ak.bM j.Race.ak.fT j.Race.ak.dE) (bE.mk S j.Race.aY.length W) (bE.mk T j.Race.b_.length X) j.Race.lG (bE.mk M ((e8 nn j.Race).aA.length) O)) (bE.mk F ((j.aC.map (dh nn)).length) G) (bE.mk H j.aw.length AB) j.eh j.xA))),(own P AA 118 9 (j.Race.ak.aR.map ar.cells)),(own L N 73 2 (List.zipWith ax.cells (j.Race.ak.aj.map (eX nn)) C)),(own R V 122 4 (j.Race.ak.ab.map bJ.cells)),(own S W 3 1 (j.Race.aY.map iC)),(own T X 3 1 (j.Race.b_.map iC)),(own M O 51 1 (List.zipWith cq (e8 nn j.Race).aA B)),(own H AB 47 5 ((df (gF nn) 0 j.aw).map aT.cells)),(cv b2 36 (eD.cells (nN j kA kC cA cC bA bC slA slC drA drC heA heC faA faC prA prC))),(rd gK 3 2 fK).ro,(rd kA j.Race.ak.aR.length 9 (j.Race.ak.aR.map ar.cells)).ro,(rd cA j.Race.ak.aj.length 2 (List.zipWith ax.cells j.Race.ak.aj az)).ro,(dV (a_ ax.gG j.Race.ak.aj az)).ro,(rd bA j.Race.ak.ab.length 4 (j.Race.ak.ab.map bJ.cells)).ro,(rd slA j.Race.aY.length 1 (j.Race.aY.map iC)).ro,(rd drA j.Race.b_.length 1 (j.Race.b_.map iC)).ro,(rd heA j.Race.aA.length 1 (List.zipWith cq j.Race.aA ha)).ro,(dV (a_ eV j.Race.aA ha)).ro,(rd faA j.aC.length 4 (j.aC.map aL.cells)).ro,(rd prA j.aw.length 5 (j.aw.map aT.cells)).ro,(bK (a_ ax.owns (j.Race.ak.aj.map (eX nn)) C)),(bK (a_ jT (e8 nn j.Race).aA B)),(own F G 80 4 ((j.aC.map (dh nn)).map aL.cells))]) (by rw [show (df (gF nn) 0 j.aw)=j.aw from kS])<|ay<|rP 4 [] (mc 0 U mn) ?_
 refine RK W1<|aG ?_
 have A:(0≤j.aw.length):=by exact Nat.zero_le _
 refine bS (ι:={z:Nat // (z≤j.aw.length)}) [2,5,6,7,193] [0,1,2,3,4,5,6,8,9,10,11,12,13,14,15,16,17,18,19,20,21,22] U U (fun z=>[(194,(vI (z.1:Int)))]) (fun z=>[(own H AB 47 5 ((df (gF nn) z.1 j.aw).map aT.cells))]) (fun _=>rfl) (fun _=>rfl) (fun z=>j.aw.length-z.1) ⟨0,A⟩ (bw U) (aS [0,1,2,3,4,5,6,8,9,10,11,12,13,14,15,16,17,18,19,20,21,22,7]) ?_
 clear A
 rintro ⟨p,Yc⟩ J96 Qn
 try dsimp only
 have Li:(df (gF nn) p j.aw).length=j.aw.length:=iO
 refine WS fun _ W7=>rP 1 [] mn ?_
 refine RK W7<|aq fun _ XE=>cG U (aV fun Yn=>?_) (aW fun Yn=>?_)
 ·refine WK XE<|aq fun _ Do=>aG<|WS fun _ EQ=>bG 2 U<|RK EQ<|ay<|rP 3 [] (mc 0 U mn) ?_
  obtain ⟨u,hq⟩:=aM (df (gF nn) p j.aw) p I
  have YF:=bQ aT.cells hq
  refine rS (IA p U (au (n:=j.aw.length) 22 U sq) zI dc I I) ?_
  refine rS (nv ((p*5)+4) U (au (n:=(df (gF nn) p j.aw).length) 22 U (by (simp; done))) (Nat.mul_pos I dc) eP U) ?_
  refine rS (hP p 4 (vI u.At) U cf (au (n:=(df (gF nn) p j.aw).length) 22 U (by (simp; done))) YF U dc U) ?_
  have YH:=nR.symm.trans hq
  have YG:=AR.hE _ _ YH
  obtain ⟨_,_,_,ZI⟩:=YG.jL
  have ZJ:=HP w YG.jL
  refine rP 2 [] mn ?_
  refine rS (IA p U (au (n:=j.aw.length) 22 U sq) zI dc I I) ?_
  refine rS (nv ((p*5)+4) U (au (n:=(df (gF nn) p j.aw).length) 22 U (by (simp; done))) (Nat.mul_pos I dc) eP U) ?_
  have Ky:((df (gF nn) p j.aw).set p (aT.mk u.Id u.iX u.jo u.iM (u.At+nn)))=(df (gF nn) (p+1) j.aw):=by exact nj (f:=gF nn) YH
  refine eE (k:=p) (o:=4) (vs:=[(vI (u.At+nn))]) (es':=(List.map aT.cells (df (gF nn) (p+1) j.aw))) (C':=[_,_,_,_,_,_,_,_,_,_,_,_,_,_,_,_,_,_,_,_,_,_,(own H AB 47 5 (List.map aT.cells (df (gF nn) (p+1) j.aw)))]) 22 U U U zM U U U U YF U dc (by exact (List.map_set (f:=aT.cells) (l:=(df (gF nn) p j.aw)) (i:=p) (a:=(aT.mk u.Id u.iX u.jo u.iM (u.At+nn)))).symm.trans (congrArg _ Ky)) U<|aJ<|aO<|KK Do<|ay<|rP 2 [] mn ?_
  refine aJ ?_
  have K0:(vI (((p+1):Nat):Int))=(vI ((p:Int)+1)):=by exact cI I
  refine bj (Qn ⟨(p+1),(by first|omega|(simp only []; omega))⟩ _ _ _ U os (cQ 5<|bk U K0<|dx.nil _) (aS [0,1,2,3,4,5,6,7,8,9,10,11,12,13,14,15,16,17,18,19,20,21,22]))
 refine bL<|ai<|ai<|aI<|KK Wy<|aq fun _ Eq=>aq fun _ E1=>?_
 rw [show df (gF nn) p j.aw=j.aw.map (gF nn) from oF I]
 rw [show bE.mk H j.aw.length AB=bE.mk H ((j.aw.map (gF nn)).length) AB from by rw [List.length_map]]
 have AY:po (fr nn j) _ _:=Hx YB b
 refine ay<|rP 1 [] (mc 0 U mn) ?_
 refine rS (CL (DQ (fr nn j) P AA C L N R V S W T X B M O F G H AB (by exact AY)) (aD (au (n:=j.Race.ak.aR.length) 1 U (by (rw [List.length_map]; rfl)))<|aD (au (n:=(j.Race.ak.aj.map (eX nn)).length) 2 U (g7 (Y.trans (List.length_map _).symm)))<|aD (e7 19 U kB)<|aD (au (n:=j.Race.ak.ab.length) 3 U (by (rw [List.length_map]; rfl)))<|aD (au (n:=j.Race.aY.length) 4 U (by (rw [List.length_map]; rfl)))<|aD (au (n:=j.Race.b_.length) 5 U (by (rw [List.length_map]; rfl)))<|aD (au (n:=((e8 nn j.Race).aA).length) 6 U (fB b.1))<|aD (jS 20 U b)<|aD (au (n:=(j.aC.map (dh nn)).length) 21 U (by (rw [List.length_map]; rfl)))<|aD (au (n:=(j.aw.map (gF nn)).length) 22 U (by (rw [List.length_map]; rfl)))<|aN) U) ?_
 refine rP 1 [] mn ?_
 refine RK E1<|cG U (bB fun J=>?_) (bx fun J=>?_)
 ·refine WS fun _ FS=>rP 2 [] mn ?_
  refine RK FS<|av<|Q1 hQ U U U ?_
  rfl
 refine WK Eq<|aq fun _ Fd=>aq fun _ Fn=>?_
 have v:=AY.small J.1
 have ZD:(fr nn j).Race.aY.length=j.Race.aY.length:=rfl
 refine ay<|rP 4 [] (mc 7 U mn) ?_
 refine RK Fn<|aG ?_
 have A:(0≤j.aC.length):=by exact Nat.zero_le _
 refine bS (ι:={z:Nat // (z≤j.aC.length)}) [2,5,7,214] [0,1,2,3,4,5,6,7,8,9,10,11,12,13,14,15,16,17,18,19,20,21,22] U U (fun z=>[(215,(vI (z.1:Int)))]) (fun z=>[]) (fun _=>rfl) (fun _=>rfl) (fun z=>j.aC.length-z.1) ⟨0,A⟩ (bw U) (aS [0,1,2,3,4,5,6,7,8,9,10,11,12,13,14,15,16,17,18,19,20,21,22]) ?_
 clear A
 rintro ⟨k,Yd⟩ J109 C2
 try dsimp only
 refine WS fun _ GE=>rP 1 [] mn ?_
 refine RK GE<|aq fun _ GT=>cG U (aV fun Or=>?_) (aW fun Or=>?_)
 ·refine WK GT<|aq fun _ Go=>aG<|WS fun _ Gq=>bG 2 U<|RK Gq<|WS fun _ Hi=>rP 5 [] (mc 7 U mn) ?_
  refine RK Hi<|aG ?_
  have A:(0≤j.Race.aA.length):=by exact Nat.zero_le _
  refine bS (ι:={z:Nat // (z≤j.Race.aA.length)}) [2,5,7,16,214,215,221] [0,1,2,3,4,5,6,7,8,9,10,11,12,13,14,15,16,17,18,19,20,21,22] U U (fun z=>[(222,(vI (z.1:Int)))]) (fun z=>[]) (fun _=>rfl) (fun _=>rfl) (fun z=>j.Race.aA.length-z.1) ⟨0,A⟩ (bw U) (aS [0,1,2,3,4,5,6,7,8,9,10,11,12,13,14,15,16,17,18,19,20,21,22]) ?_
  clear A
  rintro ⟨h,Ye⟩ J116 C3
  try dsimp only
  refine WS fun _ H1=>rP 1 [] mn ?_
  refine RK H1<|aq fun _ ID=>bV U (aW fun Os=>?_) (aV fun Os=>?_)
  ·refine bL<|ai<|ai<|aI<|aO<|KK Go<|ay<|rP 2 [] mn ?_
   refine aJ ?_
   have K8:(vI (((k+1):Nat):Int))=(vI ((k:Int)+1)):=by exact cI I
   refine bj (C2 ⟨(k+1),(by first|omega|(simp only []; omega))⟩ _ _ _ U os (cQ 4<|bk U K8<|dx.nil _) (aS [0,1,2,3,4,5,6,7,8,9,10,11,12,13,14,15,16,17,18,19,20,21,22]))
  refine WK ID<|aq fun _ IO=>aG<|WS fun _ IR=>bG 2 U<|RK IR<|WS fun _ If=>rP 5 [] (mc 7 U mn) ?_
  refine RK If<|aG ?_
  have A:(0≤j.Race.aY.length):=by exact Nat.zero_le _
  refine bS (ι:={z:Nat // (z≤j.Race.aY.length)}) [2,5,7,16,17,214,215,221,222,228] [0,1,2,3,4,5,6,7,8,9,10,11,12,13,14,15,16,17,18,19,20,21,22] U U (fun z=>[(229,(vI (z.1:Int)))]) (fun z=>[]) (fun _=>rfl) (fun _=>rfl) (fun z=>j.Race.aY.length-z.1) ⟨0,A⟩ (bw U) (aS [0,1,2,3,4,5,6,7,8,9,10,11,12,13,14,15,16,17,18,19,20,21,22]) ?_
  clear A
  rintro ⟨s,Yf⟩ J123 Di
  try dsimp only
  refine WS fun _ In=>rP 1 [] mn ?_
  refine RK In<|aq fun _ JJ=>bV U (aW fun Ox=>?_) (aV fun Ox=>?_)
  ·refine bL<|ai<|ai<|aI<|aO<|KK IO<|ay<|rP 2 [] mn ?_
   refine aJ ?_
   have K5:(vI (((h+1):Nat):Int))=(vI ((h:Int)+1)):=by exact cI I
   refine bj (C3 ⟨(h+1),(by first|omega|(simp only []; omega))⟩ _ _ _ U os (cQ 7<|bk U K5<|dx.nil _) (aS [0,1,2,3,4,5,6,7,8,9,10,11,12,13,14,15,16,17,18,19,20,21,22]))
  refine WK JJ<|aq fun _ JR=>aG<|WS fun _ Jr=>bG 2 U<|RK Jr<|WS fun _ J1=>fD 4 [] (mc 7 U mn) U<|rS (CL (Bn j kA kC az cA cC bA bC slA slC drA drC ha heA heC faA faC prA prC (k:Int) (h:Int) (s:Int) asm) (bq [8,9,10,11,12,13,14,15,16,17,18]) U)<|bG 5 U<|RK J1<|WS fun _ J2=>rP 4 [] (mc 0 U mn) ?_
  refine rS (CL (Bn (fr nn j) P AA C L N R V S W T X B M O F G H AB (k:Int) (h:Int) (s:Int) (by exact v)) (gX 8 U U<|aD (au (n:=j.Race.ak.aR.length) 1 U (by (rw [List.length_map]; rfl)))<|aD (au (n:=(j.Race.ak.aj.map (eX nn)).length) 2 U (g7 (Y.trans (List.length_map _).symm)))<|aD (e7 19 U kB)<|aD (au (n:=j.Race.ak.ab.length) 3 U (by (rw [List.length_map]; rfl)))<|aD (au (n:=j.Race.aY.length) 4 U (by (rw [List.length_map]; rfl)))<|aD (au (n:=j.Race.b_.length) 5 U (by (rw [List.length_map]; rfl)))<|aD (au (n:=((e8 nn j.Race).aA).length) 6 U (fB b.1))<|aD (jS 20 U b)<|aD (au (n:=(j.aC.map (dh nn)).length) 21 U (by (rw [List.length_map]; rfl)))<|aD (au (n:=(j.aw.map (gF nn)).length) 22 U (by (rw [List.length_map]; rfl)))<|aN) U) ?_
  refine bG 5 U<|RK J2<|WS fun _ J3=>rP 3 [] mn ?_
  refine cg (t:=250) U (bB fun A0=>?_) (bx fun A0=>?_)
  ·exact absurd ((uf (k:=k) (h:=h) (s:=s) K.2 J.2 I I I).1) A0
  refine rP 4 [] mn ?_
  refine cg (t:=254) U (bB fun A1=>?_) (bx fun A1=>?_)
  ·exact absurd ((uf (k:=k) (h:=h) (s:=s) K.2 J.2 I I I).2.1) A1
  refine bG 2 U<|rS (BI U xo)<|rP 1 [] mn ?_
  refine RK J3<|cG U (bB fun A2=>?_) (bx fun A2=>?_)
  ·exact absurd (uf (k:=k) (h:=h) (s:=s) K.2 J.2 I I I).2.2.symm A2
  refine cx<|aO<|KK JR<|ay<|rP 2 [] mn ?_
  refine aJ ?_
  have K4:(vI (((s+1):Nat):Int))=(vI ((s:Int)+1)):=by exact cI I
  refine bj (Di ⟨(s+1),(by first|omega|(simp only []; omega))⟩ _ _ _ U os (cQ 10<|bk U K4<|dx.nil _) (aS [0,1,2,3,4,5,6,7,8,9,10,11,12,13,14,15,16,17,18,19,20,21,22]))
 refine bL<|ai<|ai<|aI<|KK Fd<|WS fun _ J4=>rP 1 [] (mc 7 U mn) ?_
 refine cX (vy j kA kC az cA cC bA bC slA slC drA drC ha heA heC faA faC prA prC asm) (bq [8,9,10,11,12,13,14,15,16,17,18]) U fun YS Yz=>?_
 obtain ⟨L2,NE⟩:=YS
 try dsimp only
 refine bG 5 U<|RK J4<|WS fun _ J5=>rP 1 [] (mc 1 U mn) ?_
 refine cX (vy (fr nn j) P AA C L N R V S W T X B M O F G H AB (by exact v)) (gX 9 U U<|aD (au (n:=j.Race.ak.aR.length) 2 U (by (rw [List.length_map]; rfl)))<|aD (au (n:=(j.Race.ak.aj.map (eX nn)).length) 3 U (g7 (Y.trans (List.length_map _).symm)))<|aD (e7 20 U kB)<|aD (au (n:=j.Race.ak.ab.length) 4 U (by (rw [List.length_map]; rfl)))<|aD (au (n:=j.Race.aY.length) 5 U (by (rw [List.length_map]; rfl)))<|aD (au (n:=j.Race.b_.length) 6 U (by (rw [List.length_map]; rfl)))<|aD (au (n:=((e8 nn j.Race).aA).length) 7 U (fB b.1))<|aD (jS 21 U b)<|aD (au (n:=(j.aC.map (dh nn)).length) 22 U (by (rw [List.length_map]; rfl)))<|aD (au (n:=(j.aw.map (gF nn)).length) 23 U (by (rw [List.length_map]; rfl)))<|aN) U fun YT Y0=>?_
 obtain ⟨L3,Ne⟩:=YT
 try dsimp only
 refine bG 5 U<|RK J5<|WS fun _ J6=>rP 1 [] (mc 9 U mn) ?_
 refine cX (vJ j kA kC az cA cC bA bC slA slC drA drC ha heA heC faA faC prA prC asm) (bq [10,11,12,13,14,15,16,17,18,19,20]) U fun YU Lo=>?_
 obtain ⟨C0,Mn,OY⟩:=YU
 try dsimp only
 have AO:=Lo
 try dsimp only at AO
 have Cl:=AO
 refine bG 5 U<|RK J6<|WS fun _ J7=>rP 1 [] (mc 4 U mn) ?_
 refine cX (vJ (fr nn j) P AA C L N R V S W T X B M O F G H AB (by exact v)) (gX 12 U U<|aD (au (n:=j.Race.ak.aR.length) 5 U (by (rw [List.length_map]; rfl)))<|aD (au (n:=(j.Race.ak.aj.map (eX nn)).length) 6 U (g7 (Y.trans (List.length_map _).symm)))<|aD (e7 23 U kB)<|aD (au (n:=j.Race.ak.ab.length) 7 U (by (rw [List.length_map]; rfl)))<|aD (au (n:=j.Race.aY.length) 8 U (by (rw [List.length_map]; rfl)))<|aD (au (n:=j.Race.b_.length) 9 U (by (rw [List.length_map]; rfl)))<|aD (au (n:=((e8 nn j.Race).aA).length) 10 U (fB b.1))<|aD (jS 24 U b)<|aD (au (n:=(j.aC.map (dh nn)).length) 25 U (by (rw [List.length_map]; rfl)))<|aD (au (n:=(j.aw.map (gF nn)).length) 26 U (by (rw [List.length_map]; rfl)))<|aN) U fun YV L0=>?_
 obtain ⟨C1,M2,Op⟩:=YV
 try dsimp only
 have AO:=L0
 try dsimp only at AO
 have Cp:=AO
 refine bG 5 U<|RK J7<|WS fun _ J8=>fD 1 [] (mc 13 U mn) U<|rS (CL (Bl j kA kC az cA cC bA bC slA slC drA drC ha heA heC faA faC prA prC asm) (bq [14,15,16,17,18,19,20,21,22,23,24]) U)<|bG 7 U<|RK J8<|WS fun _ J9=>rP 1 [] (mc 6 U mn) ?_
 refine rS (CL (Bl (fr nn j) P AA C L N R V S W T X B M O F G H AB (by exact v)) (gX 14 U U<|aD (au (n:=j.Race.ak.aR.length) 7 U (by (rw [List.length_map]; rfl)))<|aD (au (n:=(j.Race.ak.aj.map (eX nn)).length) 8 U (g7 (Y.trans (List.length_map _).symm)))<|aD (e7 25 U kB)<|aD (au (n:=j.Race.ak.ab.length) 9 U (by (rw [List.length_map]; rfl)))<|aD (au (n:=j.Race.aY.length) 10 U (by (rw [List.length_map]; rfl)))<|aD (au (n:=j.Race.b_.length) 11 U (by (rw [List.length_map]; rfl)))<|aD (au (n:=((e8 nn j.Race).aA).length) 12 U (fB b.1))<|aD (jS 26 U b)<|aD (au (n:=(j.aC.map (dh nn)).length) 27 U (by (rw [List.length_map]; rfl)))<|aD (au (n:=(j.aw.map (gF nn)).length) 28 U (by (rw [List.length_map]; rfl)))<|aN) U) ?_
 refine bG 7 U<|RK J9<|WS fun _ Kc=>rP 6 [] mn ?_
 refine cu (t:=299) U (aW fun A3=>?_) (aV fun A3=>?_)
 ·exact absurd (K.2) A3
 refine rP 4 [] mn ?_
 refine cu (t:=303) U (aW fun A4=>?_) (aV fun A4=>?_)
 ·exact absurd (J.2) A4
 refine rP 2 [] mn ?_
 refine rS (CL (yD (iE j) L2 NE (iE (fr nn j)) L3 Ne (by have:=Fv K.2; omega) (by have:=Fv J.2; rw [tJ K.2 J.2] at *; have:=Fv K.2; omega)) (aD (au (n:=(iE j).length) 5 U sm)<|aD (au (n:=(iE (fr nn j)).length) 4 U sm)<|aN) U) ?_
 refine rP 2 [] mn ?_
 refine cu (t:=308) U (aW fun A5=>?_) (aV fun A5=>?_)
 ·exact absurd ((tJ K.2 J.2).symm) A5
 refine rP 4 [] mn ?_
 refine cu (t:=312) U (aW fun A6=>?_) (aV fun A6=>?_)
 ·exact absurd (K.2) A6
 refine rP 4 [] mn ?_
 refine cu (t:=316) U (aW fun A7=>?_) (aV fun A7=>?_)
 ·exact absurd (J.2) A7
 refine rP 2 [] mn ?_
 refine rS (CL (uG (fY j) (fY (fr nn j)) C0 Mn OY C1 M2 Op (by rw [FL K.2]; omega) (by rw [r_ K.2 J.2,FL K.2]; omega) (by exact B2 K.2) (by rw [r_ K.2 J.2]; exact B2 K.2) (by exact Cl) (by exact Cp)) (aD (au (n:=(fY j).length) 2 U (vC Cl))<|aD (e7 3 U GJ)<|aD (au (n:=(fY (fr nn j)).length) 0 U (vC Cp))<|aD (e7 1 U GJ)<|aN) U) ?_
 refine rP 2 [] mn ?_
 refine cu (t:=321) U (aW fun A8=>?_) (aV fun A8=>?_)
 ·exact absurd ((r_ K.2 J.2).symm) A8
 refine rP 4 [] mn ?_
 refine cu (t:=325) U (aW fun A9=>?_) (aV fun A9=>?_)
 ·exact absurd (K.2) A9
 refine rP 4 [] mn ?_
 refine cu (t:=329) U (aW fun BE=>?_) (aV fun BE=>?_)
 ·exact absurd (J.2) BE
 refine rP 5 [] mn ?_
 refine cu (t:=334) U (aW fun Bc=>?_) (aV fun Bc=>?_)
 ·exact absurd ((zW K.2 J.2).1.symm) Bc
 refine rP 5 [] mn ?_
 refine RK Kc<|av<|Q1 hQ U U U ?_
 exact cB (dM (zW K.2 J.2).2.symm)
end
section
open Go.RowKit
def fW {α:Type} (cells:α→List Value) (sz:Nat) (R:World→α→Prop) (w:World) (s:bE):Prop:= ∃ l:List α,s.n=l.length∧(rd s.a l.length sz (l.map cells)).holds w∧(∀ x∈l,R w x)∧l.length≤maxLen∧s.n≤s.c
theorem xq {w:World} {R:World→cz→Prop}: ∀ {l:List dA},(∀ x∈l,fW cz.cells 3 R w x.bu)→ ∃ (ms:List ax) (az:List RA),l.map dA.cells=List.zipWith ax.cells ms az∧ms.length=l.length∧az.length=l.length∧(∀ X∈a_ ax.gG ms az,X.holds w)∧
 (∀ (k:Nat) m (a:RA),ms[k]? =some m→az[k]? =some a→m.bu.length≤a.2∧m.bu.length≤9223372036854775807)∧ms.map (fun m=>m.dD)=l.map (fun x=>x.dD)∧ ∀ (k:Nat) m y,ms[k]? =some m→y∈m.bu→R w y
 |[],_=>⟨[],[],rfl,rfl,rfl,(fun X hX=>by cases hX),(fun k m a h=>by simp at h),rfl,(fun k m y h=>by simp at h)⟩
 |x::l,h=>by
  obtain ⟨ms,az,E,F,G,H,AA,J,K⟩:=xq (fun y hy=>h y (dU _ hy))
  obtain ⟨sy,A,B,C,D,L⟩:=h x sm
  have e4':sy.length≤9223372036854775807:=D
  refine ⟨⟨x.dD,sy⟩::ms,(x.bu.a,x.bu.c)::az,?_,by simp [F],by simp [G],fun X hX=>?_,fun k m a hm ha=>?_,by simp [J],fun k m y hm hy=>?_⟩
  ·obtain ⟨dr,⟨a,n,c⟩⟩:=x
   simp only at A
   subst A
   simp only [List.map_cons,List.zipWith_cons_cons,E]
   rfl
  ·rcases g9.1 hX with hX|hX
   ·simp only [ax.gG,ck] at hX
    subst hX; exact B
   ·exact H X hX
  ·cases k with
   |zero=>
    simp only [List.getElem?_cons_zero,Option.some.injEq] at hm ha
    subst hm ha
    exact ⟨by simp only; omega,e4'⟩
   |succ k=>exact AA k m a (by simpa using hm) (by simpa using ha)
  ·cases k with
   |zero=>
    simp only [List.getElem?_cons_zero,Option.some.injEq] at hm
    subst hm
    exact C y hy
   |succ k=>exact K k m y (by simpa using hm) hy
theorem HL {w:World} {s:cw} {R1:World→ar→Prop} {R2:World→dA→Prop} {R3:World→bJ→Prop} {R4:World→cz→Prop} (h1:fW ar.cells 9 R1 w s.aR.k6) (hs: ∀ x,R1 w x→0≤x.jD∧x.jD≤255) (h2:fW dA.cells 2 R2 w s.aj) (hc: ∀ x,R2 w x→fW cz.cells 3 R4 w x.bu) (h3:fW bJ.cells 4 R3 w s.ab):
 ∃ (l:bg) (az:List RA) (kA:OA) (kC:Nat) (cA:OA) (cC:Nat) (bA:OA) (bC:Nat),s=cw.mk (bO.mk (bE.mk kA l.aR.length kC)) l.iN (bE.mk cA l.aj.length cC) (bE.mk bA l.ab.length bC) l.bM l.fT l.dE∧qm l az∧
  ((rd kA l.aR.length 9 (l.aR.map ar.cells)).holds w∧(rd cA l.aj.length 2 (List.zipWith ax.cells l.aj az)).holds w∧(dV (a_ ax.gG l.aj az)).holds w∧(rd bA l.ab.length 4 (l.ab.map bJ.cells)).holds w)∧l.iN=s.iN∧l.bM=s.bM∧l.fT=s.fT∧l.dE=s.dE:=by
 obtain ⟨⟨⟨ka,kn,kc⟩⟩,fa,⟨ca,cn,cc⟩,⟨ba,bn,bc⟩,fi,fk,mi⟩:=s
 obtain ⟨ts,E,M,N,O,T⟩:=h1
 obtain ⟨cs,B,C,H,AA,R⟩:=h2
 obtain ⟨bs,A,F,P,G,Q⟩:=h3
 simp only at E B A
 subst E B A
 obtain ⟨ms,az,J,D,S,K,L,_⟩:=xq (fun x hx=>hc x (H x hx))
 have t4':ts.length≤9223372036854775807:=O
 have c4':cs.length≤9223372036854775807:=AA
 have b4':bs.length≤9223372036854775807:=G
 refine ⟨⟨ts,fa,ms,bs,fi,fk,mi⟩,az,ka,kc,ca,cc,ba,bc,by simp only [D],⟨t4',fun x hx=>hs x (N x hx),by simp only; omega,by simp only; omega,b4',L⟩,⟨M,?_,K,F⟩,U,U,U,U⟩
 simp only at C ⊢
 rw [D,← J]; exact C
end
section
open Go.RowKit
theorem zj {w:World} {R:World→aH→Prop}: ∀ {l:List aP},(∀ x∈l,fW aH.cells 2 R w x.aZ.aa)→ ∃ (ms:List ao) (az:List RA),l.map aP.cells=List.zipWith ao.cells ms az∧ms.length=l.length∧az.length=l.length∧(∀ X∈a_ ao.gG ms az,X.holds w)∧
 ∀ d∈ms,d.aZ.aa.length≤9223372036854775807
 |[],_=>⟨[],[],rfl,rfl,rfl,(fun X hX=>by cases hX),fun d h=>by cases h⟩
 |x::l,h=>by
  obtain ⟨ms,az,D,E,F,G,H⟩:=zj (fun y hy=>h y (dU _ hy))
  obtain ⟨sg,A,B,AA,C,J⟩:=h x sm
  have e4':sg.length≤9223372036854775807:=C
  refine ⟨⟨x.Out,x.cY,x.Time,⟨x.aZ.Start,x.aZ.fI,sg⟩⟩::ms,(x.aZ.aa.a,x.aZ.aa.c)::az,?_,by simp [E],by simp [F],fun X hX=>?_,fun d hd=>?_⟩
  ·obtain ⟨o,f,t,⟨st,nw,⟨a,n,c⟩⟩⟩:=x
   simp only at A
   subst A
   simp only [List.map_cons,List.zipWith_cons_cons,D]
   rfl
  ·rcases g9.1 hX with hX|hX
   ·simp only [ao.gG,ck] at hX
    subst hX; exact B
   ·exact G X hX
  ·rcases bU.1 hd with rfl|hd
   ·exact e4'
   ·exact H d hd
theorem zb {w:World} {R2:World→aP→Prop} {R:World→aH→Prop} (hc: ∀ x,R2 w x→fW aH.cells 2 R w x.aZ.aa): ∀ {l:List bE},(∀ x∈l,fW aP.cells 7 R2 w x)→ ∃ (ms:List (List ao)) (ha:List cN),(l.map fun s=>[vS s.a s.n s.c])=List.zipWith cq ms ha∧ms.length=l.length∧ha.length=l.length∧(∀ X∈a_ eV ms ha,X.holds w)∧
 ∀ (k:Nat) h (a:cN),ms[k]? =some h→ha[k]? =some a→h.length≤9223372036854775807∧a.2.length=h.length∧ ∀ d∈h,d.aZ.aa.length≤9223372036854775807
 |[],_=>⟨[],[],rfl,rfl,rfl,(fun X hX=>by cases hX),(fun k h a q=>by simp at q)⟩
 |x::l,h=>by
  obtain ⟨ms,ha,J,K,L,M,N⟩:=zb hc (fun y hy=>h y (dU _ hy))
  obtain ⟨ds,C,G,H,AA,P⟩:=h x sm
  obtain ⟨dm,az,D,B,O,E,F⟩:=zj fun y hy=>hc y (H y hy)
  have e4':ds.length≤9223372036854775807:=AA
  refine ⟨dm::ms,((x.a,x.c),az)::ha,?_,by simp [K],by simp [L],fun X hX=>?_,fun k m a hm A=>?_⟩
  ·obtain ⟨a,n,c⟩:=x
   simp only at C
   subst C
   simp only [List.map_cons,List.zipWith_cons_cons,J,cq,B]
  ·rcases g9.1 hX with hX|hX
   ·unfold eV at hX
    rcases bU.1 hX with rfl|hX
    ·simp only
     rw [B,← D]; exact G
    ·exact E X hX
   ·exact M X hX
  ·cases k with
   |zero=>
    simp only [List.getElem?_cons_zero,Option.some.injEq] at hm A
    subst hm A
    exact ⟨I,by simp only; omega,F⟩
   |succ k=>exact N k m a (by simpa using hm) (by simpa using A)
theorem H3 {w:World} {s:fu} {R1:World→ar→Prop} {R2:World→dA→Prop} {R3:World→bJ→Prop} {R4:World→cz→Prop} {R5:World→Int→Prop} {R6:World→bE→Prop} {R7:World→aP→Prop} {R8:World→aH→Prop}
 (h1:fW ar.cells 9 R1 w s.ak.aR.k6) (hs: ∀ x,R1 w x→0≤x.jD∧x.jD≤255) (h2:fW dA.cells 2 R2 w s.ak.aj) (hc: ∀ x,R2 w x→fW cz.cells 3 R4 w x.bu) (h3:fW bJ.cells 4 R3 w s.ak.ab)
 (h4:fW iC 1 R5 w s.aY) (h5:fW iC 1 R5 w s.b_) (h6:fW (fun s=>[vS s.a s.n s.c]) 1 R6 w s.aA) (h7: ∀ x,R6 w x→fW aP.cells 7 R7 w x) (h8: ∀ x,R7 w x→fW aH.cells 2 R8 w x.aZ.aa):
 ∃ (r:dY) (az:List RA) (ha:List cN) (kA:OA) (kC:Nat) (cA:OA) (cC:Nat) (bA:OA) (bC:Nat) (slA:OA) (slC:Nat) (drA:OA) (drC:Nat) (heA:OA) (heC:Nat),
  s=fu.mk (cw.mk (bO.mk (bE.mk kA r.ak.aR.length kC)) r.ak.iN (bE.mk cA r.ak.aj.length cC) (bE.mk bA r.ak.ab.length bC) r.ak.bM r.ak.fT r.ak.dE) (bE.mk slA r.aY.length slC) (bE.mk drA r.b_.length drC) r.lG (bE.mk heA r.aA.length heC)∧sJ r az ha∧
  ((rd kA r.ak.aR.length 9 (r.ak.aR.map ar.cells)).holds w∧(rd cA r.ak.aj.length 2 (List.zipWith ax.cells r.ak.aj az)).holds w∧(dV (a_ ax.gG r.ak.aj az)).holds w∧(rd bA r.ak.ab.length 4 (r.ak.ab.map bJ.cells)).holds w∧
   (rd slA r.aY.length 1 (r.aY.map iC)).holds w∧(rd drA r.b_.length 1 (r.b_.map iC)).holds w∧(rd heA r.aA.length 1 (List.zipWith cq r.aA ha)).holds w∧(dV (a_ eV r.aA ha)).holds w):=by
 obtain ⟨ln,⟨sa,sn,sc⟩,⟨da,dn,dc⟩,tu,⟨ea,en,ec⟩⟩:=s
 obtain ⟨l,az,kA,kC,cA,cC,bA,bC,e,A,hh,_⟩:=HL (s:=ln) h1 hs h2 hc h3
 subst e
 obtain ⟨sl,F,N,T,O,AA⟩:=h4
 obtain ⟨dr,B,G,P,H,Q⟩:=h5
 obtain ⟨he,D,E,L,M,S⟩:=h6
 obtain ⟨ms,ha,AB,C,R,J,K⟩:=zb h8 (fun x hx=>h7 x (L x hx))
 simp only at F B D
 subst F B D
 have s4':sl.length≤9223372036854775807:=O
 have d4':dr.length≤9223372036854775807:=H
 have q4':he.length≤9223372036854775807:=M
 refine ⟨⟨l,sl,dr,tu,ms⟩,az,ha,kA,kC,cA,cC,bA,bC,sa,sc,da,dc,ea,ec,by simp only [C],⟨A,s4',d4',by simp only; omega,by simp only; omega,K⟩,hh.1,hh.2.1,hh.2.2.1,hh.2.2.2,N,G,?_,J⟩
 simp only at E ⊢
 rw [C,← AB]; exact E
end
section
open Go.RowKit
theorem G5 {w:World} {s:eD} {R1:World→ar→Prop} {R2:World→dA→Prop} {R3:World→bJ→Prop} {R4:World→cz→Prop} {R5:World→Int→Prop} {R6:World→bE→Prop} {R7:World→aP→Prop} {R8:World→aH→Prop} {R9:World→aL→Prop} {R10:World→aT→Prop}
 (h1:fW ar.cells 9 R1 w s.Race.ak.aR.k6) (hs: ∀ x,R1 w x→0≤x.jD∧x.jD≤255) (h2:fW dA.cells 2 R2 w s.Race.ak.aj) (hc: ∀ x,R2 w x→fW cz.cells 3 R4 w x.bu) (h3:fW bJ.cells 4 R3 w s.Race.ak.ab)
 (h4:fW iC 1 R5 w s.Race.aY) (h5:fW iC 1 R5 w s.Race.b_) (h6:fW (fun s=>[vS s.a s.n s.c]) 1 R6 w s.Race.aA) (h7: ∀ x,R6 w x→fW aP.cells 7 R7 w x) (h8: ∀ x,R7 w x→fW aH.cells 2 R8 w x.aZ.aa)
 (h9:fW aL.cells 4 R9 w s.aC) (hk: ∀ x,R9 w x→0≤x.Kind∧x.Kind≤255) (h10:fW aT.cells 5 R10 w s.aw):
 ∃ (j:cR) (az:List RA) (ha:List cN) (kA:OA) (kC:Nat) (cA:OA) (cC:Nat) (bA:OA) (bC:Nat) (slA:OA) (slC:Nat) (drA:OA) (drC:Nat) (heA:OA) (heC:Nat) (faA:OA) (faC:Nat) (prA:OA) (prC:Nat),
  s=eD.mk (fu.mk (cw.mk (bO.mk (bE.mk kA j.Race.ak.aR.length kC)) j.Race.ak.iN (bE.mk cA j.Race.ak.aj.length cC) (bE.mk bA j.Race.ak.ab.length bC) j.Race.ak.bM j.Race.ak.fT j.Race.ak.dE) (bE.mk slA j.Race.aY.length slC) (bE.mk drA j.Race.b_.length drC) j.Race.lG (bE.mk heA j.Race.aA.length heC)) (bE.mk faA j.aC.length faC) (bE.mk prA j.aw.length prC) j.eh j.xA∧po j az ha∧
  ((rd kA j.Race.ak.aR.length 9 (j.Race.ak.aR.map ar.cells)).holds w∧(rd cA j.Race.ak.aj.length 2 (List.zipWith ax.cells j.Race.ak.aj az)).holds w∧(dV (a_ ax.gG j.Race.ak.aj az)).holds w∧(rd bA j.Race.ak.ab.length 4 (j.Race.ak.ab.map bJ.cells)).holds w∧
   (rd slA j.Race.aY.length 1 (j.Race.aY.map iC)).holds w∧(rd drA j.Race.b_.length 1 (j.Race.b_.map iC)).holds w∧(rd heA j.Race.aA.length 1 (List.zipWith cq j.Race.aA ha)).holds w∧(dV (a_ eV j.Race.aA ha)).holds w∧
   (rd faA j.aC.length 4 (j.aC.map aL.cells)).holds w∧(rd prA j.aw.length 5 (j.aw.map aT.cells)).holds w):=by
 obtain ⟨rc,⟨fa,fn,fc⟩,⟨pa,pn,pc⟩,mi,fe⟩:=s
 obtain ⟨r,az,ha,kA,kC,cA,cC,bA,bC,slA,slC,drA,drC,heA,heC,e,A,hm⟩:=H3 (s:=rc) h1 hs h2 hc h3 h4 h5 h6 h7 h8
 subst e
 obtain ⟨fl,B,D,E,F,AA⟩:=h9
 obtain ⟨pr,C,G,J,H,K⟩:=h10
 simp only at B C
 subst B C
 have f4':fl.length≤9223372036854775807:=F
 have p4':pr.length≤9223372036854775807:=H
 exact ⟨⟨r,fl,pr,mi,fe⟩,az,ha,kA,kC,cA,cC,bA,bC,slA,slC,drA,drC,heA,heC,fa,fc,pa,pc,U,⟨A,f4',p4',fun f hf=>hk f (E f hf)⟩,hm.1,hm.2.1,hm.2.2.1,hm.2.2.2.1,hm.2.2.2.2.1,hm.2.2.2.2.2.1,hm.2.2.2.2.2.2.1,hm.2.2.2.2.2.2.2,D,G⟩
end
end Go.Proofs.YtijpnoadncadoaaGreatDoor
