/-
 The statement juryHit_said, part 8 of 8: Async, WayM, R1, Y1, Y2, Y3, Y5, Rr3, Rr4, Rr5, Rra, Jr2, Jr3, Jz1, Jwb, Jz2, Jz3, Jz4, Jl3, LineOpen, RaceOpen, JOpen, Hit0.
 Conditions: none.
-/
import Derived.Test.YtijpnoadncadoaaGreatDoorTx1
import Derived.Test.YtijpnoadncadoaaGreatDoorTx2
import Derived.Test.YtijpnoadncadoaaGreatDoorTx3
import Derived.Test.YtijpnoadncadoaaGreatDoorTx4
import Derived.Test.YtijpnoadncadoaaGreatDoorTx5
import Derived.Test.YtijpnoadncadoaaGreatDoorTx6
import Derived.Test.YtijpnoadncadoaaGreatDoorTx7
import Derived.Test.YtijpnoadncadoaaGreatDoorCards
import Derived.Test.YtijpnoadncadoaaGreatDoorTie
import Derived.SevenTiedAt
import Derived.LaidMore
import Derived.Stop.Joined
import Derived.Test.YtijpnoadncadoaaGreatDoorRows
import Derived.Test.YtijpnoadncadoaaGreatDoorProg
import Derived.KernelRfl
namespace Go.Proofs.YtijpnoadncadoaaGreatDoor
set_option maxRecDepth 100000
set_option maxHeartbeats 4000000
set_option linter.unusedVariables false
section
open Go.RowKit
/-- a row is taken that was made before; an operation -/
inductive fU where
 |take (i:Nat)
 |op (j:Nat)
def fU.ix:fU→Nat
 | .take i=>i
 | .op j=>j
def CJ (dO:Nat→Nat):List fU→List Nat
 |[]=>[]
 | .take i::s=>dO i::CJ dO s
 | .op _::s=>CJ dO s
theorem tQ {dO:Nat→Nat} {i:Nat}: ∀ {s:List fU},fU.take i∈s→dO i∈CJ dO s
 | .take k::s,h=>by
  rcases bT.1 h with e|h
  ·cases e; exact cy ..
  ·exact dI _ (tQ h)
 | .op k::s,h=>by
  rcases bT.1 h with e|h
  ·cases e
  ·exact tQ (s:=s) h
def rB (m:Array Nat) (dO:Nat→Nat) (x y:fU):Bool:=x.ix != y.ix&&(match y with | .op j=>iT m x.ix j| .take i=>match x with | .take k=>dO k != dO i| .op _=>true)
def TZ (m:Array Nat) (dO:Nat→Nat):List fU→Bool
 |[]=>true
 |x::s=>s.all (rB m dO x)&&TZ m dO s
theorem ER {m:Array Nat} {dO:Nat→Nat}: ∀ {s:List fU},TZ m dO s=true→s.Pairwise fun x y=>rB m dO x y=true
 |[],_=>List.Pairwise.nil
 |x::s,h=>by
  simp only [TZ,db] at h
  exact List.Pairwise.cons (fun y hy=>cV.1 h.1 y hy) (ER h.2)
/-- what is known of the slots B is known in L -/
def Bg (B L:dw):Prop:= ∀ t v,B.lookup t=some v→L.lookup t=some v
theorem zK {B L:dw} (h:B.map (fun p=>L.lookup p.1)=B.map (fun p=>some p.2)):Bg B L:=by
 induction B with
 |nil=>intro t v h; simp at h
 |cons p B ih=>
  obtain ⟨k,u⟩:=p
  simp only [List.map_cons,List.cons.injEq] at h
  intro t v hl
  by_cases e:t=k
  ·subst e
   simp only [List.lookup,beq_self_eq_true,Option.some.injEq] at hl
   rw [h.1,hl]
  ·have:(t==k)=false:=by simpa using e
   simp only [List.lookup,this] at hl
   exact ih h.2 t v hl
theorem oe {L Y:dw} {t:Nat}:(L++Y).lookup t=match L.lookup t with |some v=>some v|none=>Y.lookup t:=by
 induction L with
 |nil=>rfl
 |cons p L ih=>
  obtain ⟨k,u⟩:=p
  by_cases e:t==k
  ·simp [List.lookup,e]
  ·have:(t==k)=false:=by simpa using e
   simp only [List.cons_append,List.lookup,this,ih]
theorem Bg.app {B L Y:dw} (h:Bg B L):Bg B (L++Y):=fun t v ht=>by rw [oe,h t v ht]
theorem OY {B L:dw} (h:Bg B L) {x:Operand} {v:Value} (hv:ev B x=some v):ev L x=some v:=by
 cases x<;>simp only [ev] at hv ⊢ <;>first|exact h _ _ hv|exact hv
theorem EH {B L:dw} (h:Bg B L): ∀ {xs:List Operand} {vs:List Value},evs B xs=some vs→evs L xs=some vs
 |[],vs,hv=>hv
 |x::xs,vs,hv=>by
  simp only [evs] at hv ⊢
  cases e1:ev B x with
  |none=>rw [e1] at hv; simp at hv
  |some v=>
   cases e2:evs B xs with
   |none=>rw [e1,e2] at hv; simp at hv
   |some us=>
    rw [e1,e2] at hv
    rw [OY h e1,EH h e2]; exact hv
section
variable (E:fg) (ops:Array Oper) (D:List Deferred) (C':List ax) (K0:Act→World→Prop) (B:List (Nat×Value)) (dO:Nat→Nat) (VO:Nat→Nat→Value) (AO:Nat→Nat→ax)
def CH:List fU→dw→List ax→Prop
 |[],L,C=>KJ E K0 D L C
 | .take i::s,L,C=> ∀ b,CH s ((dO i,VO i b)::L) (AO i b::C)
 | .op j::s,L,C=> ∀ o,ops[j]? =some o→ ∀ (Y:dw) (X:List ax) (K:Act→World→Prop),(∀ L' C'',(∀ w,St E.S E.w0 C'' w→St E.S E.w0 C' w)→((CJ dO s).all fun d=>(L'.lookup d).isNone)=true→B.map (fun p=>L'.lookup p.1)=B.map (fun p=>some p.2)→CH s L' C''→KJ E K D (L'++Y) (C''++X))→RJ E ops (NQ K) [o] D (L++Y) (C++X)
/-- a row that is made at any time -/
def TL (i:Nat):Prop:= ∀ o,ops[i]? =some o→ ∀ (L:dw) (C:List ax) (K:Act→World→Prop),Bg B L→(∀ w,St E.S E.w0 C w→St E.S E.w0 C' w)→(∀ b,KJ E K D ((dO i,VO i b)::L) (AO i b::C))→RJ E ops (NQ K) [o] D L C
end
section
variable {E:fg} {ops:Array Oper} {D:List Deferred} {C' C1:List ax} {K0:Act→World→Prop} {B:List (Nat×Value)} {dO:Nat→Nat} {VO:Nat→Nat→Value} {AO:Nat→Nat→ax}
theorem MD {Q:dg} {rest:List Oper} {L L2:dw} {C C2:List ax} (hL: ∀ a,Fr E.n D L a→Fr E.n D L2 a) (hC: ∀ w,St E.S E.w0 C w→St E.S E.w0 C2 w) (h:RJ E ops Q rest D L2 C2):RJ E ops Q rest D L C:=fun a w hf hs=>h a w (hL a hf) (hC w hs)
theorem FO {K:Act→World→Prop} {L L2:dw} {C C2:List ax} (hL: ∀ a,Fr E.n D L a→Fr E.n D L2 a) (hC: ∀ w,St E.S E.w0 C w→St E.S E.w0 C2 w) (h:KJ E K D L2 C2):KJ E K D L C:=fun a w hf hs=>h a w (hL a hf) (hC w hs)
theorem ES {n:Nat} {L L2:dw} (h: ∀ t v,L2.lookup t=some v→L.lookup t=some v) (a:Act) (hf:Fr n D L a):Fr n D L2 a:=⟨hf.defers,hf.size,fun t v ht=>hf.at_ t v (h t v ht)⟩
theorem D8: ∀ (T0 s':List fU) (dn:List (Nat×Nat)) (L Y:dw) (C:List ax),(∀ x∈T0,∃ i b,x= .take i∧(i,b)∈dn)→(T0++s').Pairwise (fun x y=>rB (qv ops) dO x y=true)→(dn.map (·.1)).Nodup→(∀ p∈dn,fU.take p.1∈T0++s')→(∀ p∈dn,Y.lookup (dO p.1)=some (VO p.1 p.2))→(∀ i,fU.take i∈T0++s'→L.lookup (dO i)=none)→
 CH E ops D C' K0 B dO VO AO (T0++s') L C→ ∃ (dn':List (Nat×Nat)) (L':dw) (C2:List ax),CH E ops D C' K0 B dO VO AO s' L' C2∧(dn'.map (·.1)).Nodup∧(∀ p,p∈dn'↔p∈dn∧fU.take p.1∈s')∧(∀ t v,(L'++Y).lookup t=some v→(L++Y).lookup t=some v)∧(∀ i,fU.take i∈s'→L'.lookup (dO i)=none)∧(∀ w,St E.S E.w0 (C++dn.map fun p=>AO p.1 p.2) w→St E.S E.w0 (C2++dn'.map fun p=>AO p.1 p.2) w)
 |[],s',dn,L,Y,C,_,_,hn,hm,_,hl,h=>⟨dn,L,C,h,hn,fun p=>⟨fun q=>⟨q,hm p q⟩,fun q=>q.1⟩,fun t v q=>q,hl,fun w q=>q⟩
 |x::T0,s',dn,L,Y,C,ht,hp,hn,hm,hy,hl,h=>by
  obtain ⟨i,b,rfl,hb⟩:=ht x (cy ..)
  obtain ⟨J,P⟩:=List.pairwise_cons.1 hp
  have AB: ∀ y∈T0++s',i≠y.ix:=fun y hy e=>by
   have:=J y hy
   simp only [rB,db,bne_iff_ne,fU.ix] at this
   exact this.1 e
  have N: ∀ k,fU.take k∈T0++s'→dO k≠dO i:=fun k hk e=>by
   have:=J _ hk
   simp only [rB,db,bne_iff_ne] at this
   exact this.2 e.symm
  have K:dn.Perm ((i,b)::dn.erase (i,b)):=List.perm_cons_erase hb
  have H:((dn.erase (i,b)).map (·.1)).Nodup∧i ∉ (dn.erase (i,b)).map (·.1):=by
   have:=(K.map (·.1)).nodup_iff.1 hn
   exact ⟨(List.nodup_cons.1 this).2,(List.nodup_cons.1 this).1⟩
  have A: ∀ p∈dn.erase (i,b),p∈dn∧p.1≠i:=fun p hp=>⟨List.mem_of_mem_erase hp,fun e=>by have q:=List.mem_map_of_mem (f:=fun p:Nat×Nat=>p.1) hp; simp only [e] at q; exact H.2 q⟩
  have O:L.lookup (dO i)=none:=hl i (cy ..)
  obtain ⟨dn',L',C2,R,T,AA,V,W,X⟩:=D8 T0 s' (dn.erase (i,b)) ((dO i,VO i b)::L) Y (AO i b::C) (fun x hx=>by
   obtain ⟨k,c,rfl,hk⟩:=ht x (dI _ hx)
   refine ⟨k,c,U,?_⟩
   have F:k≠i:=fun e=>AB _ (List.mem_append_left _ hx) e.symm
   exact (List.mem_erase_of_ne (fun e=>F (congrArg Prod.fst e))).2 hk) P H.1 (fun p hp=>by
   obtain ⟨M,G⟩:=A p hp
   rcases bT.1 (hm p M) with e|e
   ·injection e with e; exact absurd e G
   ·exact e) (fun p hp=>hy p (A p hp).1) (fun k hk=>by
   have:(dO k==dO i)=false:=by simpa using N k hk
   simp only [List.lookup,this]
   exact hl k (dI _ hk)) (h b)
  refine ⟨dn',L',C2,R,T,fun p=>?_,fun t v hv=>?_,W,fun w hw=>X w ?_⟩
  ·rw [AA]
   constructor
   ·rintro ⟨M,G⟩; exact ⟨(A p M).1,G⟩
   ·rintro ⟨M,G⟩
    have F:p.1≠i:=fun e=>AB _ (List.mem_append_right _ G) e.symm
    exact ⟨(List.mem_erase_of_ne (fun e=>F (congrArg Prod.fst e))).2 M,G⟩
  ·have:=V t v hv
   rw [oe] at this ⊢
   by_cases e:t=dO i
   ·subst e
    simp only [List.lookup,beq_self_eq_true] at this
    rw [O]; simp only
    rw [hy _ hb]; exact this
   ·have Q:(t==dO i)=false:=by simpa using e
    simp only [List.lookup,Q] at this
    exact this
  ·refine hw.perm ?_
   show (C++dn.map fun p=>AO p.1 p.2).Perm (AO i b::(C++(dn.erase (i,b)).map fun p=>AO p.1 p.2))
   refine ((K.map fun p:Nat×Nat=>AO p.1 p.2).append_left C).trans ?_
   exact List.perm_middle
theorem AU: ∀ (s:List fU) (j:Nat),fU.op j∈s→ ∃ T0 k s',s=T0++fU.op k::s'∧ ∀ x∈T0,∃ i,x=fU.take i
 | .take i::s,j,h=>by
  rcases bT.1 h with e|h
  ·cases e
  ·obtain ⟨T0,k,s',rfl,A⟩:=AU s j h
   exact ⟨.take i::T0,k,s',U,fun x hx=>by
    rcases bT.1 hx with rfl|hx
    ·exact ⟨i,U⟩
    ·exact A x hx⟩
 | .op k::s,j,_=>⟨[],k,s,rfl,fun x hx=>by cases hx⟩
def kR (s:List fU) (dn:List (Nat×Nat)):List Nat:=(s.map fU.ix).filter fun i=> !(dn.map (·.1)).contains i
theorem rF {s:List fU} {dn:List (Nat×Nat)} {i:Nat}:i∈kR s dn↔(∃ x∈s,x.ix=i)∧ ∀ p∈dn,p.1≠i:=by
 unfold kR
 rw [List.mem_filter,cE]
 refine and_congr Iff.rfl ?_
 rw [Bool.not_eq_true',← Bool.not_eq_true,List.contains_iff_mem,cE]
 constructor
 ·intro h p hp e; exact h ⟨p,hp,e⟩
 ·rintro h ⟨p,hp,e⟩; exact h p hp e
theorem qG (hal: ∀ i,TL E ops D C' B dO VO AO i∨True): ∀ (n:Nat) (s:List fU) (dn:List (Nat×Nat)) (L Y:dw) (C:List ax),(∀ i,fU.take i∈s→TL E ops D C' B dO VO AO i)→s.Pairwise (fun x y=>rB (qv ops) dO x y=true)→(kR s dn).length=n→(dn.map (·.1)).Nodup→(∀ p∈dn,fU.take p.1∈s)→(∀ p∈dn,Y.lookup (dO p.1)=some (VO p.1 p.2))→(∀ i,fU.take i∈s→L.lookup (dO i)=none)→Bg B L→
 (∀ w,St E.S E.w0 C w→St E.S E.w0 C' w)→CH E ops D C' K0 B dO VO AO s L C→TN E ops D C' C1 (fun L C=>KJ E K0 D L C) [] n (kR s dn) (L++Y) (C++dn.map fun p=>AO p.1 p.2)
 |0,s,dn,L,Y,C,_,hp,hlen,hn,hm,hy,hl,hB,hC,h=>by
  have hr:kR s dn=[]:=hZ hlen
  have Q: ∀ x∈s,∃ i b,x=fU.take i∧(i,b)∈dn:=fun x hx=>by
   have hx':x.ix ∉ kR s dn:=by rw [hr]; exact List.not_mem_nil
   rw [rF] at hx'
   have: ∃ p∈dn,p.1=x.ix:=by
    apply Classical.byContradiction
    intro q
    exact hx' ⟨⟨x,hx,U⟩,fun p hp e=>q ⟨p,hp,e⟩⟩
   obtain ⟨p,T,AA⟩:=this
   have ht:=hm p T
   rcases List.mem_iff_getElem.1 hx with ⟨a,ha,ea⟩
   rcases List.mem_iff_getElem.1 ht with ⟨c,hc,ec⟩
   have d:a=c:=by
    rcases Nat.lt_trichotomy a c with q|q|q
    ·have:=eK.1 hp a c ha hc q
     simp only [rB,db,bne_iff_ne,ea,ec] at this
     exact absurd AA.symm this.1
    ·exact q
    ·have:=eK.1 hp c a hc ha q
     simp only [rB,db,bne_iff_ne,ea,ec] at this
     exact absurd AA this.1
   subst d
   exact ⟨p.1,p.2,by rw [← ea,ec],T⟩
  obtain ⟨dn',L',C2,V,J,O,W,h5,X⟩:=D8 s [] dn L Y C Q (by simpa using hp) hn (by simpa using hm) hy (by simpa using hl) (by simpa using h)
  show KJ E K0 D _ _
  have hd:dn'=[]:=List.eq_nil_iff_forall_not_mem.2 fun p hp=>by have:=((O p).1 hp).2; cases this
  subst hd
  refine FO (L2:=L') (C2:=C2) (fun a hf=>ES (fun t v ht=>W t v (by rw [oe,ht])) a hf) (fun w hw=>by have:=X w hw; simpa using this) V
 |n+1,s,dn,L,Y,C,hal',hp,hlen,hn,hm,hy,hl,hB,hC,h=>by
  intro i hi o ho K hK
  obtain ⟨G,m⟩:=List.mem_filter.1 hi
  obtain ⟨⟨x,hx,rfl⟩,H⟩:=rF.1 G
  have A: ∀ k∈kR s dn,iT (qv ops) k x.ix=false:=fun k hk=>by
   have:=cV.1 m k hk
   simpa using this
  cases x with
  |take i=>
   simp only [fU.ix] at H A ho hK G ⊢
   refine hal' i hx o ho _ _ K hB.app (fun w hw=>hC w (hw.take (List.sublist_append_left _ _))) fun b=>?_
   have l:=hl i hx
   have AB:(kR s dn).filter (· != i)=kR s ((i,b)::dn):=by
    unfold kR
    rw [List.filter_filter]
    apply List.filter_congr
    intro k _
    simp only [List.map_cons,List.contains_cons,Bool.not_or]
    rfl
   have N:(kR s dn).Nodup:=by
    unfold kR
    refine List.Nodup.sublist List.filter_sublist<|List.pairwise_map.2 (hp.imp fun {a c} q=>?_)
    simp only [rB,db,bne_iff_ne] at q
    exact q.1
   have M: ∀ k,fU.take k∈s→k≠i→dO k≠dO i:=fun k hk AC e=>by
    rcases List.mem_iff_getElem.1 hx with ⟨a,ha,ea⟩
    rcases List.mem_iff_getElem.1 hk with ⟨c,hc,ec⟩
    rcases Nat.lt_trichotomy a c with q|q|q
    ·have:=eK.1 hp a c ha hc q
     simp only [rB,db,bne_iff_ne,ea,ec] at this
     exact this.2 e.symm
    ·subst q; rw [ea] at ec; cases ec; exact AC rfl
    ·have:=eK.1 hp c a hc ha q
     simp only [rB,db,bne_iff_ne,ea,ec] at this
     exact this.2 e
   refine FO (L2:=L++((dO i,VO i b)::Y)) (C2:=C++((i,b)::dn).map fun p=>AO p.1 p.2) (fun a hf=>ES (fun t v ht=>?_) a hf) (fun w hw=>hw.perm (List.perm_middle).symm) (hK _ _ (fun w hw=>hC w (hw.take (List.sublist_append_left _ _))) (fun q=>by cases q) ?_)
   ·rw [oe] at ht
    by_cases e:t=dO i
    ·subst e
     rw [l] at ht
     simp only [List.lookup,beq_self_eq_true] at ht ⊢
     exact ht
    ·have e2:(t==dO i)=false:=by simpa using e
     simp only [List.lookup,e2] at ht ⊢
     rw [oe]; exact ht
   ·rw [AB]
    refine qG hal n s ((i,b)::dn) L ((dO i,VO i b)::Y) C hal' hp ?_ (List.nodup_cons.2 ⟨fun q=>?_,hn⟩) (fun p hp'=>?_) (fun p hp'=>?_) hl hB hC h
    ·rw [← AB,← List.Nodup.erase_eq_filter N,List.length_erase_of_mem G,hlen]; rfl
    ·obtain ⟨p,hp',e⟩:=cE.1 q
     exact H p hp' e
    ·rcases bT.1 hp' with rfl|hp'
     ·exact hx
     ·exact hm p hp'
    ·rcases bT.1 hp' with rfl|hp'
     ·simp [List.lookup]
     ·have:(dO p.1==dO i)=false:=by simpa using M p.1 (hm p hp') (H p hp')
      simp only [List.lookup,this]
      exact hy p hp'
  |op j=>
   simp only [fU.ix] at H A ho hK G ⊢
   obtain ⟨T0,k,s',rfl,hT⟩:=AU s j hx
   obtain ⟨q1,q2,q3⟩:=List.pairwise_append.1 hp
   obtain ⟨q4,q5⟩:=List.pairwise_cons.1 q2
   have R: ∀ k',fU.op k'∈T0++fU.op k::s'→k'∈kR (T0++fU.op k::s') dn:=fun k' hk'=>by
    refine rF.2 ⟨⟨_,hk',U⟩,fun p hp' e=>?_⟩
    have ht:=hm p hp'
    rcases List.mem_iff_getElem.1 hk' with ⟨a,ha,ea⟩
    rcases List.mem_iff_getElem.1 ht with ⟨c,hc,ec⟩
    rcases Nat.lt_trichotomy a c with q|q|q
    ·have:=eK.1 hp a c ha hc q
     simp only [rB,db,bne_iff_ne,ea,ec,fU.ix] at this
     exact this.1 e.symm
    ·subst q; rw [ea] at ec; cases ec
    ·have:=eK.1 hp c a hc ha q
     simp only [rB,db,bne_iff_ne,ea,ec,fU.ix] at this
     exact this.1 e
   have AD:k=j:=by
    apply Classical.byContradiction
    intro AF
    have hj':fU.op j∈s':=by
     rcases gJ.1 hx with q|q
     ·obtain ⟨i,e⟩:=hT _ q; cases e
     ·rcases bT.1 q with e|q
      ·injection e with e; exact absurd e.symm AF
      ·exact q
    have:=q4 _ hj'
    simp only [rB,db,fU.ix] at this
    have J:=A k (R k sm)
    rw [this.2] at J; cases J
   subst AD
   have F: ∀ x∈T0,∃ i b,x=fU.take i∧(i,b)∈dn:=fun x hx'=>by
    obtain ⟨i,rfl⟩:=hT x hx'
    apply Classical.byContradiction
    intro q
    have r:i∈kR (T0++fU.op k::s') dn:=rF.2 ⟨⟨_,List.mem_append_left _ hx',rfl⟩,fun p hp' e=>q ⟨i,p.2,rfl,by rw [← e]; exact hp'⟩⟩
    have:=q3 _ hx' _ (cy ..)
    simp only [rB,db,fU.ix] at this
    have J:=A i r
    rw [this.2] at J; cases J
   obtain ⟨dn',L',C2,V,J,O,W,h5,X⟩:=D8 T0 (fU.op k::s') dn L Y C F hp hn hm hy hl h
   refine MD (fun a hf=>ES W a hf) X (V o ho Y (dn'.map fun p=>AO p.1 p.2) K fun L3 C3 P Ay Z g=>?_)
   have AB:(kR (T0++fU.op k::s') dn).filter (· != k)=kR s' dn':=by
    unfold kR
    rw [List.map_append,List.filter_append,List.map_cons,List.filter_append]
    have e1:(List.map fU.ix T0).filter (fun i=> !(dn.map (·.1)).contains i)=[]:=by
     apply List.filter_eq_nil_iff.2
     intro z hz
     obtain ⟨x,hx',rfl⟩:=cE.1 hz
     obtain ⟨i,b,rfl,hb⟩:=F x hx'
     simp only [fU.ix,Bool.not_eq_true',Bool.not_eq_false,List.contains_iff_mem]
     exact List.mem_map_of_mem (f:=(·.1)) hb
    rw [e1]
    simp only [List.filter_nil,List.nil_append]
    have u:k ∉ dn.map (·.1):=fun q=>by
     obtain ⟨p,hp',e⟩:=cE.1 q
     exact H p hp' e
    rw [List.filter_cons_of_pos (by simpa [fU.ix] using u),List.filter_cons_of_neg (by simp [fU.ix]),List.filter_filter]
    apply List.filter_congr
    intro z hz
    obtain ⟨y,hy',rfl⟩:=cE.1 hz
    have A0:y.ix≠k:=fun e=>by
     have:=q4 y hy'
     simp only [rB,db,bne_iff_ne,fU.ix] at this
     exact this.1 e.symm
    rw [Bool.eq_iff_iff]
    simp only [db,bne_iff_ne,Bool.not_eq_true',← Bool.not_eq_true,List.contains_iff_mem]
    constructor
    ·rintro ⟨_,hq⟩ hc
     obtain ⟨p,hp',e⟩:=cE.1 hc
     exact hq (by rw [← e]; exact List.mem_map_of_mem (f:=(·.1)) ((O p).1 hp').1)
    ·intro hq
     refine ⟨A0,fun hc=>?_⟩
     obtain ⟨p,hp',e⟩:=cE.1 hc
     apply hq
     rw [← e]
     refine List.mem_map_of_mem (f:=(·.1)) ((O p).2 ⟨hp',?_⟩)
     have ht:=hm p hp'
     rcases gJ.1 ht with ht|ht
     ·exfalso
      have:=q3 _ ht _ (dI _ hy')
      simp only [rB,db,bne_iff_ne,fU.ix] at this
      exact this.1 e
     ·exact ht
   have N:(kR (T0++fU.op k::s') dn).Nodup:=by
    unfold kR
    refine List.Nodup.sublist List.filter_sublist<|List.pairwise_map.2 (hp.imp fun {a c} q=>?_)
    simp only [rB,db,bne_iff_ne] at q
    exact q.1
   refine hK _ _ (fun w hw=>P w (hw.take (List.sublist_append_left _ _))) (fun q=>by cases q) ?_
   rw [AB]
   have hdn': ∀ p∈dn',fU.take p.1∈s':=fun p hp'=>by
    rcases bT.1 ((O p).1 hp').2 with e|e
    ·cases e
    ·exact e
   refine qG hal n s' dn' L3 Y C3 (fun i hi=>hal' i (by simp [hi])) q5 ?_ J hdn' (fun p hp'=>hy p ((O p).1 hp').1) (fun i hi=>?_) (zK Z) P g
   ·rw [← AB,← List.Nodup.erase_eq_filter N,List.length_erase_of_mem G,hlen]; rfl
   ·have:=cV.1 Ay _ (tQ hi)
    simpa using this
/-- the rows, at any time; the others, one after the other -/
theorem EU {tb rem:List Nat} {L:dw} {C:List ax} (s:List fU) (B:dw) (dO:Nat→Nat) (VO:Nat→Nat→Value) (AO:Nat→Nat→ax) {n:Nat} (htb:tb=[]) (hr:s.map fU.ix=rem) (hn:rem.length=n) (hp:TZ (qv ops) dO s=true) (hl:((CJ dO s).all fun d=>(L.lookup d).isNone)=true) (hB:B.map (fun p=>L.lookup p.1)=B.map (fun p=>some p.2)) (hC: ∀ w,St E.S E.w0 C w→St E.S E.w0 C' w)
 (hal: ∀ i,fU.take i∈s→TL E ops D C' B dO VO AO i) (h:CH E ops D C' K0 B dO VO AO s L C):TN E ops D C' C1 (fun L C=>KJ E K0 D L C) tb n rem L C:=by
 subst htb hr
 have e:kR s []=s.map fU.ix:=by unfold kR; simp
 have:=qG (C1:=C1) (fun i=> .inr trivial) n s [] L [] C hal (ER hp) (by rw [e]; exact hn) List.nodup_nil (fun p hp=>by cases hp) (fun p hp=>by cases hp) (fun i hi=>by
  have:=cV.1 hl _ (tQ hi)
  simpa using this) (zK hB) hC h
 simpa [e] using this
theorem JU {p:Nat→Prop}: ∀ i,fU.take i∈([]:List fU)→p i:=fun i h=>by cases h
theorem rf {p:Nat→Prop} {j:Nat} {s:List fU} (h: ∀ i,fU.take i∈s→p i): ∀ i,fU.take i∈fU.op j::s→p i:=fun i hi=>by
 rcases bT.1 hi with e|hi
 ·cases e
 ·exact h i hi
theorem mB {p:Nat→Prop} {j:Nat} {s:List fU} (hj:p j) (h: ∀ i,fU.take i∈s→p i): ∀ i,fU.take i∈fU.take j::s→p i:=fun i hi=>by
 rcases bT.1 hi with e|hi
 ·cases e; exact hj
 ·exact h i hi
end
section
variable {E:fg} {ops:Array Oper} {D:List Deferred} {C':List ax} {B:List (Nat×Value)} {dO:Nat→Nat} {VO:Nat→Nat→Value} {AO:Nat→Nat→ax}
variable {d:Nat} {ty:TypeId} {ps:String} {af:Array Edge}
theorem Lr {i t e sz:Nat} (ho:ops[i]? =some ⟨some d,.buildSlice t 0 #[],ty,ps,af,none⟩) (ht:tE E.P t=some (e,sz)) (hd:Nat.blt d E.n=true) (h1:dO i=d) (h2: ∀ b,VO i b= .slice (some ⟨b,0,none⟩) 0 0) (h3: ∀ b,AO i b=cu b e []):TL E ops D C' B dO VO AO i:=fun o ho' L C K hB _ hk=>by
 rw [ho] at ho'; cases ho'
 exact ql U ht hd fun b=>aF (by have:=hk b; rw [h1,h2,h3] at this; exact this)
theorem v_ {i t e sz n:Nat} {xs:List Operand} {vs:List Value} {cs zs:List Value} (ho:ops[i]? =some ⟨some d,.buildSlice t n ((xs.zipIdx.map fun p=>(p.2,p.1)).toArray),ty,ps,af,none⟩) (ht:tE E.P t=some (e,sz)) (hz:tZ E.P e=some zs) (hx:evs B xs=some vs) (hn:xs.length=n) (hp:Nat.blt 0 (n*sz)=true) (hb:Nat.ble (n*sz) 16777216=true) (hv: ∀ v∈vs,v.cells.size=sz)
 (hc:(vs.map (·.cells.toList)).flatten=cs) (hd:Nat.blt d E.n=true) (h1:dO i=d) (h2: ∀ b,VO i b= .slice (some ⟨b,0,none⟩) n n) (h3: ∀ b,AO i b=cu b e cs):TL E ops D C' B dO VO AO i:=fun o ho' L C K hB _ hk=>by
 rw [ho] at ho'; cases ho'
 exact ej U ht hz (EH hB hx) hn hp hb hv hc hd fun b=>aF (by have:=hk b; rw [h1,h2,h3] at this; exact this)
end
section
variable {E:fg} {ops:Array Oper} {D:List Deferred} {C':List ax} {K0:Act→World→Prop} {B:List (Nat×Value)} {dO:Nat→Nat} {VO:Nat→Nat→Value} {AO:Nat→Nat→ax}
theorem re {j:Nat} {s:List fU} {L:dw} {C:List ax} {o:Oper} (ho:ops[j]? =some o)
 (h: ∀ (Y:dw) (X:List ax) (K:Act→World→Prop),(∀ L' C'',(∀ w,St E.S E.w0 C'' w→St E.S E.w0 C' w)→((CJ dO s).all fun d=>(L'.lookup d).isNone)=true→B.map (fun p=>L'.lookup p.1)=B.map (fun p=>some p.2)→CH E ops D C' K0 B dO VO AO s L' C''→KJ E K D (L'++Y) (C''++X))→RJ E ops (NQ K) [o] D (L++Y) (C++X)):CH E ops D C' K0 B dO VO AO (.op j::s) L C:=fun o' ho'=>by
 rw [ho] at ho'; cases ho'
 exact h
theorem nR {s:List fU} {L Y:dw} {C X:List ax} {K:Act→World→Prop} (hT: ∀ L' C'',(∀ w,St E.S E.w0 C'' w→St E.S E.w0 C' w)→((CJ dO s).all fun d=>(L'.lookup d).isNone)=true→B.map (fun p=>L'.lookup p.1)=B.map (fun p=>some p.2)→CH E ops D C' K0 B dO VO AO s L' C''→KJ E K D (L'++Y) (C''++X)) (nL nC:Nat)
 (hL:L.take nL++Y=L) (hC:C.take nC++X=C) (h1: ∀ w,St E.S E.w0 (C.take nC) w→St E.S E.w0 C' w) (h2:((CJ dO s).all fun d=>((L.take nL).lookup d).isNone)=true) (h3:B.map (fun p=>(L.take nL).lookup p.1)=B.map (fun p=>some p.2)) (h:CH E ops D C' K0 B dO VO AO s (L.take nL) (C.take nC)):RJ E ops (NQ K) [] D L C:=by
 have:=hT _ _ h1 h2 h3 h
 rw [hL,hC] at this
 exact aF this
theorem Od {c:Code} {Q:dg} {L L':dw} {C:List ax} (h:L'.map (fun p=>L.lookup p.1)=L'.map (fun p=>some p.2)) (k:WJ E c Q D L' C):WJ E c Q D L C:=fun a w hf hs=>k a w (ES (zK h) a hf) hs
theorem w7: ∀ {C:List ax} {i:Nat} {A:ax},C[i]? =some A→C.Perm (A::C.eraseIdx i)
 |[],i,A,h=>by simp at h
 |x::C,0,A,h=>by
  simp at h; subst h
  exact List.Perm.refl _
 |x::C,i+1,A,h=>((w7 (C:=C) (i:=i) (by simpa using h)).cons x).trans (List.Perm.swap _ _ _)
theorem St.front {S:BS} {w0 w:World} {C:List ax} {A:ax} (i:Nat) (hi:C[i]? =some A) (h:St S w0 C w):St S w0 (A::C.eraseIdx i) w:=h.perm (w7 hi)
theorem EN {K:Act→World→Prop} {L:dw} {C:List ax} {A:ax} (i:Nat) (hi:C[i]? =some A) (h:KJ E K D L (A::C.eraseIdx i)):KJ E K D L C:=fun a w hf hs=>h a w hf (hs.front i hi)
theorem rK {Q:dg} {rest:List Oper} {L:dw} {C:List ax} {A:ax} (i:Nat) (hi:C[i]? =some A) (h:RJ E ops Q rest D L (A::C.eraseIdx i)):RJ E ops Q rest D L C:=fun a w hf hs=>h a w hf (hs.front i hi)
end
end
section
open Go.RowKit
theorem Bt (l:List du) (az:List kS): ∀ v∈(List.zipWith du.cells l az).flatten,v.oneCell'=true:=by
 induction l generalizing az with
 |nil=>intro v hv; simp at hv
 |cons x l ih=>
  cases az with
  |nil=>intro v hv; simp at hv
  |cons a az=>
   intro v hv
   simp only [List.zipWith_cons_cons,List.flatten_cons,gJ] at hv
   rcases hv with hv|hv
   ·simp only [du.cells,x8.cells,bT,List.not_mem_nil,or_false] at hv
    rcases hv with rfl|rfl|rfl<;>rfl
   ·exact ih az v hv
theorem MO: ∀ (m:du) (a:kS) (w:World),(∀ X∈du.owns m a,X.holds w)→ ∀ X∈du.f_ m a,X.holds w:=fun m a w h X hX=>by
 simp only [du.f_,bT,List.not_mem_nil,or_false] at hX
 have A:=n9 (h (own a.1.1 a.1.2 l0 1 (m.fY.map iC)) (by simp [du.owns]))
 have B:=n9 (h (own a.2.1.1 a.2.1.2 l0 1 (m.iE.map iC)) (by simp [du.owns]))
 have C:=n9 (h (own a.2.2.1 a.2.2.2 l0 1 (m.lI.map iC)) (by simp [du.owns]))
 rcases hX with rfl|rfl|rfl
 ·simpa using A
 ·simpa using B
 ·simpa using C
theorem qb: ∀ (l:List du) (az:List kS),(bj du.owns l az).all (·.wr)=true
 |[],_=>rfl
 |_::_,[]=>rfl
 |x::l,a::az=>by
  simp only [bj,List.all_append,db]
  exact ⟨U,qb l az⟩
theorem JD (l:List du) (az:List kS):(bQ (bj du.owns l az)).wr=true:=qb l az
theorem JP {l m:List du} {az bz:List kS} (h:az.length=l.length):List.zipWith du.cells (l++m) (az++bz)=List.zipWith du.cells l az++List.zipWith du.cells m bz:=List.zipWith_append h.symm
theorem uv {l:List du} {az:List kS} (h:az.length=l.length):(List.zipWith du.cells l az).length=l.length:=by rw [List.length_zipWith]; omega
/-- what is read of a thing that is tied, and frozen -/
theorem pH {C L:List ax} {a:OA} {c e sz n:Nat} {es:List (List Value)} (i:Nat) (hC:C[i]? =some (bQ L).ro) (hm:own a c e sz es∈L) (hn:es.length=n):iK C (rd a n sz es).holds:=fun w hw=>by
 subst hn
 exact n9 ((show (bQ L).holds w from (hw _ (aR hC):(bQ L).ro.holds w)).1 _ hm)
section
variable {E:fg} {ops:Array Oper} {Q:dg} {rest:List Oper} {D:List Deferred} {L:List (Nat×Value)} {C C1:List ax}
theorem St.P8 {S:BS} {w0 w:World} {X C:List ax} {A:ax} (h:St S w0 (bQ (X++[A])::C) w):St S w0 (A::bQ X::C) w:=by
 have B:=h.iU
 have D:St S w0 (X++(A::C)) w:=by simpa using B
 exact D.tied.perm (List.Perm.swap _ _ _)
theorem St.merge {S:BS} {w0 w:World} {X Y C:List ax} (h:St S w0 (bQ X::bQ Y::C) w):St S w0 (bQ (X++Y)::C) w:=by
 have A:St S w0 (bQ Y::(X++C)) w:=(h.iU).perm (List.perm_middle (a:=bQ Y) (l₁:=X) (l₂:=C))
 have B:St S w0 (Y++(X++C)) w:=A.iU
 have D:St S w0 ((X++Y)++C) w:=B.perm (by rw [← List.append_assoc]; exact List.perm_append_comm.append_right _)
 exact D.tied
end
section
variable {E:fg} {ops:Array Oper} {Q:dg} {rest:List Oper} {D:List Deferred} {L:List (Nat×Value)} {C:List ax}
theorem zM {A:ax} {X X':List ax} (e:X++[A]=X') (h:RJ E ops Q rest D L (bQ X'::C)):RJ E ops Q rest D L (A::bQ X::C):=fun a w hf hs=>h a w hf (hs.tie e)
theorem yQ {X:List ax} {A:ax} (h:RJ E ops Q rest D L (A::bQ X::C)):RJ E ops Q rest D L (bQ (X++[A])::C):=fun a w hf hs=>h a w hf hs.P8
theorem KQ {K:Act→World→Prop} {ms ns:List du} {az bz:List kS} (hl:az.length=ms.length) (h:KJ E K D L (bQ (bj du.owns (ms++ns) (az++bz))::C)):KJ E K D L (bQ (bj du.owns ms az)::bQ (bj du.owns ns bz)::C):=fun a w hf hs=>h a w hf (by rw [jx hl.symm]; exact hs.merge)
end
/-- the head of the ways: the way that ends here, if it may -/
def xX (l:bk) (r:cw) (rs fs:List Int) (ra fa:RA) (hz:List kS) (LA:List ax):Prop:=
 ((r.aa.length:Int)-(dk rs).right≤l.fZ∧ ∃ la:RA,hz=[(ra,fa,la)]∧LA=[own la.1 la.2 l0 1 ((jE l r rs).map iC)])∨(¬ (r.aa.length:Int)-(dk rs).right≤l.fZ∧hz=[]∧LA=[])
theorem xX.len {l:bk} {r:cw} {rs fs:List Int} {ra fa:RA} {hz:List kS} {LA:List ax} (h:xX l r rs fs ra fa hz LA):hz.length=(hG l r rs fs).length:=by
 unfold hG
 rcases h with ⟨q,la,rfl,rfl⟩|⟨q,rfl,rfl⟩
 ·rw [if_pos q]; rfl
 ·rw [if_neg q]; rfl
theorem xX.wr {l:bk} {r:cw} {rs fs:List Int} {ra fa:RA} {hz:List kS} {LA:List ax} (h:xX l r rs fs ra fa hz LA):LA.all (·.wr)=true:=by
 rcases h with ⟨q,la,rfl,rfl⟩|⟨q,rfl,rfl⟩<;>rfl
theorem JL {S:BS} {w0 w:World} {l:bk} {r:cw} {rs fs:List Int} {ra fa:RA} {hz az:List kS} {LA:List ax} {R:List du} {A:ax} (hh:xX l r rs fs ra fa hz LA)
 (h:St S w0 [bQ [own ra.1 ra.2 l0 1 (rs.map iC),own fa.1 fa.2 l0 1 (fs.map iC)],A,bQ LA,bQ (bj du.owns R az)] w):St S w0 [bQ (bj du.owns (hG l r rs fs++R) (hz++az)++[A])] w:=by
 rw [jx hh.len.symm]
 have D:St S w0 [own ra.1 ra.2 l0 1 (rs.map iC),own fa.1 fa.2 l0 1 (fs.map iC),A,bQ LA,bQ (bj du.owns R az)] w:=h.iU
 rcases hh with ⟨q,la,rfl,rfl⟩|⟨q,rfl,rfl⟩
 ·unfold hG
  rw [if_pos q]
  have B:=(St.ko [3,0,1,2,4] rfl rfl D).iU
  have E:=(St.ko [4,1,2,0,3] rfl rfl B).iU
  have C:St S w0 (((bj du.owns [(⟨rs,fs,jE l r rs⟩:du)] [(ra,fa,la)]++bj du.owns R az)++[A])++[]) w:=by
   rw [List.append_nil]
   refine E.perm ?_
   show (bj du.owns R az++(bj du.owns [(⟨rs,fs,jE l r rs⟩:du)] [(ra,fa,la)]++[A])).Perm _
   rw [← List.append_assoc]
   exact List.perm_append_comm.append_right _
  exact C.tied
 ·unfold hG
  rw [if_neg q]
  have B:=(St.ko [4,2] rfl rfl D).iU
  have C:St S w0 (((bj du.owns [] []++bj du.owns R az)++[A])++[]) w:=by
   rw [List.append_nil]; exact B
  exact C.tied
theorem Kj {E:fg} {K:Act→World→Prop} {D:g9} {L:dw} {l:bk} {r:cw} {rs fs:List Int} {ra fa:RA} {hz az z:List kS} {LA:List ax} {R W:List du} {A A':ax} (hh:xX l r rs fs ra fa hz LA) (hW:hG l r rs fs++R=W) (hz':hz++az=z) (hA:A=A')
 (h:KJ E K D L [bQ (bj du.owns W z++[A'])]):KJ E K D L [bQ [own ra.1 ra.2 l0 1 (rs.map iC),own fa.1 fa.2 l0 1 (fs.map iC)],A,bQ LA,bQ (bj du.owns R az)]:=fun a w hf hs=>h a w hf (by subst hW hz' hA; exact JL hh hs)
theorem Pn {E:fg} {K:Act→World→Prop} {D:g9} {L:dw} {X A:ax} {W:List du} (h:KJ E K D L [bQ (bj du.owns W []++[A])]):KJ E K D L [X,A]:=fun a w hf hs=>h a w hf (by
 have B:St E.S E.w0 [A] w:=St.ko [1] rfl rfl hs
 have C:St E.S E.w0 (([]++[A])++[]) w:=B
 have e:bj du.owns W []=[]:=by cases W<;>rfl
 rw [e]
 exact C.tied)
theorem F_ {E:fg} {K:Act→World→Prop} {D:g9} {L:dw} {C:List ax} (e sz:Nat) (k:KJ E K D L (own none 0 e sz []::C)):KJ E K D L C:=fun a w hf hs=>k a w hf (hs.tM e sz)
end
section
open Go.RowKit
theorem MY (l:bk) (kA:OA) (kC:Nat) (az:List RA) (cA:OA) (cC:Nat) (bA:OA) (bC:Nat) (r:cw) (sgA:OA) (sgC:Nat) (hin:eg l az) (hsl:r.aa.length≤1000000):
 dG Tryz.prog 162 [(vA (cv.cells (jN l kA kC cA cC bA bC))),(vA (cz.cells (jk r sgA sgC)))] [(rd kA l.aV.length 9 (l.aV.map ao.cells)),(rd cA l.aj.length 2 (List.zipWith aw.cells l.aj az)),(dR (bj aw.f_ l.aj az)),(rd bA l.ab.length 4 (l.ab.map bJ.cells)),(rd sgA r.aa.length 2 (r.aa.map aG.cells))] (vB (decide (dU l r))):=by
 have AF:=hin.sJ
 have AD:=hin.sL
 have w:=hin.og
 have AC:=hin.sH
 refine bG kr Tryz.func162 U U fun w0 Q hQ hN=>?_
 try dsimp only
 refine WS fun _ h=>eI U fun b2=>eI U fun b3=>bD 1 U<|RK h<|ak fun _ j=>WS fun _ H=>eQ 2 [] (mc 0 U mn) U<|rS (CL (jc r.Start 0 86400000) (aO) U)<|rP 2 [] mn ?_
 refine b_ (t:=11) U (bq fun X=>?_) (br fun X=>?_)
 ·refine bD 13 U<|RK H<|aS U<|WS fun _ k=>rP 1 [] mn ?_
  refine RK k<|aq<|Q1 hQ U U U ?_
  exact cB (bE fun q=>by have C:=q.time; have u:=q.len; omega).symm
 refine eQ 4 [] (mc 0 U mn) U<|rS (CL (jc r.fR r.Start 86400000) (aO) U)<|rP 3 [] mn ?_
 refine b_ (t:=19) U (bq fun Z=>?_) (br fun Z=>?_)
 ·refine bD 5 U<|RK H<|aS U<|WS fun _ m=>rP 1 [] mn ?_
  refine RK m<|aq<|Q1 hQ U U U ?_
  exact cB (bE fun q=>by have C:=q.time; have u:=q.len; omega).symm
 refine rP 5 [] (mc 0 U mn) ?_
 refine RK H<|cx U (aU fun a=>?_) (aT fun a=>?_)
 ·refine WS fun _ n=>rP 1 [] mn ?_
  refine RK n<|aq<|Q1 hQ U U U ?_
  exact cB (bE fun q=>by have C:=q.time; have u:=q.len; omega).symm
 refine WK j<|ak fun _ o=>WS fun _ J=>rP 1 [] mn ?_
 refine RK J<|aH ?_
 have F:(0≤r.aa.length)∧(oU l r.aa 0):=by exact ⟨Nat.zero_le _,vi⟩
 refine bY (ι:={z:Nat // (z≤r.aa.length)∧(oU l r.aa z)}) [2,3] [0,1,2,3,4,5,6] U U (fun z=>[(5,(vI (z.1:Int)))]) (fun z=>[]) (fun _=>rfl) (fun _=>rfl) (fun z=>r.aa.length-z.1) ⟨0,F⟩ (bB U) (aQ [0,1,2,3,4,5,6]) ?_
 clear F
 rintro ⟨i,⟨p,A⟩⟩ J11 D
 try dsimp only
 refine ak fun _ K=>WS fun _ L=>rP 5 [] (mc 0 U mn) ?_
 refine RK L<|bW U (aT fun Y=>?_) (aU fun Y=>?_)
 ·refine bP<|ai<|ai<|aJ<|KK o<|WS fun _ T=>rP 1 [] mn ?_
  refine RK T<|aq<|Q1 hQ U U U ?_
  exact cB (dx (x7 I I A I)).symm
 refine WK K<|ak fun _ E=>aH<|WS fun _ M=>rP 3 [] (mc 0 U mn) ?_
 obtain ⟨x,hx⟩:=aL r.aa i I
 have s:=bM aG.cells hx
 refine rS (IA i U (aA 6 U) yB dc I I)<|rS (lx i 0 (aG.cells x) U cj (aA 6 U) s U dc U U)<|AL U Hw fun v=>fG U uN U<|RK M<|ak fun _ N=>WS fun _ G=>eQ 6 [0,1] (mc 0 U (mc 2 U mn)) U<|rS (CL (jc x.fE 0 ((l.ab.length:Int)-1)) (aO) U)<|rP 2 [] mn ?_
 refine b_ (t:=45) U (bq fun b=>?_) (br fun b=>?_)
 ·refine bD 5 U<|RK G<|aS U<|WS fun _ O=>rP 1 [] mn ?_
  refine RK O<|aq<|Q1 hQ U U U ?_
  exact cB (bE fun q=>by have C:=q.sig i x hx; unfold hE iw at C; omega).symm
 refine eQ 2 [] (mc 0 U mn) U<|rS (CL (jc x.Read 0 86400000) (aO) U)<|rP 2 [] mn ?_
 refine RK G<|cx U (bq fun c=>?_) (br fun c=>?_)
 ·refine WS fun _ P=>rP 1 [] mn ?_
  refine RK P<|aq<|Q1 hQ U U U ?_
  exact cB (bE fun q=>by have C:=q.sig i x hx; unfold hE iw at C; omega).symm
 refine WK N<|ak fun _ B=>dp ct 38 kr<|dP 3 [] mn ?_
 refine jy (t:=53) U (aT fun d=>?_) (aU fun d=>?_)
 ·refine kX 35 U<|cK<|RK B<|bR U<|cf<|aN<|KK E<|au<|rP 3 [] mn ?_
  refine aF ?_
  have W:(vI (((i+1):Nat):Int))=(vI ((i:Int)+1)):=by exact cI I
  refine bg (D ⟨(i+1),⟨I,js A hx (by unfold hE iw; (rw [Gs I]; simp only; omega))⟩⟩ _ _ _ U os (dh.cons U<|dh.cons U<|bf U W<|dh.nil _) (aQ [1,2,3,4,5,6,7]))
 refine dP 6 [0,1] (mc 0 U (mc 1 U mn)) ?_
 obtain ⟨y,hy⟩:=aL r.aa (i-1) I
 have AB:=bM aG.cells hy
 refine dS (IA (i-1) U (aA 7 U) yB dc I I)<|dS (o9 ((i-1)*2) U (aA 7 U) (Nat.mul_pos I dc) fj U)<|dS (g6 (i-1) 0 (vI y.fE) U cj (aA 7 U) AB U dc U)<|dP 2 [] mn ?_
 refine g_ (t:=64) U (aU fun e=>?_) (aT fun e=>?_)
 ·refine kX 24 U<|cK<|RK B<|aS U<|WS fun _ R=>rP 1 [] mn ?_
  refine RK R<|aq<|Q1 hQ U U U ?_
  exact cB (bE fun q=>by have C:=q.sig i x hx; unfold hE iw at C; (rw [rZ I hy] at C; omega)).symm
 refine lU 6 [0,1] (mc 0 U (mc 1 U mn)) U<|dS (IA (i-1) U (aA 7 U) yB dc I I)<|dS (o9 ((i-1)*2) U (aA 7 U) (Nat.mul_pos I dc) fj U)<|dS (g6 (i-1) 0 (vI y.fE) U cj (aA 7 U) AB U dc U)<|dP 2 [] mn ?_
 refine jy (t:=75) U (aT fun f=>?_) (aU fun f=>?_)
 ·refine kX 13 U<|cK<|RK B<|bR U<|cf<|aN<|KK E<|au<|rP 3 [] mn ?_
  refine aF ?_
  have V:(vI (((i+1):Nat):Int))=(vI ((i:Int)+1)):=by exact cI I
  refine bg (D ⟨(i+1),⟨I,js A hx (by unfold hE iw; (rw [rZ I hy]; omega))⟩⟩ _ _ _ U os (dh.cons U<|dh.cons U<|bf U V<|dh.nil _) (aQ [1,2,3,4,5,6,7]))
 refine lU 6 [0,1] (mc 0 U (mc 1 U mn)) U<|dS (IA (i-1) U (aA 7 U) yB dc I I)<|dS (o9 (((i-1)*2)+1) U (aA 7 U) (Nat.mul_pos I dc) fj U)<|dS (g6 (i-1) 1 (vI y.Read) U cj (aA 7 U) AB U dc U)<|dP 4 [] mn ?_
 refine cK<|RK B<|cx U (aU fun g=>?_) (aT fun g=>?_)
 ·refine WS fun _ S=>rP 1 [] mn ?_
  refine RK S<|aq<|Q1 hQ U U U ?_
  exact cB (bE fun q=>by have C:=q.sig i x hx; unfold hE iw at C; (rw [rZ I hy] at C; omega)).symm
 refine cf<|aN<|KK E<|au<|rP 3 [] mn ?_
 refine aF ?_
 have AA:(vI (((i+1):Nat):Int))=(vI ((i:Int)+1)):=by exact cI I
 refine bg (D ⟨(i+1),⟨I,js A hx (by unfold hE iw; (rw [rZ I hy]; omega))⟩⟩ _ _ _ U os (dh.cons U<|dh.cons U<|bf U AA<|dh.nil _) (aQ [1,2,3,4,5,6,7]))
end
section
open Go.RowKit
theorem Mx (l:bk) (kA:OA) (kC:Nat) (az:List RA) (cA:OA) (cC:Nat) (bA:OA) (bC:Nat) (r:cw) (sgA:OA) (sgC:Nat) (hin:eg l az) (hle:dD l=0) (hr:dU l r):
 pG Tryz.prog 164 [(vA (cv.cells (jN l kA kC cA cC bA bC))),(vA (cz.cells (jk r sgA sgC)))] [(rd kA l.aV.length 9 (l.aV.map ao.cells)),(rd cA l.aj.length 2 (List.zipWith aw.cells l.aj az)),(dR (bj aw.f_ l.aj az)),(rd bA l.ab.length 4 (l.ab.map bJ.cells)),(rd sgA r.aa.length 2 (r.aa.map aG.cells))] (fun (x:(OA)×Nat×(OA)×Nat×(OA)×Nat)=>(vA (iO.cells (iO.mk (bH.mk x.1 ((cm l l.ab.length).length) x.2.1) (bH.mk x.2.2.1 ((eO l r r.aa.length).length) x.2.2.2.1) (bH.mk x.2.2.2.2.1 ((fu l r r.aa.length).length) x.2.2.2.2.2))))) (fun (x:(OA)×Nat×(OA)×Nat×(OA)×Nat)=>True) (fun (x:(OA)×Nat×(OA)×Nat×(OA)×Nat)=>[(own x.1 x.2.1 3 1 ((cm l l.ab.length).map iC)),(own x.2.2.1 x.2.2.2.1 53 2 ((eO l r r.aa.length).map ag.cells)),(own x.2.2.2.2.1 x.2.2.2.2.2 4 1 ((fu l r r.aa.length).map qs))]):=by
 have A4:=hin.sJ
 have A0:=hin.sL
 have AO:=hin.og
 have Ay:=hin.sH
 obtain ⟨w,g⟩:=dM hle
 have t:=g.head
 unfold eW at t
 have A2:=hr.len
 have A3:=hr.time
 refine e_ kr Tryz.func164 U U fun w0 Q hQ hN=>?_
 try dsimp only
 refine WS fun _ n=>eI U fun b2=>eI U fun b3=>AL U Oq fun b4=>RK n<|WS fun _ o=>AL U Oq fun h=>RK o<|ak fun _ p=>WS fun _ q=>rP 1 [] mn ?_
 refine RK q<|aH<|eM 3 1 ?_
 have A:(0≤l.ab.length):=by exact Nat.zero_le _
 refine bY (ι:={z:Nat×(OA)×Nat // (z.1≤l.ab.length)}) [2,3,4,5] [2,3,4,5,6,7,8,9] U U (fun z=>[(6,(vI (z.1.1:Int)))]) (fun z=>[(own z.1.2.1 z.1.2.2 3 1 ((cm l z.1.1).map iC)),(cu h 252 (iO.cells (iO.mk (bH.mk z.1.2.1 ((cm l z.1.1).length) z.1.2.2) (bH.mk none 0 0) (bH.mk none 0 0))))]) (fun _=>rfl) (fun _=>rfl) (fun z=>l.ab.length-z.1.1) ⟨(0,none,0),A⟩ (bB U) (aQ [2,3,4,5,6,7,8,9,0,1]) ?_
 clear A
 rintro ⟨⟨b,a,c⟩,F⟩ J9 m
 try dsimp only at F
 try dsimp only
 refine ak fun _ K=>WS fun _ L=>rP 5 [] (mc 2 U mn) ?_
 refine RK L<|cx U (aU fun j=>?_) (aT fun j=>?_)
 ·refine WK K<|ak fun _ M=>aH<|dA ct [5,6,8] [1] [0] [0,1,2,3,4,5,6,7] [0,1,2,3,4,5,6,7,8,9] U U U U U<|eS U (FA 0 U fj U)<|fS U (L1 (vS a ((cm l b).length) c) 9 U cj U U)<|eS U (LW 2 U cj U U)<|eS U (MV U) ?_
  have A1:=mx w g (i:=b) I
  refine eS U (CL (H7 l kA kC az cA cC bA bC (b:Int) hin asm asm I) (bu [3,4,5,6]) U)<|eS U (FA 0 U fj U)<|eh U<|jB U fun T14 W=>ej (xs:=[.tmp 21]) (cs:=[(vI (dY l (b:Int).toNat))]) U dv kj U U U U (by simp [Value.cells]) U U fun y=>aF (W _ _ (aQ [1,2,3,4,5,6,7,8]) (aQ [1,2,3,4,5,6,7,8,9,10]) ?_)
  refine cd U fun T16 X=>?_
  refine dJ (es2:=(List.map iC (cm l (b+1)))) (m':=(cm l (b+1)).length) 9 U U U sx U U sm (bw (es:=List.map iC [(dY l (b:Int).toNat)]) 0 U U (by simp [bL]) U) (lg _) (by simp only [cU]; omega) (by simp only [maxLen,cU]; omega) (by rw [qH]; simp) sm U fun H AB=>?_
  try dsimp only
  refine aF (X _ _ (aQ [1,2,3,4,5,6,7,8]) ?_)
  refine cd U fun T19 Y=>Sa (iO.cells (iO.mk (bH.mk H ((cm l (b+1)).length) AB) (bH.mk none 0 0) (bH.mk none 0 0))) U Gi U U<|aF (Y _ _ (aQ [1,2,3,4,5,6,7,8]) ?_)
  refine fp U<|aN<|KK M<|au<|rP 3 [] mn ?_
  refine aF ?_
  have e:(vI (((b+1):Nat):Int))=(vI ((b:Int)+1)):=by exact cI I
  refine bg (m ⟨((b+1),H,AB),(by first|omega|(simp only []; omega))⟩ _ _ _ U os (cG 4<|bf U e<|dh.nil _) (aQ [1,2,3,4,5,6,7,8,9,10]))
 refine bP<|ai<|ai<|aJ<|KK p<|ak fun _ N=>WS fun _ O=>?_
 rw [show cm l b=(cm l l.ab.length) from by rw [show b=l.ab.length by omega]]
 refine rP 1 [] mn ?_
 refine RK O<|aH<|eM 53 2<|eM 4 1 ?_
 have A:(0≤r.aa.length):=by exact Nat.zero_le _
 refine bY (ι:={z:Nat×(OA)×Nat×(OA)×Nat // (z.1≤r.aa.length)}) [2,3,4,5] [2,3,4,5,6,7,8,9,10] U U (fun z=>[(7,(vI (z.1.1:Int)))]) (fun z=>[(own z.1.2.2.2.1 z.1.2.2.2.2 4 1 ((fu l r z.1.1).map qs)),(own z.1.2.1 z.1.2.2.1 53 2 ((eO l r z.1.1).map ag.cells)),(cu h 252 (iO.cells (iO.mk (bH.mk a ((cm l l.ab.length).length) c) (bH.mk z.1.2.1 ((eO l r z.1.1).length) z.1.2.2.1) (bH.mk z.1.2.2.2.1 ((fu l r z.1.1).length) z.1.2.2.2.2))))]) (fun _=>rfl) (fun _=>rfl) (fun z=>r.aa.length-z.1.1) ⟨(0,none,0,none,0),A⟩ (bB U) (aQ [2,3,4,5,6,7,8,9,10,0,1,11]) ?_
 clear A
 rintro ⟨⟨i,ta,tc,sa,sc⟩,G⟩ J23 J
 try dsimp only at G
 try dsimp only
 refine ak fun _ P=>WS fun _ R=>rP 5 [] (mc 1 U mn) ?_
 refine RK R<|bW U (aT fun k=>?_) (aU fun k=>?_)
 ·refine bP<|ai<|ai<|aJ<|KK N<|WS fun _ V=>?_
  rw [show eO l r i=(eO l r r.aa.length) from by rw [show i=r.aa.length by omega]]
  rw [show fu l r i=(fu l r r.aa.length) from by rw [show i=r.aa.length by omega]]
  refine rP 1 [] (mc 11 U mn) ?_
  refine fG U QZ U<|RK V<|aq<|LX hQ (a,c,ta,tc,sa,sc) [8,10,9] [0] (mc 0 U mn) U U U U ?_
  trivial
 refine WK P<|ak fun _ S=>aH<|ak fun _ T=>dA ct [10,11] [] [] [0,1,2,3,4,5,6,7,8,9,10,11] [] U U U U U<|eS U (LW 2 U cj U U)<|eS U (FA 2 U fj U)<|eS U (L1 (vS sgA r.aa.length sgC) 1 U cj U U)<|eS U (MV U) ?_
 obtain ⟨s,hs⟩:=aL r.aa i I
 have v:=bM aG.cells hs
 refine eS U (IA i U (aA 7 U) yB dc I I)<|eS U (lx i 0 (aG.cells s) U cj (aA 7 U) v U dc U U) ?_
 have u:=(hr.sig i s hs).1
 refine eS U (CL (Ni l kA kC az cA cC bA bC s hin asm (by exact u)) (bu [3,4,5,6]) U)<|eS U (MV U)<|eS U (EX U)<|eS U (EX U)<|eS U (AG U)<|eh U<|cd U fun T29 Z=>AL U dV fun AC=>aF (Z _ _ (aQ [1,2,3,4,5,6,7,8,9,10,11,12]) ?_)
 refine cd U fun T31 d=>fG U cZ U<|aF (d _ _ (aQ [1,2,3,4,5,6,7,8,9,10,11,12]) ?_)
 refine fp U<|KK T<|WS fun _ AA=>rP 3 [0,1] (mc 12 U (mc 0 U mn)) ?_
 refine ej (xs:=[.tmp 44]) (cs:=(ag.cells (cP l s))) U lq dV U U U U (by simp [Value.cells,ag.aZ]) U U fun AD=>?_
 refine dJ (es2:=(List.map ag.cells (eO l r (i+1)))) (m':=(eO l r (i+1)).length) 12 U U U FE U U sm (bw (es:=List.map ag.cells [(cP l s)]) 0 U U (by simp [ag.aZ]) U) (kU _) (by rw [rX I]; omega) (by rw [rX I]; simp only [maxLen]; omega) (by rw [DP hs]; simp) sm U fun B C=>?_
 try dsimp only
 refine bD 1 U<|ir (vs:=[(vS B ((eO l r (i+1)).length) C)]) (cs':=(iO.cells (iO.mk (bH.mk a ((cm l l.ab.length).length) c) (bH.mk B ((eO l r (i+1)).length) C) (bH.mk sa ((fu l r i).length) sc)))) (C':=[_,_,_,_,_,_,_,_,_,_,_,_,_,(cu h 252 (iO.cells (iO.mk (bH.mk a ((cm l l.ab.length).length) c) (bH.mk B ((eO l r (i+1)).length) C) (bH.mk sa ((fu l r i).length) sc))))]) 13 U U U Sp U U U U U U U<|RK AA<|au<|rP 3 [] (mc 13 U mn) ?_
 refine ej (xs:=[.tmp 50]) (cs:=[(vB (decide ((cP l s).Lo≤(cP l s).Hi)))]) U Oc Wl U U U U (by simp [Value.cells]) U U fun AF=>?_
 refine dJ (es2:=(List.map qs (fu l r (i+1)))) (m':=(fu l r (i+1)).length) 12 U U U RR U U sm (bw (es:=List.map qs [(decide ((cP l s).Lo≤(cP l s).Hi))]) 0 U U (by simp [zC]) U) (GA _) (by rw [uS I]; omega) (by rw [uS I]; simp only [maxLen]; omega) (by rw [DM hs]; simp) sm U fun D E=>?_
 try dsimp only
 refine bD 1 U<|ir (vs:=[(vS D ((fu l r (i+1)).length) E)]) (cs':=(iO.cells (iO.mk (bH.mk a ((cm l l.ab.length).length) c) (bH.mk B ((eO l r (i+1)).length) C) (bH.mk D ((fu l r (i+1)).length) E)))) (C':=[_,_,_,_,_,_,_,_,_,_,_,_,_,_,(cu h 252 (iO.cells (iO.mk (bH.mk a ((cm l l.ab.length).length) c) (bH.mk B ((eO l r (i+1)).length) C) (bH.mk D ((fu l r (i+1)).length) E))))]) 14 U U U RX U U U U U U U<|aF<|aN<|KK S<|au<|bD 2 U<|rP 1 [] mn ?_
 refine aF ?_
 have f:(vI (((i+1):Nat):Int))=(vI ((i:Int)+1)):=by exact cI I
 refine bg (J ⟨((i+1),B,C,D,E),(by first|omega|(simp only []; omega))⟩ _ _ _ U os (cG 4<|bf U f<|dh.nil _) (aQ [3,4,5,6,7,8,9,10,11,12,13,14]))
theorem Ky (r:cw) (sgA:OA) (sgC:Nat) (l:bk) (wA:OA) (wC:Nat) (tA:OA) (tC:Nat) (bA:OA) (bC:Nat) (rs:List Int) (rsA:OA) (rsC:Nat) (hle:dD l=0) (hr:dU l r) (hn:rs.length≤l.ab.length) (hrs: ∀ x∈rs,0≤x→x<(r.aa.length:Int)):
 pG Tryz.prog 176 [(vA (cz.cells (jk r sgA sgC))),(vA (iO.cells (iO.mk (bH.mk wA ((cm l l.ab.length).length) wC) (bH.mk tA ((eO l r r.aa.length).length) tC) (bH.mk bA ((fu l r r.aa.length).length) bC)))),(vS rsA rs.length rsC)] [(rd sgA r.aa.length 2 (r.aa.map aG.cells)),(rd wA ((cm l l.ab.length).length) 1 ((cm l l.ab.length).map iC)),(rd tA ((eO l r r.aa.length).length) 2 ((eO l r r.aa.length).map ag.cells)),(rd bA ((fu l r r.aa.length).length) 1 ((fu l r r.aa.length).map qs)),(rd rsA rs.length 1 (rs.map iC))] (fun (x:(OA)×Nat)=>(vS x.1 ((jE l r rs).length) x.2)) (fun (x:(OA)×Nat)=>True) (fun (x:(OA)×Nat)=>[(own x.1 x.2 3 1 ((jE l r rs).map iC))]):=by
 obtain ⟨J,D⟩:=dM hle
 have v:=D.head
 unfold eW at v
 have A1:=hr.len
 have A2:=hr.time
 have w:=EE (l:=l) (rs:=rs) ⟨I,I⟩ (fun b hb=>by have:=mx J D (i:=b) I; omega) hrs
 have Ay:=cU (l:=l) (n:=l.ab.length)
 have A3:=rX (l:=l) (Nat.le_refl r.aa.length)
 refine e_ kr Tryz.func176 U U fun w0 Q hQ hN=>?_
 try dsimp only
 refine WS fun _ h=>eI U fun b2=>eI U fun b3=>bD 1 U<|RK h<|WS fun _ m=>rP 2 [] mn ?_
 refine vZ (n:=rs.length) (es:=(List.map iC (List.replicate rs.length 0))) U U U sx I I (by simp only [maxLen]; omega) (by rw [List.map_replicate]; rfl) U fun E=>?_
 try dsimp only
 refine bD 1 U<|RK m<|WS fun _ p=>eQ 3 [] (mc 2 U mn) U<|RK p<|ak fun _ q=>WS fun _ t=>rP 4 [] mn ?_
 refine RK t<|aH ?_
 rw [show (own (some ⟨E,0,none⟩) rs.length 3 1 (List.map iC (List.replicate rs.length 0)))=(own (some ⟨E,0,none⟩) rs.length 3 1 ((jY l r rs rs.length).map iC)) from by rw [HH]]
 have B:(rs.length≤rs.length):=by exact Nat.le_refl _
 have u:(vI ((jT l r rs rs.length).2))=(vI r.fR):=by rw [uX]
 refine bY (ι:={z:Nat // (z≤rs.length)}) [2,3,4,7] [1,2,3,4,5,6,7] U U (fun z=>[(8,(vI ((jT l r rs z.1).2))),(9,(vI ((z.1:Int)-1)))]) (fun z=>[(own (some ⟨E,0,none⟩) rs.length 3 1 ((jY l r rs z.1).map iC))]) (fun _=>rfl) (fun _=>rfl) (fun z=>z.1) ⟨rs.length,B⟩ (bf U u<|bB U) (aQ [1,2,3,4,5,6,7,0]) ?_
 clear B
 rintro ⟨j,AC⟩ J10 F
 try dsimp only
 have A0:=Hs (l:=l) (r:=r) (rs:=rs) (j:=j) I
 refine ak fun _ L=>WS fun _ M=>rP 2 [] mn ?_
 refine RK M<|bW U (aT fun g=>?_) (aU fun g=>?_)
 ·refine bP<|ai<|ai<|aJ<|KK q<|WS fun _ R=>rP 1 [] mn ?_
  rw [show (Value.slice (some ⟨E,0,none⟩) rs.length rs.length)=(Value.slice (some ⟨E,0,none⟩) ((jE l r rs).length) rs.length) from by rw [show (jE l r rs).length=rs.length from sj _ _]]
  rw [show jY l r rs j=jE l r rs from by rw [show j=0 by omega]; exact DK]
  refine rP 1 [] mn ?_
  refine RK R<|aq<|LX hQ ((some ⟨E,0,none⟩),rs.length) [7] [] mn U U U U ?_
  trivial
 refine WK L<|ak fun _ G=>aH<|ak fun _ H=>WS fun _ N=>rP 2 [] mn ?_
 have AO:=w (rs.length-j) j I
 obtain ⟨x,hx⟩:=aL rs (j-1) I
 have d:=bM iC hx
 refine rS (IA (j-1) U (aA 6 U) dv dc I I)<|rS (g6 (j-1) 0 (vI x) U cj (aA 6 U) d U dc U)<|rP 1 [] mn ?_
 refine RK N<|bW U (aT fun A=>?_) (aU fun A=>?_)
 ·refine WK H<|WS fun _ P=>rP 3 [] mn ?_
  obtain ⟨A6,c⟩:=aL (jY l r rs j) (j-1) I
  have hx25m:=bM iC c
  refine rS (IA (j-1) U (aC (n:=rs.length) 7 U sq) dv dc I I) ?_
  have V:((jY l r rs j).set (j-1) ((jT l r rs j).2))=(jY l r rs (j-1)):=by (rw [← yT I hx]; congr 1; unfold tY; (rw [if_neg A]; done))
  refine fW (k:=(j-1)) (o:=0) (vs:=[(vI ((jT l r rs j).2))]) (es':=(List.map iC (jY l r rs (j-1)))) (C':=[_,_,_,_,_,_,_,(own (some ⟨E,0,none⟩) rs.length 3 1 (List.map iC (jY l r rs (j-1))))]) 7 U U U CU U U U U hx25m U dc (by exact (List.map_set (f:=iC) (l:=(jY l r rs j)) (i:=(j-1)) (a:=(jT l r rs j).2)).symm.trans (congrArg _ V)) U<|RK P<|au<|rP 4 [] (mc 0 U mn) ?_
  obtain ⟨y,hy⟩:=aL (cm l l.ab.length) (j-1) I
  have K:=bM iC hy
  refine rS (IA (j-1) U (aA 3 U) dv dc I I)<|rS (g6 (j-1) 0 (vI y) U cj (aA 3 U) K U dc U) ?_
  have C:=vk hy
  have AB:=mx J D (i:=j-1) I
  rw [← C] at AB
  refine bD 2 U<|aF<|aN<|KK G<|au<|rP 3 [] mn ?_
  refine aF ?_
  have W:(vI ((jT l r rs (j-1)).2))=(vI (((jT l r rs j).2)-y)):=by exact cI (by rw [pJ I hx]; simp only; unfold tY; rw [C]; (rw [if_neg A]; done))
  have X:(vI ((((j-1):Nat):Int)-1))=(vI (((j:Int)-1)-1)):=by exact cI I
  refine bg (F ⟨(j-1),(by first|omega|(simp only []; omega))⟩ _ _ _ U os (cG 4<|bf U W<|bf U X<|dh.nil _) (aQ [0,1,2,3,4,5,6,7]))
 refine dp ct 12 kr<|dP 5 [] (mc 0 U mn) ?_
 refine dS (IA (j-1) U (aA 6 U) dv dc I I)<|dS (g6 (j-1) 0 (vI x) U cj (aA 6 U) d U dc U) ?_
 have A4:=hrs x (aR hx) A
 obtain ⟨z,hz⟩:=aL (eO l r r.aa.length) ((x).toNat) I
 have AF:=bM ag.cells hz
 refine dS (IA ((x).toNat) U (aA 4 U) lq dc I I)<|dS (o9 ((((x).toNat)*2)+1) U (aA 4 U) (Nat.mul_pos I dc) fj U) ?_
 obtain ⟨s,hs,e⟩:=KG hz
 have AD:=yi l s
 rw [← e] at AD
 have Y:LH l r x=z.Hi:=by rw [Ek hs,e]
 refine dS (g6 ((x).toNat) 1 (vI z.Hi) U cj (aA 4 U) AF U dc U)<|dS (MN U)<|kX 1 U<|cK<|RK H<|WS fun _ O=>rP 3 [] mn ?_
 obtain ⟨A5,Z⟩:=aL (jY l r rs j) (j-1) I
 have hx19m:=bM iC Z
 refine rS (IA (j-1) U (aC (n:=rs.length) 7 U sq) dv dc I I) ?_
 have S:((jY l r rs j).set (j-1) (min ((jT l r rs j).2) z.Hi))=(jY l r rs (j-1)):=by (rw [← yT I hx]; congr 1; unfold tY; (rw [if_pos A,Y]; done))
 refine fW (k:=(j-1)) (o:=0) (vs:=[(vI (min ((jT l r rs j).2) z.Hi))]) (es':=(List.map iC (jY l r rs (j-1)))) (C':=[_,_,_,_,_,_,_,(own (some ⟨E,0,none⟩) rs.length 3 1 (List.map iC (jY l r rs (j-1))))]) 7 U U U CU U U U U hx19m U dc (by exact (List.map_set (f:=iC) (l:=(jY l r rs j)) (i:=(j-1)) (a:=(min ((jT l r rs j).2) z.Hi))).symm.trans (congrArg _ S)) U<|RK O<|au<|rP 4 [] (mc 0 U mn) ?_
 obtain ⟨y,hy⟩:=aL (cm l l.ab.length) (j-1) I
 have K:=bM iC hy
 refine rS (IA (j-1) U (aA 3 U) dv dc I I)<|rS (g6 (j-1) 0 (vI y) U cj (aA 3 U) K U dc U) ?_
 have C:=vk hy
 have AB:=mx J D (i:=j-1) I
 rw [← C] at AB
 refine bD 2 U<|aF<|aN<|KK G<|au<|rP 3 [] mn ?_
 refine aF ?_
 have T:(vI ((jT l r rs (j-1)).2))=(vI ((min ((jT l r rs j).2) z.Hi)-y)):=by exact cI (by rw [pJ I hx]; simp only; unfold tY; rw [C]; (rw [if_pos A,Y]; done))
 have AA:(vI ((((j-1):Nat):Int)-1))=(vI (((j:Int)-1)-1)):=by exact cI I
 refine bg (F ⟨(j-1),(by first|omega|(simp only []; omega))⟩ _ _ _ U os (cG 4<|bf U T<|bf U AA<|dh.nil _) (aQ [0,1,2,3,4,5,6,7]))
end
section
open Go.RowKit
theorem Gw (l:bk) (kA:OA) (kC:Nat) (az:List RA) (cA:OA) (cC:Nat) (bA:OA) (bC:Nat) (r:cw) (sgA:OA) (sgC:Nat) (vwA:OA) (vwC:Nat) (vtA:OA) (vtC:Nat) (vbA:OA) (vbC k:Nat) (rs:List Int) (rA:OA) (rC:Nat) (fs:List Int) (fA:OA) (fC:Nat) (hin:eg l az) (hle:dD l=0) (hr:dU l r) (hk:rs.length+k=l.ab.length) (hfl:fs.length=rs.length) (hst:r.Start≤gF r.Start fs∧gF r.Start fs≤r.fR) (hrs: ∀ x∈rs,-1≤x∧x<(r.aa.length:Int)) (hrec: ∀ (k2:Nat) (rs2:List Int) (rA2:OA) (rC2:Nat) (fs2:List Int) (fA2:OA) (fC2:Nat),(k2<k)→(rs2.length+k2=l.ab.length)→(fs2.length=rs2.length)→(r.Start≤gF r.Start fs2∧gF r.Start fs2≤r.fR)→(∀ x∈rs2,-1≤x∧x<(r.aa.length:Int))→LB Tryz.prog 163 [(vA (cv.cells (jN l kA kC cA cC bA bC))),(vA (cz.cells (jk r sgA sgC))),(vA (iO.cells (iO.mk (bH.mk vwA ((cm l l.ab.length).length) vwC) (bH.mk vtA ((eO l r r.aa.length).length) vtC) (bH.mk vbA ((fu l r r.aa.length).length) vbC)))),(vS rA2 rs2.length rC2),(vS fA2 fs2.length fC2)] [(rd kA l.aV.length 9 (l.aV.map ao.cells)),(rd cA l.aj.length 2 (List.zipWith aw.cells l.aj az)),(dR (bj aw.f_ l.aj az)),(rd bA l.ab.length 4 (l.ab.map bJ.cells)),(rd sgA r.aa.length 2 (r.aa.map aG.cells)),(rd vwA ((cm l l.ab.length).length) 1 ((cm l l.ab.length).map iC)),(rd vtA ((eO l r r.aa.length).length) 2 ((eO l r r.aa.length).map ag.cells)),(rd vbA ((fu l r r.aa.length).length) 1 ((fu l r r.aa.length).map qs))] (bQ [own rA2 rC2 3 1 (rs2.map iC),own fA2 fC2 3 1 (fs2.map iC)]) (fun (x:(OA)×Nat×(List kS))=>(vS x.1 ((iy l r k2 rs2 fs2).length) x.2.1)) (fun (x:(OA)×Nat×(List kS))=>x.2.2.length=(iy l r k2 rs2 fs2).length) (fun (x:(OA)×Nat×(List kS))=>(bQ (bj du.owns (iy l r k2 rs2 fs2) x.2.2++[own x.1 x.2.1 255 3 (List.zipWith du.cells (iy l r k2 rs2 fs2) x.2.2)])))):
 LB Tryz.prog 163 [(vA (cv.cells (jN l kA kC cA cC bA bC))),(vA (cz.cells (jk r sgA sgC))),(vA (iO.cells (iO.mk (bH.mk vwA ((cm l l.ab.length).length) vwC) (bH.mk vtA ((eO l r r.aa.length).length) vtC) (bH.mk vbA ((fu l r r.aa.length).length) vbC)))),(vS rA rs.length rC),(vS fA fs.length fC)] [(rd kA l.aV.length 9 (l.aV.map ao.cells)),(rd cA l.aj.length 2 (List.zipWith aw.cells l.aj az)),(dR (bj aw.f_ l.aj az)),(rd bA l.ab.length 4 (l.ab.map bJ.cells)),(rd sgA r.aa.length 2 (r.aa.map aG.cells)),(rd vwA ((cm l l.ab.length).length) 1 ((cm l l.ab.length).map iC)),(rd vtA ((eO l r r.aa.length).length) 2 ((eO l r r.aa.length).map ag.cells)),(rd vbA ((fu l r r.aa.length).length) 1 ((fu l r r.aa.length).map qs))] (bQ [own rA rC 3 1 (rs.map iC),own fA fC 3 1 (fs.map iC)]) (fun (x:(OA)×Nat×(List kS))=>(vS x.1 ((iy l r k rs fs).length) x.2.1)) (fun (x:(OA)×Nat×(List kS))=>x.2.2.length=(iy l r k rs fs).length) (fun (x:(OA)×Nat×(List kS))=>(bQ (bj du.owns (iy l r k rs fs) x.2.2++[own x.1 x.2.1 255 3 (List.zipWith du.cells (iy l r k rs fs) x.2.2)]))):=by
 have R3:=hin.sJ
 have P8:=hin.sL
 have Pw:=hin.og
 have P6:=hin.sH
 obtain ⟨L3,GT⟩:=dM hle
 have LT:=GT.head
 unfold eW at LT
 have AO:=hr.len
 have R0:=hr.time
 have Ru:=cU (l:=l) (n:=l.ab.length)
 have R4:=rX (l:=l) (Nat.le_refl r.aa.length)
 have R2:=uS (l:=l) (Nat.le_refl r.aa.length)
 have R5:=uc rs
 refine uR kr Tryz.func163 U U fun w0 Q hQ hN=>?_
 try dsimp only
 refine CF 0 U U fun wz Sz hz=>?_
 try dsimp only
 refine WS fun _ J9=>eI U fun b2=>eI U fun b3=>eI U fun b4=>bD 1 U<|RK J9<|WS fun _ Km=>bD 1 U<|RK Km<|WS fun _ K0=>bD 4 U<|RK K0<|ak fun _ K4=>WS fun _ K5=>rP 1 [] mn ?_
 refine RK K5<|aH ?_
 have C:(0≤rs.length):=by exact Nat.zero_le _
 have K8:(vI ((dk (rs.take 0)).right))=(vI 0):=by rfl
 refine bY (ι:={z:Nat // (z≤rs.length)}) [3,4,5,6,7,11,12] [0,1,2,3,4,5,6,7,8,9,10,11] U U (fun z=>[(13,(vI ((dk (rs.take z.1)).right))),(14,(vI (z.1:Int)))]) (fun z=>[]) (fun _=>rfl) (fun _=>rfl) (fun z=>rs.length-z.1) ⟨0,C⟩ (bf U K8<|bB U) (aQ [0,1,2,3,4,5,6,7,8,9,10,11]) ?_
 clear C
 rintro ⟨i,Li⟩ J10 g
 try dsimp only
 have L0:=uc (rs.take i)
 rw [List.length_take] at L0
 refine ak fun _ A1=>WS fun _ A2=>rP 3 [] mn ?_
 refine RK A2<|cx U (aU fun J3=>?_) (aT fun J3=>?_)
 ·refine WK A1<|ak fun _ h=>aH<|WS fun _ A3=>rP 2 [] mn ?_
  obtain ⟨x,hx⟩:=aL rs i I
  have Mu:=bM iC hx
  refine rS (IA i U (show iK _ (rd rA rs.length 1 (rs.map iC)).holds from (pH (c:=rC) (e:=3) 3 U sm sm)) dv dc I I)<|rS (g6 i 0 (vI x) U cj (show iK _ (rd rA rs.length 1 (rs.map iC)).holds from (pH (c:=rC) (e:=3) 3 U sm sm)) Mu U dc U)<|rP 1 [] mn ?_
  refine RK A3<|bW U (aT fun AD=>?_) (aU fun AD=>?_)
  ·refine cf<|aN<|KK h<|au<|rP 3 [] mn ?_
   refine aF ?_
   have C3:(vI ((dk (rs.take (i+1))).right))=(vI ((dk (rs.take i)).right)):=by exact cI (by rw [uy hx]; (rw [if_neg AD]; exact Int.add_zero _))
   have DS:(vI (((i+1):Nat):Int))=(vI ((i:Int)+1)):=by exact cI I
   refine bg (g ⟨(i+1),(by first|omega|(simp only []; omega))⟩ _ _ _ U os (cG 7<|bf U C3<|bf U DS<|dh.nil _) (aQ [0,1,2,3,4,5,6,7,8,9,10,11]))
  refine au<|bD 3 U<|aF<|aN<|KK h<|au<|rP 3 [] mn ?_
  refine aF ?_
  have C0:(vI ((dk (rs.take (i+1))).right))=(vI (((dk (rs.take i)).right)+1)):=by exact cI (by rw [uy hx]; (rw [if_pos AD]; done))
  have C2:(vI (((i+1):Nat):Int))=(vI ((i:Int)+1)):=by exact cI I
  refine bg (g ⟨(i+1),(by first|omega|(simp only []; omega))⟩ _ _ _ U os (cG 7<|bf U C0<|bf U C2<|dh.nil _) (aQ [0,1,2,3,4,5,6,7,8,9,10,11]))
 refine bP<|ai<|ai<|aJ<|KK K4<|ak fun _ A4=>ak fun _ A5=>?_
 rw [show rs.take i=rs from List.take_of_length_le I]
 refine au<|rP 6 [] (mc 2 U mn) ?_
 refine RK A5<|cx U (aU fun J5=>?_) (aT fun J5=>?_)
 ·refine WS fun _ A6=>jO 255 3<|rP 1 [] mn ?_
  refine RK A6<|aq<|zZ (C1:=[(own none 0 255 3 [])]) hz [0] U U U<|Pn (W:=iy l r k rs fs) ?_
  rw [show (own none 0 255 3 [])=(own none 0 255 3 (List.zipWith du.cells (iy l r k rs fs) [])) from by rw [nX I]; rfl]
  refine LM hQ (none,0,[]) 0 [] mn U (by show List.all _ _=true; rw [List.all_append,qb]; rfl) U ?_ ?_
  ·exact (by rw [nX I]; rfl)
  ·rw [nX I]; rfl
 refine WK A4 ?_
 refine mD (ι:={z:(OA)×Nat×(List kS)×(List ax) // (xX l r rs fs (rA,rC) (fA,fC) z.2.2.1 z.2.2.2)}) [3,4,5,6,7,12] [0,1,2,3,4,5,6,7,8,9,10,11] U U (fun z=>[(11,(vS z.1.1 ((hG l r rs fs).length) z.1.2.1))]) (fun z=>[(own z.1.1 z.1.2.1 255 3 (List.zipWith du.cells (hG l r rs fs) z.1.2.2.1)),(bQ z.1.2.2.2)]) (fun _=>rfl) (fun _=>rfl) ?_ fun K23 m=>?_
 ·rintro ⟨⟨oA,oC,E,LA⟩,H⟩
  try dsimp only at H
  try dsimp only
  have D:=H
  have La:=D.len
  have Qe:=w6 (l:=l) (r:=r) (rs:=rs) (fs:=fs)
  refine ak fun _ V=>WS fun _ A7=>rP 4 [] (mc 2 U mn) ?_
  have R6:=vx (l:=l) (r:=r) (rs:=rs) (fs:=fs) AO (k:=k) I
  refine rP 1 [] mn ?_
  refine RK A7<|cx U (aU fun J6=>?_) (aT fun J6=>?_)
  ·refine WS fun _ A8=>bD 1 U<|rP 1 [] mn ?_
   refine RK A8<|aq ?_
   obtain rfl:k=0:=by omega
   refine Ep ?_
   try dsimp only
   refine zZ (C1:=[(own oA oC 255 3 (List.zipWith du.cells (hG l r rs fs) E)),(bQ LA),(bQ (bj du.owns [] []))]) hz [13,14,0] U U (by simp only [eG,List.all_nil,Bool.and_true,db]; exact ⟨U,D.wr,qb _ _⟩) ?_
   refine Kj (ra:=(rA,rC)) (fa:=(fA,fC)) (A':=(own oA oC 255 3 (List.zipWith du.cells (iy l r 0 rs fs) E))) D ((List.append_nil _).trans (nN I).symm) (List.append_nil _) (by rw [nN I]) ?_
   refine LM hQ (oA,oC,E) 0 [] mn U (by show List.all _ _=true; rw [List.all_append,qb]; rfl) U ?_ ?_
   ·exact (by (rw [nN I]; rfl))
   ·rw [nN I]; exact La
  refine WK V<|WS fun _ A9=>?_
  obtain ⟨B,rfl⟩: ∃ B,k=B+1:=⟨k-1,I⟩
  refine rP 3 [] (mc 1 U mn) ?_
  refine RK A9 ?_
  refine mD (ι:=Unit) [3,4,5,6,7,11,12] [0,1,2,3,4,5,6,7,8,9,10,11,12,13] U U (fun z=>[(15,(vI (gF r.Start fs)))]) (fun z=>[]) (fun _=>rfl) (fun _=>rfl) ?_ fun K28 o=>?_
  ·intro _
   try dsimp only
   refine WS fun _ Z=>rP 4 [] (mc 0 U mn) ?_
   obtain ⟨yls,H1⟩:=aL (cm l l.ab.length) (rs.length) I
   have IB:=bM iC H1
   refine rS (IA rs.length U (aA 9 U) dv dc I I)<|rS (g6 rs.length 0 (vI yls) U cj (aA 9 U) IB U dc U) ?_
   have RP:=mx L3 GT (i:=rs.length) I
   rw [vk H1]
   refine bD 2 U<|RK Z<|ak fun _ Bp=>WS fun _ B3=>rP 1 [] mn ?_
   refine RK B3<|aH ?_
   rw [show (hG l r rs fs)=((hG l r rs fs)++(iB l r B rs fs 0)) from (List.append_nil _).symm]
   rw [show E=E++[] from (List.append_nil _).symm]
   refine oc ?_
   try dsimp only
   have C:(0≤r.aa.length+1)∧(([]:List kS).length=(iB l r B rs fs 0).length):=by exact ⟨Nat.zero_le _,rfl⟩
   have d:(vI ((0:Int)-1))=(vI (-1)):=by exact cI I
   refine bY (ι:={z:Nat×(OA)×Nat×(List kS) // (z.1≤r.aa.length+1)∧(z.2.2.2.length=(iB l r B rs fs z.1).length)}) [3,4,5,6,7,12,15] [1,2,3,4,5,6,7,8,9,10,11,12,14] U U (fun z=>[(11,(vS z.1.2.1 (((hG l r rs fs)++(iB l r B rs fs z.1.1)).length) z.1.2.2.1)),(16,(vI ((z.1.1:Int)-1)))]) (fun z=>[(bQ (bj du.owns (iB l r B rs fs z.1.1) z.1.2.2.2)),(own z.1.2.1 z.1.2.2.1 255 3 (List.zipWith du.cells ((hG l r rs fs)++(iB l r B rs fs z.1.1)) (E++z.1.2.2.2)))]) (fun _=>rfl) (fun _=>rfl) (fun z=>r.aa.length+1-z.1.1) ⟨(0,oA,oC,([]:List kS)),C⟩ (dh.cons U<|bf U d<|dh.nil _) (aQ [1,2,3,4,5,6,7,8,9,10,11,12,14,0,13]) ?_
   clear C
   rintro ⟨⟨j,M,N,azW⟩,⟨f,A⟩⟩ J33 O
   try dsimp only at f A
   try dsimp only
   have L2:=KW (l:=l) (r:=r) (k:=B) (j:=j) (rs:=rs) (fs:=fs) AO I I
   refine ak fun _ B9=>WS fun _ Ci=>rP 5 [] (mc 1 U mn) ?_
   refine RK Ci<|bW U (aT fun J4=>?_) (aU fun J4=>?_)
   ·refine bP<|ai<|ai<|aJ<|KK Bp<|WS fun _ Cx=>bD 1 U<|rP 1 [] mn ?_
    refine RK Cx<|aq ?_
    refine zZ (C1:=[(own M N 255 3 (List.zipWith du.cells ((hG l r rs fs)++(iB l r B rs fs j)) (E++azW))),(bQ LA),(bQ (bj du.owns (iB l r B rs fs j) azW))]) hz [14,12,13] U U (by simp only [eG,List.all_nil,Bool.and_true,db]; exact ⟨U,D.wr,qb _ _⟩) ?_
    refine Kj (ra:=(rA,rC)) (fa:=(fA,fC)) (W:=iy l r (B+1) rs fs) (A':=(own M N 255 3 (List.zipWith du.cells (iy l r (B+1) rs fs) (E++azW)))) D (by rw [nV I,r9,show r.aa.length+1=j by omega]) U (by rw [nV I,r9,show r.aa.length+1=j by omega]) ?_
    refine LM hQ (M,N,(E++azW)) 0 [] mn U (by show List.all _ _=true; rw [List.all_append,qb]; rfl) U ?_ ?_
    ·exact (by (rw [nV I,r9,show r.aa.length+1=j by omega]; rfl))
    ·rw [nV I,r9,show r.aa.length+1=j by omega]; simp only [List.length_append]; omega
   refine WK B9<|ak fun _ P=>aH<|ak fun _ Ck=>dp ct 5 kr<|dP 5 [] (mc 1 U mn) ?_
   refine cK<|RK Ck ?_
   refine mD (ι:={z:Int×Int // ((z.1≤z.2→o5 l r rs.length (gF r.Start fs+dY l rs.length) ((j:Int)-1)=some z.1)∧(¬ z.1≤z.2→o5 l r rs.length (gF r.Start fs+dY l rs.length) ((j:Int)-1)=none))∧(r.Start≤z.1∧z.2≤r.fR)}) [3,4,5,6,7,11,12,15,16] [0,1,2,3,4,5,6,7,8,9,10,11,12,13,14] U U (fun z=>[(17,(vI z.1.1)),(18,(vI z.1.2))]) (fun z=>[]) (fun _=>rfl) (fun _=>rfl) ?_ fun K39 p=>?_
   ·rintro ⟨⟨tt,ee⟩,⟨AB,J⟩⟩
    try dsimp only at AB J
    try dsimp only
    have GE:=AB
    have Qr:=J
    refine WS fun _ a=>rP 3 [] mn ?_
    refine RK a<|bW U (aT fun AA=>?_) (aU fun AA=>?_)
    ·refine cf<|aN<|KK P<|au<|rP 3 [] mn ?_
     refine aF ?_
     have L:(iB l r B rs fs (j+1))=(iB l r B rs fs j):=by exact rr (GE.2 AA)
     rw [← L]
     have Fd:(vI ((((j+1):Nat):Int)-1))=(vI (((j:Int)-1)+1)):=by exact cI I
     refine bg (O ⟨((j+1),M,N,azW),⟨I,by dsimp only; (rw [L]; exact A)⟩⟩ _ _ _ U os (cG 8<|bf U Fd<|dh.nil _) (aQ [0,1,2,3,4,5,6,7,8,9,10,11,12,13,14]))
    refine Od (L':=[(3,(vS rA rs.length rC)),(4,(vS fA fs.length fC)),(5,(vP b2)),(6,(vP b3)),(7,(vP b4)),(11,(vS M (((hG l r rs fs)++(iB l r B rs fs j)).length) N)),(12,(vI (rs.length:Int))),(15,(vI ((gF r.Start fs)+(dY l rs.length)))),(16,(vI ((j:Int)-1))),(17,(vI tt)),(18,(vI ee)),(123,(vI tt)),(124,(vI ee)),(125,(vB (decide (tt≤ee))))]) rfl<|mA ct [0,1,2,3,5,7,11,13] [4,6,8,9,10,12,14,15,16,17,18] [false,false,false,false,false,false,false,false] [] [(cu b4 252 (iO.cells (iO.mk (bH.mk vwA ((cm l l.ab.length).length) vwC) (bH.mk vtA ((eO l r r.aa.length).length) vtC) (bH.mk vbA ((fu l r r.aa.length).length) vbC)))),(cu b3 56 (cz.cells (jk r sgA sgC))),(cu b2 28 (cv.cells (jN l kA kC cA cC bA bC))),(bQ [own rA rC 3 1 (rs.map iC),own fA fC 3 1 (fs.map iC)]).ro,(rd kA l.aV.length 9 (l.aV.map ao.cells)).ro,(rd cA l.aj.length 2 (List.zipWith aw.cells l.aj az)).ro,(dR (bj aw.f_ l.aj az)).ro,(rd bA l.ab.length 4 (l.ab.map bJ.cells)).ro,(rd sgA r.aa.length 2 (r.aa.map aG.cells)).ro,(rd vwA ((cm l l.ab.length).length) 1 ((cm l l.ab.length).map iC)).ro,(rd vtA ((eO l r r.aa.length).length) 2 ((eO l r r.aa.length).map ag.cells)).ro,(rd vbA ((fu l r r.aa.length).length) 1 ((fu l r r.aa.length).map qs)).ro,(bQ LA),(bQ (bj du.owns (iB l r B rs fs j) azW))] [] kr (aQ [0,1,2,3,4,5,6,7,8,9,10,11,12,13]) (aQ [])<|eS rfl (MV rfl)<|eS rfl (LW 2 rfl cj rfl rfl)<|eS rfl (LW 1 rfl cj rfl rfl)<|eS rfl (LW 0 rfl cj rfl rfl)<|eS rfl (MV rfl)<|eS rfl (MV rfl)<|eS rfl (MV rfl)<|eS rfl (MV rfl)<|eh rfl<|EU [.take 4,.op 6,.take 8,.op 9,.take 10,.op 12,.take 14,.op 15,.op 16,.op 17,.op 18] [(133,(vI ((j:Int)-1))),(139,(vI tt))] (fun i=>match i with |4=>130|8=>134|10=>136|14=>140|_=>0) (fun i b=>match i with |4=> .slice (some ⟨b,0,none⟩) 0 0|8=> .slice (some ⟨b,0,none⟩) 1 1|10=> .slice (some ⟨b,0,none⟩) 0 0|14=> .slice (some ⟨b,0,none⟩) 1 1|_=>undef) (fun i b=>match i with |4=>cu b 3 []|8=>cu b 3 [(vI ((j:Int)-1))]|10=>cu b 3 []|14=>cu b 3 [(vI tt)]|_=>cu b 0 []) rfl rfl rfl kr rfl rfl (aQ [0,1,2,3,4,5,6,7,8,9,10,11,12,13]) (mB (Lr rfl dv rfl rfl (fun _=>rfl) fun _=>rfl)<|rf<|mB (v_ (xs:=[.tmp 133]) (cs:=[(vI ((j:Int)-1))]) rfl dv kj rfl rfl rfl rfl (by simp [Value.cells]) rfl rfl rfl (fun _=>rfl) fun _=>rfl)<|rf<|mB (Lr rfl dv rfl rfl (fun _=>rfl) fun _=>rfl)<|rf<|mB (v_ (xs:=[.tmp 139]) (cs:=[(vI tt)]) rfl dv kj rfl rfl rfl rfl (by simp [Value.cells]) rfl rfl rfl (fun _=>rfl) fun _=>rfl)<|rf<|rf<|rf<|rf<|JU) ?_
    intro If
    try dsimp only
    refine re U fun Y X K hT=>fy (es:=(List.map iC [])) (C':=[own (some ⟨If,0,none⟩) 0 3 1 (List.map iC []),_,_,_,_,_,_,_,_,_,_,_,_,_,_,_]++X) 0 U sm U (by simp [maxLen]) U ?_
    refine dJ (es2:=(List.map iC rs)) (m':=rs.length) 0 U U U sx U U sm (show iK _ (rd rA rs.length 1 (rs.map iC)).holds from (pH (c:=rC) (e:=3) 4 U sm sm)) (lg _) (by first|omega|(simp; done)|(simp; omega)) (by (simp only [maxLen]; omega)) sm sm U fun O6 Pi=>?_
    try dsimp only
    refine nR hT 24 16 U U (fun w hs=>St.ko [1,2,3,4,5,6,7,8,9,10,11,12,13,14] U U hs) U U ?_
    try dsimp only [List.take]
    intro PP
    try dsimp only
    refine re U fun Y X K hT=>?_
    refine dJ (es2:=(List.map iC (rs++[(j:Int)-1]))) (m':=(rs++[(j:Int)-1]).length) 1 U U U sx U U sm (bw (es:=List.map iC [((j:Int)-1)]) 0 U U (by simp [bL]) U) (lg _) (by first|omega|(simp; done)|(simp; omega)) (by (simp only [maxLen]; omega)) sm sm U fun IO Jf=>?_
    try dsimp only
    refine nR hT 26 17 U U (fun w hs=>St.ko [2,3,4,5,6,7,8,9,10,11,12,13,14,15] U U hs) U U ?_
    try dsimp only [List.take]
    intro In
    try dsimp only
    refine re U fun Y X K hT=>fy (es:=(List.map iC [])) (C':=[own (some ⟨In,0,none⟩) 0 3 1 (List.map iC []),_,_,_,_,_,_,_,_,_,_,_,_,_,_,_,_,_]++X) 0 U sm U (by simp [maxLen]) U ?_
    refine dJ (es2:=(List.map iC fs)) (m':=fs.length) 0 U U U sx U U sm (show iK _ (rd fA fs.length 1 (fs.map iC)).holds from (pH (c:=fC) (e:=3) 6 U sm sm)) (lg _) (by first|omega|(simp; done)|(simp; omega)) (by (simp only [maxLen]; omega)) sm sm U fun O8 Pl=>?_
    try dsimp only
    refine nR hT 28 18 U U (fun w hs=>St.ko [3,4,5,6,7,8,9,10,11,12,13,14,15,16] U U hs) U U ?_
    try dsimp only [List.take]
    intro PT
    try dsimp only
    refine re U fun Y X K hT=>?_
    refine dJ (es2:=(List.map iC (fs++[tt]))) (m':=(fs++[tt]).length) 1 U U U sx U U sm (bw (es:=List.map iC [tt]) 0 U U (by simp [bL]) U) (lg _) (by first|omega|(simp; done)|(simp; omega)) (by (simp only [maxLen]; omega)) sm sm U fun IR Jx=>?_
    try dsimp only
    refine nR hT 30 19 U U (fun w hs=>St.ko [4,5,6,7,8,9,10,11,12,13,14,15,16,17] U U hs) U U ?_
    try dsimp only [List.take]
    refine re U fun Y X K hT=>?_
    have R:=GE.1 AA
    refine sS<|rK 4 U ?_
    try dsimp only [List.eraseIdx]
    refine zM U<|rK 2 U ?_
    try dsimp only [List.eraseIdx]
    refine zM U ?_
    try dsimp only
    refine oK 0 rfl rfl rfl rfl (hrec B (rs++[(j:Int)-1]) IO Jf (fs++[tt]) IR Jx I (by simp only [List.length_append,List.length_singleton]; omega) (by simp only [List.length_append,List.length_singleton]; omega) (by rw [nv]; omega) (by intro x hx; rcases gJ.1 hx with hx|hx; exact hrs x hx; rw [cq.1 hx]; omega)) rfl (ei 7 rfl rfl (dH (bX _)) (ei 8 rfl rfl (dH (bX _)) (ei 9 rfl rfl (dH (bX _)) (ei 10 rfl rfl (dH (bX _)) (ei 11 rfl rfl (dH (bX _)) (ei 12 rfl rfl (dH (bX _)) (ei 13 rfl rfl (dH (bX _)) (ei 14 rfl rfl (dH (bX _)) qP)))))))) rfl (fun Ne Ay=>?_)
    obtain ⟨Os,O1,v⟩:=Ne
    try dsimp only
    dsimp only at Ay
    refine nR hT 31 18 U U (fun w hs=>St.ko [3,4,5,6,7,8,9,10,11,12,13,14,15,16] U U hs) U U ?_
    try dsimp only [List.take]
    refine re U fun Y X K hT=>rK 0 U ?_
    try dsimp only [List.eraseIdx]
    refine yQ ?_
    have R7:=vx (l:=l) (r:=r) (k:=B) (rs:=(rs++[(j:Int)-1])) (fs:=(fs++[tt])) AO I
    refine dJ (es2:=(List.zipWith du.cells ((hG l r rs fs)++(iB l r B rs fs (j+1))) (E++(azW++v)))) (m':=((hG l r rs fs)++(iB l r B rs fs (j+1))).length) 18 U U U N8 U U (uv (by simp only [List.length_append]; omega)).symm (aC (n:=(iy l r B (rs++[(j:Int)-1]) (fs++[tt])).length) 0 U (uv Ay)) (Bt _ _) (by simp only [List.length_append]; omega) (by simp only [List.length_append,maxLen]; omega) (by rw [ny R,← List.append_assoc,← List.append_assoc]; exact (JP (by simp only [List.length_append]; omega)).symm) (uv (by rw [ny R]; simp only [List.length_append]; omega)) U fun Id J2=>?_
    try dsimp only
    refine nR hT 32 19 U U (fun w hs=>St.ko [4,5,6,7,8,9,10,11,12,13,14,15,16,17] U U hs) U U ?_
    try dsimp only [List.take]
    refine re U fun Y X K hT=>rS (AG U)<|nR hT 33 19 U U (fun w hs=>St.ko [4,5,6,7,8,9,10,11,12,13,14,15,16,17] U U hs) U U ?_
    try dsimp only [List.take]
    refine aN<|KK P<|au<|rP 3 [] mn ?_
    refine aF<|EN 1 U ?_
    try dsimp only [List.eraseIdx]
    refine EN 17 U ?_
    try dsimp only [List.eraseIdx]
    refine KQ A ?_
    rw [← ny R]
    try dsimp only
    have FV:(vI ((((j+1):Nat):Int)-1))=(vI (((j:Int)-1)+1)):=by exact cI I
    refine bg (O ⟨((j+1),Id,J2,(azW++v)),⟨I,by dsimp only; (rw [ny R,List.length_append,List.length_append,A,Ay])⟩⟩ _ _ _ U os (cG 8<|bf U FV<|dh.nil _) (aQ [4,5,6,7,8,9,10,11,12,13,14,15,16,0,17]))
   refine WS fun _ a=>rP 2 [] mn ?_
   refine RK a<|bW U (aT fun J8=>?_) (aU fun J8=>?_)
   ·refine cf ?_
    refine bg (jl (bB U) (aQ [0,1,2,3,4,5,6,7,8,9,10,11,12,13,14]) (p ⟨(((gF r.Start fs)+(dY l rs.length)),r.fR),⟨by exact IJ I,I⟩⟩))
   refine ak fun _ Cp=>WS fun _ u=>rP 3 [] (mc 1 U mn) ?_
   obtain ⟨s,hs⟩:=aL r.aa ((((j:Int)-1)).toNat) I
   have Lk:=bM aG.cells hs
   refine rS (IA ((((j:Int)-1)).toNat) U (aA 8 U) yB dc I I)<|rS (o9 (((((j:Int)-1)).toNat)*2) U (aA 8 U) (Nat.mul_pos I dc) fj U)<|rS (g6 ((((j:Int)-1)).toNat) 0 (vI s.fE) U cj (aA 8 U) Lk U dc U) ?_
   have R1:=(hr.sig _ s hs).1
   refine rP 3 [] mn ?_
   refine b_ (t:=99) U (bq fun A0=>?_) (br fun A0=>?_)
   ·refine bD 7 U<|RK u<|aS U<|bP<|ai<|ai<|aJ<|KK P<|au<|rP 3 [] mn ?_
    refine aF ?_
    have L:(iB l r B rs fs (j+1))=(iB l r B rs fs j):=by exact rr (xr I hs (fun q=>A0 I))
    rw [← L]
    have Eq:(vI ((((j+1):Nat):Int)-1))=(vI (((j:Int)-1)+1)):=by exact cI I
    refine bg (O ⟨((j+1),M,N,azW),⟨I,by dsimp only; (rw [L]; exact A)⟩⟩ _ _ _ U os (cG 8<|bf U Eq<|dh.nil _) (aQ [0,1,2,3,4,5,6,7,8,9,10,11,12,13,14]))
   refine rP 3 [] (mc 0 U mn) ?_
   obtain ⟨bs,AF⟩:=aL (fu l r r.aa.length) ((((j:Int)-1)).toNat) I
   have Fn:=bM qs AF
   refine rS (IA ((((j:Int)-1)).toNat) U (aA 11 U) Oc dc I I)<|rS (g6 ((((j:Int)-1)).toNat) 0 (vB bs) U cj (aA 11 U) Fn U dc U)<|rP 2 [] mn ?_
   refine RK u<|cx U (fun F=>?_) (fun F=>?_)
   ·rw [Bool.not_eq_true'] at F
    refine bP<|ai<|ai<|aJ<|KK P<|au<|rP 3 [] mn ?_
    refine aF ?_
    have L:(iB l r B rs fs (j+1))=(iB l r B rs fs j):=by exact rr (xr I hs (fun q=>by rw [(AZ hs AF).2 q.2] at F; cases F))
    rw [← L]
    have FS:(vI ((((j+1):Nat):Int)-1))=(vI (((j:Int)-1)+1)):=by exact cI I
    refine bg (O ⟨((j+1),M,N,azW),⟨I,by dsimp only; (rw [L]; exact A)⟩⟩ _ _ _ U os (cG 8<|bf U FS<|dh.nil _) (aQ [0,1,2,3,4,5,6,7,8,9,10,11,12,13,14]))
   rw [Bool.not_eq_false'] at F
   refine WK Cp<|dp ct 18 kr<|dP 4 [] (mc 0 U mn) ?_
   obtain ⟨z,hz⟩:=aL (eO l r r.aa.length) ((((j:Int)-1)).toNat) I
   have IC:=bM ag.cells hz
   refine dS (IA ((((j:Int)-1)).toNat) U (aA 10 U) lq dc I I)<|dS (o9 (((((j:Int)-1)).toNat)*2) U (aA 10 U) (Nat.mul_pos I dc) fj U) ?_
   have IL:=H_ hs hz
   have M2:=yi l s
   rw [← IL] at M2
   have LE:(cP l s).Lo≤(cP l s).Hi:=(AZ hs AF).1 F
   refine dS (g6 ((((j:Int)-1)).toNat) 0 (vI z.Lo) U cj (aA 10 U) IC U dc U)<|dS (MX U)<|lU 4 [] (mc 0 U mn) U<|dS (IA ((((j:Int)-1)).toNat) U (aA 10 U) lq dc I I)<|dS (o9 ((((((j:Int)-1)).toNat)*2)+1) U (aA 10 U) (Nat.mul_pos I dc) fj U)<|dS (g6 ((((j:Int)-1)).toNat) 1 (vI z.Hi) U cj (aA 10 U) IC U dc U)<|dS (MN U)<|dP 2 [] mn ?_
   refine cK<|aF ?_
   refine bg (jl (bB U) (aQ [0,1,2,3,4,5,6,7,8,9,10,11,12,13,14]) (p ⟨((max ((gF r.Start fs)+(dY l rs.length)) z.Lo),(min r.fR z.Hi)),⟨by (rw [IL]; exact Lg I hs I LE),I⟩⟩))
  refine WS fun _ Z=>rP 2 [] mn ?_
  refine RK Z<|bW U (aT fun J7=>?_) (aU fun J7=>?_)
  ·refine cf ?_
   have Do:(vI (gF r.Start fs))=(vI r.Start):=by exact cI (by have e:fs=[]:=hZ I; rw [e]; rfl)
   refine bg (jl (cG 7<|bf U Do<|dh.nil _) (aQ [0,1,2,3,4,5,6,7,8,9,10,11,12,13]) (o ()))
  refine au<|rP 3 [] mn ?_
  obtain ⟨xf,Go⟩:=aL fs (rs.length-1) I
  have Hh:=bM iC Go
  refine rS (IA (rs.length-1) U (show iK _ (rd fA fs.length 1 (fs.map iC)).holds from (pH (c:=fC) (e:=3) 3 U sm sm)) dv dc I I)<|rS (g6 (rs.length-1) 0 (vI xf) U cj (show iK _ (rd fA fs.length 1 (fs.map iC)).holds from (pH (c:=fC) (e:=3) 3 U sm sm)) Hh U dc U)<|rP 1 [] mn ?_
  refine aF ?_
  have Di:(vI (gF r.Start fs))=(vI xf):=by exact cI (BB _ _ _ (by rw [hfl]; exact Go))
  refine bg (jl (cG 7<|bf U Di<|dh.nil _) (aQ [0,1,2,3,4,5,6,7,8,9,10,11,12,13]) (o ()))
 refine WS fun _ V=>rP 8 [0,1] (mc 1 U (mc 2 U mn)) ?_
 refine RK V<|bW U (aT fun G=>?_) (aU fun G=>?_)
 ·refine cf<|Ep<|F_ 255 3 ?_
  rw [show (own none 0 255 3 [])=(own none 0 255 3 (List.zipWith du.cells (hG l r rs fs) [])) from by rw [yo G]; rfl]
  have EQ:(vS none ((hG l r rs fs).length) 0)=(vS none 0 0):=by first|rfl|(rw [yo G]; rfl)
  refine bg (jl (cG 6<|bf U EQ<|dh.nil _) (aQ [2,3,4,5,6,7,8,9,10,11,12,13,0,1]) (m ⟨(none,0,[],[]),(by exact .inr ⟨G,U,U⟩)⟩))
 refine au<|rP 6 [0,1] (mc 1 U (mc 0 U mn)) ?_
 refine cX (Ky r sgA sgC l vwA vwC vtA vtC vbA vbC rs rA rC hle hr I (by exact fun x hx h0=>(hrs x hx).2)) (mT [8,9,10,11]<|aK (show iK _ (rd rA rs.length 1 (rs.map iC)).holds from (pH (c:=rC) (e:=3) 3 U sm sm))<|aO) U fun NE Or=>?_
 obtain ⟨S,T⟩:=NE
 try dsimp only
 refine rS (SX (bp (xs:=[(0,.tmp 48),(1,.tmp 49),(2,.tmp 53)]) (cs:=(x8.cells (x8.mk (bH.mk rA rs.length rC) (bH.mk fA fs.length fC) (bH.mk S ((jE l r rs).length) T)))) U U (bo Tz U)) U U)<|ej (xs:=[.tmp 54]) (cs:=(x8.cells (x8.mk (bH.mk rA rs.length rC) (bH.mk fA fs.length fC) (bH.mk S ((jE l r rs).length) T)))) U F2 Rq U U U U (by simp [Value.cells,x8.aZ]) U U fun PB=>jO 255 3 ?_
 refine dJ (es2:=(List.zipWith du.cells (hG l r rs fs) ([((rA,rC),(fA,fC),(S,T))]))) (m':=(hG l r rs fs).length) 0 rfl rfl rfl N8 rfl rfl rfl (bw (es:=List.zipWith du.cells [(du.mk rs fs (jE l r rs))] [((rA,rC),(fA,fC),(S,T))]) 1 rfl rfl (by intro e he; simp at he; subst he; rfl) rfl) (Bt _ _) dc dc (by rw [yW G]; rfl) (by rw [yW G]; rfl) rfl fun y AC=>?_
 try dsimp only
 refine sS<|N2 0 3 U U U ?_
 try dsimp only
 refine rP 1 [] mn ?_
 refine aF ?_
 have d:(vS y ((hG l r rs fs).length) AC)=(vS y ((hG l r rs fs).length) AC):=by first|rfl|(rw [yo G]; rfl)
 refine bg (jl (cG 6<|bf U d<|dh.nil _) (aQ [3,4,5,6,7,8,9,10,11,12,13,14,1,0]) (m ⟨(y,AC,[((rA,rC),(fA,fC),(S,T))],[(own S T 3 1 ((jE l r rs).map iC))]),(by exact .inl ⟨G,_,U,U⟩)⟩))
theorem PY (l:bk) (kA:OA) (kC:Nat) (az:List RA) (cA:OA) (cC:Nat) (bA:OA) (bC:Nat) (r:cw) (sgA:OA) (sgC:Nat) (vwA:OA) (vwC:Nat) (vtA:OA) (vtC:Nat) (vbA:OA) (vbC k:Nat) (rs:List Int) (rA:OA) (rC:Nat) (fs:List Int) (fA:OA) (fC:Nat) (hin:eg l az) (hle:dD l=0) (hr:dU l r) (hk:rs.length+k=l.ab.length) (hfl:fs.length=rs.length) (hst:r.Start≤gF r.Start fs∧gF r.Start fs≤r.fR) (hrs: ∀ x∈rs,-1≤x∧x<(r.aa.length:Int)):
 LB Tryz.prog 163 [(vA (cv.cells (jN l kA kC cA cC bA bC))),(vA (cz.cells (jk r sgA sgC))),(vA (iO.cells (iO.mk (bH.mk vwA ((cm l l.ab.length).length) vwC) (bH.mk vtA ((eO l r r.aa.length).length) vtC) (bH.mk vbA ((fu l r r.aa.length).length) vbC)))),(vS rA rs.length rC),(vS fA fs.length fC)] [(rd kA l.aV.length 9 (l.aV.map ao.cells)),(rd cA l.aj.length 2 (List.zipWith aw.cells l.aj az)),(dR (bj aw.f_ l.aj az)),(rd bA l.ab.length 4 (l.ab.map bJ.cells)),(rd sgA r.aa.length 2 (r.aa.map aG.cells)),(rd vwA ((cm l l.ab.length).length) 1 ((cm l l.ab.length).map iC)),(rd vtA ((eO l r r.aa.length).length) 2 ((eO l r r.aa.length).map ag.cells)),(rd vbA ((fu l r r.aa.length).length) 1 ((fu l r r.aa.length).map qs))] (bQ [own rA rC 3 1 (rs.map iC),own fA fC 3 1 (fs.map iC)]) (fun (x:(OA)×Nat×(List kS))=>(vS x.1 ((iy l r k rs fs).length) x.2.1)) (fun (x:(OA)×Nat×(List kS))=>x.2.2.length=(iy l r k rs fs).length) (fun (x:(OA)×Nat×(List kS))=>(bQ (bj du.owns (iy l r k rs fs) x.2.2++[own x.1 x.2.1 255 3 (List.zipWith du.cells (iy l r k rs fs) x.2.2)]))):=by
 induction k using Nat.strongRecOn generalizing rs rA rC fs fA fC with
 |ind k ih=>exact Gw l kA kC az cA cC bA bC r sgA sgC vwA vwC vtA vtC vbA vbC k rs rA rC fs fA fC hin hle hr hk hfl hst hrs (fun L F D E C A B G H AA J K=>ih L G F D E C A B H AA J K)
end
section
open Go.RowKit
theorem NP (l:bk) (kA:OA) (kC:Nat) (az:List RA) (cA:OA) (cC:Nat) (bA:OA) (bC:Nat) (r:cw) (sgA:OA) (sgC:Nat) (hin:eg l az) (hsl:r.aa.length≤1000000):
 pG Tryz.prog 155 [(vA (cv.cells (jN l kA kC cA cC bA bC))),(vA (cz.cells (jk r sgA sgC)))] [(rd kA l.aV.length 9 (l.aV.map ao.cells)),(rd cA l.aj.length 2 (List.zipWith aw.cells l.aj az)),(dR (bj aw.f_ l.aj az)),(rd bA l.ab.length 4 (l.ab.map bJ.cells)),(rd sgA r.aa.length 2 (r.aa.map aG.cells))] (fun (x:Bool×Int×(OA)×Nat×(List kS))=>bif x.1 then (vT [(vS x.2.2.1 ((pA l r).length) x.2.2.2.1),(vI 0)]) else (vT [(vS none 0 0),(vI x.2.1)])) (fun (x:Bool×Int×(OA)×Nat×(List kS))=>(x.1=true→(dK l r 0=0∧x.2.2.2.2.length=(pA l r).length))∧(x.1=false→(x.2.1=dK l r 0∧ ¬ dK l r 0=0))) (fun (x:Bool×Int×(OA)×Nat×(List kS))=>bif x.1 then [(own x.2.2.1 x.2.2.2.1 255 3 (List.zipWith du.cells (pA l r) x.2.2.2.2)),(bQ (bj du.owns (pA l r) x.2.2.2.2))] else []):=by
 have k:=hin.sJ
 have j:=hin.sL
 have h:=hin.og
 have i:=hin.sH
 refine e_ kr Tryz.func155 U U fun o Q hQ hN=>?_
 try dsimp only
 refine WS fun _ X=>eI U fun m=>eI U fun n=>bD 2 U<|RK X<|ak fun _ Y=>WS fun _ Z=>eQ 1 [] (mc 1 U mn) U<|rS (CL (Ct l kA kC az cA cC bA bC hin) (bu [2,3,4,5]) U)<|bD 1 U<|RK Z<|WS fun _ a=>rP 2 [] mn ?_
 refine RK a<|cx U (bq fun A=>?_) (br fun A=>?_)
 ·refine WS fun _ b=>rP 3 [] mn ?_
  refine RK b<|aq<|LX hQ (false,(dD l),none,0,[]) [] [] mn U (by rfl) U U ?_
  exact wh<|EG (gv (r:=r) (me:=0) A) A
 refine WK Y<|ak fun _ c=>WS fun _ d=>eQ 2 [0,1] (mc 1 U (mc 0 U mn)) U<|rS (CL (MY l kA kC az cA cC bA bC r sgA sgC hin (by exact hsl)) (bu [2,3,4,5,6]) U)<|rP 1 [] mn ?_
 refine RK d<|cx U (bq fun B=>?_) (br fun B=>?_)
 ·refine WS fun _ D=>rP 2 [] mn ?_
  refine RK D<|aq<|LX hQ (false,51,none,0,[]) [] [] mn U (by rfl) U U ?_
  exact wh<|nW (df (me:=0) A B)
 refine WK c<|ak fun _ E=>dA ct [4,5,6] [] [] [0,1,2,3,4,5,6] [] U U U U U<|eS U (LW 1 U cj U U)<|eS U (LW 0 U cj U U)<|eS U (LW 1 U cj U U)<|eS U (LW 0 U cj U U)<|eh U<|cd U fun T12 J=>cX (Mx l kA kC az cA cC bA bC r sgA sgC hin (by exact A) (by exact B)) (bu [2,3,4,5,6]) U fun e g=>?_
 obtain ⟨V,W,T,AA,R,S⟩:=e
 try dsimp only
 refine aF (J _ _ (aQ [3,4,5,6,7,8,9]) ?_)
 refine cd U fun T21 K=>jO 3 1<|jO 3 1<|sS<|rK 1 U ?_
 try dsimp only [List.eraseIdx]
 refine zM U<|rK 1 U ?_
 try dsimp only [List.eraseIdx]
 refine zM U ?_
 try dsimp only
 refine oK 0 rfl rfl rfl rfl (PY l kA kC az cA cC bA bC r sgA sgC V W T AA R S l.ab.length ([]:List Int) none 0 ([]:List Int) none 0 hin (by exact A) (by exact B) sm (by rfl) (by exact ⟨Int.le_refl _,B.time.2.1⟩) (by intro x hx; cases hx)) rfl (ei 6 rfl rfl (dH (bX _)) (ei 7 rfl rfl (dH (bX _)) (ei 8 rfl rfl (dH (bX _)) (ei 9 rfl rfl (dH (bX _)) (ei 10 rfl rfl (dH (bX _)) (ei 1 rfl rfl (jq sm) (ei 2 rfl rfl (jq sm) (ei 3 rfl rfl (jq sm) qP)))))))) rfl (fun f M=>?_)
 obtain ⟨N,O,P⟩:=f
 try dsimp only
 refine aF (K _ _ (aQ [4,5,6,7,8,9,10]) ?_)
 refine cd U fun T26 L=>rK 0 U ?_
 try dsimp only [List.eraseIdx]
 refine yQ ?_
 dsimp only at M
 refine rS (AG U)<|aF (L _ _ (aQ [5,6,7,8,9,10,11]) ?_)
 refine fp U<|KK E<|ak fun _ F=>WS fun _ G=>rP 3 [] mn ?_
 refine RK G<|bW U (aT fun C=>?_) (aU fun C=>?_)
 ·refine WK F<|WS fun _ AB=>rP 3 [] mn ?_
  refine RK AB<|aq ?_
  refine LX hQ (true,0,N,O,P) [0,1] [] mn U (by (show List.all _ _=true; simp only [cond_true,eG,List.all_nil,JD,Bool.and_true]; rfl)) U U ?_
  exact ⟨fun _=>⟨lk A B U fun q=>C (by rw [show iy l r l.ab.length [] []=[] from (eH A B).2 q]; rfl),M⟩,QR⟩
 refine WS fun _ H=>rP 2 [] mn ?_
 refine RK H<|aq<|LX hQ (false,8,none,0,[]) [] [] mn U (by rfl) U U ?_
 exact wh<|nW (g4 (me:=0) A B U ((eH A B).1 (hZ (Int.natCast_eq_zero.1 C))))
theorem Gz (ws:List du) (wz:List kS) (wA:OA) (wC b:Nat) (hws:MB ws) (hwz:wz.length=ws.length) (hb:b≤6):
 dG Tryz.prog 156 [(vS wA ws.length wC),(vI (b:Int))] [(rd wA ws.length 3 (List.zipWith du.cells ws wz)),(dR (bj du.f_ ws wz))] (vT [(vA (ag.cells (pL ws b))),(vI (pK ws b))]):=by
 have u:=hws.num
 refine bG kr Tryz.func156 U U fun x Q hQ hN=>?_
 try dsimp only
 refine WS fun _ g=>AL U dV fun w=>bD 1 U<|RK g<|WS fun _ h=>AL U dV fun t=>RK h<|WS fun _ j=>bD 1 U<|RK j<|ak fun _ k=>WS fun _ l=>rP 1 [] mn ?_
 refine RK l<|aH ?_
 have D:(0≤ws.length)∧(nT b (ws.take 0) false (ag.mk 0 0)):=by exact ⟨Nat.zero_le _,GS⟩
 refine bY (ι:={z:Nat×Bool×ag // (z.1≤ws.length)∧(nT b (ws.take z.1) z.2.1 z.2.2)}) [0,1,4,5,6] [1,2,3] U U (fun z=>[(7,(vB z.1.2.1)),(8,(vI (z.1.1:Int)))]) (fun z=>[(cu t 53 (ag.cells z.1.2.2))]) (fun _=>rfl) (fun _=>rfl) (fun z=>ws.length-z.1.1) ⟨(0,false,(ag.mk 0 0)),D⟩ (bB U) (aQ [1,2,3,0]) ?_
 clear D
 rintro ⟨⟨i,fd,o⟩,⟨J,A⟩⟩ J8 H
 try dsimp only at J A
 try dsimp only
 refine ak fun _ m=>WS fun _ L=>rP 4 [] mn ?_
 refine RK L<|bW U (aT fun c=>?_) (aU fun c=>?_)
 ·refine bP<|ai<|ai<|aJ<|KK k<|ak fun _ R=>WS fun _ S=>rP 2 [] mn ?_
  refine RK S<|bW U (fun B=>?_) (fun B=>?_)
  ·rw [Bool.not_eq_false'] at B
   refine WK R<|WS fun _ AA=>eQ 1 [] (mc 3 U mn) U<|fG U cZ U<|rP 1 [] mn ?_
   refine RK AA<|aq<|mV hQ [0] (mc 0 U mn) U ?_
   have AB:=zd (by have q:=A; rwa [List.take_of_length_le I] at q) hws.FV
   (have q:=AB.2 B; rw [q.1,q.2]; done)
  rw [Bool.not_eq_true'] at B
  refine WS fun _ T=>rS (SX (bp (xs:=[]) (cs:=(ag.cells (ag.mk 0 0))) U U (bo gX U)) U U)<|fG U cZ U<|rP 1 [] mn ?_
  refine RK T<|aq<|mV hQ [0] (mc 0 U mn) U ?_
  have AB:=zd (by have q:=A; rwa [List.take_of_length_le I] at q) hws.FV
  (have q:=AB.1 B; rw [q.1,q.2]; done)
 refine WK m<|ak fun _ C=>aH<|ak fun _ M=>WS fun _ N=>rP 2 [] mn ?_
 obtain ⟨y,hy⟩:=aL ws i I
 obtain ⟨ya,E⟩:=aL wz i I
 have K:(List.zipWith du.cells ws wz)[i]? =some (du.cells y ya):=dy hy E
 refine rS (IA i U (aA 1 U) F2 dc I I)<|rS (o9 (i*3) U (aA 1 U) (Nat.mul_pos I dc) fj U)<|rS (g6 i 0 (vS ya.1.1 y.fY.length ya.1.2) U cj (aA 1 U) K U dc U)<|rP 3 [] mn ?_
 refine RK N<|cx U (aU fun d=>?_) (aT fun d=>?_)
 ·refine bP<|ai<|aJ<|KK C<|au<|rP 3 [] mn ?_
  refine aF ?_
  have X:(vI (((i+1):Nat):Int))=(vI ((i:Int)+1)):=by exact cI I
  refine bg (H ⟨((i+1),fd,o),⟨I,by dsimp only; rw [ml hy]; exact Eh A I⟩⟩ _ _ _ U os (cG 6<|bf U X<|dh.nil _) (aQ [0,1,2,3]))
 refine WK M<|ak fun _ O=>dA ct [17,18] [] [] [0,1,2,3] [] U U U U U ?_
 have v:=hws.lens y (aR hy)
 obtain ⟨s,hs⟩: ∃ s,y.fY[b]? =some s:=⟨y.fY[b]'I,eD _⟩
 refine eS U (MV U)<|eS U (MV U)<|eS U (IA i U (aA 1 U) F2 dc I I)<|eS U (o9 ((i*3)+1) U (aA 1 U) (Nat.mul_pos I dc) fj U)<|eS U (g6 i 1 (vS ya.2.1.1 y.iE.length ya.2.1.2) U cj (aA 1 U) K U dc U)<|eS U (MV U) ?_
 obtain ⟨f,hf⟩:=aL y.iE b I
 have p:=bM iC hf
 refine eS U (IA b U (show iK _ (rd ya.2.1.1 y.iE.length 1 (y.iE.map iC)).holds from (cO 2 U (bK hy E (by simp [du.f_])))) dv dc I I)<|eS U (g6 b 0 (vI f) U cj (show iK _ (rd ya.2.1.1 y.iE.length 1 (y.iE.map iC)).holds from (cO 2 U (bK hy E (by simp [du.f_])))) p U dc U)<|eS U (MV U)<|eS U (MV U)<|eS U (IA i U (aA 1 U) F2 dc I I)<|eS U (o9 ((i*3)+2) U (aA 1 U) (Nat.mul_pos I dc) fj U)<|eS U (g6 i 2 (vS ya.2.2.1 y.lI.length ya.2.2.2) U cj (aA 1 U) K U dc U)<|eS U (MV U) ?_
 obtain ⟨e,he⟩:=aL y.lI b I
 have n:=bM iC he
 refine eS U (IA b U (show iK _ (rd ya.2.2.1 y.lI.length 1 (y.lI.map iC)).holds from (cO 2 U (bK hy E (by simp [du.f_])))) dv dc I I)<|eS U (g6 b 0 (vI e) U cj (show iK _ (rd ya.2.2.1 y.lI.length 1 (y.lI.map iC)).holds from (cO 2 U (bK hy E (by simp [du.f_])))) n U dc U)<|eS U (SX (bp (xs:=[(0,.tmp 31),(1,.tmp 39)]) (cs:=(ag.cells (ag.mk f e))) U U (bo gX U)) U U)<|eh U<|cd U fun T17 V=>AL U dV fun r=>aF (V _ _ (aQ [1,2,3,4]) ?_)
 refine cd U fun T19 W=>fG U cZ U<|aF (W _ _ (aQ [1,2,3,4]) ?_)
 refine fp U<|KK O<|ak fun _ F=>WS fun _ P=>?_
 have a:=hws.le y (aR hy) b f e I hf he
 refine rP 1 [] mn ?_
 refine RK P<|bW U (fun G=>?_) (fun G=>?_)
 ·refine WK F<|au<|eQ 1 [] (mc 0 U mn) U<|TA U cZ U<|bD 1 U<|aF<|aN<|KK C<|au<|rP 3 [] mn ?_
  refine aF ?_
  have Z:(vI (((i+1):Nat):Int))=(vI ((i:Int)+1)):=by exact cI I
  refine bg (H ⟨((i+1),true,(ag.mk f e)),⟨I,by dsimp only; rw [ml hy]; exact Ca A G hs hf he a⟩⟩ _ _ _ U os (cG 6<|bf U Z<|dh.nil _) (aQ [1,2,3,4]))
 refine au<|eQ 4 [0,1] (mc 0 U (mc 4 U mn)) U<|rS (MN U)<|eQ 4 [0,1] (mc 0 U (mc 4 U mn)) U<|rS (MX U)<|rS (SX (bp (xs:=[(0,.tmp 46),(1,.tmp 51)]) (cs:=(ag.cells (ag.mk (min f o.Lo) (max e o.Hi)))) U U (bo gX U)) U U)<|fG U cZ U<|RK F<|au<|eQ 1 [] (mc 0 U mn) U<|TA U cZ U<|bD 1 U<|aF<|aN<|KK C<|au<|rP 3 [] mn ?_
 refine aF ?_
 have Y:(vI (((i+1):Nat):Int))=(vI ((i:Int)+1)):=by exact cI I
 refine bg (H ⟨((i+1),true,(ag.mk (min f o.Lo) (max e o.Hi))),⟨I,by dsimp only; rw [ml hy]; exact Eg A G hs hf he a⟩⟩ _ _ _ U os (cG 6<|bf U Y<|dh.nil _) (aQ [1,2,3,4]))
end
section
open Go.RowKit
theorem OR (l:bk) (kA:OA) (kC:Nat) (az:List RA) (cA:OA) (cC:Nat) (bA:OA) (bC:Nat) (r:cw) (sgA:OA) (sgC:Nat) (hin:eg l az) (hsl:r.aa.length≤1000000):
 dG Tryz.prog 143 [(vA (cv.cells (cv.mk (bO.mk (bH.mk kA l.aV.length kC)) l.iR (bH.mk cA l.aj.length cC) (bH.mk bA l.ab.length bC) l.bS l.fZ l.dL))),(vA (cz.cells (jk r sgA sgC)))] [(rd kA l.aV.length 9 (l.aV.map ao.cells)),(rd cA l.aj.length 2 (List.zipWith aw.cells l.aj az)),(dR (bj aw.f_ l.aj az)),(rd bA l.ab.length 4 (l.ab.map bJ.cells)),(rd sgA r.aa.length 2 (r.aa.map aG.cells))] (vT [(vA (ag.cells (Aw l r))),(vI (de l r l.bS))]):=by
 have q:=hin.sJ
 have j:=hin.sL
 have h:=hin.og
 have i:=hin.sH
 refine bG kr Tryz.func143 U U fun y Q hQ hN=>?_
 try dsimp only
 refine WS fun _ Z=>eI U fun v=>eI U fun w=>AL U dV fun x=>bD 1 U<|RK Z<|WS fun _ P=>rP 2 [0,1] (mc 2 U (mc 1 U mn)) ?_
 refine cX (NP l kA kC az cA cC bA bC r sgA sgC hin hsl) (bu [3,4,5,6,7]) U fun u V=>?_
 obtain ⟨W,g,e,Y,X⟩:=u
 cases W
 ·obtain ⟨R,he⟩:=V.2 rfl
  try dsimp only at R he
  subst R
  try dsimp only [cond_true,cond_false,List.cons_append,List.nil_append]
  refine bD 5 U<|RK P<|ak fun _ d=>WS fun _ G=>rP 2 [] mn ?_
  refine RK G<|bW U (br fun F=>?_) (bq fun F=>?_)
  ·exact absurd F he
  refine WS fun _ H=>rS (SX (bp (xs:=[]) (cs:=(ag.cells (ag.mk 0 0))) U U (bo gX U)) U U)<|bD 1 U<|fG U cZ U<|rP 1 [] mn ?_
  refine RK H<|aq<|mV hQ [0] (mc 0 U mn) U ?_
  (rw [Ds (fun z=>he ((vJ he).symm.trans z)),vJ he]<;>rfl)
 obtain ⟨he,C⟩:=V.1 rfl
 try dsimp only [cond_true,cond_false,List.cons_append,List.nil_append]
 try dsimp only at he C
 obtain ⟨T,E,_,k⟩:=gM he
 obtain ⟨s,c⟩:=dM T
 have a:=c.head
 unfold eW at a
 have AA:=Qf T E
 have t:=AA.num
 have o:=E.len
 have p:=E.time
 refine bD 5 U<|RK P<|ak fun _ AB=>WS fun _ J=>rP 1 [] mn ?_
 refine rS (SX (gl (r:= .bool false) U U U qh) U U)<|RK J<|bR U<|WK AB<|ak fun _ K=>?_
 obtain ⟨b,S⟩: ∃ b:Nat,l.bS=(b:Int):=⟨l.bS.toNat,I⟩
 have A:=HZ he (b:=b) I
 rw [← S] at A
 rw [S]
 refine au<|eQ 3 [] (mc 4 U mn) U<|rS (CL (Gz (pA l r) X e Y b (by exact AA) (by exact C) I) (aK (aC (n:=(pA l r).length) 0 U (uv C))<|aK (fT 1 U MO)<|aO) U)<|bD 3 U<|AL U dV fun f=>fG U cZ U<|bD 1 U<|RK K<|ak fun _ L=>WS fun _ M=>rP 2 [] mn ?_
 refine RK M<|cx U (bq fun B=>?_) (br fun B=>?_)
 ·refine WS fun _ N=>rS (SX (bp (xs:=[]) (cs:=(ag.cells (ag.mk 0 0))) U U (bo gX U)) U U)<|bD 1 U<|TW U cZ U<|rP 1 [] mn ?_
  refine RK N<|aq<|mV hQ [0] (mc 3 U mn) U ?_
  (rw [Ds (fun z=>B (A.1.trans z)),← A.1]<;>rfl)
 refine WK L<|ak fun _ O=>?_
 have D:de l r l.bS=0:=A.1.symm.trans B
 have m:=qL D
 rw [A.2]
 refine au<|eQ 10 [0,1,0,1] (mc 0 U (mc 4 U mn)) U<|rS (SX (bp (xs:=[(0,.tmp 34),(1,.tmp 39)]) (cs:=(ag.cells (ag.mk (((cY l r l.bS).Lo)-r.Start) (((cY l r l.bS).Hi)-r.Start)))) U U (bo gX U)) U U)<|TW U cZ U<|rP 1 [] mn ?_
 refine RK O<|aq<|mV hQ [0] (mc 3 U mn) U ?_
 (rw [zI D,D])
end
section
open Go.RowKit
theorem C_ (l:bk) (kA:OA) (kC:Nat) (az:List RA) (cA:OA) (cC:Nat) (bA:OA) (bC:Nat) (d:av) (sgA:OA) (sgC:Nat) (hin:eg l az) (hle:dD l=0) (hsl:d.a_.aa.length≤1000000) (hk:d.Out=true):
 dG Tryz.prog 123 [(vA (cv.cells (jN l kA kC cA cC bA bC))),(vA (aP.cells (aP.mk d.Out d.dj d.Time (jk d.a_ sgA sgC))))] [(rd kA l.aV.length 9 (l.aV.map ao.cells)),(rd cA l.aj.length 2 (List.zipWith aw.cells l.aj az)),(dR (bj aw.f_ l.aj az)),(rd bA l.ab.length 4 (l.ab.map bJ.cells)),(rd sgA d.a_.aa.length 2 (d.a_.aa.map aG.cells))] (vT [(vA (ag.cells (pd l d))),(vB (decide (iW l d)))]):=by
 have K:=hin.sJ
 have J:=hin.sL
 have H:=hin.og
 have AA:=hin.sH
 refine bG kr Tryz.func123 U U fun O Q hQ hN=>?_
 try dsimp only
 refine WS fun _ B=>eI U fun L=>eI U fun M=>AL U dV fun N=>bD 1 U<|RK B<|ak fun _ E=>aH<|WS fun _ C=>rP 3 [] (mc 1 U mn) ?_
 refine RK C<|bW U (fun G=>?_) (fun G=>?_)
 ·exact absurd ((hk).symm.trans G) dc
 refine WS fun _ A=>rS (SX (bp (xs:=[]) (cs:=(ag.cells (ag.mk 0 0))) U U (bo gX U)) U U)<|rP 4 [] (mc 1 U mn) ?_
 refine cp (t:=15) U (fun D=>?_) (fun D=>?_)
 ·rw [Bool.not_eq_false'] at D
  refine bD 10 U<|fG U cZ U<|rP 1 [] mn ?_
  refine RK A<|aq<|mV hQ [0] (mc 0 U mn) U ?_
  clear hQ hN A C E B
  rw [AI hk]
  simp only [rl hk]
  refine congrArg (fun z=>Value.tuple #[_,vB z]) ?_
  first|rfl|(simp_all [gP]; done)
 rw [Bool.not_eq_true'] at D
 refine bD 1 U<|rS (LP (ag.cells d.Time) 1 U cj U U U)<|rS (SX (bp (xs:=[]) (cs:=(ag.cells (ag.mk 0 0))) U U (bo gX U)) U U)<|rS (BI U (x3 _ _ d.Time (ag.mk 0 0)))<|rP 2 [] mn ?_
 refine cp (t:=21) U (aT fun F=>?_) (aU fun F=>?_)
 ·refine bD 4 U<|fG U cZ U<|rP 1 [] mn ?_
  refine RK A<|aq<|mV hQ [0] (mc 0 U mn) U ?_
  clear hQ hN A C E B
  rw [AI hk]
  simp only [rl hk]
  refine congrArg (fun z=>Value.tuple #[_,vB z]) ?_
  first|rfl|(simp_all [gP]; done)
 refine bD 1 U<|rS (LP (cz.cells (jk d.a_ sgA sgC)) 1 U cj U U U)<|rS (CL (Fp d.a_ sgA sgC) (bu [7]) U)<|bD 1 U<|fG U cZ U<|rP 1 [] mn ?_
 refine RK A<|aq<|mV hQ [0] (mc 0 U mn) U ?_
 clear hQ hN A C E B
 rw [AI hk]
 simp only [rl hk]
 refine congrArg (fun z=>Value.tuple #[_,vB z]) ?_
 first|rfl|(simp_all [gP]; done)
theorem DV (l:bk) (kA:OA) (kC:Nat) (az:List RA) (cA:OA) (cC:Nat) (bA:OA) (bC:Nat) (d:av) (sgA:OA) (sgC:Nat) (hin:eg l az) (hle:dD l=0) (hsl:d.a_.aa.length≤1000000) (hk:d.Out=false∧d.dj=true):
 dG Tryz.prog 123 [(vA (cv.cells (jN l kA kC cA cC bA bC))),(vA (aP.cells (aP.mk d.Out d.dj d.Time (jk d.a_ sgA sgC))))] [(rd kA l.aV.length 9 (l.aV.map ao.cells)),(rd cA l.aj.length 2 (List.zipWith aw.cells l.aj az)),(dR (bj aw.f_ l.aj az)),(rd bA l.ab.length 4 (l.ab.map bJ.cells)),(rd sgA d.a_.aa.length 2 (d.a_.aa.map aG.cells))] (vT [(vA (ag.cells (pd l d))),(vB (decide (iW l d)))]):=by
 have N:=hin.sJ
 have M:=hin.sL
 have K:=hin.og
 have L:=hin.sH
 refine bG kr Tryz.func123 U U fun S Q hQ hN=>?_
 try dsimp only
 refine WS fun _ D=>eI U fun O=>eI U fun P=>AL U dV fun R=>bD 1 U<|RK D<|ak fun _ H=>aH<|WS fun _ E=>rP 3 [] (mc 1 U mn) ?_
 refine RK E<|cx U (fun J=>?_) (fun J=>?_)
 ·exact absurd ((hk.1).symm.trans J) dc
 refine WS fun _ F=>rP 3 [] (mc 1 U mn) ?_
 refine RK F<|bW U (fun G=>?_) (fun G=>?_)
 ·exact absurd ((hk.2).symm.trans G) dc
 refine ak fun _ B=>dA ct [10] [] [] [1,2,3,4,5,6,7] [] U U U U U<|eS U (FA 2 U fj U)<|eS U (LP (ag.cells d.Time) 0 U cj U U U)<|eS U (FA 2 U fj U)<|eS U (LP (ag.cells d.Time) 0 U cj U U U)<|eS U (CL (Mg d.Time) (aO) U)<|eS U (MV U)<|rY (t:=34) U (fun A=>?_) (fun A=>?_)
 rotate_left 1
 ·replace A:=DF A
  refine eS U (OX U)<|eS U (OX U)<|eS U (OX U)<|eS U (PK U)<|eS U (AG U)<|eh U<|cd U fun T10 C=>fG U cZ U<|aF (C _ _ (aQ [1,2,3,4,5,6,7]) ?_)
  refine fp U<|KK B<|aq<|mV hQ [0] (mc 0 U mn) U ?_
  clear hQ hN C T10 B F E H D
  rw [EZ hk]
  simp only [tT hk]
  refine congrArg (fun z=>Value.tuple #[_,vB z]) ?_
  first|rfl|(simp_all; done)
 replace A:=DT A
 refine eS U (FA 4 U fj U)<|eS U (LP (cz.cells (jk d.a_ sgA sgC)) 0 U cj U U U)<|eS U (CL (Fp d.a_ sgA sgC) (bu [6]) U)<|eS U (PK U)<|eS U (AG U)<|eh U<|cd U fun T9 AA=>fG U cZ U<|aF (AA _ _ (aQ [1,2,3,4,5,6,7]) ?_)
 refine fp U<|KK B<|aq<|mV hQ [0] (mc 0 U mn) U ?_
 clear hQ hN AA T9 B F E H D
 rw [EZ hk]
 simp only [tT hk]
 refine congrArg (fun z=>Value.tuple #[_,vB z]) ?_
 first|rfl|(simp_all; done)
theorem Ec (l:bk) (kA:OA) (kC:Nat) (az:List RA) (cA:OA) (cC:Nat) (bA:OA) (bC:Nat) (d:av) (sgA:OA) (sgC:Nat) (hin:eg l az) (hle:dD l=0) (hsl:d.a_.aa.length≤1000000) (hk:d.Out=false∧d.dj=false):
 dG Tryz.prog 123 [(vA (cv.cells (jN l kA kC cA cC bA bC))),(vA (aP.cells (aP.mk d.Out d.dj d.Time (jk d.a_ sgA sgC))))] [(rd kA l.aV.length 9 (l.aV.map ao.cells)),(rd cA l.aj.length 2 (List.zipWith aw.cells l.aj az)),(dR (bj aw.f_ l.aj az)),(rd bA l.ab.length 4 (l.ab.map bJ.cells)),(rd sgA d.a_.aa.length 2 (d.a_.aa.map aG.cells))] (vT [(vA (ag.cells (pd l d))),(vB (decide (iW l d)))]):=by
 have O:=hin.sJ
 have N:=hin.sL
 have L:=hin.og
 have M:=hin.sH
 refine bG kr Tryz.func123 U U fun AA Q hQ hN=>?_
 try dsimp only
 refine WS fun _ E=>eI U fun P=>eI U fun R=>AL U dV fun S=>bD 1 U<|RK E<|ak fun _ F=>aH<|WS fun _ G=>rP 3 [] (mc 1 U mn) ?_
 refine RK G<|cx U (fun K=>?_) (fun K=>?_)
 ·exact absurd ((hk.1).symm.trans K) dc
 refine WS fun _ H=>rP 3 [] (mc 1 U mn) ?_
 refine RK H<|cx U (fun J=>?_) (fun J=>?_)
 ·exact absurd ((hk.2).symm.trans J) dc
 refine cf<|aN<|KK F<|WS fun _ AB=>eQ 2 [] (mc 2 U mn) U<|rS (LP (cz.cells (jk d.a_ sgA sgC)) 1 U cj U U U)<|rS (CL (OR l kA kC az cA cC bA bC d.a_ sgA sgC hin hsl) (bu [3,4,5,6,7]) U)<|bD 3 U<|AL U dV fun T=>fG U cZ U<|rP 1 [] mn ?_
 refine RK AB<|ak fun _ A=>dA ct [9] [] [] [0,2,3,4,5,6,7,8] [] U U U U U<|eS U (LW 0 U cj U U)<|eS U (MV U)<|eS U (BI U lE)<|eS U (MV U)<|rY (t:=49) U (fun B=>?_) (fun B=>?_)
 rotate_left 1
 ·replace B:=DF B
  refine eS U (OX U)<|eS U (OX U)<|eS U (OX U)<|eS U (OX U)<|eS U (PK U)<|eS U (AG U)<|eh U<|cd U fun T12 D=>qO U cZ U<|aF (D _ _ (aQ [0,2,3,4,5,6,7,8]) ?_)
  refine fp U<|KK A<|aq<|mV hQ [0] (mc 1 U mn) U ?_
  clear hQ hN D T12 A AB H G F E
  rw [FI hk]
  simp only [qE hk]
  refine congrArg (fun z=>Value.tuple #[_,vB z]) ?_
  first|rfl|(simp_all [gP]; done)
 replace B:=DT B
 refine eS U (FA 2 U fj U)<|eS U (LP (ag.cells d.Time) 1 U cj U U U)<|eS U (SX (bp (xs:=[]) (cs:=(ag.cells (ag.mk 0 0))) U U (bo gX U)) U U)<|eS U (BI U (x3 _ _ d.Time (ag.mk 0 0)))<|eS U (PK U)<|eS U (AG U)<|eh U<|cd U fun T11 C=>qO U cZ U<|aF (C _ _ (aQ [0,2,3,4,5,6,7,8]) ?_)
 refine fp U<|KK A<|aq<|mV hQ [0] (mc 1 U mn) U ?_
 clear hQ hN C T11 A AB H G F E
 rw [FI hk]
 simp only [qE hk]
 refine congrArg (fun z=>Value.tuple #[_,vB z]) ?_
 first|rfl|(simp_all [gP]; done)
theorem Gy (l:bk) (kA:OA) (kC:Nat) (az:List RA) (cA:OA) (cC:Nat) (bA:OA) (bC:Nat) (d:av) (sgA:OA) (sgC:Nat) (hin:eg l az) (hle:dD l=0) (hsl:d.a_.aa.length≤1000000):
 dG Tryz.prog 123 [(vA (cv.cells (jN l kA kC cA cC bA bC))),(vA (aP.cells (aP.mk d.Out d.dj d.Time (jk d.a_ sgA sgC))))] [(rd kA l.aV.length 9 (l.aV.map ao.cells)),(rd cA l.aj.length 2 (List.zipWith aw.cells l.aj az)),(dR (bj aw.f_ l.aj az)),(rd bA l.ab.length 4 (l.ab.map bJ.cells)),(rd sgA d.a_.aa.length 2 (d.a_.aa.map aG.cells))] (vT [(vA (ag.cells (pd l d))),(vB (decide (iW l d)))]):=by
 by_cases ho:d.Out=true
 ·exact C_ l kA kC az cA cC bA bC d sgA sgC hin hle hsl ho
 by_cases hf:d.dj=true
 ·exact DV l kA kC az cA cC bA bC d sgA sgC hin hle hsl ⟨by simpa using ho,hf⟩
 ·exact Ec l kA kC az cA cC bA bC d sgA sgC hin hle hsl ⟨by simpa using ho,by simpa using hf⟩
end
section
open Go.RowKit
theorem C9 (r:eZ) (kA:OA) (kC:Nat) (az:List RA) (cA:OA) (cC:Nat) (bA:OA) (bC:Nat) (slA:OA) (slC:Nat) (drA:OA) (drC:Nat) (ha:List cW) (heA:OA) (heC:Nat) (hin:lG r az ha) (hle:dD r.ar=0):
 pG Tryz.prog 102 [(vA (fB.cells (yx r kA kC cA cC bA bC slA slC drA drC heA heC)))] [(rd kA r.ar.aV.length 9 (r.ar.aV.map ao.cells)),(rd cA r.ar.aj.length 2 (List.zipWith aw.cells r.ar.aj az)),(dR (bj aw.f_ r.ar.aj az)),(rd bA r.ar.ab.length 4 (r.ar.ab.map bJ.cells)),(rd slA r.aY.length 1 (r.aY.map iC)),(rd drA r.ck.length 1 (r.ck.map iC)),(rd heA r.aB.length 1 (List.zipWith cL r.aB ha)),(dR (bj eY r.aB ha))] (fun (x:Bool×Int×(OA)×Nat×(List RA))=>bif x.1 then (vT [(vS x.2.2.1 ((fQ r).length) x.2.2.2.1),(vB true)]) else (vT [(vS none 0 0),(vB false)])) (fun (x:Bool×Int×(OA)×Nat×(List RA))=>(x.1=true→(fK r∧x.2.2.2.2.length=r.aB.length))∧(x.1=false→(x.2.1=0∧ ¬ fK r))) (fun (x:Bool×Int×(OA)×Nat×(List RA))=>bif x.1 then [(own x.2.2.1 x.2.2.2.1 204 1 (List.zipWith MZ (fQ r) x.2.2.2.2)),(bQ (bj FZ (fQ r) x.2.2.2.2))] else []):=by
 have NE:=hin.line
 have PB:=hin.ij
 have PP:=hin.has
 have Or:=hin.ic
 have OB:=hin.draw
 have Os:=j4 (r:=r)
 refine e_ kr Tryz.func102 U U fun w0 Q hQ hN=>?_
 try dsimp only
 refine WS fun _ LT=>eI U fun b2=>bD 2 U<|RK LT<|WS fun _ La=>eQ 4 [] (mc 0 U mn) U<|RK La<|ak fun _ Li=>WS fun _ N=>bD 1 U<|rS (CL (pk (r.aY.length:Int) 1 5) (aO) U)<|rP 2 [] mn ?_
 refine b_ (t:=19) U (bq fun J8=>?_) (br fun J8=>?_)
 ·refine bD 19 U<|RK N<|aS U<|WS fun _ Lk=>rP 2 [] mn ?_
  refine RK Lk<|aq<|LX hQ (false,0,none,0,[]) [] [] mn U (by rfl) U U ?_
  (exact ⟨yI,fun _=>⟨rfl,fun q=>by have S:=q.num; have q2:=q.AD; have q3:=q.nh; have q4:=q.zF; omega⟩⟩)
 refine rP 7 [] (mc 0 U mn) ?_
 refine b_ (t:=26) U (bq fun X=>?_) (br fun X=>?_)
 ·refine bD 12 U<|RK N<|aS U<|WS fun _ Lo=>rP 2 [] mn ?_
  refine RK Lo<|aq<|LX hQ (false,0,none,0,[]) [] [] mn U (by rfl) U U ?_
  (exact ⟨yI,fun _=>⟨rfl,fun q=>by have S:=q.num; have q2:=q.AD; have q3:=q.nh; have q4:=q.zF; omega⟩⟩)
 refine eQ 2 [] (mc 0 U mn) U<|rS (CL (pk r.mj 0 5) (aO) U)<|rP 3 [] mn ?_
 refine b_ (t:=32) U (bq fun J9=>?_) (br fun J9=>?_)
 ·refine bD 6 U<|RK N<|aS U<|WS fun _ L0=>rP 2 [] mn ?_
  refine RK L0<|aq<|LX hQ (false,0,none,0,[]) [] [] mn U (by rfl) U U ?_
  (exact ⟨yI,fun _=>⟨rfl,fun q=>by have S:=q.num; have q2:=q.AD; have q3:=q.nh; have q4:=q.zF; omega⟩⟩)
 refine eQ 3 [] (mc 0 U mn) U<|rS (CL (pk (r.aB.length:Int) 1 3) (aO) U)<|rP 2 [] mn ?_
 refine RK N<|cx U (bq fun K0=>?_) (br fun K0=>?_)
 ·refine WS fun _ L2=>rP 2 [] mn ?_
  refine RK L2<|aq<|LX hQ (false,0,none,0,[]) [] [] mn U (by rfl) U U ?_
  (exact ⟨yI,fun _=>⟨rfl,fun q=>by have S:=q.num; have q2:=q.AD; have q3:=q.nh; have q4:=q.zF; omega⟩⟩)
 refine WK Li<|ak fun _ o=>WS fun _ p=>rP 1 [] mn ?_
 refine RK p<|aH ?_
 have A:(0≤r.aY.length)∧(xR r 0):=by exact ⟨Nat.zero_le _,JH⟩
 refine bY (ι:={z:Nat // (z≤r.aY.length)∧(xR r z)}) [1,4] [0,1,2,3,4,5,6,7,8] U U (fun z=>[(5,(vI (z.1:Int)))]) (fun z=>[]) (fun _=>rfl) (fun _=>rfl) (fun z=>r.aY.length-z.1) ⟨0,A⟩ (bB U) (aQ [0,1,2,3,4,5,6,7,8]) ?_
 clear A
 rintro ⟨i,⟨M2,AB⟩⟩ J12 T
 try dsimp only
 refine ak fun _ s=>WS fun _ v=>rP 3 [] mn ?_
 refine RK v<|bW U (aT fun J7=>?_) (aU fun J7=>?_)
 ·refine bP<|ai<|ai<|aJ<|KK o<|WS fun _ B3=>bD 1 U<|RK B3<|ak fun _ B9=>WS fun _ Ci=>rP 1 [] mn ?_
  refine RK Ci<|aH<|eM 204 1<|oc ?_
  have A:(0≤r.aB.length)∧(([]:List RA).length=0)∧(ku r 0):=by exact ⟨Nat.zero_le _,rfl,xU⟩
  refine bY (ι:={z:Nat×(List RA)×(OA)×Nat // (z.1≤r.aB.length)∧(z.2.1.length=z.1)∧(ku r z.1)}) [1,4] [2,3,4,5,6,7,8,9,10] U U (fun z=>[(7,(vS z.1.2.2.1 ((List.zipWith B4 (gT r z.1.1) z.1.2.1).length) z.1.2.2.2)),(8,(vI (z.1.1:Int)))]) (fun z=>[(bQ (bj FZ (gT r z.1.1) z.1.2.1)),(own z.1.2.2.1 z.1.2.2.2 204 1 (List.map sC (List.zipWith B4 (gT r z.1.1) z.1.2.1)))]) (fun _=>rfl) (fun _=>rfl) (fun z=>r.aB.length-z.1.1) ⟨(0,([]:List RA),none,0),A⟩ (bB U) (aQ [2,3,4,5,6,7,8,9,10,0,1]) ?_
  clear A
  rintro ⟨⟨h,tz,a,c⟩,⟨P,C,F⟩⟩ J46 l
  try dsimp only at P C F
  try dsimp only
  refine ak fun _ Ck=>WS fun _ Cp=>rP 5 [] (mc 0 U mn) ?_
  refine RK Cp<|bW U (aT fun K4=>?_) (aU fun K4=>?_)
  ·refine bP<|ai<|ai<|aJ<|KK B9<|ak fun _ GE=>?_
   have Mu:gT r h=fQ r:=by unfold fQ; rw [show h=r.aB.length by omega]
   have Ne:tz.length=r.aB.length:=by omega
   rw [Mu,zr,show (List.zipWith B4 (fQ r) tz).length=(fQ r).length from by rw [List.length_zipWith]; omega]
   have If:fK r:=GO (n:=i) I I I I I AB F I
   refine au<|rP 3 [] mn ?_
   refine RK GE<|aq ?_
   refine LX hQ (true,0,a,c,tz) [10,9] [] mn U (by (show List.all _ _=true; simp only [cond_true,eG,List.all_nil,Ef,Bool.and_true]; rfl)) U U ?_
   exact ⟨fun _=>⟨If,Ne⟩,QR⟩
  refine WK Ck<|ak fun _ Cx=>aH<|ak fun _ C0=>WS fun _ C1=>rP 3 [] (mc 0 U mn) ?_
  obtain ⟨ht,D⟩:=aL r.aB h I
  obtain ⟨E,H⟩:=aL ha h I
  have W:(List.zipWith cL r.aB ha)[h]? =some (cL ht E):=dy D H
  refine rS (IA h U (aA 7 U) oh dc I I) ?_
  have Id:=hin.gf _ _ _ D H
  have Op:=Id.og
  refine rS (g6 h 0 (vS E.1.1 ht.length E.1.2) U cj (aA 7 U) W U dc U)<|rP 3 [] mn ?_
  refine RK C1<|cx U (bq fun e=>?_) (br fun e=>?_)
  ·refine WS fun _ C2=>rP 2 [] mn ?_
   refine RK C2<|aq<|LX hQ (false,0,none,0,[]) [] [] mn U (by rfl) U U ?_
   (exact ⟨yI,fun _=>⟨rfl,fun q=>by have S:=(q.gf ht (aR D)).1; omega⟩⟩)
  refine WK C0<|WS fun _ C3=>bD 1 U<|RK C3<|ak fun _ DS=>WS fun _ Di=>rP 1 [] mn ?_
  refine RK Di<|aH<|eM 53 2 ?_
  have A:(0≤ht.length)∧(oy r.ar ht 0):=by exact ⟨Nat.zero_le _,vU⟩
  refine bY (ι:={z:Nat×(OA)×Nat // (z.1≤ht.length)∧(oy r.ar ht z.1)}) [1,4,7,8] [1,2,3,4,5,6,7,8,9,10,11] U U (fun z=>[(9,(vS z.1.2.1 (((ht.take z.1.1).map (gh r.ar)).length) z.1.2.2)),(10,(vI (z.1.1:Int)))]) (fun z=>[(own z.1.2.1 z.1.2.2 53 2 (((ht.take z.1.1).map (gh r.ar)).map ag.cells))]) (fun _=>rfl) (fun _=>rfl) (fun z=>ht.length-z.1.1) ⟨(0,none,0),A⟩ (bB U) (aQ [1,2,3,4,5,6,7,8,9,10,11,0]) ?_
  clear A
  rintro ⟨⟨j,la,lc⟩,⟨R,G⟩⟩ J57 m
  try dsimp only at R G
  try dsimp only
  refine ak fun _ Do=>WS fun _ EQ=>rP 3 [] mn ?_
  refine RK EQ<|bW U (aT fun LA=>?_) (aU fun LA=>?_)
  ·refine bP<|ai<|ai<|aJ<|KK DS<|au ?_
   rw [show ((ht.take j).map (gh r.ar))=ht.map (gh r.ar) from by rw [List.take_of_length_le I]]
   refine rP 2 [] mn ?_
   refine ej (xs:=[.tmp 137]) (cs:=[(vS la ((ht.map (gh r.ar)).length) lc)]) U IM Ou U U U U (by simp [Value.cells]) U U fun O8=>?_
   refine dJ (es2:=(List.map sC (List.zipWith B4 (gT r (h+1)) (tz++[(la,lc)])))) (m':=(List.zipWith B4 (gT r (h+1)) (tz++[(la,lc)])).length) 11 U U U OC U U sm (bw (es:=List.map sC [(bH.mk la ((ht.map (gh r.ar)).length) lc)]) 0 U U (by simp [zt]) U) (Lf _) (by rw [List.length_zipWith,k9 I]; omega) (by rw [List.length_zipWith,k9 I]; simp only [maxLen]; omega) (by rw [tG D C,List.map_append]; rfl) (by rw [tG D C]; simp) U fun J4 J6=>?_
   try dsimp only
   refine bD 1 U<|aF<|aN<|KK Cx<|au<|rP 3 [] mn ?_
   refine aF<|xN (X':=bj FZ (gT r (h+1)) (tz++[(la,lc)])) 10 12 U U (BC (a:=(la,lc)) D C) ?_
   have IO:(vI (((h+1):Nat):Int))=(vI ((h:Int)+1)):=by exact cI I
   refine bg (l ⟨((h+1),(tz++[(la,lc)]),J4,J6),⟨I,by simp; omega,yk F D (FY I G I)⟩⟩ _ _ _ U os (cG 3<|bf U IO<|dh.nil _) (aQ [2,3,4,5,6,7,8,9,10,0,11]))
  refine WK Do<|ak fun _ Eq=>aH<|ak fun _ FS=>dA ct [14,15] [] [] [0,1,2,3,4,5,6,7,8,9,10,11] [] U U U U U<|eS U (FA 0 U fj U)<|eS U (LP (cv.cells (jN r.ar kA kC cA cC bA bC)) 0 U cj U U U)<|eS U (FA 10 U fj U)<|eS U (L1 (vS heA r.aB.length heC) 0 U cj U U)<|eS U (MV U)<|eS U (IA h U (aA 7 U) oh dc I I)<|eS U (g6 h 0 (vS E.1.1 ht.length E.1.2) U cj (aA 7 U) W U dc U)<|eS U (MV U) ?_
  obtain ⟨d,hd⟩:=aL ht j I
  obtain ⟨da,IR⟩:=aL E.2 j I
  have L3:(List.zipWith av.cells ht E.2)[j]? =some (av.cells d da):=dy hd IR
  refine eS U (IA j U (show iK _ (rd E.1.1 ht.length 7 (List.zipWith av.cells ht E.2)).holds from (cO 8 U (bK D H cy))) qJ dc I I)<|eS U (lx j 0 (aP.cells (aP.mk d.Out d.dj d.Time (cz.mk d.a_.Start d.a_.fR (bH.mk da.1 d.a_.aa.length da.2)))) U cj (show iK _ (rd E.1.1 ht.length 7 (List.zipWith av.cells ht E.2)).holds from (cO 8 U (bK D H cy))) L3 U dc U U) ?_
  have PT:=Id.sig d (aR hd)
  refine eS U (CL (Gy r.ar kA kC az cA cC bA bC d da.1 da.2 asm hle asm) (mT [1,2,3,4]<|aK (show iK _ (rd da.1 d.a_.aa.length 2 (d.a_.aa.map aG.cells)).holds from (cO 8 U (bK D H (dI _ (bK hd IR (by simp [av.f_]))))))<|aO) U)<|eS U (MV U)<|eS U (EX U)<|eS U (EX U)<|eS U (AG U)<|eh U<|cd U fun T63 GT=>AL U dV fun O1=>aF (GT _ _ (aQ [1,2,3,4,5,6,7,8,9,10,11,12]) ?_)
  refine cd U fun T65 Go=>fG U cZ U<|aF (Go _ _ (aQ [1,2,3,4,5,6,7,8,9,10,11,12]) ?_)
  refine fp U<|KK FS<|ak fun _ FV=>WS fun _ Fd=>rP 2 [] mn ?_
  refine RK Fd<|cx U (bq fun J=>?_) (br fun J=>?_)
  ·refine WS fun _ Fn=>rP 2 [] mn ?_
   refine RK Fn<|aq<|LX hQ (false,0,none,0,[]) [] [] mn U (by rfl) U U ?_
   (exact ⟨yI,fun _=>⟨rfl,fun q=>by exact J ((q.gf ht (aR D)).2 d (aR hd))⟩⟩)
  refine WK FV<|au<|rP 2 [] (mc 0 U mn) ?_
  refine ej (xs:=[.tmp 133]) (cs:=(ag.cells (pd r.ar d))) U lq dV U U U U (by simp [Value.cells,ag.aZ]) U U fun O6=>?_
  refine dJ (es2:=(List.map ag.cells ((ht.take (j+1)).map (gh r.ar)))) (m':=((ht.take (j+1)).map (gh r.ar)).length) 13 U U U FE U U sm (bw (es:=List.map ag.cells [(pd r.ar d)]) 0 U U (by simp [ag.aZ]) U) (kU _) (by simp only [List.length_map,List.length_take]; omega) (by simp only [maxLen,List.length_map,List.length_take]; omega) (by rw [List.take_add_one,hd]; simp [Lq J]) sq U fun J3 J5=>?_
  try dsimp only
  refine bD 1 U<|aF<|aN<|KK Eq<|au<|rP 3 [] mn ?_
  refine aF ?_
  have IL:(vI (((j+1):Nat):Int))=(vI ((j:Int)+1)):=by exact cI I
  refine bg (m ⟨((j+1),J3,J5),⟨I,vR G hd J⟩⟩ _ _ _ U os (cG 5<|bf U IL<|dh.nil _) (aQ [2,3,4,5,6,7,8,9,10,11,12,13]))
 refine WK s<|ak fun _ AA=>aH<|ak fun _ V=>ak fun _ K=>dp ct 36 kr<|dP 3 [] (mc 0 U mn) ?_
 obtain ⟨y,hy⟩:=aL r.aY i I
 have In:=bM iC hy
 refine dS (IA i U (aA 5 U) dv dc I I)<|dS (g6 i 0 (vI y) U cj (aA 5 U) In U dc U)<|dS (CL (pk y 0 9999) (aO) U)<|dP 2 [] mn ?_
 refine g_ (t:=51) U (bq fun K5=>?_) (br fun K5=>?_)
 ·refine kX 28 U<|cK<|RK K<|aS U<|WS fun _ w=>rP 2 [] mn ?_
  refine RK w<|aq<|LX hQ (false,0,none,0,[]) [] [] mn U (by rfl) U U ?_
  (exact ⟨yI,fun _=>⟨rfl,fun q=>by have S:=(q.ids i y hy).1; omega⟩⟩)
 refine dP 3 [] mn ?_
 refine jy (t:=54) U (aT fun K8=>?_) (aU fun K8=>?_)
 ·refine dP 18 [] (mc 0 U mn) ?_
  obtain ⟨x,hx⟩:=aL r.ck i I
  have M:=bM iC hx
  refine dS (IA i U (aA 6 U) dv dc I I)<|dS (g6 i 0 (vI x) U cj (aA 6 U) M U dc U)<|kX 2 U<|dS (CL (pk x 0 ((r.aY.length:Int)-1)) (aO) U)<|dP 2 [] mn ?_
  refine cK<|RK K<|cx U (bq fun Y=>?_) (br fun Y=>?_)
  ·refine WS fun _ A4=>rP 2 [] mn ?_
   refine RK A4<|aq<|LX hQ (false,0,none,0,[]) [] [] mn U (by rfl) U U ?_
   (exact ⟨yI,fun _=>⟨rfl,fun q=>by have S:=q.IC hx; omega⟩⟩)
  refine WK V<|WS fun _ A5=>rP 1 [] mn ?_
  refine RK A5<|aH ?_
  have A:(0≤i)∧(∀ (q:Nat) y,q<0→r.ck[q]? =some y→y≠x):=by exact ⟨Nat.zero_le _,fun q y hq=>absurd hq (Nat.not_lt_zero _)⟩
  refine bY (ι:={z:Nat // (z≤i)∧(∀ (q:Nat) y,q<z→r.ck[q]? =some y→y≠x)}) [1,4,5] [0,1,2,3,4,5,6,7,8] U U (fun z=>[(6,(vI (z.1:Int)))]) (fun z=>[]) (fun _=>rfl) (fun _=>rfl) (fun z=>i-z.1) ⟨0,A⟩ (bB U) (aQ [0,1,2,3,4,5,6,7,8]) ?_
  clear A
  rintro ⟨k,⟨O,B⟩⟩ J34 g
  try dsimp only
  refine ak fun _ A6=>WS fun _ A7=>rP 3 [] mn ?_
  refine RK A7<|bW U (aT fun Km=>?_) (aU fun Km=>?_)
  ·refine bP<|ai<|ai<|aJ<|aN<|KK AA<|au<|rP 3 [] mn ?_
   refine aF ?_
   have IB:(vI (((i+1):Nat):Int))=(vI ((i:Int)+1)):=by exact cI I
   refine bg (T ⟨(i+1),⟨I,Cn AB (fun a ha=>by rw [hy] at ha; cases ha; exact ⟨I,fun b hb hc=>by omega⟩) (fun a ha=>by rw [hx] at ha; cases ha; exact ⟨I,fun k b hk hb=>B k b I hb⟩)⟩⟩ _ _ _ rfl os (dh.cons rfl<|dh.cons rfl<|bf rfl IB<|dh.nil _) (aQ [0,1,2,3,4,5,6,7,8]))
  refine WK A6<|ak fun _ A8=>aH<|ak fun _ A9=>dp ct 11 kr<|dP 3 [] (mc 0 U mn) ?_
  obtain ⟨u,hu⟩:=aL r.ck k I
  have Z:=bM iC hu
  refine dS (IA k U (aA 6 U) dv dc I I)<|dS (g6 k 0 (vI u) U cj (aA 6 U) Z U dc U)<|lU 3 [] (mc 0 U mn) U<|dS (IA i U (aA 6 U) dv dc I I)<|dS (g6 i 0 (vI x) U cj (aA 6 U) M U dc U)<|dP 1 [] mn ?_
  refine cK<|RK A9<|bW U (aT fun L=>?_) (aU fun L=>?_)
  ·refine cf<|aN<|KK A8<|au<|rP 3 [] mn ?_
   refine aF ?_
   have H1:(vI (((k+1):Nat):Int))=(vI ((k:Int)+1)):=by exact cI I
   refine bg (g ⟨(k+1),⟨I,x_ B hu L⟩⟩ _ _ _ U os (cG 3<|bf U H1<|dh.nil _) (aQ [0,1,2,3,4,5,6,7,8]))
  refine WS fun _ Bp=>rP 2 [] mn ?_
  refine RK Bp<|aq<|LX hQ (false,0,none,0,[]) [] [] mn U (by rfl) U U ?_
  (exact ⟨yI,fun _=>⟨rfl,fun q=>by have S:=q.num; have q2:=q.AD; have q3:=q.nh; have q4:=q.zF; omega⟩⟩)
 refine lU 3 [] (mc 0 U mn) U<|dS (IA i U (aA 5 U) dv dc I I)<|dS (g6 i 0 (vI y) U cj (aA 5 U) In U dc U)<|dP 4 [] (mc 0 U mn) ?_
 obtain ⟨z,hz⟩:=aL r.aY (i-1) I
 have Np:=bM iC hz
 refine dS (IA (i-1) U (aA 5 U) dv dc I I)<|dS (g6 (i-1) 0 (vI z) U cj (aA 5 U) Np U dc U)<|dP 4 [] mn ?_
 refine g_ (t:=69) U (aU fun LE=>?_) (aT fun LE=>?_)
 ·refine kX 10 U<|cK<|RK K<|aS U<|WS fun _ AC=>rP 2 [] mn ?_
  refine RK AC<|aq<|LX hQ (false,0,none,0,[]) [] [] mn U (by rfl) U U ?_
  (exact ⟨yI,fun _=>⟨rfl,fun q=>by have S:=(q.ids i y hy).2 z I hz; omega⟩⟩)
 refine dP 3 [] (mc 0 U mn) ?_
 obtain ⟨x,hx⟩:=aL r.ck i I
 have M:=bM iC hx
 refine dS (IA i U (aA 6 U) dv dc I I)<|dS (g6 i 0 (vI x) U cj (aA 6 U) M U dc U)<|kX 2 U<|dS (CL (pk x 0 ((r.aY.length:Int)-1)) (aO) U)<|dP 2 [] mn ?_
 refine cK<|RK K<|cx U (bq fun Y=>?_) (br fun Y=>?_)
 ·refine WS fun _ AF=>rP 2 [] mn ?_
  refine RK AF<|aq<|LX hQ (false,0,none,0,[]) [] [] mn U (by rfl) U U ?_
  (exact ⟨yI,fun _=>⟨rfl,fun q=>by have S:=q.IC hx; omega⟩⟩)
 refine WK V<|WS fun _ AO=>rP 1 [] mn ?_
 refine RK AO<|aH ?_
 have A:(0≤i)∧(∀ (q:Nat) y,q<0→r.ck[q]? =some y→y≠x):=by exact ⟨Nat.zero_le _,fun q y hq=>absurd hq (Nat.not_lt_zero _)⟩
 refine bY (ι:={z:Nat // (z≤i)∧(∀ (q:Nat) y,q<z→r.ck[q]? =some y→y≠x)}) [1,4,5] [0,1,2,3,4,5,6,7,8] U U (fun z=>[(6,(vI (z.1:Int)))]) (fun z=>[]) (fun _=>rfl) (fun _=>rfl) (fun z=>i-z.1) ⟨0,A⟩ (bB U) (aQ [0,1,2,3,4,5,6,7,8]) ?_
 clear A
 rintro ⟨k,⟨O,B⟩⟩ J23 f
 try dsimp only
 refine ak fun _ Ay=>WS fun _ A0=>rP 3 [] mn ?_
 refine RK A0<|bW U (aT fun X=>?_) (aU fun X=>?_)
 ·refine bP<|ai<|ai<|aJ<|aN<|KK AA<|au<|rP 3 [] mn ?_
  refine aF ?_
  have Hi:(vI (((i+1):Nat):Int))=(vI ((i:Int)+1)):=by exact cI I
  refine bg (T ⟨(i+1),⟨I,Cn AB (fun a ha=>by rw [hy] at ha; cases ha; exact ⟨I,fun b hb hc=>by (rw [hz] at hc; cases hc; omega)⟩) (fun a ha=>by rw [hx] at ha; cases ha; exact ⟨I,fun k b hk hb=>B k b I hb⟩)⟩⟩ _ _ _ rfl os (dh.cons rfl<|dh.cons rfl<|bf rfl Hi<|dh.nil _) (aQ [0,1,2,3,4,5,6,7,8]))
 refine WK Ay<|ak fun _ A1=>aH<|ak fun _ A2=>dp ct 11 kr<|dP 3 [] (mc 0 U mn) ?_
 obtain ⟨u,hu⟩:=aL r.ck k I
 have Z:=bM iC hu
 refine dS (IA k U (aA 6 U) dv dc I I)<|dS (g6 k 0 (vI u) U cj (aA 6 U) Z U dc U)<|lU 3 [] (mc 0 U mn) U<|dS (IA i U (aA 6 U) dv dc I I)<|dS (g6 i 0 (vI x) U cj (aA 6 U) M U dc U)<|dP 1 [] mn ?_
 refine cK<|RK A2<|bW U (aT fun L=>?_) (aU fun L=>?_)
 ·refine cf<|aN<|KK A1<|au<|rP 3 [] mn ?_
  refine aF ?_
  have Hh:(vI (((k+1):Nat):Int))=(vI ((k:Int)+1)):=by exact cI I
  refine bg (f ⟨(k+1),⟨I,x_ B hu L⟩⟩ _ _ _ U os (cG 3<|bf U Hh<|dh.nil _) (aQ [0,1,2,3,4,5,6,7,8]))
 refine WS fun _ A3=>rP 2 [] mn ?_
 refine RK A3<|aq<|LX hQ (false,0,none,0,[]) [] [] mn U (by rfl) U U ?_
 (exact ⟨yI,fun _=>⟨rfl,fun q=>by exact q.P6 I hu hx L⟩⟩)
end
section
open Go.RowKit
theorem Hn (r:eZ) (kA:OA) (kC:Nat) (az:List RA) (cA:OA) (cC:Nat) (bA:OA) (bC:Nat) (slA:OA) (slC:Nat) (drA:OA) (drC:Nat) (ha:List cW) (heA:OA) (heC:Nat) (hin:lG r az ha):
 pG Tryz.prog 76 [(vA (fB.cells (yx r kA kC cA cC bA bC slA slC drA drC heA heC)))] [(rd kA r.ar.aV.length 9 (r.ar.aV.map ao.cells)),(rd cA r.ar.aj.length 2 (List.zipWith aw.cells r.ar.aj az)),(dR (bj aw.f_ r.ar.aj az)),(rd bA r.ar.ab.length 4 (r.ar.ab.map bJ.cells)),(rd slA r.aY.length 1 (r.aY.map iC)),(rd drA r.ck.length 1 (r.ck.map iC)),(rd heA r.aB.length 1 (List.zipWith cL r.aB ha)),(dR (bj eY r.aB ha))] (fun (x:Bool×Int×(OA)×Nat×(List RA))=>bif x.1 then (vT [(vS x.2.2.1 ((fQ r).length) x.2.2.2.1),(vI 0)]) else (vT [(vS none 0 0),(vI x.2.1)])) (fun (x:Bool×Int×(OA)×Nat×(List RA))=>(x.1=true→(jK r=0∧x.2.2.2.2.length=r.aB.length))∧(x.1=false→(x.2.1=jK r∧ ¬ jK r=0))) (fun (x:Bool×Int×(OA)×Nat×(List RA))=>bif x.1 then [(own x.2.2.1 x.2.2.2.1 204 1 (List.zipWith MZ (fQ r) x.2.2.2.2)),(bQ (bj FZ (fQ r) x.2.2.2.2))] else []):=by
 have AA:=hin.line
 have b:=hin.ij
 have c:=hin.has
 have Z:=hin.ic
 have Y:=hin.draw
 have a:=j4 (r:=r)
 refine e_ kr Tryz.func76 U U fun f Q hQ hN=>?_
 try dsimp only
 refine WS fun _ O=>eI U fun e=>bD 2 U<|RK O<|ak fun _ P=>WS fun _ R=>bD 1 U<|rS (LP (cv.cells (jN r.ar kA kC cA cC bA bC)) 0 U cj U U U)<|rS (CL (Ct r.ar kA kC az cA cC bA bC asm) (bu [1,2,3,4]) U)<|bD 1 U<|RK R<|WS fun _ S=>rP 2 [] mn ?_
 refine RK S<|cx U (bq fun A=>?_) (br fun A=>?_)
 ·refine WS fun _ T=>rP 3 [] mn ?_
  refine RK T<|aq<|LX hQ (false,(dD r.ar),none,0,[]) [] [] mn U (by rfl) U U ?_
  exact wh<|EG (zp A) A
 refine WK P<|WS fun _ G=>rP 1 [] (mc 0 U mn) ?_
 refine cX (C9 r kA kC az cA cC bA bC slA slC drA drC ha heA heC hin (by exact A)) (bu [1,2,3,4,5,6,7,8]) U fun d J=>?_
 obtain ⟨K,W,L,M,N⟩:=d
 cases K
 rotate_left 1
 ·obtain ⟨AB,V⟩:=J.1 rfl
  try dsimp only [cond_true,cond_false,List.cons_append,List.nil_append]
  refine bD 5 U<|RK G<|ak fun _ D=>WS fun _ E=>bD 2 U<|RK E<|bR U<|WK D<|WS fun _ F=>rP 3 [] mn ?_
  refine RK F<|aq ?_
  refine LX hQ (true,0,L,M,N) [0,1] [] mn U (by (show List.all _ _=true; simp only [cond_true,eG,List.all_nil,Ef,Bool.and_true]; rfl)) U U ?_
  exact ⟨fun _=>⟨BZ A AB,V⟩,QR⟩
 obtain ⟨H,he⟩:=J.2 rfl
 try dsimp only at H he
 subst H
 try dsimp only [cond_true,cond_false,List.cons_append,List.nil_append]
 refine bD 5 U<|RK G<|ak fun _ X=>WS fun _ B=>bD 2 U<|RK B<|aS U<|WS fun _ C=>rP 2 [] mn ?_
 refine RK C<|aq<|LX hQ (false,60,none,0,[]) [] [] mn U (by rfl) U U ?_
 exact wh<|nW (kO A he)
end
section
open Go.RowKit
theorem Hf (r:eZ) (kA:OA) (kC:Nat) (az:List RA) (cA:OA) (cC:Nat) (bA:OA) (bC:Nat) (slA:OA) (slC:Nat) (drA:OA) (drC:Nat) (ha:List cW) (heA:OA) (heC:Nat) (hin:lG r az ha):
 dG Tryz.prog 50 [(vA (fB.cells (yx r kA kC cA cC bA bC slA slC drA drC heA heC)))] [(rd kA r.ar.aV.length 9 (r.ar.aV.map ao.cells)),(rd cA r.ar.aj.length 2 (List.zipWith aw.cells r.ar.aj az)),(dR (bj aw.f_ r.ar.aj az)),(rd bA r.ar.ab.length 4 (r.ar.ab.map bJ.cells)),(rd slA r.aY.length 1 (r.aY.map iC)),(rd drA r.ck.length 1 (r.ck.map iC)),(rd heA r.aB.length 1 (List.zipWith cL r.aB ha)),(dR (bj eY r.aB ha))] (vI (jK r)):=by
 have H:=hin.line
 have M:=hin.ij
 have N:=hin.has
 have J:=hin.ic
 have AB:=hin.draw
 have K:=j4 (r:=r)
 refine bG kr Tryz.func50 U U fun V Q hQ hN=>?_
 try dsimp only
 refine WS fun _ G=>eI U fun AA=>bD 1 U<|RK G<|WS fun _ C=>rP 1 [] (mc 0 U mn) ?_
 refine cX (Hn r kA kC az cA cC bA bC slA slC drA drC ha heA heC hin) (bu [1,2,3,4,5,6,7,8]) U fun T E=>?_
 obtain ⟨F,L,P,R,S⟩:=T
 cases F
 rotate_left 1
 ·obtain ⟨he,O⟩:=E.1 rfl
  try dsimp only [cond_true,cond_false,List.cons_append,List.nil_append]
  refine bD 5 U<|RK C<|WS fun _ B=>rP 2 [] mn ?_
  refine RK B<|aq<|Q1 hQ U U U ?_
  first|rfl|(rw [he])
 obtain ⟨D,he⟩:=E.2 rfl
 try dsimp only at D he
 subst D
 try dsimp only [cond_true,cond_false,List.cons_append,List.nil_append]
 refine bD 5 U<|RK C<|WS fun _ A=>rP 2 [] mn ?_
 refine RK A<|aq<|Q1 hQ U U U ?_
 first|rfl|(rw [he])
end
section
open Go.RowKit
theorem Gd (j:cN) (kA:OA) (kC:Nat) (az:List RA) (cA:OA) (cC:Nat) (bA:OA) (bC:Nat) (slA:OA) (slC:Nat) (drA:OA) (drC:Nat) (ha:List cW) (heA:OA) (heC:Nat) (faA:OA) (faC:Nat) (prA:OA) (prC:Nat) (hin:gG j az ha) (hjr:jK j.Race=0):
 dG Tryz.prog 51 [(vA (fz.cells (nY j kA kC cA cC bA bC slA slC drA drC heA heC faA faC prA prC)))] [(rd kA j.Race.ar.aV.length 9 (j.Race.ar.aV.map ao.cells)),(rd cA j.Race.ar.aj.length 2 (List.zipWith aw.cells j.Race.ar.aj az)),(dR (bj aw.f_ j.Race.ar.aj az)),(rd bA j.Race.ar.ab.length 4 (j.Race.ar.ab.map bJ.cells)),(rd slA j.Race.aY.length 1 (j.Race.aY.map iC)),(rd drA j.Race.ck.length 1 (j.Race.ck.map iC)),(rd heA j.Race.aB.length 1 (List.zipWith cL j.Race.aB ha)),(dR (bj eY j.Race.aB ha)),(rd faA j.ay.length 4 (j.ay.map aM.cells)),(rd prA j.aD.length 5 (j.aD.map aX.cells))] (vB (decide (pP j))):=by
 have n:=hin.race
 have OB:=hin.race.line
 have P8:=hin.race.ij
 have Qe:=hin.race.has
 have O6:=hin.race.ic
 have Os:=hin.nf
 have O1:=hin.np
 have Qr:=(eU hjr).1
 have If:=(eU hjr).2
 refine bG kr Tryz.func51 U U fun w0 Q hQ hN=>?_
 try dsimp only
 refine WS fun _ L3=>eI U fun b2=>bD 1 U<|RK L3<|ak fun _ Mu=>WS fun _ a=>rP 5 [] (mc 0 U mn) ?_
 refine b_ (t:=12) U (aU fun h5=>?_) (aT fun h5=>?_)
 ·refine bD 17 U<|RK a<|aS U<|WS fun _ M2=>rP 1 [] mn ?_
  refine RK M2<|aq<|Q1 hQ U U U ?_
  first|exact cB (bE (fun q=>by have C:=q.nf; have H:=q.min_; have J:=q.sK; have K:=q.np; omega)).symm|exact cB (bE (fun q=>by have C:=q.fault f (aR hf); unfold ew at C; split at C<;>omega)).symm|exact cB (bE (fun q=>by have A:=q.g8 _ p hp; have C:=A.id; have H:=A.lj; have J:=A.gf; have K:=A.fault; simp only [q9] at H; first|omega|(have V:=A.up AA I L; omega))).symm|exact cB (bE (fun q=>by obtain ⟨R,G,AB,T⟩:=(q.g8 _ p hp).jJ; rw [F] at G; cases G; first|exact E AB|exact h148 AB|omega)).symm|exact cB (dx ⟨I,dN D I,I,I,I,fun i p hi=>B i p (by have:=(aW.1 hi).1; omega) hi⟩).symm
 refine eQ 2 [] (mc 0 U mn) U<|rS (CL (jd j.fX 0 60) (aO) U)<|rP 3 [] mn ?_
 refine b_ (t:=18) U (bq fun h7=>?_) (br fun h7=>?_)
 ·refine bD 11 U<|RK a<|aS U<|WS fun _ NE=>rP 1 [] mn ?_
  refine RK NE<|aq<|Q1 hQ U U U ?_
  first|exact cB (bE (fun q=>by have C:=q.nf; have H:=q.min_; have J:=q.sK; have K:=q.np; omega)).symm|exact cB (bE (fun q=>by have C:=q.fault f (aR hf); unfold ew at C; split at C<;>omega)).symm|exact cB (bE (fun q=>by have A:=q.g8 _ p hp; have C:=A.id; have H:=A.lj; have J:=A.gf; have K:=A.fault; simp only [q9] at H; first|omega|(have V:=A.up AA I L; omega))).symm|exact cB (bE (fun q=>by obtain ⟨R,G,AB,T⟩:=(q.g8 _ p hp).jJ; rw [F] at G; cases G; first|exact E AB|exact h148 AB|omega)).symm|exact cB (dx ⟨I,dN D I,I,I,I,fun i p hi=>B i p (by have:=(aW.1 hi).1; omega) hi⟩).symm
 refine eQ 2 [] (mc 0 U mn) U<|rS (CL (jd j.yA 0 100000) (aO) U)<|rP 3 [] mn ?_
 refine b_ (t:=24) U (bq fun h9=>?_) (br fun h9=>?_)
 ·refine bD 5 U<|RK a<|aS U<|WS fun _ s=>rP 1 [] mn ?_
  refine RK s<|aq<|Q1 hQ U U U ?_
  first|exact cB (bE (fun q=>by have C:=q.nf; have H:=q.min_; have J:=q.sK; have K:=q.np; omega)).symm|exact cB (bE (fun q=>by have C:=q.fault f (aR hf); unfold ew at C; split at C<;>omega)).symm|exact cB (bE (fun q=>by have A:=q.g8 _ p hp; have C:=A.id; have H:=A.lj; have J:=A.gf; have K:=A.fault; simp only [q9] at H; first|omega|(have V:=A.up AA I L; omega))).symm|exact cB (bE (fun q=>by obtain ⟨R,G,AB,T⟩:=(q.g8 _ p hp).jJ; rw [F] at G; cases G; first|exact E AB|exact h148 AB|omega)).symm|exact cB (dx ⟨I,dN D I,I,I,I,fun i p hi=>B i p (by have:=(aW.1 hi).1; omega) hi⟩).symm
 refine rP 5 [] (mc 0 U mn) ?_
 refine RK a<|cx U (aU fun Jf=>?_) (aT fun Jf=>?_)
 ·refine WS fun _ u=>rP 1 [] mn ?_
  refine RK u<|aq<|Q1 hQ U U U ?_
  first|exact cB (bE (fun q=>by have C:=q.nf; have H:=q.min_; have J:=q.sK; have K:=q.np; omega)).symm|exact cB (bE (fun q=>by have C:=q.fault f (aR hf); unfold ew at C; split at C<;>omega)).symm|exact cB (bE (fun q=>by have A:=q.g8 _ p hp; have C:=A.id; have H:=A.lj; have J:=A.gf; have K:=A.fault; simp only [q9] at H; first|omega|(have V:=A.up AA I L; omega))).symm|exact cB (bE (fun q=>by obtain ⟨R,G,AB,T⟩:=(q.g8 _ p hp).jJ; rw [F] at G; cases G; first|exact E AB|exact h148 AB|omega)).symm|exact cB (dx ⟨I,dN D I,I,I,I,fun i p hi=>B i p (by have:=(aW.1 hi).1; omega) hi⟩).symm
 refine WK Mu<|ak fun _ v=>WS fun _ w=>rP 1 [] mn ?_
 refine RK w<|aH ?_
 have S:(0≤j.ay.length)∧(o6 j 0):=by exact ⟨Nat.zero_le _,Be⟩
 refine bY (ι:={z:Nat // (z≤j.ay.length)∧(o6 j z)}) [1] [0,1,2,3,4,5,6,7,8,9,10] U U (fun z=>[(3,(vI (z.1:Int)))]) (fun z=>[]) (fun _=>rfl) (fun _=>rfl) (fun z=>j.ay.length-z.1) ⟨0,S⟩ (bB U) (aQ [0,1,2,3,4,5,6,7,8,9,10]) ?_
 clear S
 rintro ⟨i,⟨Np,D⟩⟩ J15 W
 try dsimp only
 refine ak fun _ x=>WS fun _ y=>rP 5 [] (mc 0 U mn) ?_
 refine RK y<|cx U (aU fun Jx=>?_) (aT fun Jx=>?_)
 ·refine WK x<|ak fun _ X=>aH<|WS fun _ AC=>rP 3 [] (mc 0 U mn) ?_
  obtain ⟨f,hf⟩:=aL j.ay i I
  have Ne:=bM aM.cells hf
  refine rS (IA i U (aA 9 U) wi dc I I)<|rS (lx i 0 (aM.cells f) U cj (aA 9 U) Ne U dc U U)<|AL U NY fun O8=>fG U Pj U<|RK AC<|ak fun _ AD=>WS fun _ c=>eQ 4 [] (mc 0 U mn) U<|rS (CL (jd f.gu 0 f.To) (aO) U)<|rP 2 [] mn ?_
  refine b_ (t:=48) U (bq fun J3=>?_) (br fun J3=>?_)
  ·refine bD 4 U<|RK c<|aS U<|WS fun _ AF=>rP 1 [] mn ?_
   refine RK AF<|aq<|Q1 hQ U U U ?_
   first|exact cB (bE (fun q=>by have C:=q.nf; have H:=q.min_; have J:=q.sK; have K:=q.np; omega)).symm|exact cB (bE (fun q=>by have C:=q.fault f (aR hf); unfold ew at C; split at C<;>omega)).symm|exact cB (bE (fun q=>by have A:=q.g8 _ p hp; have C:=A.id; have H:=A.lj; have J:=A.gf; have K:=A.fault; simp only [q9] at H; first|omega|(have V:=A.up AA I L; omega))).symm|exact cB (bE (fun q=>by obtain ⟨R,G,AB,T⟩:=(q.g8 _ p hp).jJ; rw [F] at G; cases G; first|exact E AB|exact h148 AB|omega)).symm|exact cB (dx ⟨I,dN D I,I,I,I,fun i p hi=>B i p (by have:=(aW.1 hi).1; omega) hi⟩).symm
  refine rP 4 [] (mc 0 U mn) ?_
  refine RK c<|cx U (aU fun J4=>?_) (aT fun J4=>?_)
  ·refine WS fun _ AO=>rP 1 [] mn ?_
   refine RK AO<|aq<|Q1 hQ U U U ?_
   first|exact cB (bE (fun q=>by have C:=q.nf; have H:=q.min_; have J:=q.sK; have K:=q.np; omega)).symm|exact cB (bE (fun q=>by have C:=q.fault f (aR hf); unfold ew at C; split at C<;>omega)).symm|exact cB (bE (fun q=>by have A:=q.g8 _ p hp; have C:=A.id; have H:=A.lj; have J:=A.gf; have K:=A.fault; simp only [q9] at H; first|omega|(have V:=A.up AA I L; omega))).symm|exact cB (bE (fun q=>by obtain ⟨R,G,AB,T⟩:=(q.g8 _ p hp).jJ; rw [F] at G; cases G; first|exact E AB|exact h148 AB|omega)).symm|exact cB (dx ⟨I,dN D I,I,I,I,fun i p hi=>B i p (by have:=(aW.1 hi).1; omega) hi⟩).symm
  refine WK AD<|WS fun _ Ay=>eQ 2 [] (mc 0 U mn) U<|RK Ay<|aH<|WS fun _ A0=>rS (BI U lE)<|rP 1 [] mn ?_
  refine RK A0<|cx U (aU fun J5=>?_) (aT fun J5=>?_)
  ·refine WS fun _ A1=>rP 3 [] (mc 0 U mn) ?_
   refine RK A1<|bW U (br fun J6=>?_) (bq fun J6=>?_)
   ·refine cf<|aN<|aN<|KK X<|au<|rP 3 [] mn ?_
    refine aF ?_
    have Hi:(vI (((i+1):Nat):Int))=(vI ((i:Int)+1)):=by exact cI I
    refine bg (W ⟨(i+1),⟨I,qD D hf (by refine ⟨I,I,I,?_⟩; split<;>omega)⟩⟩ _ _ _ U os (dh.cons U<|bf U Hi<|dh.nil _) (aQ [1,2,3,4,5,6,7,8,9,10,11]))
   refine WS fun _ A2=>rP 1 [] mn ?_
   refine RK A2<|aq<|Q1 hQ U U U ?_
   first|exact cB (bE (fun q=>by have C:=q.nf; have H:=q.min_; have J:=q.sK; have K:=q.np; omega)).symm|exact cB (bE (fun q=>by have C:=q.fault f (aR hf); unfold ew at C; split at C<;>omega)).symm|exact cB (bE (fun q=>by have A:=q.g8 _ p hp; have C:=A.id; have H:=A.lj; have J:=A.gf; have K:=A.fault; simp only [q9] at H; first|omega|(have V:=A.up AA I L; omega))).symm|exact cB (bE (fun q=>by obtain ⟨R,G,AB,T⟩:=(q.g8 _ p hp).jJ; rw [F] at G; cases G; first|exact E AB|exact h148 AB|omega)).symm|exact cB (dx ⟨I,dN D I,I,I,I,fun i p hi=>B i p (by have:=(aW.1 hi).1; omega) hi⟩).symm
  refine ak fun _ e=>WS fun _ A3=>rS (BI U lE)<|rP 1 [] mn ?_
  refine RK A3<|cx U (aU fun J7=>?_) (aT fun J7=>?_)
  ·refine WK e<|bW U (aT fun J8=>?_) (aU fun J8=>?_)
   ·refine WS fun _ A6=>rP 1 [] mn ?_
    refine RK A6<|aq<|Q1 hQ U U U ?_
    first|exact cB (bE (fun q=>by have C:=q.nf; have H:=q.min_; have J:=q.sK; have K:=q.np; omega)).symm|exact cB (bE (fun q=>by have C:=q.fault f (aR hf); unfold ew at C; split at C<;>omega)).symm|exact cB (bE (fun q=>by have A:=q.g8 _ p hp; have C:=A.id; have H:=A.lj; have J:=A.gf; have K:=A.fault; simp only [q9] at H; first|omega|(have V:=A.up AA I L; omega))).symm|exact cB (bE (fun q=>by obtain ⟨R,G,AB,T⟩:=(q.g8 _ p hp).jJ; rw [F] at G; cases G; first|exact E AB|exact h148 AB|omega)).symm|exact cB (dx ⟨I,dN D I,I,I,I,fun i p hi=>B i p (by have:=(aW.1 hi).1; omega) hi⟩).symm
   refine WS fun _ A4=>eQ 6 [0,1] (mc 0 U (mc 1 U mn)) U<|rS (CL (jd f.eL 0 j.Race.ar.bS) (aO) U)<|rP 1 [] mn ?_
   refine RK A4<|bW U (br fun J9=>?_) (bq fun J9=>?_)
   ·refine cf<|aN<|aN<|KK X<|au<|rP 3 [] mn ?_
    refine aF ?_
    have H1:(vI (((i+1):Nat):Int))=(vI ((i:Int)+1)):=by exact cI I
    refine bg (W ⟨(i+1),⟨I,qD D hf (by refine ⟨I,I,I,?_⟩; split<;>omega)⟩⟩ _ _ _ U os (dh.cons U<|bf U H1<|dh.nil _) (aQ [1,2,3,4,5,6,7,8,9,10,11]))
   refine WS fun _ A5=>rP 1 [] mn ?_
   refine RK A5<|aq<|Q1 hQ U U U ?_
   first|exact cB (bE (fun q=>by have C:=q.nf; have H:=q.min_; have J:=q.sK; have K:=q.np; omega)).symm|exact cB (bE (fun q=>by have C:=q.fault f (aR hf); unfold ew at C; split at C<;>omega)).symm|exact cB (bE (fun q=>by have A:=q.g8 _ p hp; have C:=A.id; have H:=A.lj; have J:=A.gf; have K:=A.fault; simp only [q9] at H; first|omega|(have V:=A.up AA I L; omega))).symm|exact cB (bE (fun q=>by obtain ⟨R,G,AB,T⟩:=(q.g8 _ p hp).jJ; rw [F] at G; cases G; first|exact E AB|exact h148 AB|omega)).symm|exact cB (dx ⟨I,dN D I,I,I,I,fun i p hi=>B i p (by have:=(aW.1 hi).1; omega) hi⟩).symm
  refine au<|rS (BI U lE)<|rP 1 [] mn ?_
  refine RK e<|bW U (aT fun Km=>?_) (aU fun Km=>?_)
  ·refine WS fun _ A9=>rP 1 [] mn ?_
   refine RK A9<|aq<|Q1 hQ U U U ?_
   first|exact cB (bE (fun q=>by have C:=q.nf; have H:=q.min_; have J:=q.sK; have K:=q.np; omega)).symm|exact cB (bE (fun q=>by have C:=q.fault f (aR hf); unfold ew at C; split at C<;>omega)).symm|exact cB (bE (fun q=>by have A:=q.g8 _ p hp; have C:=A.id; have H:=A.lj; have J:=A.gf; have K:=A.fault; simp only [q9] at H; first|omega|(have V:=A.up AA I L; omega))).symm|exact cB (bE (fun q=>by obtain ⟨R,G,AB,T⟩:=(q.g8 _ p hp).jJ; rw [F] at G; cases G; first|exact E AB|exact h148 AB|omega)).symm|exact cB (dx ⟨I,dN D I,I,I,I,fun i p hi=>B i p (by have:=(aW.1 hi).1; omega) hi⟩).symm
  refine WS fun _ A7=>eQ 6 [0,1] (mc 0 U (mc 1 U mn)) U<|rS (CL (jd f.eL 0 j.Race.ar.bS) (aO) U)<|rP 1 [] mn ?_
  refine RK A7<|bW U (br fun K0=>?_) (bq fun K0=>?_)
  ·refine cf<|aN<|aN<|KK X<|au<|rP 3 [] mn ?_
   refine aF ?_
   have IB:(vI (((i+1):Nat):Int))=(vI ((i:Int)+1)):=by exact cI I
   refine bg (W ⟨(i+1),⟨I,qD D hf (by refine ⟨I,I,I,?_⟩; split<;>omega)⟩⟩ _ _ _ U os (dh.cons U<|bf U IB<|dh.nil _) (aQ [1,2,3,4,5,6,7,8,9,10,11]))
  refine WS fun _ A8=>rP 1 [] mn ?_
  refine RK A8<|aq<|Q1 hQ U U U ?_
  first|exact cB (bE (fun q=>by have C:=q.nf; have H:=q.min_; have J:=q.sK; have K:=q.np; omega)).symm|exact cB (bE (fun q=>by have C:=q.fault f (aR hf); unfold ew at C; split at C<;>omega)).symm|exact cB (bE (fun q=>by have A:=q.g8 _ p hp; have C:=A.id; have H:=A.lj; have J:=A.gf; have K:=A.fault; simp only [q9] at H; first|omega|(have V:=A.up AA I L; omega))).symm|exact cB (bE (fun q=>by obtain ⟨R,G,AB,T⟩:=(q.g8 _ p hp).jJ; rw [F] at G; cases G; first|exact E AB|exact h148 AB|omega)).symm|exact cB (dx ⟨I,dN D I,I,I,I,fun i p hi=>B i p (by have:=(aW.1 hi).1; omega) hi⟩).symm
 refine bP<|ai<|ai<|aJ<|KK v<|ak fun _ Bp=>WS fun _ B3=>rP 1 [] mn ?_
 refine RK B3<|aH ?_
 have S:(0≤j.aD.length)∧(ot j 0):=by exact ⟨Nat.zero_le _,yp⟩
 refine bY (ι:={z:Nat // (z≤j.aD.length)∧(ot j z)}) [1] [0,1,2,3,4,5,6,7,8,9,10] U U (fun z=>[(5,(vI (z.1:Int)))]) (fun z=>[]) (fun _=>rfl) (fun _=>rfl) (fun z=>j.aD.length-z.1) ⟨0,S⟩ (bB U) (aQ [0,1,2,3,4,5,6,7,8,9,10]) ?_
 clear S
 rintro ⟨k,⟨In,B⟩⟩ J52 b
 try dsimp only
 refine ak fun _ B9=>WS fun _ Ci=>rP 5 [] (mc 0 U mn) ?_
 refine RK Ci<|bW U (aT fun K4=>?_) (aU fun K4=>?_)
 ·refine bP<|ai<|ai<|aJ<|KK Bp<|WS fun _ Fn=>rP 1 [] mn ?_
  refine RK Fn<|aq<|Q1 hQ U U U ?_
  first|exact cB (bE (fun q=>by have C:=q.nf; have H:=q.min_; have J:=q.sK; have K:=q.np; omega)).symm|exact cB (bE (fun q=>by have C:=q.fault f (aR hf); unfold ew at C; split at C<;>omega)).symm|exact cB (bE (fun q=>by have A:=q.g8 _ p hp; have C:=A.id; have H:=A.lj; have J:=A.gf; have K:=A.fault; simp only [q9] at H; first|omega|(have V:=A.up AA I L; omega))).symm|exact cB (bE (fun q=>by obtain ⟨R,G,AB,T⟩:=(q.g8 _ p hp).jJ; rw [F] at G; cases G; first|exact E AB|exact h148 AB|omega)).symm|exact cB (dx ⟨I,dN D I,I,I,I,fun i p hi=>B i p (by have:=(aW.1 hi).1; omega) hi⟩).symm
 refine WK B9<|ak fun _ g=>aH<|WS fun _ Ck=>rP 3 [] (mc 0 U mn) ?_
 obtain ⟨p,hp⟩:=aL j.aD k I
 have Op:=bM aX.cells hp
 refine rS (IA k U (aA 10 U) Bq dc I I)<|rS (lx k 0 (aX.cells p) U cj (aA 10 U) Op U dc U U)<|AL U Mp fun PB=>fG U QF U<|RK Ck<|ak fun _ h=>ak fun _ P=>dp ct 52 kr<|lU 2 [] (mc 0 U mn) U<|dS (CL (jd p.Id 0 9999) (aO) U)<|dP 2 [] mn ?_
 refine g_ (t:=87) U (bq fun K5=>?_) (br fun K5=>?_)
 ·refine kX 47 U<|cK<|RK P<|aS U<|WS fun _ Cp=>rP 1 [] mn ?_
  refine RK Cp<|aq<|Q1 hQ U U U ?_
  first|exact cB (bE (fun q=>by have C:=q.nf; have H:=q.min_; have J:=q.sK; have K:=q.np; omega)).symm|exact cB (bE (fun q=>by have C:=q.fault f (aR hf); unfold ew at C; split at C<;>omega)).symm|exact cB (bE (fun q=>by have A:=q.g8 _ p hp; have C:=A.id; have H:=A.lj; have J:=A.gf; have K:=A.fault; simp only [q9] at H; omega)).symm|exact cB (bE (fun q=>by obtain ⟨R,G,AB,T⟩:=(q.g8 _ p hp).jJ; rw [F] at G; cases G; first|exact E AB|exact h148 AB|omega)).symm|exact cB (dx ⟨I,dN D I,I,I,I,fun i p hi=>B i p (by have:=(aW.1 hi).1; omega) hi⟩).symm
 refine dP 3 [] mn ?_
 refine jy (t:=90) U (aT fun K8=>?_) (aU fun K8=>?_)
 ·refine lU 20 [0,1] (mc 0 U (mc 1 U mn)) U<|dS (CL (jd p.iM 0 ((j.Race.aY.length:Int)-1)) (aO) U)<|dP 3 [] mn ?_
  refine g_ (t:=114) U (bq fun Lk=>?_) (br fun Lk=>?_)
  ·refine kX 20 U<|cK<|RK P<|aS U<|WS fun _ Do=>rP 1 [] mn ?_
   refine RK Do<|aq<|Q1 hQ U U U ?_
   first|exact cB (bE (fun q=>by have C:=q.nf; have H:=q.min_; have J:=q.sK; have K:=q.np; omega)).symm|exact cB (bE (fun q=>by have C:=q.fault f (aR hf); unfold ew at C; split at C<;>omega)).symm|exact cB (bE (fun q=>by have A:=q.g8 _ p hp; have C:=A.id; have H:=A.lj; have J:=A.gf; have K:=A.fault; simp only [q9] at H; omega)).symm|exact cB (bE (fun q=>by obtain ⟨R,G,AB,T⟩:=(q.g8 _ p hp).jJ; rw [F] at G; cases G; first|exact E AB|exact h148 AB|omega)).symm|exact cB (dx ⟨I,dN D I,I,I,I,fun i p hi=>B i p (by have:=(aW.1 hi).1; omega) hi⟩).symm
  refine lU 7 [0,1] (mc 0 U (mc 1 U mn)) U<|dS (CL (jd p.jm 0 ((j.Race.aB.length:Int)-1)) (aO) U)<|dP 3 [] mn ?_
  refine g_ (t:=125) U (bq fun Lo=>?_) (br fun Lo=>?_)
  ·refine kX 9 U<|cK<|RK P<|aS U<|WS fun _ EQ=>rP 1 [] mn ?_
   refine RK EQ<|aq<|Q1 hQ U U U ?_
   first|exact cB (bE (fun q=>by have C:=q.nf; have H:=q.min_; have J:=q.sK; have K:=q.np; omega)).symm|exact cB (bE (fun q=>by have C:=q.fault f (aR hf); unfold ew at C; split at C<;>omega)).symm|exact cB (bE (fun q=>by have A:=q.g8 _ p hp; have C:=A.id; have H:=A.lj; have J:=A.gf; have K:=A.fault; simp only [q9] at H; omega)).symm|exact cB (bE (fun q=>by obtain ⟨R,G,AB,T⟩:=(q.g8 _ p hp).jJ; rw [F] at G; cases G; first|exact E AB|exact h148 AB|omega)).symm|exact cB (dx ⟨I,dN D I,I,I,I,fun i p hi=>B i p (by have:=(aW.1 hi).1; omega) hi⟩).symm
  refine lU 6 [0,1] (mc 0 U (mc 1 U mn)) U<|dS (CL (jd p.jU 0 ((j.ay.length:Int)-1)) (aO) U)<|dP 2 [] mn ?_
  refine cK<|RK P<|cx U (bq fun L0=>?_) (br fun L0=>?_)
  ·refine WS fun _ Eq=>rP 1 [] mn ?_
   refine RK Eq<|aq<|Q1 hQ U U U ?_
   first|exact cB (bE (fun q=>by have C:=q.nf; have H:=q.min_; have J:=q.sK; have K:=q.np; omega)).symm|exact cB (bE (fun q=>by have C:=q.fault f (aR hf); unfold ew at C; split at C<;>omega)).symm|exact cB (bE (fun q=>by have A:=q.g8 _ p hp; have C:=A.id; have H:=A.lj; have J:=A.gf; have K:=A.fault; simp only [q9] at H; omega)).symm|exact cB (bE (fun q=>by obtain ⟨R,G,AB,T⟩:=(q.g8 _ p hp).jJ; rw [F] at G; cases G; first|exact E AB|exact h148 AB|omega)).symm|exact cB (dx ⟨I,dN D I,I,I,I,fun i p hi=>B i p (by have:=(aW.1 hi).1; omega) hi⟩).symm
  refine WK h<|ak fun _ FS=>dA ct [11,12] [] [] [0,1,2,3,4,5,6,7,8,9,10,11] [] U U U U U<|eS U (FA 0 U fj U)<|eS U (FA 10 U fj U)<|eS U (L1 (vS heA j.Race.aB.length heC) 1 U cj U U)<|eS U (FA 2 U fj U)<|eS U (L1 (vI p.jm) 0 U cj U U) ?_
  obtain ⟨ht,O⟩:=aL j.Race.aB ((p.jm).toNat) I
  obtain ⟨M,N⟩:=aL ha ((p.jm).toNat) I
  have Z:(List.zipWith cL j.Race.aB ha)[(p.jm).toNat]? =some (cL ht M):=dy O N
  refine eS U (IA ((p.jm).toNat) U (aA 8 U) oh dc I I) ?_
  have Y:=n.gf _ _ _ O N
  have IO:=Y.og
  have IR:=(If.gf ht (aR O)).1
  refine eS U (g6 ((p.jm).toNat) 0 (vS M.1.1 ht.length M.1.2) U cj (aA 8 U) Z U dc U)<|eS U (FA 1 U fj U)<|eS U (L1 (vI p.iM) 0 U cj U U) ?_
  obtain ⟨d,hd⟩:=aL ht ((p.iM).toNat) I
  obtain ⟨da,o⟩:=aL M.2 ((p.iM).toNat) I
  have r:(List.zipWith av.cells ht M.2)[(p.iM).toNat]? =some (av.cells d da):=dy hd o
  refine eS U (IA ((p.iM).toNat) U (show iK _ (rd M.1.1 ht.length 7 (List.zipWith av.cells ht M.2)).holds from (cO 9 U (bK O N cy))) qJ dc I I) ?_
  have F:=po (j:=j) (p:=p) O hd
  have Or:=Y.sig d (aR hd)
  refine eS U (lx ((p.iM).toNat) 0 (aP.cells (aP.mk d.Out d.dj d.Time (cz.mk d.a_.Start d.a_.fR (bH.mk da.1 d.a_.aa.length da.2)))) U cj (show iK _ (rd M.1.1 ht.length 7 (List.zipWith av.cells ht M.2)).holds from (cO 9 U (bK O N cy))) r U dc U U)<|eh U<|cd U fun T88 Go=>AL U Aa fun PT=>aF (Go _ _ (aQ [1,2,3,4,5,6,7,8,9,10,11,12]) ?_)
  refine cd U fun T90 Hh=>fG U DC U<|aF (Hh _ _ (aQ [1,2,3,4,5,6,7,8,9,10,11,12]) ?_)
  refine fp U<|KK FS<|WS fun _ m=>eQ 1 [] (mc 0 U mn) U<|rS (CL (Fm d.Out d.dj d.Time (cz.mk d.a_.Start d.a_.fR (bH.mk da.1 d.a_.aa.length da.2))) (aO) U)<|rP 2 [] mn ?_
  refine b_ (t:=149) U (bq fun E=>?_) (br fun E=>?_)
  ·refine bD 8 U<|RK m<|aS U<|WS fun _ FV=>rP 1 [] mn ?_
   refine RK FV<|aq<|Q1 hQ U U U ?_
   first|exact cB (bE (fun q=>by have C:=q.nf; have H:=q.min_; have J:=q.sK; have K:=q.np; omega)).symm|exact cB (bE (fun q=>by have C:=q.fault f (aR hf); unfold ew at C; split at C<;>omega)).symm|exact cB (bE (fun q=>by have A:=q.g8 _ p hp; have C:=A.id; have H:=A.lj; have J:=A.gf; have K:=A.fault; simp only [q9] at H; first|omega|(have V:=A.up AA I L; omega))).symm|exact cB (bE (fun q=>by obtain ⟨R,G,AB,T⟩:=(q.g8 _ p hp).jJ; rw [F] at G; cases G; exact E AB)).symm|exact cB (dx ⟨I,dN D I,I,I,I,fun i p hi=>B i p (by have:=(aW.1 hi).1; omega) hi⟩).symm
  refine eQ 5 [0,1] (mc 1 U (mc 0 U mn)) U<|rS (CL (jd p.At d.a_.Start 86400000) (aO) U)<|rP 2 [] mn ?_
  refine RK m<|bW U (br fun L2=>?_) (bq fun L2=>?_)
  ·refine cf<|aN<|KK g<|au<|rP 3 [] mn ?_
   refine aF ?_
   have IL:(vI (((k+1):Nat):Int))=(vI ((k:Int)+1)):=by exact cI I
   refine bg (b ⟨(k+1),⟨I,tn B hp ⟨I,fun q h1 h2=>by omega,by simp only [q9]; omega,I,I,d,F,by first|exact E|exact h148,I⟩⟩⟩ _ _ _ U os (dh.cons U<|bf U IL<|dh.nil _) (aQ [2,3,4,5,6,7,8,9,10,11,12]))
  refine WS fun _ Fd=>rP 1 [] mn ?_
  refine RK Fd<|aq<|Q1 hQ U U U ?_
  first|exact cB (bE (fun q=>by have C:=q.nf; have H:=q.min_; have J:=q.sK; have K:=q.np; omega)).symm|exact cB (bE (fun q=>by have C:=q.fault f (aR hf); unfold ew at C; split at C<;>omega)).symm|exact cB (bE (fun q=>by have A:=q.g8 _ p hp; have C:=A.id; have H:=A.lj; have J:=A.gf; have K:=A.fault; simp only [q9] at H; first|omega|(have V:=A.up AA I L; omega))).symm|exact cB (bE (fun q=>by obtain ⟨R,G,AB,T⟩:=(q.g8 _ p hp).jJ; rw [F] at G; cases G; omega)).symm|exact cB (dx ⟨I,dN D I,I,I,I,fun i p hi=>B i p (by have:=(aW.1 hi).1; omega) hi⟩).symm
 refine dP 6 [0,1] (mc 0 U (mc 1 U mn)) ?_
 obtain ⟨AA,L⟩:=aL j.aD (k-1) I
 have hp0m:=bM aX.cells L
 refine dS (IA (k-1) U (aA 11 U) Bq dc I I)<|dS (o9 ((k-1)*5) U (aA 11 U) (Nat.mul_pos I dc) fj U)<|dS (g6 (k-1) 0 (vI AA.Id) U cj (aA 11 U) hp0m U dc U)<|dP 4 [] mn ?_
 refine g_ (t:=103) U (aU fun LA=>?_) (aT fun LA=>?_)
 ·refine kX 31 U<|cK<|RK P<|aS U<|WS fun _ Cx=>rP 1 [] mn ?_
  refine RK Cx<|aq<|Q1 hQ U U U ?_
  first|exact cB (bE (fun q=>by have C:=q.nf; have H:=q.min_; have J:=q.sK; have K:=q.np; omega)).symm|exact cB (bE (fun q=>by have C:=q.fault f (aR hf); unfold ew at C; split at C<;>omega)).symm|exact cB (bE (fun q=>by have A:=q.g8 _ p hp; have C:=A.id; have H:=A.lj; have J:=A.gf; have K:=A.fault; simp only [q9] at H; (have V:=A.up AA I L; omega))).symm|exact cB (bE (fun q=>by obtain ⟨R,G,AB,T⟩:=(q.g8 _ p hp).jJ; rw [F] at G; cases G; first|exact E AB|exact h148 AB|omega)).symm|exact cB (dx ⟨I,dN D I,I,I,I,fun i p hi=>B i p (by have:=(aW.1 hi).1; omega) hi⟩).symm
 refine lU 7 [0,1] (mc 0 U (mc 1 U mn)) U<|dS (CL (jd p.iM 0 ((j.Race.aY.length:Int)-1)) (aO) U)<|dP 3 [] mn ?_
 refine g_ (t:=114) U (bq fun LE=>?_) (br fun LE=>?_)
 ·refine kX 20 U<|cK<|RK P<|aS U<|WS fun _ C0=>rP 1 [] mn ?_
  refine RK C0<|aq<|Q1 hQ U U U ?_
  first|exact cB (bE (fun q=>by have C:=q.nf; have H:=q.min_; have J:=q.sK; have K:=q.np; omega)).symm|exact cB (bE (fun q=>by have C:=q.fault f (aR hf); unfold ew at C; split at C<;>omega)).symm|exact cB (bE (fun q=>by have A:=q.g8 _ p hp; have C:=A.id; have H:=A.lj; have J:=A.gf; have K:=A.fault; simp only [q9] at H; omega)).symm|exact cB (bE (fun q=>by obtain ⟨R,G,AB,T⟩:=(q.g8 _ p hp).jJ; rw [F] at G; cases G; first|exact E AB|exact h148 AB|omega)).symm|exact cB (dx ⟨I,dN D I,I,I,I,fun i p hi=>B i p (by have:=(aW.1 hi).1; omega) hi⟩).symm
 refine lU 7 [0,1] (mc 0 U (mc 1 U mn)) U<|dS (CL (jd p.jm 0 ((j.Race.aB.length:Int)-1)) (aO) U)<|dP 3 [] mn ?_
 refine g_ (t:=125) U (bq fun LT=>?_) (br fun LT=>?_)
 ·refine kX 9 U<|cK<|RK P<|aS U<|WS fun _ C1=>rP 1 [] mn ?_
  refine RK C1<|aq<|Q1 hQ U U U ?_
  first|exact cB (bE (fun q=>by have C:=q.nf; have H:=q.min_; have J:=q.sK; have K:=q.np; omega)).symm|exact cB (bE (fun q=>by have C:=q.fault f (aR hf); unfold ew at C; split at C<;>omega)).symm|exact cB (bE (fun q=>by have A:=q.g8 _ p hp; have C:=A.id; have H:=A.lj; have J:=A.gf; have K:=A.fault; simp only [q9] at H; omega)).symm|exact cB (bE (fun q=>by obtain ⟨R,G,AB,T⟩:=(q.g8 _ p hp).jJ; rw [F] at G; cases G; first|exact E AB|exact h148 AB|omega)).symm|exact cB (dx ⟨I,dN D I,I,I,I,fun i p hi=>B i p (by have:=(aW.1 hi).1; omega) hi⟩).symm
 refine lU 6 [0,1] (mc 0 U (mc 1 U mn)) U<|dS (CL (jd p.jU 0 ((j.ay.length:Int)-1)) (aO) U)<|dP 2 [] mn ?_
 refine cK<|RK P<|cx U (bq fun La=>?_) (br fun La=>?_)
 ·refine WS fun _ C2=>rP 1 [] mn ?_
  refine RK C2<|aq<|Q1 hQ U U U ?_
  first|exact cB (bE (fun q=>by have C:=q.nf; have H:=q.min_; have J:=q.sK; have K:=q.np; omega)).symm|exact cB (bE (fun q=>by have C:=q.fault f (aR hf); unfold ew at C; split at C<;>omega)).symm|exact cB (bE (fun q=>by have A:=q.g8 _ p hp; have C:=A.id; have H:=A.lj; have J:=A.gf; have K:=A.fault; simp only [q9] at H; omega)).symm|exact cB (bE (fun q=>by obtain ⟨R,G,AB,T⟩:=(q.g8 _ p hp).jJ; rw [F] at G; cases G; first|exact E AB|exact h148 AB|omega)).symm|exact cB (dx ⟨I,dN D I,I,I,I,fun i p hi=>B i p (by have:=(aW.1 hi).1; omega) hi⟩).symm
 refine WK h<|ak fun _ C3=>dA ct [11,12] [] [] [0,1,2,3,4,5,6,7,8,9,10,11] [] U U U U U<|eS U (FA 0 U fj U)<|eS U (FA 10 U fj U)<|eS U (L1 (vS heA j.Race.aB.length heC) 1 U cj U U)<|eS U (FA 2 U fj U)<|eS U (L1 (vI p.jm) 0 U cj U U) ?_
 obtain ⟨ht,O⟩:=aL j.Race.aB ((p.jm).toNat) I
 obtain ⟨M,N⟩:=aL ha ((p.jm).toNat) I
 have Z:(List.zipWith cL j.Race.aB ha)[(p.jm).toNat]? =some (cL ht M):=dy O N
 refine eS U (IA ((p.jm).toNat) U (aA 8 U) oh dc I I) ?_
 have Y:=n.gf _ _ _ O N
 have IO:=Y.og
 have IR:=(If.gf ht (aR O)).1
 refine eS U (g6 ((p.jm).toNat) 0 (vS M.1.1 ht.length M.1.2) U cj (aA 8 U) Z U dc U)<|eS U (FA 1 U fj U)<|eS U (L1 (vI p.iM) 0 U cj U U) ?_
 obtain ⟨d,hd⟩:=aL ht ((p.iM).toNat) I
 obtain ⟨da,o⟩:=aL M.2 ((p.iM).toNat) I
 have r:(List.zipWith av.cells ht M.2)[(p.iM).toNat]? =some (av.cells d da):=dy hd o
 refine eS U (IA ((p.iM).toNat) U (show iK _ (rd M.1.1 ht.length 7 (List.zipWith av.cells ht M.2)).holds from (cO 9 U (bK O N cy))) qJ dc I I) ?_
 have F:=po (j:=j) (p:=p) O hd
 have Or:=Y.sig d (aR hd)
 refine eS U (lx ((p.iM).toNat) 0 (aP.cells (aP.mk d.Out d.dj d.Time (cz.mk d.a_.Start d.a_.fR (bH.mk da.1 d.a_.aa.length da.2)))) U cj (show iK _ (rd M.1.1 ht.length 7 (List.zipWith av.cells ht M.2)).holds from (cO 9 U (bK O N cy))) r U dc U U)<|eh U<|cd U fun T73 GE=>AL U Aa fun PP=>aF (GE _ _ (aQ [1,2,3,4,5,6,7,8,9,10,11,12]) ?_)
 refine cd U fun T75 GT=>fG U DC U<|aF (GT _ _ (aQ [1,2,3,4,5,6,7,8,9,10,11,12]) ?_)
 refine fp U<|KK C3<|WS fun _ l=>eQ 1 [] (mc 0 U mn) U<|rS (CL (Fm d.Out d.dj d.Time (cz.mk d.a_.Start d.a_.fR (bH.mk da.1 d.a_.aa.length da.2))) (aO) U)<|rP 2 [] mn ?_
 refine b_ (t:=149) U (bq fun E=>?_) (br fun E=>?_)
 ·refine bD 8 U<|RK l<|aS U<|WS fun _ DS=>rP 1 [] mn ?_
  refine RK DS<|aq<|Q1 hQ U U U ?_
  first|exact cB (bE (fun q=>by have C:=q.nf; have H:=q.min_; have J:=q.sK; have K:=q.np; omega)).symm|exact cB (bE (fun q=>by have C:=q.fault f (aR hf); unfold ew at C; split at C<;>omega)).symm|exact cB (bE (fun q=>by have A:=q.g8 _ p hp; have C:=A.id; have H:=A.lj; have J:=A.gf; have K:=A.fault; simp only [q9] at H; first|omega|(have V:=A.up AA I L; omega))).symm|exact cB (bE (fun q=>by obtain ⟨R,G,AB,T⟩:=(q.g8 _ p hp).jJ; rw [F] at G; cases G; exact E AB)).symm|exact cB (dx ⟨I,dN D I,I,I,I,fun i p hi=>B i p (by have:=(aW.1 hi).1; omega) hi⟩).symm
 refine eQ 5 [0,1] (mc 1 U (mc 0 U mn)) U<|rS (CL (jd p.At d.a_.Start 86400000) (aO) U)<|rP 2 [] mn ?_
 refine RK l<|bW U (br fun Li=>?_) (bq fun Li=>?_)
 ·refine cf<|aN<|KK g<|au<|rP 3 [] mn ?_
  refine aF ?_
  have IC:(vI (((k+1):Nat):Int))=(vI ((k:Int)+1)):=by exact cI I
  refine bg (b ⟨(k+1),⟨I,tn B hp ⟨I,fun q h1 h2=>by (rw [L] at h2; cases h2; omega),by simp only [q9]; omega,I,I,d,F,by first|exact E|exact h148,I⟩⟩⟩ _ _ _ rfl os (dh.cons rfl<|bf rfl IC<|dh.nil _) (aQ [2,3,4,5,6,7,8,9,10,11,12]))
 refine WS fun _ Di=>rP 1 [] mn ?_
 refine RK Di<|aq<|Q1 hQ U U U ?_
 first|exact cB (bE (fun q=>by have C:=q.nf; have H:=q.min_; have J:=q.sK; have K:=q.np; omega)).symm|exact cB (bE (fun q=>by have C:=q.fault f (aR hf); unfold ew at C; split at C<;>omega)).symm|exact cB (bE (fun q=>by have A:=q.g8 _ p hp; have C:=A.id; have H:=A.lj; have J:=A.gf; have K:=A.fault; simp only [q9] at H; first|omega|(have V:=A.up AA I L; omega))).symm|exact cB (bE (fun q=>by obtain ⟨R,G,AB,T⟩:=(q.g8 _ p hp).jJ; rw [F] at G; cases G; omega)).symm|exact cB (dx ⟨I,dN D I,I,I,I,fun i p hi=>B i p (by have:=(aW.1 hi).1; omega) hi⟩).symm
end
section
open Go.RowKit
theorem Bo (j:cN) (kA:OA) (kC:Nat) (az:List RA) (cA:OA) (cC:Nat) (bA:OA) (bC:Nat) (slA:OA) (slC:Nat) (drA:OA) (drC:Nat) (ha:List cW) (heA:OA) (heC:Nat) (faA:OA) (faC:Nat) (prA:OA) (prC:Nat) (hin:gG j az ha):
 dG Tryz.prog 28 [(vA (fz.cells (nY j kA kC cA cC bA bC slA slC drA drC heA heC faA faC prA prC)))] [(rd kA j.Race.ar.aV.length 9 (j.Race.ar.aV.map ao.cells)),(rd cA j.Race.ar.aj.length 2 (List.zipWith aw.cells j.Race.ar.aj az)),(dR (bj aw.f_ j.Race.ar.aj az)),(rd bA j.Race.ar.ab.length 4 (j.Race.ar.ab.map bJ.cells)),(rd slA j.Race.aY.length 1 (j.Race.aY.map iC)),(rd drA j.Race.ck.length 1 (j.Race.ck.map iC)),(rd heA j.Race.aB.length 1 (List.zipWith cL j.Race.aB ha)),(dR (bj eY j.Race.aB ha)),(rd faA j.ay.length 4 (j.ay.map aM.cells)),(rd prA j.aD.length 5 (j.aD.map aX.cells))] (vI (dE j)):=by
 have O:=hin.race
 have L:=hin.race.line
 have R:=hin.race.ij
 have S:=hin.race.has
 have P:=hin.race.ic
 have M:=hin.nf
 have N:=hin.np
 refine bG kr Tryz.func28 U U fun AA Q hQ hN=>?_
 try dsimp only
 refine WS fun _ D=>eI U fun T=>bD 1 U<|RK D<|ak fun _ E=>WS fun _ F=>bD 1 U<|rS (LP (fB.cells (yx j.Race kA kC cA cC bA bC slA slC drA drC heA heC)) 0 U cj U U U)<|rS (CL (Hf j.Race kA kC az cA cC bA bC slA slC drA drC ha heA heC asm) (bu [1,2,3,4,5,6,7,8]) U)<|bD 1 U<|RK F<|WS fun _ G=>rP 2 [] mn ?_
 refine RK G<|cx U (bq fun C=>?_) (br fun C=>?_)
 ·refine WS fun _ H=>rP 2 [] mn ?_
  refine RK H<|aq<|Q1 hQ U U U ?_
  exact cI (yV C).symm
 refine WK E<|ak fun _ AB=>WS fun _ J=>eQ 1 [] (mc 0 U mn) U<|rS (CL (Gd j kA kC az cA cC bA bC slA slC drA drC ha heA heC faA faC prA prC hin asm) (bu [1,2,3,4,5,6,7,8,9,10]) U)<|rP 1 [] mn ?_
 refine RK J<|cx U (bq fun A=>?_) (br fun A=>?_)
 ·refine WS fun _ K=>rP 1 [] mn ?_
  refine RK K<|aq<|Q1 hQ U U U ?_
  exact cI (jI C A).symm
 refine WK AB<|WS fun _ B=>rP 1 [] mn ?_
 refine RK B<|aq<|Q1 hQ U U U ?_
 exact cI (ub C A).symm
end
section
open Go.RowKit
theorem pY (x y:Int):
 dG Tryz.prog 47 [(vI x),(vI y)] [] (vA (ag.cells (ag.mk x y))):=by
 refine bG kr Tryz.func47 U U fun D Q hQ hN=>?_
 try dsimp only
 refine WS fun _ A=>AL U dV fun C=>RK A<|WS fun _ B=>rP 2 [] mn ?_
 refine rS (SX (bp (xs:=[(0,.tmp 5),(1,.tmp 6)]) (cs:=(ag.cells (ag.mk x y))) U U (bo gX U)) U U)<|fG U cZ U<|RK B<|aq ?_
 exact CV hQ [0] (mc 0 U mn) U U
theorem ru (x y:Int):
 dG Tryz.prog 48 [(vI x),(vI y)] [] (vA (aP.cells (aP.mk false true (ag.mk x y) (cz.mk 0 0 (bH.mk none 0 0))))):=by
 refine bG kr Tryz.func48 U U fun D Q hQ hN=>?_
 try dsimp only
 refine WS fun _ A=>AL U Aa fun C=>RK A<|WS fun _ B=>rP 2 [] mn ?_
 refine rS (CL (pY x y) (aO) U)<|rS (SX (bp (xs:=[(1,.const (vB true)),(2,.tmp 7)]) (cs:=(aP.cells (aP.mk false true (ag.mk x y) (cz.mk 0 0 (bH.mk none 0 0))))) U U (bo Sk U)) U U)<|fG U DC U<|RK B<|aq ?_
 exact CV hQ [0] (mc 0 U mn) U U
theorem Iw (j:cN) (kA:OA) (kC:Nat) (az:List RA) (cA:OA) (cC:Nat) (bA:OA) (bC:Nat) (slA:OA) (slC:Nat) (drA:OA) (drC:Nat) (ha:List cW) (heA:OA) (heC:Nat) (faA:OA) (faC:Nat) (prA:OA) (prC:Nat) (hraw:sk j az ha):
 dG Tryz.prog 9 [(vA (fz.cells (nY j kA kC cA cC bA bC slA slC drA drC heA heC faA faC prA prC)))] [(rd kA j.Race.ar.aV.length 9 (j.Race.ar.aV.map ao.cells)),(rd cA j.Race.ar.aj.length 2 (List.zipWith aw.cells j.Race.ar.aj az)),(dR (bj aw.f_ j.Race.ar.aj az)),(rd bA j.Race.ar.ab.length 4 (j.Race.ar.ab.map bJ.cells)),(rd slA j.Race.aY.length 1 (j.Race.aY.map iC)),(rd drA j.Race.ck.length 1 (j.Race.ck.map iC)),(rd heA j.Race.aB.length 1 (List.zipWith cL j.Race.aB ha)),(dR (bj eY j.Race.aB ha)),(rd faA j.ay.length 4 (j.ay.map aM.cells)),(rd prA j.aD.length 5 (j.aD.map aX.cells))] (vB (decide (¬ oR j∧dE j=0))):=by
 refine bG kr Tryz.func9 U U fun F Q hQ hN=>?_
 try dsimp only
 refine WS fun _ C=>eI U fun E=>bD 1 U<|RK C<|WS fun _ A=>eQ 1 [] (mc 0 U mn) U<|rS (CL (H5 j kA kC az cA cC bA bC slA slC drA drC ha heA heC faA faC prA prC hraw) (bu [1,2,3,4,5,6,7,8,9,10]) U)<|rP 2 [] mn ?_
 refine cp (t:=6) U (br fun B=>?_) (bq fun B=>?_)
 ·refine bD 1 U<|rP 4 [] mn ?_
  refine RK A<|aq<|Q1 hQ U U U ?_
  exact cB (bE fun q=>q.1 B).symm
 refine rP 1 [] (mc 0 U mn) ?_
 have D:=hraw.small B
 refine rS (CL (Bo j kA kC az cA cC bA bC slA slC drA drC ha heA heC faA faC prA prC asm) (bu [1,2,3,4,5,6,7,8,9,10]) U)<|rP 3 [] mn ?_
 refine RK A<|aq<|Q1 hQ U U U ?_
 exact cB (gR.2 ⟨fun q=>⟨B,q⟩,fun q=>q.2⟩)
theorem KM (o fx:Bool) (tm:ag) (rv:cz):
 dG Tryz.prog 14 [(vA (aP.cells (aP.mk o fx tm rv)))] [] (vB (decide (o=false∧fx=false))):=by
 refine bG kr Tryz.func14 U U fun E Q hQ hN=>?_
 try dsimp only
 refine WS fun _ B=>eI U fun D=>bD 1 U<|RK B<|WS fun _ A=>rP 4 [] (mc 0 U mn) ?_
 refine cp (t:=6) U (fun C=>?_) (fun C=>?_)
 ·rw [Bool.not_eq_false'] at C
  refine rP 5 [] mn ?_
  refine RK A<|aq<|Q1 hQ U U U ?_
  clear hQ hN A B
  refine cB ?_
  (simp_all; done)
 rw [Bool.not_eq_true'] at C
 refine rP 5 [] (mc 0 U mn) ?_
 refine RK A<|aq<|Q1 hQ U U U ?_
 clear hQ hN A B
 refine cB ?_
 (simp_all; done)
end
section
open Go.RowKit
theorem HB (j:cN) (kA:OA) (kC:Nat) (az:List RA) (cA:OA) (cC:Nat) (bA:OA) (bC:Nat) (slA:OA) (slC:Nat) (drA:OA) (drC:Nat) (ha:List cW) (heA:OA) (heC:Nat) (faA:OA) (faC:Nat) (prA:OA) (prC:Nat) (hin:gG j az ha) (hok:dE j=0):
 pG Tryz.prog 32 [(vA (c_.cells (c_.mk (nY j kA kC cA cC bA bC slA slC drA drC heA heC faA faC prA prC))))] [(rd kA j.Race.ar.aV.length 9 (j.Race.ar.aV.map ao.cells)),(rd cA j.Race.ar.aj.length 2 (List.zipWith aw.cells j.Race.ar.aj az)),(dR (bj aw.f_ j.Race.ar.aj az)),(rd bA j.Race.ar.ab.length 4 (j.Race.ar.ab.map bJ.cells)),(rd slA j.Race.aY.length 1 (j.Race.aY.map iC)),(rd drA j.Race.ck.length 1 (j.Race.ck.map iC)),(rd heA j.Race.aB.length 1 (List.zipWith cL j.Race.aB ha)),(dR (bj eY j.Race.aB ha)),(rd faA j.ay.length 4 (j.ay.map aM.cells)),(rd prA j.aD.length 5 (j.aD.map aX.cells))] (fun (x:(List RA)×(OA)×Nat)=>(vS x.2.1 ((kI j).length) x.2.2)) (fun (x:(List RA)×(OA)×Nat)=>x.1.length=(kI j).length) (fun (x:(List RA)×(OA)×Nat)=>[(own x.2.1 x.2.2 29 1 (List.zipWith uM (kI j) x.1)),(bQ (bj Dv (kI j) x.1))]):=by
 have AC:=hin.race
 have i:=hin.race.line
 have A2:=hin.race.ij
 have A3:=hin.race.has
 have AD:=hin.race.ic
 have u:=hin.nf
 have y:=hin.np
 have P:=(eP hok).1
 have O:=(eP hok).2
 have h:=(eU P).1
 have A6:=(eU P).2
 have d:=(dM h).2.head
 unfold eW at d
 have A4:=O.np
 have w:=xV (j:=j)
 refine e_ kr Tryz.func32 U U fun w0 Q hQ hN=>?_
 try dsimp only
 refine WS fun _ Y=>eI U fun b2=>rP 1 [] mn ?_
 refine RK Y<|WS fun _ Z=>lF (kV:=iV) U U fun T=>?_
 try dsimp only
 refine bD 1 U<|RK Z<|ak fun _ a=>WS fun _ b=>rP 4 [] (mc 1 U mn) ?_
 refine rS (FU U) ?_
 refine cX (Au j.aD prA prC (Value.func (.func 31) [(vA (c_.cells (c_.mk (nY j kA kC cA cC bA bC slA slC drA drC heA heC faA faC prA prC))))].toArray [].toArray) (fun q S=>(iv j S)) (dR [(rd kA j.Race.ar.aV.length 9 (j.Race.ar.aV.map ao.cells)),(rd cA j.Race.ar.aj.length 2 (List.zipWith aw.cells j.Race.ar.aj az)),(dR (bj aw.f_ j.Race.ar.aj az)),(rd bA j.Race.ar.ab.length 4 (j.Race.ar.ab.map bJ.cells)),(rd slA j.Race.aY.length 1 (j.Race.aY.map iC)),(rd drA j.Race.ck.length 1 (j.Race.ck.map iC)),(rd heA j.Race.aB.length 1 (List.zipWith cL j.Race.aB ha)),(dR (bj eY j.Race.aB ha)),(rd faA j.ay.length 4 (j.ay.map aM.cells)),(rd prA j.aD.length 5 (j.aD.map aX.cells))]) (by intro q S k; exact lh (fi:=[(vA (c_.cells (c_.mk (nY j kA kC cA cC bA bC slA slC drA drC heA heC faA faC prA prC))))]) (ca:=[]) (jS (vn j kA kC az cA cC bA bC slA slC drA drC ha heA heC faA faC prA prC q S asm asm (by (obtain ⟨i_,_,e⟩:=k; exact ⟨i_,e⟩))) (bu [0,1,2,3,4,5,6,7,8,9]))) asm) (gY 11 rfl rfl<|aK (jX (bu [2,3,4,5,6,7,8,9,10,11]))<|aO) rfl fun y9 AF=>?_
 obtain ⟨Ay,A0⟩:=y9
 try dsimp only
 rw [show (jn (h_ j.aD (fun q S=>(iv j S))) j.aD.length)=iL j from rfl]
 refine rP 2 [] mn ?_
 refine RK b<|aH ?_
 skip
 have A:(0≤(iL j).length):=by exact Nat.zero_le _
 refine bY (ι:={z:Nat // (z≤(iL j).length)}) [1,3,12,13] [0,2,3,4,5,6,7,8,9,10,11,12] U U (fun z=>[(14,(vI (z.1:Int)))]) (fun z=>[(j1 iV T (cS vB (wb j.ay (G8 j z.1))))]) (fun _=>rfl) (fun _=>rfl) (fun z=>(iL j).length-z.1) ⟨0,A⟩ (bB U) (aQ [0,2,3,4,5,6,7,8,9,10,11,12,1]) ?_
 clear A
 rintro ⟨t,g⟩ J13 E
 try dsimp only
 refine WS fun _ F=>rP 1 [] mn ?_
 refine RK F<|ak fun _ G=>bW U (aT fun X=>?_) (aU fun X=>?_)
 ·refine bP<|ai<|ai<|aJ<|KK a<|WS fun _ J=>rP 2 [] (mc 1 U mn) ?_
  refine cX (I6 T j kA kC cA cC bA bC slA slC drA drC heA heC faA faC prA prC) (aO) U fun r AO=>?_
  obtain ⟨V,C⟩:=r
  try dsimp only
  refine cX (Fi (wb j.ay (G8 j t)) T j kA kC az cA cC bA bC slA slC drA drC ha heA heC faA faC prA prC V C hin hok) (bu [14,4,5,6,7,8,9,10,11,12,13,0,1]) U fun s R=>?_
  obtain ⟨D,AA,W⟩:=s
  try dsimp only
  have N:=R
  have o:(gV j (kD j.ay (wb j.ay (G8 j t))))=(kI j):=by exact DW I
  rw [o] at N ⊢
  refine rP 1 [] mn ?_
  refine RK J<|aq ?_
  refine LX hQ (D,AA,W) [0,1] [] mn U (by show List.all _ _=true; simp only [eG,List.all_nil,qA,Bool.and_true]; rfl) U U ?_
  exact N
 refine WK G<|ak fun _ H=>aH<|WS fun _ AB=>?_
 obtain ⟨gi,B⟩:=aL (iL j) t I
 have M:=bM iC B
 refine rS (IA t U (aC (n:=(iL j).length) 0 U sm) dv dc I I)<|rS (g6 t 0 (vI gi) U cj (aC (n:=(iL j).length) 0 U sm) M U dc U)<|bD 1 U<|RK AB<|dp ct 17 kr<|dP 10 [] (mc 1 U mn) ?_
 obtain ⟨gk,A1,v⟩:=Hc B
 refine dP 1 [] mn ?_
 obtain ⟨p,hp⟩:=aL j.aD ((gi).toNat) I
 have l:=bM aX.cells hp
 refine dS (IA ((gi).toNat) U (aA 11 U) Bq dc I I)<|dS (o9 ((((gi).toNat)*5)+3) U (aA 11 U) (Nat.mul_pos I dc) fj U) ?_
 have m:=O.g8 _ p hp
 have A5:=m.fault
 refine dS (g6 ((gi).toNat) 3 (vI p.jU) U cj (aA 11 U) l U dc U) ?_
 obtain ⟨f,hf⟩:=aL j.ay ((p.jU).toNat) I
 have c:=bM aM.cells hf
 refine dS (IA ((p.jU).toNat) U (aA 10 U) wi dc I I)<|dS (lx ((p.jU).toNat) 0 (aM.cells f) U cj (aA 10 U) c U dc U U)<|dS (CL (xz j.ay faA faC f asm) (bu [10]) U)<|cK ?_
 have K:(ed (wb j.ay (G8 j t)) (kH j.ay f) true)=(wb j.ay (G8 j (t+1))):=by rw [ID B hp hf,GG]
 refine iX (kV:=iV) (x:=(kH j.ay f)) (C':=[_,_,_,_,_,_,_,_,_,_,_,_,(j1 iV T (cS vB (wb j.ay (G8 j (t+1)))))]) 12 U U U U HE (ig si) U ((gp _ _ _ _).symm.trans (congrArg _ K)) U<|aF<|aN<|KK H<|au<|rP 2 [] mn ?_
 refine aF ?_
 have L:(vI (((t+1):Nat):Int))=(vI ((t:Int)+1)):=by exact cI I
 refine bg (E ⟨(t+1),(by first|omega|(simp only []; omega))⟩ _ _ _ U os (cG 4<|bf U L<|dh.nil _) (aQ [0,1,2,3,4,5,6,7,8,9,10,11,12]))
theorem Hx (j:cN) (kA:OA) (kC:Nat) (az:List RA) (cA:OA) (cC:Nat) (bA:OA) (bC:Nat) (slA:OA) (slC:Nat) (drA:OA) (drC:Nat) (ha:List cW) (heA:OA) (heC:Nat) (faA:OA) (faC:Nat) (prA:OA) (prC:Nat) (hin:gG j az ha):
 pG Tryz.prog 11 [(vA (fz.cells (nY j kA kC cA cC bA bC slA slC drA drC heA heC faA faC prA prC)))] [(rd gS 3 2 fP),(rd kA j.Race.ar.aV.length 9 (j.Race.ar.aV.map ao.cells)),(rd cA j.Race.ar.aj.length 2 (List.zipWith aw.cells j.Race.ar.aj az)),(dR (bj aw.f_ j.Race.ar.aj az)),(rd bA j.Race.ar.ab.length 4 (j.Race.ar.ab.map bJ.cells)),(rd slA j.Race.aY.length 1 (j.Race.aY.map iC)),(rd drA j.Race.ck.length 1 (j.Race.ck.map iC)),(rd heA j.Race.aB.length 1 (List.zipWith cL j.Race.aB ha)),(dR (bj eY j.Race.aB ha)),(rd faA j.ay.length 4 (j.ay.map aM.cells)),(rd prA j.aD.length 5 (j.aD.map aX.cells))] (fun (x:(List RA)×(OA)×Nat)=>(vT [(vS x.2.1 ((iY j).length) x.2.2),(vI (dE j))])) (fun (x:(List RA)×(OA)×Nat)=>x.1.length=(iY j).length) (fun (x:(List RA)×(OA)×Nat)=>[(own x.2.1 x.2.2 29 1 (List.zipWith uM (iY j) x.1)),(bQ (bj Dv (iY j) x.1))]):=by
 have S:=hin.race
 have N:=hin.race.line
 have AA:=hin.race.ij
 have V:=hin.race.has
 have T:=hin.race.ic
 have P:=hin.nf
 have R:=hin.np
 refine e_ kr Tryz.func11 U U fun Z Q hQ hN=>?_
 try dsimp only
 refine WS fun _ H=>eI U fun X=>bD 1 U<|bD 1 U<|RK H<|WS fun _ AB=>eQ 1 [] (mc 0 U mn) U<|rS (CL (rM j kA kC az cA cC bA bC slA slC drA drC ha heA heC faA faC prA prC hin) (bu [1,2,3,4,5,6,7,8,9,10,11]) U)<|bD 3 U<|AL U Ez fun Y=>fG U DR U<|bD 1 U<|RK AB<|ak fun _ J=>WS fun _ K=>rP 2 [] mn ?_
 refine RK K<|cx U (bq fun A=>?_) (br fun A=>?_)
 ·refine WS fun _ L=>?_
  have C:(iY j)=[]:=vO A
  have B:([]:List RA).length=(iY j).length:=by rw [C]; rfl
  refine jO 29 1<|sS ?_
  rw [show (own none 0 29 1 ([]:List (List Value)))=own none 0 29 1 (List.zipWith uM (iY j) []) from by rw [C]; rfl,show bQ []=bQ (bj Dv (iY j) []) from by rw [C]; rfl]
  refine bD 2 U<|rP 1 [] mn ?_
  refine RK L<|aq ?_
  refine LX hQ ([],none,0) [1,0] [] mn U (by show List.all _ _=true; simp only [eG,List.all_nil,qA,Bool.and_true]; rfl) U ?_ ?_
  ·(rw [vO A]; rfl)
  ·exact B
 refine WK J<|WS fun _ M=>rP 1 [] (mc 0 U mn) ?_
 refine cX (HB j kA kC az cA cC bA bC slA slC drA drC ha heA heC faA faC prA prC hin asm) (bu [3,4,5,6,7,8,9,10,11,12]) U fun W E=>?_
 obtain ⟨D,F,G⟩:=W
 try dsimp only
 have B:=E
 refine rP 1 [] mn ?_
 have O:(kI j)=(iY j):=by exact (vY A).symm
 rw [O] at B ⊢
 refine rP 1 [] mn ?_
 refine RK M<|aq ?_
 refine LX hQ (D,F,G) [0,1] [] mn U (by show List.all _ _=true; simp only [eG,List.all_nil,qA,Bool.and_true]; rfl) U ?_ ?_
 ·(rw [A]; rfl)
 ·exact B
end
section
open Go.RowKit
theorem sr:
 pG Tryz.prog 24 [] [] (fun (x:(OA)×Nat×(OA)×Nat×(List RA)×(OA)×Nat×(OA)×Nat×(OA)×Nat×(OA)×Nat×(List cW)×(OA)×Nat×(OA)×Nat)=>(vA (fz.cells (fz.mk (fB.mk (cv.mk (bO.mk (bH.mk x.1 d_.Race.ar.aV.length x.2.1)) d_.Race.ar.iR (bH.mk x.2.2.1 d_.Race.ar.aj.length x.2.2.2.1) (bH.mk x.2.2.2.2.2.1 d_.Race.ar.ab.length x.2.2.2.2.2.2.1) d_.Race.ar.bS d_.Race.ar.fZ d_.Race.ar.dL) (bH.mk x.2.2.2.2.2.2.2.1 d_.Race.aY.length x.2.2.2.2.2.2.2.2.1) (bH.mk x.2.2.2.2.2.2.2.2.2.1 d_.Race.ck.length x.2.2.2.2.2.2.2.2.2.2.1) d_.Race.mj (bH.mk x.2.2.2.2.2.2.2.2.2.2.2.1 d_.Race.aB.length x.2.2.2.2.2.2.2.2.2.2.2.2.1)) (bH.mk x.2.2.2.2.2.2.2.2.2.2.2.2.2.2.1 d_.ay.length x.2.2.2.2.2.2.2.2.2.2.2.2.2.2.2.1) (bH.mk x.2.2.2.2.2.2.2.2.2.2.2.2.2.2.2.2.1 d_.aD.length x.2.2.2.2.2.2.2.2.2.2.2.2.2.2.2.2.2) d_.fX d_.yA)))) (fun (x:(OA)×Nat×(OA)×Nat×(List RA)×(OA)×Nat×(OA)×Nat×(OA)×Nat×(OA)×Nat×(List cW)×(OA)×Nat×(OA)×Nat)=>gG d_ x.2.2.2.2.1 x.2.2.2.2.2.2.2.2.2.2.2.2.2.1∧x.2.2.2.2.1.length=d_.Race.ar.aj.length∧zL d_.Race.aB x.2.2.2.2.2.2.2.2.2.2.2.2.2.1) (fun (x:(OA)×Nat×(OA)×Nat×(List RA)×(OA)×Nat×(OA)×Nat×(OA)×Nat×(OA)×Nat×(List cW)×(OA)×Nat×(OA)×Nat)=>[(own x.1 x.2.1 118 9 (d_.Race.ar.aV.map ao.cells)),(own x.2.2.1 x.2.2.2.1 73 2 (List.zipWith aw.cells d_.Race.ar.aj x.2.2.2.2.1)),(bQ (bj aw.owns d_.Race.ar.aj x.2.2.2.2.1)),(own x.2.2.2.2.2.1 x.2.2.2.2.2.2.1 122 4 (d_.Race.ar.ab.map bJ.cells)),(own x.2.2.2.2.2.2.2.1 x.2.2.2.2.2.2.2.2.1 3 1 (d_.Race.aY.map iC)),(own x.2.2.2.2.2.2.2.2.2.1 x.2.2.2.2.2.2.2.2.2.2.1 3 1 (d_.Race.ck.map iC)),(own x.2.2.2.2.2.2.2.2.2.2.2.1 x.2.2.2.2.2.2.2.2.2.2.2.2.1 51 1 (List.zipWith cL d_.Race.aB x.2.2.2.2.2.2.2.2.2.2.2.2.2.1)),(bQ (bj sG d_.Race.aB x.2.2.2.2.2.2.2.2.2.2.2.2.2.1)),(own x.2.2.2.2.2.2.2.2.2.2.2.2.2.2.1 x.2.2.2.2.2.2.2.2.2.2.2.2.2.2.2.1 80 4 (d_.ay.map aM.cells)),(own x.2.2.2.2.2.2.2.2.2.2.2.2.2.2.2.2.1 x.2.2.2.2.2.2.2.2.2.2.2.2.2.2.2.2.2 47 5 (d_.aD.map aX.cells))]):=by
 refine e_ kr Tryz.func24 U U fun V Q hQ hN=>?_
 try dsimp only
 refine WS fun _ P=>AL U QH fun T=>RK P<|WS fun _ R=>rS (CL (pY 10000 10200) (aO) U)<|rS (SX (bp (xs:=[(0,.const (vI 1)),(1,.tmp 3)]) (cs:=(ao.cells (ao.mk 1 (ag.mk 10000 10200) (ag.mk 0 0) (ag.mk 0 0) 0 0))) U U (bo SL U)) U U)<|ej (xs:=[.tmp 4]) (cs:=(ao.cells (ao.mk 1 (ag.mk 10000 10200) (ag.mk 0 0) (ag.mk 0 0) 0 0))) U yw FT U U U U (by simp [Value.cells,ao.aZ]) U U fun E=>rS (SX (bp (xs:=[(0,.tmp 5)]) (cs:=(bO.cells (bO.mk (bH.mk (some ⟨E,0,none⟩) 1 1)))) U U (bo SU U)) U U)<|rS (CL (pY 0 2) (aO) U)<|rS (SX (bp (xs:=[(0,.const (vI 0)),(1,.tmp 7)]) (cs:=(cQ.cells (cQ.mk 0 (ag.mk 0 2)))) U U (bo Tu U)) U U)<|rS (CL (pY 5 6) (aO) U)<|rS (SX (bp (xs:=[(0,.const (vI 100000)),(1,.tmp 9)]) (cs:=(cQ.cells (cQ.mk 100000 (ag.mk 5 6)))) U U (bo Tu U)) U U)<|ej (xs:=[.tmp 8,.tmp 10]) (cs:=((cQ.cells (cQ.mk 0 (ag.mk 0 2)))++(cQ.cells (cQ.mk 100000 (ag.mk 5 6))))) U wX yC U U U U (by simp [Value.cells,cQ.aZ]) U U fun J=>rS (SX (bp (xs:=[(0,.const (vI 100)),(1,.tmp 11)]) (cs:=(dq.cells (dq.mk 100 (bH.mk (some ⟨J,0,none⟩) 2 2)))) U U (bo U7 U)) U U)<|ej (xs:=[.tmp 12]) (cs:=(dq.cells (dq.mk 100 (bH.mk (some ⟨J,0,none⟩) 2 2)))) U Az Qq U U U U (by simp [Value.cells,dq.aZ]) U U fun L=>rS (CL (pY 1000 1000) (aO) U)<|rS (SX (bp (xs:=[(1,.tmp 14)]) (cs:=(cH.cells (cH.mk 0 (ag.mk 1000 1000)))) U U (bo KH U)) U U)<|rS (SX (bp (xs:=[(0,.tmp 15)]) (cs:=(bJ.cells (bJ.mk (cH.mk 0 (ag.mk 1000 1000)) 0))) U U (bo Jr U)) U U)<|rS (CL (pY 4000 4000) (aO) U)<|rS (SX (bp (xs:=[(1,.tmp 17)]) (cs:=(cH.cells (cH.mk 0 (ag.mk 4000 4000)))) U U (bo KH U)) U U)<|rS (SX (bp (xs:=[(0,.tmp 18)]) (cs:=(bJ.cells (bJ.mk (cH.mk 0 (ag.mk 4000 4000)) 0))) U U (bo Jr U)) U U)<|rS (CL (pY 9000 9000) (aO) U)<|rS (SX (bp (xs:=[(1,.tmp 20)]) (cs:=(cH.cells (cH.mk 0 (ag.mk 9000 9000)))) U U (bo KH U)) U U)<|rS (SX (bp (xs:=[(0,.tmp 21)]) (cs:=(bJ.cells (bJ.mk (cH.mk 0 (ag.mk 9000 9000)) 0))) U U (bo Jr U)) U U)<|ej (xs:=[.tmp 16,.tmp 19,.tmp 22]) (cs:=((bJ.cells (bJ.mk (cH.mk 0 (ag.mk 1000 1000)) 0))++(bJ.cells (bJ.mk (cH.mk 0 (ag.mk 4000 4000)) 0))++(bJ.cells (bJ.mk (cH.mk 0 (ag.mk 9000 9000)) 0)))) U wq Sf U U U U (by simp [Value.cells,bJ.aZ]) U U fun M=>rS (SX (bp (xs:=[(0,.tmp 6),(1,.const (vI 2000)),(4,.const (vI 1)),(5,.const (vI 1)),(6,.const (vI 1)),(2,.tmp 13),(3,.tmp 23)]) (cs:=(cv.cells (cv.mk (bO.mk (bH.mk (some ⟨E,0,none⟩) 1 1)) 2000 (bH.mk (some ⟨L,0,none⟩) 1 1) (bH.mk (some ⟨M,0,none⟩) 3 3) 1 1 1))) U U (bo Uz U)) U U)<|AL U Tb fun AA=>?_
 refine fy (es:=(d_.Race.ar.aV.map ao.cells)) (C':=[_,_,_,_,(own (some ⟨E,0,none⟩) 1 118 9 (d_.Race.ar.aV.map ao.cells)),_]) 4 U (nt ao.aZ _) U (by show _≤maxLen; exact Nat.le_trans (m:=10) (show (1:Nat)≤10 by decide) dc) U ?_
 refine fy (es:=(yz.bI.map cQ.cells)) (C':=[_,_,_,(own (some ⟨J,0,none⟩) 2 75 3 (yz.bI.map cQ.cells)),_,_]) 3 U (nt cQ.aZ _) U (by show _≤maxLen; exact Nat.le_trans (m:=10) (show (2:Nat)≤10 by decide) dc) U ?_
 refine fy (es:=(List.zipWith aw.cells d_.Race.ar.aj [((some ⟨J,0,none⟩),2)])) (C':=[_,_,(own (some ⟨L,0,none⟩) 1 73 2 (List.zipWith aw.cells d_.Race.ar.aj [((some ⟨J,0,none⟩),2)])),_,_,_]) 2 U (by intro x hx; change x∈[aw.cells yz ((some ⟨J,0,none⟩),2)] at hx; rw [cq.1 hx]; rfl) U (by show _≤maxLen; exact Nat.le_trans (m:=10) (show (1:Nat)≤10 by decide) dc) U ?_
 refine fy (es:=(d_.Race.ar.ab.map bJ.cells)) (C':=[_,(own (some ⟨M,0,none⟩) 3 122 4 (d_.Race.ar.ab.map bJ.cells)),_,_,_,_]) 1 U (nt bJ.aZ _) U (by show _≤maxLen; exact Nat.le_trans (m:=10) (show (3:Nat)≤10 by decide) dc) U ?_
 refine sS<|N2 (X:=[]) (X':=bj aw.owns d_.Race.ar.aj [((some ⟨J,0,none⟩),2)]) 0 4 rfl rfl rfl<|qO rfl O5 rfl<|RK R<|WS fun _ S=>rS (SX (bp (xs:=[(0,.const (vI 0)),(1,.const (vI 10600))]) (cs:=(aG.cells (aG.mk 0 10600))) rfl rfl (bo Ji rfl)) rfl rfl)<|rS (SX (bp (xs:=[(0,.const (vI 0)),(1,.const (vI 11000))]) (cs:=(aG.cells (aG.mk 0 11000))) rfl rfl (bo Ji rfl)) rfl rfl)<|rS (SX (bp (xs:=[(0,.const (vI 1)),(1,.const (vI 12600))]) (cs:=(aG.cells (aG.mk 1 12600))) rfl rfl (bo Ji rfl)) rfl rfl)<|ej (xs:=[.tmp 25,.tmp 26,.tmp 27]) (cs:=((aG.cells (aG.mk 0 10600))++(aG.cells (aG.mk 0 11000))++(aG.cells (aG.mk 1 12600)))) rfl yB Hw rfl rfl rfl rfl (by simp [Value.cells,aG.aZ]) rfl rfl fun A=>rS (SX (bp (xs:=[(0,.const (vI 10000)),(1,.const (vI 20000)),(2,.tmp 28)]) (cs:=(cz.cells (cz.mk 10000 20000 (bH.mk (some ⟨A,0,none⟩) 3 3)))) rfl rfl (bo Va rfl)) rfl rfl)<|AL rfl Ry fun N=>fy (es:=(my.aa.map aG.cells)) (C':=[_,(own (some ⟨A,0,none⟩) 3 78 2 (my.aa.map aG.cells)),_,_,_,_,_,_]) 1 rfl (nt aG.aZ _) rfl dc rfl<|fG rfl P9 rfl<|RK S<|ak fun _ O=>Od (L':=[(0,(vP T)),(1,(vP AA)),(2,(vP N)),(3,(vA (ag.cells (ag.mk 10000 10200)))),(4,(vA (ao.cells (ao.mk 1 (ag.mk 10000 10200) (ag.mk 0 0) (ag.mk 0 0) 0 0)))),(5,(vS (some ⟨E,0,none⟩) 1 1)),(6,(vA (bO.cells (bO.mk (bH.mk (some ⟨E,0,none⟩) 1 1))))),(7,(vA (ag.cells (ag.mk 0 2)))),(8,(vA (cQ.cells (cQ.mk 0 (ag.mk 0 2))))),(9,(vA (ag.cells (ag.mk 5 6)))),(10,(vA (cQ.cells (cQ.mk 100000 (ag.mk 5 6))))),(11,(vS (some ⟨J,0,none⟩) 2 2)),(12,(vA (dq.cells (dq.mk 100 (bH.mk (some ⟨J,0,none⟩) 2 2))))),(13,(vS (some ⟨L,0,none⟩) 1 1)),(14,(vA (ag.cells (ag.mk 1000 1000)))),(15,(vA (cH.cells (cH.mk 0 (ag.mk 1000 1000))))),(16,(vA (bJ.cells (bJ.mk (cH.mk 0 (ag.mk 1000 1000)) 0)))),(17,(vA (ag.cells (ag.mk 4000 4000)))),(18,(vA (cH.cells (cH.mk 0 (ag.mk 4000 4000))))),(19,(vA (bJ.cells (bJ.mk (cH.mk 0 (ag.mk 4000 4000)) 0)))),(20,(vA (ag.cells (ag.mk 9000 9000)))),(21,(vA (cH.cells (cH.mk 0 (ag.mk 9000 9000))))),(22,(vA (bJ.cells (bJ.mk (cH.mk 0 (ag.mk 9000 9000)) 0)))),(23,(vS (some ⟨M,0,none⟩) 3 3)),(24,(vA (cv.cells (cv.mk (bO.mk (bH.mk (some ⟨E,0,none⟩) 1 1)) 2000 (bH.mk (some ⟨L,0,none⟩) 1 1) (bH.mk (some ⟨M,0,none⟩) 3 3) 1 1 1)))),(25,(vA (aG.cells (aG.mk 0 10600)))),(26,(vA (aG.cells (aG.mk 0 11000)))),(27,(vA (aG.cells (aG.mk 1 12600)))),(28,(vS (some ⟨A,0,none⟩) 3 3)),(29,(vA (cz.cells (cz.mk 10000 20000 (bH.mk (some ⟨A,0,none⟩) 3 3)))))]) rfl<|mA ct [0,3,4,5,6,8,9,10,14,15,16,17,19,20,21] [7,11,12,1,2,13,18,22,23,24] [false,false,false,false,false,false,false,false,false,false,false,false,false,false,false] [] [(cu N 56 (cz.cells (cz.mk 10000 20000 (bH.mk (some ⟨A,0,none⟩) 3 3)))),(own (some ⟨A,0,none⟩) 3 78 2 (my.aa.map aG.cells)),(bQ (bj aw.owns d_.Race.ar.aj [((some ⟨J,0,none⟩),2)])),(cu AA 28 (cv.cells (cv.mk (bO.mk (bH.mk (some ⟨E,0,none⟩) 1 1)) 2000 (bH.mk (some ⟨L,0,none⟩) 1 1) (bH.mk (some ⟨M,0,none⟩) 3 3) 1 1 1))),(own (some ⟨M,0,none⟩) 3 122 4 (d_.Race.ar.ab.map bJ.cells)),(own (some ⟨L,0,none⟩) 1 73 2 (List.zipWith aw.cells d_.Race.ar.aj [((some ⟨J,0,none⟩),2)])),(own (some ⟨E,0,none⟩) 1 118 9 (d_.Race.ar.aV.map ao.cells))] [] kr (aQ [0,1,2,3,4,5,6]) (aQ [])<|eS rfl (LW 3 rfl cj rfl rfl)<|eS rfl (LW 0 rfl cj rfl rfl)<|eS rfl (SX (bp (xs:=[(3,.tmp 33)]) (cs:=(aP.cells (aP.mk false false (ag.mk 0 0) (cz.mk 10000 20000 (bH.mk (some ⟨A,0,none⟩) 3 3))))) rfl rfl (bo Sk rfl)) rfl rfl)<|eS rfl (CL (ru 2600 2600) (aO) rfl)<|eS rfl (CL (ru 2580 2609) (aO) rfl)<|eS rfl (CL (ru 2555 2559) (aO) rfl)<|eS rfl (CL (ru 2540 2549) (aO) rfl)<|eS rfl (CL (ru 2570 2575) (aO) rfl)<|eS rfl (SX (bp (xs:=[(0,.const (Value.int .u8 1)),(2,.const (vI 12600)),(3,.const (vI 13000))]) (cs:=(aM.cells (aM.mk 1 0 12600 13000))) rfl rfl (bo NZ rfl)) rfl rfl)<|eS rfl (SX (bp (xs:=[(0,.const (Value.int .u8 2)),(1,.const (vI 1)),(2,.const (vI 11003)),(3,.const (vI 11100))]) (cs:=(aM.cells (aM.mk 2 1 11003 11100))) rfl rfl (bo NZ rfl)) rfl rfl)<|eS rfl (SX (bp (xs:=[(0,.const (Value.int .u8 3)),(2,.const (vI 10700)),(3,.const (vI 10900))]) (cs:=(aM.cells (aM.mk 3 0 10700 10900))) rfl rfl (bo NZ rfl)) rfl rfl)<|eS rfl (SX (bp (xs:=[(0,.const (Value.int .u8 1)),(2,.const (vI 13000)),(3,.const (vI 14000))]) (cs:=(aM.cells (aM.mk 1 0 13000 14000))) rfl rfl (bo NZ rfl)) rfl rfl)<|eS rfl (SX (bp (xs:=[(0,.const (vI 2)),(3,.const (vI 0)),(4,.const (vI 72596))]) (cs:=(aX.cells (aX.mk 2 0 0 0 72596))) rfl rfl (bo Qn rfl)) rfl rfl)<|eS rfl (SX (bp (xs:=[(0,.const (vI 5)),(3,.const (vI 1)),(4,.const (vI 72603))]) (cs:=(aX.cells (aX.mk 5 0 0 1 72603))) rfl rfl (bo Qn rfl)) rfl rfl)<|eS rfl (SX (bp (xs:=[(0,.const (vI 6)),(3,.const (vI 3)),(4,.const (vI 20000))]) (cs:=(aX.cells (aX.mk 6 0 0 3 20000))) rfl rfl (bo Qn rfl)) rfl rfl)<|eh rfl<|EU [.take 7,.take 11,.op 12,.take 1,.take 2,.op 13,.take 18,.take 22,.op 23,.op 24] [(34,(vA (aP.cells (aP.mk false false (ag.mk 0 0) (cz.mk 10000 20000 (bH.mk (some ⟨A,0,none⟩) 3 3)))))),(35,(vA (aP.cells (aP.mk false true (ag.mk 2600 2600) (cz.mk 0 0 (bH.mk none 0 0)))))),(36,(vA (aP.cells (aP.mk false true (ag.mk 2580 2609) (cz.mk 0 0 (bH.mk none 0 0)))))),(38,(vA (aP.cells (aP.mk false true (ag.mk 2555 2559) (cz.mk 0 0 (bH.mk none 0 0)))))),(39,(vA (aP.cells (aP.mk false true (ag.mk 2540 2549) (cz.mk 0 0 (bH.mk none 0 0)))))),(40,(vA (aP.cells (aP.mk false true (ag.mk 2570 2575) (cz.mk 0 0 (bH.mk none 0 0)))))),(44,(vA (aM.cells (aM.mk 1 0 12600 13000)))),(45,(vA (aM.cells (aM.mk 2 1 11003 11100)))),(46,(vA (aM.cells (aM.mk 3 0 10700 10900)))),(47,(vA (aM.cells (aM.mk 1 0 13000 14000)))),(49,(vA (aX.cells (aX.mk 2 0 0 0 72596)))),(50,(vA (aX.cells (aX.mk 5 0 0 1 72603)))),(51,(vA (aX.cells (aX.mk 6 0 0 3 20000))))] (fun i=>match i with |7=>37|11=>41|1=>31|2=>32|18=>48|22=>52|_=>0) (fun i b=>match i with |7=> .slice (some ⟨b,0,none⟩) 3 3|11=> .slice (some ⟨b,0,none⟩) 3 3|1=> .slice (some ⟨b,0,none⟩) 3 3|2=> .slice (some ⟨b,0,none⟩) 3 3|18=> .slice (some ⟨b,0,none⟩) 4 4|22=> .slice (some ⟨b,0,none⟩) 3 3|_=>undef) (fun i b=>match i with |7=>cu b 58 ((aP.cells (aP.mk false false (ag.mk 0 0) (cz.mk 10000 20000 (bH.mk (some ⟨A,0,none⟩) 3 3))))++(aP.cells (aP.mk false true (ag.mk 2600 2600) (cz.mk 0 0 (bH.mk none 0 0))))++(aP.cells (aP.mk false true (ag.mk 2580 2609) (cz.mk 0 0 (bH.mk none 0 0)))))|11=>cu b 58 ((aP.cells (aP.mk false true (ag.mk 2555 2559) (cz.mk 0 0 (bH.mk none 0 0))))++(aP.cells (aP.mk false true (ag.mk 2540 2549) (cz.mk 0 0 (bH.mk none 0 0))))++(aP.cells (aP.mk false true (ag.mk 2570 2575) (cz.mk 0 0 (bH.mk none 0 0)))))|1=>cu b 3 [(vI 4),(vI 7),(vI 9)]|2=>cu b 3 [(vI 2),(vI 0),(vI 1)]|18=>cu b 80 ((aM.cells (aM.mk 1 0 12600 13000))++(aM.cells (aM.mk 2 1 11003 11100))++(aM.cells (aM.mk 3 0 10700 10900))++(aM.cells (aM.mk 1 0 13000 14000)))|22=>cu b 47 ((aX.cells (aX.mk 2 0 0 0 72596))++(aX.cells (aX.mk 5 0 0 1 72603))++(aX.cells (aX.mk 6 0 0 3 20000)))|_=>cu b 0 []) rfl rfl rfl kr rfl rfl (aQ [0,1,2,3,4,5,6]) (mB (v_ (xs:=[.tmp 34,.tmp 35,.tmp 36]) (cs:=((aP.cells (aP.mk false false (ag.mk 0 0) (cz.mk 10000 20000 (bH.mk (some ⟨A,0,none⟩) 3 3))))++(aP.cells (aP.mk false true (ag.mk 2600 2600) (cz.mk 0 0 (bH.mk none 0 0))))++(aP.cells (aP.mk false true (ag.mk 2580 2609) (cz.mk 0 0 (bH.mk none 0 0)))))) rfl qJ Aa rfl rfl rfl rfl (by simp [Value.cells,aP.aZ]) rfl rfl rfl (fun _=>rfl) fun _=>rfl)<|mB (v_ (xs:=[.tmp 38,.tmp 39,.tmp 40]) (cs:=((aP.cells (aP.mk false true (ag.mk 2555 2559) (cz.mk 0 0 (bH.mk none 0 0))))++(aP.cells (aP.mk false true (ag.mk 2540 2549) (cz.mk 0 0 (bH.mk none 0 0))))++(aP.cells (aP.mk false true (ag.mk 2570 2575) (cz.mk 0 0 (bH.mk none 0 0)))))) rfl qJ Aa rfl rfl rfl rfl (by simp [Value.cells,aP.aZ]) rfl rfl rfl (fun _=>rfl) fun _=>rfl)<|rf<|mB (v_ (xs:=[.const (vI 4),.const (vI 7),.const (vI 9)]) (cs:=[(vI 4),(vI 7),(vI 9)]) rfl dv kj rfl rfl rfl rfl (by simp [Value.cells]) rfl rfl rfl (fun _=>rfl) fun _=>rfl)<|mB (v_ (xs:=[.const (vI 2),.const (vI 0),.const (vI 1)]) (cs:=[(vI 2),(vI 0),(vI 1)]) rfl dv kj rfl rfl rfl rfl (by simp [Value.cells]) rfl rfl rfl (fun _=>rfl) fun _=>rfl)<|rf<|mB (v_ (xs:=[.tmp 44,.tmp 45,.tmp 46,.tmp 47]) (cs:=((aM.cells (aM.mk 1 0 12600 13000))++(aM.cells (aM.mk 2 1 11003 11100))++(aM.cells (aM.mk 3 0 10700 10900))++(aM.cells (aM.mk 1 0 13000 14000)))) rfl wi NY rfl rfl rfl rfl (by simp [Value.cells,aM.aZ]) rfl rfl rfl (fun _=>rfl) fun _=>rfl)<|mB (v_ (xs:=[.tmp 49,.tmp 50,.tmp 51]) (cs:=((aX.cells (aX.mk 2 0 0 0 72596))++(aX.cells (aX.mk 5 0 0 1 72603))++(aX.cells (aX.mk 6 0 0 3 20000)))) rfl Bq Mp rfl rfl rfl rfl (by simp [Value.cells,aX.aZ]) rfl rfl rfl (fun _=>rfl) fun _=>rfl)<|rf<|rf<|JU) ?_
 intro F
 try dsimp only
 intro G
 try dsimp only
 refine re U fun Y X K hT=>ej (xs:=[.tmp 37,.tmp 41]) (cs:=[(vS (some ⟨F,0,none⟩) 3 3),(vS (some ⟨G,0,none⟩) 3 3)]) U oh UZ U U U U (by simp [Value.cells]) U U fun B=>nR hT 48 11 U U (fun w hs=>St.ko [3,4,5,6,7,8,9] U U hs) U U ?_
 try dsimp only [List.take]
 intro C
 try dsimp only
 intro D
 try dsimp only
 refine re U fun Y X K hT=>rS (SX (bp (xs:=[(0,.tmp 30),(1,.tmp 31),(2,.tmp 32),(3,.const (vI 2)),(4,.tmp 42)]) (cs:=(fB.cells (fB.mk (cv.mk (bO.mk (bH.mk (some ⟨E,0,none⟩) 1 1)) 2000 (bH.mk (some ⟨L,0,none⟩) 1 1) (bH.mk (some ⟨M,0,none⟩) 3 3) 1 1 1) (bH.mk (some ⟨C,0,none⟩) 3 3) (bH.mk (some ⟨D,0,none⟩) 3 3) 2 (bH.mk (some ⟨B,0,none⟩) 2 2)))) U U (bo Us U)) U U)<|nR hT 51 13 U U (fun w hs=>St.ko [5,6,7,8,9,10,11] U U hs) U U ?_
 try dsimp only [List.take]
 intro H
 try dsimp only
 intro AB
 try dsimp only
 refine re U fun Y X K hT=>rS (SX (bp (xs:=[(0,.tmp 43),(1,.tmp 48),(2,.tmp 52),(3,.const (vI 1)),(4,.const (vI 500))]) (cs:=(fz.cells (fz.mk (fB.mk (cv.mk (bO.mk (bH.mk (some ⟨E,0,none⟩) 1 1)) 2000 (bH.mk (some ⟨L,0,none⟩) 1 1) (bH.mk (some ⟨M,0,none⟩) 3 3) 1 1 1) (bH.mk (some ⟨C,0,none⟩) 3 3) (bH.mk (some ⟨D,0,none⟩) 3 3) 2 (bH.mk (some ⟨B,0,none⟩) 2 2)) (bH.mk (some ⟨H,0,none⟩) 4 4) (bH.mk (some ⟨AB,0,none⟩) 3 3) 1 500))) U U (bo UP U)) U U)<|nR hT 54 15 U U (fun w hs=>St.ko [7,8,9,10,11,12,13] U U hs) U U ?_
 try dsimp only [List.take]
 refine re U fun Y X K hT=>ir (vs:=(fz.cells (fz.mk (fB.mk (cv.mk (bO.mk (bH.mk (some ⟨E,0,none⟩) 1 1)) 2000 (bH.mk (some ⟨L,0,none⟩) 1 1) (bH.mk (some ⟨M,0,none⟩) 3 3) 1 1 1) (bH.mk (some ⟨C,0,none⟩) 3 3) (bH.mk (some ⟨D,0,none⟩) 3 3) 2 (bH.mk (some ⟨B,0,none⟩) 2 2)) (bH.mk (some ⟨H,0,none⟩) 4 4) (bH.mk (some ⟨AB,0,none⟩) 3 3) 1 500))) (cs':=(fz.cells (fz.mk (fB.mk (cv.mk (bO.mk (bH.mk (some ⟨E,0,none⟩) 1 1)) 2000 (bH.mk (some ⟨L,0,none⟩) 1 1) (bH.mk (some ⟨M,0,none⟩) 3 3) 1 1 1) (bH.mk (some ⟨C,0,none⟩) 3 3) (bH.mk (some ⟨D,0,none⟩) 3 3) 2 (bH.mk (some ⟨B,0,none⟩) 2 2)) (bH.mk (some ⟨H,0,none⟩) 4 4) (bH.mk (some ⟨AB,0,none⟩) 3 3) 1 500))) (C':=[_,_,_,_,_,_,_,_,_,_,_,_,_,_,(cu T 36 (fz.cells (fz.mk (fB.mk (cv.mk (bO.mk (bH.mk (some ⟨E,0,none⟩) 1 1)) 2000 (bH.mk (some ⟨L,0,none⟩) 1 1) (bH.mk (some ⟨M,0,none⟩) 3 3) 1 1 1) (bH.mk (some ⟨C,0,none⟩) 3 3) (bH.mk (some ⟨D,0,none⟩) 3 3) 2 (bH.mk (some ⟨B,0,none⟩) 2 2)) (bH.mk (some ⟨H,0,none⟩) 4 4) (bH.mk (some ⟨AB,0,none⟩) 3 3) 1 500)))]++X) 14 U U U Qp U U U U U U U<|nR hT 54 15 U U (fun w hs=>St.ko [7,8,9,10,11,12,13] U U hs) U U ?_
 try dsimp only [List.take]
 refine KK O ?_
 refine lZ (es:=(d_.Race.aY.map iC)) (C':=[_,_,_,(own (some ⟨C,0,none⟩) 3 3 1 (d_.Race.aY.map iC)),_,_,_,_,_,_,_,_,_,_,_]) 3 U (nt bL _) U (by show _≤maxLen; exact Nat.le_trans (m:=10) (show (3:Nat)≤10 by decide) dc) U ?_
 refine lZ (es:=(d_.Race.ck.map iC)) (C':=[_,_,(own (some ⟨D,0,none⟩) 3 3 1 (d_.Race.ck.map iC)),_,_,_,_,_,_,_,_,_,_,_,_]) 2 U (nt bL _) U (by show _≤maxLen; exact Nat.le_trans (m:=10) (show (3:Nat)≤10 by decide) dc) U ?_
 refine lZ (es:=(d_.ay.map aM.cells)) (C':=[_,(own (some ⟨H,0,none⟩) 4 80 4 (d_.ay.map aM.cells)),_,_,_,_,_,_,_,_,_,_,_,_,_]) 1 U (nt aM.aZ _) U (by show _≤maxLen; exact Nat.le_trans (m:=10) (show (4:Nat)≤10 by decide) dc) U ?_
 refine lZ (es:=(d_.aD.map aX.cells)) (C':=[(own (some ⟨AB,0,none⟩) 3 47 5 (d_.aD.map aX.cells)),_,_,_,_,_,_,_,_,_,_,_,_,_,_]) 0 U (nt aX.aZ _) U (by show _≤maxLen; exact Nat.le_trans (m:=10) (show (3:Nat)≤10 by decide) dc) U ?_
 refine lZ (es:=(List.zipWith av.cells Ka [((some ⟨A,0,none⟩),3),(none,0),(none,0)])) (C':=[_,_,_,_,_,_,(own (some ⟨F,0,none⟩) 3 58 7 (List.zipWith av.cells Ka [((some ⟨A,0,none⟩),3),(none,0),(none,0)])),_,_,_,_,_,_,_,_]) 6 U (qN FD) U (by show _≤maxLen; exact Nat.le_trans (m:=10) (show (3:Nat)≤10 by decide) dc) U ?_
 refine lZ (es:=(List.zipWith av.cells SO [(none,0),(none,0),(none,0)])) (C':=[_,_,_,_,_,(own (some ⟨G,0,none⟩) 3 58 7 (List.zipWith av.cells SO [(none,0),(none,0),(none,0)])),_,_,_,_,_,_,_,_,_]) 5 U (qN FD) U (by show _≤maxLen; exact Nat.le_trans (m:=10) (show (3:Nat)≤10 by decide) dc) U ?_
 refine lZ (es:=(List.zipWith cL d_.Race.aB [(((some ⟨F,0,none⟩),3),[((some ⟨A,0,none⟩),3),(none,0),(none,0)]),(((some ⟨G,0,none⟩),3),[(none,0),(none,0),(none,0)])])) (C':=[_,_,_,_,(own (some ⟨B,0,none⟩) 2 51 1 (List.zipWith cL d_.Race.aB [(((some ⟨F,0,none⟩),3),[((some ⟨A,0,none⟩),3),(none,0),(none,0)]),(((some ⟨G,0,none⟩),3),[(none,0),(none,0),(none,0)])])),_,_,_,_,_,_,_,_,_,_]) 4 U (qN HR) U (by show _≤maxLen; exact Nat.le_trans (m:=10) (show (2:Nat)≤10 by decide) dc) U ?_
 refine eM 78 2<|eM 78 2<|eM 78 2<|eM 78 2<|eM 78 2<|Ho (bj sG d_.Race.aB [(((some ⟨F,0,none⟩),3),[((some ⟨A,0,none⟩),3),(none,0),(none,0)]),(((some ⟨G,0,none⟩),3),[(none,0),(none,0),(none,0)])]) [11,13,0,1,10,2,3,4] [5,6,7,8,9,12,14,15,16,17,18,19] U U<|aq ?_
 refine LX hQ ((some ⟨E,0,none⟩),1,(some ⟨L,0,none⟩),1,[((some ⟨J,0,none⟩),2)],(some ⟨M,0,none⟩),3,(some ⟨C,0,none⟩),3,(some ⟨D,0,none⟩),3,(some ⟨B,0,none⟩),2,[(((some ⟨F,0,none⟩),3),[((some ⟨A,0,none⟩),3),(none,0),(none,0)]),(((some ⟨G,0,none⟩),3),[(none,0),(none,0),(none,0)])],(some ⟨H,0,none⟩),4,(some ⟨AB,0,none⟩),3) [11,10,7,9,4,3,5,0,2,1] [0] (mc 12 U mn) U (by show List.all _ _=true; simp only [eG,List.all_nil,m_,yl,Bool.and_true]; rfl) U U ?_
 exact ⟨PD (Ta 1 dc) IE,U,IE⟩
end
section
open Go.RowKit
theorem zU (G:List (List Int)) (H:List (List Int)) (gz:List RA) (gA:OA) (gC:Nat) (hz:List RA) (hA:OA) (hC:Nat) (h1:G.length≤1000000) (h2:H.length≤1000000) (h3: ∀ l∈G,l.length≤1000000) (h4: ∀ l∈H,l.length≤1000000) (hgz:gz.length=G.length) (hhz:hz.length=H.length):
 dG Tryz.prog 20 [(vS gA G.length gC),(vS hA H.length hC)] [(rd gA G.length 1 (List.zipWith uM G gz)),(dR (bj OF G gz)),(rd hA H.length 1 (List.zipWith uM H hz)),(dR (bj OF H hz))] (vB (decide (G=H))):=by
 refine bG kr Tryz.func20 U U fun Z Q hQ hN=>?_
 try dsimp only
 refine WS fun _ N=>bD 1 U<|RK N<|ak fun _ O=>WS fun _ P=>rP 5 [] mn ?_
 refine RK P<|cx U (bq fun hl=>?_) (br fun hl=>?_)
 ·refine WS fun _ R=>rP 1 [] mn ?_
  refine RK R<|aq<|Q1 hQ U U U ?_
  exact cB (bE (fun e=>by subst e; omega)).symm
 refine WK O<|ak fun _ S=>WS fun _ T=>rP 1 [] mn ?_
 refine RK T<|aH ?_
 have A:(0≤G.length)∧(G.take 0=H.take 0):=by exact ⟨Nat.zero_le _,rfl⟩
 refine bY (ι:={z:Nat // (z≤G.length)∧(G.take z=H.take z)}) [0,1] [0,1,2,3] U U (fun z=>[(5,(vI (z.1:Int)))]) (fun z=>[]) (fun _=>rfl) (fun _=>rfl) (fun z=>G.length-z.1) ⟨0,A⟩ (bB U) (aQ [0,1,2,3]) ?_
 clear A
 rintro ⟨i,⟨W,B⟩⟩ J7 M
 try dsimp only
 refine ak fun _ AA=>WS fun _ V=>rP 4 [] mn ?_
 refine RK V<|bW U (aT fun L=>?_) (aU fun L=>?_)
 ·refine bP<|ai<|ai<|aJ<|KK S<|WS fun _ F=>rP 1 [] mn ?_
  refine RK F<|aq<|Q1 hQ U U U ?_
  exact cB (dx (qF I B I)).symm
 refine WK AA<|ak fun _ C=>aH<|ak fun _ D=>dp ct 10 kr<|dP 2 [] mn ?_
 obtain ⟨x,hx⟩:=aL G i I
 obtain ⟨xa,J⟩:=aL gz i I
 have X:(List.zipWith uM G gz)[i]? =some (uM x xa):=dy hx J
 refine dS (IA i U (aA 0 U) Dy dc I I)<|dS (g6 i 0 (vS xa.1 x.length xa.2) U cj (aA 0 U) X U dc U)<|dP 2 [] mn ?_
 obtain ⟨y,hy⟩:=aL H i I
 obtain ⟨ya,K⟩:=aL hz i I
 have Y:(List.zipWith uM H hz)[i]? =some (uM y ya):=dy hy K
 refine dS (IA i U (aA 2 U) Dy dc I I)<|dS (g6 i 0 (vS ya.1 y.length ya.2) U cj (aA 2 U) Y U dc U)<|dS (CL (Cg x xa.1 xa.2 y ya.1 ya.2 (by exact h3 x (aR hx)) (by exact h4 y (aR hy))) (aK (show iK _ (rd xa.1 x.length 1 (x.map iC)).holds from (cO 1 U (bK hx J (by simp [OF]))))<|aK (show iK _ (rd ya.1 y.length 1 (y.map iC)).holds from (cO 3 U (bK hy K (by simp [OF]))))<|aO) U)<|dP 1 [] mn ?_
 refine cK<|RK D<|cx U (bq fun h=>?_) (br fun h=>?_)
 ·refine WS fun _ E=>rP 1 [] mn ?_
  refine RK E<|aq<|Q1 hQ U U U ?_
  exact cB (bE (rh hx hy h)).symm
 refine cf<|aN<|KK C<|au<|rP 3 [] mn ?_
 refine aF ?_
 have AB:(vI (((i+1):Nat):Int))=(vI ((i:Int)+1)):=by exact cI I
 refine bg (M ⟨(i+1),⟨I,uU B hx hy h⟩⟩ _ _ _ U os (dh.cons U<|dh.cons U<|bf U AB<|dh.nil _) (aQ [0,1,2,3]))
theorem xT (fq sq x:Int):
 dG Tryz.prog 25 [(vI fq),(vI sq),(Value.int .u8 x)] [(rd gS 3 2 fP)] (vB (decide (mX d_ fq 0 sq=0∧ld d_ fq 0 sq=x))):=by
 refine bG kr Tryz.func25 U U fun c Q hQ hN=>?_
 try dsimp only
 refine WS fun _ X=>rP 1 [] mn ?_
 refine RK X<|WS fun _ Y=>cX sr (aO) U fun b a=>?_
 obtain ⟨S,V,T,W,AA,C,G,D,H,E,AB,F,J,O,K,L,P,R⟩:=b
 try dsimp only
 obtain ⟨N,Z,M⟩:=a
 refine bD 2 U<|rS (CL (Ah d_ S V AA T W C G D H E AB O F J K L P R fq 0 sq (by exact N)) (gY 10 U U<|aK (aC (n:=d_.Race.ar.aV.length) 0 U sm)<|aK (aC (n:=d_.Race.ar.aj.length) 1 U (km Z))<|aK (fT 2 U n8)<|aK (aC (n:=d_.Race.ar.ab.length) 3 U sm)<|aK (aC (n:=d_.Race.aY.length) 4 U sm)<|aK (aC (n:=d_.Race.ck.length) 5 U sm)<|aK (aC (n:=d_.Race.aB.length) 6 U (hH M.1))<|aK (lY 7 U M)<|aK (aC (n:=d_.ay.length) 8 U sm)<|aK (aC (n:=d_.aD.length) 9 U sm)<|aO) U)<|bD 5 U<|RK Y<|WS fun _ A=>rP 3 [] mn ?_
 refine cp (t:=18) U (aT fun B=>?_) (aU fun B=>?_)
 ·refine rP 5 [] mn ?_
  refine RK A<|aq<|Q1 hQ U U U ?_
  exact cB (bE fun q=>B q.1).symm
 refine bD 2 U<|rS (BI U lE)<|rP 2 [] mn ?_
 refine RK A<|aq<|Q1 hQ U U U ?_
 exact cB (gR.2 ⟨fun q=>⟨B,q⟩,fun q=>q.2⟩)
theorem Fc (iq x:Int):
 dG Tryz.prog 26 [(vI iq),(Value.int .u8 x)] [(rd gS 3 2 fP)] (vB (decide (tI d_ iq=0∧vQ d_ iq=x))):=by
 refine bG kr Tryz.func26 U U fun c Q hQ hN=>?_
 try dsimp only
 refine WS fun _ X=>rP 1 [] mn ?_
 refine RK X<|WS fun _ Y=>cX sr (aO) U fun b a=>?_
 obtain ⟨S,V,T,W,AA,C,G,D,H,E,AB,F,J,O,K,L,P,R⟩:=b
 try dsimp only
 obtain ⟨N,Z,M⟩:=a
 refine bD 1 U<|rS (CL (OM d_ S V AA T W C G D H E AB O F J K L P R iq (by exact N)) (gY 10 U U<|aK (aC (n:=d_.Race.ar.aV.length) 0 U sm)<|aK (aC (n:=d_.Race.ar.aj.length) 1 U (km Z))<|aK (fT 2 U n8)<|aK (aC (n:=d_.Race.ar.ab.length) 3 U sm)<|aK (aC (n:=d_.Race.aY.length) 4 U sm)<|aK (aC (n:=d_.Race.ck.length) 5 U sm)<|aK (aC (n:=d_.Race.aB.length) 6 U (hH M.1))<|aK (lY 7 U M)<|aK (aC (n:=d_.ay.length) 8 U sm)<|aK (aC (n:=d_.aD.length) 9 U sm)<|aO) U)<|bD 5 U<|RK Y<|WS fun _ A=>rP 3 [] mn ?_
 refine cp (t:=15) U (aT fun B=>?_) (aU fun B=>?_)
 ·refine rP 5 [] mn ?_
  refine RK A<|aq<|Q1 hQ U U U ?_
  exact cB (bE fun q=>B q.1).symm
 refine bD 2 U<|rS (BI U lE)<|rP 2 [] mn ?_
 refine RK A<|aq<|Q1 hQ U U U ?_
 exact cB (gR.2 ⟨fun q=>⟨B,q⟩,fun q=>q.2⟩)
end
section
open Go.RowKit
theorem IT:
 dG Tryz.prog 8 [] [(rd gS 3 2 fP)] (vB true):=by
 refine bG kr Tryz.func8 U U fun w0 Q hQ hN=>?_
 try dsimp only
 refine WS fun _ J8=>rP 1 [] mn ?_
 refine RK J8<|WS fun _ J9=>cX sr (aO) U fun y3 Km=>?_
 obtain ⟨If,J4,Jf,J6,J3,K,l,O,r,T,w,X,AC,GE,Ay,A3,Hi,IL⟩:=y3
 try dsimp only
 obtain ⟨B,C,A⟩:=Km
 refine cX (CG d_ If J4 J3 Jf J6 K l O r T w GE X AC Ay A3 Hi IL (by exact B)) (gY 10 U U<|aK (aC (n:=d_.Race.ar.aV.length) 0 U sm)<|aK (aC (n:=d_.Race.ar.aj.length) 1 U (km C))<|aK (fT 2 U n8)<|aK (aC (n:=d_.Race.ar.ab.length) 3 U sm)<|aK (aC (n:=d_.Race.aY.length) 4 U sm)<|aK (aC (n:=d_.Race.ck.length) 5 U sm)<|aK (aC (n:=d_.Race.aB.length) 6 U (hH A.1))<|aK (lY 7 U A)<|aK (aC (n:=d_.ay.length) 8 U sm)<|aK (aC (n:=d_.aD.length) 9 U sm)<|aO) U fun K0 LE=>?_
 obtain ⟨In,J5⟩:=K0
 try dsimp only
 refine AH [0,11] U U<|rP 5 [] mn ?_
 refine RK J9<|WS fun _ DS=>cX sr (aO) U fun K4 FS=>?_
 obtain ⟨E,f,H,i,c,L,o,P,s,AA,x,Y,AD,GT,A0,A4,H1,IO⟩:=K4
 try dsimp only
 obtain ⟨B,C,A⟩:=FS
 refine cX (Hx d_ E f c H i L o P s AA x GT Y AD A0 A4 H1 IO (by exact B)) (gY 11 U U<|aK (aC (n:=d_.Race.ar.aV.length) 0 U sm)<|aK (aC (n:=d_.Race.ar.aj.length) 1 U (km C))<|aK (fT 2 U n8)<|aK (aC (n:=d_.Race.ar.ab.length) 3 U sm)<|aK (aC (n:=d_.Race.aY.length) 4 U sm)<|aK (aC (n:=d_.Race.ck.length) 5 U sm)<|aK (aC (n:=d_.Race.aB.length) 6 U (hH A.1))<|aK (lY 7 U A)<|aK (aC (n:=d_.ay.length) 8 U sm)<|aK (aC (n:=d_.aD.length) 9 U sm)<|aO) U fun K5 FV=>?_
 obtain ⟨A7,Jx,J7⟩:=K5
 try dsimp only
 have Eq:=FV
 refine AH [0,1,12,13] U U<|rP 5 [] mn ?_
 refine RK DS<|WS fun _ Di=>cX sr (aO) U fun K8 Fd=>?_
 obtain ⟨F,g,AB,j,d,M,p,R,u,V,y,Z,AF,Go,A1,A5,IB,IR⟩:=K8
 try dsimp only
 obtain ⟨B,C,A⟩:=Fd
 refine rS (CL (M6 d_ F g d AB j M p R u V y Go Z AF A1 A5 IB IR (by exact B)) (gY 13 U U<|aK (aC (n:=d_.Race.ar.aV.length) 0 U sm)<|aK (aC (n:=d_.Race.ar.aj.length) 1 U (km C))<|aK (fT 2 U n8)<|aK (aC (n:=d_.Race.ar.ab.length) 3 U sm)<|aK (aC (n:=d_.Race.aY.length) 4 U sm)<|aK (aC (n:=d_.Race.ck.length) 5 U sm)<|aK (aC (n:=d_.Race.aB.length) 6 U (hH A.1))<|aK (lY 7 U A)<|aK (aC (n:=d_.ay.length) 8 U sm)<|aK (aC (n:=d_.aD.length) 9 U sm)<|aO) U)<|AH [10,11,12,13] U U<|rP 7 [] mn ?_
 refine RK Di<|WS fun _ Do=>cX sr (aO) U fun LA Fn=>?_
 obtain ⟨G,h,J,k,e,N,q,S,v,W,z,a,AO,Hh,A2,A6,IC,Id⟩:=LA
 try dsimp only
 obtain ⟨B,C,A⟩:=Fn
 refine rS (CL (NL d_ G h e J k N q S v W z Hh a AO A2 A6 IC Id 0 (by exact B)) (gY 13 U U<|aK (aC (n:=d_.Race.ar.aV.length) 0 U sm)<|aK (aC (n:=d_.Race.ar.aj.length) 1 U (km C))<|aK (fT 2 U n8)<|aK (aC (n:=d_.Race.ar.ab.length) 3 U sm)<|aK (aC (n:=d_.Race.aY.length) 4 U sm)<|aK (aC (n:=d_.Race.ck.length) 5 U sm)<|aK (aC (n:=d_.Race.aB.length) 6 U (hH A.1))<|aK (lY 7 U A)<|aK (aC (n:=d_.ay.length) 8 U sm)<|aK (aC (n:=d_.aD.length) 9 U sm)<|aO) U)<|AH [10,11,12,13] U U<|bD 5 U<|RK Do<|WS fun _ EQ=>rS (CL (xT 0 0 1) (bu [3]) U)<|rP 1 [] mn ?_
 refine cp (t:=32) U (aT fun A8=>?_) (aU fun A8=>?_)
 ·exact absurd (Pc) A8
 refine rS (CL (xT 1 0 2) (bu [3]) U)<|rP 2 [] mn ?_
 refine cp (t:=35) U (aT fun A9=>?_) (aU fun A9=>?_)
 ·exact absurd (OU) A9
 refine rS (CL (xT 3 0 0) (bu [3]) U)<|rP 2 [] mn ?_
 refine cp (t:=38) U (aT fun Bp=>?_) (aU fun Bp=>?_)
 ·exact absurd (Pu) Bp
 refine rS (CL (Fc 0 0) (bu [3]) U)<|rP 2 [] mn ?_
 refine cp (t:=41) U (aT fun B3=>?_) (aU fun B3=>?_)
 ·exact absurd (O3) B3
 refine rS (CL (Fc 1 2) (bu [3]) U)<|rP 2 [] mn ?_
 refine cp (t:=44) U (aT fun B9=>?_) (aU fun B9=>?_)
 ·exact absurd (Pk) B9
 refine rP 4 [] mn ?_
 refine cp (t:=48) U (aT fun Ci=>?_) (aU fun Ci=>?_)
 ·exact absurd (oq) Ci
 refine rP 1 [] mn ?_
 refine ej (xs:=[.const (vI 0)]) (cs:=[(vI 0)]) U dv kj U U U U (by simp [Value.cells]) U U fun J2=>?_
 refine rS (CL (DD (kp d_) In J5 ([0]) (some ⟨J2,0,none⟩) 1 (by rw [Ob]; decide) dc) (aK (aC (n:=(kp d_).length) 3 U sm)<|aK (bw 0 U U (by simp [bL]) U)<|aO) U) ?_
 refine rP 2 [] mn ?_
 refine cp (t:=53) U (aT fun Ck=>?_) (aU fun Ck=>?_)
 ·exact absurd (Ob) Ck
 refine rP 4 [] mn ?_
 refine cp (t:=57) U (aT fun Cp=>?_) (aU fun Cp=>?_)
 ·exact absurd (oq) Cp
 refine rP 1 [] mn ?_
 refine ej (xs:=[.const (vI 0)]) (cs:=[(vI 0)]) U dv kj U U U U (by simp [Value.cells]) U U fun D=>ej (xs:=[.tmp 59,.const (vS none 0 0)]) (cs:=[(vS (some ⟨D,0,none⟩) 1 1),(vS none 0 0)]) U Dy SV U U U U (by simp [Value.cells]) U U fun b=>?_
 refine fy (es:=(([0]:List Int).map iC)) (C':=[_,(own (some ⟨D,0,none⟩) 1 3 1 (([0]:List Int).map iC)),_,_,_,_,_]) 1 U (nt bL _) U (by show _≤maxLen; exact Nat.le_trans (m:=10) (show (1:Nat)≤10 by decide) dc) U ?_
 refine jO 3 1 ?_
 refine fy (es:=(List.zipWith uM [([0]:List Int),([]:List Int)] [((some ⟨D,0,none⟩),1),(none,0)])) (C':=[_,(own (some ⟨b,0,none⟩) 2 29 1 (List.zipWith uM [([0]:List Int),([]:List Int)] [((some ⟨D,0,none⟩),1),(none,0)])),_,_,_,_,_,_]) 1 U (qN O7) U (by show _≤maxLen; exact Nat.le_trans (m:=10) (show (2:Nat)≤10 by decide) dc) U ?_
 refine Hm (bj Dv [([0]:List Int),([]:List Int)] [((some ⟨D,0,none⟩),1),(none,0)]) [2,0] [1,3,4,5,6,7] U U ?_
 refine rS (CL (zU (iY d_) ([([0]:List Int),([]:List Int)]) A7 Jx J7 ([((some ⟨D,0,none⟩),1),(none,0)]) (some ⟨b,0,none⟩) 2 (by rw [Kl]; decide) dc (by rw [Kl]; decide) dc (by exact Eq) (by rfl)) (aK (aC (n:=(iY d_).length) 3 U (nq Eq))<|aK (fT 4 U FK)<|aK (aC (n:=([([0]:List Int),([]:List Int)]).length) 1 U sm)<|aK (fT 0 U FK)<|aO) U) ?_
 refine rP 2 [] mn ?_
 refine cp (t:=63) U (aT fun Cx=>?_) (aU fun Cx=>?_)
 ·exact absurd (Kl) Cx
 refine rP 4 [] mn ?_
 refine cp (t:=67) U (aT fun C0=>?_) (aU fun C0=>?_)
 ·exact absurd (oq) C0
 refine rP 4 [] mn ?_
 refine cp (t:=71) U (aT fun C1=>?_) (aU fun C1=>?_)
 ·exact absurd (Ot.1) C1
 refine rP 4 [] mn ?_
 refine cp (t:=75) U (aT fun C2=>?_) (aU fun C2=>?_)
 ·exact absurd (Ot.2) C2
 refine rP 4 [] mn ?_
 refine cp (t:=79) U (aT fun C3=>?_) (aU fun C3=>?_)
 ·exact absurd (Oj.1) C3
 refine rP 4 [] mn ?_
 refine RK EQ<|aq<|Q1 hQ U U U ?_
 exact cB (dx Oj.2)
end
section
open Go.RowKit
theorem HL (j:cN) (kA:OA) (kC:Nat) (az:List RA) (cA:OA) (cC:Nat) (bA:OA) (bC:Nat) (slA:OA) (slC:Nat) (drA:OA) (drC:Nat) (ha:List cW) (heA:OA) (heC:Nat) (faA:OA) (faC:Nat) (prA:OA) (prC:Nat) (which before after:Int) (hraw:sk j az ha) (hwb:0≤which∧which≤255) (hb1:0≤before∧before≤4294967295) (hb2:0≤after∧after≤4294967295):
 dG Tryz.prog 7 [(vA (fz.cells (nY j kA kC cA cC bA bC slA slC drA drC heA heC faA faC prA prC))),(Value.int .u8 which),(Value.int .u32 before),(Value.int .u32 after)] [(rd gS 3 2 fP),(rd kA j.Race.ar.aV.length 9 (j.Race.ar.aV.map ao.cells)),(rd cA j.Race.ar.aj.length 2 (List.zipWith aw.cells j.Race.ar.aj az)),(dR (bj aw.f_ j.Race.ar.aj az)),(rd bA j.Race.ar.ab.length 4 (j.Race.ar.ab.map bJ.cells)),(rd slA j.Race.aY.length 1 (j.Race.aY.map iC)),(rd drA j.Race.ck.length 1 (j.Race.ck.map iC)),(rd heA j.Race.aB.length 1 (List.zipWith cL j.Race.aB ha)),(dR (bj eY j.Race.aB ha)),(rd faA j.ay.length 4 (j.ay.map aM.cells)),(rd prA j.aD.length 5 (j.aD.map aX.cells))] (vB true):=by
 refine bG kr Tryz.func7 U U fun w0 Q hQ hN=>?_
 try dsimp only
 refine WS fun _ T1=>eI U fun b2=>bD 1 U<|RK T1<|WS fun _ T4=>rS (CL IT (bu [1]) U)<|bD 1 U<|RK T4<|ak fun _ T5=>WS fun _ Ci=>eQ 1 [] (mc 0 U mn) U<|rS (CL (Iw j kA kC az cA cC bA bC slA slC drA drC ha heA heC faA faC prA prC hraw) (bu [2,3,4,5,6,7,8,9,10,11]) U)<|rP 2 [] mn ?_
 refine b_ (t:=35) U (bq fun E=>?_) (br fun E=>?_)
 ·refine bD 9 U<|RK Ci<|aS U<|WS fun _ T6=>rP 2 [] mn ?_
  refine RK T6<|aq ?_
  exact Q1 hQ U U U U
 have C:=hraw.small E.1
 have B3:=C.race
 have VS:=C.race.line
 have WZ:=C.race.ij
 have Wh:=C.race.has
 have WL:=C.race.ic
 have WD:=C.nf
 have WI:=C.np
 have Ru:=(eP E.2).1
 have A2:=(eP E.2).2
 have VR:=(eU Ru).1
 have Di:=(eU Ru).2
 have UV:=(dM VR).2.head
 unfold eW at UV
 have Wz:=Di.num
 have Wy:=Di.nh
 have Wx:=A2.nf
 have W0:=A2.np
 have WX:=A2.sK
 have A0:0≤j.Race.ar.bS:=by omega
 refine rP 6 [] (mc 0 U mn) ?_
 refine b_ (t:=41) U (aU fun S1=>?_) (aT fun S1=>?_)
 ·refine bD 3 U<|RK Ci<|aS U<|WS fun _ T7=>rP 2 [] mn ?_
  refine RK T7<|aq ?_
  exact Q1 hQ U U U U
 refine bD 3 U<|RK Ci<|bR U<|WK T5<|WS fun _ T8=>bD 1 U<|rS (SX (nm (m:=which) U U L_ si (mN (by first|assumption|omega))) U U)<|eQ 3 [] (mc 0 U mn) U<|rS (BI U (Fx I I))<|rP 1 [] mn ?_
 refine RK T8<|ak fun _ T9=>?_
 have W1:=Tt which (j.ay.length:Int) hwb.1 I
 obtain ⟨k,VO,R0⟩: ∃ k:Nat,(which % (j.ay.length:Int))=(k:Int)∧k<j.ay.length:=⟨((which % (j.ay.length:Int))).toNat,I,I⟩
 rw [VO]
 refine au<|rP 1 [] (mc 0 U mn) ?_
 refine cX (Nc j kA kC az cA cC bA bC slA slC drA drC ha heA heC faA faC prA prC (by exact C) (by exact E.1)) (bu [2,3,4,5,6,7,8,9,10,11]) U fun Vj R5=>?_
 obtain ⟨Do,GE,EQ,GT,Fn,Eq,Go,FS,Hh,FV,Hi,Fd,H1,R7,T,AA,R8,R9⟩:=Vj
 try dsimp only
 obtain ⟨⟨C0,Pw⟩,A1⟩:=R5
 try dsimp only at C0 Pw A1
 have hin2r:=B3.PT C0 Pw A1
 have WH:gG j _ _:=⟨hin2r,C.nf,C.np,C.kind⟩
 refine AL U QH fun WP=>fG U Qp U<|RK T9<|ak fun _ If=>?_
 refine Da 9 U (by rw [List.length_map]; omega) (fun WC D=>?_)
 refine au<|rP 3 [] (mc 0 U mn) ?_
 obtain ⟨f,hf⟩:=aL j.ay k I
 have C2:=bM aM.cells hf
 refine rS (Wu k U D wi I I)<|rP 1 [] mn ?_
 refine RK If<|ak fun _ In=>dA ct [22,24,25] [4,5,13,14,21] [] [0,1,2,3,4,5,6,7,8,10,11,12,13,14,15,16,17,18,19,20,21,22] [0,1,2,3,4,5,6,7,8,9,10,11,12,13,14,15,16,17,18,19,20,21,22] U U U U U<|eS U (MV U)<|eS U (MV U)<|eS U (MV U)<|eS U (SX (rG U U D) U U)<|fS U (TV ((k*4)+2) U D fj U)<|fS U (g6 k 2 (vI f.gu) U cj (aC (n:=j.ay.length) 9 U sm) C2 U dc U)<|eS U (MV U)<|eS U (SX (nm (m:=before) U U MK si (uI (by first|assumption|omega))) U U)<|eS U (BI U (Fx I I)) ?_
 have C3:=A2.fault f (aR hf)
 have WE:=C3.2.1
 refine eS U (BI U (vK ⟨I,I⟩))<|eS U (MX U)<|eS U (MV U)<|eS U (SX (rG U U D) U U)<|fS U (TV ((k*4)+3) U D fj U)<|fS U (g6 k 3 (vI f.To) U cj (aC (n:=j.ay.length) 9 U sm) C2 U dc U)<|eS U (MV U)<|eS U (SX (nm (m:=after) U U MK si (uI (by first|assumption|omega))) U U)<|eS U (BI U (Fx I I))<|eS U (BI U (nO ⟨I,I⟩))<|eS U (MN U)<|eS U (SX (rG U U D) U U)<|fS U (TV ((k*4)+2) U D fj U)<|eS U (SX (rG U U D) U U)<|eh U<|cd U fun T35 L3=>fW (k:=k) (o:=2) (vs:=[(vI (max 0 (f.gu-(before % 3000))))]) (es':=(List.map aM.cells (j.ay.set k (aM.mk f.Kind f.eL (max 0 (f.gu-(before % 3000))) f.To)))) (C':=[_,_,_,_,_,_,_,_,_,(own T AA 80 4 (List.map aM.cells (j.ay.set k (aM.mk f.Kind f.eL (max 0 (f.gu-(before % 3000))) f.To)))),_,_,_,_,_,_,_,_,_,_,_,_,_]) 9 U U U CU U U U U C2 U dc (by exact (List.map_set (f:=aM.cells) (l:=j.ay) (i:=k) (a:=(aM.mk f.Kind f.eL (max 0 (f.gu-(before % 3000))) f.To))).symm) U<|aF (L3 _ _ (aQ [0,1,2,3,4,5,6,7,8,10,11,12,13,14,15,16,17,18,19,20,21,22]) ?_)
 refine cd U fun T36 Mu=>rS (TV ((k*4)+3) U D fj U)<|aF (Mu _ _ (aQ [0,1,2,3,4,5,6,7,8,10,11,12,13,14,15,16,17,18,19,20,21,22]) ?_)
 refine cd U fun T37 M2=>?_
 obtain ⟨f1,P6⟩:=aL (j.ay.set k (aM.mk f.Kind f.eL (max 0 (f.gu-(before % 3000))) f.To)) k os
 have hf1m:(List.map aM.cells (j.ay.set k (aM.mk f.Kind f.eL (max 0 (f.gu-(before % 3000))) f.To)))[k]? =some (aM.cells f1):=by rw [fM,P6]; rfl
 have NE:((j.ay.set k (aM.mk f.Kind f.eL (max 0 (f.gu-(before % 3000))) f.To)).set k (aM.mk f1.Kind f1.eL f1.gu (min 86400000 (f.To+(after % 3000)))))=(j.ay.set k (m8 f (before % 3000) (after % 3000))):=by exact Md P6 R0 rfl
 refine fW (k:=k) (o:=3) (vs:=[(vI (min 86400000 (f.To+(after % 3000))))]) (es':=(List.map aM.cells (j.ay.set k (m8 f (before % 3000) (after % 3000))))) (C':=[_,_,_,_,_,_,_,_,_,(own T AA 80 4 (List.map aM.cells (j.ay.set k (m8 f (before % 3000) (after % 3000))))),_,_,_,_,_,_,_,_,_,_,_,_,_]) 9 U U U CU U U U U hf1m U dc (by exact (List.map_set (f:=aM.cells) (l:=(j.ay.set k (aM.mk f.Kind f.eL (max 0 (f.gu-(before % 3000))) f.To))) (i:=k) (a:=(aM.mk f1.Kind f1.eL f1.gu (min 86400000 (f.To+(after % 3000)))))).symm.trans (congrArg _ NE)) U<|aF (M2 _ _ (aQ [0,1,2,3,4,5,6,7,8,10,11,12,13,14,15,16,17,18,19,20,21,22]) ?_)
 refine fp U<|KK In<|ak fun _ Jf=>?_
 rw [show bH.mk T j.ay.length AA=bH.mk T ((yF j k (m8 f (before % 3000) (after % 3000))).ay.length) AA from by rw [show (yF j k (m8 f (before % 3000) (after % 3000))).ay.length=j.ay.length from List.length_set]]
 have A3:=NJ C3 (show 0≤before % 3000 by omega) (show 0≤after % 3000 by omega)
 have WW:dE (yF j k (m8 f (before % 3000) (after % 3000)))=0:=Ff E.2 hf rfl rfl A3.1 A3.2
 have RP:gG (yF j k (m8 f (before % 3000) (after % 3000))) _ _:=⟨hin2r,by show (j.ay.set k _).length≤_; rw [List.length_set]; exact C.nf,C.np,fun g hg=>by rcases List.mem_or_eq_of_mem_set hg with h|rfl; exact C.kind g h; exact C.kind f (aR hf)⟩
 have U5:=M0 E.2 R0
 have Qe:=Jm E.2 hf
 refine au<|rP 2 [] (mc 11 U mn) ?_
 refine cX (Rp j kA kC az cA cC bA bC slA slC drA drC ha heA heC faA faC prA prC (k:Int) asm) (bu [12,13,14,15,16,17,18,19,20,21,22]) U fun V7 R6=>?_
 obtain ⟨Y,WN,WU⟩:=V7
 try dsimp only
 have W:=R6
 refine rP 5 [] mn ?_
 refine RK Jf<|ak fun _ Jx=>WS fun _ J2=>?_
 try dsimp only at W
 refine rP 3 [] mn ?_
 refine b_ (t:=90) U (bq fun IR=>?_) (br fun IR=>?_)
 ·exact absurd (U5) IR
 refine rP 8 [] (mc 13 U mn) ?_
 refine RK J2<|cx U (bq fun T0=>?_) (br fun T0=>?_)
 ·exact absurd Qe I
 refine WK Jx<|ak fun _ J3=>WS fun _ J4=>rP 5 [] (mc 13 U mn) ?_
 refine RK J4<|aH ?_
 have K:(0≤j.Race.aB.length):=by exact Nat.zero_le _
 refine bY (ι:={z:Nat // (z≤j.Race.aB.length)}) [4,9,10,11,13,101,102] [0,1,2,3,4,5,6,7,8,9,10,11,12,13,14,15,16,17,18,19,20,21,22,23,24] U U (fun z=>[(103,(vI (z.1:Int)))]) (fun z=>[]) (fun _=>rfl) (fun _=>rfl) (fun z=>j.Race.aB.length-z.1) ⟨0,K⟩ (bB U) (aQ [0,1,2,3,4,5,6,7,8,9,10,11,12,13,14,15,16,17,18,19,20,21,22,23,24]) ?_
 clear K
 rintro ⟨h,ST⟩ J49 Id
 try dsimp only
 refine WS fun _ J5=>rP 1 [] mn ?_
 refine RK J5<|ak fun _ J6=>bW U (aT fun S2=>?_) (aU fun S2=>?_)
 ·refine bP<|ai<|ai<|aJ<|KK J3<|WS fun _ AD=>rP 2 [] mn ?_
  refine RK AD<|aq ?_
  exact Q1 hQ U U U U
 refine WK J6<|ak fun _ J7=>aH<|WS fun _ J8=>rP 1 [] mn ?_
 obtain ⟨ht,J⟩:=aL j.Race.aB h I
 obtain ⟨S,O⟩:=aL ha h I
 have Qr:(List.zipWith cL j.Race.aB ha)[h]? =some (cL ht S):=dy J O
 refine rS (IA h U (aA 21 U) oh dc I I)<|rS (g6 h 0 (vS S.1.1 ht.length S.1.2) U cj (aA 21 U) Qr U dc U)<|bD 2 U<|RK J8<|WS fun _ J9=>rP 1 [] mn ?_
 refine RK J9<|ak fun _ Km=>WS fun _ K0=>?_
 have P8:=B3.gf _ _ _ J O
 have WF:=P8.og
 have WG:=(Di.gf ht (aR J)).1
 refine rP 3 [] mn ?_
 refine RK K0<|aH ?_
 have K:(0≤ht.length):=by exact Nat.zero_le _
 refine bY (ι:={z:Nat // (z≤ht.length)}) [4,9,10,11,13,15,16,101,102,103,108,109] [0,1,2,3,4,5,6,7,8,9,10,11,12,13,14,15,16,17,18,19,20,21,22,23,24] U U (fun z=>[(17,(vI (((jn (qV j f ht) z.1).length:Nat):Int))),(110,(vI (z.1:Int)))]) (fun z=>[]) (fun _=>rfl) (fun _=>rfl) (fun z=>ht.length-z.1) ⟨0,K⟩ (bB U) (aQ [0,1,2,3,4,5,6,7,8,9,10,11,12,13,14,15,16,17,18,19,20,21,22,23,24]) ?_
 clear K
 rintro ⟨q,Sz⟩ J58 A
 try dsimp only
 have WY:=pX (P:=qV j f ht) (n:=q)
 refine WS fun _ K4=>rP 1 [] mn ?_
 refine RK K4<|ak fun _ K5=>bW U (aT fun TO=>?_) (aU fun TO=>?_)
 ·refine bP<|ai<|ai<|aJ<|KK Km<|WS fun _ AC=>rP 3 [] mn ?_
  obtain ⟨row,L⟩:=aL (kN j (k:Int)) h I
  obtain ⟨rowa,M⟩:=aL Y h I
  have R:(List.zipWith uM (kN j (k:Int)) Y)[h]? =some (uM row rowa):=dy L M
  refine rS (IA h U (aC (n:=(kN j (k:Int)).length) 0 U (nq W)) Dy dc I I)<|rS (g6 h 0 (vS rowa.1 row.length rowa.2) U cj (aC (n:=(kN j (k:Int)).length) 0 U (nq W)) R U dc U)<|rP 2 [] mn ?_
  refine RK AC<|cx U (bq fun v=>?_) (br fun v=>?_)
  ·exfalso; rw [Fj E.2 hf J L,show q=ht.length by omega] at v; exact v rfl
  refine cf<|aN<|KK J7<|au<|rP 2 [] mn ?_
  refine aF ?_
  have Ay:(vI (((h+1):Nat):Int))=(vI ((h:Int)+1)):=by exact cI I
  refine bg (Id ⟨(h+1),(by first|omega|(simp only []; omega))⟩ _ _ _ U os (cG 7<|bf U Ay<|dh.nil _) (aQ [0,1,2,3,4,5,6,7,8,9,10,11,12,13,14,15,16,17,18,19,20,21,22,23,24]))
 refine WK K5<|ak fun _ B=>aH<|WS fun _ K8=>rP 1 [] mn ?_
 obtain ⟨d,hd⟩:=aL ht q I
 obtain ⟨da,C1⟩:=aL S.2 q I
 have UU:(List.zipWith av.cells ht S.2)[q]? =some (av.cells d da):=dy hd C1
 refine rS (IA q U (show iK _ (rd S.1.1 ht.length 7 (List.zipWith av.cells ht S.2)).holds from (cO 22 U (bK J O cy))) qJ dc I I)<|rS (lx q 0 (aP.cells (aP.mk d.Out d.dj d.Time (cz.mk d.a_.Start d.a_.fR (bH.mk da.1 d.a_.aa.length da.2)))) U cj (show iK _ (rd S.1.1 ht.length 7 (List.zipWith av.cells ht S.2)).holds from (cO 22 U (bK J O cy))) UU U dc U U)<|AL U Aa fun WQ=>bD 1 U<|fG U DC U<|RK K8<|WS fun _ LA=>eQ 4 [] (mc 14 U mn) U<|rS (CL (Ah j kA kC az cA cC bA bC slA slC drA drC ha heA heC faA faC prA prC (k:Int) (h:Int) (q:Int) asm) (bu [15,16,17,18,19,20,21,22,23,24,25]) U)<|bD 5 U<|RK LA<|WS fun _ LE=>rP 4 [] (mc 3 U mn) ?_
 refine rS (CL (Ah (yF j k (m8 f (before % 3000) (after % 3000))) Do GE Fn EQ GT Eq Go FS Hh FV Hi R7 Fd H1 T AA R8 R9 (k:Int) (h:Int) (q:Int) (by exact RP)) (gY 15 U U<|aK (aC (n:=j.Race.ar.aV.length) 4 U (by (rw [List.length_map]; rfl)))<|aK (aC (n:=j.Race.ar.aj.length) 5 U (km C0))<|aK (fT 6 U n8)<|aK (aC (n:=j.Race.ar.ab.length) 7 U (by (rw [List.length_map]; rfl)))<|aK (aC (n:=j.Race.aY.length) 8 U (by (rw [List.length_map]; rfl)))<|aK (aC (n:=j.Race.ck.length) 9 U (by (rw [List.length_map]; rfl)))<|aK (aC (n:=j.Race.aB.length) 10 U (hH A1.1))<|aK (lY 11 U A1)<|aK (aC (n:=(j.ay.set k (m8 f (before % 3000) (after % 3000))).length) 12 U (by (rw [List.length_map]; rfl)))<|aK (aC (n:=j.aD.length) 13 U (by (rw [List.length_map]; rfl)))<|aO) U) ?_
 refine rP 5 [] mn ?_
 refine RK LE ?_
 have N:=uQ E.2 hf J hd
 have R3:=Dn (f':=(m8 f (before % 3000) (after % 3000))) E.2 hf J hd rfl rfl A3.1 A3.2
 refine mD (ι:=Unit) [4,9,10,11,13,15,16,17,18,19,20,21,22,23,101,102,103,108,109,110] [0,1,2,3,4,5,6,7,8,9,10,11,12,13,14,15,16,17,18,19,20,21,22,23,24,25] U U (fun z=>[(24,(vB (!(decide ((ld j (k:Int) (h:Int) (q:Int))=0)))))]) (fun z=>[]) (fun _=>rfl) (fun _=>rfl) ?_ fun K67 A9=>?_
 ·intro _
  try dsimp only
  refine mD (ι:=Unit) [4,9,10,11,13,15,16,18,19,20,21,22,23,24,101,102,103,108,109,110] [0,1,2,3,4,5,6,7,8,9,10,11,12,13,14,15,16,17,18,19,20,21,22,23,24,25] U U (fun z=>[(17,(vI (((jn (qV j f ht) (q+1)).length:Nat):Int)))]) (fun z=>[]) (fun _=>rfl) (fun _=>rfl) ?_ fun K68 Bp=>?_
  ·intro _
   try dsimp only
   refine ak fun _ y=>WS fun _ AC=>rP 3 [] mn ?_
   refine b_ (t:=154) U (bq fun A4=>?_) (br fun A4=>?_)
   ·exact absurd (N.1) A4
   refine rP 4 [] mn ?_
   refine b_ (t:=158) U (bq fun A5=>?_) (br fun A5=>?_)
   ·exact absurd (R3.1) A5
   refine bD 2 U<|rS (BI U qh)<|rS (BI U (Pv UR))<|rP 2 [] mn ?_
   refine b_ (t:=164) U (fun Z=>?_) (fun Z=>?_)
   ·rw [Bool.not_eq_true'] at Z
    exfalso; simp at Z
   rw [Bool.not_eq_false'] at Z
   refine bD 2 U<|rS (BI U pg)<|rP 1 [] mn ?_
   refine RK AC<|cx U (aU fun IB=>?_) (aT fun IB=>?_)
   ·exfalso; have:=R3.2; omega
   refine WK y<|ak fun _ LT=>WS fun _ AD=>eQ 1 [] (mc 0 U mn) U<|rS (CL (KM d.Out d.dj d.Time (cz.mk d.a_.Start d.a_.fR (bH.mk da.1 d.a_.aa.length da.2))) (aO) U)<|rP 1 [] mn ?_
   refine RK AD<|cx U (bq fun V=>?_) (br fun V=>?_)
   ·refine bP<|ai<|aJ<|KK B<|au<|rP 2 [] mn ?_
    refine aF ?_
    have Op:(vI (((q+1):Nat):Int))=(vI ((q:Int)+1)):=by exact cI I
    refine bg (A ⟨(q+1),(by first|omega|(simp only []; omega))⟩ _ _ _ U os (cG 13<|bf U Op<|dh.nil _) (aQ [1,2,3,4,5,6,7,8,9,10,11,12,13,14,15,16,17,18,19,20,21,22,23,24,25]))
   refine WK LT<|WS fun _ La=>?_
   have X:=JJ E.2 J hd V
   have p:=qL X
   have DS:=rV X A0
   have W2:=P8.sig d (aR hd)
   refine bD 2 U<|rS (LP (cv.cells (jN j.Race.ar kA kC cA cC bA bC)) 14 U cj U U U)<|bD 1 U<|rS (LP (cz.cells (cz.mk d.a_.Start d.a_.fR (bH.mk da.1 d.a_.aa.length da.2))) 0 U cj U U U)<|eQ 4 [] (mc 14 U mn) U<|rS (CL (wU j.Race.ar kA kC az cA cC bA bC d.a_ da.1 da.2 j.Race.ar.bS asm asm) (mT [16,17,18,19]<|aK (show iK _ (rd da.1 d.a_.aa.length 2 (d.a_.aa.map aG.cells)).holds from (cO 23 U (bK J O (dI _ (bK hd C1 (by simp [av.f_]))))))<|aO) U)<|bD 3 U<|AL U dV fun WR=>fG U cZ U<|bD 1 U<|RK La<|WS fun _ Li=>bD 2 U<|rS (LP (cv.cells (jN j.Race.ar kA kC cA cC bA bC)) 15 U cj U U U)<|rP 1 [] mn ?_
   refine rS (LP (cz.cells (cz.mk d.a_.Start d.a_.fR (bH.mk da.1 d.a_.aa.length da.2))) 1 U cj U U U)<|cX (F0 j.Race.ar kA kC az cA cC bA bC d.a_ da.1 da.2 asm asm) (mT [17,18,19,20]<|aK (show iK _ (rd da.1 d.a_.aa.length 2 (d.a_.aa.map aG.cells)).holds from (cO 24 U (bK J O (dI _ (bK hd C1 (by simp [av.f_]))))))<|aO) U fun WB WM=>?_
   obtain ⟨WO,WV⟩:=WB
   try dsimp only
   refine bD 5 U<|RK Li<|ak fun _ Lk=>WS fun _ Lo=>rP 3 [] mn ?_
   refine b_ (t:=196) U (bq fun A6=>?_) (br fun A6=>?_)
   ·exact absurd (X) A6
   refine rP 4 [] mn ?_
   refine b_ (t:=200) U (bq fun A7=>?_) (br fun A7=>?_)
   ·exact absurd (DS) A7
   refine rP 4 [] mn ?_
   refine RK Lo<|cx U (aU fun IC=>?_) (aT fun IC=>?_)
   ·exfalso; have:=xE DS; omega
   refine WK Lk<|ak fun _ L0=>dp ct 9 kr<|dP 1 [] mn ?_
   obtain ⟨w9,R4⟩:=aL (gn j.Race.ar d.a_) 0 I
   have hw9m:=bM iC R4
   refine dS (IA 0 U (aC (n:=(gn j.Race.ar d.a_).length) 0 U sm) dv dc U I)<|dS (g6 0 0 (vI w9) U cj (aC (n:=(gn j.Race.ar d.a_).length) 0 U sm) hw9m U dc U)<|dP 6 [] (mc 16 U mn) ?_
   refine cK<|RK L0<|ak fun _ L2=>?_
   have hf7m:=bM aM.cells hf
   refine au<|eQ 3 [] (mc 16 U mn) U<|rS (IA k U (aA 26 U) wi dc I I)<|rS (lx k 0 (aM.cells f) U cj (aA 26 U) hf7m U dc U U)<|AL U NY fun WT=>fG U Pj U<|RK L2<|ak fun _ AF=>WS fun _ AO=>bD 1 U<|rS (BI U qh)<|rP 1 [] mn ?_
   refine cp (t:=220) U (br fun u=>?_) (bq fun u=>?_)
   ·refine bD 17 U<|RK AO<|bR U<|WK AF<|WS fun _ e=>eQ 2 [] (mc 0 U mn) U<|rS (BI U lE)<|rP 1 [] mn ?_
    refine cp (t:=241) U (aT fun F=>?_) (aU fun F=>?_)
    ·refine bD 18 U<|RK e<|bR U<|cf<|aN<|KK B<|au<|rP 2 [] mn ?_
     refine aF ?_
     have Cx:(vI (((q+1):Nat):Int))=(vI ((q:Int)+1)):=by exact cI I
     refine bg (A ⟨(q+1),(by first|omega|(simp only []; omega))⟩ _ _ _ U os (cG 13<|bf U Cx<|dh.nil _) (aQ [4,5,6,7,8,9,10,11,12,13,14,15,16,17,18,19,20,21,22,23,24,25,26,27,28]))
    refine rP 8 [0,1] (mc 0 U (mc 3 U mn)) ?_
    refine cp (t:=249) U (aT fun G=>?_) (aU fun G=>?_)
    ·refine bD 10 U<|RK e<|bR U<|cf<|aN<|KK B<|au<|rP 2 [] mn ?_
     refine aF ?_
     have Cp:(vI (((q+1):Nat):Int))=(vI ((q:Int)+1)):=by exact cI I
     refine bg (A ⟨(q+1),(by first|omega|(simp only []; omega))⟩ _ _ _ U os (cG 13<|bf U Cp<|dh.nil _) (aQ [4,5,6,7,8,9,10,11,12,13,14,15,16,17,18,19,20,21,22,23,24,25,26,27,28]))
    refine rP 7 [0,1] (mc 0 U (mc 2 U mn)) ?_
    refine cp (t:=256) U (aT fun H=>?_) (aU fun H=>?_)
    ·refine bD 3 U<|RK e<|bR U<|cf<|aN<|KK B<|au<|rP 2 [] mn ?_
     refine aF ?_
     have Ck:(vI (((q+1):Nat):Int))=(vI ((q:Int)+1)):=by exact cI I
     refine bg (A ⟨(q+1),(by first|omega|(simp only []; omega))⟩ _ _ _ U os (cG 13<|bf U Ck<|dh.nil _) (aQ [4,5,6,7,8,9,10,11,12,13,14,15,16,17,18,19,20,21,22,23,24,25,26,27,28]))
    refine bD 1 U<|rS (BI U qh)<|rP 1 [] mn ?_
    refine RK e<|cx U (bq fun AB=>?_) (br fun AB=>?_)
    ·exfalso; exact AB (N.2.trans (tq F V X A0 p.2.1 p.2.2 G H))
    refine cf<|aN<|KK B<|au<|rP 2 [] mn ?_
    refine aF ?_
    have Pl:(vI (((q+1):Nat):Int))=(vI ((q:Int)+1)):=by exact cI I
    refine bg (A ⟨(q+1),(by first|omega|(simp only []; omega))⟩ _ _ _ U os (cG 13<|bf U Pl<|dh.nil _) (aQ [4,5,6,7,8,9,10,11,12,13,14,15,16,17,18,19,20,21,22,23,24,25,26,27,28]))
   refine rP 7 [0,1] (mc 0 U (mc 3 U mn)) ?_
   refine b_ (t:=227) U (aU fun IL=>?_) (aT fun IL=>?_)
   ·exfalso; have:=AN (fun q=>u (N.2.trans q)); omega
   refine rP 2 [] mn ?_
   refine cp (t:=229) U (aT fun A8=>?_) (aU fun A8=>?_)
   ·refine bD 8 U<|RK AO<|bR U<|WK AF<|WS fun _ c=>eQ 2 [] (mc 0 U mn) U<|rS (BI U lE)<|rP 1 [] mn ?_
    refine cp (t:=241) U (aT fun F=>?_) (aU fun F=>?_)
    ·refine bD 18 U<|RK c<|bR U<|cf<|aN<|KK B<|au<|rP 2 [] mn ?_
     refine aF ?_
     have Pi:(vI (((q+1):Nat):Int))=(vI ((q:Int)+1)):=by exact cI I
     refine bg (A ⟨(q+1),(by first|omega|(simp only []; omega))⟩ _ _ _ U os (cG 13<|bf U Pi<|dh.nil _) (aQ [4,5,6,7,8,9,10,11,12,13,14,15,16,17,18,19,20,21,22,23,24,25,26,27,28]))
    refine rP 8 [0,1] (mc 0 U (mc 3 U mn)) ?_
    refine cp (t:=249) U (aT fun G=>?_) (aU fun G=>?_)
    ·refine bD 10 U<|RK c<|bR U<|cf<|aN<|KK B<|au<|rP 2 [] mn ?_
     refine aF ?_
     have PP:(vI (((q+1):Nat):Int))=(vI ((q:Int)+1)):=by exact cI I
     refine bg (A ⟨(q+1),(by first|omega|(simp only []; omega))⟩ _ _ _ U os (cG 13<|bf U PP<|dh.nil _) (aQ [4,5,6,7,8,9,10,11,12,13,14,15,16,17,18,19,20,21,22,23,24,25,26,27,28]))
    refine rP 7 [0,1] (mc 0 U (mc 2 U mn)) ?_
    refine cp (t:=256) U (aT fun H=>?_) (aU fun H=>?_)
    ·refine bD 3 U<|RK c<|bR U<|cf<|aN<|KK B<|au<|rP 2 [] mn ?_
     refine aF ?_
     have PB:(vI (((q+1):Nat):Int))=(vI ((q:Int)+1)):=by exact cI I
     refine bg (A ⟨(q+1),(by first|omega|(simp only []; omega))⟩ _ _ _ U os (cG 13<|bf U PB<|dh.nil _) (aQ [4,5,6,7,8,9,10,11,12,13,14,15,16,17,18,19,20,21,22,23,24,25,26,27,28]))
    refine bD 1 U<|rS (BI U qh)<|rP 1 [] mn ?_
    refine RK c<|cx U (bq fun AB=>?_) (br fun AB=>?_)
    ·exfalso; exact AB (N.2.trans (tq F V X A0 p.2.1 p.2.2 G H))
    refine cf<|aN<|KK B<|au<|rP 2 [] mn ?_
    refine aF ?_
    have O8:(vI (((q+1):Nat):Int))=(vI ((q:Int)+1)):=by exact cI I
    refine bg (A ⟨(q+1),(by first|omega|(simp only []; omega))⟩ _ _ _ U os (cG 13<|bf U O8<|dh.nil _) (aQ [4,5,6,7,8,9,10,11,12,13,14,15,16,17,18,19,20,21,22,23,24,25,26,27,28]))
   refine rP 8 [0,1] (mc 0 U (mc 2 U mn)) ?_
   refine RK AO<|cx U (aU fun IO=>?_) (aT fun IO=>?_)
   ·exfalso; have:=As C3 A0 X (Eu DS R4 A8) (fun q=>u (N.2.trans q)); omega
   refine WK AF<|WS fun _ b=>eQ 2 [] (mc 0 U mn) U<|rS (BI U lE)<|rP 1 [] mn ?_
   refine cp (t:=241) U (aT fun F=>?_) (aU fun F=>?_)
   ·refine bD 18 U<|RK b<|bR U<|cf<|aN<|KK B<|au<|rP 2 [] mn ?_
    refine aF ?_
    have O6:(vI (((q+1):Nat):Int))=(vI ((q:Int)+1)):=by exact cI I
    refine bg (A ⟨(q+1),(by first|omega|(simp only []; omega))⟩ _ _ _ U os (cG 13<|bf U O6<|dh.nil _) (aQ [4,5,6,7,8,9,10,11,12,13,14,15,16,17,18,19,20,21,22,23,24,25,26,27,28]))
   refine rP 8 [0,1] (mc 0 U (mc 3 U mn)) ?_
   refine cp (t:=249) U (aT fun G=>?_) (aU fun G=>?_)
   ·refine bD 10 U<|RK b<|bR U<|cf<|aN<|KK B<|au<|rP 2 [] mn ?_
    refine aF ?_
    have O1:(vI (((q+1):Nat):Int))=(vI ((q:Int)+1)):=by exact cI I
    refine bg (A ⟨(q+1),(by first|omega|(simp only []; omega))⟩ _ _ _ U os (cG 13<|bf U O1<|dh.nil _) (aQ [4,5,6,7,8,9,10,11,12,13,14,15,16,17,18,19,20,21,22,23,24,25,26,27,28]))
   refine rP 7 [0,1] (mc 0 U (mc 2 U mn)) ?_
   refine cp (t:=256) U (aT fun H=>?_) (aU fun H=>?_)
   ·refine bD 3 U<|RK b<|bR U<|cf<|aN<|KK B<|au<|rP 2 [] mn ?_
    refine aF ?_
    have Os:(vI (((q+1):Nat):Int))=(vI ((q:Int)+1)):=by exact cI I
    refine bg (A ⟨(q+1),(by first|omega|(simp only []; omega))⟩ _ _ _ U os (cG 13<|bf U Os<|dh.nil _) (aQ [4,5,6,7,8,9,10,11,12,13,14,15,16,17,18,19,20,21,22,23,24,25,26,27,28]))
   refine bD 1 U<|rS (BI U qh)<|rP 1 [] mn ?_
   refine RK b<|cx U (bq fun AB=>?_) (br fun AB=>?_)
   ·exfalso; exact AB (N.2.trans (tq F V X A0 p.2.1 p.2.2 G H))
   refine cf<|aN<|KK B<|au<|rP 2 [] mn ?_
   refine aF ?_
   have Or:(vI (((q+1):Nat):Int))=(vI ((q:Int)+1)):=by exact cI I
   refine bg (A ⟨(q+1),(by first|omega|(simp only []; omega))⟩ _ _ _ U os (cG 13<|bf U Or<|dh.nil _) (aQ [4,5,6,7,8,9,10,11,12,13,14,15,16,17,18,19,20,21,22,23,24,25,26,27,28]))
  refine WS fun _ y=>rP 1 [] mn ?_
  refine RK y<|bW U (br fun s=>?_) (bq fun s=>?_)
  ·refine cf ?_
   have Ay:(vI (((jn (qV j f ht) (q+1)).length:Nat):Int))=(vI (((jn (qV j f ht) q).length:Nat):Int)):=by exact cI (by exact Pa N.2 hd s)
   refine bg (jl (cG 20<|bf U Ay<|dh.nil _) (aQ [0,1,2,3,4,5,6,7,8,9,10,11,12,13,14,15,16,17,18,19,20,21,22,23,24,25]) (Bp ()))
  refine au<|rP 3 [] mn ?_
  refine aF ?_
  have OB:(vI (((jn (qV j f ht) (q+1)).length:Nat):Int))=(vI ((((jn (qV j f ht) q).length:Nat):Int)+1)):=by exact cI (by exact Nh N.2 hd s)
  refine bg (jl (cG 20<|bf U OB<|dh.nil _) (aQ [0,1,2,3,4,5,6,7,8,9,10,11,12,13,14,15,16,17,18,19,20,21,22,23,24,25]) (Bp ()))
 refine au<|rP 3 [] mn ?_
 obtain ⟨row,L⟩:=aL (kN j (k:Int)) h I
 obtain ⟨rowa,M⟩:=aL Y h I
 have R:(List.zipWith uM (kN j (k:Int)) Y)[h]? =some (uM row rowa):=dy L M
 refine rS (IA h U (aC (n:=(kN j (k:Int)).length) 1 U (nq W)) Dy dc I I)<|rS (g6 h 0 (vS rowa.1 row.length rowa.2) U cj (aC (n:=(kN j (k:Int)).length) 1 U (nq W)) R U dc U) ?_
 have R2:=Fj E.2 hf J L
 have R1:q<ht.length:=by omega
 refine rP 3 [] mn ?_
 refine cp (t:=138) U (aT fun r=>?_) (aU fun r=>?_)
 ·refine rP 11 [] mn ?_
  refine aF ?_
  have Np:(vB (!(decide ((ld j (k:Int) (h:Int) (q:Int))=0))))=(vB false):=by exact cB (by rw [N.2,← wF (f:=f) hd]; exact (Ph R1 (by rw [R2] at r; exact r)).symm)
  refine bg (jl (cG 20<|bf U Np<|dh.nil _) (aQ [0,1,2,3,4,5,6,7,8,9,10,11,12,13,14,15,16,17,18,19,20,21,22,23,24,25]) (A9 ()))
 refine bD 2 U<|rS (IA h U (aC (n:=(kN j (k:Int)).length) 1 U (nq W)) Dy dc I I)<|rS (g6 h 0 (vS rowa.1 row.length rowa.2) U cj (aC (n:=(kN j (k:Int)).length) 1 U (nq W)) R U dc U)<|rP 1 [] mn ?_
 obtain ⟨x,hx⟩:=aL row ((jn (qV j f ht) q).length) I
 have Vd:=bM iC hx
 refine rS (IA ((jn (qV j f ht) q).length) U (show iK _ (rd rowa.1 row.length 1 (row.map iC)).holds from (fun w hw=>(fT 2 U FK) w hw _ (bK L M (by simp [OF])))) dv dc I I)<|rS (g6 ((jn (qV j f ht) q).length) 0 (vI x) U cj (show iK _ (rd rowa.1 row.length 1 (row.map iC)).holds from (fun w hw=>(fT 2 U FK) w hw _ (bK L M (by simp [OF])))) Vd U dc U)<|rP 4 [] mn ?_
 refine aF ?_
 have Ne:(vB (!(decide ((ld j (k:Int) (h:Int) (q:Int))=0))))=(vB (decide (x=(q:Int)))):=by exact cB (by rw [N.2,← wF (f:=f) hd]; exact (TH R1 (by rw [R2] at hx; exact hx)).symm)
 refine bg (jl (cG 20<|bf U Ne<|dh.nil _) (aQ [0,1,2,3,4,5,6,7,8,9,10,11,12,13,14,15,16,17,18,19,20,21,22,23,24,25]) (A9 ()))
end
section
open Go.RowKit
def fF {α:Type} (cells:α→List Value) (sz:Nat) (R:World→α→Prop) (w:World) (s:bH):Prop:= ∃ l:List α,s.n=l.length∧(rd s.a l.length sz (l.map cells)).holds w∧(∀ x∈l,R w x)∧l.length≤maxLen∧s.n≤s.c
theorem vD {w:World} {R:World→cQ→Prop}: ∀ {l:List dq},(∀ x∈l,fF cQ.cells 3 R w x.bI)→ ∃ (ms:List aw) (az:List RA),l.map dq.cells=List.zipWith aw.cells ms az∧ms.length=l.length∧az.length=l.length∧(∀ X∈bj aw.f_ ms az,X.holds w)∧
 (∀ (k:Nat) m (a:RA),ms[k]? =some m→az[k]? =some a→m.bI.length≤a.2∧m.bI.length≤9223372036854775807)∧ms.map (fun m=>m.dC)=l.map (fun x=>x.dC)∧ ∀ (k:Nat) m y,ms[k]? =some m→y∈m.bI→R w y
 |[],_=>⟨[],[],rfl,rfl,rfl,(fun X hX=>by cases hX),(fun k m a h=>by simp at h),rfl,(fun k m y h=>by simp at h)⟩
 |x::l,h=>by
  obtain ⟨ms,az,E,F,G,H,AA,J,K⟩:=vD (fun y hy=>h y (dI _ hy))
  obtain ⟨sy,A,B,C,D,L⟩:=h x sm
  have e4':sy.length≤9223372036854775807:=D
  refine ⟨⟨x.dC,sy⟩::ms,(x.bI.a,x.bI.c)::az,?_,by simp [F],by simp [G],fun X hX=>?_,fun k m a hm ha=>?_,by simp [J],fun k m y hm hy=>?_⟩
  ·obtain ⟨dr,⟨a,n,c⟩⟩:=x
   simp only at A
   subst A
   simp only [List.map_cons,List.zipWith_cons_cons,E]
   rfl
  ·rcases gJ.1 hX with hX|hX
   ·simp only [aw.f_,cq] at hX
    subst hX; exact B
   ·exact H X hX
  ·cases k with
   |zero=>
    simp only [List.getElem?_cons_zero,Option.some.injEq] at hm ha
    subst hm ha
    exact ⟨by simp only; omega,e4'⟩
   |succ k=>exact AA k m a (by simpa using hm) (by simpa using ha)
  ·cases k with
   |zero=>
    simp only [List.getElem?_cons_zero,Option.some.injEq] at hm
    subst hm
    exact C y hy
   |succ k=>exact K k m y (by simpa using hm) hy
theorem HJ {w:World} {s:cv} {R1:World→ao→Prop} {R2:World→dq→Prop} {R3:World→bJ→Prop} {R4:World→cQ→Prop} (h1:fF ao.cells 9 R1 w s.aV.kl) (hs: ∀ x,R1 w x→0≤x.jg∧x.jg≤255) (h2:fF dq.cells 2 R2 w s.aj) (hc: ∀ x,R2 w x→fF cQ.cells 3 R4 w x.bI) (h3:fF bJ.cells 4 R3 w s.ab):
 ∃ (l:bk) (az:List RA) (kA:OA) (kC:Nat) (cA:OA) (cC:Nat) (bA:OA) (bC:Nat),s=cv.mk (bO.mk (bH.mk kA l.aV.length kC)) l.iR (bH.mk cA l.aj.length cC) (bH.mk bA l.ab.length bC) l.bS l.fZ l.dL∧uk l az∧
  ((rd kA l.aV.length 9 (l.aV.map ao.cells)).holds w∧(rd cA l.aj.length 2 (List.zipWith aw.cells l.aj az)).holds w∧(dR (bj aw.f_ l.aj az)).holds w∧(rd bA l.ab.length 4 (l.ab.map bJ.cells)).holds w)∧l.iR=s.iR∧l.bS=s.bS∧l.fZ=s.fZ∧l.dL=s.dL:=by
 obtain ⟨⟨⟨ka,kn,kc⟩⟩,fa,⟨ca,cn,cc⟩,⟨ba,bn,bc⟩,fi,fk,mi⟩:=s
 obtain ⟨ts,E,M,N,O,T⟩:=h1
 obtain ⟨cs,B,C,H,AA,R⟩:=h2
 obtain ⟨bs,A,F,P,G,Q⟩:=h3
 simp only at E B A
 subst E B A
 obtain ⟨ms,az,J,D,S,K,L,_⟩:=vD (fun x hx=>hc x (H x hx))
 have t4':ts.length≤9223372036854775807:=O
 have c4':cs.length≤9223372036854775807:=AA
 have b4':bs.length≤9223372036854775807:=G
 refine ⟨⟨ts,fa,ms,bs,fi,fk,mi⟩,az,ka,kc,ca,cc,ba,bc,by simp only [D],⟨t4',fun x hx=>hs x (N x hx),by simp only; omega,by simp only; omega,b4',L⟩,⟨M,?_,K,F⟩,U,U,U,U⟩
 simp only at C ⊢
 rw [D,← J]; exact C
end
section
open Go.RowKit
theorem yg {w:World} {R:World→aG→Prop}: ∀ {l:List aP},(∀ x∈l,fF aG.cells 2 R w x.a_.aa)→ ∃ (ms:List av) (az:List RA),l.map aP.cells=List.zipWith av.cells ms az∧ms.length=l.length∧az.length=l.length∧(∀ X∈bj av.f_ ms az,X.holds w)∧
 ∀ d∈ms,d.a_.aa.length≤9223372036854775807
 |[],_=>⟨[],[],rfl,rfl,rfl,(fun X hX=>by cases hX),fun d h=>by cases h⟩
 |x::l,h=>by
  obtain ⟨ms,az,D,E,F,G,H⟩:=yg (fun y hy=>h y (dI _ hy))
  obtain ⟨sg,A,B,AA,C,J⟩:=h x sm
  have e4':sg.length≤9223372036854775807:=C
  refine ⟨⟨x.Out,x.dj,x.Time,⟨x.a_.Start,x.a_.fR,sg⟩⟩::ms,(x.a_.aa.a,x.a_.aa.c)::az,?_,by simp [E],by simp [F],fun X hX=>?_,fun d hd=>?_⟩
  ·obtain ⟨o,f,t,⟨st,nw,⟨a,n,c⟩⟩⟩:=x
   simp only at A
   subst A
   simp only [List.map_cons,List.zipWith_cons_cons,D]
   rfl
  ·rcases gJ.1 hX with hX|hX
   ·simp only [av.f_,cq] at hX
    subst hX; exact B
   ·exact G X hX
  ·rcases bT.1 hd with rfl|hd
   ·exact e4'
   ·exact H d hd
theorem xP {w:World} {R2:World→aP→Prop} {R:World→aG→Prop} (hc: ∀ x,R2 w x→fF aG.cells 2 R w x.a_.aa): ∀ {l:List bH},(∀ x∈l,fF aP.cells 7 R2 w x)→ ∃ (ms:List (List av)) (ha:List cW),(l.map fun s=>[vS s.a s.n s.c])=List.zipWith cL ms ha∧ms.length=l.length∧ha.length=l.length∧(∀ X∈bj eY ms ha,X.holds w)∧
 ∀ (k:Nat) h (a:cW),ms[k]? =some h→ha[k]? =some a→h.length≤9223372036854775807∧a.2.length=h.length∧ ∀ d∈h,d.a_.aa.length≤9223372036854775807
 |[],_=>⟨[],[],rfl,rfl,rfl,(fun X hX=>by cases hX),(fun k h a q=>by simp at q)⟩
 |x::l,h=>by
  obtain ⟨ms,ha,J,K,L,M,N⟩:=xP hc (fun y hy=>h y (dI _ hy))
  obtain ⟨ds,C,G,H,AA,P⟩:=h x sm
  obtain ⟨dm,az,D,B,O,E,F⟩:=yg fun y hy=>hc y (H y hy)
  have e4':ds.length≤9223372036854775807:=AA
  refine ⟨dm::ms,((x.a,x.c),az)::ha,?_,by simp [K],by simp [L],fun X hX=>?_,fun k m a hm A=>?_⟩
  ·obtain ⟨a,n,c⟩:=x
   simp only at C
   subst C
   simp only [List.map_cons,List.zipWith_cons_cons,J,cL,B]
  ·rcases gJ.1 hX with hX|hX
   ·unfold eY at hX
    rcases bT.1 hX with rfl|hX
    ·simp only
     rw [B,← D]; exact G
    ·exact E X hX
   ·exact M X hX
  ·cases k with
   |zero=>
    simp only [List.getElem?_cons_zero,Option.some.injEq] at hm A
    subst hm A
    exact ⟨I,by simp only; omega,F⟩
   |succ k=>exact N k m a (by simpa using hm) (by simpa using A)
theorem Ht {w:World} {s:fB} {R1:World→ao→Prop} {R2:World→dq→Prop} {R3:World→bJ→Prop} {R4:World→cQ→Prop} {R5:World→Int→Prop} {R6:World→bH→Prop} {R7:World→aP→Prop} {R8:World→aG→Prop}
 (h1:fF ao.cells 9 R1 w s.ar.aV.kl) (hs: ∀ x,R1 w x→0≤x.jg∧x.jg≤255) (h2:fF dq.cells 2 R2 w s.ar.aj) (hc: ∀ x,R2 w x→fF cQ.cells 3 R4 w x.bI) (h3:fF bJ.cells 4 R3 w s.ar.ab)
 (h4:fF iC 1 R5 w s.aY) (h5:fF iC 1 R5 w s.ck) (h6:fF (fun s=>[vS s.a s.n s.c]) 1 R6 w s.aB) (h7: ∀ x,R6 w x→fF aP.cells 7 R7 w x) (h8: ∀ x,R7 w x→fF aG.cells 2 R8 w x.a_.aa):
 ∃ (r:eZ) (az:List RA) (ha:List cW) (kA:OA) (kC:Nat) (cA:OA) (cC:Nat) (bA:OA) (bC:Nat) (slA:OA) (slC:Nat) (drA:OA) (drC:Nat) (heA:OA) (heC:Nat),
  s=fB.mk (cv.mk (bO.mk (bH.mk kA r.ar.aV.length kC)) r.ar.iR (bH.mk cA r.ar.aj.length cC) (bH.mk bA r.ar.ab.length bC) r.ar.bS r.ar.fZ r.ar.dL) (bH.mk slA r.aY.length slC) (bH.mk drA r.ck.length drC) r.mj (bH.mk heA r.aB.length heC)∧uC r az ha∧
  ((rd kA r.ar.aV.length 9 (r.ar.aV.map ao.cells)).holds w∧(rd cA r.ar.aj.length 2 (List.zipWith aw.cells r.ar.aj az)).holds w∧(dR (bj aw.f_ r.ar.aj az)).holds w∧(rd bA r.ar.ab.length 4 (r.ar.ab.map bJ.cells)).holds w∧
   (rd slA r.aY.length 1 (r.aY.map iC)).holds w∧(rd drA r.ck.length 1 (r.ck.map iC)).holds w∧(rd heA r.aB.length 1 (List.zipWith cL r.aB ha)).holds w∧(dR (bj eY r.aB ha)).holds w):=by
 obtain ⟨ln,⟨sa,sn,sc⟩,⟨da,dn,dc⟩,tu,⟨ea,en,ec⟩⟩:=s
 obtain ⟨l,az,kA,kC,cA,cC,bA,bC,e,A,hh,_⟩:=HJ (s:=ln) h1 hs h2 hc h3
 subst e
 obtain ⟨sl,F,N,T,O,AA⟩:=h4
 obtain ⟨dr,B,G,P,H,Q⟩:=h5
 obtain ⟨he,D,E,L,M,S⟩:=h6
 obtain ⟨ms,ha,AB,C,R,J,K⟩:=xP h8 (fun x hx=>h7 x (L x hx))
 simp only at F B D
 subst F B D
 have s4':sl.length≤9223372036854775807:=O
 have d4':dr.length≤9223372036854775807:=H
 have q4':he.length≤9223372036854775807:=M
 refine ⟨⟨l,sl,dr,tu,ms⟩,az,ha,kA,kC,cA,cC,bA,bC,sa,sc,da,dc,ea,ec,by simp only [C],⟨A,s4',d4',by simp only; omega,by simp only; omega,K⟩,hh.1,hh.2.1,hh.2.2.1,hh.2.2.2,N,G,?_,J⟩
 simp only at E ⊢
 rw [C,← AB]; exact E
end
section
open Go.RowKit
theorem GZ {w:World} {s:fz} {R1:World→ao→Prop} {R2:World→dq→Prop} {R3:World→bJ→Prop} {R4:World→cQ→Prop} {R5:World→Int→Prop} {R6:World→bH→Prop} {R7:World→aP→Prop} {R8:World→aG→Prop} {R9:World→aM→Prop} {R10:World→aX→Prop}
 (h1:fF ao.cells 9 R1 w s.Race.ar.aV.kl) (hs: ∀ x,R1 w x→0≤x.jg∧x.jg≤255) (h2:fF dq.cells 2 R2 w s.Race.ar.aj) (hc: ∀ x,R2 w x→fF cQ.cells 3 R4 w x.bI) (h3:fF bJ.cells 4 R3 w s.Race.ar.ab)
 (h4:fF iC 1 R5 w s.Race.aY) (h5:fF iC 1 R5 w s.Race.ck) (h6:fF (fun s=>[vS s.a s.n s.c]) 1 R6 w s.Race.aB) (h7: ∀ x,R6 w x→fF aP.cells 7 R7 w x) (h8: ∀ x,R7 w x→fF aG.cells 2 R8 w x.a_.aa)
 (h9:fF aM.cells 4 R9 w s.ay) (hk: ∀ x,R9 w x→0≤x.Kind∧x.Kind≤255) (h10:fF aX.cells 5 R10 w s.aD):
 ∃ (j:cN) (az:List RA) (ha:List cW) (kA:OA) (kC:Nat) (cA:OA) (cC:Nat) (bA:OA) (bC:Nat) (slA:OA) (slC:Nat) (drA:OA) (drC:Nat) (heA:OA) (heC:Nat) (faA:OA) (faC:Nat) (prA:OA) (prC:Nat),
  s=fz.mk (fB.mk (cv.mk (bO.mk (bH.mk kA j.Race.ar.aV.length kC)) j.Race.ar.iR (bH.mk cA j.Race.ar.aj.length cC) (bH.mk bA j.Race.ar.ab.length bC) j.Race.ar.bS j.Race.ar.fZ j.Race.ar.dL) (bH.mk slA j.Race.aY.length slC) (bH.mk drA j.Race.ck.length drC) j.Race.mj (bH.mk heA j.Race.aB.length heC)) (bH.mk faA j.ay.length faC) (bH.mk prA j.aD.length prC) j.fX j.yA∧sk j az ha∧
  ((rd kA j.Race.ar.aV.length 9 (j.Race.ar.aV.map ao.cells)).holds w∧(rd cA j.Race.ar.aj.length 2 (List.zipWith aw.cells j.Race.ar.aj az)).holds w∧(dR (bj aw.f_ j.Race.ar.aj az)).holds w∧(rd bA j.Race.ar.ab.length 4 (j.Race.ar.ab.map bJ.cells)).holds w∧
   (rd slA j.Race.aY.length 1 (j.Race.aY.map iC)).holds w∧(rd drA j.Race.ck.length 1 (j.Race.ck.map iC)).holds w∧(rd heA j.Race.aB.length 1 (List.zipWith cL j.Race.aB ha)).holds w∧(dR (bj eY j.Race.aB ha)).holds w∧
   (rd faA j.ay.length 4 (j.ay.map aM.cells)).holds w∧(rd prA j.aD.length 5 (j.aD.map aX.cells)).holds w):=by
 obtain ⟨rc,⟨fa,fn,fc⟩,⟨pa,pn,pc⟩,mi,fe⟩:=s
 obtain ⟨r,az,ha,kA,kC,cA,cC,bA,bC,slA,slC,drA,drC,heA,heC,e,A,hm⟩:=Ht (s:=rc) h1 hs h2 hc h3 h4 h5 h6 h7 h8
 subst e
 obtain ⟨fl,B,D,E,F,AA⟩:=h9
 obtain ⟨pr,C,G,J,H,K⟩:=h10
 simp only at B C
 subst B C
 have f4':fl.length≤9223372036854775807:=F
 have p4':pr.length≤9223372036854775807:=H
 exact ⟨⟨r,fl,pr,mi,fe⟩,az,ha,kA,kC,cA,cC,bA,bC,slA,slC,drA,drC,heA,heC,fa,fc,pa,pc,U,⟨A,f4',p4',fun f hf=>hk f (E f hf)⟩,hm.1,hm.2.1,hm.2.2.1,hm.2.2.2.1,hm.2.2.2.2.1,hm.2.2.2.2.2.1,hm.2.2.2.2.2.2.1,hm.2.2.2.2.2.2.2,D,G⟩
end
section
open Go.ChangeShapes Go.WideShapes Go.ChangeAt Go.RowKit
theorem Vn:Tryz.prog.cellsOf 36=15:=by kernel_rfl
theorem Tn:Tryz.prog.cellsOf 32=11:=by kernel_rfl
theorem Ra:Tryz.prog.cellsOf 28=7:=by kernel_rfl
theorem Tf:Tryz.prog.cellsOf 24=1:=by kernel_rfl
theorem Uq:Tryz.prog.cellsOf 22=1:=by kernel_rfl
theorem N7:Tryz.prog.cellsOf 118=9:=by kernel_rfl
theorem uK:Tryz.prog.cellsOf 3=1:=by kernel_rfl
def tx (w:World) (n:Int):Prop:=rj n
theorem uL:qK Tryz.prog 3 Int iC tx:=Po si
theorem D5:Tryz.prog.cellsOf 53=2:=by kernel_rfl
structure DL (w:World) (s:ag):Prop where
 Lo:tx w s.Lo
 Hi:tx w s.Hi
theorem VT:fL Tryz.prog 53=some [(3,0),(3,1)]:=by kernel_rfl
theorem G4:qK Tryz.prog 53 ag ag.cells DL:=fun {H} enc w base sp A fuel cs x h=>by
 obtain ⟨hl,hp⟩:=iH VT h
 obtain ⟨M,O,F⟩:=hp 0 3 0 rfl
 obtain ⟨K,B,AA⟩:=uL _ _ _ _ _ _ _ _ F
 obtain ⟨N,P,G⟩:=hp 1 3 1 rfl
 obtain ⟨L,C,J⟩:=uL _ _ _ _ _ _ _ _ G
 refine ⟨⟨K,L⟩,?_,⟨AA,J⟩⟩
 have E:=gj (hl.trans D5) (by rw [uK]) C
 have D:=cJ B (m:=1) (by rw [uK]) E
 exact D
theorem V8:Tryz.prog.cellsOf 5=1:=by kernel_rfl
def UT (w:World) (n:Int):Prop:=0≤n∧n≤255
theorem V5:qK Tryz.prog 5 Int KL UT:=Ty L_
structure Lh (w:World) (s:ao):Prop where
 Id:tx w s.Id
 kP:DL w s.kP
 l6:DL w s.l6
 eJ:DL w s.eJ
 jg:UT w s.jg
 AF:tx w s.AF
theorem Rf:fL Tryz.prog 118=some [(3,0),(53,1),(53,3),(53,5),(5,7),(3,8)]:=by kernel_rfl
theorem SG:qK Tryz.prog 118 ao ao.cells Lh:=fun {H} enc w base sp A fuel cs x h=>by
 obtain ⟨hl,hp⟩:=iH Rf h
 obtain ⟨g,o,O⟩:=hp 0 3 0 rfl
 obtain ⟨a,B,AA⟩:=uL _ _ _ _ _ _ _ _ O
 obtain ⟨i,p,P⟩:=hp 1 53 1 rfl
 obtain ⟨b,C,V⟩:=G4 _ _ _ _ _ _ _ _ P
 obtain ⟨j,q,Q⟩:=hp 2 53 3 rfl
 obtain ⟨c,D,W⟩:=G4 _ _ _ _ _ _ _ _ Q
 obtain ⟨k,r,R⟩:=hp 3 53 5 rfl
 obtain ⟨d,E,X⟩:=G4 _ _ _ _ _ _ _ _ R
 obtain ⟨l,s,S⟩:=hp 4 5 7 rfl
 obtain ⟨e,F,Y⟩:=V5 _ _ _ _ _ _ _ _ S
 obtain ⟨n,t,T⟩:=hp 5 3 8 rfl
 obtain ⟨f,G,Z⟩:=uL _ _ _ _ _ _ _ _ T
 refine ⟨⟨a,b,c,d,e,f⟩,?_,⟨AA,V,W,X,Y,Z⟩⟩
 have N:=gj (hl.trans N7) (by rw [uK]) G
 have M:=cJ F (m:=8) (by rw [V8]) N
 have L:=cJ E (m:=7) (by rw [D5]) M
 have K:=cJ D (m:=5) (by rw [D5]) L
 have J:=cJ C (m:=3) (by rw [D5]) K
 have AB:=cJ B (m:=1) (by rw [uK]) J
 exact AB
def RS (w:World) (s:bH):Prop:= ∃ l:List ao,s.n=l.length∧(rd s.a l.length 9 (l.map ao.cells)).holds w∧(∀ x∈l,Lh w x)∧l.length≤maxLen∧s.n≤s.c
theorem UO:qK Tryz.prog 22 bH (fun s=>[vS s.a s.n s.c]) RS:=kK Tx N7 SG
structure Rz (w:World) (s:bO):Prop where
 kl:RS w s.kl
theorem V2:fL Tryz.prog 24=some [(22,0)]:=by kernel_rfl
theorem Ux:qK Tryz.prog 24 bO bO.cells Rz:=fun {H} enc w base sp A fuel cs x h=>by
 obtain ⟨hl,hp⟩:=iH V2 h
 obtain ⟨G,AA,D⟩:=hp 0 22 0 rfl
 obtain ⟨F,B,E⟩:=UO _ _ _ _ _ _ _ _ D
 refine ⟨⟨F⟩,?_,⟨E⟩⟩
 have C:=gj (hl.trans Tf) (by rw [Uq]) B
 exact C
theorem Ud:Tryz.prog.cellsOf 25=1:=by kernel_rfl
theorem Rj:Tryz.prog.cellsOf 73=2:=by kernel_rfl
theorem Ur:Tryz.prog.cellsOf 71=1:=by kernel_rfl
theorem Sv:Tryz.prog.cellsOf 75=3:=by kernel_rfl
structure OS (w:World) (s:cQ):Prop where
 At:tx w s.At
 eB:DL w s.eB
theorem VN:fL Tryz.prog 75=some [(3,0),(53,1)]:=by kernel_rfl
theorem U1:qK Tryz.prog 75 cQ cQ.cells OS:=fun {H} enc w base sp A fuel cs x h=>by
 obtain ⟨hl,hp⟩:=iH VN h
 obtain ⟨M,O,F⟩:=hp 0 3 0 rfl
 obtain ⟨K,B,AA⟩:=uL _ _ _ _ _ _ _ _ F
 obtain ⟨N,P,G⟩:=hp 1 53 1 rfl
 obtain ⟨L,C,J⟩:=G4 _ _ _ _ _ _ _ _ G
 refine ⟨⟨K,L⟩,?_,⟨AA,J⟩⟩
 have E:=gj (hl.trans Sv) (by rw [D5]) C
 have D:=cJ B (m:=1) (by rw [uK]) E
 exact D
def Rn (w:World) (s:bH):Prop:= ∃ l:List cQ,s.n=l.length∧(rd s.a l.length 3 (l.map cQ.cells)).holds w∧(∀ x∈l,OS w x)∧l.length≤maxLen∧s.n≤s.c
theorem Um:qK Tryz.prog 71 bH (fun s=>[vS s.a s.n s.c]) Rn:=kK UG Sv U1
structure QE (w:World) (s:dq):Prop where
 dC:tx w s.dC
 bI:Rn w s.bI
theorem Vf:fL Tryz.prog 73=some [(3,0),(71,1)]:=by kernel_rfl
theorem VZ:qK Tryz.prog 73 dq dq.cells QE:=fun {H} enc w base sp A fuel cs x h=>by
 obtain ⟨hl,hp⟩:=iH Vf h
 obtain ⟨M,O,F⟩:=hp 0 3 0 rfl
 obtain ⟨K,B,AA⟩:=uL _ _ _ _ _ _ _ _ F
 obtain ⟨N,P,G⟩:=hp 1 71 1 rfl
 obtain ⟨L,C,J⟩:=Um _ _ _ _ _ _ _ _ G
 refine ⟨⟨K,L⟩,?_,⟨AA,J⟩⟩
 have E:=gj (hl.trans Rj) (by rw [Ur]) C
 have D:=cJ B (m:=1) (by rw [uK]) E
 exact D
def Sg (w:World) (s:bH):Prop:= ∃ l:List dq,s.n=l.length∧(rd s.a l.length 2 (l.map dq.cells)).holds w∧(∀ x∈l,QE w x)∧l.length≤maxLen∧s.n≤s.c
theorem Vp:qK Tryz.prog 25 bH (fun s=>[vS s.a s.n s.c]) Sg:=kK Vb Rj VZ
theorem T_:Tryz.prog.cellsOf 26=1:=by kernel_rfl
theorem Of:Tryz.prog.cellsOf 122=4:=by kernel_rfl
theorem Om:Tryz.prog.cellsOf 120=3:=by kernel_rfl
structure Og (w:World) (s:cH):Prop where
 bx:tx w s.bx
 mS:DL w s.mS
theorem RV:fL Tryz.prog 120=some [(3,0),(53,1)]:=by kernel_rfl
theorem S8:qK Tryz.prog 120 cH cH.cells Og:=fun {H} enc w base sp A fuel cs x h=>by
 obtain ⟨hl,hp⟩:=iH RV h
 obtain ⟨M,O,F⟩:=hp 0 3 0 rfl
 obtain ⟨K,B,AA⟩:=uL _ _ _ _ _ _ _ _ F
 obtain ⟨N,P,G⟩:=hp 1 53 1 rfl
 obtain ⟨L,C,J⟩:=G4 _ _ _ _ _ _ _ _ G
 refine ⟨⟨K,L⟩,?_,⟨AA,J⟩⟩
 have E:=gj (hl.trans Om) (by rw [D5]) C
 have D:=cJ B (m:=1) (by rw [uK]) E
 exact D
structure H9 (w:World) (s:bJ):Prop where
 mW:Og w s.mW
 kf:tx w s.kf
theorem SI:fL Tryz.prog 122=some [(120,0),(3,3)]:=by kernel_rfl
theorem Sn:qK Tryz.prog 122 bJ bJ.cells H9:=fun {H} enc w base sp A fuel cs x h=>by
 obtain ⟨hl,hp⟩:=iH SI h
 obtain ⟨M,O,F⟩:=hp 0 120 0 rfl
 obtain ⟨K,B,AA⟩:=S8 _ _ _ _ _ _ _ _ F
 obtain ⟨N,P,G⟩:=hp 1 3 3 rfl
 obtain ⟨L,C,J⟩:=uL _ _ _ _ _ _ _ _ G
 refine ⟨⟨K,L⟩,?_,⟨AA,J⟩⟩
 have E:=gj (hl.trans Of) (by rw [uK]) C
 have D:=cJ B (m:=3) (by rw [Om]) E
 exact D
def S6 (w:World) (s:bH):Prop:= ∃ l:List bJ,s.n=l.length∧(rd s.a l.length 4 (l.map bJ.cells)).holds w∧(∀ x∈l,H9 w x)∧l.length≤maxLen∧s.n≤s.c
theorem Vm:qK Tryz.prog 26 bH (fun s=>[vS s.a s.n s.c]) S6:=kK PJ Of Sn
structure SS (w:World) (s:cv):Prop where
 aV:Rz w s.aV
 iR:tx w s.iR
 aj:Sg w s.aj
 ab:S6 w s.ab
 bS:tx w s.bS
 fZ:tx w s.fZ
 dL:tx w s.dL
theorem VX:fL Tryz.prog 28=some [(24,0),(3,1),(25,2),(26,3),(3,4),(3,5),(3,6)]:=by kernel_rfl
theorem Un:qK Tryz.prog 28 cv cv.cells SS:=fun {H} enc w base sp A fuel cs x h=>by
 obtain ⟨hl,hp⟩:=iH VX h
 obtain ⟨n,u,Q⟩:=hp 0 24 0 rfl
 obtain ⟨e,B,X⟩:=Ux _ _ _ _ _ _ _ _ Q
 obtain ⟨o,v,R⟩:=hp 1 3 1 rfl
 obtain ⟨f,C,Y⟩:=uL _ _ _ _ _ _ _ _ R
 obtain ⟨p,y,S⟩:=hp 2 25 2 rfl
 obtain ⟨g,D,Z⟩:=Vp _ _ _ _ _ _ _ _ S
 obtain ⟨q,z,T⟩:=hp 3 26 3 rfl
 obtain ⟨i,E,a⟩:=Vm _ _ _ _ _ _ _ _ T
 obtain ⟨r,y4,AA⟩:=hp 4 3 4 rfl
 obtain ⟨j,F,b⟩:=uL _ _ _ _ _ _ _ _ AA
 obtain ⟨s,y5,V⟩:=hp 5 3 5 rfl
 obtain ⟨k,G,c⟩:=uL _ _ _ _ _ _ _ _ V
 obtain ⟨t,y6,W⟩:=hp 6 3 6 rfl
 obtain ⟨l,AB,d⟩:=uL _ _ _ _ _ _ _ _ W
 refine ⟨⟨e,f,g,i,j,k,l⟩,?_,⟨X,Y,Z,a,b,c,d⟩⟩
 have P:=gj (hl.trans Ra) (by rw [uK]) AB
 have O:=cJ G (m:=6) (by rw [uK]) P
 have N:=cJ F (m:=5) (by rw [uK]) O
 have M:=cJ E (m:=4) (by rw [T_]) N
 have L:=cJ D (m:=3) (by rw [Ud]) M
 have K:=cJ C (m:=2) (by rw [uK]) L
 have J:=cJ B (m:=1) (by rw [Tf]) K
 exact J
theorem S4:Tryz.prog.cellsOf 29=1:=by kernel_rfl
def OQ (w:World) (s:bH):Prop:= ∃ l:List Int,s.n=l.length∧(rd s.a l.length 1 (l.map iC)).holds w∧(∀ x∈l,tx w x)∧l.length≤maxLen∧s.n≤s.c
theorem SN:qK Tryz.prog 29 bH (fun s=>[vS s.a s.n s.c]) OQ:=kK UD uK uL
theorem VA:Tryz.prog.cellsOf 30=1:=by kernel_rfl
theorem Ul:Tryz.prog.cellsOf 51=1:=by kernel_rfl
theorem S3:Tryz.prog.cellsOf 58=7:=by kernel_rfl
theorem Wa:Tryz.prog.cellsOf 4=1:=by kernel_rfl
def Ua (w:World) (n:Bool):Prop:=True
theorem V9:qK Tryz.prog 4 Bool (fun b=>[vB b]) Ua:=Nd UR
theorem Ss:Tryz.prog.cellsOf 56=3:=by kernel_rfl
theorem VJ:Tryz.prog.cellsOf 54=1:=by kernel_rfl
theorem Sr:Tryz.prog.cellsOf 78=2:=by kernel_rfl
structure Py (w:World) (s:aG):Prop where
 fE:tx w s.fE
 Read:tx w s.Read
theorem VY:fL Tryz.prog 78=some [(3,0),(3,1)]:=by kernel_rfl
theorem VL:qK Tryz.prog 78 aG aG.cells Py:=fun {H} enc w base sp A fuel cs x h=>by
 obtain ⟨hl,hp⟩:=iH VY h
 obtain ⟨M,O,F⟩:=hp 0 3 0 rfl
 obtain ⟨K,B,AA⟩:=uL _ _ _ _ _ _ _ _ F
 obtain ⟨N,P,G⟩:=hp 1 3 1 rfl
 obtain ⟨L,C,J⟩:=uL _ _ _ _ _ _ _ _ G
 refine ⟨⟨K,L⟩,?_,⟨AA,J⟩⟩
 have E:=gj (hl.trans Sr) (by rw [uK]) C
 have D:=cJ B (m:=1) (by rw [uK]) E
 exact D
def S_ (w:World) (s:bH):Prop:= ∃ l:List aG,s.n=l.length∧(rd s.a l.length 2 (l.map aG.cells)).holds w∧(∀ x∈l,Py w x)∧l.length≤maxLen∧s.n≤s.c
theorem VQ:qK Tryz.prog 54 bH (fun s=>[vS s.a s.n s.c]) S_:=kK VM Sr VL
structure Rg (w:World) (s:cz):Prop where
 Start:tx w s.Start
 fR:tx w s.fR
 aa:S_ w s.aa
theorem VF:fL Tryz.prog 56=some [(3,0),(3,1),(54,2)]:=by kernel_rfl
theorem UW:qK Tryz.prog 56 cz cz.cells Rg:=fun {H} enc w base sp A fuel cs x h=>by
 obtain ⟨hl,hp⟩:=iH VF h
 obtain ⟨R,AA,AB⟩:=hp 0 3 0 rfl
 obtain ⟨O,B,L⟩:=uL _ _ _ _ _ _ _ _ AB
 obtain ⟨S,V,J⟩:=hp 1 3 1 rfl
 obtain ⟨P,C,M⟩:=uL _ _ _ _ _ _ _ _ J
 obtain ⟨T,W,K⟩:=hp 2 54 2 rfl
 obtain ⟨Q,D,N⟩:=VQ _ _ _ _ _ _ _ _ K
 refine ⟨⟨O,P,Q⟩,?_,⟨L,M,N⟩⟩
 have G:=gj (hl.trans Ss) (by rw [VJ]) D
 have F:=cJ C (m:=2) (by rw [uK]) G
 have E:=cJ B (m:=1) (by rw [uK]) F
 exact E
structure OP (w:World) (s:aP):Prop where
 Out:Ua w s.Out
 dj:Ua w s.dj
 Time:DL w s.Time
 a_:Rg w s.a_
theorem Vt:fL Tryz.prog 58=some [(4,0),(4,1),(53,2),(56,4)]:=by kernel_rfl
theorem Uc:qK Tryz.prog 58 aP aP.cells OP:=fun {H} enc w base sp A fuel cs x h=>by
 obtain ⟨hl,hp⟩:=iH Vt h
 obtain ⟨W,a,K⟩:=hp 0 4 0 rfl
 obtain ⟨S,B,O⟩:=V9 _ _ _ _ _ _ _ _ K
 obtain ⟨X,b,L⟩:=hp 1 4 1 rfl
 obtain ⟨T,C,P⟩:=V9 _ _ _ _ _ _ _ _ L
 obtain ⟨Y,c,M⟩:=hp 2 53 2 rfl
 obtain ⟨AA,D,Q⟩:=G4 _ _ _ _ _ _ _ _ M
 obtain ⟨Z,d,N⟩:=hp 3 56 4 rfl
 obtain ⟨V,E,R⟩:=UW _ _ _ _ _ _ _ _ N
 refine ⟨⟨S,T,AA,V⟩,?_,⟨O,P,Q,R⟩⟩
 have J:=gj (hl.trans S3) (by rw [Ss]) E
 have AB:=cJ D (m:=4) (by rw [D5]) J
 have G:=cJ C (m:=2) (by rw [Wa]) AB
 have F:=cJ B (m:=1) (by rw [Wa]) G
 exact F
def PV (w:World) (s:bH):Prop:= ∃ l:List aP,s.n=l.length∧(rd s.a l.length 7 (l.map aP.cells)).holds w∧(∀ x∈l,OP w x)∧l.length≤maxLen∧s.n≤s.c
theorem Ui:qK Tryz.prog 51 bH (fun s=>[vS s.a s.n s.c]) PV:=kK VD S3 Uc
def SW (w:World) (s:bH):Prop:= ∃ l:List bH,s.n=l.length∧(rd s.a l.length 1 (l.map (fun s=>[vS s.a s.n s.c]))).holds w∧(∀ x∈l,PV w x)∧l.length≤maxLen∧s.n≤s.c
theorem VE:qK Tryz.prog 30 bH (fun s=>[vS s.a s.n s.c]) SW:=kK V4 Ul Ui
structure RN (w:World) (s:fB):Prop where
 ar:SS w s.ar
 aY:OQ w s.aY
 ck:OQ w s.ck
 mj:tx w s.mj
 aB:SW w s.aB
theorem UY:fL Tryz.prog 32=some [(28,0),(29,7),(29,8),(3,9),(30,10)]:=by kernel_rfl
theorem Vg:qK Tryz.prog 32 fB fB.cells RN:=fun {H} enc w base sp A fuel cs x h=>by
 obtain ⟨hl,hp⟩:=iH UY h
 obtain ⟨b,g,M⟩:=hp 0 28 0 rfl
 obtain ⟨W,B,R⟩:=Un _ _ _ _ _ _ _ _ M
 obtain ⟨c,i,N⟩:=hp 1 29 7 rfl
 obtain ⟨X,C,S⟩:=SN _ _ _ _ _ _ _ _ N
 obtain ⟨d,j,O⟩:=hp 2 29 8 rfl
 obtain ⟨Y,D,T⟩:=SN _ _ _ _ _ _ _ _ O
 obtain ⟨e,k,P⟩:=hp 3 3 9 rfl
 obtain ⟨Z,E,AA⟩:=uL _ _ _ _ _ _ _ _ P
 obtain ⟨f,l,Q⟩:=hp 4 30 10 rfl
 obtain ⟨a,F,V⟩:=VE _ _ _ _ _ _ _ _ Q
 refine ⟨⟨W,X,Y,Z,a⟩,?_,⟨R,S,T,AA,V⟩⟩
 have L:=gj (hl.trans Tn) (by rw [VA]) F
 have K:=cJ E (m:=10) (by rw [uK]) L
 have J:=cJ D (m:=9) (by rw [S4]) K
 have AB:=cJ C (m:=8) (by rw [S4]) J
 have G:=cJ B (m:=7) (by rw [Ra]) AB
 exact G
theorem Uj:Tryz.prog.cellsOf 33=1:=by kernel_rfl
theorem RC:Tryz.prog.cellsOf 80=4:=by kernel_rfl
structure PE (w:World) (s:aM):Prop where
 Kind:UT w s.Kind
 eL:tx w s.eL
 gu:tx w s.gu
 To:tx w s.To
theorem Uy:fL Tryz.prog 80=some [(5,0),(3,1),(3,2),(3,3)]:=by kernel_rfl
theorem T2:qK Tryz.prog 80 aM aM.cells PE:=fun {H} enc w base sp A fuel cs x h=>by
 obtain ⟨hl,hp⟩:=iH Uy h
 obtain ⟨W,a,K⟩:=hp 0 5 0 rfl
 obtain ⟨S,B,O⟩:=V5 _ _ _ _ _ _ _ _ K
 obtain ⟨X,b,L⟩:=hp 1 3 1 rfl
 obtain ⟨T,C,P⟩:=uL _ _ _ _ _ _ _ _ L
 obtain ⟨Y,c,M⟩:=hp 2 3 2 rfl
 obtain ⟨AA,D,Q⟩:=uL _ _ _ _ _ _ _ _ M
 obtain ⟨Z,d,N⟩:=hp 3 3 3 rfl
 obtain ⟨V,E,R⟩:=uL _ _ _ _ _ _ _ _ N
 refine ⟨⟨S,T,AA,V⟩,?_,⟨O,P,Q,R⟩⟩
 have J:=gj (hl.trans RC) (by rw [uK]) E
 have AB:=cJ D (m:=3) (by rw [uK]) J
 have G:=cJ C (m:=2) (by rw [uK]) AB
 have F:=cJ B (m:=1) (by rw [V8]) G
 exact F
def S5 (w:World) (s:bH):Prop:= ∃ l:List aM,s.n=l.length∧(rd s.a l.length 4 (l.map aM.cells)).holds w∧(∀ x∈l,PE w x)∧l.length≤maxLen∧s.n≤s.c
theorem UI:qK Tryz.prog 33 bH (fun s=>[vS s.a s.n s.c]) S5:=kK V0 RC T2
theorem VV:Tryz.prog.cellsOf 34=1:=by kernel_rfl
theorem TG:Tryz.prog.cellsOf 47=5:=by kernel_rfl
structure PW (w:World) (s:aX):Prop where
 Id:tx w s.Id
 iM:tx w s.iM
 jm:tx w s.jm
 jU:tx w s.jU
 At:tx w s.At
theorem Vx:fL Tryz.prog 47=some [(3,0),(3,1),(3,2),(3,3),(3,4)]:=by kernel_rfl
theorem Vv:qK Tryz.prog 47 aX aX.cells PW:=fun {H} enc w base sp A fuel cs x h=>by
 obtain ⟨hl,hp⟩:=iH Vx h
 obtain ⟨b,g,M⟩:=hp 0 3 0 rfl
 obtain ⟨W,B,R⟩:=uL _ _ _ _ _ _ _ _ M
 obtain ⟨c,i,N⟩:=hp 1 3 1 rfl
 obtain ⟨X,C,S⟩:=uL _ _ _ _ _ _ _ _ N
 obtain ⟨d,j,O⟩:=hp 2 3 2 rfl
 obtain ⟨Y,D,T⟩:=uL _ _ _ _ _ _ _ _ O
 obtain ⟨e,k,P⟩:=hp 3 3 3 rfl
 obtain ⟨Z,E,AA⟩:=uL _ _ _ _ _ _ _ _ P
 obtain ⟨f,l,Q⟩:=hp 4 3 4 rfl
 obtain ⟨a,F,V⟩:=uL _ _ _ _ _ _ _ _ Q
 refine ⟨⟨W,X,Y,Z,a⟩,?_,⟨R,S,T,AA,V⟩⟩
 have L:=gj (hl.trans TG) (by rw [uK]) F
 have K:=cJ E (m:=4) (by rw [uK]) L
 have J:=cJ D (m:=3) (by rw [uK]) K
 have AB:=cJ C (m:=2) (by rw [uK]) J
 have G:=cJ B (m:=1) (by rw [uK]) AB
 exact G
def RT (w:World) (s:bH):Prop:= ∃ l:List aX,s.n=l.length∧(rd s.a l.length 5 (l.map aX.cells)).holds w∧(∀ x∈l,PW w x)∧l.length≤maxLen∧s.n≤s.c
theorem Vz:qK Tryz.prog 34 bH (fun s=>[vS s.a s.n s.c]) RT:=kK Uo TG Vv
structure Vu (w:World) (s:fz):Prop where
 Race:RN w s.Race
 ay:S5 w s.ay
 aD:RT w s.aD
 fX:tx w s.fX
 yA:tx w s.yA
theorem RH:fL Tryz.prog 36=some [(32,0),(33,11),(34,12),(3,13),(3,14)]:=by kernel_rfl
theorem UN:qK Tryz.prog 36 fz fz.cells Vu:=fun {H} enc w base sp A fuel cs x h=>by
 obtain ⟨hl,hp⟩:=iH RH h
 obtain ⟨b,g,M⟩:=hp 0 32 0 rfl
 obtain ⟨W,B,R⟩:=Vg _ _ _ _ _ _ _ _ M
 obtain ⟨c,i,N⟩:=hp 1 33 11 rfl
 obtain ⟨X,C,S⟩:=UI _ _ _ _ _ _ _ _ N
 obtain ⟨d,j,O⟩:=hp 2 34 12 rfl
 obtain ⟨Y,D,T⟩:=Vz _ _ _ _ _ _ _ _ O
 obtain ⟨e,k,P⟩:=hp 3 3 13 rfl
 obtain ⟨Z,E,AA⟩:=uL _ _ _ _ _ _ _ _ P
 obtain ⟨f,l,Q⟩:=hp 4 3 14 rfl
 obtain ⟨a,F,V⟩:=uL _ _ _ _ _ _ _ _ Q
 refine ⟨⟨W,X,Y,Z,a⟩,?_,⟨R,S,T,AA,V⟩⟩
 have L:=gj (hl.trans Vn) (by rw [uK]) F
 have K:=cJ E (m:=14) (by rw [uK]) L
 have J:=cJ D (m:=13) (by rw [VV]) K
 have AB:=cJ C (m:=12) (by rw [Uj]) J
 have G:=cJ B (m:=11) (by rw [Tn]) AB
 exact G
theorem BW:ownKnob Tryz.prog.godebug=none:=by kernel_rfl
theorem Al:laidOutB Tryz.prog=true:=by kernel_rfl
theorem yq (os:Os) (started:os.Started) (H:Type) (enc:TypeId×Value→H):
 ReturnsInHanded {} Tryz.checked os 7 .any (fun w args=>(Rows.juryHitSpec.pre enc Tryz.prog Tryz.f7 [] false w args∧laidMetH Tryz.prog [("kreisel/race.table",Rows.laid_kreisel_race_table)] w)∧sizedMet enc Tryz.prog Tryz.f7 (OpenSpec.ofChange Rows.juryHitSpec) false w args) (Rows.juryHitSpec.post enc Tryz.prog Tryz.f7 false true false false):=by
 refine returnsInHanded_of_change_and (C:=Tryz.checked) (X:=(fun w _=>laidMetH Tryz.prog [("kreisel/race.table",Rows.laid_kreisel_race_table)] w)) (fun _ _ _ hh h=>h.of_heap hh) BW started kr Tryz.func7
  (ChangeSpec.witness_shaped (enc:=enc) (C:=Tryz.checked) (os:=os) (X:=(fun w _=>laidMetH Tryz.prog [("kreisel/race.table",Rows.laid_kreisel_race_table)] w)) false (World.doorLaid Tryz.prog 400 os) #[.agg #[(vS none 0 0),(vI 0),(vS none 0 0),(vS none 0 0),(vI 0),(vI 0),(vI 0),(vS none 0 0),(vS none 0 0),(vI 0),(vS none 0 0),(vS none 0 0),(vS none 0 0),(vI 0),(vI 0)],Value.int .u8 0,Value.int .u32 0,Value.int .u32 0] 8 rfl (World.shaped_of_RefB kr kr) kr kr kr (CZ os _)) ?_
 intro W base args ds gs before E hW _ _ hL _
 have D: ∀ (j:Nat) t v,Tryz.f7.params[j]? =some t→args[j]? =some v→Value.okWide Tryz.prog W .any base t v:=E
 have hW':=hW
 obtain ⟨p,q,K,hV,rfl,f,g⟩:=hW
 have hA:DataW.TrodAll enc Tryz.prog W 0 (fun _=>true) true Tryz.f7.params.toList args.toList ds p:=K
 have F:=hA
 rw [Tryz.params7] at hA D
 obtain ⟨Q,u,d0,AA,p0,q0,L,rfl,rfl,a,i⟩:=trodAll_cons hA
 obtain ⟨R,y,d1,V,p1,q1,rfl,rfl,rfl,b,l⟩:=trodAll_cons i
 obtain ⟨S,z,d2,Y,p2,q2,rfl,rfl,rfl,c,m⟩:=trodAll_cons l
 obtain ⟨T,AC,d3,Z,p3,q3,rfl,rfl,rfl,d,n⟩:=trodAll_cons m
 obtain ⟨rfl,rfl,rfl⟩:=trodAll_nil n
 obtain rfl:args= #[Q,R,S,T]:=by cases args; simp_all
 obtain ⟨rfl,rfl⟩:=trodVars_none hV
 obtain ⟨s0,rfl,R0⟩:=D9 RH UN (D 0 36 Q rfl rfl) a
 obtain ⟨o,rfl,R1⟩:=zJ (k:= .u8) L_ (D 1 5 R rfl rfl) b
 obtain ⟨r,rfl,R2⟩:=zJ (k:= .u32) MK (D 2 65 S rfl rfl) c
 obtain ⟨s,rfl,R3⟩:=zJ (k:= .u32) MK (D 3 65 T rfl rfl) d
 simp only [List.append_nil] at hW' F
 have J:=yE hL
 obtain ⟨j,az,ha,kA,kC,cA,cC,bA,bC,O,P,drA,drC,M,N,faA,faC,prA,prC,rfl,G,B⟩:=GZ (R1:=Lh) (R2:=QE) (R3:=H9) (R4:=OS) (R5:=tx) (R6:=PV) (R7:=OP) (R8:=Py) (R9:=PE) (R10:=PW) R0.Race.ar.aV.kl (fun x hx=>hx.jg) R0.Race.ar.aj (fun x hx=>hx.bI) R0.Race.ar.ab R0.Race.aY R0.Race.ck R0.Race.aB (fun x hx=>hx) (fun x hx=>hx.a_.aa) R0.ay (fun x hx=>hx.Kind) R0.aD
 have AB:=(HL j kA kC az cA cC bA bC O P drA drC ha M N faA faC prA prC o r s G R1 R2 R3).run W (by intro A hA; simp only [bT,List.not_mem_nil,or_false] at hA; rcases hA with rfl|rfl|rfl|rfl|rfl|rfl|rfl|rfl|rfl|rfl|rfl; exact J; exact B.1; exact B.2.1; exact B.2.2.1; exact B.2.2.2.1; exact B.2.2.2.2.1; exact B.2.2.2.2.2.1; exact B.2.2.2.2.2.2.1; exact B.2.2.2.2.2.2.2.1; exact B.2.2.2.2.2.2.2.2.1; exact B.2.2.2.2.2.2.2.2.2)
 refine (AB).mono fun e W' ⟨he,hk⟩=>?_
 subst he
 exact ⟨_,U,JV Al hW' F U U kr hk.below kr UR⟩
theorem yG:Rows.JuryHitSaid:=
 OpenClaim.holds_of_wide 7 Tryz.f7 rfl rfl rfl rfl rfl rfl rfl ⟨rfl,rfl,rfl,rfl,rfl⟩ rfl rfl rfl rfl rfl kr Tryz.func7 xp
  (of_decide_eq_true kr) (by unfold Func.isWrapper; first|(rw [if_pos (by decide+kernel)]; kernel_rfl)|(rw [if_neg (by decide+kernel)]; exact ⟨rfl,rfl⟩))
  (fun os started H enc _=>yq os started H enc)
/-- the statement -/
theorem juryHit_said:Rows.JuryHitCardSaid:=
 Claim7.holds_tied_plain_at .later [] [.funcsDeep] true (true,"d8cf0626f832096ce100a6f7c79f4ede30e4673a60460e9c643b06a90f42f87b") false
  yG (fun _ h=>by cases h) kr (fun _ h=>by cases h) juryHit_row_tie rfl ⟨rfl,rfl⟩ kr rfl
  (fun f fn hf B=>by
   obtain rfl:f=7:=Option.some.inj ((show Tryz.prog.funcNamed "kreisel/kreisellaw07.JuryHit"=some 7 by kernel_rfl).symm.trans hf) |>.symm
   obtain rfl:fn=Tryz.f7:=(Option.some.inj (Tryz.func7.symm.trans B)).symm
   exact ⟨kr,fun j t ht=>by
    rw [Tryz.params7] at ht
    have hm:t∈([36,5,65,65]:List Nat):=by simpa using Array.mem_of_getElem? ht
    have A:(([36,5,65,65]:List Nat).all fun u=> !Tryz.prog.wantsStandIn u)=true:=by kernel_rfl
    exact (show Tryz.prog.wantsStandIn t=false by simpa using cV.1 A t hm)⟩)
  kr
#print axioms juryHit_said
end
end Go.Proofs.YtijpnoadncadoaaGreatDoor
