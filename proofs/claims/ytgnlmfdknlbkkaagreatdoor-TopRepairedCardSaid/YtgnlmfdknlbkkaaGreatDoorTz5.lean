/-
 The statement topRepaired_said, part 5 of 9: RaceS, Vals, RaceO, Ord, RaceV, RankP, OrdX, TabP, NestS, Grp, Twin, Fresh, Jury, JHits, JMore, JMem, SeqO, JSeq, JTop, ExT, JRep, JPut, JMor, JFeeL, JPutL, JAllL, Rep, Nar7, BoolC, RaceR, Rep6, Rep8, TopR, Async, DrawB, MapD, Bits, B1, CloneM, Rs1, S2, Rs2, B4, B2.
 Conditions: none.
-/
import Derived.Test.YtgnlmfdknlbkkaaGreatDoorTz1
import Derived.Test.YtgnlmfdknlbkkaaGreatDoorTz2
import Derived.Test.YtgnlmfdknlbkkaaGreatDoorTz3
import Derived.Test.YtgnlmfdknlbkkaaGreatDoorTz4
import Derived.KernelRfl
import Derived.MapKept
import Derived.Laws.Externs
open List (append_assoc length lookup range zipWith)
open Nat (ble blt lt_irrefl)
open Option (any_some)
namespace Go.Proofs.YtgnlmfdknlbkkaaGreatDoor
set_option maxRecDepth 100000
set_option maxHeartbeats 4000000
set_option linter.unusedVariables false
variable {x u:Int} {K:Act→World→Prop} {β α M A σ:Type} {f g:Nat→Option aa} {i k sz:Nat} {l ys:List Int} {m H:List (List ak)} {ls:List (List aa)} {az bz asl bs:List RA} {h h' ht:List ak} {d:ak} {p:Nat→Prop} {b:Bool} {a:OA} {P:Program} {r:cN} {S:BS} {w0 w:World} {C X Y Y' Z Cp C1 C2 C':List au} {c:Code} {e t kt et xt:TypeId} {es:List (List Value)} {hz ha:List cq} {E:fJ} {D:iF} {L B L2:dJ} {j:dy} {fn:Func} {fi ca vs cs:List Value} {ts:Array TypeId} {Q:du} {v:Value} {rest:List Oper} {tb rem:List Nat} {ops:Array Oper}
abbrev m4:= @List.length_zipWith
abbrev m5:= @Bool.not_eq_false'
abbrev u5:= @List.zipWith_cons_cons
abbrev AAE:= @List.mem_map_of_mem
abbrev AAI:= @List.forall_mem_cons
abbrev AAs:= @false_imp_iff
abbrev AAt:= @List.pairwise_lt_range
abbrev AAu:= @List.set_append_right
abbrev AAv:= @implies_true
abbrev AAw:= @Nat.sub_self
abbrev AAz:= @decide_eq_false_iff_not
abbrev ABV:= @List.getElem?_eq_none_iff
abbrev ABW:= @List.exists_mem_of_ne_nil
abbrev ABY:= @List.Perm.refl
abbrev ABZ:= @Option.isSome_iff_exists
abbrev ABy:= @List.getElem?_set_ne
abbrev AB7:= @Nat.eq_zero_or_pos
abbrev AB9:= @List.sublist_append_left
abbrev ACE:= @List.findIdx?_eq_some_iff_getElem
abbrev ACH:= @List.countP_le_length
abbrev ACI:= @List.contains_iff_mem
abbrev ACP:= @List.Pairwise.filter
abbrev ACS:= @List.zipWith_append
abbrev ACX:= @decide_eq_true_iff
abbrev ACf:= @List.nodup_range
abbrev ACg:= @List.countP_cons
section
theorem pz {α β:Type} {f g:α→Option β}: ∀ {l:List α},(∀ x∈l,f x=g x)→l.filterMap f=l.filterMap g
 |[],_=>rfl
 |x::l,h=>by simp only [AB3,h x bZ,pz (l:=l) (fun y hy=>h y (dk _ hy))]
abbrev k9:=List (Int×aa)
/-- the sum of a sled in some heats, the first ones -/
noncomputable def gL (l:bf) (hs:List (List ak)) (i:Nat):Nat→Option aa
 |0=>some ⟨0,0⟩
 |k+1=>match gL l hs i k,(hs[k]?).bind (·[i]?) with
  |some s,some d=>if d.Out=true then none else some ⟨s.Lo+(gf l d).Lo/10,s.Hi+(gf l d).Hi/10⟩
  |_,_=>none
noncomputable def eO (l:bf) (hs:List (List ak)) (n h i:Nat):k9:=(range n).filterMap fun q=>(gL l hs q (if q<i then h+1 else h)).map fun s=>((q:Int),s)
noncomputable def pP (r:cN) (k:Nat):k9:=(range r.a_.length).filterMap fun q=>(gL r.ar r.ax q k).map fun s=>((q:Int),s)
noncomputable def bJ (r:cN):k9:=pP r r.ax.length
section
variable {l:bf} {hs:List (List ak)} {n h i q:Nat} {s:aa} {d:ak}
theorem Fm:eO l hs n h 0=(range n).filterMap fun q=>(gL l hs q h).map fun s=>((q:Int),s):=by
 unfold eO;apply pz;intro q _;rw [c1 (s4 _)]
theorem SL:eO l hs n h n=eO l hs n (h+1) 0:=by
 rw [Fm];unfold eO;apply pz;intro q hq;rw [c0 (AAd.1 hq)]
theorem K7 {x:List ak} (hx:hs[h]? =some x) (hd:x[i]? =some d) (ho:d.Out=true):gL l hs i (h+1)=none:=by
 unfold gL;rw [hx];simp only [r7,hd];cases gL l hs i h with
 |none=>rfl
 |some s=>simp [ho]
theorem Hg (h0:gL l hs i h=none):gL l hs i (h+1)=none:=by unfold gL;rw [h0]
theorem Hz {x:List ak} (hx:hs[h]? =some x) (hd:x[i]? =some d) (ho: ¬ d.Out=true) (hs0:gL l hs i h=some s):gL l hs i (h+1)=some ⟨s.Lo+(gf l d).Lo/10,s.Hi+(gf l d).Hi/10⟩:=by
 unfold gL;rw [hx,hs0];simp only [r7,hd,c1 ho]
end
section
variable {l:bf} {hs:List (List ak)} {n h i q:Nat} {s t:aa}
theorem WC {K:Type} [DecidableEq K] {L Y:List (K×β)} {t:K}:(L++Y).lookup t=match L.lookup t with |some v=>some v|none=>Y.lookup t:=by
 induction L with
 |nil=>rfl
 |cons p L ih=>
  obtain ⟨k,u⟩:=p;by_cases e:t==k
  ·simp [lookup,e]
  ·have:(t==k)=false:=by simpa using e
   simp only [AAX,lookup,this,ih]
theorem uc {f:Nat→Option aa}: ∀ (n i:Nat),((range n).filterMap fun q=>(f q).map fun s=>((q:Int),s)).lookup (i:Int)=if i<n then f i else none
 |0,i=>by simp
 |n+1,i=>by
  rw [AAV,AAh,WC,uc n i];by_cases c:i<n
  ·rw [c0 c,c0 I];cases e:f i with
   |some s=>rfl
   |none=>
    simp only;cases e2:f n with
    |none=>simp [e2]
    |some u=>
     have:((i:Int)==(n:Int))=false:=by simp only [ACR,AB4];omega
     simp [e2,lookup,this]
  ·rw [c1 c];simp only;by_cases A:i=n
   ·subst A;rw [c0 I];cases e2:f i with
    |none=>simp [e2]
    |some u=>simp [e2]
   ·rw [c1 I];have:((i:Int)==(n:Int))=false:=by simp only [ACR,AB4];omega
    cases e2:f n with
    |none=>simp [e2]
    |some u=>simp [e2,lookup,this]
theorem zD:(eO l hs n h i).lookup (q:Int)=if q<n then gL l hs q (if q<i then h+1 else h) else none:=uc n q
theorem Vi {n i:Nat} (hi:i<n) {s:aa} (hf:(f i).isSome=true) (hg:g i=some s) (hfg:∀ q,q≠i→f q=g q):d_ ((range n).filterMap fun q=>(f q).map fun s=>((q:Int),s)) (i:Int) s=(range n).filterMap fun q=>(g q).map fun s=>((q:Int),s):=by
 unfold d_;rw [c0 (by rw [uc,c0 hi];exact hf),List.map_filterMap];apply pz;intro q _;by_cases e:q=i
 ·subst e;obtain ⟨u,hu⟩:=ABZ.1 hf;rw [hu,hg];simp
 ·rw [hfg q e];cases g q with
  |none=>rfl
  |some u=>
   have: ¬ ((q:Int)=(i:Int)):=by omega
   simp [this]
theorem We {n i:Nat} (hg:g i=none) (hfg:∀ q,q≠i→f q=g q):cJ ((range n).filterMap fun q=>(f q).map fun s=>((q:Int),s)) (i:Int)=(range n).filterMap fun q=>(g q).map fun s=>((q:Int),s):=by
 unfold cJ;rw [List.filter_filterMap];apply pz;intro q _;by_cases e:q=i
 ·subst e;rw [hg];cases f q with
  |none=>rfl
  |some u=>simp
 ·rw [hfg q e];cases g q with
  |none=>rfl
  |some u=>
   have: ¬ ((q:Int)=(i:Int)):=by omega
   simp [this]
theorem Rr (hi:i<n) (h0:(gL l hs i h).isSome=true) (h1:gL l hs i (h+1)=some s):d_ (eO l hs n h i) (i:Int) s=eO l hs n h (i+1):=by
 unfold eO;refine Vi hi (by rw [c1 (lt_irrefl i)];exact h0) (by rw [c0 (ABb i)];exact h1) fun q hq=>?_;by_cases c:q<i
 ·rw [c0 c,c0 I]
 ·rw [c1 c,c1 I]
theorem Jm (h1:gL l hs i (h+1)=none):cJ (eO l hs n h i) (i:Int)=eO l hs n h (i+1):=by
 unfold eO;refine We (by rw [c0 (ABb i)];exact h1) fun q hq=>?_;by_cases c:q<i
 ·rw [c0 c,c0 I]
 ·rw [c1 c,c1 I]
end
def p8 (m:k9) (i:Int):k9:=m.filter fun p=> !decide (p.1=i)
def mU (m:k9) (i n:Int):Nat:=(p8 m i).countP fun p=>decide (p.2.Hi<n)
def qo (m:k9) (i n:Int):Nat:=(p8 m i).countP fun p=>decide (p.2.Lo<n)
def oO (m:k9) (i:Int) (own:aa):List Int:=own.Lo::((p8 m i).flatMap fun p=>[p.2.Lo+1,p.2.Hi+1]).filter fun n=>decide (own.Lo≤n∧n≤own.Hi)
def AB (m:k9) (i:Int) (own:aa) (k:Int):Prop:= ∃ n∈oO m i own,(mU m i n:Int)+1≤k∧k≤(qo m i n:Int)+1
noncomputable instance (m:k9) (i:Int) (own:aa) (k:Int):Decidable (AB m i own k):=Classical.propDecidable _
noncomputable def e7 (m:k9) (i:Int) (own:aa):List Int:=((range m.length).map fun (k:Nat)=>(k:Int)+1).filter fun k=>decide (AB m i own k)
section
variable {m:k9} {i:Int} {own:aa}
theorem OQ (hi:m.lookup i≠none):qo m i x+1≤m.length:=by
 unfold qo;refine ACY ACH ?_;unfold p8;obtain ⟨v,hv⟩:=Option.ne_none_iff_exists'.1 hi;have hm: ∃ p∈m,p.1=i:=by
  clear hi
  induction m with
  |nil=>simp at hv
  |cons p m ih=>
   obtain ⟨a,b⟩:=p;by_cases e:i=a
   ·exact ⟨_,bZ ..,e.symm⟩
   ·have:(i==a)=false:=by simpa using e
    simp only [lookup,this] at hv;obtain ⟨p,hp,e⟩:=ih hv;exact ⟨p,dk _ hp,e⟩
 obtain ⟨p,hp,e⟩:=hm;refine Nat.lt_of_le_of_ne (u2 _ _) fun q=>?_;have:=(ABi (p:=fun p:Int×aa=> !decide (p.1=i))).1 (AA3.eq_of_length q) p hp;simp [e] at this
theorem LV (hi:m.lookup i≠none) {k:Int}:k∈e7 m i own↔AB m i own k:=by
 unfold e7;rw [n3,cu,r0];constructor
 ·rintro ⟨_,h⟩;exact h
 ·intro h;refine ⟨?_,h⟩;obtain ⟨n,_,A,B⟩:=h;have:=OQ hi (x:=n);exact ⟨(k-1).toNat,AAd.2 I,I⟩
end
end
section
def tg (l:List Int):List (List Value):=l.map fun x=>[vI x]
theorem wb:(tg l).length=l.length:=by simp [tg]
theorem Mc (h:l[k]? =some x):(tg l)[k]? =some [vI x]:=by simp [tg,h]
theorem Ml {x:List Value} (h:(tg l)[k]? =some x): ∃ y,l[k]? =some y∧x=[vI y]:=by
 simp only [tg,gO,AAQ] at h;obtain ⟨y,hy,rfl⟩:=h;exact ⟨y,hy,U⟩
theorem HE: ∀ x∈tg l,x.length=1:=fun x hx=>by
 simp only [tg,cu] at hx;obtain ⟨y,_,rfl⟩:=hx;rfl
theorem Bu:l.take (tg l).length=l:=by rw [wb,c5 (c9 _)]
theorem nI (h:l[k]? =some x):l.take (k+1)=l.take k++[x]:=by
 rw [l1,h];rfl
def eg (l:List Int):List Int:=l.mergeSort fun a b=>decide (a≤b)
theorem f_:(eg l).Perm l:=List.mergeSort_perm _ _
theorem lI:(eg l).Pairwise (· ≤ ·):=by
 have:=List.pairwise_mergeSort (le:=fun (a b:Int)=>decide (a≤b)) (fun a b c A B=>by simp at A B ⊢;omega) (fun a b=>by simp;omega) l;exact this.imp fun h=>by simpa using h
@[simp] theorem iz {l:List Int}:(eg l).length=l.length:=f_.length_eq
theorem tQ {m:List Int} (h1:m.Perm l) (h2:m.Pairwise (· ≤ ·)):m=eg l:=uZ (h1.trans f_.symm) h2 lI
end
section
open Go.RowKit
def sC (s:aX):List Value:=[vS s.a s.n s.c]
theorem Cg: ∀ s,(sC s).length=1:=fun s=>rfl
theorem Nj (l:List aX): ∀ v∈(l.map sC).flatten,v.oneCell'=true:=oj (fun s=>rfl) l
def Ek (l:List aa) (a:RA):aX:=⟨a.1,l.length,a.2⟩
def MB (l:List aa) (a:RA):List Value:=[vS a.1 l.length a.2]
def Ux (l:List aa) (a:RA):List au:=[rd a.1 l.length 2 (l.map aa.cells)]
def HN (l:List aa) (a:RA):List au:=[own a.1 a.2 OG 2 (l.map aa.cells)]
theorem BA:(zipWith Ek ls az).map sC=zipWith MB ls az:=by
 rw [List.map_zipWith];rfl
theorem Jz: ∀ (m:List aa) (a:RA) (w:World),(∀ X∈HN m a,X.holds w)→ ∀ X∈Ux m a,X.holds w:=fun m a w h X hX=>by
 simp only [Ux,bU] at hX;subst hX;have:=pA (h _ (bU.2 rfl));simpa using this
theorem DL {l:List (List aa)}:(bD (bB HN l bz)).wr=true:=by
 show (bB HN l bz).all (·.wr)=true
 rw [dg];intro X hX;obtain ⟨k,m,a,_,_,h⟩:=lx hX;simp only [HN,bU] at h;subst h;rfl
theorem zf (h:az.length=ls.length):(zipWith MB ls az).length=ls.length:=by simp [h]
noncomputable def ij (r:cN) (i:Nat):List (List aa):=(r.ax.take i).map fun h=>h.map (gf r.ar)
noncomputable def dN (r:cN):List (List aa):=ij r r.ax.length
section
variable {r:cN} {i:Nat} {h:List ak} {tz:List RA} {a:RA}
theorem yx (hh:r.ax[i]? =some h):ij r (i+1)=ij r i++[h.map (gf r.ar)]:=by unfold ij;rw [l1,hh,AAF];rfl
theorem ml (hi:i≤r.ax.length):(ij r i).length=i:=by unfold ij;rw [c3,k5];omega
theorem fG:(dN r).length=r.ax.length:=ml (c9 _)
theorem GS (hh:r.ax[i]? =some h):(dN r)[i]? =some (h.map (gf r.ar)):=by
 unfold dN ij;rw [AA8,gO,hh];rfl
theorem KR {m:List aa} (hh:r.ax[i]? =some h) (hm:(dN r)[i]? =some m):m=h.map (gf r.ar):=by
 rw [GS hh] at hm;exact (m3 hm).symm
theorem wE (hh:r.ax[i]? =some h) (hl:tz.length=i):zipWith Ek (ij r (i+1)) (tz++[a])=zipWith Ek (ij r i) tz++[Ek (h.map (gf r.ar)) a]:=by
 have hi:=(aT.1 hh).1;rw [yx hh,ACS (by rw [ml I,hl])];rfl
theorem FD (hh:r.ax[i]? =some h) (hl:tz.length=i):bB HN (ij r i) tz++[own a.1 a.2 OG 2 ((h.map (gf r.ar)).map aa.cells)]=bB HN (ij r (i+1)) (tz++[a]):=by
 have hi:=(aT.1 hh).1;rw [yx hh,lF (by rw [ml I,hl])];simp [bB,HN]
end
theorem Cm {lo hi:Int}:oJ lo hi l=true↔ ∀ x∈l,lo≤x∧x≤hi:=by
 unfold oJ;rw [e0,ACD];constructor
 ·intro h x hx;have:=h x hx;simp only [r0] at this;omega
 ·intro h x hx;have:=h x hx;simp only [r0];omega
abbrev Kn (n:Nat):List Int:=(range n).map fun (k:Nat)=>(k:Int)
theorem An (n:Nat):(Kn n).Pairwise (· ≤ ·):=by
 unfold Kn;rw [AAK];exact AAt.imp fun h=>by omega
theorem FW {n:Nat} (h:l.Perm (Kn n)):eg l=Kn n:=(tQ h.symm (An n)).symm
theorem KA {n:Nat} (hl:l.length=n) (h:∀ j,j<n→ ∀ x,(eg l)[j]? =some x→x=(j:Int)):l.Perm (Kn n):=by
 have e:eg l=Kn n:=by
  apply List.ext_getElem
  ·simp [hl]
  ·intro j A B;have C:j<n:=by simpa using B
   have:=h j C _ (fh A);simpa using this
 rw [← e];exact f_.symm
def tW (r:cN) (i:Nat):Prop:= ∀ j,j<i→(∀ x,(eg r.db)[j]? =some x→x=(j:Int))∧ ∀ x y,r.a_[j]? =some x→0<j→r.a_[j-1]? =some y→y<x
def HA (r:cN) (h:List ak):Prop:=h.length=r.a_.length∧ ∀ d∈h,jl r.ar d
def lJ (r:cN) (i:Nat):Prop:= ∀ (j:Nat) h,j<i→r.ax[j]? =some h→HA r h
def p6 (l:bf) (h:List ak) (k:Nat):Prop:= ∀ (j:Nat) d,j<k→h[j]? =some d→jl l d
section
variable {r:cN} {i:Nat}
theorem H4:tW r 0:=fun j hj=>absurd hj (s4 _)
theorem Ax (h:tW r i) (hd:(eg r.db)[i]? =some x) (e:x=(i:Int)) (hs:∀ x y,r.a_[i]? =some x→0<i→r.a_[i-1]? =some y→y<x):tW r (i+1):=fun j hj=>by
 rcases r4 j i with q|q
 ·exact h j q
 ·obtain rfl:j=i:=by omega
  exact ⟨fun y hy=>by rw [hd] at hy;cases hy;exact e,hs⟩
theorem AE:lJ r 0:=fun j h hj=>absurd hj (s4 _)
theorem AU (hh:lJ r i) (hx:r.ax[i]? =some h) (ho:HA r h):lJ r (i+1):=fun j y hj hy=>by
 rcases r4 j i with q|q
 ·exact hh j y q hy
 ·obtain rfl:j=i:=by omega
  rw [hx] at hy;cases hy;exact ho
theorem yF {l:bf}:p6 l h 0:=fun j d hj=>absurd hj (s4 _)
theorem yw {l:bf} (ht:p6 l h i) (hx:h[i]? =some d) (ho:jl l d):p6 l h (i+1):=fun j y hj hy=>by
 rcases r4 j i with q|q
 ·exact ht j y q hy
 ·obtain rfl:j=i:=by omega
  rw [hx] at hy;cases hy;exact ho
theorem I6 (hl:h.length=r.a_.length) (ht:p6 r.ar h i) (hi:h.length≤i):HA r h:=⟨hl,fun d hd=>by
 obtain ⟨j,hj⟩:=s3 hd;exact ht j d (by have:=(aT.1 hj).1;omega) hj⟩
theorem Qx {n:Nat} (hn:n=r.a_.length) (h1:1≤(r.a_.length:Int)∧(r.a_.length:Int)≤5) (h2:r.db.length=r.a_.length) (h3:0≤r.jz∧r.jz≤5) (h4:1≤(r.ax.length:Int)∧(r.ax.length:Int)≤3) (h5:oJ 0 9999 r.a_=true)
 (h6:tW r n) (h7:lJ r i) (hi:r.ax.length≤i):fq r:=by
 subst hn;refine ⟨h1,h3,h4,fun k x hx=>⟨Cm.1 h5 x (aF hx),fun y hk hy=>?_⟩,KA h2 fun j hj=>(h6 j hj).1,fun h hh=>?_⟩
 ·exact (h6 k (aT.1 hx).1).2 x y hx hk hy
 ·obtain ⟨j,hj⟩:=s3 hh;exact h7 j h (by have:=(aT.1 hj).1;omega) hj
theorem fq.D0 (h:fq r):r.db.length=r.a_.length:=by have:=h.draw.length_eq;simpa using this
theorem fq.ins (h:fq r):oJ 0 9999 r.a_=true:=Cm.2 fun x hx=>by
 obtain ⟨j,hj⟩:=s3 hx;exact (h.ids j x hj).1
theorem fq.drawn (h:fq r) (hx:(eg r.db)[i]? =some x):x=(i:Int):=by
 rw [FW h.draw] at hx;have hi:=(aT.1 hx).1;simp at hi;rw [gO,ABG hi] at hx;exact (m3 hx).symm
theorem fq.Iw (h:fq r):lJ r i:=fun j x _ hx=>h.fE x (aF hx)
theorem Cq (h: ¬ dU r.ar=0):eK r=dU r.ar:=c1 h
theorem l9 (h:dU r.ar=0) (hn: ¬ fq r):eK r=60:=by unfold eK;rw [c0 h,c1 hn]
theorem zG (h:dU r.ar=0) (hn:fq r):eK r=0:=by unfold eK;rw [c0 h,c0 hn]
theorem dG (h:eK r=0):dU r.ar=0∧fq r:=by
 unfold eK at h;split at h
 ·split at h
  ·exact ⟨asm,asm⟩
  ·cases h
 ·exact absurd h asm
end
section
variable {r:cN} {k i n h:Nat} {s:aa} {l:bf} {hs:List (List ak)}
theorem DO: ∀ {k:Nat} {s:aa},lJ r k→k≤r.ax.length→gL r.ar r.ax i k=some s→0≤s.Lo∧s.Lo≤s.Hi∧s.Hi≤8640000*(k:Int)
 |0,s,_,_,h=>by
  simp only [gL,k4] at h;subst h;simp
 |k+1,s,hh,hk,h=>by
  unfold gL at h;split at h
  ·rename_i u d hu hd;split at h
   ·cases h
   ·cases h;have A:=DO (fun j x hj hx=>hh j x I hx) I hu;obtain ⟨x,hx,hd⟩:=Option.bind_eq_some_iff.1 hd;have B:=IF ((hh k x I hx).2 d (aF hd));simp only
    push_cast
    omega
  ·cases h
theorem SF:d_ (eO l hs i 0 0) (i:Int) ⟨0,0⟩=eO l hs (i+1) 0 0:=by
 have A:(eO l hs i 0 0).lookup (i:Int)=none:=by rw [zD,c1 (lt_irrefl i)]
 unfold d_;rw [A];simp only [Option.isSome_none,Bool.false_eq_true,AA0];unfold eO;rw [AAV,AAh];simp [gL]
theorem Qq (hi:i<n):(eO l hs n h i).lookup (i:Int)=gL l hs i h:=by rw [zD,c0 hi,c1 (lt_irrefl i)]
theorem Wy {f:α→β} {tr:List β} {ht:List α} {x:β} {d:α} (e:tr=ht.map f) (hx:tr[i]? =some x) (hd:ht[i]? =some d):x=f d:=by
 rw [e,gO,hd] at hx;exact (m3 hx).symm
theorem RF:eO r.ar r.ax r.a_.length h 0=pP r h:=Fm
end
abbrev Xh (A C X Z):=own A C 102 1 (zipWith MB X Z)
end
section
def yM (key:Int→Int) (l:List Int) (x:Int):List Int:=l.takeWhile (fun y=>decide (key y≤key x))++x::l.dropWhile (fun y=>decide (key y≤key x))
def gV (key:Int→Int) (l:List Int):List Int:=l.foldl (yM key) []
def IZ (key:Int→Int) (l:List Int):Prop:=l.Pairwise fun a b=>key a≤key b
section
variable {key:Int→Int} {l A B D:List Int} {x u v:Int} {i j:Nat}
theorem Kk:(yM key l x).Perm (x::l):=by
 unfold yM;refine v5.trans ?_;rw [List.takeWhile_append_dropWhile]
theorem TX (hA: ∀ y∈A,key y≤key x) (hB: ∀ y∈B,key x<key y):(A++B).takeWhile (fun y=>decide (key y≤key x))=A∧(A++B).dropWhile (fun y=>decide (key y≤key x))=B:=by
 induction A with
 |nil=>
  cases B with
  |nil=>simp
  |cons b B=>
   have h:=hB b bZ;have:decide (key b≤key x)=false:=bg I;rw [AAp,List.takeWhile_cons,List.dropWhile_cons,this];exact ⟨U,U⟩
 |cons a A ih=>
  have h:=ih fun y hy=>hA y (dk _ hy);have:decide (key a≤key x)=true:=cR (hA a bZ);simp only [AAX,List.takeWhile,List.dropWhile,this];exact ⟨by rw [h.1],h.2⟩
theorem zx (hA: ∀ y∈A,key y≤key x) (hB: ∀ y∈B,key x<key y):yM key (A++B) x=A++x::B:=by
 unfold yM;rw [(TX hA hB).1,(TX hA hB).2]
theorem Eg (x:Int): ∀ {l:List Int},IZ key l→ ∃ A B,l=A++B∧(∀ y∈A,key y≤key x)∧ ∀ y∈B,key x<key y
 |[],_=>⟨[],[],rfl,(fun y h=>by cases h),fun y h=>by cases h⟩
 |a::l,h=>by
  unfold IZ at h;rw [AAT] at h;by_cases c:key a≤key x
  ·obtain ⟨A,B,e,hA,hB⟩:=Eg x (l:=l) h.2;refine ⟨a::A,B,by rw [e];rfl,fun y hy=>?_,hB⟩;rcases bI.1 hy with rfl|hy
   ·exact c
   ·exact hA y hy
  ·refine ⟨[],a::l,rfl,fun y hy=>(by cases hy),fun y hy=>?_⟩;rcases bI.1 hy with rfl|hy
   ·omega
   ·have:=h.1 y hy;omega
theorem SB (h:IZ key l):IZ key (yM key l x):=by
 obtain ⟨A,B,rfl,hA,hB⟩:=Eg x h;rw [zx hA hB];unfold IZ at h ⊢;rw [AAb] at h ⊢;refine ⟨h.1,AAT.2 ⟨fun y hy=>by have:=hB y hy;omega,h.2.1⟩,fun y hy z hz=>?_⟩;rcases bI.1 hz with rfl|hz
 ·exact hA y hy
 ·exact h.2.2 y hy z hz
theorem Ff:gV key (l++[x])=yM key (gV key l) x:=by unfold gV;rw [List.foldl_append];rfl
theorem EW (h:l[i]? =some x):gV key (l.take (i+1))=yM key (gV key (l.take i)) x:=by rw [nI h,Ff]
theorem AI: ∀ {l m:List Int},(l.foldl (yM key) m).Perm (m++l)
 |[],m=>by simp
 |x::l,m=>(AI (l:=l) (m:=yM key m x)).trans (((Kk).append_right l).trans (by
  rw [AAX];exact v5.symm))
theorem yD:(gV key l).Perm l:=by simpa [gV] using AI (key:=key) (l:=l) (m:=[])
theorem EG: ∀ {l m:List Int},IZ key m→IZ key (l.foldl (yM key) m)
 |[],m,h=>h
 |x::l,m,h=>EG (l:=l) (SB h)
theorem Cr:IZ key (gV key l):=EG List.Pairwise.nil
theorem qy:(gV key l).length=l.length:=yD.length_eq
def D8 (key:Int→Int) (l:List Int) (i j:Nat) (D:List Int):Prop:= ∃ A B x,l[i]? =some x∧A.length=j∧gV key (l.take i)=A++B∧(∀ y∈B,key x<key y)∧D=A++x::(B++l.drop (i+1))
def wI (key:Int→Int) (l:List Int) (i:Nat) (D:List Int):Prop:=D=gV key (l.take i)++l.drop i
theorem MD (h:0<l.length):wI key l 1 l:=by
 cases l with
 |nil=>simp at h
 |cons a l=>simp [wI,gV,yM]
theorem PE (hi:l.length≤i) (h:wI key l i D):D=gV key l:=by
 subst h;rw [c5 hi,List.drop_of_length_le hi,AAJ]
theorem HR (hi:i<l.length) (h:wI key l i D):D8 key l i i D:=by
 have hx:l[i]? =some l[i]:=fh hi;refine ⟨gV key (l.take i),[],l[i],hx,by rw [qy,k5];omega,sm,fun y hy=>(by cases hy),?_⟩;rw [h,AAp,u1 hi]
theorem zK: ∀ {A:List Int},0<A.length→ ∃ A' y,A=A'++[y]:=fun {A} h=>⟨A.dropLast,A.getLast (by intro e;subst e;simp at h),(List.dropLast_concat_getLast _).symm⟩
theorem Ko (hj:0<j) (h:D8 key l i j D) (hu:D[j]? =some u) (hv:D[j-1]? =some v) (hlt:key u<key v):D8 key l i (j-1) ((D.set j v).set (j-1) u):=by
 obtain ⟨A,B,x,hx,hl,he,hB,rfl⟩:=h;obtain ⟨A',y,rfl⟩:=zK (A:=A) I;simp only [e4,y3,List.length_nil] at hl;subst hl;have C:(A'++[y]++x::(B++l.drop (i+1)))=A'++y::x::(B++l.drop (i+1)):=by simp
 rw [C] at hu hv ⊢;rw [k_ I,show A'.length+(0+1)-A'.length=1 by omega] at hu;rw [show A'.length+(0+1)-1=A'.length by omega,k_ (c9 _),AAw] at hv;simp at hu hv;subst hu hv;refine ⟨A',y::B,x,hx,I,by rw [he];simp,fun z hz=>?_,?_⟩
 ·rcases bI.1 hz with rfl|hz
  ·exact hlt
  ·exact hB z hz
 ·rw [show A'.length+(0+1)-1=A'.length by omega,AAu _ _ I,AAu _ _ (c9 _),show A'.length+(0+1)-A'.length=1 by omega,AAw];simp
theorem Co (h:D8 key l i j D) (hc: ∀ A,A.length=j→(∃ C,D=A++C)→IZ key A→ ∀ x,l[i]? =some x→D[j]? =some x→ ∀ y∈A,key y≤key x):wI key l (i+1) D:=by
 obtain ⟨A,B,x,hx,hl,he,hB,rfl⟩:=h;unfold wI;have E:IZ key (A++B):=he▸Cr;rw [EW hx,he,zx (hc A hl ⟨_,rfl⟩ (by unfold IZ at E ⊢;rw [AAb] at E;exact E.1) x hx (by rw [k_ I,← hl];simp)) hB];simp
theorem BZ (hj: ¬ 0<j) (h:D8 key l i j D):wI key l (i+1) D:=Co h fun A hl _ _ x _ _ y hy=>by
 have:A=[]:=kq I;subst this;cases hy
theorem BQ (hj:0<j) (h:D8 key l i j D) (hu:D[j]? =some u) (hv:D[j-1]? =some v) (hlt: ¬ key u<key v):wI key l (i+1) D:=Co h fun A hl hC hA x hx hd y hy=>by
 obtain ⟨C,hC⟩:=hC;obtain ⟨A',z,rfl⟩:=zK (A:=A) I;simp only [e4,y3,List.length_nil] at hl;rw [hd] at hu;cases hu;have e:D[j-1]? =some z:=by
  rw [hC,append_assoc,k_ I,show j-1-A'.length=0 by omega];simp
 rw [e] at hv;cases hv;unfold IZ at hA;rw [AAb] at hA;rcases dZ.1 hy with hy|hy
 ·have:=hA.2.2 y hy v sm;omega
 ·rw [bU] at hy;subst hy;omega
end
end
section
def cd (m:k9) (i:Int):aa:=(m.lookup i).getD gP
def mN (r:cN) (i:Int):Prop:=0≤i∧i≤(r.a_.length:Int)-1
instance (r:cN) (i:Int):Decidable (mN r i):=by unfold mN;infer_instance
noncomputable def oE (r:cN) (i:Int):Int:=if eK r=0 then (if mN r i then (if (bJ r).lookup i=none then 6 else 0) else 2) else eK r
noncomputable def yP (r:cN) (i:Int):aa:=if oE r i=0 then cd (bJ r) i else gP
noncomputable def kx (r:cN) (i:Int):List Int:=if oE r i=0 then e7 (bJ r) i (cd (bJ r) i) else []
section
variable {r:cN} {i a b:Int}
theorem Lp {m:k9} {i:Int} (h:(m.lookup i).isSome=true): ¬ m.lookup i=none:=fun e=>by rw [e] at h;cases h
theorem Md {m:k9} {i:Int} (h:(m.lookup i).isSome=false):m.lookup i=none:=by cases e:m.lookup i with |none=>rfl|some v=>rw [e] at h;cases h
theorem B_ (h:oE r i=0):eK r=0∧mN r i∧(bJ r).lookup i≠none:=by
 unfold oE at h;split at h
 ·split at h
  ·split at h
   ·cases h
   ·exact ⟨asm,asm,asm⟩
  ·cases h
 ·exact absurd h asm
theorem yg {p:Int×aa} (h:p∈pP r k): ∃ q:Nat,q<r.a_.length∧p.1=(q:Int)∧gL r.ar r.ax q k=some p.2:=by
 unfold pP at h;obtain ⟨q,hq,e⟩:=AAD.1 h;obtain ⟨s,hs,rfl⟩:=AAQ.1 e;exact ⟨q,AAd.1 hq,U,hs⟩
theorem Sa (h:eK r=0) (hk:k≤r.ax.length): ∀ p∈pP r k,0≤p.2.Lo∧p.2.Lo≤p.2.Hi∧p.2.Hi≤30000000:=fun p hp=>by
 obtain ⟨q,_,_,hs⟩:=yg hp;have A:=DO (dG h).2.Iw hk hs;have B:=(dG h).2.nh;omega
theorem xh (h:eK r=0): ∀ p∈bJ r,0≤p.2.Lo∧p.2.Lo≤p.2.Hi∧p.2.Hi≤30000000:=Sa h (c9 _)
theorem CD:(pP r k).length≤r.a_.length:=by
 unfold pP;refine c6 (List.length_filterMap_le _ _) ?_;rw [AA1];exact c9 _
theorem tH (h:eK r=0):(bJ r).length≤5:=by
 have A:=CD (r:=r) (k:=r.ax.length);have B:=(dG h).2.num;unfold bJ;omega
theorem Ow (h: ¬ eK r=0):oE r i=eK r:=c1 h
theorem O_ (h:eK r=0) (hi: ¬ (0≤i∧i≤(r.a_.length:Int)-1)):oE r i=2:=by unfold oE;rw [c0 h,c1 (show ¬ mN r i from hi)]
theorem KU (h:eK r=0) (hi:0≤i∧i≤(r.a_.length:Int)-1) (hl:((bJ r).lookup i).isSome=false):oE r i=6:=by unfold oE;rw [c0 h,c0 (show mN r i from hi),c0 (Md hl)]
theorem RU (h:eK r=0) (hi:0≤i∧i≤(r.a_.length:Int)-1) (hl:((bJ r).lookup i).isSome=true):oE r i=0:=by unfold oE;rw [c0 h,c0 (show mN r i from hi),c1 (Lp hl)]
end
end
section
abbrev sZ:=List (Int×Bool)
def ki (m:sZ) (P:Int→Prop):Prop:=(m.map (·.1)).Nodup∧ ∀ k,k∈m.map (·.1)↔P k
section
variable {m:sZ} {P Q:Int→Prop} {k:Int}
theorem ki.Bv (h:ki m P) (e: ∀ k,P k↔Q k):ki m Q:=⟨h.1,fun k=>(h.2 k).trans (e k)⟩
theorem QQ (h: ∀ k,¬ P k):ki [] P:=⟨List.Pairwise.nil,fun k=>⟨fun q=>by simp at q,fun q=>absurd q (h k)⟩⟩
theorem Kt:k∈m.map (·.1)↔(m.lookup k).isSome=true:=by
 induction m with
 |nil=>simp
 |cons p m ih=>
  obtain ⟨a,b⟩:=p;by_cases e:k=a
  ·subst e;simp [lookup]
  ·have:(k==a)=false:=by simpa using e
   simp only [m2,bI,e,false_or,lookup,this];exact ih
theorem ON (h:ki m P) (hk:¬ P k):ki (d_ m k b) fun q=>P q∨q=k:=by
 have hn:(m.lookup k).isSome=false:=by
  rw [Bool.eq_false_iff];exact fun q=>hk ((h.2 k).1 (Kt.2 q))
 unfold d_;rw [hn];simp only [Bool.false_eq_true,AA0];refine ⟨?_,fun q=>?_⟩
 ·rw [AAF];refine ABs.2 ⟨h.1,sm,fun a ha b hb e=>?_⟩;simp at hb;subst hb;subst e;exact hk ((h.2 _).1 ha)
 ·rw [AAF,dZ,h.2 q];simp
theorem Ew (h:ki m P):ki (cJ m k) fun q=>P q∧q≠k:=by
 have hs:((cJ m k).map (·.1)).Sublist (m.map (·.1)):=List.Sublist.map _ AA3;refine ⟨h.1.sublist hs,fun q=>?_⟩;constructor
 ·intro hq;obtain ⟨p,hp,rfl⟩:=cu.1 hq;obtain ⟨A,B⟩:=lP.1 hp;exact ⟨(h.2 _).1 (AAE A),B⟩
 ·rintro ⟨A,B⟩;obtain ⟨p,hp,rfl⟩:=cu.1 ((h.2 q).2 A);exact AAE (lP.2 ⟨hp,B⟩)
end
/-- two rows that go up and have the same numbers, each once -/
theorem q9 {a b:List Int} (ha:a.Pairwise (· ≤ ·)) (hb:b.Pairwise (· ≤ ·)) (na:a.Nodup) (nb:b.Nodup) (h: ∀ x,x∈a↔x∈b):a=b:=
 uZ ((List.perm_ext_iff_of_nodup na nb).2 h) ha hb
section
variable {m left:k9} {i n x:Int} {y:aa}
theorem nS {p:Int×aa→Bool} (hn:(left.map (·.1)).Nodup) (hm:(x,y)∈left):left.countP p=(cJ left x).countP p+(if p (x,y)=true then 1 else 0):=by
 induction left with
 |nil=>cases hm
 |cons q left ih=>
  obtain ⟨a,b⟩:=q;simp only [m2,AA2] at hn;rcases bI.1 hm with e|hm
  ·cases e;have A:cJ ((x,y)::left) x=left:=by
    unfold cJ;rw [AAj sm];exact ABi.2 fun q hq=>by
     have:q.1≠x:=fun e=>hn.1 (e▸AAE hq);simpa using this
   rw [A,ACg]
  ·have B:a≠x:=fun e=>hn.1 (e▸AAE (f:=fun z:Int×aa=>z.1) hm);have A:cJ ((a,b)::left) x=(a,b)::cJ left x:=by
    unfold cJ;rw [AAi (by simpa using B)]
   rw [A,ACg,ACg,ih hn.2 hm];omega
theorem ug:mU left i n=left.countP fun p=>decide (p.2.Hi<n)&& !decide (p.1=i):=by unfold mU p8;rw [List.countP_filter]
theorem xB:qo left i n=left.countP fun p=>decide (p.2.Lo<n)&& !decide (p.1=i):=by unfold qo p8;rw [List.countP_filter]
theorem Kf (hn:(left.map (·.1)).Nodup) (hm:(x,y)∈left) (h:x=i):mU left i n=mU (cJ left x) i n:=by
 rw [ug,ug,nS hn hm];simp [h]
theorem O2 (hn:(left.map (·.1)).Nodup) (hm:(x,y)∈left) (h:x=i):qo left i n=qo (cJ left x) i n:=by
 rw [xB,xB,nS hn hm];simp [h]
theorem BB (hn:(left.map (·.1)).Nodup) (hm:(x,y)∈left) (h: ¬ x=i) (hy:y.Hi<n):mU left i n=mU (cJ left x) i n+1:=by
 rw [ug,ug,nS hn hm];simp [h,hy]
theorem Fl (hn:(left.map (·.1)).Nodup) (hm:(x,y)∈left) (h: ¬ x=i) (hy: ¬ y.Hi<n):mU left i n=mU (cJ left x) i n:=by
 rw [ug,ug,nS hn hm];simp [h,hy]
theorem E8 (hn:(left.map (·.1)).Nodup) (hm:(x,y)∈left) (h: ¬ x=i) (hy:y.Lo<n):qo left i n=qo (cJ left x) i n+1:=by
 rw [xB,xB,nS hn hm];simp [h,hy]
theorem II (hn:(left.map (·.1)).Nodup) (hm:(x,y)∈left) (h: ¬ x=i) (hy: ¬ y.Lo<n):qo left i n=qo (cJ left x) i n:=by
 rw [xB,xB,nS hn hm];simp [h,hy]
theorem Cy:mU [] i n=0:=rfl
theorem E4:qo [] i n=0:=rfl
theorem Ij:mU m i n≤m.length:=by unfold mU p8;exact c6 ACH (u2 _ _)
theorem PI:qo m i n≤m.length:=by unfold qo p8;exact c6 ACH (u2 _ _)
end
def qk {β:Type} (m left:List (Int×β)) (ys:List Int):Prop:=(ys++left.map (·.1)).Perm (m.map (·.1))
theorem yH {m:List (Int×β)}:qk m m []:=ABY _
theorem AP {m:List (Int×β)} (h:qk m [] ys):ys.Perm (m.map (·.1)):=by simpa [qk] using h
theorem PO {left:List (Int×β)} {y:β} (hn:(left.map (·.1)).Nodup) (hm:(x,y)∈left):(left.map (·.1)).Perm (x::(cJ left x).map (·.1)):=by
 induction left with
 |nil=>cases hm
 |cons q left ih=>
  obtain ⟨a,b⟩:=q;simp only [m2,AA2] at hn;rcases bI.1 hm with e|hm
  ·cases e;have A:cJ ((x,y)::left) x=left:=by
    unfold cJ;rw [AAj sm];exact ABi.2 fun q hq=>by
     have:q.1≠x:=fun e=>hn.1 (e▸AAE hq);simpa using this
   rw [A];exact ABY _
  ·have B:a≠x:=fun e=>hn.1 (e▸AAE (f:=fun z:Int×β=>z.1) hm);have A:cJ ((a,b)::left) x=(a,b)::cJ left x:=by
    unfold cJ;rw [AAi (by simpa using B)]
   rw [A,m2,m2];exact ((ih hn.2 hm).cons a).trans (List.Perm.swap _ _ _)
theorem qj {m left:List (Int×β)} {y:β} (hn:(left.map (·.1)).Nodup) (hm:(x,y)∈left) (h:qk m left ys):qk m (cJ left x) (ys++[x]):=by
 unfold qk at h ⊢;refine List.Perm.trans ?_ h;rw [append_assoc];exact (PO hn hm).symm.append_left ys
theorem gX {m left:List (Int×β)} (h:∀ p∈left,p∈m): ∀ p∈cJ left x,p∈m:=fun p hp=>h p (lP.1 hp).1
theorem n9 {m:k9} {i:Int} (h: ∀ p∈m,0≤p.2.Lo∧p.2.Lo≤p.2.Hi∧p.2.Hi≤30000000):0≤(cd m i).Lo∧(cd m i).Lo≤(cd m i).Hi∧(cd m i).Hi≤30000000:=by
 unfold cd;cases e:m.lookup i with
 |none=>simp [gP]
 |some v=>
  have hm:(i,v)∈m:=by
   clear h
   induction m with
   |nil=>cases e
   |cons p m ih=>
    obtain ⟨a,b⟩:=p;by_cases c:i=a
    ·subst c;simp [lookup] at e;subst e;exact bZ
    ·have:(i==a)=false:=by simpa using c
     simp only [lookup,this] at e;exact dk _ (ih e)
  simpa using h _ hm
/-- not reached by the numbers so far -/
def x5 (m:k9) (i:Int) (ys:List Int) (k:Int):Prop:=(1≤k∧k≤(m.length:Int))∧ ∀ n∈ys,¬ ((mU m i n:Int)+1≤k∧k≤(qo m i n:Int)+1)
section
variable {m:k9} {i:Int} {own:aa} {ys:List Int} {nev ranks:sZ} {n a b:Int}
theorem Ni (h:ki nev fun k=>1≤k∧k≤(m.length:Int)):ki nev (x5 m i []):=h.Bv fun k=>⟨fun h=>⟨h,fun n hn=>by cases hn⟩,fun h=>h.1⟩
theorem P0 (ha:a=(mU m i n:Int)+1) (hb:b=(qo m i n:Int)+1) (h:ki nev fun q=>x5 m i ys q∧ ¬ (a≤q∧q≤b)):ki nev (x5 m i (ys++[n])):=by
 subst ha hb;refine h.Bv fun k=>?_;unfold x5;constructor
 ·rintro ⟨⟨B,A⟩,C⟩;refine ⟨B,fun x hx=>?_⟩;rcases dZ.1 hx with hx|hx
  ·exact A x hx
  ·rw [bU] at hx;subst hx;exact C
 ·rintro ⟨B,A⟩;exact ⟨⟨B,fun x hx=>A x (m1 _ hx)⟩,A n sm⟩
theorem G8 {P:Int→Prop} {k:Int} (hk:a≤k) (h:ki nev fun q=>P q∧ ¬ (a≤q∧q<k)):ki (cJ nev k) fun q=>P q∧ ¬ (a≤q∧q<k+1):=
 (Ew (k:=k) h).Bv fun q=>by
  constructor
  ·rintro ⟨⟨B,A⟩,E⟩;exact ⟨B,fun ⟨C,D⟩=>A ⟨C,I⟩⟩
  ·rintro ⟨B,A⟩;exact ⟨⟨B,fun ⟨C,D⟩=>A ⟨C,I⟩⟩,fun e=>A ⟨I,I⟩⟩
theorem I3 (hall: ∀ n,n∈ys↔n∈oO m i own) {k:Int} (hk:1≤k∧k≤(m.length:Int)): ¬ x5 m i ys k↔AB m i own k:=by
 unfold x5 AB;constructor
 ·intro h;refine AAn fun q=>h ⟨hk,fun n hn hc=>q ⟨n,(hall n).1 hn,hc.1,hc.2⟩⟩
 ·rintro ⟨n,hn,A,B⟩ h;exact h.2 n ((hall n).2 hn) ⟨A,B⟩
/-- the ranks, from what is left of the map -/
theorem GN (hi:m.lookup i≠none) (hall: ∀ n,n∈ys↔n∈oO m i own) (h:ki ranks fun k=>(1≤k∧k≤(m.length:Int))∧ ¬ x5 m i ys k):eg (ranks.map (·.1))=e7 m i own:=by
 refine q9 lI ?_ ((f_ (l:=ranks.map (·.1))).nodup_iff.2 h.1) ?_ fun k=>?_
 ·unfold e7;refine ACP _ ?_;rw [AAK];exact AAt.imp fun h=>by omega
 ·unfold e7;refine ACP _ ?_;rw [AAK];exact AAt.imp fun h=>by omega
 ·rw [(f_ (l:=ranks.map (·.1))).mem_iff,h.2 k,LV hi];constructor
  ·rintro ⟨A,B⟩;exact (I3 hall A).1 B
  ·intro A;have hk:1≤k∧k≤(m.length:Int):=by
    obtain ⟨n,_,B,C⟩:=A;have:=OQ hi (x:=n);omega
   exact ⟨hk,(I3 hall hk).2 A⟩
end
section
variable {nw left rk:sZ} {N R:Int→Prop} {u:Int} {v:Bool}
theorem Si (hl: ∀ p∈left,p∈nw) (hk:ki nw N) (hm:(u,v)∈left) (h:ki rk fun w=>R w∧ ¬ (N w∧w ∉ left.map (·.1))):ki (cJ rk u) fun w=>R w∧ ¬ (N w∧w ∉ (cJ left u).map (·.1)):=
 (Ew (k:=u) h).Bv fun w=>by
  have hd:w∈(cJ left u).map (·.1)↔w∈left.map (·.1)∧w≠u:=by
   constructor
   ·intro q;obtain ⟨p,hp,rfl⟩:=cu.1 q;exact ⟨AAE (lP.1 hp).1,(lP.1 hp).2⟩
   ·rintro ⟨D,E⟩;obtain ⟨p,hp,rfl⟩:=cu.1 D;exact AAE (lP.2 ⟨hp,E⟩)
  constructor
  ·rintro ⟨⟨B,A⟩,C⟩;exact ⟨B,fun q=>A ⟨q.1,fun z=>q.2 (hd.2 ⟨z,C⟩)⟩⟩
  ·rintro ⟨B,A⟩;refine ⟨⟨B,fun q=>A ⟨q.1,fun z=>q.2 (hd.1 z).1⟩⟩,fun e=>A ⟨?_,fun z=>(hd.1 z).2 e⟩⟩;subst e;exact (hk.2 _).1 (AAE (f:=fun z:Int×Bool=>z.1) (hl _ hm))
theorem PR {n:Nat} (h:ki rk R) (hR: ∀ k,R k→1≤k∧k≤(n:Int)):rk.length≤n:=by
 have hp:((range n).map fun (k:Nat)=>(k:Int)+1).Pairwise (· < ·):=by
  rw [AAK];exact AAt.imp fun h=>by omega
 have e:eg (rk.map (·.1))=((range n).map fun (k:Nat)=>(k:Int)+1).filter fun k=>decide (k∈rk.map (·.1)):=by
  refine q9 lI ((hp.filter _).imp fun h=>by omega) ((f_ (l:=rk.map (·.1))).nodup_iff.2 h.1) ((hp.filter _).imp fun h=>by omega) fun k=>?_;rw [(f_ (l:=rk.map (·.1))).mem_iff,n3,r0];refine ⟨fun q=>⟨?_,q⟩,fun q=>q.2⟩;have:=hR k ((h.2 k).1 q);exact cu.2 ⟨(k-1).toNat,AAd.2 I,I⟩
 have A:=c7 length e;have B:=u2 (fun k=>decide (k∈rk.map (·.1))) ((range n).map fun (k:Nat)=>(k:Int)+1);rw [iz,c3] at A;rw [c3,AA1] at B;omega
end
section
variable {m left:k9} {i x n:Int} {own y:aa} {ys:List Int}
/-- what was told so far: all of those who are not left -/
def BC (m:k9) (i:Int) (own:aa) (left:k9) (ys:List Int):Prop:=(∀ n∈ys,n∈oO m i own)∧own.Lo∈ys∧ ∀ p∈m,p.1≠i→p ∉ left→ ∀ n∈[p.2.Lo+1,p.2.Hi+1],own.Lo≤n∧n≤own.Hi→n∈ys
theorem oR {p:Int×aa} (hp:p∈m) (hi:p.1≠i) (hn:n=p.2.Lo+1∨n=p.2.Hi+1) (hb:own.Lo≤n∧n≤own.Hi):n∈oO m i own:=
 dk _ (n3.2 ⟨AAx.2 ⟨p,n3.2 ⟨hp,by simpa using hi⟩,by simpa using hn⟩,cR hb⟩)
theorem NZ:BC m i own m [own.Lo]:=⟨fun n hn=>by rw [bU] at hn;subst hn;exact bZ,sm,fun p hp _ hl=>absurd hp hl⟩
theorem Sl (h:BC m i own [] ys) (n:Int):n∈ys↔n∈oO m i own:=by
 refine ⟨h.1 n,fun hn=>?_⟩;rcases bI.1 hn with rfl|hn
 ·exact h.2.1
 ·obtain ⟨C,D⟩:=n3.1 hn;obtain ⟨p,hp,hx⟩:=AAx.1 C;obtain ⟨A,B⟩:=n3.1 hp;exact h.2.2 p A (by simpa using B) sm n hx (s6 D)
theorem mZ {ys':List Int} (hm:(left.map (·.1)).Nodup) (hx:(x,y)∈left) (hl: ∀ p∈left,p∈m) (h:BC m i own left ys) (hs: ∀ n∈ys,n∈ys') (hn: ∀ n∈ys',n∈ys∨n∈oO m i own)
 (hy:x≠i→ ∀ n∈[y.Lo+1,y.Hi+1],own.Lo≤n∧n≤own.Hi→n∈ys'):BC m i own (cJ left x) ys':=by
 refine ⟨fun n A=>?_,hs _ h.2.1,fun p hp hi B n A hb=>?_⟩
 ·rcases hn n A with q|q
  ·exact h.1 n q
  ·exact q
 ·by_cases e:p∈left
  ·have C:p.1=x:=by
    refine AAn fun q=>B (lP.2 ⟨e,q⟩)
   have E:p=(x,y):=by
    obtain ⟨G,H⟩:=p;simp only at C;subst C;have F:=(ko hm).1 e;have D:=(ko hm).1 hx;rw [F] at D;cases D;rfl
   subst E;exact hy hi n A hb
  ·exact hs n (h.2.2 p hp hi e n A hb)
end
section
variable {r:cN} {h i:Int} {ht:List ak} {d:ak}
end
theorem CE {i:Int} (h:¬ oE r i=0):kx r i=[]:=c1 h
theorem Mn {i:Int} (h:oE r i=0):kx r i=e7 (bJ r) i (cd (bJ r) i):=c0 h
end
section
open Go.RowKit
section
variable {key:Int→Int} {l q m:List Int} {i j:Nat} {x y:Int}
theorem KT:1=1∧l=[]∨wI key l 1 l:=by
 cases l with
 |nil=>exact .inl ⟨rfl,rfl⟩
 |cons a l=>exact .inr (MD sm)
theorem RS (h:i<l.length) (hd:i=1∧l=[]∨wI key l i m):wI key l i m:=by
 rcases hd with ⟨_,rfl⟩|hd
 ·simp at h
 ·exact hd
theorem Pz (hi: ¬ i<l.length) (hl:m.length=l.length) (hd:i=1∧l=[]∨wI key l i m):m=gV key l:=by
 rcases hd with ⟨_,rfl⟩|hd
 ·exact kq hl
 ·exact PE I hd
theorem N3 (hx:q[j]? =some x) (hy:q[j-1]? =some y) (h: ∀ z∈q,z∈l): ∀ z∈(q.set j y).set (j-1) x,z∈l:=fun z hz=>by
 rcases ABB hz with hz|rfl
 ·rcases ABB hz with hz|rfl
  ·exact h z hz
  ·exact h _ (aF hy)
 ·exact h _ (aF hx)
theorem EC {p:Int→Bool} (hx:l[i]? =some x) (h:p x=true):(l.take (i+1)).filter p=(l.take i).filter p++[x]:=by
 rw [nI hx,AAq];simp [h]
theorem Tf {p:Int→Bool} (hx:l[i]? =some x) (h:p x=false):(l.take (i+1)).filter p=(l.take i).filter p:=by
 rw [nI hx,AAq];simp [h]
end
section
variable {r:cN} {h:Int} {n:Nat}
theorem WX {m:k9} (hb:∀ p∈m,0≤p.2.Lo∧p.2.Lo≤p.2.Hi∧p.2.Hi≤30000000): ∀ x∈l,0≤(cd m x).Lo∧(cd m x).Lo≤30000000:=fun x _=>by have:=n9 (i:=x) hb;omega
end
end
section
def Od (f:Int→aa) (g:List Int):Prop:= ∀ t,(∃ a∈g,(f a).Lo<t)→(∃ b∈g,t≤(f b).Lo)→ ∃ c∈g,(f c).Lo<t∧t≤(f c).Hi
def P5 (f:Int→aa) (g h:List Int):Prop:= ∀ a∈g,∀ b∈h,(f a).Hi<(f b).Lo
structure kh (f:Int→aa) (keys:List Int) (G:List (List Int)):Prop where
 perm:G.flatten.Perm keys
 some_: ∀ g∈G,g≠[]
 apart:G.Pairwise (P5 f)
 tight: ∀ g∈G,Od f g
def KZ (G:List (List Int)):Prop:= ∀ g∈G,g.Pairwise (· ≤ ·)
section
variable {f:Int→aa} {keys:List Int} {G G':List (List Int)} {g h:List Int} {x:Int}
theorem zS: ∀ {g:List Int},g≠[]→ ∃ a∈g,∀ b∈g,(f a).Lo≤(f b).Lo
 |[],h=>absurd rfl h
 |[a],_=>⟨a,sm,fun b hb=>by simp at hb;subst hb;omega⟩
 |a::b::g,_=>by
  obtain ⟨c,hc,hm⟩:=zS (g:=b::g) sm;rcases Int.le_total (f a).Lo (f c).Lo with q|q
  ·refine ⟨a,sm,fun d hd=>?_⟩;rcases bI.1 hd with rfl|hd
   ·omega
   ·have:=hm d hd;omega
  ·refine ⟨c,dk _ hc,fun d hd=>?_⟩;rcases bI.1 hd with rfl|hd
   ·exact q
   ·exact hm d hd
/-- the first group is what no cut parts from the least -/
theorem ue (hf: ∀ i∈keys,(f i).Lo≤(f i).Hi) (h:kh f keys (g::G)) {a:Int} (ha:a∈keys) (hm: ∀ b∈keys,(f a).Lo≤(f b).Lo) {b:Int} (hb:b∈keys):b∈g↔ ∀ t,(f a).Lo<t→t≤(f b).Lo→ ∃ c∈keys,(f c).Lo<t∧t≤(f c).Hi:=by
 have hk: ∀ x,x∈keys↔x∈g∨x∈G.flatten:=fun x=>by rw [← h.perm.mem_iff,m9,dZ]
 have A:=AAT.1 h.apart;have B:a∈g:=by
  rcases (hk a).1 ha with q|q
  ·exact q
  ·obtain ⟨y,hy⟩:=ABW _ (h.some_ g bZ);obtain ⟨g',hg',hag'⟩:=ABc.1 q;have F:=A.1 g' hg' y hy a hag';have H:=hm y ((hk y).2 (.inl hy));have E:=hf y ((hk y).2 (.inl hy));omega
 constructor
 ·intro AA t F H;obtain ⟨c,hc,E⟩:=h.tight g bZ t ⟨a,B,F⟩ ⟨b,AA,H⟩;exact ⟨c,(hk c).2 (.inl hc),E⟩
 ·intro C;rcases (hk b).1 hb with q|q
  ·exact q
  ·exfalso;obtain ⟨d,hd,D⟩:=zS (f:=f) (g:=G.flatten) (fun e=>by rw [e] at q;cases q);obtain ⟨g',hg',hdg'⟩:=ABc.1 hd;have F:=A.1 g' hg' a B d hdg';have H:=hf a ha;have E:=D b q;obtain ⟨c,hc,K,L⟩:=C (f d).Lo I E;rcases (hk c).1 hc with J|J
   ·have:=A.1 g' hg' c J d hdg';omega
   ·have:=D c J;omega
theorem yq (h:kh f keys (g::G)):kh f G.flatten G:=
 ⟨ABY _,fun x hx=>h.some_ x (dk _ hx),(AAT.1 h.apart).2,fun x hx=>h.tight x (dk _ hx)⟩
theorem yp {k2:List Int} (h:kh f keys G) (p:keys.Perm k2):kh f k2 G:=⟨h.perm.trans p,h.some_,h.apart,h.tight⟩
theorem uY: ∀ {G G':List (List Int)} {keys:List Int},keys.Nodup→(∀ i∈keys,(f i).Lo≤(f i).Hi)→kh f keys G→kh f keys G'→KZ G→KZ G'→G=G'
 |[],[],keys,_,_,_,_,_,_=>rfl
 |[],g'::G',keys,_,_,h,h',_,_=>by
  exfalso;have H:keys=[]:=List.Perm.eq_nil (by simpa using h.perm.symm);subst H;have:=h'.perm.eq_nil;simp at this;exact h'.some_ g' bZ this.1
 |g::G,[],keys,_,_,h,h',_,_=>by
  exfalso;have H:keys=[]:=List.Perm.eq_nil (by simpa using h'.perm.symm);subst H;have:=h.perm.eq_nil;simp at this;exact h.some_ g bZ this.1
 |g::G,g'::G',keys,hn,hf,h,h',ha,ha'=>by
  have AA:keys≠[]:=fun e=>by
   subst e;have:=h.perm.eq_nil;simp at this;exact h.some_ g bZ this.1
  obtain ⟨a,A,B⟩:=zS (f:=f) AA;have E:=h.perm.nodup_iff.2 hn;have F:=h'.perm.nodup_iff.2 hn;rw [m9,ABs] at E F;have C: ∀ b∈g,b∈keys:=fun b hb=>h.perm.mem_iff.1 (by rw [m9];exact m1 _ hb);have D: ∀ b∈g',b∈keys:=fun b hb=>h'.perm.mem_iff.1 (by rw [m9];exact m1 _ hb);have e:g=g':=by
   refine q9 (ha g bZ) (ha' g' bZ) E.1 F.1 fun b=>?_;constructor
   ·intro hb;exact (ue hf h' A B (C b hb)).2 ((ue hf h A B (C b hb)).1 hb)
   ·intro hb;exact (ue hf h A B (D b hb)).2 ((ue hf h' A B (D b hb)).1 hb)
  subst e;have p:G.flatten.Perm G'.flatten:=by
   have:=h.perm.trans h'.perm.symm;rw [m9,m9] at this;exact (List.perm_append_left_iff g).1 this
  rw [uY (G:=G) (G':=G') E.2.1 (fun i hi=>hf i (h.perm.mem_iff.1 (by rw [m9];exact AAg _ hi))) (yq h) (yp (yq h') p.symm) (fun x hx=>ha x (dk _ hx)) (fun x hx=>ha' x (dk _ hx))]
/-- groups, each one put in order -/
theorem F1 (h:kh f keys G):kh f keys (G.map eg)∧KZ (G.map eg):=by
 have hp: ∀ G:List (List Int),(G.map eg).flatten.Perm G.flatten:=fun G=>by
  induction G with
  |nil=>simp
  |cons g G ih=>simp only [m2,m9];exact f_.append ih
 have hm: ∀ {g:List Int} {x:Int},x∈eg g↔x∈g:=f_.mem_iff;refine ⟨⟨(hp G).trans h.perm,fun g hg=>?_,?_,fun g hg=>?_⟩,fun g hg=>?_⟩
 ·obtain ⟨y,hy,rfl⟩:=cu.1 hg;intro e;have:=(f_ (l:=y)).symm;rw [e] at this;exact h.some_ y hy this.eq_nil
 ·rw [AAK];exact h.apart.imp fun q a ha b hb=>q a (hm.1 ha) b (hm.1 hb)
 ·obtain ⟨y,hy,rfl⟩:=cu.1 hg;rintro t ⟨a,ha,A⟩ ⟨b,hb,B⟩;obtain ⟨c,hc,C⟩:=h.tight y hy t ⟨a,hm.1 ha,A⟩ ⟨b,hm.1 hb,B⟩;exact ⟨c,hm.2 hc,C⟩
 ·obtain ⟨y,hy,rfl⟩:=cu.1 hg;exact lI
end
/-- so far: groups, and the greatest of all -/
structure oI (f:Int→aa) (p:List Int) (G:List (List Int)) (last:Int):Prop where
 ok:kh f p G
 Wa: ∀ a∈p,(f a).Hi≤last
 at_:p=[]∧last= -1∨ ∃ a∈p,(f a).Hi=last
section
variable {f:Int→aa} {p:List Int} {G:List (List Int)} {g:List Int} {x last:Int}
theorem Ry:oI f [] [] (-1):=⟨⟨sm,fun g hg=>(by cases hg),List.Pairwise.nil,fun g hg=>by cases hg⟩,fun a ha=>(by cases ha),.inl ⟨rfl,rfl⟩⟩
theorem KD:Od f [x]:=by
 rintro t ⟨a,ha,A⟩ ⟨b,hb,B⟩;simp at ha hb;subst ha hb;omega
theorem um (h0: -1≤(f x).Hi) (h:oI f p G last):(∀ a∈p++[x],(f a).Hi≤max last (f x).Hi)∧((p++[x])=[]∧max last (f x).Hi= -1∨ ∃ a∈p++[x],(f a).Hi=max last (f x).Hi):=by
 refine ⟨fun a ha=>?_,.inr ?_⟩
 ·rcases dZ.1 ha with ha|ha
  ·have:=h.Wa a ha;omega
  ·rw [bU] at ha;subst ha;omega
 ·rcases Int.le_total last (f x).Hi with q|q
  ·exact ⟨x,sm,I⟩
  ·rcases h.at_ with ⟨rfl,e⟩|⟨a,ha,e⟩
   ·exact ⟨x,sm,I⟩
   ·exact ⟨a,m1 _ ha,I⟩
theorem Rm (h0: -1≤(f x).Hi) (h:oI f p G last) (hl:last<(f x).Lo):oI f (p++[x]) (G++[[x]]) (max last (f x).Hi):=by
 have A: ∀ y∈G,∀ a∈y,a∈p:=fun y hy a ha=>h.ok.perm.mem_iff.1 (ABc.2 ⟨y,hy,ha⟩);refine ⟨⟨?_,fun y hy=>?_,?_,fun y hy=>?_⟩,(um h0 h).1,(um h0 h).2⟩
 ·rw [AB2];exact h.ok.perm.append sm
 ·rcases dZ.1 hy with hy|hy
  ·exact h.ok.some_ y hy
  ·rw [bU] at hy;subst hy;simp
 ·rw [AAb];refine ⟨h.ok.apart,AAY _ _,fun y hy z hz a ha b hb=>?_⟩;rw [bU] at hz;subst hz;rw [bU] at hb;subst hb;have:=h.Wa a (A y hy a ha);omega
 ·rcases dZ.1 hy with hy|hy
  ·exact h.ok.tight y hy
  ·rw [bU] at hy;subst hy;exact KD
theorem N0 (h0: -1≤(f x).Hi) (hf: ∀ i∈p,(f i).Lo≤(f i).Hi) (hx: ∀ a∈p,(f a).Lo≤(f x).Lo) (h:oI f p (G++[g]) last) (hl: ¬ last<(f x).Lo):oI f (p++[x]) (G++[g++[x]]) (max last (f x).Hi):=by
 have A: ∀ y∈G++[g],∀ a∈y,a∈p:=fun y hy a ha=>h.ok.perm.mem_iff.1 (ABc.2 ⟨y,hy,ha⟩);have C:=AAb.1 h.ok.apart;have B:=h.ok.some_ g sm;refine ⟨⟨?_,fun y hy=>?_,?_,fun y hy=>?_⟩,(um h0 h).1,(um h0 h).2⟩
 ·have:=h.ok.perm;rw [AB2] at this ⊢;simp only [m9,List.flatten_nil,AAJ] at this ⊢;rw [← append_assoc];exact this.append_right _
 ·rcases dZ.1 hy with hy|hy
  ·exact h.ok.some_ y (m1 _ hy)
  ·rw [bU] at hy;subst hy;simp
 ·rw [AAb];refine ⟨C.1,AAY _ _,fun y hy z hz a ha b hb=>?_⟩;rw [bU] at hz;subst hz;rcases dZ.1 hb with hb|hb
  ·exact C.2.2 y hy g sm a ha b hb
  ·rw [bU] at hb;subst hb;obtain ⟨c,hc⟩:=ABW _ B;have K:=C.2.2 y hy g sm a ha c hc;have H:=hx c (A g sm c hc);omega
 ·rcases dZ.1 hy with hy|hy
  ·exact h.ok.tight y (m1 _ hy)
  ·rw [bU] at hy;subst hy;rintro t ⟨a,ha,K⟩ ⟨b,hb,H⟩;by_cases D: ∃ b∈g,t≤(f b).Lo
   ·obtain ⟨b',hb',L⟩:=D;have AA:a∈g:=by
     rcases dZ.1 ha with q|q
     ·exact q
     ·rw [bU] at q;subst q;have:=hx b' (A g sm b' hb');omega
    obtain ⟨c,hc,M⟩:=h.ok.tight g sm t ⟨a,AA,K⟩ ⟨b',hb',L⟩;exact ⟨c,m1 _ hc,M⟩
   ·have J: ∀ c∈g,(f c).Lo<t:=fun c hc=>by
     refine AAn fun q=>D ⟨c,hc,I⟩
    have N:t≤(f x).Lo:=by
     rcases dZ.1 hb with q|q
     ·exact absurd ⟨b,q,H⟩ D
     ·rw [bU] at q;subst q;exact H
    rcases h.at_ with ⟨e,_⟩|⟨c,hc,e⟩
    ·exfalso;obtain ⟨c,hc⟩:=ABW _ B;have:=A g sm c hc;rw [e] at this;cases this
    ·have E:c∈g:=by
      obtain ⟨y,hy,F⟩:=ABc.1 (h.ok.perm.mem_iff.2 hc);rcases dZ.1 hy with hy|hy
      ·exfalso;obtain ⟨d,hd⟩:=ABW _ B;have L:=C.2.2 y hy g sm c F d hd;have M:=hf d (A g sm d hd);have O:=h.Wa d (A g sm d hd);omega
      ·rw [bU] at hy;subst hy;exact F
     exact ⟨c,m1 _ E,J c E,I⟩
theorem OO (h:oI f p G last) (hp:p≠[]):G≠[]:=fun e=>by
 subst e;exact hp (by simpa using h.ok.perm.symm.eq_nil)
end
end
section
open Go.RowKit
/-- a map, or nil -/
def oC (o:Option Nat):List Value:=[Value.map o]
theorem Dy {α:Type}: ∀ {ms:List α} {asl:List Nat},ms.length=asl.length→zipWith gY ms asl=(asl.map some).map oC
 |[],[],_=>rfl
 |[],_::_,h=>by simp at h
 |_::_,[],h=>by simp at h
 |x::ms,y::asl,h=>by simp only [u5,m2,Dy (ms:=ms) (asl:=asl) (by simpa using h)];rfl
/-- what stands for all but one -/
def fF {M A:Type} (f:M→A→List au) (ms:List M) (asl:List A) (k:Nat):List au:=bB f (ms.take k) (asl.take k)++bB f (ms.drop (k+1)) (asl.drop (k+1))
theorem kN {M A:Type} {f:M→A→List au}: ∀ {ms:List M} {asl:List A} {k:Nat} {m:M} {a:A},ms[k]? =some m→asl[k]? =some a→(bB f ms asl).Perm (f m a++fF f ms asl k)
 |[],_,k,m,a,h,_=>by simp at h
 |_::_,[],k,m,a,_,h=>by simp at h
 |x::ms,y::asl,0,m,a,h,h2=>by
  simp at h h2;subst h h2;simp [fF,bB]
 |x::ms,y::asl,k+1,m,a,h,h2=>by
  have ih:=kN (f:=f) (ms:=ms) (asl:=asl) (k:=k) (by simpa using h) (by simpa using h2);show (f x y++bB f ms asl).Perm (f m a++fF f (x::ms) (y::asl) (k+1))
  have e:fF f (x::ms) (y::asl) (k+1)=f x y++fF f ms asl k:=by simp [fF,bB,append_assoc]
  rw [e];refine (ih.append_left (f x y)).trans ?_;rw [← append_assoc,← append_assoc];exact AAC.append_right _
theorem JS {f:M→A→List au} {ms:List M} {asl:List A} {m':M}:fF f (ms.set k m') asl k=fF f ms asl k:=by
 unfold fF;rw [ABg (c9 k),ABj (ABb k)]
theorem kM (hp:X.Perm Y) (h:St S w0 (bD X::C) w):St S w0 (bD Y::C) w:=by
 have A:St S w0 (X++C) w:=h.iJ;exact (A.perm (hp.append_right C)).tied
theorem St.out {f:M→A→List au} {ms:List M} {asl:List A} {m:M} {a:A} {X:au} (hm:ms[k]? =some m) (ha:asl[k]? =some a) (hf:f m a=[X]) (h:St S w0 (bD (bB f ms asl)::C) w):St S w0 (X::bD (fF f ms asl k)::C) w:=by
 have B:=(kM (kN hm ha) h).iJ;rw [hf] at B;have D:St S w0 (fF f ms asl k++(X::C)) w:=B.perm (v5 (a:=X) (l₁:=fF f ms asl k) (l₂:=C)).symm;exact D.tied.perm (List.Perm.swap _ _ _)
theorem St.back {f:M→A→List au} {ms:List M} {asl:List A} {m':M} {a:A} {X:au} (hk:k<ms.length) (ha:asl[k]? =some a) (hf:f m' a=[X]) (h:St S w0 (X::bD (fF f ms asl k)::C) w):St S w0 (bD (bB f (ms.set k m') asl)::C) w:=by
 have B:St S w0 (bD (fF f ms asl k)::X::C) w:=h.perm (List.Perm.swap _ _ _);have D:=B.iJ;have E:St S w0 ((f m' a++fF f (ms.set k m') asl k)++C) w:=by
  rw [hf,JS];exact D.perm (v5 (a:=X) (l₁:=fF f ms asl k) (l₂:=C))
 exact kM (kN (r6 hk) ha).symm E.tied
section
variable {E:fJ} {ops:Array Oper} {Q:du} {rest:List Oper} {D:List Deferred} {L:List (Nat×Value)} {C C1:List au}
variable {M A:Type} {f:M→A→List au} {ms:List M} {asl:List A} {k:Nat} {m:M} {a:A} {X:au}
theorem B4 (i:Nat) (hm:ms[k]? =some m) (ha:asl[k]? =some a) (hf:f m a=[X]) (hn:decide (i::(range C.length).filter fun k=>k != i).Nodup=true) (hC:kQ C (i::(range C.length).filter fun k=>k != i)=bD (bB f ms asl)::C1) (h:WJ E c Q D L (X::bD (fF f ms asl k)::C1)):WJ E c Q D L C:=fun a w hf' hs=>h a w hf' (St.out hm ha hf (St.kQ _ hn hC hs))
theorem Dx (i j:Nat) (hk:k<ms.length) (ha:asl[k]? =some a) (hf:f m a=[X]) (hn:decide (j::i::(range C.length).filter fun k=>k != i&&k != j).Nodup=true) (hC:kQ C (j::i::(range C.length).filter fun k=>k != i&&k != j)=X::bD (fF f ms asl k)::C1) (h:KJ E K D L (bD (bB f (ms.set k m) asl)::C1)):KJ E K D L C:=fun a w hf' hs=>h a w hf' (St.back hk ha hf (St.kQ _ hn hC hs))
end
end
section
open Go.RowKit
def oU (l:List Int) (a:RA):List Value:=[vS a.1 l.length a.2]
def Kr (l:List Int) (a:RA):List au:=[rd a.1 l.length 1 (l.map iC)]
def Av (l:List Int) (a:RA):List au:=[own a.1 a.2 Uj 1 (l.map iC)]
theorem xb: ∀ (m:List Int) (a:RA) (w:World),(∀ X∈Av m a,X.holds w)→ ∀ X∈Kr m a,X.holds w:=fun m a w h X hX=>by
 simp only [Kr,bU] at hX;subst hX;have:=pA (h _ (bU.2 rfl));simpa using this
theorem vl {l:List (List Int)}:(bD (bB Av l bz)).wr=true:=by
 show (bB Av l bz).all (·.wr)=true
 rw [dg];intro X hX;obtain ⟨k,m,a,_,_,h⟩:=lx hX;simp only [Av,bU] at h;subst h;rfl
theorem iO {ls:List (List Int)} (h:az.length=ls.length):(zipWith oU ls az).length=ls.length:=by simp [h]
theorem Is (l:List (List Int)) (az:List RA): ∀ v∈(zipWith oU l az).flatten,v.oneCell'=true:=by
 induction l generalizing az with
 |nil=>intro v hv;simp at hv
 |cons x l ih=>
  cases az with
  |nil=>intro v hv;simp at hv
  |cons a az=>
   intro v hv;rw [u5,m9,dZ] at hv;rcases hv with hv|hv
   ·simp [oU] at hv;subst hv;rfl
   ·exact ih az v hv
section
variable {M A:Type} {f:M→A→List au} {ms:List M} {asl:List A} {k:Nat} {m:M} {a:A} {X:au}
theorem rW:fF f (ms.set k m) (asl.set k a) k=fF f ms asl k:=by
 unfold fF;rw [ABg (c9 k),ABj (ABb k),ABg (c9 k),ABj (ABb k)]
theorem St.WN (hk:k<ms.length) (hk2:k<asl.length) (hf:f m a=[X]) (h:St S w0 (X::bD (fF f ms asl k)::C) w):St S w0 (bD (bB f (ms.set k m) (asl.set k a))::C) w:=by
 have A:St S w0 (bD (fF f ms asl k)::X::C) w:=h.perm (List.Perm.swap _ _ _);have B:=A.iJ;have D:St S w0 ((f m a++fF f (ms.set k m) (asl.set k a) k)++C) w:=by
  rw [hf,rW];exact B.perm (v5 (a:=X) (l₁:=fF f ms asl k) (l₂:=C))
 exact kM (kN (r6 hk) (r6 hk2)).symm D.tied
theorem qL {c:M→A→β}:(zipWith c ms asl).set k (c m a)=zipWith c (ms.set k m) (asl.set k a):=by
 apply ABF;intro j;rw [AAO];by_cases e:k=j
 ·subst e;rw [c0 rfl,m4,ABu,AAO,AAO,c0 rfl,c0 rfl];by_cases B:k<ms.length
  ·by_cases C:k<asl.length
   ·rw [c0 I,c0 B,c0 C]
   ·rw [c1 I,c0 B,c1 C]
  ·rw [c1 I,c1 B]
 ·rw [c1 e,ABu,ABu,ABy e,ABy e]
variable {E:fJ} {ops:Array Oper} {Q:du} {rest:List Oper} {D:List Deferred} {L:List (Nat×Value)} {C C1:List au}
abbrev Bn (C:List au) (i j:Nat):List Nat:=j::i::(range C.length).filter fun k=>k != i&&k != j
abbrev Kx (C:List au) (i:Nat):List Nat:=i::(range C.length).filter fun k=>k != i
theorem Jp (i j:Nat) (hk:k<ms.length) (hk2:k<asl.length) (hf:f m a=[X]) (hn:decide (Bn C i j).Nodup=true) (hC:ni C (Bn C i j)=some (X::bD (fF f ms asl k)::C1))
 (h:RJ E ops Q rest D L (bD (bB f (ms.set k m) (asl.set k a))::C1)):RJ E ops Q rest D L C:=fun a w hf' hs=>h a w hf' (St.WN hk hk2 hf (St.kQ _ hn (jX hC) hs))
theorem HV (i:Nat) (hm:ms[k]? =some m) (ha:asl[k]? =some a) (hf:f m a=[X]) (hn:decide (Kx C i).Nodup=true) (hC:ni C (Kx C i)=some (bD (bB f ms asl)::C1)) (h:WJ E c Q D L (X::bD (fF f ms asl k)::C1)):WJ E c Q D L C:=fun a w hf' hs=>h a w hf' (St.out hm ha hf (St.kQ _ hn (jX hC) hs))
theorem Q9 (i j:Nat) (hk:k<ms.length) (ha:asl[k]? =some a) (hf:f m a=[X]) (hn:decide (Bn C i j).Nodup=true) (hC:ni C (Bn C i j)=some (X::bD (fF f ms asl k)::C1)) (h:KJ E K D L (bD (bB f (ms.set k m) asl)::C1)):KJ E K D L C:=fun a w hf' hs=>h a w hf' (St.back hk ha hf (St.kQ _ hn (jX hC) hs))
theorem Pg (i j:Nat) (hn:decide (Bn C i j).Nodup=true) (hC:ni C (Bn C i j)=some (X::bD Y::C1)) (e:Y++[X]=Y') (h:RJ E ops Q rest D L (bD Y'::C1)):RJ E ops Q rest D L C:=fun a w hf hs=>h a w hf ((St.kQ _ hn (jX hC) hs).tie e)
theorem Dc (i j:Nat) (hn:decide (Bn C i j).Nodup=true) (hC:ni C (Bn C i j)=some (X::bD Y::C1)) (e:Y++[X]=Y') (h:KJ E K D L (bD Y'::C1)):KJ E K D L C:=fun a w hf hs=>h a w hf ((St.kQ _ hn (jX hC) hs).tie e)
end
theorem z8 {f:M→A→List au} {ms:List M} {asl:List A} {m:M} {a:A} {X:au} (h:ms.length=asl.length) (hf:f m a=[X]):bB f ms asl++[X]=bB f (ms++[m]) (asl++[a]):=by
 rw [lF h];simp [bB,hf]
theorem BM {f:M→A→β} {ms:List M} {asl:List A} {m:M} {a:A} (h:ms.length=asl.length):zipWith f ms asl++zipWith f [m] [a]=zipWith f (ms++[m]) (asl++[a]):=(ACS h).symm
theorem px:((pP r k).map (·.1)).Nodup:=by
 unfold pP;rw [List.map_filterMap];refine List.Pairwise.filterMap _ ?_ (ACf (n:=r.a_.length));intro a b A x hx y hy e;subst e;simp only [Option.map_map,AAQ,Function.comp] at hx hy;obtain ⟨_,_,rfl⟩:=hx;obtain ⟨_,_,h⟩:=hy;exact A I
noncomputable def lW (r:cN):List (List Int):=if eK r=0 then Classical.epsilon (fun G=>kh (cd (bJ r)) ((bJ r).map (·.1)) G∧KZ G) else []
theorem PB (h:¬ eK r=0):lW r=[]:=c1 h
theorem Ft {G:List (List Int)} (he:eK r=0) (h1:kh (cd (bJ r)) ((bJ r).map (·.1)) G) (h2:KZ G):G=lW r:=by
 unfold lW;rw [c0 he];have A:=Classical.epsilon_spec (p:=fun G=>kh (cd (bJ r)) ((bJ r).map (·.1)) G∧KZ G) ⟨G,h1,h2⟩;exact uY px (fun i hi=>(n9 (xh he)).2.1) h1 A.1 h2 A.2
section
variable {f:Int→aa} {L:List Int} {G:List (List Int)} {g:List Int} {x last:Int} {i j:Nat}
theorem DU (h:oI f (L.take i) G last) (hg:g∈G):g.length≤L.length:=by
 have A:=h.ok.perm.length_eq;have B:g.length≤G.flatten.length:=(List.sublist_flatten_of_mem hg).length_le;rw [k5] at A;omega
theorem JP (h:oI f (L.take i) G last):G.length≤L.length:=by
 have A:=h.ok.perm.length_eq;have B: ∀ G:List (List Int),(∀ g∈G,g≠[])→G.length≤G.flatten.length:=fun G=>by
  induction G with
  |nil=>intro _;simp
  |cons g G ih=>
   intro hG;have C:=ih fun y hy=>hG y (dk _ hy);have D:=ACT.2 (hG g bZ);simp only [m9,y3,e4];omega
 have C:=B G h.ok.some_;rw [k5] at A;omega
theorem wg (h0: -1≤(f x).Hi) (hx:L[i]? =some x) (hg:(G++[[]])[(G++[([]:List Int)]).length-1]? =some g) (h:oI f (L.take i) G last) (hl:last<(f x).Lo):oI f (L.take (i+1)) ((G++[[]]).set ((G++[([]:List Int)]).length-1) (g++[x])) (max last (f x).Hi):=by
 have A:(G++[([]:List Int)]).length-1=G.length:=by simp
 rw [A] at hg ⊢;simp at hg;subst hg;rw [nI hx];have B:(G++[([]:List Int)]).set G.length ([]++[x])=G++[[x]]:=by simp
 rw [B];exact Rm h0 h hl
theorem uT (h0: -1≤(f x).Hi) (hf: ∀ i∈L,(f i).Lo≤(f i).Hi) (hup:IZ (fun u=>(f u).Lo) L) (hx:L[i]? =some x) (hg:G[G.length-1]? =some g) (h:oI f (L.take i) G last) (hl: ¬ last<(f x).Lo):oI f (L.take (i+1)) (G.set (G.length-1) (g++[x])) (max last (f x).Hi):=by
 obtain ⟨A,F⟩:=aT.1 hg;obtain ⟨G',y,rfl⟩: ∃ G' y,G=G'++[y]:=⟨G.dropLast,G.getLast (by intro e;subst e;simp at A),(List.dropLast_concat_getLast _).symm⟩;have D:(G'++[y]).length-1=G'.length:=by simp
 simp only [D] at hg ⊢;simp at hg;subst hg;have E:(G'++[y]).set G'.length (y++[x])=G'++[y++[x]]:=by simp
 rw [nI hx,E];refine N0 h0 (fun i hi=>hf i (ACL hi)) (fun a ha=>?_) h hl;obtain ⟨C,B⟩:=aT.1 hx;obtain ⟨q,hq,rfl⟩:=p5.1 ha;rw [k5] at hq;rw [List.getElem_take];have:=eW.1 hup q i I C I;rw [B] at this;exact this
theorem SC (hlo:0≤(f x).Lo) (h:oI f (L.take i) G last) (hl: ¬ last<(f x).Lo):1≤G.length:=by
 rcases h.at_ with ⟨_,e⟩|⟨a,ha,_⟩
 ·omega
 ·exact ACT.2 (OO h (fun e=>by rw [e] at ha;cases ha))
/-- the first groups are in order -/
def o7 (G:List (List Int)) (j:Nat):List (List Int):=(G.take j).map eg++G.drop j
theorem Hy (h:G.length≤j):o7 G j=G.map eg:=by unfold o7;rw [c5 h,ABK h,AAJ]
theorem H0:(o7 G j).length=G.length:=by unfold o7;rw [e4,c3,k5,AA9];omega
theorem Ku (h:G[j]? =some g):(o7 G j)[j]? =some g:=by
 have hj:=(aT.1 h).1;unfold o7;rw [k_ (by rw [c3,k5];omega),c3,k5,AB5 I,AAw,ABm];simpa using h
theorem HH (h:G[j]? =some g):(o7 G j).set j (eg g)=o7 G (j+1):=by
 have hj:=(aT.1 h).1;unfold o7;rw [AAu _ _ (by rw [c3,k5];omega),c3,k5,AB5 I,AAw,u1 hj,ACZ,l1,h];simp
theorem NC {gz:List RA}:zipWith oU (G.map eg) gz=zipWith oU G gz:=by
 induction G generalizing gz with
 |nil=>rfl
 |cons g G ih=>
  cases gz with
  |nil=>rfl
  |cons a gz=>simp only [m2,u5,ih];simp [oU]
end
abbrev YV (A C X Z):=own A C 29 1 (zipWith oU X Z)
abbrev T3 (A X Z):=rd A (length X) 1 (zipWith oU X Z)
end
section
open Go.RowKit
theorem zm (l:List aS) (az:List RA): ∀ v∈(zipWith aS.cells l az).flatten,v.oneCell'=true:=by
 induction l generalizing az with
 |nil=>intro v hv;simp at hv
 |cons x l ih=>
  cases az with
  |nil=>intro v hv;simp at hv
  |cons a az=>
   intro v hv;rw [u5,m9,dZ] at hv;rcases hv with hv|hv
   ·simp [aS.cells,dE.cells] at hv;rcases hv with rfl|rfl<;>rfl
   ·exact ih az v hv
theorem il {l:List aS} (h:az.length=l.length):(zipWith aS.cells l az).length=l.length:=by simp [h]
theorem gl {l:List aS}:(bD (bB aS.owns l bz)).wr=true:=by
 show (bB aS.owns l bz).all (·.wr)=true
 rw [dg];intro X hX;obtain ⟨k,m,a,_,_,h⟩:=lx hX;simp only [aS.owns,bU] at h;subst h;rfl
/-- what is known of new rows -/
def pX (l:List aS) (bz:List RA):Prop:= ∀ (k:Nat) m (a:RA),l[k]? =some m→bz[k]? =some a→m.bo.length≤a.2
theorem Ey {l:List aS} {x:aS} {nw:RA} (h:pX l bz) (hb:bz.length=i) (hx:l[i]? =some x) (hc:x.bo.length≤nw.2):pX l (bz++[nw]):=fun k m a hm ha=>by
 by_cases e:k<bz.length
 ·rw [v3 e] at ha;exact h k m a hm ha
 ·rw [k_ I] at ha;have hk:k-bz.length=0:=by
   rcases AB7 (k-bz.length) with A|A
   ·exact A
   ·rw [AAo (by simp;omega)] at ha;cases ha
  rw [hk] at ha;simp at ha;have:k=i:=by omega
  subst this;rw [hx] at hm;cases hm;subst ha;exact hc
theorem kF: ∀ (m:aS) (a:RA) (w:World),(∀ X∈aS.owns m a,X.holds w)→ ∀ X∈aS.lf m a,X.holds w:=fun m a w h X hX=>by
 simp only [aS.lf,bU] at hX;subst hX;have:=pA (h _ (bU.2 rfl));simpa using this
theorem dX.Zw {l:bf} (h:dX l az) (hb:bz.length=l.aC.length) (hc:pX l.aC bz):dX l bz:=⟨h.sQ,h.side,h.sR,hb,h.sP,fun k m a hm ha=>⟨hc k m a hm ha,by
 obtain ⟨A,B⟩: ∃ A,az[k]? =some A:=⟨az[k]'(by rw [h.mE];exact (aT.1 hm).1),fh _⟩;exact (h.UP k m A hm B).2⟩⟩
theorem Bc {x y:aS} (h1:x.dI=y.dI) (h2:(x.bo.length:Int)=(y.bo.length:Int)) (hk:x.bo.length≤k) (h:x.bo.take k=y.bo.take k):x=y:=by
 cases x;cases y;simp only [aS.mk.injEq] at *;rw [c5 hk,c5 I] at h;exact ⟨h1,h⟩
theorem J1 {l m:bf} (h1:l.bQ=m.bQ) (h2:l.g7=m.g7) (h3:l.b_=m.b_) (h4:l.eZ=m.eZ) (h5:l.dp=m.dp) (h6:l.aC=m.aC) (h7:l.ai=m.ai):l=m:=by
 cases l;cases m;simp_all
section
variable {E:fJ} {ops:Array Oper} {Q:du} {rest:List Oper} {D:List Deferred} {L:List (Nat×Value)} {C:List au}
end
end
section
open Go.RowKit
def lO (m:ak) (a:RA):List au:=[own a.1 a.2 B8 2 (m.bp.ab.map aR.cells)]
def kB (m:List ak) (a:cq):List au:=own a.1.1 a.1.2 B5 7 (zipWith ak.cells m a.2)::bB lO m a.2
theorem VF: ∀ (m:ak) (a:RA) (w:World),(∀ X∈lO m a,X.holds w)→ ∀ X∈ak.lf m a,X.holds w:=fun m a w h X hX=>by
 simp only [ak.lf,bU] at hX;subst hX;have:=pA (h _ (bU.2 rfl));simpa using this
theorem m_ {m:List ak} (h:asl.length=m.length):(zipWith ak.cells m asl).length=m.length:=by simp [h]
theorem e8 {asl:List cq} (h:asl.length=m.length):(zipWith di m asl).length=m.length:=by simp [h]
theorem Th {m:List ak}:(bB lO m asl).all (·.wr)=true:=by
 rw [dg];intro X hX;obtain ⟨k,d,a,_,_,h⟩:=lx hX;simp only [lO,bU] at h;subst h;rfl
theorem ly {asl:List cq}:(bD (bB kB m asl)).wr=true:=by
 show (bB kB m asl).all (·.wr)=true
 rw [dg];intro X hX;obtain ⟨k,d,a,_,_,h⟩:=lx hX;rcases bI.1 h with rfl|h
 ·rfl
 ·exact dg.1 Th X h
theorem JQ (l:List ak) (az:List RA): ∀ v∈(zipWith ak.cells l az).flatten,v.oneCell'=true:=by
 induction l generalizing az with
 |nil=>intro v hv;simp at hv
 |cons x l ih=>
  cases az with
  |nil=>intro v hv;simp at hv
  |cons a az=>
   intro v hv;rw [u5,m9,dZ] at hv;rcases hv with hv|hv
   ·simp [ak.cells,aO.cells,dA.cells,aa.cells] at hv;rcases hv with rfl|rfl|rfl|rfl|rfl|rfl|rfl<;>rfl
   ·exact ih az v hv
theorem BO (l:List (List ak)) (az:List cq): ∀ v∈(zipWith di l az).flatten,v.oneCell'=true:=by
 induction l generalizing az with
 |nil=>intro v hv;simp at hv
 |cons x l ih=>
  cases az with
  |nil=>intro v hv;simp at hv
  |cons a az=>
   intro v hv;rw [u5,m9,dZ] at hv;rcases hv with hv|hv
   ·simp [di] at hv;subst hv;rfl
   ·exact ih az v hv
/-- every heat has as many places as descents -/
def sU (H:List (List ak)) (hz:List cq):Prop:=hz.length=H.length∧ ∀ (k:Nat) h (a:cq),H[k]? =some h→hz[k]? =some a→a.2.length=h.length
theorem Tg {c e n:Nat} (h:(own a c e sz es).holds w) (hn:es.length=n):(rd a n sz es).holds w:=by subst hn;exact pA h
theorem lH (i:Nat) (hC:C[i]? =some (bD (bB kB H hz))) (hh:sU H hz):ig C (iU (bB nm H hz)).holds:=fun w hw X hX=>by
 have hb:=hw _ (aF hC);obtain ⟨k,m,a,A,B,D⟩:=lx hX;rcases bI.1 D with rfl|D
 ·exact Tg (hb.1 _ (bq A B bZ)) (m_ (hh.2 k m a A B))
 ·obtain ⟨q,d,b,E,F,G⟩:=lx D;exact VF d b w (fun Y hY=>hb.1 Y (bq A B (dk _ (bq E F hY)))) X G
section
variable {α:Type}
def jk (bz az:List α) (i:Nat):List α:=bz++az.drop i
variable {bz az:List α} {i:Nat} {a b:α}
theorem eU (hb:bz.length=i) (hi:i≤az.length):(jk bz az i).length=az.length:=by simp [jk,hb];omega
theorem qF (h:az.length≤i):jk bz az i=bz:=by unfold jk;rw [ABK h,AAJ]
theorem ud (hb:bz.length=i) (h:az[i]? =some a):(jk bz az i)[i]? =some a:=by
 unfold jk;rw [k_ I,hb,AAw,ABm];simpa using h
theorem EO (hb:bz.length=i):(jk (bz++[b]) az (i+1))[i]? =some b:=by
 unfold jk;rw [v3 (by simp;omega),k_ I,hb,AAw];rfl
theorem Nh (hb:bz.length=i) (h:az[i]? =some a):(jk bz az i).set i b=jk (bz++[b]) az (i+1):=by
 unfold jk;have hi:=(aT.1 h).1;rw [AAu _ _ I,hb,AAw,u1 hi,ACZ];simp
theorem q8 {c:M→α→β} {l:List M} {x:M} (hx:l[i]? =some x) (hb:bz.length=i) (h:az[i]? =some a):(zipWith c l (jk bz az i)).set i (c x b)=zipWith c l (jk (bz++[b]) az (i+1)):=by
 rw [qL,Nh hb h];congr 1;obtain ⟨hi,rfl⟩:=aT.1 hx;exact List.set_getElem_self hi
theorem nQ {f:M→α→List au} {l:List M} {x:M} (hx:l[i]? =some x) (hb:bz.length=i):bB f (l.take i) bz++f x b=bB f (l.take (i+1)) (bz++[b]):=by
 have hi:=(aT.1 hx).1;rw [l1,hx,Option.toList_some,lF (by rw [k5,hb];omega)];simp [bB]
end
theorem E_: ∀ {l:List (List ak)} {u v:List cq},u.map (·.1)=v.map (·.1)→zipWith di l u=zipWith di l v
 |[],u,v,_=>by simp
 |x::l,[],[],_=>rfl
 |x::l,[],b::v,h=>by simp at h
 |x::l,a::u,[],h=>by simp at h
 |x::l,a::u,b::v,h=>by
  simp only [m2,ABo] at h;rw [u5,u5,E_ h.2];have e:di x a=di x b:=by simp only [di,h.1]
  rw [e]
theorem Fx {l:List (List ak)} {p:RA} {x y:List RA}:zipWith di l (jk (hz++[(p,x)]) ha i)=zipWith di l (jk (hz++[(p,y)]) ha i):=E_ (by simp [jk])
theorem JH {x:List ak} {b:cq} (hx:H[i]? =some x) (h:∀ (k:Nat) y (a:cq),H[k]? =some y→hz[k]? =some a→a.2.length=y.length) (hb:hz.length=i) (hl:b.2.length=x.length): ∀ (k:Nat) y (a:cq),H[k]? =some y→(hz++[b])[k]? =some a→a.2.length=y.length:=fun k y a hy ha=>by
 by_cases e:k<hz.length
 ·rw [v3 e] at ha;exact h k y a hy ha
 ·rw [k_ I] at ha;have hk:k-hz.length=0:=by
   rcases AB7 (k-hz.length) with A|A
   ·exact A
   ·rw [AAo (by simp;omega)] at ha;cases ha
  rw [hk] at ha;simp at ha;have:k=i:=by omega
  subst this;rw [hx] at hy;cases hy;subst ha;exact hl
theorem IU {A:au} (h:St S w0 (A::bD Y::bD Z::C) w):St S w0 (bD (Z++A::Y)::C) w:=by
 have D:St S w0 (bD Y::A::bD Z::C) w:=h.perm (List.Perm.swap _ _ _);have E:St S w0 (Y++(A::bD Z::C)) w:=D.iJ;have F:St S w0 (bD Z::(A::Y)++C) w:=E.perm (by
  have B:(Y++(A::bD Z::C)).Perm ((A::bD Z::C)++Y):=AAC;refine B.trans ?_;show (A::bD Z::(C++Y)).Perm (bD Z::A::(Y++C))
  exact (List.Perm.swap _ _ _).trans (((AAC (l₁:=C) (l₂:=Y)).cons A).cons _))
 have G:St S w0 (Z++((A::Y)++C)) w:=F.iJ;have H:St S w0 ((Z++A::Y)++C) w:=by simpa using G
 exact H.tied
theorem L7 {A:au} (h:St S w0 (bD (A::Y++Z)::C) w):St S w0 (A::bD Y::bD Z::C) w:=by
 have D:St S w0 ((A::Y++Z)++C) w:=h.iJ;have E:St S w0 (Z++(A::(Y++C))) w:=D.perm (by
  show (A::(Y++Z)++C).Perm (Z++(A::(Y++C)))
  have B:(A::(Y++Z)++C).Perm (A::(Z++(Y++C))):=by
   show (A::((Y++Z)++C)).Perm _
   refine List.Perm.cons A ?_;rw [← append_assoc];exact AAC.append_right C
  exact B.trans (v5 (a:=A) (l₁:=Z) (l₂:=Y++C)).symm)
 have F:=E.tied;have G:St S w0 (Y++(A::bD Z::C)) w:=F.perm (by
  show (bD Z::A::(Y++C)).Perm (Y++(A::bD Z::C))
  have B:(Y++(A::bD Z::C)).Perm (A::bD Z::(Y++C)):=by
   have:=AAC (l₁:=Y) (l₂:=A::bD Z::C);refine this.trans ?_;show (A::bD Z::(C++Y)).Perm _
   exact (AAC.cons _).cons _
  exact (B.trans (List.Perm.swap _ _ _)).symm)
 have H:=G.tied;exact H.perm (List.Perm.swap _ _ _)
theorem AN {a:cq} (hh:H[k]? =some h) (ha:hz[k]? =some a):(bB kB H hz).Perm (own a.1.1 a.1.2 B5 7 (zipWith ak.cells h a.2)::bB lO h a.2++fF kB H hz k):=kN hh ha
theorem Pj {c e:Nat} (i:Nat) (hC:C[i]? =some (own a c e sz es)) (k:es.length≤c→KJ E K D L C):KJ E K D L C:=fun act w hf hs=>k (S_ (hs.holds _ (aF hC))) act w hf hs
abbrev JU (C:List au) (i j k:Nat):List Nat:=k::j::i::(range C.length).filter fun q=>q != i&&q != j&&q != k
section
variable {E:fJ} {ops:Array Oper} {Q:du} {rest:List Oper} {D:List Deferred} {L:List (Nat×Value)} {C C1:List au} {K:Act→World→Prop}
variable {H:List (List ak)} {hz:List cq} {h h':List ak} {a a':cq} {k:Nat} {X:au} {Y Z Z':List au}
/-- i: the others, j: what hangs on the row, q: the row -/
theorem NR (i j q:Nat) (hn:decide (JU C i j q).Nodup=true) (hC:ni C (JU C i j q)=some (X::bD Y::bD Z::C1)) (e:Z++X::Y=Z') (hk:KJ E K D L (bD Z'::C1)):KJ E K D L C:=fun a w hf hs=>by
 subst e;exact hk a w hf (IU (St.kQ _ hn (jX hC) hs))
theorem Nx (i:Nat) (hh:H[k]? =some h) (ha:hz[k]? =some a) (hn:decide (Kx C i).Nodup=true) (hC:ni C (Kx C i)=some (bD (bB kB H hz)::C1)) (hk:WJ E c Q D L (own a.1.1 a.1.2 B5 7 (zipWith ak.cells h a.2)::bD (bB lO h a.2)::bD (fF kB H hz k)::C1)):WJ E c Q D L C:=fun act w hf hs=>
 hk act w hf (L7 (kM (AN hh ha) (St.kQ _ hn (jX hC) hs)))
theorem Fh (hk:k<H.length) (hk2:k<hz.length) (hs:St S w0 (own a'.1.1 a'.1.2 B5 7 (zipWith ak.cells h' a'.2)::bD (bB lO h' a'.2)::bD (fF kB H hz k)::C) w):St S w0 (bD (bB kB (H.set k h') (hz.set k a'))::C) w:=by
 have B:=IU hs;refine kM ?_ B;have A:=AN (H:=H.set k h') (hz:=hz.set k a') (r6 hk) (r6 hk2);rw [rW] at A;exact (AAC).trans A.symm
end
theorem Ca {a:cq} (hh:H[k]? =some h) (ha:hz[k]? =some a) (hl:h'.length=h.length):zipWith di (H.set k h') (hz.set k (a.1,bs))=zipWith di H hz:=by
 rw [← qL];have e:di h' (a.1,bs)=di h a:=by simp only [di,hl]
 rw [e];have hz':=cE (f:=di) hh ha;obtain ⟨hi,A⟩:=aT.1 hz';rw [← A];exact List.set_getElem_self hi
theorem Sk {b:RA} {d':ak} (hd:h[i]? =some d) (hb:bs[i]? =some b) (hs':d'.bp.ab=[]) (hs:St S w0 (bD (bB lO h bs)::C) w):St S w0 (bD (bB lO (h.set i d') (bs.set i (none,0)))::C) w:=by
 have A:=(kM (kN hd hb) hs).iJ;have B:St S w0 (fF lO h bs i++C) w:=St.take (by simpa using A) (List.sublist_append_right (lO d b) (fF lO h bs i++C));have D:=B.rI B8 2;have E:St S w0 ((lO d' (none,0)++fF lO (h.set i d') (bs.set i (none,0)) i)++C) w:=by
  rw [rW];simpa [lO,hs'] using D
 exact kM (kN (r6 (aT.1 hd).1) (r6 (aT.1 hb).1)).symm E.tied
theorem qX {e:ak}:d=e↔d.Out=e.Out∧d.cZ=e.cZ∧d.Time=e.Time∧d.bp.Start=e.bp.Start∧d.bp.hP=e.bp.hP∧d.bp.ab=e.bp.ab:=by
 obtain ⟨a,b,c,⟨x,y,z⟩⟩:=d;obtain ⟨A,B,C,⟨D,E,F⟩⟩:=e;simp only [ak.mk.injEq,c_.mk.injEq]
theorem LC {q:cN} (h1:r.ar=q.ar) (h2:r.a_=q.a_) (h3:r.db=q.db) (h4:r.jz=q.jz) (h5:r.ax=q.ax):r=q:=by
 cases r;cases q;simp_all
end
section
def rD (d:ak):Prop:=d.Out=false∧d.cZ=false
instance (d:ak):Decidable (rD d):=by unfold rD;infer_instance
def fr (l:bf) (f:bL):Prop:=(1≤f.Kind∧f.Kind≤3)∧(0≤f.ou∧f.ou≤f.To∧f.To≤86400000)∧0≤f.jf∧f.jf≤(if f.Kind=1 then 0 else l.b_)
instance (l:bf) (f:bL):Decidable (fr l f):=by unfold fr;infer_instance
/-- the descent that a protest is of -/
def uQ (j:dy) (p:cG):Option ak:=(j.Race.ax[p.jW.toNat]?).bind (·[p.ji.toNat]?)
structure xy (j:dy) (i:Nat) (p:cG):Prop where
 id:0≤p.Id∧p.Id≤9999
 up: ∀ q,0<i→j.bH[i-1]? =some q→q.Id<p.Id
 kS:mN j.Race p.ji
 fE:0≤p.jW∧p.jW≤(j.Race.ax.length:Int)-1
 fault:0≤p.lk∧p.lk≤(j.bu.length:Int)-1
 nj: ∃ d,uQ j p=some d∧rD d∧d.bp.Start≤p.At∧p.At≤86400000
structure s8 (j:dy):Prop where
 nf:(j.bu.length:Int)≤5
 fault: ∀ f∈j.bu,fr j.Race.ar f
 min_:0≤j.ju∧j.ju≤60
 vN:0≤j.LS∧j.LS≤100000
 np:(j.bH.length:Int)≤8
 iL: ∀ (i:Nat) p,j.bH[i]? =some p→xy j i p
noncomputable instance (j:dy):Decidable (s8 j):=Classical.propDecidable _
noncomputable def fU (j:dy):Int:=if eK j.Race=0 then (if s8 j then 0 else 70) else eK j.Race
theorem CR (h:¬ eK j.Race=0):fU j=eK j.Race:=c1 h
theorem kK (h:eK j.Race=0) (hn:¬ s8 j):fU j=70:=by unfold fU;rw [c0 h,c1 hn]
theorem AD (h:eK j.Race=0) (hn:s8 j):fU j=0:=by unfold fU;rw [c0 h,c0 hn]
theorem fI (h:fU j=0):eK j.Race=0∧s8 j:=by
 unfold fU at h;split at h
 ·split at h
  ·exact ⟨asm,asm⟩
  ·cases h
 ·rename_i q;exact absurd h q
structure EL where
 Lo:Int
 Hi:Int
 each:Bool
 never:Bool
/-- whether it passed the beam in each truth -/
noncomputable def zT (l:bf) (r:c_) (b:Int):Bool:=(lU l r).all fun n=>decide (b<n)
noncomputable def dB (l:bf) (r:c_) (b:Int):EL:=
 if b<0 then ⟨r.Start,r.Start,true,false⟩
 else if eT l r b=0 then ⟨(eL l r b).Lo,if zT l r b=true then (eL l r b).Hi else 86400000,zT l r b,false⟩
 else ⟨86400000,86400000,false,true⟩
def Iu (f:bL):Int:=if f.Kind=1 then-1 else if f.Kind=2 then f.jf-1 else f.jf
def ZH (l:bf) (f:bL):Int:=if f.Kind=1 then l.b_ else f.jf
def wY (f:bL) (a b:EL):Prop:=if f.Kind=3 then f.ou≤a.Lo∧a.Hi≤f.To else a.Hi≤f.To∧f.ou≤b.Lo
instance (f:bL) (a b:EL):Decidable (wY f a b):=by unfold wY;infer_instance
def sk (f:bL) (a b:EL):Int:=if a.never=true∨f.To<a.Lo∨b.Hi<f.ou then 0 else if a.each=true∧wY f a b then 2 else 1
noncomputable def ks (l:bf) (f:bL) (d:ak):Int:=if rD d then sk f (dB l d.bp (Iu f)) (dB l d.bp (ZH l f)) else 0
theorem xR {l:bf} {f:bL} (h:¬ rD d):ks l f d=0:=c1 h
def jV (P:Nat→Bool) (n:Nat):List Int:=((range n).filter P).map fun (i:Nat)=>(i:Int)
section
variable {P:Nat→Bool} {n q:Nat} {x:Int}
theorem xx (h:P n=true):jV P (n+1)=jV P n++[(n:Int)]:=by unfold jV;rw [AAV,AAq,AAF];simp [h]
theorem CA (h:P n=false):jV P (n+1)=jV P n:=by unfold jV;rw [AAV,AAq,AAF];simp [h]
theorem rO:(jV P n).length≤n:=by unfold jV;rw [c3];exact c6 (u2 _ _) (by rw [AA1];exact c9 _)
theorem GX:x∈jV P n↔ ∃ i:Nat,i<n∧x=(i:Int)∧P i=true:=by
 unfold jV;simp only [cu,n3,AAd];constructor
 ·rintro ⟨i,⟨A,B⟩,rfl⟩;exact ⟨i,A,rfl,B⟩
 ·rintro ⟨i,A,rfl,B⟩;exact ⟨i,⟨A,B⟩,rfl⟩
theorem GK: ∀ m,∃ l,jV P (q+m)=jV P q++l∧ ∀ y∈l,(q:Int)≤y
 |0=>⟨[],sm,fun y h=>by cases h⟩
 |m+1=>by
  obtain ⟨l,e,hl⟩:=GK m;cases hb:P (q+m) with
  |true=>exact ⟨l++[((q+m:Nat):Int)],by rw [show q+(m+1)=(q+m)+1 from rfl,xx hb,e,append_assoc],fun y hy=>by
   rcases dZ.1 hy with h|h
   ·exact hl y h
   ·rw [bU.1 h];omega⟩
  |false=>exact ⟨l,by rw [show q+(m+1)=(q+m)+1 from rfl,CA hb,e],hl⟩
/-- the pointer that goes beside: the next one is this, if it is so, and a later one, or none, if not -/
theorem TA (h:P q=true) (hq:q<n):(jV P n)[(jV P q).length]? =some (q:Int):=by
 obtain ⟨l,hl,_⟩:=GK (P:=P) (q:=q+1) (n-(q+1));rw [show q+1+(n-(q+1))=n by omega,xx h] at hl;rw [hl,append_assoc,k_ (c9 _),AAw];rfl
theorem Vr (h:P q=false) (hq:q<n) (hx:(jV P n)[(jV P q).length]? =some x):x≠(q:Int):=by
 obtain ⟨l,hl,hy⟩:=GK (P:=P) (q:=q+1) (n-(q+1));rw [show q+1+(n-(q+1))=n by omega,CA h] at hl;rw [hl,k_ (c9 _),AAw] at hx;have:=hy x (aF hx);omega
end
noncomputable def vb (j:dy) (p:cG):Int:=match uQ j p with
 |some d=>if p.At≤(dB j.Race.ar d.bp j.Race.ar.b_).Lo+60000*j.ju then 0 else if p.At≤(dB j.Race.ar d.bp j.Race.ar.b_).Hi+60000*j.ju then 1 else 2
 |none=>2
noncomputable def nT (j:dy) (p:cG):Bool:=match uQ j p,j.bu[p.lk.toNat]? with
 |some d,some f=>decide (vb j p≠2)&&decide (ks j.Race.ar f d≠0)
 |_,_=>false
/-- which protests are granted, so far -/
noncomputable def Bg (j:dy) (n:Nat):List Int:=jV (fun i=>(j.bH[i]?).any (nT j)) n
noncomputable def lM (j:dy):List Int:=Bg j j.bH.length
theorem vw {n:Nat}:x∈Bg j n↔ ∃ i:Nat,i<n∧x=(i:Int)∧ ∃ p,j.bH[i]? =some p∧nT j p=true:=by
 unfold Bg;rw [GX];refine exists_congr fun i=>and_congr Iff.rfl (and_congr Iff.rfl ?_);cases h:j.bH[i]? with
 |none=>simp
 |some p=>simp
/-- by faults of which something is so -/
def V1 (l:bf) (F:bL→Prop) (fs:List bL) (d:ak):Prop:= ∃ f∈fs,F f∧ ¬ ks l f d=0
noncomputable def KG (l:bf) (F:bL→Prop) (fs:List bL) (h:List ak) (n:Nat):List Int:=jV (fun s=>(h[s]?).any fun d=> @decide (V1 l F fs d) (Classical.propDecidable _)) n
noncomputable def iK (j:dy) (F:bL→Prop):List (List Int):=j.Race.ax.map fun h=>KG j.Race.ar F j.bu h h.length
/-- about which a protest is granted -/
def I0 (j:dy) (f:bL):Prop:= ∃ (i:Nat) (p:cG),j.bH[i]? =some p∧nT j p=true∧j.bu[p.lk.toNat]? =some f
noncomputable def gd (j:dy):List (List Int):=iK j (I0 j)
noncomputable def Zy (j:dy) (s:Int) (n:Nat):Nat:=(range n).countP fun i=>(j.bH[i]?).any fun p=>decide (p.ji=s)&& !nT j p
noncomputable def V7 (j:dy) (s:Int):Int:= -(Zy j s j.bH.length:Int)*j.LS
end
section
/-- the places of which something is so; from the k-th on, all of them -/
def iW (P:Nat→Bool) (n k:Nat):List (Int×Bool):=((range n).filter fun q=>decide (k≤q)||P q).map fun (q:Nat)=>((q:Int),true)
section
variable {P:Nat→Bool} {n k q:Nat}
theorem AQ {p:Int×Bool}:p∈iW P n k↔ ∃ q:Nat,q<n∧(k≤q∨P q=true)∧p=((q:Int),true):=by
 unfold iW;simp only [cu,n3,AAd,ABE,r0];constructor
 ·rintro ⟨q,⟨A,B⟩,rfl⟩;exact ⟨q,A,B,rfl⟩
 ·rintro ⟨q,A,B,rfl⟩;exact ⟨q,⟨A,B⟩,rfl⟩
theorem Ky:((iW P n k).map (·.1)).Nodup:=by
 unfold iW;rw [List.map_map,s5,AAK];have h:(range n).Pairwise (· ≠ ·):=by rw [← s5];exact ACf
 exact (h.sublist AA3).imp fun {a b} A e=>A (by have B:(a:Int)=(b:Int):=e;omega)
theorem MP:d_ (iW P n 0) (n:Int) true=iW P (n+1) 0:=by
 have A:(iW P n 0).lookup (n:Int)=none:=ja.2 fun p hp e=>by
  obtain ⟨q,B,_,rfl⟩:=AQ.1 hp;simp only at e;omega
 unfold d_;rw [A];show iW P n 0++[((n:Int),true)]=_
 unfold iW;rw [AAV,AAq,AAF];simp
theorem MY (h:P k=false):cJ (iW P n k) (k:Int)=iW P n (k+1):=by
 unfold cJ iW;rw [List.filter_map,ABn];congr 1;apply ABT;intro q _;by_cases e:q=k
 ·subst e;simp [h]
 ·have A:decide ((q:Int)=(k:Int))=false:=bg I;have B:decide (k≤q)=decide (k+1≤q):=gR.2 I;simp only [ABU,A,B,Bool.not_false,Bool.true_and]
theorem JT (h:P k=true):iW P n k=iW P n (k+1):=by
 unfold iW;congr 1;apply ABT;intro q _;by_cases e:q=k
 ·subst e;simp [h]
 ·have A:decide (k≤q)=decide (k+1≤q):=gR.2 I;rw [A]
theorem Bx (hq:q<n):((iW P n n).lookup (q:Int)).getD false=P q:=by
 cases h:P q with
 |true=>
  have:((q:Int),true)∈iW P n n:=AQ.2 ⟨q,hq,.inr h,rfl⟩;rw [(ko Ky).1 this];rfl
 |false=>
  have:(iW P n n).lookup (q:Int)=none:=ja.2 fun p hp e=>by
   obtain ⟨u,B,A,rfl⟩:=AQ.1 hp;simp only at e;obtain rfl:u=q:=by omega
   rcases A with A|A
   ·omega
   ·rw [h] at A;cases A
  rw [this];rfl
end
end
section
section
variable {j j':dy} {p:cG} {l:bf} {F G:bL→Prop} {fs:List bL} {h:List ak} {n:Nat} {x:Int}
theorem Mr (hFG: ∀ f∈fs,(F f↔G f)):KG l F fs h n=KG l G fs h n:=by
 unfold KG;congr 1;funext s;cases e:h[s]? with
 |none=>rfl
 |some d=>
  simp only [any_some];rw [gR];exact ⟨fun ⟨f,A,B,C⟩=>⟨f,A,(hFG f A).1 B,C⟩,fun ⟨f,A,B,C⟩=>⟨f,A,(hFG f A).2 B,C⟩⟩
theorem Db {h:List ak} (hh:j.Race.ax[k]? =some h):(iK j F)[k]? =some (KG j.Race.ar F j.bu h h.length):=by unfold iK;rw [gO,hh];rfl
theorem Bi:(iK j F).length=j.Race.ax.length:=by unfold iK;rw [c3]
end
end
section
open Go.RowKit
structure jy (j:dy) (az:List RA) (ha:List cq):Prop where
 race:gI j.Race az ha
 nf:j.bu.length≤1000000
 np:j.bH.length≤1000000
 kind: ∀ f∈j.bu,0≤f.Kind∧f.Kind≤255
structure v7 (j:dy) (az:List RA) (ha:List cq):Prop where
 race:wZ j.Race az ha
 nf:j.bu.length≤9223372036854775807
 np:j.bH.length≤9223372036854775807
 kind: ∀ f∈j.bu,0≤f.Kind∧f.Kind≤255
def tI (j:dy):Prop:=(lY j.Race∨10<(j.bu.length:Int))∨15<(j.bH.length:Int)
noncomputable instance (j:dy):Decidable (tI j):=Classical.propDecidable _
theorem It (h:¬ tI j): ¬ lY j.Race∧(j.bu.length:Int)≤10∧(j.bH.length:Int)≤15:=by
 unfold tI at h;have A: ¬ lY j.Race:=fun q=>h (.inl (.inl q));have B: ¬ 10<(j.bu.length:Int):=fun q=>h (.inl (.inr q));have C: ¬ 15<(j.bH.length:Int):=fun q=>h (.inr q);exact ⟨A,I,I⟩
theorem v7.small (h:v7 j az ha) (hg:¬ tI j):jy j az ha:=by
 have A:=It hg;exact ⟨h.race.small A.1,I,I,h.kind⟩
def ql (fin:Int) (f:bL):Prop:=(1≤f.Kind∧f.Kind≤3)∧(0≤f.ou∧f.ou≤f.To∧f.To≤86400000)∧0≤f.jf∧f.jf≤(if f.Kind=1 then 0 else fin)
instance (fin:Int) (f:bL):Decidable (ql fin f):=by unfold ql;infer_instance
theorem Ta {P:Nat→Bool} {n:Nat} (h:¬ 0<((jV P n).length:Int)) (hi:i<n):P i=false:=by
 cases e:P i with
 |false=>rfl
 |true=>
  have:(i:Int)∈jV P n:=GX.2 ⟨i,hi,rfl,e⟩;have:=AA5 this;omega
theorem Tk {P:Nat→Bool} {n:Nat} (h:0<((jV P n).length:Int)): ∃ i,i<n∧P i=true:=by
 obtain ⟨x,hx⟩:=List.exists_mem_of_length_pos (l:=jV P n) I;obtain ⟨i,A,_,B⟩:=GX.1 hx;exact ⟨i,A,B⟩
def jg {α:Type} (l:List α) (p:Int→α→Bool) (i:Nat):Bool:=(l[i]?).any (p (i:Int))
theorem uG {l:List α} {p:Int→α→Bool} {x:α} (h:l[i]? =some x):jg l p i=p (i:Int) x:=by unfold jg;rw [h];rfl
section
variable {fin:Int} {f:bL} {j:dy}
theorem fO (hk:f.Kind=1):ql fin f↔(0≤f.ou∧f.ou≤f.To∧f.To≤86400000)∧0≤f.jf∧f.jf≤0:=by
 unfold ql;rw [c0 hk];omega
theorem fM (hk: ¬ f.Kind=1):ql fin f↔(1≤f.Kind∧f.Kind≤3)∧(0≤f.ou∧f.ou≤f.To∧f.To≤86400000)∧0≤f.jf∧f.jf≤fin:=by
 unfold ql;rw [c1 hk]
theorem Hs (h:0<((jV (jg j.bu fun _ f=>decide (¬ ql j.Race.ar.b_ f)) j.bu.length).length:Int)): ¬ s8 j:=fun q=>by
 obtain ⟨i,hi,hb⟩:=Tk h;have hx:j.bu[i]? =some (j.bu[i]'hi):=fh hi;rw [uG hx] at hb;exact (s6 hb) (q.fault _ (aF hx))
theorem Gn (h: ¬ 0<((jV (jg j.bu fun _ f=>decide (¬ ql j.Race.ar.b_ f)) j.bu.length).length:Int)): ∀ f∈j.bu,fr j.Race.ar f:=fun f hf=>by
 obtain ⟨i,hi⟩:=r5.1 hf;have hb:=Ta h (aT.1 hi).1;rw [uG hi] at hb;exact Decidable.of_not_not (AB6 hb)
theorem D3 {p q:Prop} (h1:b=false) (h2:¬ p) (h3:¬ q): ¬ (b=true∨p∨q):=by
 rintro (h|h|h)
 ·rw [h1] at h;cases h
 ·exact h2 h
 ·exact h3 h
end
section
variable {l:bf} {r:c_} {b:Int} {f:bL} {d:ak} {a c:EL}
theorem Kw (h:b<0):dB l r b=⟨r.Start,r.Start,true,false⟩:=c0 h
theorem Fv (h: ¬ b<0) (e: ¬ eT l r b=0):dB l r b=⟨86400000,86400000,false,true⟩:=by unfold dB;rw [c1 h,c1 e]
theorem Cs (h: ¬ b<0) (e:eT l r b=0) (q:zT l r b=true):dB l r b=⟨(eL l r b).Lo,(eL l r b).Hi,true,false⟩:=by unfold dB;rw [c1 h,c0 e,q];rfl
theorem z4 (h: ¬ b<0) (e:eT l r b=0) (q:zT l r b=false):dB l r b=⟨(eL l r b).Lo,86400000,false,false⟩:=by unfold dB;rw [c1 h,c0 e,q];rfl
theorem xz (h:eT l r b=0) (hb:0≤b):fK l r 0=0:=by
 by_cases e:fK l r (lR l b)=0
 ·by_cases c:0≤b∧b≤(l.ai.length:Int)-1
  ·rw [Ad c] at e;exact e
  ·rw [show lR l b=2 from c1 c] at e;have:=(jQ e).2.2.1;omega
 ·rw [(nH e).1] at h;exact absurd h e
theorem FE (h:fK l r 0=0):zT l r b=decide (b<rZ (lU l r)):=by
 have hm:=Tr (B6 h);unfold zT;rw [AAB,dg,ACX];constructor
 ·intro q;exact s6 (q _ hm.1)
 ·intro q x hx;have:=hm.2 x hx;exact cR I
theorem S6 (hb:0≤b):(0≤(dB l r b).Lo∧(dB l r b).Lo≤86400000)∧0≤(dB l r b).Hi∧(dB l r b).Hi≤86400000:=by
 by_cases e:eT l r b=0
 ·have A:=wm e;cases q:zT l r b with
  |true=>rw [Cs I e q];simp only;omega
  |false=>rw [z4 I e q];simp only;omega
 ·rw [Fv I e];simp only;omega
theorem kE (hk:f.Kind=1) (hr:rD d):ks l f d=sk f (dB l d.bp (-1)) (dB l d.bp l.b_):=by
 unfold ks Iu ZH;rw [c0 hr,c0 hk,c0 hk]
theorem kI (hk:f.Kind=2) (hr:rD d):ks l f d=sk f (dB l d.bp (f.jf-1)) (dB l d.bp f.jf):=by
 unfold ks Iu ZH;rw [c0 hr,c1 I,c0 hk,c1 I]
theorem kJ (hk:f.Kind=3) (hr:rD d):ks l f d=sk f (dB l d.bp f.jf) (dB l d.bp f.jf):=by
 unfold ks Iu ZH;rw [c0 hr,c1 I,c1 I,c1 I]
theorem iq (h:a.never=true∨f.To<a.Lo∨c.Hi<f.ou):sk f a c=0:=c0 h
theorem qD (h: ¬ (a.never=true∨f.To<a.Lo∨c.Hi<f.ou)) (q:a.each=true) (s:wY f a c):sk f a c=2:=by unfold sk;rw [c1 h,c0 ⟨q,s⟩]
theorem kG (h: ¬ (a.never=true∨f.To<a.Lo∨c.Hi<f.ou)) (q: ¬ (a.each=true∧wY f a c)):sk f a c=1:=by unfold sk;rw [c1 h,c1 q]
theorem pZ (hk: ¬ f.Kind=3):wY f a c↔a.Hi≤f.To∧f.ou≤c.Lo:=by unfold wY;rw [c1 hk]
theorem Dd (hk:f.Kind=3):wY f a c↔aa.mk (max a.Lo f.ou) (min a.Hi f.To)=aa.mk a.Lo a.Hi:=by
 unfold wY;rw [c0 hk];constructor
 ·intro q;congr 1<;>omega
 ·intro q;injection q with A B;omega
end
section
variable {j:dy} {p:cG} {d:ak} {f:bL}
theorem Vs (hd:uQ j p=some d) (h:p.At≤(dB j.Race.ar d.bp j.Race.ar.b_).Lo+60000*j.ju):vb j p=0:=by unfold vb;rw [hd];exact c0 h
theorem VM (hd:uQ j p=some d) (h: ¬ p.At≤(dB j.Race.ar d.bp j.Race.ar.b_).Lo+60000*j.ju) (h2:p.At≤(dB j.Race.ar d.bp j.Race.ar.b_).Hi+60000*j.ju):vb j p=1:=by unfold vb;rw [hd];simp only;rw [c1 h,c0 h2]
theorem Vq (hd:uQ j p=some d) (h: ¬ p.At≤(dB j.Race.ar d.bp j.Race.ar.b_).Lo+60000*j.ju) (h2: ¬ p.At≤(dB j.Race.ar d.bp j.Race.ar.b_).Hi+60000*j.ju):vb j p=2:=by unfold vb;rw [hd];simp only;rw [c1 h,c1 h2]
theorem Om (h:vb j p=2):nT j p=false:=by unfold nT;split<;>simp [h]
theorem M6 (hd:uQ j p=some d) (hf:j.bu[p.lk.toNat]? =some f) (h: ¬ vb j p=2):nT j p= !decide (ks j.Race.ar f d=0):=by unfold nT;rw [hd,hf];simp [h]
end
section
variable {j:dy} {i k:Nat} {p q:cG} {f:bL} {d:ak}
/-- the first faults are right -/
def qE (j:dy) (k:Nat):Prop:= ∀ (i:Nat) f,i<k→j.bu[i]? =some f→fr j.Race.ar f
theorem Eo:qE j 0:=fun i f h=>absurd h (s4 _)
theorem s7 (h:qE j k) (hf:j.bu[k]? =some f) (ho:fr j.Race.ar f):qE j (k+1):=fun i g hi hg=>by
 rcases r4 i k with c|c
 ·exact h i g c hg
 ·obtain rfl:i=k:=by omega
  rw [hf] at hg;cases hg;exact ho
theorem ei (h:qE j k) (hk:j.bu.length≤k): ∀ f∈j.bu,fr j.Race.ar f:=fun f hf=>by
 obtain ⟨i,hi⟩:=r5.1 hf;exact h i f (by have:=(aT.1 hi).1;omega) hi
/-- the first protests are right -/
def qg (j:dy) (k:Nat):Prop:= ∀ (i:Nat) p,i<k→j.bH[i]? =some p→xy j i p
theorem Ba:qg j 0:=fun i f h=>absurd h (s4 _)
theorem vp (h:qg j k) (hp:j.bH[k]? =some p) (ho:xy j k p):qg j (k+1):=fun i g hi hg=>by
 rcases r4 i k with c|c
 ·exact h i g c hg
 ·obtain rfl:i=k:=by omega
  rw [hp] at hg;cases hg;exact ho
/-- the number of the last protest, so far -/
def rn (j:dy) (k:Nat):Int:=match k with
 |0=> -1
 |k+1=>match j.bH[k]? with
  |some p=>p.Id
  |none=> -1
theorem py (hp:j.bH[k]? =some p):rn j (k+1)=p.Id:=by unfold rn;simp only [hp]
theorem Sd (h:qg j k) (hk:k≤j.bH.length): -1≤rn j k∧rn j k≤9999:=by
 cases k with
 |zero=>exact ⟨by simp [rn],by simp [rn]⟩
 |succ k=>
  obtain ⟨p,hp⟩: ∃ p,j.bH[k]? =some p:=⟨j.bH[k]'I,fh _⟩;have:=(h k p I hp).id;rw [py hp];omega
theorem qW (hh:j.Race.ax[p.jW.toNat]? =some ht) (hd:ht[p.ji.toNat]? =some d):uQ j p=some d:=by
 unfold uQ;rw [hh];exact hd
theorem RN (hp:j.bH[k]? =some p) (hi:rn j k+1≤p.Id∧p.Id≤9999) (h0: -1≤rn j k) (hs:0≤p.ji∧p.ji≤(j.Race.a_.length:Int)-1) (hh:0≤p.jW∧p.jW≤(j.Race.ax.length:Int)-1) (hf:0≤p.lk∧p.lk≤(j.bu.length:Int)-1) (hd:uQ j p=some d) (hr:rD d) (ha:d.bp.Start≤p.At∧p.At≤86400000):xy j k p:=by
 refine ⟨I,fun q B A=>?_,hs,hh,hf,d,hd,hr,ha⟩;cases k with
 |zero=>omega
 |succ k=>
  rw [AA_] at A;rw [py A] at hi;omega
/-- one that is wrong -/
theorem uu (hp:j.bH[k]? =some p) (h: ¬ xy j k p): ¬ s8 j:=fun q=>h (q.iL k p hp)
theorem ze (h:xy j k p) (hk:k≤j.bH.length):rn j k+1≤p.Id:=by
 cases k with
 |zero=>have:=h.id;show-1+1≤p.Id;omega
 |succ k=>
  obtain ⟨q,hq⟩: ∃ q,j.bH[k]? =some q:=⟨j.bH[k]'I,fh _⟩;have:=h.up q I (by rw [AA_];exact hq);rw [py hq];omega
end
def qs (l:List bL) (f:bL):Int:=match l.findIdx? (fun x=>decide (x=f)) with
 |some i=>(i:Int)
 |none=> -1
section
variable {l:List bL} {f g x:bL} {i:Nat}
theorem Sw (hx:l[i]? =some x) (h:x=f) (hb: ∀ (q:Nat) y,q<i→l[q]? =some y→y≠f):qs l f=(i:Int):=by
 unfold qs;have:l.findIdx? (fun x=>decide (x=f))=some i:=by
  rw [ACE];obtain ⟨hi,e⟩:=aT.1 hx;refine ⟨hi,by rw [e];simp [h],fun q hq=>?_⟩;have:=hb q (l[q]'I) hq (fh _);simpa using this
 rw [this]
theorem Rf (hb: ∀ (q:Nat) y,q<i→l[q]? =some y→y≠f) (hi:l.length≤i):qs l f= -1:=by
 unfold qs;have:l.findIdx? (fun x=>decide (x=f))=none:=by
  rw [List.findIdx?_eq_none_iff];intro y hy;obtain ⟨q,hq⟩:=r5.1 hy;have:=hb q y (by have:=(aT.1 hq).1;omega) hq;simpa using this
 rw [this]
theorem E2 (hf:f∈l): ∃ i:Nat,qs l f=(i:Int)∧l[i]? =some f:=by
 unfold qs;cases h:l.findIdx? (fun x=>decide (x=f)) with
 |none=>
  rw [List.findIdx?_eq_none_iff] at h;have:=h f hf;simp at this
 |some i=>
  rw [ACE] at h;obtain ⟨hi,e,_⟩:=h;exact ⟨i,U,by rw [fh hi];simpa using e⟩
theorem NW (hf:f∈l) (hg:g∈l) (h:qs l f=qs l g):f=g:=by
 obtain ⟨i,C,A⟩:=E2 hf;obtain ⟨k,D,B⟩:=E2 hg;have:i=k:=by omega
 subst this;exact m3 (A.symm.trans B)
end
abbrev Cl (j:dy) (kA:Option Addr) (az:List RA) (cA bA:Option Addr) (slA drA:Option Addr) (ha:List cq) (heA:Option Addr) (faA prA:Option Addr):List au:=[(rd kA j.Race.ar.bQ.length 9 (j.Race.ar.bQ.map ag.cells)),(rd cA j.Race.ar.aC.length 2 (zipWith aS.cells j.Race.ar.aC az)),(iU (bB aS.lf j.Race.ar.aC az)),(rd bA j.Race.ar.ai.length 4 (j.Race.ar.ai.map df.cells)),(rd slA j.Race.a_.length 1 (j.Race.a_.map iC)),(rd drA j.Race.db.length 1 (j.Race.db.map iC)),(rd heA j.Race.ax.length 1 (zipWith di j.Race.ax ha)),(iU (bB nm j.Race.ax ha)),(rd faA j.bu.length 4 (j.bu.map bL.cells)),(rd prA j.bH.length 5 (j.bH.map cG.cells))]
end
section
open Go.RowKit
abbrev yo2 (C:List au) (i j:Nat):List Nat:=i::j::(range C.length).filter fun k=>k != i&&k != j
def YlO {σ:Type} (w0:World) (P:Program) (l:Nat) (step:σ→List Value→au→σ→Prop) (J:σ→au→Prop) (Z:au→Prop):Prop:=
 ∀ k x R k' A w,step k x R k'→J k A→w0.heap.size≤w.heap.size→(bD [A,R]).holds w→YieldAt (Fw none) 0 P l x.toArray w fun e w'=>
  (e= .returned (.bool true)∧ ∃ B,J k' B∧Mv (bD [A,R]) B w w')∨(e= .returned (.bool false)∧ ∃ B,Z B∧Mv (bD [A,R]) B w w')
structure UQ {σ:Type} (P:Program) (f:FuncId) (fi ca:List Value) (Cp:List au) (s0:σ) (step:σ→List Value→au→σ→Prop) (fin:σ→Prop):Prop where
 go:sN P f=true
 run: ∀ (l:Nat) (J:σ→au→Prop) (Z:au→Prop) (A0:au) (w:World),YlO w P l step J Z→J s0 A0→A0.holds w→(∀ A∈Cp,A.holds w)→(∀ A∈Cp,Gu A0 A.ro)→
  Calls P f (fi++Value.func (.yield l) #[] #[]::ca).toArray w (EF J Z fin A0 w)
theorem Tn {f:FuncId} {s0:σ} {step:σ→List Value→au→σ→Prop} {fin:σ→Prop} (hgo:sN P f=true) (hf:P.funcs[f]? =some fn) (hb:fn.body=some c) (hn:ble (fi.length+ca.length+1) fn.ntmps=true) (h:∀ (l:Nat) (J:σ→au→Prop) (Z:au→Prop) (A0:au) (w0:World) (Q:du),YlO w0 P l step J Z→J s0 A0→Fo A0 w0 A0→
  (∀ D L C,LJ ⟨P,none,fn.ntmps,⟨A0.wf,fun _=>True⟩,w0⟩ fn (EF J Z fin A0 w0) D L C→KJ ⟨P,none,fn.ntmps,⟨A0.wf,fun _=>True⟩,w0⟩ (Q .ret) D L C)→
  (∀ D L C,LJ ⟨P,none,fn.ntmps,⟨A0.wf,fun _=>True⟩,w0⟩ fn (EF J Z fin A0 w0) D L C→KJ ⟨P,none,fn.ntmps,⟨A0.wf,fun _=>True⟩,w0⟩ (Q .normal) D L C)→
  WJ ⟨P,none,fn.ntmps,⟨A0.wf,fun _=>True⟩,w0⟩ c Q [] (Ul (fi++Value.func (.yield l) #[] #[]::ca)) (A0::Cp.map au.ro)):UQ P f fi ca Cp s0 step fin:=by
 refine ⟨hgo,fun l J Z A0 w hY hJ hA F E=>?_⟩;refine De hf hb (by simpa [ABS] using hn) (h l J Z A0 w · hY hJ (fun b hb=> .inl hb)) ?_;have G:=tj F;refine ⟨ed.refl _ _,fun A hA'=>?_,List.Pairwise.cons (fun B hB=>?_) G.sep,fun A hA' b hb=>?_,fun _ _ _ _=> .inr trivial⟩
 ·rcases bI.1 hA' with rfl|hA'
  ·exact hA
  ·exact G.holds A hA'
 ·obtain ⟨B',hB',rfl⟩:=cu.1 hB;exact E B' hB'
 ·rcases bI.1 hA' with rfl|hA'
  ·exact .inr hb
  ·obtain ⟨B',hB',rfl⟩:=cu.1 hA';exact hb.elim
section
variable {E:fJ} {ops:Array Oper} {Q:du} {rest:List Oper} {D:List Deferred} {L:List (Nat×Value)} {C:List au}
variable {d:Nat} {ty:TypeId} {ps:String} {af:Array Edge} {g:Option (Nat×Bool)}
/-- a call of yield -/
theorem OK {fop:Operand} {xs:Array Operand} {l:Nat} {k k':σ} {step:σ→List Value→au→σ→Prop} {J:σ→au→Prop} {Z:au→Prop} {A0 A R:au} (i j:Nat) (hS:E.S=⟨A0.wf,fun _=>True⟩) (hY:YlO E.w0 E.P l step J Z) (hJ:J k A) (hF:Fo A0 E.w0 A) (hg:kz ops L g=true) (hf:ev L fop=some (.func (.yield l) #[] #[])) (hx:evs L xs.toList=some vs) (hk:step k vs R k') (hR:R.wr=true) (hn:decide (yo2 C i j).Nodup=true) (hC:ni C (yo2 C i j)=some (A::R::C1)) (hd:blt d E.n=true) (k1:∀ B,J k' B→Fo A0 E.w0 B→RJ E ops Q rest D ((d,.bool true)::L) (B::C1)) (k2:∀ B,Z B→Fo A0 E.w0 B→RJ E ops Q rest D ((d,.bool false)::L) (B::C1)):
 RJ E ops Q (⟨some d,.call {callee:= .value fop,args:=xs,argTypes:=ts},ty,ps,af,g⟩::rest) D L C:=by
 intro a w F N;have AA:St E.S E.w0 ([A,R]++C1) w:=St.kQ _ hn (jX hC) N;have hs:=AA.tied;have hd':d<E.n:=by rw [← u7];exact hd
 unfold uJ;rw [c0 (eH F hg)];have O:xs.map a.eval=vs.toArray:=by
  have:=F.evs hx;apply ABX;simp [this]
 obtain ⟨fn,tmps,assign,body,hy,hr⟩:=hY k vs R k' A w hk hJ hs.keeps.size (hs.holds _ bZ);have H:(execOp a.eval ⟨some d,.call {callee:= .value fop,args:=xs,argTypes:=ts},ty,ps,af,g⟩).run E.P w= .ok (.round l fn tmps assign body) w:=by
  simp [execOp,resolve,F.ev hf,Deferred.ofValue,invoke,O,hy]
 refine ⟨fun _ _=>trivial,?_⟩;rw [AA7 _ _ _ sm,H];refine ⟨fun h=>by simp at h,?_⟩;have G: ∀ (B:au) (w':World),Mv (bD [A,R]) B w w'→Fo A0 E.w0 B:=fun B w' m b hb=>by
  rcases m.fP b hb with ⟨X,hX,K⟩|K
  ·rcases bI.1 hX with rfl|hX
   ·exact hF b K
   ·rw [bU] at hX;subst hX;rcases AA.own X sm b (X.whole hR b K) with M|M
    ·exact .inr M
    ·rw [hS] at M;exact .inl (A0.l7 b M)
  ·exact .inr (c6 hs.keeps.size K)
 have hr':RoundIn (Fw E.r) 0 E.P l fn tmps assign body w _:=hr;refine hr'.mono fun e w' he=>?_;rcases he with ⟨rfl,B,hB,m⟩|⟨rfl,B,hB,m⟩
 ·exact k1 B hB (G B w' m) _ _ (F.put hd' _) (hs.mv 0 U m)
 ·exact k2 B hB (G B w' m) _ _ (F.put hd' _) (hs.mv 0 U m)
end
theorem MS {L0:dJ} {F:List au} {g:Operand} {ps:Array Tmp} {assign body:Code} {f:FuncId} {s0:σ} {step:σ→List Value→au→σ→Prop} {fin_:σ→Prop} {ι κ:Type} (inv:σ→ι→Prop) (Ci:σ→ι→List au) (invx:Code→κ→Prop) (Cx:Code→κ→List au) (isJ isF:List Nat) (y0:ι) (hr:E.r=none) (hg:ev L g=some (.func (.func f) fi.toArray ca.toArray)) (hs:UQ E.P f fi ca Cp s0 step fin_) (hnd:decide (isJ++isF).Nodup=true) (hJ:kQ C isJ=Ci s0 y0) (hF:kQ C isF=F) (h0:inv s0 y0) (hCp:∀ A∈Cp,∃ B∈F,Pf B A) (hps:∀ k x R k',step k x R k'→x.length=ps.size) (hpn:ps.toList.all (fun t=>blt t E.n)=true) (hL:cV L L0) (round:∀ (k:σ) (x:List Value) (R:au) (k':σ) (y:ι) (l:Nat) (ra rb:Loop) (S:BS) (w0:World) (K:Act→World→Prop) (Qr:du),E.w0.heap.size≤w0.heap.size→step k x R k'→inv k y→
  (∀ L' C',WJ ⟨E.P,some l,E.n,S,w0⟩ body Qr [] L' (jT l (.loop rb)::C')→KJ ⟨E.P,some l,E.n,S,w0⟩ K [] L' (jT l (.loop ra)::C'))→
  (∀ y' L' C',inv k' y'→(∀ w,St S w0 C' w→St S w0 (jT l (.loop rb)::Ci k' y') w)→KJ ⟨E.P,some l,E.n,S,w0⟩ (Qr .normal) [] L' C')→
  (∀ id z L' C',invx (.exit id) z→(∀ w,St S w0 C' w→St S w0 (jT l (.loop rb)::Cx (.exit id) z) w)→KJ ⟨E.P,some l,E.n,S,w0⟩ (Qr (.exit id)) [] L' C')→
  (∀ z L' C',invx .ret z→(∀ w,St S w0 C' w→St S w0 (jT l (.loop rb)::Cx .ret z) w)→KJ ⟨E.P,some l,E.n,S,w0⟩ (Qr .ret) [] L' C')→
  WJ ⟨E.P,some l,E.n,S,w0⟩ assign (Exit.then K (fun _ _ _=>False)) [] (Bq ps.toList x L0) (jT l (.loop ra)::(Ci k y++[R]))) (fin:∀ r s y,fin_ s→inv s y→KJ E (Q .normal) (jB r::D) L0 (jT r (.deferred (some []))::(F++Ci s y))) (finx:∀ r id z,invx (.exit id) z→KJ E (Q (.exit id)) (jB r::D) L0 (jT r (.deferred (some []))::(F++Cx (.exit id) z))) (finr:∀ r z,invx .ret z→KJ E (Q .ret) (jB r::D) L0 (jT r (.deferred (some []))::(F++Cx .ret z))):WJ E (.rangeFunc g ps assign body) Q D L C:=by
 intro a w hf u;refine wpIn_rangeFunc fun fn _=>?_;show ∃ l jB w₁ d w₁' f args w₂,(Instr.enterLoop fn a.tmps ps assign body E.r).run E.P w= .ok (l,jB) w₁∧_
 rw [hr];obtain ⟨rec,G⟩: ∃ rec:LoopState→Option Code→Loop,rec=fun st pe=>{state:=st,pending:=pe,fn,tmps:=a.tmps,params:=ps,assign,body,defers:=w.heap.size}:=⟨_,rfl⟩;obtain ⟨W1,T⟩: ∃ W1,(w.alloc (.deferred (some []))).alloc (.loop (rec .ready none))=W1:=⟨_,rfl⟩;have A2:a.eval g= .func (.func f) fi.toArray ca.toArray:=hf.ev hg;have q:(Instr.enterLoop fn a.tmps ps assign body none).run E.P w= .ok (w.heap.size+1,[jB w.heap.size]) W1:=by
  rw [← T,G];exact ACV _ _ _ _ _
 -- the state with the record and the block
 have AC:St E.S E.w0 ((jT (w.heap.size+1) (.loop (rec .ready none))::Ci s0 y0)++(jT w.heap.size (.deferred (some []))::F)) W1:=by
  have Y:St E.S E.w0 (Ci s0 y0++F) w:=St.kQ (isJ++isF) hnd (by have Y:=hJ;have o:=hF;unfold Go.Proofs.YtgnlmfdknlbkkaaGreatDoor.kQ at Y o ⊢;rw [AAh,Y,o]) u;have hn:QV w W1 [jT (w.heap.size+1) (.loop (rec .ready none)),jT w.heap.size (.deferred (some []))]:=by
   refine ⟨fun A hA=>?_,fun A hA b hb=>?_,?_⟩
   ·rcases bI.1 hA with rfl|hA
    ·show W1.heap[w.heap.size+1]? =_
     rw [← T];have:=ABD (w.alloc (.deferred (some []))) (.loop (rec .ready none));rwa [World.size_alloc] at this
    ·simp only [bU] at hA;subst hA;show W1.heap[w.heap.size]? =_
     rw [← T];exact (ABe _ _ _ sm).trans (ABD w _)
   ·rcases bI.1 hA with rfl|hA
    ·have:b=w.heap.size+1:=hb;omega
    ·simp only [bU] at hA;subst hA;have:b=w.heap.size:=hb;omega
   ·refine List.Pairwise.cons (fun B hB b Y o=>?_) (AAY _ _);simp only [bU] at hB;subst hB;have X:b=w.heap.size+1:=Y;have O:b=w.heap.size:=o;omega
  have hk:ed no w W1:=by rw [← T];exact (ed.alloc no w _).trans (ed.alloc no _ _)
  have o:=Y.grow hk hn;refine o.perm ?_;simp only [AAX,AAp];exact List.Perm.cons _ (v5.symm)
 have i:=AC.tied;obtain ⟨H,A7⟩:=AAT.1 i.sep;have A0:=i.holds _ (bZ ..);let J:σ→au→Prop:=fun k A=> ∃ y,inv k y∧A=bD (jT (w.heap.size+1) (.loop (rec .ready none))::Ci k y)
 let Z:au→Prop:=fun A=> ∃ c z,(c= .ret∨ ∃ id,c= .exit id)∧invx c z∧A=bD (jT (w.heap.size+1) (.loop (rec .done (some c)))::Cx c z)
 refine ⟨w.heap.size+1,[jB w.heap.size],W1,{target:= .fn (.func f) ca.toArray,args:=fi.toArray++ #[.func (.yield (w.heap.size+1)) #[] #[]]},W1,f,
  (fi++Value.func (.yield (w.heap.size+1)) #[] #[]::ca).toArray,W1,q,?_,fun _ _=>trivial,?_,fun h=>by simp at h,?_⟩
 ·simp only [resolve,A2];simp [Deferred.ofValue,Act.eval]
 ·have:fi.toArray++ #[Value.func (.yield (w.heap.size+1)) #[] #[]]++ca.toArray=(fi++Value.func (.yield (w.heap.size+1)) #[] #[]::ca).toArray:=by simp
  simp [invoke,oS hs.go]
 ·refine (rj E.r (hs.run (w.heap.size+1) J Z _ W1 ?_ ⟨y0,h0,U⟩ A0 ?_ ?_)).mono ?_
  ·-- a round
   rintro k x R k' A W hx ⟨y,hy,rfl⟩ A1 hA;have hl:W.heap[w.heap.size+1]? =some (.loop (rec .ready none)):=(hA.1 _ (bZ ..)).1 _ (bZ ..);have AO:=run_yield (P:=E.P) (args:=x.toArray) hl (by rw [G];simpa using hps k x R k' hx);rw [G] at AO;refine ⟨fn,_,assign,body,AO,roundIn_of_wpIn trivial ?_⟩;let A:au:=bD [bD (jT (w.heap.size+1) (.loop (rec .ready none))::Ci k y),R]
   have A3:Fr E.n [] (Bq ps.toList x L0) {tmps:=(ps.zip x.toArray).foldl (fun tmps (t,a)=>tmps.setIfInBounds t a) a.tmps,defers:=[]}:=by
    have Y:=HI ps.toList x L0 a.tmps (fun t ht=>by have:=dg.1 hpn t ht;rwa [u7] at this) ⟨rfl,hf.size,fun t v hv=>hf.at_ t v (hL t v hv)⟩;rw [← ABq];simpa using Y
   have p: ∀ (c:Option Code) (b:Bool),({rec .busy none with state:=if b then .ready else .done,pending:=c}:Loop)=rec (if b then .ready else .done) c:=fun c b=>by rw [G]
   have AA: ∀ (c:Option Code) (N:World) (C':List au) (S:BS),St S W (jT (w.heap.size+1) (.loop (rec .busy none))::C') N→
    ∃ M,(Instr.endRound (w.heap.size+1) c).run E.P N= .ok (.bool c.isNone) M∧St S W (jT (w.heap.size+1) (.loop (rec (if c.isNone then .ready else .done) c))::C') M:=fun c N C' S H=>by
    have AB:N.heap[w.heap.size+1]? =some (.loop (rec .busy none)):=H.holds _ (bZ ..);refine ⟨_,run_endRound c AB,?_⟩;have:=H.BP (b:=w.heap.size+1) (A':=jT (w.heap.size+1) (.loop (rec (if c.isNone then .ready else .done) c))) 0 rfl rfl rfl (iB _) (fun _ h=>h) (AAR (eG AB));rw [p];exact this
   refine round k x R k' y (w.heap.size+1) (rec .ready none) (rec .busy none) ⟨A.wf,A.fP⟩ W _ (roundPost E.P (w.heap.size+1) (fun e w'=>(e= .returned (.bool true)∧ ∃ B,J k' B∧Mv A B W w')∨(e= .returned (.bool false)∧ ∃ B,Z B∧Mv A B W w'))) (c6 (c6 u.keeps.size (by rw [← T];simp;omega)) A1) hx hy ?_ ?_ ?_ ?_ _ _ A3 (by have:=(St.Dn hA).iJ;simpa using this)
   ·intro L' C' hW a1 N j H;have AB:N.heap[w.heap.size+1]? =some (.loop (rec .ready none)):=H.holds _ (bZ ..);refine ⟨_,run_beginRound AB (by rw [G]),hW _ _ j ?_⟩;have:=H.BP (b:=w.heap.size+1) (A':=jT (w.heap.size+1) (.loop (rec .busy none))) 0 rfl rfl rfl (iB _) (fun _ h=>h) (AAR (eG AB));have e:({rec .ready none with state:= .busy}:Loop)=rec .busy none:=by rw [G]
    rw [e];exact this
   ·intro y' L' C' hy' hC' a1 N j H;obtain ⟨M,X,O⟩:=AA none N _ _ (hC' _ H);exact ⟨_,M,X,.inl ⟨U,_,⟨y',hy',U⟩,Mv.of O⟩⟩
   ·intro id z L' C' hz hC' a1 N j H;obtain ⟨M,X,O⟩:=AA (some (.exit id)) N _ _ (hC' _ H);exact ⟨_,M,X,.inr ⟨U,_,⟨_,z,.inr ⟨id,U⟩,hz,U⟩,Mv.of O⟩⟩
   ·intro z L' C' hz hC' a1 N j H;obtain ⟨M,X,O⟩:=AA (some .ret) N _ _ (hC' _ H);exact ⟨_,M,X,.inr ⟨U,_,⟨_,z,.inl U,hz,U⟩,Mv.of O⟩⟩
  ·intro A hA;obtain ⟨B,hB,hc⟩:=hCp A hA;exact hc.holds _ (i.holds B (dk _ (dk _ hB)))
  ·intro A hA b hb hb';obtain ⟨B,hB,hc⟩:=hCp A hA;exact ⟨(H B (dk _ hB) b hb (hc.fP b hb')).1,fun h=>h⟩
  ·rintro e w' ⟨v,rfl,hh⟩;have V:Fr E.n (jB w.heap.size::D) L0 {a with defers:=[jB w.heap.size]++a.defers}:=⟨by simp [hf.defers],hf.size,fun t v hv=>hf.at_ t v (hL t v hv)⟩;have hleave: ∀ (st:LoopState) (c:Option Code) (C':List au),st≠ .busy→Mv (bD (jT (w.heap.size+1) (.loop (rec .ready none))::Ci s0 y0)) (bD (jT (w.heap.size+1) (.loop (rec st c))::C')) W1 w'→
    ∃ M,(Instr.endLoop (w.heap.size+1)).run E.P w'= .ok c M∧St E.S E.w0 (jT w.heap.size (.deferred (some []))::(F++C')) M:=fun st c C' A5 m=>by
    have Y:=(i.mv 0 rfl m).iJ;have h1':St E.S E.w0 ((jT (w.heap.size+1) (.loop (rec st c))::C')++(jT w.heap.size (.deferred (some []))::F)) w':=Y;have AB:w'.heap[w.heap.size+1]? =some (.loop (rec st c)):=h1'.holds (jT (w.heap.size+1) (.loop (rec st c))) sm;refine ⟨_,by have:=run_endLoop (P:=E.P) AB (by rw [G];exact A5);rw [this,G],?_⟩;have o:=h1'.BP (b:=w.heap.size+1) (A':=jT (w.heap.size+1) (.loop {rec st c with state:= .exhausted})) 0 rfl rfl rfl (iB _) (fun _ h=>h) (AAR (eG AB));have h3:St E.S E.w0 (C'++(jT w.heap.size (.deferred (some []))::F)) _:=o.take (ABJ _ _);rw [G] at h3;refine h3.perm ?_;exact (AAC).trans sm
   rcases hh with ⟨s,B,A4,⟨y,hy,rfl⟩,m⟩|⟨B,⟨c,z,hc,hz,rfl⟩,m⟩
   ·obtain ⟨M,X,O⟩:=hleave .ready none _ sm m;exact ⟨none,M,X,fin w.heap.size s y A4 hy _ _ V O⟩
   ·obtain ⟨M,X,O⟩:=hleave .done (some c) _ sm m;refine ⟨some c,M,X,?_⟩;rcases hc with rfl|⟨id,rfl⟩
    ·exact wpIn_ret (finr w.heap.size z hz _ _ V O)
    ·exact wpIn_exit (finx w.heap.size id z hz _ _ V O)
end
section
open Go.RowKit
/-- the faults that a map of places says -/
def m0 (fs:List bL) (m:List (Int×Bool)) (f:bL):Prop:=(lookup (qs fs f) m).getD false=true
/-- what comes next: the row of a heat, in memory of its own -/
def QF (G:List (List Int)) (k:Nat) (x:List Value) (R:au) (k':Nat):Prop:= ∃ (a:OA) (c:Nat) (row:List Int),G[k]? =some row∧x=[vS a row.length c]∧R=own a c Uj 1 (row.map iC)∧k'=k+1
section
variable {l:bf} {fs:List bL} {m:List (Int×Bool)} {d:ak} {h:List ak} {j:dy} {F G:bL→Prop} {k n q:Nat} {f f0:bL}
noncomputable def mL (l:bf) (fs:List bL) (m:List (Int×Bool)) (h:List ak) (s:Nat):Bool:=(h[s]?).any fun d=> @decide (V1 l (m0 fs m) fs d) (Classical.propDecidable _)
theorem Ro:(fs.any fun f=>((lookup (qs fs f) m).getD false)&& !decide (ks l f d=0))= @decide (V1 l (m0 fs m) fs d) (Classical.propDecidable _):=by
 rw [AAB,AAm,@ACX _ (Classical.propDecidable _)];constructor
 ·rintro ⟨f,hf,hb⟩;rw [dq,e0,AAz] at hb;exact ⟨f,hf,hb.1,hb.2⟩
 ·rintro ⟨f,hf,A,B⟩;exact ⟨f,hf,by rw [dq,e0,AAz];exact ⟨A,B⟩⟩
theorem Ja (hd:h[q]? =some d):mL l fs m h q=(fs.any fun f=>((lookup (qs fs f) m).getD false)&& !decide (ks l f d=0)):=by
 unfold mL;rw [hd,Ro];rfl
theorem QA (hh:j.Race.ax[k]? =some ht):(iK j (m0 j.bu m))[k]? =some (jV (mL j.Race.ar j.bu m ht) ht.length):=Db hh
/-- only who is told, of faults of the row -/
theorem ES (h: ∀ f∈j.bu,(F f↔G f)):iK j F=iK j G:=by
 unfold iK;apply AB1;intro x _;exact Mr h
end
def yT (fs:List bL) (gs:List bL):List (Int×Bool):=gs.foldl (fun m f=>d_ m (qs fs f) true) []
section
variable {fs gs:List bL} {f g:bL} {m:List (Int×Bool)}
theorem L9 {y:Int}:(lookup y (d_ m x true)).getD false=true↔y=x∨(lookup y m).getD false=true:=by
 rw [nc];by_cases e:y=x
 ·rw [c0 e];simp [e]
 ·rw [c1 e];simp [e]
theorem I8: ∀ {gs:List bL} {m:List (Int×Bool)} {y:Int},(lookup y (gs.foldl (fun m f=>d_ m (qs fs f) true) m)).getD false=true↔(∃ g∈gs,y=qs fs g)∨(lookup y m).getD false=true
 |[],m,y=>by simp
 |g::gs,m,y=>by
  rw [ACN,I8 (gs:=gs),L9];constructor
  ·rintro (⟨u,A,B⟩|h|h)
   ·exact .inl ⟨u,dk _ A,B⟩
   ·exact .inl ⟨g,bZ,h⟩
   ·exact .inr h
  ·rintro (⟨u,A,B⟩|h)
   ·rcases bI.1 A with rfl|A
    ·exact .inr (.inl B)
    ·exact .inl ⟨u,A,B⟩
   ·exact .inr (.inr h)
theorem WS (hg: ∀ g∈gs,g∈fs) (hf:f∈fs):m0 fs (yT fs gs) f↔f∈gs:=by
 unfold m0 yT;rw [I8];constructor
 ·rintro (⟨g,A,B⟩|h)
  ·rw [NW hf (hg g A) B];exact A
  ·simp at h
 ·intro h;exact .inl ⟨f,h,rfl⟩
theorem LO:yT fs (gs++[g])=d_ (yT fs gs) (qs fs g) true:=by unfold yT;rw [List.foldl_append];rfl
end
noncomputable def L5 (j:dy) (t:Nat):List bL:=((lM j).take t).filterMap fun i=>(j.bH[i.toNat]?).bind fun p=>j.bu[p.lk.toNat]?
section
variable {j:dy} {t:Nat} {i:Int} {p:cG} {f g:bL}
theorem P3 (hi:(lM j)[t]? =some i) (hp:j.bH[i.toNat]? =some p) (hf:j.bu[p.lk.toNat]? =some f):L5 j (t+1)=L5 j t++[f]:=by
 unfold L5;rw [l1,hi,AAh];simp [hp,hf]
theorem SS: ∀ g∈L5 j t,g∈j.bu:=fun g h=>by
 obtain ⟨i,_,A⟩:=AAD.1 h;cases e:j.bH[i.toNat]? with
 |none=>rw [e] at A;cases A
 |some p=>rw [e] at A;exact aF A
theorem SV (ht:(lM j).length≤t):f∈L5 j t↔I0 j f:=by
 unfold L5;rw [c5 ht,AAD];constructor
 ·rintro ⟨x,hx,h⟩;obtain ⟨i,_,rfl,p,hp,hg⟩:=vw.1 hx;rw [AAP,hp] at h;exact ⟨i,p,hp,hg,h⟩
 ·rintro ⟨i,p,hp,hg,hf⟩;exact ⟨(i:Int),vw.2 ⟨i,(aT.1 hp).1,U,p,hp,hg⟩,by rw [AAP,hp];exact hf⟩
theorem He (ht:(lM j).length≤t):iK j (m0 j.bu (yT j.bu (L5 j t)))=gd j:=
 ES fun f hf=>(WS SS hf).trans (SV ht)
theorem JZ (hi:(lM j)[t]? =some i): ∃ k:Nat,i=(k:Int)∧k<j.bH.length:=by
 obtain ⟨k,A,B,_⟩:=vw.1 (aF hi);exact ⟨k,B,A⟩
theorem Ib:(lM j).length≤j.bH.length:=rO
end
end
section
open Go.RowKit
theorem AZ {l:List α} {x:α} (h:l[k]? =some x):l.take (k+1)=l.take k++[x]:=by rw [l1,h];rfl
theorem V5 {a b:Int} (h1: -60000≤a∧a≤60000) (h2:0≤b∧b≤100000): -9223372036854775808≤a*b∧a*b≤9223372036854775807:=by
 have A:=ABp h1.1 h2.1;have B:=ABp h1.2 h2.1;omega
noncomputable def eD (j:dy):List (List Int):=if fU j=0 then gd j else []
noncomputable def Dq (j:dy) (s:Int) (p:cG):Bool:=decide (p.ji=s)&& !nT j p
noncomputable def tF (j:dy) (s:Int):Int:=if fU j=0 then (if 0≤s∧s≤(j.Race.a_.length:Int)-1 then 0 else 2) else fU j
noncomputable def vx (j:dy) (s:Int):Int:=if fU j=0∧(0≤s∧s≤(j.Race.a_.length:Int)-1) then V7 j s else 0
section
variable {j:dy} {k h s i:Int} {f:bL} {ht:List ak} {d:ak} {p:cG}
theorem yA (e: ¬ fU j=0):eD j=[]:=c1 e
theorem lE (e:fU j=0):eD j=gd j:=c0 e
theorem Q3 (e: ¬ p.ji=s):Dq j s p=false:=by unfold Dq;rw [bg e];rfl
theorem MG (e:p.ji=s):Dq j s p= !nT j p:=by unfold Dq;rw [cR e];rfl
theorem P9 {P:Nat→Bool} {n:Nat}:(jV P n).length=(range n).countP P:=by unfold jV;rw [c3,List.countP_eq_length_filter]
theorem LK (e: ¬ fU j=0):vx j s=0∧tF j s=fU j:=⟨c1 fun q=>e q.1,c1 e⟩
theorem Kh (e:fU j=0) (n: ¬ (0≤s∧s≤(j.Race.a_.length:Int)-1)):vx j s=0∧tF j s=2:=⟨c1 fun q=>n q.2,by unfold tF;rw [c0 e,c1 n]⟩
theorem Ov (e:fU j=0) (n:0≤s∧s≤(j.Race.a_.length:Int)-1):vx j s= -((jV (jg j.bH fun _ p=>Dq j s p) j.bH.length).length:Int)*j.LS∧tF j s=0:=
 ⟨by unfold vx;rw [c0 ⟨e,n⟩,P9];rfl,by unfold tF;rw [c0 e,c0 n]⟩
end
end
section
open Go.RowKit
set_option maxRecDepth 20000
def Gw (x:Int):ak:=⟨false,true,⟨x,x⟩,⟨0,0,[]⟩⟩
def oD:cN:=⟨lu o9 1000,[3,4],[0,1],0,[[Gw 2600,Gw 2509]]⟩
def Hl:dy:=⟨oD,[],[],0,5⟩
theorem MF {l:bf} (h:ir ⟨x,x⟩):jl l (Gw x):=by rw [tS ⟨rfl,rfl⟩];exact ⟨h,rfl,rfl,rfl⟩
theorem Vy:fq oD:=by
 refine ⟨dc,dc,dc,fun i x hx=>?_,dc,fun h hh=>?_⟩
 ·match i with
  |0=>simp [oD] at hx;subst hx;exact ⟨dc,fun y h=>absurd h dc⟩
  |1=>simp [oD] at hx;subst hx;exact ⟨dc,fun y _ h=>by simp [oD] at h;omega⟩
  |n+2=>simp [oD] at hx
 ·rw [bU.1 (show h∈[[Gw 2600,Gw 2509]] from hh)];refine ⟨U,fun d hd=>?_⟩;simp only [bI,h_,AAr] at hd;rcases hd with rfl|rfl
  ·exact MF dc
  ·exact MF dc
theorem Xr:dU (lu o9 1000)=0:=Aa dc
theorem OE:eK oD=0:=zG (Aa dc) Vy
theorem Ya {l:bf}:gf l (Gw x)=⟨x,x⟩:=Du ⟨rfl,rfl⟩
theorem XL:bJ oD=[(0,⟨260,260⟩),(1,⟨250,250⟩)]:=by
 have A:gL oD.ar oD.ax 0 1=some ⟨260,260⟩:=by
  have h:gL oD.ar oD.ax 0 1=some ⟨0+(gf oD.ar (Gw 2600)).Lo/10,0+(gf oD.ar (Gw 2600)).Hi/10⟩:=rfl;rw [h,Ya];rfl
 have B:gL oD.ar oD.ax 1 1=some ⟨250,250⟩:=by
  have h:gL oD.ar oD.ax 1 1=some ⟨0+(gf oD.ar (Gw 2509)).Lo/10,0+(gf oD.ar (Gw 2509)).Hi/10⟩:=rfl;rw [h,Ya];rfl
 show (range 2).filterMap (fun q=>(gL oD.ar oD.ax q 1).map fun s=>((q:Int),s))=_
 simp only [AAV,List.range_zero,AAp,AAX,AB3,List.filterMap_nil,A,B,AAA];rfl
theorem DM:lW oD=[[1],[0]]:=by
 refine (Ft OE ?_ ?_).symm
 ·rw [XL];refine ⟨dc,dc,?_,fun g hg t A B=>?_⟩
  ·simp [P5,cd,lookup]
  ·simp only [bI,h_,AAr] at hg;rcases hg with rfl|rfl<;>(simp [cd,lookup] at A B ⊢;omega)
 ·intro g hg;simp only [bI,h_,AAr] at hg;rcases hg with rfl|rfl<;>decide
theorem F_:fU Hl=0:=AD OE ⟨dc,fun f hf=>(by cases hf),dc,dc,dc,fun i p hp=>(by simp [Hl] at hp)⟩
theorem Cb:vx Hl 1=0∧tF Hl 1=0:=by
 have h:(0:Int)≤1∧(1:Int)≤(Hl.Race.a_.length:Int)-1:=by decide
 refine ⟨?_,?_⟩
 ·unfold vx;rw [c0 ⟨F_,h⟩];rfl
 ·unfold tF;rw [c0 F_,c0 h]
theorem Qg {p s t:RA}:sU oD.ax [(p,[s,t])]:=⟨rfl,fun k h a hk ha=>by
 match k with
 |0=>simp [oD] at hk ha;subst hk;subst ha;rfl
 |n+1=>simp at ha⟩
theorem OF (h:dX (lu o9 1000) bz) (hh:sU oD.ax hz):gI oD bz hz:=⟨h,dc,dc,dc,hh.1,fun k x a hx ha=>by
 have hs:=hh.2 k x a hx ha;rw [bU.1 (show x∈[[Gw 2600,Gw 2509]] from aF hx)] at hs ⊢;exact ⟨dc,hs,dc⟩⟩
theorem Q0 (h:dX (lu o9 1000) bz) (hh:sU oD.ax hz):jy Hl bz hz:=⟨OF h hh,dc,dc,dc⟩
end
section
def pO (H:List (List ak)) (h i:Int) (d:ak):List (List ak):=match H[h.toNat]? with
 |some ht=>H.set h.toNat (ht.set i.toNat d)
 |none=>H
def wH (r:cN) (h i:Int) (d:ak):cN:=⟨r.ar,r.a_,r.db,r.jz,pO r.ax h i d⟩
section
variable {H:List (List ak)} {h i x y:Int} {d e:ak} {ht:List ak} {r:cN}
theorem uE (hh:H[h.toNat]? =some ht):pO H h i d=H.set h.toNat (ht.set i.toNat d):=by unfold pO;rw [hh]
theorem z9:(pO H h i d).length=H.length:=by unfold pO;split;rw [AAG];rfl
end
end
section
open Go.RowKit
noncomputable def oz (j:dy) (h i:Int) (d:ak):Int:=
 if fU j=0 then (if (0≤h∧h≤(j.Race.ax.length:Int)-1)∧mN j.Race i then (if i∈(gd j)[h.toNat]?.getD [] then (if eK (wH j.Race h i d)=0 then 0 else 60) else 8) else 2) else fU j
section
variable {j:dy} {h i:Int} {d e:ak} {row:List Int} {r:cN} {H:List (List ak)} {k:Nat} {y:List ak} {hz:List cq} {hza:cq} {ht:List ak} {x:RA}
theorem Py (q: ¬ fU j=0):oz j h i d=fU j:=c1 q
theorem Gd (q:fU j=0) (n: ¬ ((0≤h∧h≤(j.Race.ax.length:Int)-1)∧0≤i∧i≤(j.Race.a_.length:Int)-1)):oz j h i d=2:=by unfold oz;rw [c0 q,c1 (by exact n)]
theorem zU (q:fU j=0) (n:(0≤h∧h≤(j.Race.ax.length:Int)-1)∧0≤i∧i≤(j.Race.a_.length:Int)-1) (hr:(gd j)[h.toNat]? =some row):oz j h i d=if i∈row then (if eK (wH j.Race h i d)=0 then 0 else 60) else 8:=by
 unfold oz;rw [c0 q,c0 (by exact n),hr];rfl
theorem Jb (q:fU j=0) (n:(0≤h∧h≤(j.Race.ax.length:Int)-1)∧0≤i∧i≤(j.Race.a_.length:Int)-1) (hr:(gd j)[h.toNat]? =some row) (hn: ¬ i∈row):oz j h i d=8:=by rw [zU q n hr,c1 hn]
theorem CP (q:fU j=0) (n:(0≤h∧h≤(j.Race.ax.length:Int)-1)∧0≤i∧i≤(j.Race.a_.length:Int)-1) (hr:(gd j)[h.toNat]? =some row) (hm:i∈row) (he: ¬ eK (wH j.Race h i d)=0):oz j h i d=60:=by rw [zU q n hr,c0 hm,c1 he]
theorem JE (q:fU j=0) (n:(0≤h∧h≤(j.Race.ax.length:Int)-1)∧0≤i∧i≤(j.Race.a_.length:Int)-1) (hr:(gd j)[h.toNat]? =some row) (hm:i∈row) (he:eK (wH j.Race h i d)=0):oz j h i d=0:=by rw [zU q n hr,c0 hm,c0 he]
theorem NU (hy:(pO H h i d)[k]? =some y): ∃ x,H[k]? =some x∧y.length=x.length∧ ∀ e∈y,e∈x∨e=d:=by
 cases hh:H[h.toNat]? with
 |none=>unfold pO at hy;rw [hh] at hy;exact ⟨y,hy,rfl,fun e he=> .inl he⟩
 |some ht=>
  rw [uE hh,AAO] at hy;split at hy
  ·rename_i e;rw [c0 (aT.1 hh).1] at hy;cases hy;exact ⟨ht,by rw [← e];exact hh,by rw [AAG],fun e he=>ABB he⟩
  ·exact ⟨y,hy,U,fun e he=> .inl he⟩
theorem UU (hh:sU H hz) (h1:H[h.toNat]? =some ht) (h2:hz[h.toNat]? =some hza):sU (pO H h i d) (hz.set h.toNat (hza.1,hza.2.set i.toNat x)):=by
 refine ⟨by rw [AAG,z9];exact hh.1,fun k y a hy ha=>?_⟩;rw [uE h1] at hy;rw [AAO] at hy ha;by_cases e:h.toNat=k
 ·rw [c0 e,c0 (aT.1 h1).1] at hy;rw [c0 e,c0 (aT.1 h2).1] at ha;cases hy;cases ha;simp only [AAG];exact hh.2 _ _ _ h1 h2
 ·rw [c1 e] at hy ha;exact hh.2 k y a hy ha
theorem gI.put (hin:gI r az ha) (hb:bz.length=r.ar.aC.length) (hc:pX r.ar.aC bz) (hh:sU (pO r.ax h i d) hz) (hd:d.bp.ab.length≤1000000):gI (wH r h i d) bz hz:=⟨hin.line.Zw hb hc,hin.g9,hin.draw,by
 show (pO r.ax h i d).length≤1000000
 rw [z9];exact hin.g_,hh.1,fun k y a hy ha'=>by
 obtain ⟨x,hx,hl,hm⟩:=NU hy;obtain ⟨b,hb⟩: ∃ b,ha[k]? =some b:=⟨ha[k]'(by rw [hin.has];exact (aT.1 hx).1),fh _⟩;have A:=hin.fE k x b hx hb;refine ⟨by rw [hl];exact A.len,hh.2 k y a hy ha',fun e he=>?_⟩;rcases hm e he with q|rfl
 ·exact A.sig e q
 ·exact hd⟩
theorem KQ (q:fU j=0) (h0:0≤h∧h≤(j.Race.ax.length:Int)-1): ∃ row,(gd j)[h.toNat]? =some row:=by
 have hl:h.toNat<(gd j).length:=by unfold gd iK;rw [c3];omega
 exact ⟨_,fh hl⟩
end
section
variable {E:fJ} {Q:du} {D:List Deferred} {L:List (Nat×Value)} {C C1:List au} {c:Code}
variable {h:List ak} {bs:List RA} {i:Nat} {d d':ak} {b b':RA}
theorem S9 {C:List au} (hd:h[i]? =some d) (hb:bs[i]? =some b) (hs:St S w0 (own b'.1 b'.2 B8 2 (d'.bp.ab.map aR.cells)::bD (bB lO h bs)::C) w):St S w0 (bD (bB lO (h.set i d') (bs.set i b'))::C) w:=by
 have hs:=hs.perm (List.Perm.swap _ _ _);have A:=(kM (kN hd hb) hs).iJ;have B:St S w0 (fF lO h bs i++(own b'.1 b'.2 B8 2 (d'.bp.ab.map aR.cells)::C)) w:=St.take (by simpa using A) (List.sublist_append_right (lO d b) _);have D:St S w0 ((own b'.1 b'.2 B8 2 (d'.bp.ab.map aR.cells)::fF lO h bs i)++C) w:=B.perm v5;have E:St S w0 ((lO d' b'++fF lO (h.set i d') (bs.set i b') i)++C) w:=by
  rw [rW];exact D
 exact kM (kN (r6 (aT.1 hd).1) (r6 (aT.1 hb).1)).symm E.tied
/-- i: what hangs on the row, j: the new one -/
theorem Wn (p j:Nat) (hd:h[i]? =some d) (hb:bs[i]? =some b) (hn:decide (Bn C p j).Nodup=true) (hC:ni C (Bn C p j)=some (own b'.1 b'.2 B8 2 (d'.bp.ab.map aR.cells)::bD (bB lO h bs)::C1))
 (hk:WJ E c Q D L (bD (bB lO (h.set i d') (bs.set i b'))::C1)):WJ E c Q D L C:=fun a w hf hs=>hk a w hf (S9 hd hb (St.kQ _ hn (jX hC) hs))
theorem SU {a':cq} (i j q:Nat) (hk:k<H.length) (hk2:k<hz.length) (hn:decide (JU C i j q).Nodup=true) (hC:ni C (JU C i j q)=some (own a'.1.1 a'.1.2 B5 7 (zipWith ak.cells h' a'.2)::bD (bB lO h' a'.2)::bD (fF kB H hz k)::C1)) (hr:WJ E c Q D L (bD (bB kB (H.set k h') (hz.set k a'))::C1)):WJ E c Q D L C:=fun act w hf hs=>hr act w hf (Fh hk hk2 (St.kQ _ hn (jX hC) hs))
end
end
section
section
variable {j x:dy} {n s:Int} {h k:Nat} {a b:List Int} {f f':bL} {ht:List ak} {d:ak}
theorem uw (e:fU j=0):(eD j).length=j.Race.ax.length:=by
 rw [lE e];exact Bi
theorem SJ (e:fU j=0) (ha:(eD j)[h]? =some a): ∃ ht,j.Race.ax[h]? =some ht∧a.length≤ht.length:=by
 rw [lE e] at ha;unfold gd at ha;have hl:=(aT.1 ha).1;rw [Bi] at hl;have hh:j.Race.ax[h]? =some (j.Race.ax[h]'hl):=fh _;rw [Db hh] at ha;cases ha;exact ⟨_,hh,rO⟩
end
end
section
section
variable {j:dy} {m n i:Nat} {p:cG} {s:Int}
theorem wU (e:fU j=0): ∀ l∈eD j,l.length≤1000000:=fun l hl=>by
 obtain ⟨h,hh⟩:=s3 hl;obtain ⟨ht,A,B⟩:=SJ e hh;have C:=((dG (fI e).1).2.fE ht (aF A)).1;have D:=(dG (fI e).1).2.num;omega
end
end
section
open Go.RowKit
section
variable {j:dy} {h i:Int} {d e d0:ak} {row:List Int} {r:cN} {H:List (List ak)} {x y:Nat} {ht hu:List ak} {hz:List cq}
theorem Jr (ho:fq r) (n:(0≤h∧h≤(r.ax.length:Int)-1)∧mN r i): ∃ ht,r.ax[h.toNat]? =some ht∧ ∃ d0,ht[i.toNat]? =some d0:=by
 obtain ⟨D,B⟩:=n;unfold mN at B;have A:r.ax[h.toNat]? =some (r.ax[h.toNat]'I):=fh _;have C:=(ho.fE _ (aF A)).1;exact ⟨_,A,_,fh (show i.toNat<_ by omega)⟩
theorem Hj (q:fU j=0) (n:(0≤h∧h≤(j.Race.ax.length:Int)-1)∧mN j.Race i) (hr:(eD j)[h.toNat]? =some row):(i∈row∧eK (wH j.Race h i d)=0∧oz j h i d=0)∨(i∈row∧ ¬ eK (wH j.Race h i d)=0∧oz j h i d=60)∨(¬ i∈row∧oz j h i d=8):=by
 rw [lE q] at hr;by_cases hm:i∈row
 ·by_cases hx:eK (wH j.Race h i d)=0
  ·exact .inl ⟨hm,hx,JE q n hr hm hx⟩
  ·exact .inr (.inl ⟨hm,hx,CP q n hr hm hx⟩)
 ·exact .inr (.inr ⟨hm,Jb q n hr hm⟩)
theorem P_ (q:fU j=0) (n:0≤h∧h≤(j.Race.ax.length:Int)-1): ∃ row,(eD j)[h.toNat]? =some row:=by rw [lE q];exact KQ q n
end
end
section
section
variable {P:Nat→Bool} {n q:Nat} {x:Int}
/-- the pointer that goes beside tells whether it is so -/
theorem xO (hq:q<n) (h: ¬ ((jV P q).length:Int)<((jV P n).length:Int)):false=P q:=by
 cases e:P q with
 |false=>rfl
 |true=>
  have:=(aT.1 (TA e hq)).1;omega
theorem wc (hq:q<n) (hx:(jV P n)[(jV P q).length]? =some x):decide (x=(q:Int))=P q:=by
 cases e:P q with
 |false=>exact bg (Vr e hq hx)
 |true=>rw [TA e hq] at hx;cases hx;exact cR rfl
theorem vc (h:P n=true):((jV P (n+1)).length:Int)=((jV P n).length:Int)+1:=by rw [xx h,e4];rfl
theorem oW (h: ¬ P n=true):((jV P (n+1)).length:Int)=((jV P n).length:Int):=by rw [CA (by simpa using h)]
end
section
variable {j:dy} {n q k:Nat} {x y:Int} {p:cG} {d:ak} {f:bL} {ht:List ak} {row:List Int} {h:Nat}
end
end
section
open Go.RowKit
def hZ (t:aa):ak:=⟨false,true,t,⟨0,0,[]⟩⟩
def jL (H:List (List ak)) (h i:Int) (t:aa):List (List ak):=H.set h.toNat ((H[h.toNat]?.getD []).set i.toNat (hZ t))
def gN (r:cN) (h i:Int) (t:aa):cN:=⟨r.ar,r.a_,r.db,r.jz,jL r.ax h i t⟩
@[simp] theorem WE {r:cN} {h i:Int} {t:aa}:(gN r h i t).ar=r.ar:=rfl
@[simp] theorem VE {r:cN} {h i:Int} {t:aa}:(gN r h i t).a_=r.a_:=rfl
@[simp] theorem WI {r:cN} {h i:Int} {t:aa}:(gN r h i t).db=r.db:=rfl
theorem zH {m:k9} {i:Int} {s:aa}:(e7 m i s).length≤m.length:=by
 unfold e7;refine c6 (u2 _ _) ?_;rw [c3,AA1];exact c9 _
noncomputable def sM (r:cN) (h i:Int) (t:aa):Int:=if ((0≤h∧h≤(r.ax.length:Int)-1)∧mN r i)∧ir t then (if ((r.ax[h.toNat]?).bind (·[i.toNat]?)).any (·.Out)=true then 8 else 0) else 2
noncomputable def fW (r:cN) (h i:Int) (t:aa):Int:=if eK r=0 then sM r h i t else eK r
noncomputable def lD (r:cN) (h i:Int) (t:aa):List Int:=if fW r h i t=0 then (eg ((bJ r).map (·.1))).filter (fun k=> !decide (e7 (bJ r) k (cd (bJ r) k)=e7 (bJ (gN r h i t)) k (cd (bJ (gN r h i t)) k))) else []
section
variable {r:cN} {h i:Int} {t:aa} {ht:List ak} {d:ak}
theorem wy (hh:H[h.toNat]? =some ht):jL H h i t=H.set h.toNat (ht.set i.toNat (hZ t)):=by unfold jL;rw [hh];rfl
theorem js:(jL H h i t).length=H.length:=by unfold jL;rw [AAG]
theorem mY (q: ¬ (((0≤h∧h≤(r.ax.length:Int)-1)∧0≤i∧i≤(r.a_.length:Int)-1)∧ir t)):sM r h i t=2:=c1 q
theorem Jg (q:((0≤h∧h≤(r.ax.length:Int)-1)∧0≤i∧i≤(r.a_.length:Int)-1)∧ir t) (h1:r.ax[h.toNat]? =some ht) (h2:ht[i.toNat]? =some d):sM r h i t=if d.Out=true then 8 else 0:=by
 unfold sM;rw [c0 (show ((0≤h∧h≤(r.ax.length:Int)-1)∧mN r i)∧ir t from q),h1,r7,h2,any_some]
theorem vR (q:((0≤h∧h≤(r.ax.length:Int)-1)∧0≤i∧i≤(r.a_.length:Int)-1)∧ir t) (h1:r.ax[h.toNat]? =some ht) (h2:ht[i.toNat]? =some d) (ho:d.Out=true):sM r h i t=8:=by rw [Jg q h1 h2,c0 ho]
theorem Sj (q:((0≤h∧h≤(r.ax.length:Int)-1)∧0≤i∧i≤(r.a_.length:Int)-1)∧ir t) (h1:r.ax[h.toNat]? =some ht) (h2:ht[i.toNat]? =some d) (ho:d.Out=false):sM r h i t=0:=by rw [Jg q h1 h2,c1 (by rw [ho];decide)]
/-- what it means that there is no error -/
theorem x3 (e:sM r h i t=0):((0≤h∧h≤(r.ax.length:Int)-1)∧mN r i)∧ir t∧((r.ax[h.toNat]?).bind (·[i.toNat]?)).any (·.Out)=false:=by
 unfold sM at e;split at e
 ·rename_i q;split at e
  ·cases e
  ·rename_i A;exact ⟨q.1,q.2,by simpa using A⟩
 ·cases e
theorem ob (e:fW r h i t=0):eK r=0∧sM r h i t=0:=by
 unfold fW at e;split at e
 ·exact ⟨asm,e⟩
 ·exact absurd e asm
theorem vG (e: ¬ eK r=0):fW r h i t=eK r:=c1 e
theorem qZ (e:eK r=0):fW r h i t=sM r h i t:=c0 e
theorem zF {y:List ak} (hy:(jL H h i t)[k]? =some y): ∃ x,H[k]? =some x∧y.length=x.length∧ ∀ d∈y,d∈x∨d=hZ t:=by
 unfold jL at hy;rw [AAO] at hy;split at hy
 ·rename_i e;split at hy
  ·rename_i hl;have A:H[h.toNat]? =some H[h.toNat]:=fh hl;rw [A] at hy;simp only [ABa,k4] at hy;subst hy;refine ⟨H[h.toNat],by rw [← e];exact A,by rw [AAG],fun d hd=>?_⟩;exact ABB hd
  ·cases hy
 ·exact ⟨y,hy,U,fun d hd=> .inl hd⟩
theorem GF (hr:fq r) (ht:ir t):fq (gN r h i t):=⟨hr.num,hr.Bt,by
 have:=hr.nh;show 1≤((jL r.ax h i t).length:Int)∧((jL r.ax h i t).length:Int)≤3
 rw [js];exact this,hr.ids,hr.draw,fun y hy=>by
 obtain ⟨k,hk⟩:=r5.1 hy;obtain ⟨x,hx,hl,hm⟩:=zF hk;have A:=hr.fE x (aF hx);refine ⟨hl.trans A.1,fun d hd=>?_⟩;rcases hm d hd with q|rfl
 ·exact A.2 d q
 ·unfold jl;rw [c1 (by simp [hZ]),c0 (by rfl)];exact ⟨ht,by simp [oi,hZ]⟩⟩
theorem yd (e:fW r h i t=0):eK (gN r h i t)=0:=by
 obtain ⟨A,B⟩:=ob e;obtain ⟨C,D⟩:=dG A;unfold eK;rw [c0 (show dU (gN r h i t).ar=0 from C),c0 (GF D (x3 B).2.1)]
theorem gI.rep (hin:gI r az ha) (hb:bz.length=r.ar.aC.length) (hc:pX r.ar.aC bz) (hh:sU (jL r.ax h i t) hz):gI (gN r h i t) bz hz:=⟨hin.line.Zw hb hc,hin.g9,hin.draw,by
 show (jL r.ax h i t).length≤1000000
 rw [js];exact hin.g_,hh.1,fun k y a hy ha'=>by
 obtain ⟨x,hx,hl,hm⟩:=zF hy;obtain ⟨b,hb⟩: ∃ b,ha[k]? =some b:=⟨ha[k]'(by rw [hin.has];exact (aT.1 hx).1),fh _⟩;have A:=hin.fE k x b hx hb;refine ⟨by rw [hl];exact A.len,hh.2 k y a hy ha',fun d hd=>?_⟩;rcases hm d hd with q|rfl
 ·exact A.sig d q
 ·simp [hZ]⟩
theorem FN {q:Nat}:((jL H h i t)[k]?).bind (·[q]?)=(H[k]?).bind (·[q]?)∨(k=h.toNat∧q=i.toNat∧(∃ d,(H[k]?).bind (·[q]?)=some d)∧((jL H h i t)[k]?).bind (·[q]?)=some (hZ t)):=by
 by_cases e:h.toNat=k
 ·cases hk:H[k]? with
  |none=>
   left;have:(jL H h i t)[k]? =none:=by rw [ABV,js];exact ABV.1 hk
   rw [this]
  |some x=>
   have B:(jL H h i t)[k]? =some (x.set i.toNat (hZ t)):=by
    subst e;rw [wy hk];exact r6 (aT.1 hk).1
   rw [B,r7,r7];by_cases A:i.toNat=q
   ·cases hq:x[q]? with
    |none=>
     left;rw [ABV,AAG];exact ABV.1 hq
    |some d=>
     right;subst A;exact ⟨e.symm,U,⟨d,U⟩,r6 (aT.1 hq).1⟩
   ·left;rw [ABy A]
 ·left;unfold jL;rw [ABy e]
theorem CU {l:bf} {H:List (List ak)} {q:Nat} (ho:((H[h.toNat]?).bind (·[i.toNat]?)).any (·.Out)=false): ∀ n,(gL l (jL H h i t) q n).isSome=(gL l H q n).isSome
 |0=>rfl
 |n+1=>by
  have ih:=CU (l:=l) (q:=q) ho n;unfold gL;rcases FN (H:=H) (h:=h) (i:=i) (t:=t) (k:=n) (q:=q) with e|⟨rfl,rfl,⟨d,hd⟩,e⟩
  ·rw [e];cases e1:gL l (jL H h i t) q n<;>cases e2:gL l H q n<;>simp_all;cases (H[n]?).bind (·[q]?) with
   |none=>rfl
   |some d=>by_cases c:d.Out=true<;>simp [c]
  ·rw [e,hd];have A:d.Out=false:=by rw [hd] at ho;simpa using ho
   cases e1:gL l (jL H h i t) i.toNat h.toNat<;>cases e2:gL l H i.toNat h.toNat<;>simp_all [hZ]
theorem wJ {l:bf} {H:List (List ak)} {q:Nat} (hq:q≠i.toNat): ∀ n,gL l (jL H h i t) q n=gL l H q n
 |0=>rfl
 |n+1=>by
  have ih:=wJ (l:=l) (H:=H) hq n;unfold gL;rcases FN (H:=H) (h:=h) (i:=i) (t:=t) (k:=n) (q:=q) with e|⟨_,e,_⟩
  ·rw [e,ih]
  ·exact absurd e hq
theorem IL {r:cN}:(pP r k).lookup x=if 0≤x∧x<(r.a_.length:Int) then gL r.ar r.ax x.toNat k else none:=by
 by_cases c:0≤x∧x<(r.a_.length:Int)
 ·rw [c0 c];have:=uc (f:=fun q=>gL r.ar r.ax q k) r.a_.length x.toNat;rw [c0 I,show (x.toNat:Int)=x by omega] at this;exact this
 ·rw [c1 c];cases e:(pP r k).lookup x with
  |none=>rfl
  |some v=>
   exfalso;obtain ⟨q,hq,A,_⟩:=yg ((rR px).2 e);simp only at A;omega
theorem D7 (e:sM r h i t=0) (k:Int):((bJ (gN r h i t)).lookup k).isSome=((bJ r).lookup k).isSome:=by
 obtain ⟨_,_,ho⟩:=x3 e;unfold bJ;rw [IL,IL];show (if 0≤k∧k<(r.a_.length:Int) then gL r.ar (jL r.ax h i t) k.toNat (jL r.ax h i t).length else none).isSome=_
 rw [js];split
 ·exact CU ho _
 ·rfl
theorem FR {m:k9} {k:Int} (h:k∈eg (m.map (·.1))):m.lookup k≠none:=by
 obtain ⟨p,hp,rfl⟩:=cu.1 (f_.mem_iff.1 h);intro e;exact absurd (List.lookup_eq_none_iff.1 e p hp) sm
theorem Wg {hza:cq} (hh:sU r.ax hz) (h1:r.ax[h.toNat]? =some ht) (h2:hz[h.toNat]? =some hza):sU (jL r.ax h i t) (hz.set h.toNat (hza.1,hza.2.set i.toNat (none,0))):=by
 refine ⟨by rw [AAG,js];exact hh.1,fun k y a hy ha=>?_⟩;rw [wy h1] at hy;rw [AAO] at hy ha;by_cases e:h.toNat=k
 ·rw [c0 e,c0 (aT.1 h1).1] at hy;rw [c0 e,c0 (aT.1 h2).1] at ha;cases hy;cases ha;simp only [AAG];exact hh.2 _ _ _ h1 h2
 ·rw [c1 e] at hy ha;exact hh.2 k y a hy ha
theorem zQ (e: ¬ fW r h i t=0):lD r h i t=[]:=c1 e
theorem Bb (e:fW r h i t=0):lD r h i t=(eg ((bJ r).map (·.1))).filter (fun k=> !decide (e7 (bJ r) k (cd (bJ r) k)=e7 (bJ (gN r h i t)) k (cd (bJ (gN r h i t)) k))):=c0 e
end
section
variable {E:fJ} {Q:du} {D:List Deferred} {L:List (Nat×Value)} {C C1:List au} {c:Code}
variable {H:List (List ak)} {hz:List cq} {h h':List ak} {a a':cq} {k:Nat} {bs:List RA} {i:Nat} {d d':ak} {b:RA}
theorem VA (j:Nat) (hd:h[i]? =some d) (hb:bs[i]? =some b) (hs':d'.bp.ab=[]) (hn:decide (Kx C j).Nodup=true) (hC:ni C (Kx C j)=some (bD (bB lO h bs)::C1))
 (hk:WJ E c Q D L (bD (bB lO (h.set i d') (bs.set i (none,0)))::C1)):WJ E c Q D L C:=fun act w hf hs=>hk act w hf (Sk hd hb hs' (St.kQ _ hn (jX hC) hs))
theorem Sx (i j q:Nat) (hk:k<H.length) (hk2:k<hz.length) (hn:decide (JU C i j q).Nodup=true) (hC:ni C (JU C i j q)=some (own a'.1.1 a'.1.2 B5 7 (zipWith ak.cells h' a'.2)::bD (bB lO h' a'.2)::bD (fF kB H hz k)::C1))
 (hr:WJ E c Q D L (bD (bB kB (H.set k h') (hz.set k a'))::C1)):WJ E c Q D L C:=fun act w hf hs=>hr act w hf (Fh hk hk2 (St.kQ _ hn (jX hC) hs))
end
end
section
section
variable {r:cN} {h i k:Int} {t s u:aa} {d:ak} {q n:Nat}
theorem L8 (e:fW r h i t=0) (hk:k≠i):(bJ (gN r h i t)).lookup k=(bJ r).lookup k:=by
 obtain ⟨he,A⟩:=ob e;have hb:=(x3 A).1.2;unfold mN at hb;unfold bJ;rw [IL,IL,show (gN r h i t).ax.length=r.ax.length from js];show (if 0≤k∧k<(r.a_.length:Int) then gL r.ar (jL r.ax h i t) k.toNat r.ax.length else none)=_
 split
 ·exact wJ I _
 ·rfl
end
end
section
open Go.RowKit
def sG (b:Bool):List Value:=[.bool b]
@[simp] theorem Dh (b:Bool):(sG b).length=1:=rfl
theorem Lh (l:List Bool): ∀ v∈(l.map sG).flatten,v.oneCell'=true:=oj (fun s=>rfl) l
end
section
def nA (r:cN) (i:Nat):Prop:= ∀ (j:Nat) x,j<i→r.ax[j]? =some x→ ¬ qO x
def oV (x:List ak) (i:Nat):Prop:= ∀ (j:Nat) d,j<i→x[j]? =some d→ ¬ 15<(d.bp.ab.length:Int)
section
variable {r:cN} {i:Nat} {x:List ak} {d:ak}
theorem F7:nA r 0:=fun j x hj=>absurd hj (s4 _)
theorem F4 (h:nA r i) (hx:r.ax[i]? =some x) (ho: ¬ qO x):nA r (i+1):=fun j y hj hy=>by
 rcases r4 j i with q|q
 ·exact h j y q hy
 ·obtain rfl:j=i:=by omega
  rw [hx] at hy;cases hy;exact ho
theorem FC:oV x 0:=fun j x hj=>absurd hj (s4 _)
theorem FO (h:oV x i) (hx:x[i]? =some d) (ho: ¬ 15<(d.bp.ab.length:Int)):oV x (i+1):=fun j y hj hy=>by
 rcases r4 j i with q|q
 ·exact h j y q hy
 ·obtain rfl:j=i:=by omega
  rw [hx] at hy;cases hy;exact ho
theorem G9 (hl: ¬ 8<(x.length:Int)) (h:oV x i) (hi:x.length≤i): ¬ qO x:=by
 rintro (q|⟨d,hd,q⟩)
 ·exact hl q
 ·obtain ⟨j,hj⟩:=s3 hd;exact h j d (by have:=(aT.1 hj).1;omega) hj q
theorem Kq (h1: ¬ nO r.ar) (h2: ¬ 8<(r.a_.length:Int)∧ ¬ 8<(r.db.length:Int)∧ ¬ 5<(r.ax.length:Int)) (h:nA r i) (hi:r.ax.length≤i): ¬ lY r:=by
 rintro ((q|q)|⟨x,hx,q⟩)
 ·exact h1 q
 ·omega
 ·obtain ⟨j,hj⟩:=s3 hx;exact h j x (by have:=(aT.1 hj).1;omega) hj q
theorem sr (h:nO r.ar∨8<(r.a_.length:Int)∨8<(r.db.length:Int)∨5<(r.ax.length:Int)):lY r:= .inl h
theorem FP (hx:r.ax[i]? =some x) (h:8<(x.length:Int)):lY r:= .inr ⟨x,aF hx,.inl h⟩
theorem Hf {j:Nat} (hx:r.ax[i]? =some x) (hd:x[j]? =some d) (h:15<(d.bp.ab.length:Int)):lY r:= .inr ⟨x,aF hx,.inr ⟨d,aF hd,h⟩⟩
end
noncomputable def qM (l:bf) (d:ak):aa:=if d.Out=true then gP else gf l d
theorem N5 {l:bf} (h:jl l d):qM l d=gf l d:=by
 unfold qM;split
 ·rename_i q;rw [IM q];rw [s_ q] at h;exact h.2.1.symm
 ·rfl
theorem CY {l:bf} (h:d.Out=true):qM l d=gP:=c0 h
theorem Jx {l:bf} (h:d.Out=false∧d.cZ=true):qM l d=d.Time:=by unfold qM;rw [c1 (by rw [h.1];decide),Du h]
theorem I1 {l:bf} (h:d.Out=false∧d.cZ=false):qM l d=F0 l d.bp:=by unfold qM;rw [c1 (by rw [h.1];decide),Jc h]
def Xc (r:cN) (j:Nat):Prop:= ∀ x,r.a_[j]? =some x→(0≤x∧x≤9999)∧ ∀ y,0<j→r.a_[j-1]? =some y→y<x
def NX (r:cN) (j:Nat):Prop:= ∀ x,r.db[j]? =some x→(0≤x∧x≤(r.a_.length:Int)-1)∧ ∀ (k:Nat) y,k<j→r.db[k]? =some y→y≠x
def zO (r:cN) (i:Nat):Prop:= ∀ j,j<i→Xc r j∧NX r j
section
variable {r:cN} {i k:Nat} {x:Int}
theorem PU:zO r 0:=fun j hj=>absurd hj (s4 _)
theorem E9 (h:zO r i) (h1:Xc r i) (h2:NX r i):zO r (i+1):=fun j hj=>by
 rcases r4 j i with q|q
 ·exact h j q
 ·obtain rfl:j=i:=by omega
  exact ⟨h1,h2⟩
theorem zM {v:Int} (h:∀ (q:Nat) y,q<k→l[q]? =some y→y≠v) (hx:l[k]? =some u) (hne:¬ u=v): ∀ (q:Nat) y,q<k+1→l[q]? =some y→y≠v:=fun q y hq hy=>by
 rcases r4 q k with c|c
 ·exact h q y c hy
 ·obtain rfl:q=k:=by omega
  rw [hx] at hy;cases hy;exact hne
theorem Oc (hl:r.db.length=r.a_.length) (h:zO r r.a_.length):r.db.Perm (Kn r.a_.length):=by
 have nd:r.db.Nodup:=by
  rw [s5,eW];intro a b ha hb A;exact ((h b I).2 _ (fh hb)).2 a _ A (fh ha)
 have hm: ∀ x∈r.db,x∈Kn r.a_.length:=fun x hx=>by
  obtain ⟨j,hj⟩:=s3 hx;have:=((h j (by have:=(aT.1 hj).1;omega)).2 x hj).1;exact cu.2 ⟨x.toNat,AAd.2 I,I⟩
 have ndu:(Kn r.a_.length).Nodup:=by
  unfold Kn;rw [s5,AAK];exact AAt.imp fun h=>by omega
 have e:eg r.db=(Kn r.a_.length).filter fun x=>decide (x∈r.db):=by
  refine q9 lI ((An _).filter _) (f_.nodup_iff.2 nd) (ndu.filter _) fun x=>?_;rw [f_.mem_iff,n3,r0];exact ⟨fun q=>⟨hm x q,q⟩,fun q=>q.2⟩
 have B:=c7 length e;rw [iz,hl] at B;have C:(Kn r.a_.length).filter (fun x=>decide (x∈r.db))=Kn r.a_.length:=AA3.eq_of_length (by rw [← B];simp);rw [C] at e;rw [← e];exact f_.symm
theorem Ll {n:Nat} (h1:1≤(r.a_.length:Int)∧(r.a_.length:Int)≤5) (h2:r.db.length=r.a_.length) (h3:0≤r.jz∧r.jz≤5) (h4:1≤(r.ax.length:Int)∧(r.ax.length:Int)≤3)
 (hn:n=r.a_.length) (h6:zO r n) (h7:lJ r i) (hi:r.ax.length≤i):fq r:=by
 subst hn;refine ⟨h1,h3,h4,fun k x hx=>(h6 k (aT.1 hx).1).1 x hx,Oc h2 h6,fun h hh=>?_⟩;obtain ⟨j,hj⟩:=s3 hh;exact h7 j h (by have:=(aT.1 hj).1;omega) hj
theorem fq.MK (h:fq r) (hx:r.db[i]? =some x):0≤x∧x≤(r.a_.length:Int)-1:=by
 obtain ⟨k,hk,rfl⟩:=cu.1 (h.draw.mem_iff.1 (aF hx));have:=AAd.1 hk;omega
theorem fq.Wh (h:fq r):r.db.Nodup:=by
 refine h.draw.nodup_iff.2 ?_;rw [s5,AAK];exact AAt.imp fun h=>by omega
theorem fq.VD (h:fq r) {v:Int} (hki:k<i) (hu:r.db[k]? =some u) (hv:r.db[i]? =some v): ¬ u=v:=by
 have A:=h.Wh;rw [s5,eW] at A;obtain ⟨a,ea⟩:=aT.1 hu;obtain ⟨b,eb⟩:=aT.1 hv;subst ea eb;exact A k i a b hki
end
section
variable {r:cN} {i k n:Nat} {s:aa} {l:bf} {hs:List (List ak)}
end
section
variable {r:cN} {i x:Int} {own s:aa} {k:Nat} {ys zs:List Int}
end
section
variable {B:List Bool} {P Q:Int→Prop} {k x:Nat} {m:k9} {i y a b:Int} {ys:List Int}
end
theorem rF {i:Int}:(kx r i).length≤r.a_.length:=by
 unfold kx;split
 ·unfold e7;refine c6 (u2 _ _) ?_;rw [c3,AA1];exact CD
 ·simp
end
section
open Go.RowKit
noncomputable def ov (r:cN) (h i:Int) (t:aa) (q:Nat):Bool:=((bJ r).lookup (q:Int)).isSome&& !decide (e7 (bJ r) (q:Int) (cd (bJ r) (q:Int))=e7 (bJ (gN r h i t)) (q:Int) (cd (bJ (gN r h i t)) (q:Int)))
noncomputable def Q7 (r:cN) (h i:Int) (t:aa) (k:Nat):List Int:=((range k).filter (ov r h i t)).map fun (q:Nat)=>(q:Int)
section
variable {r:cN} {h i:Int} {t:aa} {k:Nat}
theorem Nv:(Q7 r h i t k).length≤k:=by unfold Q7;rw [c3];exact c6 (u2 _ _) (by rw [AA1];exact c9 _)
theorem GL:eg ((bJ r).map (·.1))=((range r.a_.length).filter fun (q:Nat)=>((bJ r).lookup (q:Int)).isSome).map fun (q:Nat)=>(q:Int):=by
 refine q9 lI ?_ (f_.nodup_iff.2 px) ?_ fun x=>?_
 ·rw [AAK];exact ((AAt (n:=r.a_.length)).filter _).imp fun h=>by omega
 ·refine List.Pairwise.map _ ?_ (ACP _ (ACf (n:=r.a_.length)));intro a b h e;exact h I
 ·rw [f_.mem_iff];constructor
  ·intro hx;obtain ⟨v,hv,rfl⟩:=cu.1 hx;obtain ⟨q,hq,e,_⟩:=yg hv;refine cu.2 ⟨q,n3.2 ⟨AAd.2 hq,?_⟩,e.symm⟩;show ((bJ r).lookup (q:Int)).isSome=true
   rw [← e];exact ABZ.2 ⟨v.2,(rR px).1 hv⟩
  ·intro hx;obtain ⟨q,hq,rfl⟩:=cu.1 hx;obtain ⟨v,hv⟩:=ABZ.1 (n3.1 hq).2;exact cu.2 ⟨_,(rR px).2 hv,U⟩
theorem Pp (e:fW r h i t=0):Q7 r h i t r.a_.length=lD r h i t:=by
 rw [Bb e,GL];unfold Q7;rw [List.filter_map,ABn];congr 1;refine ABT fun q _=>?_;unfold ov;simp only [Function.comp];exact Bool.and_comm _ _
end
theorem LR {h i:Int} {t:aa} (hg:¬ lY r): ¬ lY (gN r h i t):=by
 have A:=zd hg;rintro ((q|q|q|q)|⟨x,hx,q⟩)
 ·exact A.1 q
 ·have:=A.2.1;have e:(gN r h i t).a_=r.a_:=rfl;rw [e] at q;omega
 ·have:=A.2.2.1;have e:(gN r h i t).db=r.db:=rfl;rw [e] at q;omega
 ·have:=A.2.2.2.1;have e:(gN r h i t).ax.length=r.ax.length:=js;rw [e] at q;omega
 ·obtain ⟨k,hk⟩:=r5.1 hx;obtain ⟨y,hy,hl,hm⟩:=zF hk;have B:=A.2.2.2.2 y (aF hy);rcases q with q|⟨d,hd,q⟩
  ·rw [hl] at q;omega
  ·rcases hm d hd with c|rfl
   ·have:=B.2 d c;omega
   ·simp [hZ] at q
end
section
section
variable {r:cN} {h i k:Int} {t s s':aa} {q n:Nat}
theorem Fa (he:eK r=0) (hir:(0≤h∧h≤(r.ax.length:Int)-1)∧mN r i) (hf:ir t): ∃ ht,r.ax[h.toNat]? =some ht∧ ∃ d,ht[i.toNat]? =some d∧(d.Out=true→fW r h i t=8)∧(d.Out=false→fW r h i t=0):=by
 have B:=(dG he).2;have hi:=hir.2;unfold mN at hi;obtain ⟨ht,A⟩: ∃ y,r.ax[h.toNat]? =some y:=⟨r.ax[h.toNat]'I,fh _⟩;have hl:=(B.fE ht (aF A)).1;obtain ⟨d,hd⟩: ∃ y,ht[i.toNat]? =some y:=⟨ht[i.toNat]'I,fh _⟩;refine ⟨ht,A,d,hd,fun q=>?_,fun q=>?_⟩
 ·unfold fW;rw [c0 he];unfold sM;rw [c0 ⟨hir,hf⟩,A];simp [hd,q]
 ·unfold fW;rw [c0 he];unfold sM;rw [c0 ⟨hir,hf⟩,A];simp [hd,q]
end
end
section
open Go.RowKit
section
variable {j:dy} {r:cN} {h i k:Int} {t:aa} {row:List Int} {ht:List ak} {q:Nat} {x:Int}
theorem JI (hh:r.ax[h.toNat]? =some ht):wH r h i (hZ t)=gN r h i t:=by unfold wH gN;rw [uE hh,wy hh]
theorem Cf {n:Nat} (e:fU j=0) (hh:j.Race.ax[n]? =some ht) (hr:(eD j)[n]? =some row) (hm:i∈row): ∃ d,ht[i.toNat]? =some d∧d.Out=false:=by
 rw [lE e] at hr;have B:=m3 (hr.symm.trans (Db hh));subst B;unfold KG jV at hm;obtain ⟨s,hs,rfl⟩:=cu.1 hm;have hb:=(n3.1 hs).2;cases hd:ht[s]? with
 |none=>rw [hd] at hb;cases hb
 |some d=>
  rw [hd] at hb;obtain ⟨f,_,_,A⟩:= @s6 _ (Classical.propDecidable _) hb;refine ⟨d,hd,?_⟩;unfold ks at A;split at A
  ·rename_i q;exact q.1
  ·exact absurd U A
theorem RZ (hh:r.ax[h.toNat]? =some ht) (hi:i.toNat<ht.length) (hn: ¬ ir t): ¬ eK (wH r h i (hZ t))=0:=fun e=>by
 have ho:=(dG e).2;have hm:ht.set i.toNat (hZ t)∈(wH r h i (hZ t)).ax:=by
  show _∈pO r.ax h i (hZ t)
  rw [uE hh];exact aF (r6 (aT.1 hh).1)
 have A:=(ho.fE _ hm).2 (hZ t) (aF (r6 hi));rw [tS ⟨rfl,rfl⟩] at A;exact hn A.1
theorem G1 (e:fU j=0) (n:(0≤h∧h≤(j.Race.ax.length:Int)-1)∧mN j.Race i) (hr:(eD j)[h.toNat]? =some row):
 (i∈row∧ir t∧oz j h i (hZ t)=0∧fW j.Race h i t=0)∨(i∈row∧ ¬ ir t∧oz j h i (hZ t)=60∧fW j.Race h i t=2)∨(¬ i∈row∧oz j h i (hZ t)=8):=by
 have he:=(fI e).1;obtain ⟨ht,hh,G,hd⟩:=Jr (dG he).2 n;have hi:=(aT.1 hd).1;rcases Hj (d:=hZ t) e n hr with ⟨hm,hx,hp⟩|⟨hm,hx,hp⟩|⟨hm,hp⟩
 ·by_cases ht':ir t
  ·obtain ⟨d,C,ho⟩:=Cf e hh hr hm;obtain ⟨E,B,F,A,_,D⟩:=Fa he n ht';rw [hh] at B;cases B;rw [C] at A;cases A;exact .inl ⟨hm,ht',hp,D ho⟩
  ·exact absurd hx (RZ hh hi ht')
 ·by_cases ht':ir t
  ·obtain ⟨d,C,ho⟩:=Cf e hh hr hm;obtain ⟨E,B,F,A,_,D⟩:=Fa he n ht';rw [hh] at B;cases B;rw [C] at A;cases A;rw [JI hh] at hx;exact absurd (yd (D ho)) hx
  ·refine .inr (.inl ⟨hm,ht',hp,?_⟩);unfold fW;rw [c0 he];exact mY fun q=>ht' q.2
 ·exact .inr (.inr ⟨hm,hp⟩)
theorem nG {l:List α} {p:α→Bool} {v:Nat} {y:α} (h:l[v]? =some y):(l.take (v+1)).any p=((l.take v).any p||p y):=by
 rw [l1,h];simp
theorem wM (e:fW r h i t=0):oE (gN r h i t) k=oE r k:=by
 have he:=(ob e).1;have A:=yd e;unfold oE;rw [c0 he,c0 A];have hk:(bJ (gN r h i t)).lookup k=none↔(bJ r).lookup k=none:=by
  have:=D7 (ob e).2 k;cases a:(bJ (gN r h i t)).lookup k<;>cases b:(bJ r).lookup k<;>simp [a,b] at this ⊢
 by_cases hi:mN r k
 ·rw [c0 hi,c0 (show mN (gN r h i t) k from hi)];by_cases c:(bJ r).lookup k=none
  ·rw [c0 c,c0 (hk.2 c)]
  ·rw [c1 c,c1 (fun q=>c (hk.1 q))]
 ·rw [c1 hi,c1 (show ¬ mN (gN r h i t) k from hi)]
theorem JF (e:fW r h i t=0) (hq:q<r.a_.length):ov r h i t q= !decide (kx r (q:Int)=kx (gN r h i t) (q:Int)):=by
 have he:=(ob e).1;have hi:mN r (q:Int):=by unfold mN;omega
 unfold kx;rw [wM e];unfold ov;cases hl:(bJ r).lookup (q:Int) with
 |none=>
  have: ¬ oE r (q:Int)=0:=by unfold oE;rw [c0 he,c0 hi,c0 hl];decide
  rw [c1 this,c1 this];simp
 |some s=>
  have:oE r (q:Int)=0:=by unfold oE;rw [c0 he,c0 hi,hl];simp
  rw [c0 this,c0 this];rfl
theorem Fc (e:fW r h i t=0) (hk:k≠i):yP (gN r h i t) k=yP r k:=by
 unfold yP;rw [wM e];unfold cd;rw [L8 e hk]
theorem Pk (e:fW r h i t=0):lD r h i t=jV (ov r h i t) r.a_.length:=(Pp e).symm
end
end
section
open Go.RowKit
/-- a row is taken that was made before; an operation -/
inductive gJ where
 |take (i:Nat)
 |op (j:Nat)
def gJ.ix:gJ→Nat
 | .take i=>i
 | .op j=>j
def En (dO:Nat→Nat):List gJ→List Nat
 |[]=>[]
 | .take i::s=>dO i::En dO s
 | .op _::s=>En dO s
theorem wa {dO:Nat→Nat} {i:Nat}: ∀ {s:List gJ},gJ.take i∈s→dO i∈En dO s
 | .take k::s,h=>by
  rcases bI.1 h with e|h
  ·cases e;exact bZ ..
  ·exact dk _ (wa h)
 | .op k::s,h=>by
  rcases bI.1 h with e|h
  ·cases e
  ·exact wa (s:=s) h
def rB (m:Array Nat) (dO:Nat→Nat) (x y:gJ):Bool:=x.ix != y.ix&&(match y with | .op j=>jA m x.ix j| .take i=>match x with | .take k=>dO k != dO i| .op _=>true)
def ZO (m:Array Nat) (dO:Nat→Nat):List gJ→Bool
 |[]=>true
 |x::s=>s.all (rB m dO x)&&ZO m dO s
theorem Im {m:Array Nat} {dO:Nat→Nat}: ∀ {s:List gJ},ZO m dO s=true→s.Pairwise fun x y=>rB m dO x y=true
 |[],_=>List.Pairwise.nil
 |x::s,h=>by
  simp only [ZO,dq] at h;exact List.Pairwise.cons (fun y hy=>dg.1 h.1 y hy) (Im h.2)
/-- what is known of the slots B is known in L -/
def Gk (B L:dJ):Prop:= ∀ t v,B.lookup t=some v→L.lookup t=some v
theorem DE (h:B.map (fun p=>L.lookup p.1)=B.map (fun p=>some p.2)):Gk B L:=by
 induction B with
 |nil=>intro t v h;simp at h
 |cons p B ih=>
  obtain ⟨k,u⟩:=p;simp only [m2,ABo] at h;intro t v hl;by_cases e:t=k
  ·subst e;simp only [lookup,ABI,k4] at hl;rw [h.1,hl]
  ·have:(t==k)=false:=by simpa using e
   simp only [lookup,this] at hl;exact ih h.2 t v hl
theorem pL {Y:dJ} {t:Nat}:(L++Y).lookup t=match L.lookup t with |some v=>some v|none=>Y.lookup t:=by
 induction L with
 |nil=>rfl
 |cons p L ih=>
  obtain ⟨k,u⟩:=p;by_cases e:t==k
  ·simp [lookup,e]
  ·have:(t==k)=false:=by simpa using e
   simp only [AAX,lookup,this,ih]
theorem Gk.app {Y:dJ} (h:Gk B L):Gk B (L++Y):=fun t v ht=>by rw [pL,h t v ht]
theorem U9 (h:Gk B L) {x:Operand} (hv:ev B x=some v):ev L x=some v:=by
 cases x<;>simp only [ev] at hv ⊢ <;>first|exact h _ _ hv|exact hv
theorem JA {B L:dJ} (h:Gk B L): ∀ {xs:List Operand} {vs:List Value},evs B xs=some vs→evs L xs=some vs
 |[],vs,hv=>hv
 |x::xs,vs,hv=>by
  simp only [evs] at hv ⊢;cases e1:ev B x with
  |none=>rw [e1] at hv;simp at hv
  |some v=>
   cases e2:evs B xs with
   |none=>rw [e1,e2] at hv;simp at hv
   |some us=>
    rw [e1,e2] at hv;rw [U9 h e1,JA h e2];exact hv
section
variable (E:fJ) (ops:Array Oper) (D:List Deferred) (C':List au) (K0:Act→World→Prop) (B:List (Nat×Value)) (dO:Nat→Nat) (VO:Nat→Nat→Value) (AO:Nat→Nat→au)
def CH:List gJ→dJ→List au→Prop
 |[],L,C=>KJ E K0 D L C
 | .take i::s,L,C=> ∀ b,CH s ((dO i,VO i b)::L) (AO i b::C)
 | .op j::s,L,C=> ∀ o,ops[j]? =some o→ ∀ (Y:dJ) (X:List au) (K:Act→World→Prop),(∀ L' C'',(∀ w,St E.S E.w0 C'' w→St E.S E.w0 C' w)→((En dO s).all fun d=>(L'.lookup d).isNone)=true→B.map (fun p=>L'.lookup p.1)=B.map (fun p=>some p.2)→CH s L' C''→KJ E K D (L'++Y) (C''++X))→RJ E ops (NQ K) [o] D (L++Y) (C++X)
/-- a row that is made at any time -/
def WH (i:Nat):Prop:= ∀ o,ops[i]? =some o→ ∀ (L:dJ) (C:List au) (K:Act→World→Prop),Gk B L→(∀ w,St E.S E.w0 C w→St E.S E.w0 C' w)→(∀ b,KJ E K D ((dO i,VO i b)::L) (AO i b::C))→RJ E ops (NQ K) [o] D L C
end
section
variable {E:fJ} {ops:Array Oper} {D:List Deferred} {C' C1:List au} {K0:Act→World→Prop} {B:List (Nat×Value)} {dO:Nat→Nat} {VO:Nat→Nat→Value} {AO:Nat→Nat→au}
theorem Rz (hL:∀ a,Fr E.n D L a→Fr E.n D L2 a) (hC:∀ w,St E.S E.w0 C w→St E.S E.w0 C2 w) (h:RJ E ops Q rest D L2 C2):RJ E ops Q rest D L C:=fun a w hf hs=>h a w (hL a hf) (hC w hs)
theorem Ix (hL:∀ a,Fr E.n D L a→Fr E.n D L2 a) (hC:∀ w,St E.S E.w0 C w→St E.S E.w0 C2 w) (h:KJ E K D L2 C2):KJ E K D L C:=fun a w hf hs=>h a w (hL a hf) (hC w hs)
theorem IQ {n:Nat} (h:∀ t v,L2.lookup t=some v→L.lookup t=some v) (a:Act) (hf:Fr n D L a):Fr n D L2 a:=⟨hf.defers,hf.size,fun t v ht=>hf.at_ t v (h t v ht)⟩
theorem Hn: ∀ (T0 s':List gJ) (dn:List (Nat×Nat)) (L Y:dJ) (C:List au),(∀ x∈T0,∃ i b,x= .take i∧(i,b)∈dn)→(T0++s').Pairwise (fun x y=>rB (sO ops) dO x y=true)→(dn.map (·.1)).Nodup→(∀ p∈dn,gJ.take p.1∈T0++s')→(∀ p∈dn,Y.lookup (dO p.1)=some (VO p.1 p.2))→(∀ i,gJ.take i∈T0++s'→L.lookup (dO i)=none)→
 CH E ops D C' K0 B dO VO AO (T0++s') L C→ ∃ (dn':List (Nat×Nat)) (L':dJ) (C2:List au),CH E ops D C' K0 B dO VO AO s' L' C2∧(dn'.map (·.1)).Nodup∧(∀ p,p∈dn'↔p∈dn∧gJ.take p.1∈s')∧(∀ t v,(L'++Y).lookup t=some v→(L++Y).lookup t=some v)∧(∀ i,gJ.take i∈s'→L'.lookup (dO i)=none)∧(∀ w,St E.S E.w0 (C++dn.map fun p=>AO p.1 p.2) w→St E.S E.w0 (C2++dn'.map fun p=>AO p.1 p.2) w)
 |[],s',dn,L,Y,C,_,_,hn,hm,_,hl,h=>⟨dn,L,C,h,hn,fun p=>⟨fun q=>⟨q,hm p q⟩,fun q=>q.1⟩,fun t v q=>q,hl,fun w q=>q⟩
 |x::T0,s',dn,L,Y,C,ht,hp,hn,hm,hy,hl,h=>by
  obtain ⟨i,b,rfl,hb⟩:=ht x (bZ ..);obtain ⟨J,P⟩:=AAT.1 hp;have AB: ∀ y∈T0++s',i≠y.ix:=fun y hy e=>by
   have:=J y hy;simp only [rB,dq,AAM,gJ.ix] at this;exact this.1 e
  have N: ∀ k,gJ.take k∈T0++s'→dO k≠dO i:=fun k hk e=>by
   have:=J _ hk;simp only [rB,dq,AAM] at this;exact this.2 e.symm
  have K:dn.Perm ((i,b)::dn.erase (i,b)):=List.perm_cons_erase hb;have H:((dn.erase (i,b)).map (·.1)).Nodup∧i ∉ (dn.erase (i,b)).map (·.1):=by
   have:=(K.map (·.1)).nodup_iff.1 hn;exact ⟨(AA2.1 this).2,(AA2.1 this).1⟩
  have A: ∀ p∈dn.erase (i,b),p∈dn∧p.1≠i:=fun p hp=>⟨List.mem_of_mem_erase hp,fun e=>by have q:=AAE (f:=fun p:Nat×Nat=>p.1) hp;simp only [e] at q;exact H.2 q⟩;have O:L.lookup (dO i)=none:=hl i (bZ ..);obtain ⟨dn',L',C2,R,T,AA,V,W,X⟩:=Hn T0 s' (dn.erase (i,b)) ((dO i,VO i b)::L) Y (AO i b::C) (fun x hx=>by
   obtain ⟨k,c,rfl,hk⟩:=ht x (dk _ hx);refine ⟨k,c,U,?_⟩;have F:k≠i:=fun e=>AB _ (m1 _ hx) e.symm;exact (List.mem_erase_of_ne (fun e=>F (c7 Prod.fst e))).2 hk) P H.1 (fun p hp=>by
   obtain ⟨M,G⟩:=A p hp;rcases bI.1 (hm p M) with e|e
   ·injection e with e;exact absurd e G
   ·exact e) (fun p hp=>hy p (A p hp).1) (fun k hk=>by
   have:(dO k==dO i)=false:=by simpa using N k hk
   simp only [lookup,this];exact hl k (dk _ hk)) (h b)
  refine ⟨dn',L',C2,R,T,fun p=>?_,fun t v hv=>?_,W,fun w hw=>X w ?_⟩
  ·rw [AA];constructor
   ·rintro ⟨M,G⟩;exact ⟨(A p M).1,G⟩
   ·rintro ⟨M,G⟩;have F:p.1≠i:=fun e=>AB _ (AAg _ G) e.symm;exact ⟨(List.mem_erase_of_ne (fun e=>F (c7 Prod.fst e))).2 M,G⟩
  ·have:=V t v hv;rw [pL] at this ⊢;by_cases e:t=dO i
   ·subst e;simp only [lookup,ABI] at this;rw [O];simp only;rw [hy _ hb];exact this
   ·have Q:(t==dO i)=false:=by simpa using e
    simp only [lookup,Q] at this;exact this
  ·refine hw.perm ?_;show (C++dn.map fun p=>AO p.1 p.2).Perm (AO i b::(C++(dn.erase (i,b)).map fun p=>AO p.1 p.2))
   refine ((K.map fun p:Nat×Nat=>AO p.1 p.2).append_left C).trans ?_;exact v5
theorem EJ: ∀ (s:List gJ) (j:Nat),gJ.op j∈s→ ∃ T0 k s',s=T0++gJ.op k::s'∧ ∀ x∈T0,∃ i,x=gJ.take i
 | .take i::s,j,h=>by
  rcases bI.1 h with e|h
  ·cases e
  ·obtain ⟨T0,k,s',rfl,A⟩:=EJ s j h;exact ⟨.take i::T0,k,s',U,fun x hx=>by
    rcases bI.1 hx with rfl|hx
    ·exact ⟨i,U⟩
    ·exact A x hx⟩
 | .op k::s,j,_=>⟨[],k,s,rfl,fun x hx=>by cases hx⟩
def l4 (s:List gJ) (dn:List (Nat×Nat)):List Nat:=(s.map gJ.ix).filter fun i=> !(dn.map (·.1)).contains i
theorem uh {s:List gJ} {dn:List (Nat×Nat)}:i∈l4 s dn↔(∃ x∈s,x.ix=i)∧ ∀ p∈dn,p.1≠i:=by
 unfold l4;rw [n3,cu];refine and_congr Iff.rfl ?_;rw [e0,← Bool.not_eq_true,ACI,cu];constructor
 ·intro h p hp e;exact h ⟨p,hp,e⟩
 ·rintro h ⟨p,hp,e⟩;exact h p hp e
theorem sX (hal: ∀ i,WH E ops D C' B dO VO AO i∨True): ∀ (n:Nat) (s:List gJ) (dn:List (Nat×Nat)) (L Y:dJ) (C:List au),(∀ i,gJ.take i∈s→WH E ops D C' B dO VO AO i)→s.Pairwise (fun x y=>rB (sO ops) dO x y=true)→(l4 s dn).length=n→(dn.map (·.1)).Nodup→(∀ p∈dn,gJ.take p.1∈s)→(∀ p∈dn,Y.lookup (dO p.1)=some (VO p.1 p.2))→(∀ i,gJ.take i∈s→L.lookup (dO i)=none)→Gk B L→
 (∀ w,St E.S E.w0 C w→St E.S E.w0 C' w)→CH E ops D C' K0 B dO VO AO s L C→TN E ops D C' C1 (fun L C=>KJ E K0 D L C) [] n (l4 s dn) (L++Y) (C++dn.map fun p=>AO p.1 p.2)
 |0,s,dn,L,Y,C,_,hp,hlen,hn,hm,hy,hl,hB,hC,h=>by
  have hr:l4 s dn=[]:=kq hlen;have Q: ∀ x∈s,∃ i b,x=gJ.take i∧(i,b)∈dn:=fun x hx=>by
   have hx':x.ix ∉ l4 s dn:=by rw [hr];exact h_
   rw [uh] at hx';have: ∃ p∈dn,p.1=x.ix:=by
    apply AAn;intro q;exact hx' ⟨⟨x,hx,U⟩,fun p hp e=>q ⟨p,hp,e⟩⟩
   obtain ⟨p,T,AA⟩:=this;have ht:=hm p T;rcases p5.1 hx with ⟨a,ha,ea⟩;rcases p5.1 ht with ⟨c,hc,ec⟩;have d:a=c:=by
    rcases ABr a c with q|q|q
    ·have:=eW.1 hp a c ha hc q;simp only [rB,dq,AAM,ea,ec] at this;exact absurd AA.symm this.1
    ·exact q
    ·have:=eW.1 hp c a hc ha q;simp only [rB,dq,AAM,ea,ec] at this;exact absurd AA this.1
   subst d;exact ⟨p.1,p.2,by rw [← ea,ec],T⟩
  obtain ⟨dn',L',C2,V,J,O,W,h5,X⟩:=Hn s [] dn L Y C Q (by simpa using hp) hn (by simpa using hm) hy (by simpa using hl) (by simpa using h);show KJ E K0 D _ _
  have hd:dn'=[]:=AAW.2 fun p hp=>by have:=((O p).1 hp).2;cases this
  subst hd;refine Ix (L2:=L') (C2:=C2) (fun a hf=>IQ (fun t v ht=>W t v (by rw [pL,ht])) a hf) (fun w hw=>by have:=X w hw;simpa using this) V
 |n+1,s,dn,L,Y,C,hal',hp,hlen,hn,hm,hy,hl,hB,hC,h=>by
  intro i hi o ho K hK;obtain ⟨G,m⟩:=n3.1 hi;obtain ⟨⟨x,hx,rfl⟩,H⟩:=uh.1 G;have A: ∀ k∈l4 s dn,jA (sO ops) k x.ix=false:=fun k hk=>by
   have:=dg.1 m k hk;simpa using this
  cases x with
  |take i=>
   simp only [gJ.ix] at H A ho hK G ⊢;refine hal' i hx o ho _ _ K hB.app (fun w hw=>hC w (hw.take (AB9 _ _))) fun b=>?_;have l:=hl i hx;have AB:(l4 s dn).filter (· != i)=l4 s ((i,b)::dn):=by
    unfold l4;rw [ABn];apply ABT;intro k _;simp only [m2,List.contains_cons,Bool.not_or];rfl
   have N:(l4 s dn).Nodup:=by
    unfold l4;refine List.Nodup.sublist AA3<|AAK.2 (hp.imp fun {a c} q=>?_);simp only [rB,dq,AAM] at q;exact q.1
   have M: ∀ k,gJ.take k∈s→k≠i→dO k≠dO i:=fun k hk AC e=>by
    rcases p5.1 hx with ⟨a,ha,ea⟩;rcases p5.1 hk with ⟨c,hc,ec⟩;rcases ABr a c with q|q|q
    ·have:=eW.1 hp a c ha hc q;simp only [rB,dq,AAM,ea,ec] at this;exact this.2 e.symm
    ·subst q;rw [ea] at ec;cases ec;exact AC rfl
    ·have:=eW.1 hp c a hc ha q;simp only [rB,dq,AAM,ea,ec] at this;exact this.2 e
   refine Ix (L2:=L++((dO i,VO i b)::Y)) (C2:=C++((i,b)::dn).map fun p=>AO p.1 p.2) (fun a hf=>IQ (fun t v ht=>?_) a hf) (fun w hw=>hw.perm (v5).symm) (hK _ _ (fun w hw=>hC w (hw.take (AB9 _ _))) (fun q=>by cases q) ?_)
   ·rw [pL] at ht;by_cases e:t=dO i
    ·subst e;rw [l] at ht;simp only [lookup,ABI] at ht ⊢;exact ht
    ·have e2:(t==dO i)=false:=by simpa using e
     simp only [lookup,e2] at ht ⊢;rw [pL];exact ht
   ·rw [AB];refine sX hal n s ((i,b)::dn) L ((dO i,VO i b)::Y) C hal' hp ?_ (AA2.2 ⟨fun q=>?_,hn⟩) (fun p hp'=>?_) (fun p hp'=>?_) hl hB hC h
    ·rw [← AB,← List.Nodup.erase_eq_filter N,ABd G,hlen];rfl
    ·obtain ⟨p,hp',e⟩:=cu.1 q;exact H p hp' e
    ·rcases bI.1 hp' with rfl|hp'
     ·exact hx
     ·exact hm p hp'
    ·rcases bI.1 hp' with rfl|hp'
     ·simp [lookup]
     ·have:(dO p.1==dO i)=false:=by simpa using M p.1 (hm p hp') (H p hp')
      simp only [lookup,this];exact hy p hp'
  |op j=>
   simp only [gJ.ix] at H A ho hK G ⊢;obtain ⟨T0,k,s',rfl,hT⟩:=EJ s j hx;obtain ⟨q1,q2,q3⟩:=AAb.1 hp;obtain ⟨q4,q5⟩:=AAT.1 q2;have R: ∀ k',gJ.op k'∈T0++gJ.op k::s'→k'∈l4 (T0++gJ.op k::s') dn:=fun k' hk'=>by
    refine uh.2 ⟨⟨_,hk',U⟩,fun p hp' e=>?_⟩;have ht:=hm p hp';rcases p5.1 hk' with ⟨a,ha,ea⟩;rcases p5.1 ht with ⟨c,hc,ec⟩;rcases ABr a c with q|q|q
    ·have:=eW.1 hp a c ha hc q;simp only [rB,dq,AAM,ea,ec,gJ.ix] at this;exact this.1 e.symm
    ·subst q;rw [ea] at ec;cases ec
    ·have:=eW.1 hp c a hc ha q;simp only [rB,dq,AAM,ea,ec,gJ.ix] at this;exact this.1 e
   have Ap:k=j:=by
    apply AAn;intro A0;have hj':gJ.op j∈s':=by
     rcases dZ.1 hx with q|q
     ·obtain ⟨i,e⟩:=hT _ q;cases e
     ·rcases bI.1 q with e|q
      ·injection e with e;exact absurd e.symm A0
      ·exact q
    have:=q4 _ hj';simp only [rB,dq,gJ.ix] at this;have J:=A k (R k sm);rw [this.2] at J;cases J
   subst Ap;have F: ∀ x∈T0,∃ i b,x=gJ.take i∧(i,b)∈dn:=fun x hx'=>by
    obtain ⟨i,rfl⟩:=hT x hx';apply AAn;intro q;have r:i∈l4 (T0++gJ.op k::s') dn:=uh.2 ⟨⟨_,m1 _ hx',rfl⟩,fun p hp' e=>q ⟨i,p.2,rfl,by rw [← e];exact hp'⟩⟩;have:=q3 _ hx' _ (bZ ..);simp only [rB,dq,gJ.ix] at this;have J:=A i r;rw [this.2] at J;cases J
   obtain ⟨dn',L',C2,V,J,O,W,h5,X⟩:=Hn T0 (gJ.op k::s') dn L Y C F hp hn hm hy hl h;refine Rz (fun a hf=>IQ W a hf) X (V o ho Y (dn'.map fun p=>AO p.1 p.2) K fun L3 C3 P A1 Z g=>?_);have AB:(l4 (T0++gJ.op k::s') dn).filter (· != k)=l4 s' dn':=by
    unfold l4;rw [AAF,AAq,m2,AAq];have e1:(List.map gJ.ix T0).filter (fun i=> !(dn.map (·.1)).contains i)=[]:=by
     apply List.filter_eq_nil_iff.2;intro z hz;obtain ⟨x,hx',rfl⟩:=cu.1 hz;obtain ⟨i,b,rfl,hb⟩:=F x hx';simp only [gJ.ix,e0,Bool.not_eq_false,ACI];exact AAE (f:=(·.1)) hb
    rw [e1];simp only [List.filter_nil,AAp];have u:k ∉ dn.map (·.1):=fun q=>by
     obtain ⟨p,hp',e⟩:=cu.1 q;exact H p hp' e
    rw [AAi (by simpa [gJ.ix] using u),AAj (by simp [gJ.ix]),ABn];apply ABT;intro z hz;obtain ⟨y,hy',rfl⟩:=cu.1 hz;have A2:y.ix≠k:=fun e=>by
     have:=q4 y hy';simp only [rB,dq,AAM,gJ.ix] at this;exact this.1 e.symm
    rw [AAB];simp only [dq,AAM,e0,← Bool.not_eq_true,ACI];constructor
    ·rintro ⟨_,hq⟩ hc;obtain ⟨p,hp',e⟩:=cu.1 hc;exact hq (by rw [← e];exact AAE (f:=(·.1)) ((O p).1 hp').1)
    ·intro hq;refine ⟨A2,fun hc=>?_⟩;obtain ⟨p,hp',e⟩:=cu.1 hc;apply hq;rw [← e];refine AAE (f:=(·.1)) ((O p).2 ⟨hp',?_⟩);have ht:=hm p hp';rcases dZ.1 ht with ht|ht
     ·exfalso;have:=q3 _ ht _ (dk _ hy');simp only [rB,dq,AAM,gJ.ix] at this;exact this.1 e
     ·exact ht
   have N:(l4 (T0++gJ.op k::s') dn).Nodup:=by
    unfold l4;refine List.Nodup.sublist AA3<|AAK.2 (hp.imp fun {a c} q=>?_);simp only [rB,dq,AAM] at q;exact q.1
   refine hK _ _ (fun w hw=>P w (hw.take (AB9 _ _))) (fun q=>by cases q) ?_;rw [AB];have hdn': ∀ p∈dn',gJ.take p.1∈s':=fun p hp'=>by
    rcases bI.1 ((O p).1 hp').2 with e|e
    ·cases e
    ·exact e
   refine sX hal n s' dn' L3 Y C3 (fun i hi=>hal' i (by simp [hi])) q5 ?_ J hdn' (fun p hp'=>hy p ((O p).1 hp').1) (fun i hi=>?_) (DE Z) P g
   ·rw [← AB,← List.Nodup.erase_eq_filter N,ABd G,hlen];rfl
   ·have:=dg.1 A1 _ (wa hi);simpa using this
/-- the rows, at any time; the others, one after the other -/
theorem IY (s:List gJ) (B:dJ) (dO:Nat→Nat) (VO:Nat→Nat→Value) (AO:Nat→Nat→au) {n:Nat} (htb:tb=[]) (hr:s.map gJ.ix=rem) (hn:rem.length=n) (hp:ZO (sO ops) dO s=true) (hl:((En dO s).all fun d=>(L.lookup d).isNone)=true) (hB:B.map (fun p=>L.lookup p.1)=B.map (fun p=>some p.2)) (hC:∀ w,St E.S E.w0 C w→St E.S E.w0 C' w) (hal:∀ i,gJ.take i∈s→WH E ops D C' B dO VO AO i) (h:CH E ops D C' K0 B dO VO AO s L C):TN E ops D C' C1 (fun L C=>KJ E K0 D L C) tb n rem L C:=by
 subst htb hr;have e:l4 s []=s.map gJ.ix:=by unfold l4;simp
 have:=sX (C1:=C1) (fun i=> .inr trivial) n s [] L [] C hal (Im hp) (by rw [e];exact hn) ABt (fun p hp=>by cases hp) (fun p hp=>by cases hp) (fun i hi=>by
  have:=dg.1 hl _ (wa hi);simpa using this) (DE hB) hC h
 simpa [e] using this
theorem Nr: ∀ i,gJ.take i∈([]:List gJ)→p i:=fun i h=>by cases h
theorem uP {j:Nat} {s:List gJ} (h:∀ i,gJ.take i∈s→p i): ∀ i,gJ.take i∈gJ.op j::s→p i:=fun i hi=>by
 rcases bI.1 hi with e|hi
 ·cases e
 ·exact h i hi
theorem qa {j:Nat} {s:List gJ} (hj:p j) (h:∀ i,gJ.take i∈s→p i): ∀ i,gJ.take i∈gJ.take j::s→p i:=fun i hi=>by
 rcases bI.1 hi with e|hi
 ·cases e;exact hj
 ·exact h i hi
end
section
variable {E:fJ} {ops:Array Oper} {D:List Deferred} {C':List au} {B:List (Nat×Value)} {dO:Nat→Nat} {VO:Nat→Nat→Value} {AO:Nat→Nat→au}
variable {d:Nat} {ty:TypeId} {ps:String} {af:Array Edge}
theorem Qh {t:Nat} (ho:ops[i]? =some ⟨some d,.alloc t,ty,ps,af,none⟩) (hz:tZ E.P t=some cs) (hd:blt d E.n=true) (h1:dO i=d) (h2:∀ b,VO i b= .pointer (some ⟨b,0,none⟩)) (h3:∀ b,AO i b=cb b t cs):WH E ops D C' B dO VO AO i:=fun o ho' L C K hB _ hk=>by
 rw [ho] at ho';cases ho';exact Jh U hz hd fun b=>bG (by have:=hk b;rw [h1,h2,h3] at this;exact this)
theorem Qb {t e:Nat} (ho:ops[i]? =some ⟨some d,.buildSlice t 0 #[],ty,ps,af,none⟩) (ht:tE E.P t=some (e,sz)) (hd:blt d E.n=true) (h1:dO i=d) (h2:∀ b,VO i b= .slice (some ⟨b,0,none⟩) 0 0) (h3:∀ b,AO i b=cb b e []):WH E ops D C' B dO VO AO i:=fun o ho' L C K hB _ hk=>by
 rw [ho] at ho';cases ho';exact xd U ht hd fun b=>bG (by have:=hk b;rw [h1,h2,h3] at this;exact this)
theorem EB {t e n:Nat} {xs:List Operand} {zs:List Value} (ho:ops[i]? =some ⟨some d,.buildSlice t n ((xs.zipIdx.map fun p=>(p.2,p.1)).toArray),ty,ps,af,none⟩) (ht:tE E.P t=some (e,sz)) (hz:tZ E.P e=some zs) (hx:evs B xs=some vs) (hn:xs.length=n) (hp:blt 0 (n*sz)=true) (hb:ble (n*sz) 16777216=true) (hv:∀ v∈vs,v.cells.size=sz) (hc:(vs.map (·.cells.toList)).flatten=cs) (hd:blt d E.n=true) (h1:dO i=d) (h2:∀ b,VO i b= .slice (some ⟨b,0,none⟩) n n) (h3:∀ b,AO i b=cb b e cs):WH E ops D C' B dO VO AO i:=fun o ho' L C K hB _ hk=>by
 rw [ho] at ho';cases ho';exact dC U ht hz (JA hB hx) hn hp hb hv hc hd fun b=>bG (by have:=hk b;rw [h1,h2,h3] at this;exact this)
end
section
variable {E:fJ} {ops:Array Oper} {D:List Deferred} {C':List au} {K0:Act→World→Prop} {B:List (Nat×Value)} {dO:Nat→Nat} {VO:Nat→Nat→Value} {AO:Nat→Nat→au}
theorem u6 {j:Nat} {s:List gJ} {o:Oper} (ho:ops[j]? =some o) (h:∀ (Y:dJ) (X:List au) (K:Act→World→Prop),(∀ L' C'',(∀ w,St E.S E.w0 C'' w→St E.S E.w0 C' w)→((En dO s).all fun d=>(L'.lookup d).isNone)=true→B.map (fun p=>L'.lookup p.1)=B.map (fun p=>some p.2)→CH E ops D C' K0 B dO VO AO s L' C''→KJ E K D (L'++Y) (C''++X))→RJ E ops (NQ K) [o] D (L++Y) (C++X)):CH E ops D C' K0 B dO VO AO (.op j::s) L C:=fun o' ho'=>by
 rw [ho] at ho';cases ho';exact h
theorem qx {s:List gJ} {Y:dJ} (hT:∀ L' C'',(∀ w,St E.S E.w0 C'' w→St E.S E.w0 C' w)→((En dO s).all fun d=>(L'.lookup d).isNone)=true→B.map (fun p=>L'.lookup p.1)=B.map (fun p=>some p.2)→CH E ops D C' K0 B dO VO AO s L' C''→KJ E K D (L'++Y) (C''++X)) (nL nC:Nat) (hL:L.take nL++Y=L) (hC:C.take nC++X=C) (h1:∀ w,St E.S E.w0 (C.take nC) w→St E.S E.w0 C' w) (h2:((En dO s).all fun d=>((L.take nL).lookup d).isNone)=true) (h3:B.map (fun p=>(L.take nL).lookup p.1)=B.map (fun p=>some p.2)) (h:CH E ops D C' K0 B dO VO AO s (L.take nL) (C.take nC)):RJ E ops (NQ K) [] D L C:=by
 have:=hT _ _ h1 h2 h3 h;rw [hL,hC] at this;exact bG this
theorem TY {L':dJ} (h:L'.map (fun p=>L.lookup p.1)=L'.map (fun p=>some p.2)) (k:WJ E c Q D L' C):WJ E c Q D L C:=fun a w hf hs=>k a w (IQ (DE h) a hf) hs
theorem zp: ∀ {C:List au} {i:Nat} {A:au},C[i]? =some A→C.Perm (A::C.eraseIdx i)
 |[],i,A,h=>by simp at h
 |x::C,0,A,h=>by
  simp at h;subst h;exact ABY _
 |x::C,i+1,A,h=>((zp (C:=C) (i:=i) (by simpa using h)).cons x).trans (List.Perm.swap _ _ _)
theorem St.front {A:au} (i:Nat) (hi:C[i]? =some A) (h:St S w0 C w):St S w0 (A::C.eraseIdx i) w:=h.perm (zp hi)
theorem JD {A:au} (i:Nat) (hi:C[i]? =some A) (h:KJ E K D L (A::C.eraseIdx i)):KJ E K D L C:=fun a w hf hs=>h a w hf (hs.front i hi)
theorem uD {A:au} (i:Nat) (hi:C[i]? =some A) (h:RJ E ops Q rest D L (A::C.eraseIdx i)):RJ E ops Q rest D L C:=fun a w hf hs=>h a w hf (hs.front i hi)
end
end
section
theorem TN.sub: ∀ {n:Nat} {L L':dJ},cV L L'→TN E ops D C' C1 (fun L C=>KJ E (Q .normal) D L C) tb n rem L' C→TN E ops D C' C1 (fun L C=>KJ E (Q .normal) D L C) tb n rem L C:=by
 intro n;cases n with
 |zero=>intro L L' hs h;exact j7 hs (fun _ h=>h) h
 |succ n=>intro L L' hs h i hi o ho K hK;exact T1 hs (fun _ h=>h) (h i hi o ho K hK)
theorem ZK {bs:List Bool} {os:List Oper} {n:Nat} {t:Nat} (h:L.lookup t=some (.bool b)) (h1:b=true→uN E ops D C' C1 (fun L'=>TN E ops D C' C1 (fun L C=>KJ E (Q .normal) D L C) tb n rem L' C) bs os ((t,.bool true)::L)) (h2:b=false→uN E ops D C' C1 (fun L'=>TN E ops D C' C1 (fun L C=>KJ E (Q .normal) D L C) tb n rem L' C) bs os ((t,.bool false)::L)):
 uN E ops D C' C1 (fun L'=>TN E ops D C' C1 (fun L C=>KJ E (Q .normal) D L C) tb n rem L' C) bs os L:=by
 have A: ∀ v:Bool,b=v→cV L ((t,.bool v)::L):=fun v hv=>cV.cons (hv▸h) (fun _ _ h=>h);cases b
 ·exact uN.mono (fun _ _=>TN.sub) (A _ U) (h2 U)
 ·exact uN.mono (fun _ _=>TN.sub) (A _ U) (h1 U)
end
section
open Go.RowKit
section
variable {K:Type} [DecidableEq K] {kV:K→Value}
variable {E:fJ} {ops:Array Oper} {Q:du} {rest:List Oper} {D:List Deferred} {L:List (Nat×Value)} {C:List au}
variable {ty:TypeId} {ps:String} {af:Array Edge} {g:Option (Nat×Bool)}
theorem pg {xm xk:Operand} {b:Nat} {x:K} {m m':List (K×Value)} (i:Nat) (hg:kz ops L g=true) (hm:ev L xm=some (.map (some b))) (hk:ev L xk=some (kV x)) (hts:ts[0]? =some t) (ht:E.P.underlying t=some (.map kt et)) (hkt:xo E.P kt kV) (hC:C[i]? =some (iu kV b m)) (hm':cJ m x=m') (hC':C.set i (iu kV b m')=C') (k:RJ E ops Q rest D L C'):
 RJ E ops Q (⟨none,.call {callee:= .builtin .delete,args:= #[xm,xk],argTypes:=ts},ty,ps,af,g⟩::rest) D L C:=by
 subst hm' hC';intro a w A hs;unfold uJ;rw [c0 (eH A hg)];obtain ⟨es,c,he,hi⟩:=hs.holds _ (aF hC);have B:(getObj b).run E.P w= .ok (.map es c) w:=AAc he;rcases qJ (P:=E.P) (w:=w) (x:=x) hkt hi with ⟨F,G⟩|⟨j,AA,F,G,H⟩
 ·refine jr (v:= .tuple #[]) (w':={w with heap:=w.heap.setIfInBounds b (.map es c)}) sm ?_ ?_
  ·simp [execOp,resolve,invoke,builtin,A.ev hm,A.ev hk,Builtin.delete_,hts,k3 ht,B,jR hkt,F,AA6 _ he]
  ·refine k _ _ ⟨A.defers,A.size,A.at_⟩ (hs.BP (b:=b) i hC U U (oX _) (fun _ h=>h) ⟨_,_,rp he,?_⟩);rw [GA G];exact hi
 ·refine jr (v:= .tuple #[]) (w':={w with heap:=w.heap.setIfInBounds b (.map (es.eraseIdxIfInBounds j) c)}) sm ?_ ?_
  ·simp [execOp,resolve,invoke,builtin,A.ev hm,A.ev hk,Builtin.delete_,hts,k3 ht,B,jR hkt,F,AA6 _ he]
  ·exact k _ _ ⟨A.defers,A.size,A.at_⟩ (hs.BP (b:=b) i hC U U (oX _) (fun _ h=>h) ⟨_,_,rp he,hi.del G⟩)
end
end
section
open Go.RowKit
section
variable {P:Program} {t:TypeId} {x y:Operand}
theorem s9 {n c:Nat} (ht:P.underlying t=some (.slice e)):g8 P .eql t x y (.slice a n c) (.slice none 0 0) (.bool (decide (a=none))):=fun w=>by
 have A:(Op.equal t (.slice a n c) (.slice none 0 0)).run P w= .ok (decide (a=none)) w:=by
  unfold Op.equal;show (Op.equalIn (9999+1) t (.slice a n c) (.slice none 0 0)).run P w=_
  unfold Op.equalIn;cases a<;>simp [k3 ht]
 have B:eqGuard .eql t x y (.slice a n c) (.slice none 0 0)=pure ():=rfl;rw [B];show (Sem.run P (do let b ← Op.equal t (.slice a n c) (.slice none 0 0);pure (vB b)) w)=_
 simp [A]
end
section
variable {E:fJ} {ops:Array Oper} {Q:du} {rest:List Oper} {D:List Deferred} {L:List (Nat×Value)} {C:List au}
variable {dst:Option Tmp} {d:Nat} {ty:TypeId} {ps:String} {af:Array Edge} {g:Option (Nat×Bool)}
/-- a row that lies nowhere is empty -/
theorem oB {n:Nat} (hR:ig C (rd a n sz es).holds) (ha:a=none) (hz:0<sz) (k:es=[]→RJ E ops Q rest D L C):RJ E ops Q rest D L C:=fun act w hf hs=>by
 refine k ?_ act w hf hs;obtain ⟨F,G,B⟩:=hs.has hR;rcases AB7 (n*sz) with h|h
 ·have:n=0:=by
   rcases Nat.mul_eq_zero.1 h with h|h
   ·exact h
   ·omega
  exact kq I
 ·obtain ⟨ad,A,_⟩:=B h;rw [ha] at A;cases A
theorem mV {A:au} (i:Nat) (h:C[i]? =some A.ro):ig C A.holds:=fun w hw=>by
 have B:=hw A.ro (aF h);exact B
end
end
section
open Go.RowKit
theorem qU (n lo hi:Int):
 dh Tryz.prog 122 [(vI n),(vI lo),(vI hi)] [] (vB (decide (lo≤n∧n≤hi))):=by
 refine bj kr Tryz.func122 U U fun B Q hQ hN=>?_
 try dsimp only
 refine aq bT 11 ?_;refine bK (t:=10) U (aG fun A=>?_) (aH fun A=>?_)
 ·exact cr aj 8 hQ U U<|cB (gR.2 I)
 exact cr aj 8 hQ U U<|cB (bg I).symm
theorem sb (s:aa) (lo hi:Int):
 dh Tryz.prog 123 [(vA (aa.cells s)),(vI lo),(vI hi)] [] (vB (decide (s.Lo≤s.Hi∧lo≤s.Lo∧s.Hi≤hi))):=by
 refine bj kr Tryz.func123 U U fun C Q hQ hN=>?_
 try dsimp only
 refine aU bT 2 U<|dV U fun B=>dF aj 10 [] (mc 0 U mn) U<|rS (CL (qU s.Lo lo s.Hi) (aA) U)<|aq aj 1 ?_;refine cz (t:=13) U (aH fun A=>?_) (aG fun A=>?_)
 ·exact cr aj 9 hQ U U<|cB (bg I).symm
 exact yR aj 9 hQ [] (mc 0 U mn) U U<|cB (gR.2 I)
theorem Tj (t:List ag) (tA:OA) (tC:Nat):
 dh Tryz.prog 101 [(vA (aZ.cells (aZ.mk (aX.mk tA t.length tC))))] [(l0 tA t)] (vB (decide (20<(t.length:Int)))):=by
 refine bj kr Tryz.func101 U U fun B Q hQ hN=>?_
 try dsimp only
 refine aq bT 2 ?_;refine dV U fun A=>?_;exact yR aj 13 hQ [] (mc 0 U mn) U U U
variable (l:List Int) (lA:OA) (lC:Nat) (f:Value) (p:Int→Bool) (X:au)
theorem Rc (hf:∀ x0,x0∈l→BV Tryz.prog f [.int .i64 x0] [X] (.bool (p x0))) (hlen:l.length≤1000000):
 dh Tryz.prog 110 [(vS lA l.length lC),f] [(jx lA l),X] (vI (uW p l)):=by
 refine bj kr Tryz.func110 U U fun G Q hQ hN=>?_
 try dsimp only
 refine aq bT 14 ?_;have B:(0≤l.length)∧((l.take 0).any p=false):=by simp
 refine bw (ι:={z:Nat // (z≤l.length)∧((l.take z).any p=false)}) [0,1,7] [0,1] U U (fun z=>[(8,(vI (z.1:Int)))]) (fun z=>[]) (fun _=>rfl) (fun _=>rfl) (fun z=>l.length-z.1) ⟨0,B⟩ (aN U) (aB [0,1]) ?_;clear B;rintro ⟨i,⟨D,A⟩⟩ J4 C
 try dsimp only
 refine aq bT 6 ?_;refine bE U (aH fun F=>?_) (aG fun F=>?_)
 ·exact aU aY 1 U<|cr fz 8 hQ U U<|cI (rP I A).symm
 refine aq aY 15 ?_;obtain ⟨x,hx⟩:=ay l i I;have E:=bx iC hx;refine rS (IA i U (av 0 U) cO dc I I)<|rS (gF i 0 (vI x) U bP (av 0 U) E U dc U)<|rS (SX (pq U U U (hf x (aF hx)) (aP [1])) U U)<|aq aj 2 ?_;refine bY U (fun hp=>?_) (fun hp=>?_)
 ·exact cr aY 7 hQ U U<|cI (w8 hx hp A).symm
 refine aq aY 7 ?_;refine aL (C ⟨(i+1),⟨I,vV hx A hp⟩⟩ _ _ _ U os (aN U) (aB [0,1]))
theorem pE (hf:∀ x0,x0∈l→BV Tryz.prog f [.int .i64 x0] [X] (.bool (p x0))) (hlen:l.length≤1000000):
 dh Tryz.prog 60 [(vS lA l.length lC),f] [(jx lA l),X] (vB (l.any p)):=by
 refine bj kr Tryz.func60 U U fun A Q hQ hN=>?_
 try dsimp only
 exact aU bT 9 U<|rS (CL (Rc l lA lC f p X (by exact hf) hlen) (aP [0,1]) U)<|cr aj 5 hQ U U<|cB ub
theorem JR (n lo hi:Int) (g1 g2:Nat):
 dh Tryz.prog 204 [(vI n),(vP g1),(vP g2)] [(cb g1 3 [(vI lo)]),(cb g2 3 [(vI hi)])] (vB (decide (n<lo∨hi<n))):=by
 refine bj kr Tryz.func204 U U fun B Q hQ hN=>?_
 try dsimp only
 refine ck bT 11 [] (mr 0 U mn) ?_;refine bK (t:=8) U (aG fun A=>?_) (aH fun A=>?_)
 ·exact cr aj 8 hQ U U<|cB (cR I).symm
 exact yR aj 8 hQ [] (mr 1 U mn) U U<|cB (gR.2 I)
theorem q_ (lo hi:Int) (l:List Int) (lA:OA) (lC:Nat) (hlen:l.length≤1000000):
 dh Tryz.prog 156 [(vI lo),(vI hi),(vS lA l.length lC)] [(jx lA l)] (vB (oJ lo hi l)):=by
 refine bj kr Tryz.func156 U U fun D Q hQ hN=>?_
 try dsimp only
 refine aU bT 2 U<|sK U U fun A=>sK U U fun B=>aq aj 6 ?_;refine rS (FU U) ?_;refine rS (CL (pE l lA lC (Value.func (.func 204) [].toArray [(vP A),(vP B)].toArray) (fun C=>(decide (C<lo∨hi<C))) (iU [(cb A 3 [(vI lo)]),(cb B 3 [(vI hi)])]) (by intro C _;exact kT (fi:=[]) (ca:=[(vP A),(vP B)]) (jJ (JR C lo hi A B) (aP [0,1]))) hlen) (gM 2 U U<|aw (jO (aP [1,0]))<|aA) U) ?_;exact cr aj 5 hQ U U U
theorem zg (s:aa) (lo hi:Int):
 dh Tryz.prog 157 [(vA (aa.cells s)),(vI lo),(vI hi)] [] (vB (decide (s.Lo≤s.Hi∧lo≤s.Lo∧s.Hi≤hi))):=by
 refine bj kr Tryz.func157 U U fun D Q hQ hN=>?_
 try dsimp only
 refine aU bT 2 U<|dV U fun C=>ck aj 11 [] (mc 0 U mn) ?_;refine dC (xs:=[.tmp 10,.tmp 12]) (cs:=[(vI s.Lo),(vI s.Hi)]) U cO jU U U U U (by simp [Value.cells]) U U fun A=>?_;refine rS (CL (dh.eq (q_ lo hi ([s.Lo,s.Hi]) (some ⟨A,0,none⟩) 2 (by (simp;done))) qT) (aw (aM 0 U U (by simp [br]) U)<|aA) U) ?_;refine aq aj 1 ?_;refine cz (t:=15) U (aH fun B=>?_) (aG fun B=>?_)
 ·exact cr aj 10 hQ U U<|cB (bg I).symm
 exact yR aj 10 hQ [] (mc 1 U mn) U U<|cB (gR.2 I)
theorem yW (ts:List ag) (tsA:OA) (tsC:Nat) (hlen:ts.length≤1000000):
 dh Tryz.prog 86 [(vA (aZ.cells (aZ.mk (aX.mk tsA ts.length tsC))))] [(l0 tsA ts)] (vB (cD ts)):=by
 refine bj kr Tryz.func86 U U fun n Q hQ hN=>?_
 try dsimp only
 refine aU bT 2 U<|dV U fun m=>dF aj 9 [] (mc 0 U mn) U<|rS (CL (qU (ts.length:Int) 1 12) (aA) U)<|aq aj 3 ?_;refine bY U (aK fun k=>?_) (aJ fun k=>?_)
 ·exact cr aY 6 hQ U U<|cB (ow I).symm
 refine aq aY 9 ?_;have C:(0≤ts.length)∧(fj (-1) ts=fj (g6 ts 0) (ts.drop 0))∧(-1≤g6 ts 0):=by (refine ⟨I,rfl,by simp [g6]⟩)
 refine bw (ι:={z:Nat // (z≤ts.length)∧(fj (-1) ts=fj (g6 ts z) (ts.drop z))∧(-1≤g6 ts z)}) [1] [0,1] U U (fun z=>[(3,(vI (z.1:Int)))]) (fun z=>[]) (fun _=>rfl) (fun _=>rfl) (fun z=>ts.length-z.1) ⟨0,C⟩ (aN U) (aB [0,1]) ?_;clear C;rintro ⟨i,⟨e,A,f⟩⟩ J9 B
 try dsimp only
 have hz:i=0→g6 ts i= -1:=EE;refine ck bT 10 [] (mc 0 U mn) ?_;refine bE U (aH fun D=>?_) (aG fun D=>?_)
 ·exact aU aY 1 U<|cr fz 8 hQ U U<|cB (sY A I I).symm
 refine ck aY 9 [] (mc 0 U mn) ?_;obtain ⟨x,hx⟩:=ay ts i I;have g:=bx ag.cells hx;refine rS (IA i U (av 1 U) vD dc I I)<|rS (k8 i 0 (ag.cells x) U bP (av 1 U) g U dc U U)<|AL U HY fun j=>eM U Tc U<|aU aj 4 U<|cL bX 38 kr<|jY 2 [] (mc 0 U mn) U<|dS (CL (qU x.Id 0 9999) (aA) U)<|dP 2 [] mn ?_;refine iI (t:=26) U (aK fun E=>?_) (aJ fun E=>?_)
 ·exact iQ 11 U<|iQ 22 U<|cy<|cr aj 9 hQ U U<|cB (ep A hx (by simp only [bW,cQ];omega)).symm
 refine dP 3 [] mn ?_;refine iM (t:=29) U (aH fun F=>?_) (aG fun F=>?_)
 ·refine iQ 8 U<|iQ 6 U<|dS (LP (aa.cells x.jd) 0 U bP U U U)<|dS (CL (sb x.jd 1 30000) (aA) U)<|dP 3 [] mn ?_;refine iI (t:=48) U (aK fun T=>?_) (aJ fun T=>?_)
  ·exact iQ 11 U<|cy<|cr aj 9 hQ U U<|cB (ep A hx (by simp only [bW,cQ];omega)).symm
  refine iQ 1 U<|dS (LP (aa.cells x.kU) 0 U bP U U U)<|dS (CL (sb x.kU 0 5000) (aA) U)<|dP 3 [] mn ?_;refine iI (t:=54) U (aK fun AA=>?_) (aJ fun AA=>?_)
  ·exact iQ 5 U<|cy<|cr aj 9 hQ U U<|cB (ep A hx (by simp only [bW,cQ];omega)).symm
  refine jY 2 [] (mc 0 U mn) U<|dS (CL (qU x.zZ 0 5000) (aA) U)<|iQ 2 U<|cy<|aq aj 2 ?_;refine bY U (aK fun V=>?_) (aJ fun V=>?_)
  ·exact cr aY 6 hQ U U<|cB (ep A hx (by simp only [bW,cQ];omega)).symm
  refine dF aY 11 [] (mc 0 U mn) U<|rS (BI U ny)<|aq aj 3 ?_;refine bY U (aG fun W=>?_) (aH fun W=>?_)
  ·refine ck aY 7 [] (mc 0 U mn) ?_;refine bK (t:=68) U (aK fun X=>?_) (aJ fun X=>?_)
   ·exact cr aj 14 hQ U U<|cB (ep A hx (by simp only [bW,cQ];omega)).symm
   refine ck aj 7 [] (mc 0 U mn) ?_;refine bE U (aJ fun Y=>?_) (aK fun Y=>?_)
   ·refine aq aY 9 ?_;refine aL (B ⟨(i+1),⟨I,iD A hx (by simp only [bW,cQ];omega),by rw [gW hx];omega⟩⟩ _ _ _ U os (aN U) (aB [1,2]))
   exact cr aY 6 hQ U U<|cB (ep A hx (by simp only [bW,cQ];omega)).symm
  refine aU aY 3 U<|rS (BI U ny)<|aq aj 3 ?_;refine bY U (aG fun Z=>?_) (aH fun Z=>?_)
  ·refine aq aY 2 ?_;refine bE U (aH fun a=>?_) (aG fun a=>?_)
   ·exact cr aY 6 hQ U U<|cB (ow I).symm
   refine aU aY 3 U<|rS (LP (aa.cells x.eu) 0 U bP U U U)<|rS (CL (sb x.eu 500 20000) (aA) U)<|aq aj 3 ?_;refine bE U (aJ fun b=>?_) (aK fun b=>?_)
   ·refine aq aY 9 ?_;refine aL (B ⟨(i+1),⟨I,iD A hx (by simp only [bW,cQ];omega),by rw [gW hx];omega⟩⟩ _ _ _ U os (aN U) (aB [1,2]))
   exact cr aY 6 hQ U U<|cB (ep A hx (by simp only [bW,cQ];omega)).symm
  refine aU aY 1 U<|rS (BI U ny)<|aq aj 3 ?_;refine bE U (aH fun c=>?_) (aG fun c=>?_)
  ·exact cr aY 6 hQ U U<|cB (ep A hx (by simp only [bW,cQ];omega)).symm
  refine aU aY 3 U<|rS (LP (aa.cells x.eu) 0 U bP U U U)<|rS (CL (sb x.eu 500 20000) (aA) U)<|aq aj 3 ?_;refine bE U (aJ fun d=>?_) (aK fun d=>?_)
  ·refine aq aY 9 ?_;refine aL (B ⟨(i+1),⟨I,iD A hx (by simp only [bW,cQ];omega),by rw [gW hx];omega⟩⟩ _ _ _ U os (aN U) (aB [1,2]))
  exact cr aY 6 hQ U U<|cB (ep A hx (by simp only [bW,cQ];omega)).symm
 refine dP 6 [0,1] (mc 0 U (mc 1 U mn)) ?_;obtain ⟨y,hy⟩:=ay ts (i-1) I;have h:=bx ag.cells hy;refine dS (IA (i-1) U (av 2 U) vD dc I I)<|dS (p9 ((i-1)*9) U (av 2 U) (e6 I dc) eB U) ?_;have l:=G6 I hy;refine dS (gF (i-1) 0 (vI y.Id) U bP (av 2 U) h U dc U)<|dP 4 [] mn ?_;refine iI (t:=42) U (aG fun G=>?_) (aH fun G=>?_)
 ·exact iQ 17 U<|cy<|cr aj 9 hQ U U<|cB (ep A hx (by simp only [bW,cQ];omega)).symm
 refine iQ 1 U<|dS (LP (aa.cells x.jd) 0 U bP U U U)<|dS (CL (sb x.jd 1 30000) (aA) U)<|dP 3 [] mn ?_;refine iI (t:=48) U (aK fun H=>?_) (aJ fun H=>?_)
 ·exact iQ 11 U<|cy<|cr aj 9 hQ U U<|cB (ep A hx (by simp only [bW,cQ];omega)).symm
 refine iQ 1 U<|dS (LP (aa.cells x.kU) 0 U bP U U U)<|dS (CL (sb x.kU 0 5000) (aA) U)<|dP 3 [] mn ?_;refine iI (t:=54) U (aK fun AB=>?_) (aJ fun AB=>?_)
 ·exact iQ 5 U<|cy<|cr aj 9 hQ U U<|cB (ep A hx (by simp only [bW,cQ];omega)).symm
 refine jY 2 [] (mc 0 U mn) U<|dS (CL (qU x.zZ 0 5000) (aA) U)<|iQ 2 U<|cy<|aq aj 2 ?_;refine bY U (aK fun J=>?_) (aJ fun J=>?_)
 ·exact cr aY 6 hQ U U<|cB (ep A hx (by simp only [bW,cQ];omega)).symm
 refine dF aY 11 [] (mc 0 U mn) U<|rS (BI U ny)<|aq aj 3 ?_;refine bY U (aG fun K=>?_) (aH fun K=>?_)
 ·refine ck aY 7 [] (mc 0 U mn) ?_;refine bK (t:=68) U (aK fun L=>?_) (aJ fun L=>?_)
  ·exact cr aj 14 hQ U U<|cB (ep A hx (by simp only [bW,cQ];omega)).symm
  refine ck aj 7 [] (mc 0 U mn) ?_;refine bE U (aJ fun M=>?_) (aK fun M=>?_)
  ·refine aq aY 9 ?_;refine aL (B ⟨(i+1),⟨I,iD A hx (by simp only [bW,cQ];omega),by rw [gW hx];omega⟩⟩ _ _ _ U os (aN U) (aB [1,2]))
  exact cr aY 6 hQ U U<|cB (ep A hx (by simp only [bW,cQ];omega)).symm
 refine aU aY 3 U<|rS (BI U ny)<|aq aj 3 ?_;refine bY U (aG fun N=>?_) (aH fun N=>?_)
 ·refine aq aY 2 ?_;refine bE U (aH fun O=>?_) (aG fun O=>?_)
  ·exact cr aY 6 hQ U U<|cB (ow I).symm
  refine aU aY 3 U<|rS (LP (aa.cells x.eu) 0 U bP U U U)<|rS (CL (sb x.eu 500 20000) (aA) U)<|aq aj 3 ?_;refine bE U (aJ fun P=>?_) (aK fun P=>?_)
  ·refine aq aY 9 ?_;refine aL (B ⟨(i+1),⟨I,iD A hx (by simp only [bW,cQ];omega),by rw [gW hx];omega⟩⟩ _ _ _ U os (aN U) (aB [1,2]))
  exact cr aY 6 hQ U U<|cB (ep A hx (by simp only [bW,cQ];omega)).symm
 refine aU aY 1 U<|rS (BI U ny)<|aq aj 3 ?_;refine bE U (aH fun R=>?_) (aG fun R=>?_)
 ·exact cr aY 6 hQ U U<|cB (ep A hx (by simp only [bW,cQ];omega)).symm
 refine aU aY 3 U<|rS (LP (aa.cells x.eu) 0 U bP U U U)<|rS (CL (sb x.eu 500 20000) (aA) U)<|aq aj 3 ?_;refine bE U (aJ fun S=>?_) (aK fun S=>?_)
 ·refine aq aY 9 ?_;refine aL (B ⟨(i+1),⟨I,iD A hx (by simp only [bW,cQ];omega),by rw [gW hx];omega⟩⟩ _ _ _ U os (aN U) (aB [1,2]))
 exact cr aY 6 hQ U U<|cB (ep A hx (by simp only [bW,cQ];omega)).symm
theorem w6 (ts:List ag) (tsA:OA) (tsC:Nat) (hlen:ts.length≤1000000) (hside: ∀ x∈ts,0≤x.gu∧x.gu≤255):
 dh Tryz.prog 111 [(vA (aZ.cells (aZ.mk (aX.mk tsA ts.length tsC))))] [(l0 tsA ts)] (vI (if cD ts=true then 0 else 10)):=by
 refine bj kr Tryz.func111 U U fun h Q hQ hN=>?_
 try dsimp only
 refine aU bT 2 U<|dV U fun g=>aU aj 3 U<|DG U<|ck bT 6 [] (mc 0 U mn) ?_;refine dC (xs:=[.tmp 11]) (cs:=[(vI (ts.length:Int))]) U cO jU U U U U (by simp [Value.cells]) U U fun d=>?_;refine rS (CL (dh.eq (q_ 1 12 ([(ts.length:Int)]) (some ⟨d,0,none⟩) 1 (by (simp;done))) cp) (aw (aM 0 U U (by simp [br]) U)<|aA) U) ?_;refine aq aj 3 ?_;refine bY U (aK fun e=>?_) (aJ fun e=>?_)
 ·exact cr aY 6 hQ U U<|cI (c1 (by rw [ow I];decide)).symm
 refine ck aY 25 [] (mc 1 U mn) ?_;have B:(0≤ts.length)∧(fj (-1) ts=fj (g6 ts 0) (ts.drop 0))∧(-1≤g6 ts 0)∧(g6 ts 0≤9999):=by (refine ⟨I,rfl,by simp [g6],by simp [g6]⟩)
 refine bw (ι:={z:Nat // (z≤ts.length)∧(fj (-1) ts=fj (g6 ts z) (ts.drop z))∧(-1≤g6 ts z)∧(g6 ts z≤9999)}) [1,4,16,17] [1,2] U U (fun z=>[(3,(vI (g6 ts z.1))),(18,(vI (z.1:Int)))]) (fun z=>[]) (fun _=>rfl) (fun _=>rfl) (fun z=>ts.length-z.1) ⟨0,B⟩ (aN U) (aB [1,2]) ?_;clear B;rintro ⟨i,⟨Y,A,Z,a⟩⟩ J13 C
 try dsimp only
 refine aq bT 6 ?_;refine bE U (aH fun O=>?_) (aG fun O=>?_)
 ·exact aU aY 1 U<|cr fz 9 hQ U U<|cI (c0 (sY A I I)).symm
 refine aq aY 6 ?_;obtain ⟨x,hx⟩:=ay ts i I;have b:=bx ag.cells hx;refine rS (IA i U (av 1 U) vD dc I I) ?_;have f:=hside x (aF hx);refine rS (k8 i 0 (ag.cells x) U bP (av 1 U) b U dc U U)<|AL U HY fun c=>eM U Tc U<|aq aj 2 ?_;refine nV (ι:=Unit) [1,3,4,6,16,17,18] [0,1,2] U U (fun z=>[(7,(vB (decide (x.gu=0∧x.eu.Lo=0∧x.eu.Hi=0))))]) (fun z=>[]) (fun _=>rfl) (fun _=>rfl) ?_ fun K20 D=>?_
 ·intro _
  try dsimp only
  refine nV (ι:=Unit) [1,3,4,6,7,16,17,18] [0,1,2] U U (fun z=>[(8,(vB (decide ((1≤x.gu∧x.gu≤2)∧x.eu.Lo≤x.eu.Hi∧500≤x.eu.Lo∧x.eu.Hi≤20000))))]) (fun z=>[]) (fun _=>rfl) (fun _=>rfl) ?_ fun K21 E=>?_
  ·intro _
   try dsimp only
   refine ck aY 7 [] (mc 0 U mn) ?_;refine dC (xs:=[.tmp 44]) (cs:=[(vI x.Id)]) U cO jU U U U U (by simp [Value.cells]) U U fun M=>?_;refine rS (CL (dh.eq (q_ ((g6 ts i)+1) 9999 ([x.Id]) (some ⟨M,0,none⟩) 1 (by (simp;done))) cp) (aw (aM 0 U U (by simp [br]) U)<|aA) U) ?_;refine aq aj 2 ?_;refine bK (t:=48) U (aK fun S=>?_) (aJ fun S=>?_)
   ·exact aU aj 35 U<|cr fz 9 hQ U U<|cI (c1 (by rw [ep A hx (by simp only [bW,cQ];omega)];decide)).symm
   refine aU aj 1 U<|rS (LP (aa.cells x.jd) 1 U bP U U U)<|rS (CL (zg x.jd 1 30000) (aA) U)<|aq aj 3 ?_;refine bK (t:=54) U (aK fun T=>?_) (aJ fun T=>?_)
   ·exact aU aj 29 U<|cr fz 9 hQ U U<|cI (c1 (by rw [ep A hx (by simp only [bW,cQ];omega)];decide)).symm
   refine aU aj 1 U<|rS (LP (aa.cells x.kU) 1 U bP U U U)<|rS (CL (zg x.kU 0 5000) (aA) U)<|aq aj 3 ?_;refine bK (t:=60) U (aK fun AA=>?_) (aJ fun AA=>?_)
   ·exact aU aj 23 U<|cr fz 9 hQ U U<|cI (c1 (by rw [ep A hx (by simp only [bW,cQ];omega)];decide)).symm
   refine ck aj 2 [] (mc 1 U mn) ?_;refine dC (xs:=[.tmp 62]) (cs:=[(vI x.zZ)]) U cO jU U U U U (by simp [Value.cells]) U U fun N=>?_;refine rS (CL (dh.eq (q_ 0 5000 ([x.zZ]) (some ⟨N,0,none⟩) 1 (by (simp;done))) cp) (aw (aM 0 U U (by simp [br]) U)<|aA) U) ?_;refine aq aj 3 ?_;refine bK (t:=67) U (aK fun V=>?_) (aJ fun V=>?_)
   ·exact aU aj 16 U<|cr fz 9 hQ U U<|cI (c1 (by rw [ep A hx (by simp only [bW,cQ];omega)];decide)).symm
   refine aq aj 3 ?_;refine cz (t:=70) U (aJ fun W=>?_) (aK fun W=>?_)
   ·refine ck aj 20 [] (mc 2 U mn) ?_;have K:(vI (g6 ts (i+1)))=(vI x.Id):=by rw [gW hx]
    refine aL (C ⟨(i+1),⟨I,iD A hx (by simp only [bW,cQ];omega),by rw [gW hx];omega,by rw [gW hx];omega⟩⟩ _ _ _ U os (cx 4<|aQ U K<|aN U) (aB [3,4]))
   refine aq aj 6 ?_;refine bY U (aK fun X=>?_) (aJ fun X=>?_)
   ·refine aU aY 6 U<|cr fz 9 hQ U U ?_
    first|exact cI (c1 (by rw [ow I];decide)).symm|exact cI (c1 (by rw [ep A hx (by simp only [bW,cQ];omega)];decide)).symm|exact cI (c0 (sY A I I)).symm
   refine ck aY 13 [] (mc 2 U mn) ?_;have J:(vI (g6 ts (i+1)))=(vI x.Id):=by rw [gW hx]
   refine aL (C ⟨(i+1),⟨I,iD A hx (by simp only [bW,cQ];omega),by rw [gW hx];omega,by rw [gW hx];omega⟩⟩ _ _ _ U os (cx 4<|aQ U J<|aN U) (aB [3,4]))
  refine ck bT 3 [] (mc 0 U mn) ?_;refine rS (SX (qh (m:=x.gu) U U My nZ (mH (by first|assumption|omega))) U U)<|dC (xs:=[.tmp 33]) (cs:=[(vI x.gu)]) U cO jU U U U U (by simp [Value.cells]) U U fun L=>?_;refine rS (CL (dh.eq (q_ 1 2 ([x.gu]) (some ⟨L,0,none⟩) 1 (by (simp;done))) cp) (aw (aM 0 U U (by simp [br]) U)<|aA) U) ?_;refine aq aj 1 ?_;refine cz (t:=36) U (aH fun R=>?_) (aG fun R=>?_)
  ·refine aq aj 6 ?_;have AB:(decide ((1≤x.gu∧x.gu≤2)∧x.eu.Lo≤x.eu.Hi∧500≤x.eu.Lo∧x.eu.Hi≤20000))=false:=bg I;refine aL (j7 (cx 8<|ph U AB<|cV.nil _) (aB [1,2,3]) (E ()))
  refine aU aj 1 U<|rS (LP (aa.cells x.eu) 1 U bP U U U)<|rS (CL (zg x.eu 500 20000) (aA) U)<|aq aj 3 ?_;have H:(decide ((1≤x.gu∧x.gu≤2)∧x.eu.Lo≤x.eu.Hi∧500≤x.eu.Lo∧x.eu.Hi≤20000))=(decide (x.eu.Lo≤x.eu.Hi∧500≤x.eu.Lo∧x.eu.Hi≤20000)):=gR.2 I;refine aL (j7 (cx 8<|ph U H<|cV.nil _) (aB [1,2,3]) (E ()))
 refine dF bT 3 [] (mc 0 U mn) U<|rS (BI U ny)<|aq aj 1 ?_;refine cz (t:=25) U (aH fun P=>?_) (aG fun P=>?_)
 ·refine aq aj 7 ?_;have G:(decide (x.gu=0∧x.eu.Lo=0∧x.eu.Hi=0))=false:=bg I;refine aL (j7 (cx 7<|ph U G<|cV.nil _) (aB [0,1,2]) (D ()))
 refine aU aj 1 U<|rS (LP (aa.cells x.eu) 0 U bP U U U)<|rS (SX (aW (xs:=[]) (cs:=(aa.cells (aa.mk 0 0))) U U (aV gQ U)) U U)<|rS (BI U (wN _ _ x.eu (aa.mk 0 0)))<|aq aj 3 ?_;have F:(decide (x.gu=0∧x.eu.Lo=0∧x.eu.Hi=0))=(decide (x.eu=(aa.mk 0 0))):=gR.2 (by (simp only [aa.ext_iff] at *;omega));refine aL (j7 (cx 7<|ph U F<|cV.nil _) (aB [0,1,2]) (D ()))
theorem yn (la:List aa) (laA:OA) (laC:Nat) (lb:List aa) (lbA:OA) (lbC:Nat) (h1:la.length≤1000000) (h2:lb.length≤1000000):
 dh Tryz.prog 100 [(vS laA la.length laC),(vS lbA lb.length lbC)] [(Vl laA la),(Vl lbA lb)] (vB (decide (la=lb))):=by
 refine bj kr Tryz.func100 U U fun AA Q hQ hN=>?_
 try dsimp only
 refine aq bT 15 ?_;refine bY U (aK fun hl=>?_) (aJ fun hl=>?_)
 ·refine cr aY 6 hQ U U ?_
  first|exact cB (bg (kg hx hy h)).symm|exact cB (cR (iE I A I)).symm|exact cB (bg (fun e=>by subst e;omega)).symm
 refine aq aY 9 ?_;have B:(0≤la.length)∧(la.take 0=lb.take 0):=by simp
 refine bw (ι:={z:Nat // (z≤la.length)∧(la.take z=lb.take z)}) [0,1] [0,1] U U (fun z=>[(5,(vI (z.1:Int)))]) (fun z=>[]) (fun _=>rfl) (fun _=>rfl) (fun z=>la.length-z.1) ⟨0,B⟩ (aN U) (aB [0,1]) ?_;clear B;rintro ⟨i,⟨F,A⟩⟩ J7 E
 try dsimp only
 refine aq bT 9 ?_;refine bE U (aH fun D=>?_) (aG fun D=>?_)
 ·refine aU aY 1 U<|cr fz 8 hQ U U ?_
  first|exact cB (bg (kg hx hy h)).symm|exact cB (cR (iE I A I)).symm|exact cB (bg (fun e=>by subst e;omega)).symm
 refine aU aY 5 U<|cL bX 9 kr<|dP 2 [] mn ?_;obtain ⟨x,hx⟩:=ay la i I;have G:=bx aa.cells hx;refine dS (IA i U (av 0 U) iv dc I I)<|dS (k8 i 0 (aa.cells x) U bP (av 0 U) G U dc U U)<|dP 2 [] mn ?_;obtain ⟨y,hy⟩:=ay lb i I;have H:=bx aa.cells hy;refine dS (IA i U (av 1 U) iv dc I I)<|dS (k8 i 0 (aa.cells y) U bP (av 1 U) H U dc U U)<|dS (BI U (E3 _ _ x y))<|cy<|aq aj 2 ?_;refine bY U (aK fun h=>?_) (aJ fun h=>?_)
 ·refine cr aY 6 hQ U U ?_
  first|exact cB (bg (kg hx hy h)).symm|exact cB (cR (iE I A I)).symm|exact cB (bg (fun e=>by subst e;omega)).symm
 refine aq aY 8 ?_;have C:(vI (((i+1):Nat):Int))=(vI ((i:Int)+1)):=by exact cI I
 refine aL (E ⟨(i+1),⟨I,iP A hx hy h⟩⟩ _ _ _ U os (cV.cons U<|cV.cons U<|aQ U C<|cV.nil _) (aB [0,1]))
theorem U0 (la:List ag) (laA:OA) (laC:Nat) (lb:List ag) (lbA:OA) (lbC:Nat) (h1:la.length≤1000000) (h2:lb.length≤1000000):
 dh Tryz.prog 83 [(vA (aZ.cells (aZ.mk (aX.mk laA la.length laC)))),(vA (aZ.cells (aZ.mk (aX.mk lbA lb.length lbC))))] [(l0 laA la),(l0 lbA lb)] (vB (decide (la=lb))):=by
 refine bj kr Tryz.func83 U U fun K Q hQ hN=>?_
 try dsimp only
 refine aU bT 2 U<|dV U fun AA=>dV U fun J=>ck aj 15 [0,1] (mc 1 U (mc 0 U mn)) ?_;refine bY U (aK fun hl=>?_) (aJ fun hl=>?_)
 ·exact cr aY 6 hQ rfl rfl<|cB (bg (fun e=>by subst e;omega)).symm
 refine aq aY 9 ?_;have A:(0≤la.length)∧(la.take 0=lb.take 0):=by simp
 refine bw (ι:={z:Nat // (z≤la.length)∧(la.take z=lb.take z)}) [2,3] [0,1,2,3] U U (fun z=>[(5,(vI (z.1:Int)))]) (fun z=>[]) (fun _=>rfl) (fun _=>rfl) (fun z=>la.length-z.1) ⟨0,A⟩ (aN U) (aB [0,1,2,3]) ?_;clear A;rintro ⟨i,⟨F,B⟩⟩ J9 E
 try dsimp only
 refine ck bT 10 [] (mc 1 U mn) ?_;refine bE U (aH fun D=>?_) (aG fun D=>?_)
 ·exact aU aY 1 U<|cr fz 8 hQ U U<|cB (cR (iE I B I)).symm
 refine aU aY 5 U<|cL bX 11 kr<|dP 3 [] (mc 1 U mn) ?_;obtain ⟨x,hx⟩:=ay la i I;have G:=bx ag.cells hx;refine dS (IA i U (av 2 U) vD dc I I)<|dS (k8 i 0 (ag.cells x) U bP (av 2 U) G U dc U U)<|dP 3 [] (mc 0 U mn) ?_;obtain ⟨y,hy⟩:=ay lb i I;have H:=bx ag.cells hy;refine dS (IA i U (av 3 U) vD dc I I)<|dS (k8 i 0 (ag.cells y) U bP (av 3 U) H U dc U U)<|dS (BI U (Yn _ _ x y))<|cy<|aq aj 2 ?_;refine bY U (aK fun h=>?_) (aJ fun h=>?_)
 ·exact cr aY 6 hQ U U<|cB (bg (kg hx hy h)).symm
 refine aq aY 8 ?_;have C:(vI (((i+1):Nat):Int))=(vI ((i:Int)+1)):=by exact cI I
 refine aL (E ⟨(i+1),⟨I,iP B hx hy h⟩⟩ _ _ _ U os (cV.cons U<|cV.cons U<|aQ U C<|cV.nil _) (aB [0,1,2,3]))
theorem Ab (la:List Int) (laA:OA) (laC:Nat) (lb:List Int) (lbA:OA) (lbC:Nat) (h1:la.length≤1000000) (h2:lb.length≤1000000):
 dh Tryz.prog 14 [(vS laA la.length laC),(vS lbA lb.length lbC)] [(jx laA la),(jx lbA lb)] (vB (decide (la=lb))):=by
 refine bj kr Tryz.func14 U U fun AA Q hQ hN=>?_
 try dsimp only
 refine aq bT 15 ?_;refine bY U (aK fun hl=>?_) (aJ fun hl=>?_)
 ·exact cr aY 6 hQ rfl rfl<|cB (bg (fun e=>by subst e;omega)).symm
 refine aq aY 9 ?_;have A:(0≤la.length)∧(la.take 0=lb.take 0):=by simp
 refine bw (ι:={z:Nat // (z≤la.length)∧(la.take z=lb.take z)}) [0,1] [0,1] U U (fun z=>[(5,(vI (z.1:Int)))]) (fun z=>[]) (fun _=>rfl) (fun _=>rfl) (fun z=>la.length-z.1) ⟨0,A⟩ (aN U) (aB [0,1]) ?_;clear A;rintro ⟨i,⟨F,B⟩⟩ J7 E
 try dsimp only
 refine aq bT 9 ?_;refine bE U (aH fun D=>?_) (aG fun D=>?_)
 ·exact aU aY 1 U<|cr fz 8 hQ U U<|cB (cR (iE I B I)).symm
 refine aU aY 5 U<|cL bX 9 kr<|dP 2 [] mn ?_;obtain ⟨x,hx⟩:=ay la i I;have G:=bx iC hx;refine dS (IA i U (av 0 U) cO dc I I)<|dS (gF i 0 (vI x) U bP (av 0 U) G U dc U)<|dP 2 [] mn ?_;obtain ⟨y,hy⟩:=ay lb i I;have H:=bx iC hy;refine dS (IA i U (av 1 U) cO dc I I)<|dS (gF i 0 (vI y) U bP (av 1 U) H U dc U)<|iQ 1 U<|cy<|aq aj 2 ?_;refine bY U (aK fun h=>?_) (aJ fun h=>?_)
 ·exact cr aY 6 hQ U U<|cB (bg (kg hx hy h)).symm
 refine aq aY 8 ?_;have C:(vI (((i+1):Nat):Int))=(vI ((i:Int)+1)):=by exact cI I
 refine aL (E ⟨(i+1),⟨I,iP B hx hy h⟩⟩ _ _ _ U os (cV.cons U<|cV.cons U<|aQ U C<|cV.nil _) (aB [0,1]))
end
section
open Go.RowKit
theorem Wq {x y:Operand} {k:TypeId} {p:Option Nat} (h:P.underlying t=some (.map k e)):g8 P .eql t x y (.map p) (.map none) (.bool p.isNone):=fun w=>by
 have A:(Op.equal t (.map p) (.map none)).run P w= .ok p.isNone w:=by
  unfold Op.equal;show (Op.equalIn (9999+1) t (.map p) (.map none)).run P w=_
  unfold Op.equalIn;cases p<;>simp [k3 h]
 have B:eqGuard .eql t x y (.map p) (.map none)=pure ():=rfl;rw [B];show (Sem.run P (do let b ← Op.equal t (.map p) (.map none);pure (vB b)) w)=_
 simp [A]
theorem Ig {r:Nat} {es:Array MapEntry} {clock:Nat} (t:TypeId) (hb:w.heap[r]? =some (.map es clock)):
 (Extern.MapsClone.clone #[.iface t (.map (some r))]).run P w= .ok (.iface t (.map (some w.heap.size))) (w.alloc (.map es clock)):=by
 have e:Extern.MapsClone.clone #[.iface t (.map (some r))]=(getObj r >>= fun o=>match o with
  | .map entries clock=>(newObj (.map entries clock) >>= fun n=>pure (.iface t (.map (some n))))
  |_=>stuck "maps.clone: a map expected"):=rfl
 rw [e];simp [AAc hb,Result.andThen,go_sem]
theorem Ea {k:TypeId} (h:P.underlying t=some (.map k e)):(Instr.typeAssert (.iface t v) xt t false).run P w= .ok v w:=by
 simp [Instr.typeAssert,k3 h,go_sem,Result.andThen]
theorem yG {g t:Nat} {n:Nat} (i:Nat) (hC:C[i]? =some (cb g t cs).ro) (h1:es.length=n) (h2:∀ e∈es,e.length=sz) (h3:es.flatten=cs):ig C (rd (some ⟨g,0,none⟩) n sz es).holds:=fun w hw=>
 xn (show (cb g t cs).holds w from hw (cb g t cs).ro (aF hC)) h1 h2 ⟨[],by simp [h3]⟩
section
variable {E:fJ} {ops:Array Oper} {Q:du} {rest:List Oper} {D:List Deferred} {L:List (Nat×Value)} {C:List au}
variable {dst:Option Nat} {d:Nat} {ty:TypeId} {ps:String} {af:Array Edge} {g:Option (Nat×Bool)}
theorem PM {k:TypeId} (h:P.underlying t=some (.map k e)):(Instr.makeInterface t v).run P w= .ok (.iface t v) w:=by
 simp [Instr.makeInterface,k3 h,Result.andThen]
theorem SN {k:TypeId} {x:Operand} (hg:kz ops L g=true) (hx:ev L x=some v) (ht:E.P.underlying t=some (.map k e)):SD E ops ⟨dst,.makeInterface t x,ty,ps,af,g⟩ D L C (.iface t v):=
 eo hg sm fun a w hf _=>by
  have e:=hf.ev hx;simp only [execOp,e];rw [AAf,PM ht];simp
theorem YR {x:Operand} (hg:kz ops L g=true) (hx:ev L x=some (.iface t v)) (ht:E.P.underlying t=some (.map kt et)):SD E ops ⟨dst,.typeAssert x xt t false,ty,ps,af,g⟩ D L C v:=
 eo hg sm fun a w hf _=>by
  have e:=hf.ev hx;simp only [execOp,e];rw [AAf,Ea ht];simp
theorem OH {K:Type} [DecidableEq K] {kV:K→Value} {x:Operand} {f:FuncId} {t b:Nat} {m:List (K×Value)} (hg:kz ops L g=true) (hx:ev L x=some (.iface t (.map (some b)))) (hf:E.P.funcs[f]? =some fn) (hname:(fn.name=="runtime.NumGoroutine")=false) (hb:fn.body.isNone=true) (hn:Extern.findNext fn=none) (he:Extern.find fn=some Extern.MapsClone.clone) (hC:ig C (iu kV b m).holds) (hd:blt d E.n=true) (k:∀ b',RJ E ops Q rest D ((d,.iface t (.map (some b')))::L) (iu kV b' m::C)):
 RJ E ops Q (⟨some d,.call {callee:= .value (.func f),args:= #[x],argTypes:=ts},ty,ps,af,g⟩::rest) D L C:=by
 intro a w B hs;have hd':d<E.n:=by rw [← u7];exact hd
 obtain ⟨es,c,F,hi⟩:=hC w hs.holds;unfold uJ;rw [c0 (eH B hg)];refine jr (v:= .iface t (.map (some w.heap.size))) (w':=w.alloc (.map es c)) sm ?_ ?_
 ·have e:=B.ev hx;have G:a.eval (.func f)= .func (.func f) #[] #[]:=rfl;simp [execOp,resolve,e,G,Deferred.ofValue,invoke,run_callFunc_extern hf hname hb hn he,Ig t F]
 ·refine k _ _ _ (B.put hd' _) (hs.grow (ed.alloc no w _) (N:=[iu kV w.heap.size m]) ⟨fun A hA=>?_,fun A hA b hb=>?_,AAY _ _⟩)
  ·simp at hA;subst hA;exact ⟨es,c,ACB w _,hi⟩
  ·simp at hA;subst hA;exact ACJ (Eq.symm hb)
end
end
section
open Go.RowKit
theorem Ez (lA:OA) (lN lC:Nat):
 ld Tryz.prog 71 [(vS lA lN lC)] [] (fun (x:Nat)=>(Value.func (.func 113) [].toArray [(vP x)].toArray)) (fun (x:Nat)=>True) (fun (x:Nat)=>[(cb x 29 [(vS lA lN lC)])]):=by
 refine cU kr Tryz.func71 U U fun B Q hQ hN=>?_
 try dsimp only
 refine aU bT 2 U<|sK U U fun A=>aU aj 5 U<|rS (FU U)<|aq aj 4 ?_;refine LX hQ A [0] [] mn U U U U ?_;trivial
theorem P1 (nl:List Int) (nlA:OA) (nlC g1:Nat) (hlen:nl.length≤12):
 PD Tryz.prog 113 [] [(vP g1)] [(jx nlA nl),(cb g1 29 [(vS nlA nl.length nlC)])] (tg nl):=by
 refine C4 kr Tryz.func113 U U fun l J Z A0 M Q hY AA H hQ hN=>?_
 try dsimp only
 refine ck bT 8 [] (mr 2 U mn) ?_;have F:(0≤nl.length)∧(J 0 A0)∧(Fo A0 M A0):=by exact ⟨c4 _,AA,H⟩
 refine bw (ι:={z:Nat×au // (z.1≤nl.length)∧(J z.1 z.2)∧(Fo A0 M z.2)}) [0,1,5,6] [1] U U (fun z=>[(7,(vI (z.1.1:Int)))]) (fun z=>[z.1.2]) (fun _=>rfl) (fun _=>rfl) (fun z=>nl.length-z.1.1) ⟨(0,A0),F⟩ (aN U) (aB [1,0]) ?_;clear F;rintro ⟨⟨i,A⟩,⟨G,B,C⟩⟩ J2 K
 try dsimp only at G B C
 try dsimp only
 refine aq bT 6 ?_;refine bE U (aH fun N=>?_) (aG fun N=>?_)
 ·refine aU aY 1 U<|aq fz 1 ?_;refine hN _ _ _ (g4 (vs:=[]) trivial fun w hs=>Vm 1 U (by rw [wb];have e:nl.length=i:=I;rw [e];exact B) C hs)
 refine aq aY 6 ?_;obtain ⟨x,hx⟩:=ay nl i I;have L:=bx iC hx;refine rS (IA i U (av 0 U) cO dc I I)<|rS (gF i 0 (vI x) U bP (av 0 U) L U dc U)<|aq aj 7 ?_;refine zh 1 hY B C U U U (Mc hx) U U (fun B9 E D=>?_) (fun B9 E D=>?_);rotate_left 1
 ·refine aq aj 5 ?_;refine hQ _ _ _ (g4 (vs:=[]) trivial fun w hs=>JJ 1 U E D hs)
 refine aq aj 11 ?_;refine aL (K ⟨((i+1),B9),⟨I,E,D⟩⟩ _ _ _ U os (aN U) (aB [0,1]))
end
section
open Go.RowKit
theorem SP (x:Int):
 dh Tryz.prog 177 [(vI x)] [] (vB false):=by
 refine bj kr Tryz.func177 U U fun A Q hQ hN=>?_
 try dsimp only
 refine cr bT 14 hQ U U ?_;simp
theorem Q6 (x y:Int):
 dh Tryz.prog 135 [(vI x),(vI y)] [] (vB (decide (x<y))):=by
 refine bj kr Tryz.func135 U U fun A Q hQ hN=>?_
 try dsimp only
 exact aU bT 8 U<|rS (CL (SP x) (aA) U)<|cr aj 14 hQ U U<|cB (gR.2 I)
variable (l:List Int) (lA:OA) (lC:Nat) (u:Int)
theorem KM (hlen:l.length≤1000000):
 IE Tryz.prog 129 [(vS lA l.length lC),(vI 0),(vI (l.length:Int))] [] (lX lA lC l) (fun (x:(List Int))=>(vT [])) (fun (x:(List Int))=>x.Perm l∧x.Pairwise (· ≤ ·)) (fun (x:(List Int))=>(lX lA lC x)):=by
 refine qq kr Tryz.func129 U U fun W Q hQ hN=>?_
 try dsimp only
 refine aU bT 3 U<|rS (SX (cm (r:= .int .i64 1) U U U (jq ⟨dc,dc⟩)) U U)<|aq aj 4 ?_;have A:(1≤1∧(1≤l.length∨1=1))∧(l.length=l.length)∧(l.Perm l)∧(U6 l 1):=by exact ⟨I,rfl,ABY _,Sv⟩
 refine bw (ι:={z:Nat×(List Int) // (1≤z.1∧(z.1≤l.length∨z.1=1))∧(z.2.length=l.length)∧(z.2.Perm l)∧(U6 z.2 z.1)}) [0,1,2] [] U U (fun z=>[(6,(vI (z.1.1:Int)))]) (fun z=>[(lX lA lC z.1.2)]) (fun _=>rfl) (fun _=>rfl) (fun z=>l.length-z.1.1) ⟨(1,l),A⟩ (aN U) (aB [0]) ?_;clear A;rintro ⟨⟨i,m⟩,⟨J,AB,E,F⟩⟩ J2 L
 try dsimp only at J AB E F
 try dsimp only
 refine aq bT 8 ?_;refine bE U (aH fun V=>?_) (aG fun V=>?_)
 ·refine aU aY 1 U<|aq fz 1 ?_;refine LM hN m 0 [] mn U U U U ?_;exact ⟨E,RM F I⟩
 refine aq aY 11 ?_;have A:(i≤i)∧(m.length=l.length)∧(m.Perm l)∧(V_ m i i):=by exact ⟨c9 _,AB,E,Ke F I⟩
 refine bw (ι:={z:Nat×(List Int) // (z.1≤i)∧(z.2.length=l.length)∧(z.2.Perm l)∧(V_ z.2 i z.1)}) [0,1,2,6] [] U U (fun z=>[(7,(vI (z.1.1:Int)))]) (fun z=>[(lX lA lC z.1.2)]) (fun _=>rfl) (fun _=>rfl) (fun z=>z.1.1) ⟨(i,m),A⟩ (aN U) (aB [0]) ?_;clear A;rintro ⟨⟨j,q⟩,⟨G,B,C,D⟩⟩ J8 T
 try dsimp only at G B C D
 try dsimp only
 refine aU bT 2 U<|cL bX 15 kr<|dP 4 [] mn ?_;refine iM (t:=19) U (aH fun hj=>?_) (aG fun hj=>?_)
 ·refine iQ 11 U<|cy<|aU aj 4 U<|aq fz 8 ?_;refine aL (L ⟨((i+1),q),⟨I,B,C,by exact Pc I D⟩⟩ _ _ _ U (by simp only [];omega) (aN U) (aB [0]))
 refine dP 2 [] mn ?_;obtain ⟨x,hx⟩:=ay q j I;have K:=bx iC hx;refine dS (IA j U (ao (n:=l.length) 0 U sq) cO dc I I) ?_;refine dS (gF j 0 (vI x) U bP (ao (n:=q.length) 0 U sm) K U dc U)<|dP 3 [] mn ?_;obtain ⟨y,hy⟩:=ay q (j-1) I;have S:=bx iC hy;refine dS (IA (j-1) U (ao (n:=l.length) 0 U sq) cO dc I I) ?_;refine dS (gF (j-1) 0 (vI y) U bP (ao (n:=q.length) 0 U sm) S U dc U)<|dS (CL (Q6 x y) (aA) U)<|iQ 1 U<|cy<|aq aj 2 ?_;refine bE U (aH fun H=>?_) (aG fun H=>?_)
 ·refine aU aY 1 U<|aq fz 8 ?_;refine aL (L ⟨((i+1),q),⟨I,B,C,by exact Pr hx hy I G H D⟩⟩ _ _ _ U (by simp only [];omega) (aN U) (aB [0]))
 refine aq aY 4 ?_;refine cT bX [15,16,17] [8,9,12,13,14] [] [] [0] U U U U U<|eS U (MV U)<|eS U (MV U)<|eS U (MV U)<|eS U (MV U)<|eS U (BI U (vZ ⟨I,I⟩))<|eS U (MV U)<|eS U (MV U)<|eS U (BI U (vZ ⟨I,I⟩)) ?_;refine fS U (IA (j-1) U (ao (n:=l.length) 0 U sq) cO dc I I) ?_;refine fS U (gF (j-1) 0 (vI y) U bP (ao (n:=q.length) 0 U sm) S U dc U)<|eS U (MV U)<|eS U (MV U) ?_;refine fS U (IA j U (ao (n:=l.length) 0 U sq) cO dc I I) ?_;refine fS U (gF j 0 (vI x) U bP (ao (n:=q.length) 0 U sm) K U dc U) ?_;refine fS U (IA j U (ao (n:=l.length) 0 U sq) cO dc I I) ?_;refine dL U<|bR U fun T12 M=>ej (k:=j) (o:=0) (vs:=[(vI y)]) (es':=(List.map iC (q.set j y))) (C':=[(lX lA lC (q.set j y))]) 0 U U U Gy U U U U K U dc (by exact (AAl (f:=iC) (l:=q) (i:=j) (a:=y)).symm) U<|bG (M _ _ (aB []) ?_);refine bR U fun T13 N=>?_;obtain ⟨AA,R⟩:=ay (q.set j y) (j-1) os;have hx15m:(List.map iC (q.set j y))[(j-1)]? =some (iC AA):=by rw [gO,R];rfl
 refine rS (IA (j-1) U (ao (n:=l.length) 0 U sq) cO dc I I) ?_;refine bG (N _ _ (aB []) ?_);refine bR U fun T16 O=>ej (k:=(j-1)) (o:=0) (vs:=[(vI x)]) (es':=(List.map iC ((q.set j y).set (j-1) x))) (C':=[(lX lA lC ((q.set j y).set (j-1) x))]) 0 U U U Gy U U U U hx15m U dc (by exact (AAl (f:=iC) (l:=(q.set j y)) (i:=(j-1)) (a:=x)).symm) U<|bG (O _ _ (aB []) ?_);refine eI U<|aq jC 7 ?_;have P:(vI (((j-1):Nat):Int))=(vI ((j:Int)-1)):=by exact cI I
 refine aL (T ⟨((j-1),((q.set j y).set (j-1) x)),⟨I,by simp;exact B,(Mw hx hy).trans C,QI hx hy I G H D⟩⟩ _ _ _ U (by simp only [];omega) (cx 4<|aQ U P<|cV.nil _) (aB [0]))
theorem QZ (x:Int) (hx:0≤x∧x≤100):
 ld Tryz.prog 139 [(Value.int .u64 x)] [] (fun (x:Int)=>(vI x)) (fun (x:Int)=>True) (fun (x:Int)=>[]):=by
 refine cU kr Tryz.func139 U U fun F Q hQ hN=>?_
 try dsimp only
 refine aU bT 9 U<|rS (BI U Gq)<|aq aj 2 ?_;refine bY U (aG fun D=>?_) (aH fun D=>?_)
 ·exfalso;omega
 refine aU aY 6 U<|rS (BI U Gq)<|aq aj 2 ?_;refine bY U (aG fun E=>?_) (aH fun E=>?_)
 ·exfalso;omega
 refine aU aY 6 U<|rS (BI U Gq)<|aq aj 2 ?_;refine bY U (aG fun B=>?_) (aH fun B=>?_)
 ·exfalso;omega
 refine aU aY 6 U<|rS (SX (qh (m:=x) U U Xf My (FH (by first|assumption|omega))) U U)<|V0 (k:=(x).toNat) U U U ut9 I (ABN (m:=200) I (s6 kr)) U fun A C=>rS (SX (qh (m:=A) U U My nZ (mH (by first|assumption|omega))) U U)<|aq aj 5 ?_;refine LX hQ (0+A) [] [] mn U U U U ?_;trivial
theorem UZ (x:Int) (hx:0≤x∧x≤100):
 ld Tryz.prog 90 [(Value.int .u64 x)] [] (fun (x:Int)=>(vI x)) (fun (x:Int)=>True) (fun (x:Int)=>[]):=by
 refine cU kr Tryz.func90 U U fun C Q hQ hN=>?_
 try dsimp only
 refine aq bT 12 ?_;refine cX (QZ x hx) (aA) U fun B A=>?_
 try dsimp only
 refine aq aj 4 ?_;refine LX hQ B [] [] mn U U U U ?_;trivial
theorem Za (hlen:l.length≤12):
 IE Tryz.prog 89 [(vS lA l.length lC),(vI 0),(vI (l.length:Int)),(vI u)] [] (lX lA lC l) (fun (x:(List Int))=>(vT [])) (fun (x:(List Int))=>x.Perm l∧x.Pairwise (· ≤ ·)) (fun (x:(List Int))=>(lX lA lC x)):=by
 refine qq kr Tryz.func89 U U fun E Q hQ hN=>?_
 try dsimp only
 refine aU bT 11 U<|iX 1<|eh fun R3 C=>aq bT 16 ?_;refine bE U (aH fun B=>?_) (aG fun B=>?_)
 ·exfalso;omega
 refine aq aY 5 ?_;refine kp 0 U U U U (KM l lA lC I) U mu U (fun D A=>?_)
 try dsimp only
 refine aq aj 3 ?_;refine LM hQ D 0 [] mn U U U U ?_;assumption
theorem CX (hlen:l.length≤12):
 IE Tryz.prog 45 [(vS lA l.length lC)] [] (lX lA lC l) (fun (x:(List Int))=>(vT [])) (fun (x:(List Int))=>x.Perm l∧x.Pairwise (· ≤ ·)) (fun (x:(List Int))=>(lX lA lC x)):=by
 refine qq kr Tryz.func45 U U fun E Q hQ hN=>?_
 try dsimp only
 refine aq bT 11 ?_;refine rS (SX (qh (m:=(l.length:Int)) U U nZ X_ (DS (by first|assumption|omega))) U U)<|cX (UZ (l.length:Int) I) (aA) U fun D A=>?_
 try dsimp only
 refine kp 0 U U U U (Za l lA lC D hlen) U mu U (fun C B=>?_)
 try dsimp only
 refine aq aj 1 ?_;refine LM hN C 0 [] mn U U U U ?_;assumption
end
section
open Go.RowKit
variable (nl:List Int) (nlA:OA) (nlC:Nat)
theorem N9 (g1:Nat) (hlen:nl.length≤12):
 ld Tryz.prog 118 [(vS none 0 0),(Value.func (.func 113) [].toArray [(vP g1)].toArray)] [(rd nlA nl.length 1 (nl.map iC)),(cb g1 29 [(vS nlA nl.length nlC)])] (fun (x:(OA)×Nat)=>(vS x.1 nl.length x.2)) (fun (x:(OA)×Nat)=>True) (fun (x:(OA)×Nat)=>[(own x.1 x.2 3 1 (nl.map iC))]):=by
 refine cU kr Tryz.func118 U U fun M Q hQ hN=>?_
 try dsimp only
 refine aU bT 2 U<|sK U U fun E=>aq aj 10 ?_;refine iw 1 U (by exact fun _ h=>h)<|iw 3 U (by exact fun _ h=>h)<|eC 3 1 ?_;refine yZ (L0:=[(2,(vP E))]) (F:=[(rd nlA nl.length 1 (nl.map iC)).ro,(cb g1 29 [(vS nlA nl.length nlC)]).ro]) (xs:=(tg nl)) (fun k (y:(OA)×Nat)=>True) (fun k y=>[(own y.1 y.2 3 1 ((nl.take k).map iC)),(cb E 29 [(vS y.1 ((nl.take k).length) y.2)]),(rd nlA nl.length 1 (nl.map iC)).ro]) (fun _ (_:Unit)=>False) (fun _ _=>[]) [0,3,4] [2,1] (none,0) U U (P1 nl nlA nlC g1 (by first|assumption|omega|(simp;done))) U U U (by trivial) (by simp only [AAI,h_,AAs,AAv,ABC];exact ⟨⟨_,sm,(dj (bM _))⟩,⟨_,sm,(dj (bM _))⟩⟩) (by exact HE) U (aN U) ?_ ?_ (fun _ _ _ h=>h.elim) (fun _ _ h=>h.elim);rotate_left 1
 ·rintro K ⟨a,c⟩ D
  try dsimp only
  rw [Bu];refine ck jC 9 [] (mc 4 U mn) ?_;refine hQ _ _ _ (nF 0 U U<|g4 (vs:=[(vS a nl.length c)]) ⟨U,trivial⟩ fun w hs=>EM (a,c) [3] ?_ ?_ U U U hs)
  ·rfl
  ·trivial
 rintro k x ⟨a,c⟩ l ra rb S N K5 Qr6 hx G C A H AA;obtain ⟨y,hy,rfl⟩:=Ml hx
 try dsimp only
 refine aq bT 3 ?_;refine aL (C _ _ ?_);refine ck bT 4 [] (mc 2 U mn) ?_;refine dC (xs:=[.tmp 9]) (cs:=[(vI y)]) U cO jU U U U U (by simp [Value.cells]) U U fun L=>?_;refine de (es2:=(List.map iC (nl.take (k+1)))) (m':=(nl.take (k+1)).length) 2 U U U pG U U sm (aM (es:=List.map iC [y]) 0 U U (by simp [br]) U) (j_ _) (by simp;omega) (by simp [maxLen];omega) (by rw [nI hy];simp) sm U fun J B=>?_
 try dsimp only
 refine ZJ U wk U U<|aq aj 2 ?_;exact A (J,B) _ _ (by trivial) (aB [1,2,3,4])
theorem KI (g1:Nat) (hlen:nl.length≤12):
 ld Tryz.prog 78 [(Value.func (.func 113) [].toArray [(vP g1)].toArray)] [(jx nlA nl),(cb g1 29 [(vS nlA nl.length nlC)])] (fun (x:(OA)×Nat)=>(vS x.1 nl.length x.2)) (fun (x:(OA)×Nat)=>True) (fun (x:(OA)×Nat)=>[(lX x.1 x.2 nl)]):=by
 refine cU kr Tryz.func78 U U fun E Q hQ hN=>?_
 try dsimp only
 refine aq bT 8 ?_;refine cX (N9 nl nlA nlC g1 hlen) (aP [0,1]) U fun D C=>?_;obtain ⟨A,B⟩:=D
 try dsimp only
 refine aq aj 4 ?_;refine LX hQ (A,B) [0] [] mn U U U U ?_;trivial
theorem Fy (g1:Nat) (hlen:nl.length≤12):
 ld Tryz.prog 34 [(Value.func (.func 113) [].toArray [(vP g1)].toArray)] [(jx nlA nl),(cb g1 29 [(vS nlA nl.length nlC)])] (fun (x:(OA)×Nat)=>(vS x.1 nl.length x.2)) (fun (x:(OA)×Nat)=>True) (fun (x:(OA)×Nat)=>[(lX x.1 x.2 (eg nl))]):=by
 refine cU kr Tryz.func34 U U fun F Q hQ hN=>?_
 try dsimp only
 refine aq bT 8 ?_;refine cX (KI nl nlA nlC g1 hlen) (aP [0,1]) U fun E D=>?_;obtain ⟨B,C⟩:=E
 try dsimp only
 refine aq aj 6 ?_;refine kp 0 U U U U (CX nl B C hlen) U mu U (fun m A=>?_)
 try dsimp only
 refine aq aj 4 ?_;obtain rfl:=tQ A.1 A.2
 skip
 refine aq aj 5 ?_;refine LX hQ (B,C) [0] [] mn U U U U ?_;trivial
end
section
open Go.RowKit
theorem N_ (n lo hi:Int) (g1 g2:Nat):
 dh Tryz.prog 148 [(vI n),(vP g1),(vP g2)] [(cb g1 3 [(vI lo)]),(cb g2 3 [(vI hi)])] (vB (decide (n<lo∨hi<n))):=by
 refine bj kr Tryz.func148 U U fun B Q hQ hN=>?_
 try dsimp only
 refine ck bT 11 [] (mr 0 U mn) ?_;refine bK (t:=8) U (aG fun A=>?_) (aH fun A=>?_)
 ·exact cr aj 8 hQ U U<|cB (cR I).symm
 exact yR aj 8 hQ [] (mr 1 U mn) U U<|cB (gR.2 I)
theorem iA (lo hi:Int) (l:List Int) (lA:OA) (lC:Nat) (hlen:l.length≤1000000):
 dh Tryz.prog 96 [(vI lo),(vI hi),(vS lA l.length lC)] [(jx lA l)] (vB (oJ lo hi l)):=by
 refine bj kr Tryz.func96 U U fun D Q hQ hN=>?_
 try dsimp only
 refine aU bT 2 U<|sK U U fun A=>sK U U fun B=>aq aj 6 ?_;refine rS (FU U) ?_;refine rS (CL (pE l lA lC (Value.func (.func 148) [].toArray [(vP A),(vP B)].toArray) (fun C=>(decide (C<lo∨hi<C))) (iU [(cb A 3 [(vI lo)]),(cb B 3 [(vI hi)])]) (by intro C _;exact kT (fi:=[]) (ca:=[(vP A),(vP B)]) (jJ (N_ C lo hi A B) (aP [0,1]))) hlen) (gM 2 U U<|aw (jO (aP [1,0]))<|aA) U) ?_;exact cr aj 5 hQ U U U
theorem aaX (n d:Int) (hd:2≤d):
 dh Tryz.prog 97 [(vI n),(vI d)] [] (vI (Y_ n d)):=by
 refine bj kr Tryz.func97 U U fun A Q hQ hN=>?_
 try dsimp only
 refine aU bT 9 U<|rS (BI U VK)<|rS (BI U Qn)<|aq aj 1 ?_;refine rS (BI U (V8 I (U2 (XE _) hd))) ?_;exact cr aj 4 hQ U U U
theorem Iv (n d:Int) (hd:1≤d∧d≤1000000) (hn:0≤n∧n≤1000000000000000):
 dh Tryz.prog 97 [(vI n),(vI d)] [] (vI (qz n d)):=by
 refine bj kr Tryz.func97 U U fun A Q hQ hN=>?_
 try dsimp only
 refine aq bT 12 ?_;refine rS (BI U (sx I I I)) ?_;exact cr aj 4 hQ U U U
theorem Ir (c:aS) (sA:OA) (sC:Nat) (at_:Int) (hc:fD c) (ha:0≤at_∧at_≤90000000):
 dh Tryz.prog 258 [(vA (dE.cells (dE.mk c.dI (aX.mk sA c.bo.length sC)))),(vI at_)] [(rd sA c.bo.length 3 (c.bo.map cP.cells))] (vA (aa.cells (jm c at_))):=by
 have M:=hc.len;have D:=hc.u0;refine bj kr Tryz.func258 U U fun T Q hQ hN=>?_
 try dsimp only
 refine aU bT 2 U<|dV U fun R=>AL U dD fun S=>aU aj 4 U<|rS (SX (aW (xs:=[(0,.const (vI (-1099511627776))),(1,.const (vI 1099511627776))]) (cs:=(aa.cells (aa.mk (-1099511627776) 1099511627776))) U U (aV gQ U)) U U)<|AL U dD fun L=>eM U cK U<|aq aj 4 ?_;have G:(aa.cells (aa.mk (-1099511627776) 1099511627776))=(aa.cells (ia c at_ 0)):=by rfl
 rw [G];refine ck aY 8 [] (mc 2 U mn) ?_;have A:(0≤c.bo.length):=by exact c4 _
 refine bw (ι:={z:Nat // (z≤c.bo.length)}) [1,2,4,5,11,12] [1,2,3] U U (fun z=>[(13,(vI (z.1:Int)))]) (fun z=>[(cb L 38 (aa.cells (ia c at_ z.1)))]) (fun _=>rfl) (fun _=>rfl) (fun z=>c.bo.length-z.1) ⟨0,A⟩ (aN U) (aB [1,2,3,0]) ?_;clear A;rintro ⟨i,H⟩ J9 F
 try dsimp only
 refine aq bT 6 ?_;refine bE U (aH fun E=>?_) (aG fun E=>?_)
 ·refine aU aY 1 U<|dF fz 5 [] (mc 3 U mn) U<|eM U cK U<|aq aj 3 ?_;refine Gx hQ [0] (mc 0 U mn) U ?_;rw [pI (show c.bo.length≤i by omega)]
 refine aq aY 6 ?_;obtain ⟨x,hx⟩:=ay c.bo i I;have J:=bx cP.cells hx;refine rS (IA i U (av 2 U) pK dc I I)<|rS (k8 i 0 (cP.cells x) U bP (av 2 U) J U dc U U)<|AL U uX fun K=>eM U wu U<|ck aj 9 [0,1] (mc 2 U (mc 0 U mn)) ?_;have AA:=hc.yk hx;have O:=Gg hc ha i;have N:=Jl D ha (show 0≤x.At∧x.At≤90000000 by omega);refine dF aj 5 [] (mc 0 U mn) U<|rS (MX U)<|rS (BI U (nt ⟨I,I⟩))<|rS (CL (Iv (c.dI*(max (at_-x.At) (x.At-at_))) 1000000 I I) (aA) U)<|ck aj 10 [0,1] (mc 4 U (mc 0 U mn)) ?_;have P:0≤qz (c.dI*max (at_-x.At) (x.At-at_)) 1000000∧qz (c.dI*max (at_-x.At) (x.At-at_)) 1000000≤90001:=x4 D ha AA.1;refine aU aj 1 U<|rS (MX U)<|dF aj 7 [0,1] (mc 4 U (mc 0 U mn)) U<|rS (MN U)<|rS (SX (aW (xs:=[(0,.tmp 37),(1,.tmp 45)]) (cs:=(aa.cells (aa.mk (max ((ia c at_ i).Lo) (x.eA.Lo-(qz (c.dI*(max (at_-x.At) (x.At-at_))) 1000000))) (min ((ia c at_ i).Hi) (x.eA.Hi+(qz (c.dI*(max (at_-x.At) (x.At-at_))) 1000000)))))) U U (aV gQ U)) U U)<|UB U cK U<|aq aj 3 ?_;have B:(aa.cells (aa.mk (max ((ia c at_ i).Lo) (x.eA.Lo-(qz (c.dI*(max (at_-x.At) (x.At-at_))) 1000000))) (min ((ia c at_ i).Hi) (x.eA.Hi+(qz (c.dI*(max (at_-x.At) (x.At-at_))) 1000000)))))=(aa.cells (ia c at_ (i+1))):=by rw [lz hx];rfl
 rw [B];refine aq aY 4 ?_;have C:(vI (((i+1):Nat):Int))=(vI ((i:Int)+1)):=by exact cI I
 refine aL (F ⟨(i+1),(by first|omega|(simp only [];omega))⟩ _ _ _ U os (cx 6<|aQ U C<|cV.nil _) (aB [1,2,3,4]))
theorem VQ (c:aS) (sA:OA) (sC:Nat) (hlen:c.bo.length≤1000000) (hcap:c.bo.length≤sC):
 dh Tryz.prog 162 [(vA (dE.cells (dE.mk c.dI (aX.mk sA c.bo.length sC))))] [(qK sA c.bo)] (vB (decide (fD c))):=by
 refine bj kr Tryz.func162 U U fun w0 Q hQ hN=>?_
 try dsimp only
 refine aU bT 2 U<|dV U fun b2=>aU aj 3 U<|DG U<|ck bT 5 [] (mc 0 U mn) ?_;refine dC (xs:=[.tmp 11]) (cs:=[(vI c.dI)]) U cO jU U U U U (by simp [Value.cells]) U U fun v=>?_;refine rS (CL (dh.eq (iA 0 1000 ([c.dI]) (some ⟨v,0,none⟩) 1 (by (simp;done))) cp) (aw (aM 0 U U (by simp [br]) U)<|aA) U) ?_;refine aq aj 2 ?_;refine bK (t:=15) U (aK fun H=>?_) (aJ fun H=>?_)
 ·exact cr aj 16 hQ U U<|cB (bg fun h=>H h.u0).symm
 refine ck aj 3 [] (mc 1 U mn) ?_;refine dC (xs:=[.tmp 18]) (cs:=[(vI (c.bo.length:Int))]) U cO jU U U U U (by simp [Value.cells]) U U fun w=>?_;refine rS (CL (dh.eq (iA 1 5 ([(c.bo.length:Int)]) (some ⟨w,0,none⟩) 1 (by (simp;done))) cp) (aw (aM 0 U U (by simp [br]) U)<|aA) U) ?_;refine aq aj 4 ?_;refine bY U (aK fun M=>?_) (aJ fun M=>?_)
 ·exact cr aY 6 hQ U U<|cB (bg fun h=>M (by have:=h.len;omega)).symm
 refine ck aY 25 [] (mc 2 U mn) ?_;have B:(0≤c.bo.length)∧(vi c 0):=by exact ⟨c4 _,KV⟩
 have O:(vI (lV c 0))=(vI (-1)):=by rw [gZ rfl]
 refine bw (ι:={z:Nat // (z≤c.bo.length)∧(vi c z)}) [1,2,4,24,25] [2,3] U U (fun z=>[(3,(vI (lV c z.1))),(26,(vI (z.1:Int)))]) (fun z=>[]) (fun _=>rfl) (fun _=>rfl) (fun z=>c.bo.length-z.1) ⟨0,B⟩ (aQ U O<|aN U) (aB [2,3]) ?_;clear B;rintro ⟨i,⟨J,C⟩⟩ J15 N
 try dsimp only
 have AC: -1≤lV c i∧lV c i≤86400000:=Wu J C;refine aq bT 6 ?_;refine bE U (aH fun f=>?_) (aG fun f=>?_)
 ·exact aU aY 1 U<|cr fz 9 hQ U U<|cB (cR (K1 H I (by have e:i=c.bo.length:=I;rw [← e];exact C))).symm
 refine aq aY 7 ?_;obtain ⟨x,hx⟩:=ay c.bo i I;have r:=bx cP.cells hx;refine rS (IA i U (av 1 U) pK dc I I)<|rS (k8 i 0 (cP.cells x) U bP (av 1 U) r U dc U U)<|AL U uX fun s=>aU aj 1 U<|eM U wu U<|aq aj 2 ?_;refine nV (ι:=Unit) [1,2,3,5,6,24,25,26] [0,1,2] U U (fun z=>[(4,(vB (decide (gD c i x))))]) (fun z=>[]) (fun _=>rfl) (fun _=>rfl) ?_ fun K22 G=>?_
 ·intro _
  try dsimp only
  refine dF aY 6 [] (mc 1 U mn) U<|rS (SHI i U pK I I)<|aq aj 5 ?_;have B:(0≤i)∧((decide (gD c i x))=(decide (nW c i x 0))):=by exact ⟨c4 _,gR.2 G7.symm⟩
  refine bw (ι:={z:Nat×Bool // (z.1≤i)∧(z.2=(decide (nW c i x z.1)))}) [1,2,3,5,6,24,25,26,59,60] [0,1,2] U U (fun z=>[(4,(vB z.1.2)),(61,(vI (z.1.1:Int)))]) (fun z=>[]) (fun _=>rfl) (fun _=>rfl) (fun z=>i-z.1.1) ⟨(0,(decide (gD c i x))),B⟩ (aN U) (aB [0,1,2]) ?_;clear B;rintro ⟨⟨k,b⟩,⟨K,A⟩⟩ J25 F
  try dsimp only at K A
  try dsimp only
  refine aq bT 6 ?_;refine bE U (aH fun l=>?_) (aG fun l=>?_)
  ·refine aU aY 1 U<|aq fz 9 ?_;refine bY U (fun D=>?_) (fun D=>?_)
   ·rw [e0] at D;exact aU aY 1 U<|cr fz 9 hQ U U<|cB (by have e:k=i:=I;rw [e] at A;rw [D] at A ⊢;exact (bg (Oi hx (AB6 A.symm))).symm)
   rw [m5] at D;refine ck aY 13 [] (mc 0 U mn) ?_;have W:(vB true)=(vB b):=by exact cB D.symm
   have X:(vI (lV c (i+1)))=(vI x.At):=by rw [pW hx]
   have Y:(vI (((i+1):Nat):Int))=(vI ((i:Int)+1)):=by exact cI I
   refine aL (N ⟨(i+1),⟨I,Mi C hx (by have e:k=i:=I;rw [e] at A;exact s6 (A.symm.trans D))⟩⟩ _ _ _ U os (cV.cons U<|cV.cons U<|aQ U W<|cV.cons U<|cV.cons U<|aQ U X<|aQ U Y<|cV.nil _) (aB [1,2]))
  refine aq aY 6 ?_;obtain ⟨o,ho⟩:=ay c.bo k I;have p:=bx cP.cells ho;refine rS (IAH k U (av 2 U) pK dc I I I)<|rS (k8 k 0 (cP.cells o) U bP (av 2 U) p U dc U U)<|AL U uX fun u=>eM U wu U<|dF aj 10 [0,1,2] (mc 2 U (mc 1 U (mc 0 U mn))) U<|rS (BI U Qn)<|rS (BI U Vo)<|rS (CL (aaX (D4 (c.dI*(D4 (x.At-o.At)))) 1000000 I) (aA) U)<|aq aj 6 ?_;refine cz (t:=75) U (fun AB=>?_) (fun AB=>?_)
  ·refine aq aj 29 ?_;have V:(vI (((k+1):Nat):Int))=(vI ((k:Int)+1)):=by exact cI I
   refine aL (F ⟨((k+1),false),⟨I,by exact (bg fun h=>by have g:=((vv ho).1 h).1;rw [A] at AB;exact absurd (cR g) (by rw [AB];decide)).symm⟩⟩ _ _ _ U os (cx 11<|aQ U V<|cV.nil _) (aB [1,2,3]))
  refine ck aj 6 [0,1] (mc 1 U (mc 0 U mn)) ?_;have Z:nW c i x k:=s6 (A.symm.trans AB);obtain ⟨q,AO,Ap⟩:=xI (fun j y hj hy=>(C j y hj hy).1) hx Z.1 I ho;have L:=SY H q;refine aq aj 5 ?_;refine cz (t:=86) U (aH fun E=>?_) (aG fun E=>?_)
  ·refine aq aj 18 ?_;have AA:(vI (((k+1):Nat):Int))=(vI ((k:Int)+1)):=by exact cI I
   refine aL (F ⟨((k+1),false),⟨I,by exact (bg fun h=>by have g:=((vv ho).1 h).2;rw [L] at E;exact E g.1).symm⟩⟩ _ _ _ U os (cx 11<|aQ U AA<|cV.nil _) (aB [1,2,3]))
  refine ck aj 18 [0,1] (mc 0 U (mc 1 U mn)) ?_;have T:(vI (((k+1):Nat):Int))=(vI ((k:Int)+1)):=by exact cI I
  refine aL (F ⟨((k+1),(decide ((o.eA.Lo-x.eA.Hi)≤(Y_ (D4 (c.dI*(D4 (x.At-o.At)))) 1000000)))),⟨I,by exact gR.2 (by rw [vv ho,L];rw [L] at E;exact ⟨fun h=>⟨Z,E,h⟩,fun h=>h.2.2⟩)⟩⟩ _ _ _ U os (cx 11<|aQ U T<|cV.nil _) (aB [1,2,3]))
 refine ck bT 5 [] (mc 0 U mn) ?_;refine dC (xs:=[.tmp 34]) (cs:=[(vI x.At)]) U cO jU U U U U (by simp [Value.cells]) U U fun a=>?_;refine rS (CL (dh.eq (iA ((lV c i)+1) 86400000 ([x.At]) (some ⟨a,0,none⟩) 1 (by (simp;done))) cp) (aw (aM 0 U U (by simp [br]) U)<|aA) U) ?_;refine aq aj 1 ?_;refine cz (t:=37) U (aH fun m=>?_) (aG fun m=>?_)
 ·refine aq aj 20 ?_;have S:(decide (gD c i x))=false:=bg (by unfold gD;omega);refine aL (j7 (cx 8<|ph U S<|cV.nil _) (aB [1,2,3]) (G ()))
 refine ck aj 6 [] (mc 1 U mn) ?_;refine dC (xs:=[.tmp 40,.tmp 43]) (cs:=[(vI x.eA.Lo),(vI x.eA.Hi)]) U cO jU U U U U (by simp [Value.cells]) U U fun d=>?_;refine rS (CL (dh.eq (iA (-10000) 10000 ([x.eA.Lo,x.eA.Hi]) (some ⟨d,0,none⟩) 2 (by (simp;done))) qT) (aw (aM 0 U U (by simp [br]) U)<|aA) U) ?_;refine aq aj 2 ?_;refine cz (t:=47) U (aH fun n=>?_) (aG fun n=>?_)
 ·refine aq aj 10 ?_;have R:(decide (gD c i x))=false:=bg (by unfold gD;omega);refine aL (j7 (cx 8<|ph U R<|cV.nil _) (aB [2,3,4]) (G ()))
 refine ck aj 10 [] (mc 2 U mn) ?_;have P:(decide (gD c i x))=(decide (x.eA.Lo≤x.eA.Hi)):=gR.2 (by unfold gD;omega);refine aL (j7 (cx 8<|ph U P<|cV.nil _) (aB [2,3,4]) (G ()))
theorem YI (ms:List aS) (az:List RA) (k:Nat) (m:aS) (a:RA) (hm:ms[k]? =some m) (ha:az[k]? =some a) (hc:m.bo.length≤a.2∧m.bo.length≤1000000):
 dh Tryz.prog 161 [(vA (dE.cells (dE.mk m.dI (aX.mk a.1 m.bo.length a.2))))] [(iU (bB aS.lf ms az))] (vB (!(decide (fD m)))):=by
 obtain ⟨A,B⟩:=hc;refine bj kr Tryz.func161 U U fun D Q hQ hN=>?_
 try dsimp only
 refine aU bT 2 U<|dV U fun C=>ck aj 6 [] (mc 0 U mn) ?_;refine rS (CL (VQ m a.1 a.2 asm asm) (aw (show ig _ (qK a.1 m.bo).holds from (ct 1 U (bq hm ha (by simp [aS.lf]))))<|aA) U) ?_;exact cr aj 5 hQ U U U
variable (l:List aS) (az:List RA) (lA:OA) (lC:Nat) (f:Value) (p:aS→Bool) (X:au)
theorem Kj (hf:∀ (k:Nat) m a,l[k]? =some m→az[k]? =some a→BV Tryz.prog f [.agg (aS.cells m a).toArray] [X] (.bool (p m))) (hlen:l.length≤1000000) (has:az.length=l.length):
 dh Tryz.prog 205 [(vS lA l.length lC),f] [(yS lA l az),(iU (bB aS.lf l az)),X] (vI (uW p l)):=by
 refine bj kr Tryz.func205 U U fun AA Q hQ hN=>?_
 try dsimp only
 refine aq bT 14 ?_;have B:(0≤l.length)∧((l.take 0).any p=false):=by simp
 refine bw (ι:={z:Nat // (z≤l.length)∧((l.take z).any p=false)}) [0,1,7] [0,1,2] U U (fun z=>[(8,(vI (z.1:Int)))]) (fun z=>[]) (fun _=>rfl) (fun _=>rfl) (fun z=>l.length-z.1) ⟨0,B⟩ (aN U) (aB [0,1,2]) ?_;clear B;rintro ⟨i,⟨F,A⟩⟩ J4 E
 try dsimp only
 refine aq bT 6 ?_;refine bE U (aH fun H=>?_) (aG fun H=>?_)
 ·exact aU aY 1 U<|cr fz 8 hQ U U<|cI (rP I A).symm
 refine aq aY 15 ?_;obtain ⟨x,hx⟩:=ay l i I;obtain ⟨xa,D⟩:=ay az i I;have G:(zipWith aS.cells l az)[i]? =some (aS.cells x xa):=cE hx D;refine rS (IA i U (av 0 U) xq dc I I)<|rS (k8 i 0 (dE.cells (dE.mk x.dI (aX.mk xa.1 x.bo.length xa.2))) U bP (av 0 U) G U dc U U)<|rS (SX (pq U U U (hf i x xa hx D) (aP [2])) U U)<|aq aj 2 ?_;refine bY U (fun hp=>?_) (fun hp=>?_)
 ·exact cr aY 7 hQ U U<|cI (w8 hx hp A).symm
 refine aq aY 7 ?_;have C:(vI (((i+1):Nat):Int))=(vI ((i:Int)+1)):=by exact cI I
 refine aL (E ⟨(i+1),⟨I,vV hx A hp⟩⟩ _ _ _ U os (cx 3<|aQ U C<|cV.nil _) (aB [0,1,2]))
theorem DB (hf:∀ (k:Nat) m a,l[k]? =some m→az[k]? =some a→BV Tryz.prog f [.agg (aS.cells m a).toArray] [X] (.bool (p m))) (hlen:l.length≤1000000) (has:az.length=l.length):
 dh Tryz.prog 160 [(vS lA l.length lC),f] [(yS lA l az),(iU (bB aS.lf l az)),X] (vB (l.any p)):=by
 refine bj kr Tryz.func160 U U fun A Q hQ hN=>?_
 try dsimp only
 exact aU bT 9 U<|rS (CL (Kj l az lA lC f p X (by exact hf) hlen has) (Sf 0 1 2 U U U U U U) U)<|cr aj 5 hQ U U<|cB ub
theorem Lr (l:List df) (lA:OA) (lC:Nat) (f:Value) (p:df→Bool) (X:au) (hf: ∀ x0,x0∈l→BV Tryz.prog f [.agg (df.cells x0).toArray] [X] (.bool (p x0))) (hlen:l.length≤1000000):
 dh Tryz.prog 206 [(vS lA l.length lC),f] [(xP lA l),X] (vI (uW p l)):=by
 refine bj kr Tryz.func206 U U fun H Q hQ hN=>?_
 try dsimp only
 refine aq bT 14 ?_;have B:(0≤l.length)∧((l.take 0).any p=false):=by simp
 refine bw (ι:={z:Nat // (z≤l.length)∧((l.take z).any p=false)}) [0,1,7] [0,1] U U (fun z=>[(8,(vI (z.1:Int)))]) (fun z=>[]) (fun _=>rfl) (fun _=>rfl) (fun z=>l.length-z.1) ⟨0,B⟩ (aN U) (aB [0,1]) ?_;clear B;rintro ⟨i,⟨E,A⟩⟩ J4 D
 try dsimp only
 refine aq bT 6 ?_;refine bE U (aH fun G=>?_) (aG fun G=>?_)
 ·exact aU aY 1 U<|cr fz 8 hQ U U<|cI (rP I A).symm
 refine aq aY 15 ?_;obtain ⟨x,hx⟩:=ay l i I;have F:=bx df.cells hx;refine rS (IA i U (av 0 U) wx dc I I)<|rS (k8 i 0 (df.cells x) U bP (av 0 U) F U dc U U)<|rS (SX (pq U U U (hf x (aF hx)) (aP [1])) U U)<|aq aj 2 ?_;refine bY U (fun hp=>?_) (fun hp=>?_)
 ·exact cr aY 7 hQ U U<|cI (w8 hx hp A).symm
 refine aq aY 7 ?_;have C:(vI (((i+1):Nat):Int))=(vI ((i:Int)+1)):=by exact cI I
 refine aL (D ⟨(i+1),⟨I,vV hx A hp⟩⟩ _ _ _ U os (cx 3<|aQ U C<|cV.nil _) (aB [0,1]))
theorem DP (l:List df) (lA:OA) (lC:Nat) (f:Value) (p:df→Bool) (X:au) (hf: ∀ x0,x0∈l→BV Tryz.prog f [.agg (df.cells x0).toArray] [X] (.bool (p x0))) (hlen:l.length≤1000000):
 dh Tryz.prog 164 [(vS lA l.length lC),f] [(xP lA l),X] (vB (l.any p)):=by
 refine bj kr Tryz.func164 U U fun A Q hQ hN=>?_
 try dsimp only
 exact aU bT 9 U<|rS (CL (Lr l lA lC f p X (by exact hf) hlen) (aP [0,1]) U)<|cr aj 5 hQ U U<|cB ub
end
section
open Go.RowKit
theorem rJ (a:aa) (l:List aa) (lA:OA) (lC:Nat) (ha:nk a) (hl: ∀ z∈l,nk z) (hlen:l.length≤4):
 dh Tryz.prog 193 [(vA (aa.cells a)),(vS lA l.length lC)] [(rd lA l.length 2 (l.map aa.cells))] (vA (aa.cells (l5 a l))):=by
 refine bj kr Tryz.func193 U U fun L Q hQ hN=>?_
 try dsimp only
 refine aU bT 2 U<|dV U fun AA=>AL U dD fun K=>aq aj 11 ?_;have A:(0≤l.length):=by exact c4 _
 refine bw (ι:={z:Nat // (z≤l.length)}) [2,4,7,8] [0,2] U U (fun z=>[(9,(vI (z.1:Int)))]) (fun z=>[(cb AA 38 (aa.cells (l5 a (l.take z.1))))]) (fun _=>rfl) (fun _=>rfl) (fun z=>l.length-z.1) ⟨0,A⟩ (aN U) (aB [0,2,1]) ?_;clear A;rintro ⟨i,F⟩ J6 E
 try dsimp only
 refine aq bT 6 ?_;refine bE U (aH fun J=>?_) (aG fun J=>?_)
 ·refine aU aY 1 U<|aq fz 3 ?_;have D:(aa.cells (l5 a (l.take i)))=(aa.cells (l5 a l)):=by rw [Nf I]
  rw [D];refine dF aY 2 [] (mc 2 U mn) U<|eM U cK U<|aq aj 3 ?_;exact Gx hQ [0] (mc 0 U mn) U U
 refine aq aY 6 ?_;obtain ⟨x,hx⟩:=ay l i I;have G:=bx aa.cells hx;refine rS (IA i U (av 1 U) iv dc I I)<|rS (k8 i 0 (aa.cells x) U bP (av 1 U) G U dc U U)<|AL U dD fun H=>eM U cK U<|aq aj 3 ?_;have hb:=Vv ha hl i;have hz:=hl x (aF hx);unfold nk at hz;refine dF aj 10 [0,1,0,1] (mc 3 U (mc 0 U mn)) U<|rS (SX (aW (xs:=[(0,.tmp 17),(1,.tmp 22)]) (cs:=(aa.cells (aa.mk (((l5 a (l.take i)).Lo)+x.Lo) (((l5 a (l.take i)).Hi)+x.Hi)))) U U (aV gQ U)) U U)<|Xo U cK U<|aq aj 3 ?_;have B:(aa.cells (aa.mk (((l5 a (l.take i)).Lo)+x.Lo) (((l5 a (l.take i)).Hi)+x.Hi)))=(aa.cells (l5 a (l.take (i+1)))):=by rw [BH hx];rfl
 rw [B];refine aq aY 4 ?_;have C:(vI ((i+1):Int))=(vI ((i:Int)+1)):=by exact cI I
 refine aL (E ⟨(i+1),(by first|omega|(simp only [];omega))⟩ _ _ _ U os (cx 4<|aQ U C<|cV.nil _) (aB [1,2,3]))
variable (ts:List ag) (tsA:OA) (tsC:Nat) (f t:Int)
theorem Ji (hlen:ts.length≤1000000) (hside:∀ x∈ts,0≤x.gu∧x.gu≤255):
 dh Tryz.prog 190 [(vA (aZ.cells (aZ.mk (aX.mk tsA ts.length tsC))))] [(l0 tsA ts)] (vT [(vA (eQ.cells (eQ.mk (aZ.mk (aX.mk tsA ts.length tsC))))),(vI (if cD ts=true then 0 else 10))]):=by
 refine bj kr Tryz.func190 U U fun C Q hQ hN=>?_
 try dsimp only
 refine aU bT 2 U<|dV U fun A=>AL U MZ fun B=>aU aj 4 U<|cL bX 4 kr<|jY 1 [] (mc 1 U mn) U<|dS (SX (aW (xs:=[(0,.tmp 4)]) (cs:=(eQ.cells (eQ.mk (aZ.mk (aX.mk tsA ts.length tsC))))) U U (aV YN U)) U U)<|jY 1 [] (mc 1 U mn) U<|dS (CL (w6 ts tsA tsC hlen hside) (aP [2]) U)<|cy<|eM U Qp U<|aq aj 4 ?_;exact mP hQ [0] (mc 0 U mn) U U
theorem RP (tsA:OA) (tsN tsC:Nat):
 ld Tryz.prog 220 [(vA (eQ.cells (eQ.mk (aZ.mk (aX.mk tsA tsN tsC))))),(vI f)] [] (fun (x:Nat×Nat)=>(Value.func (.func 242) [].toArray [(Value.pointer (some ⟨x.1,0,none⟩)),(Value.pointer (some ⟨x.2,0,none⟩))].toArray)) (fun (x:Nat×Nat)=>True) (fun (x:Nat×Nat)=>[(cb x.1 3 [(vI f)]),(cb x.2 273 (eQ.cells (eQ.mk (aZ.mk (aX.mk tsA tsN tsC)))))]):=by
 refine cU kr Tryz.func220 U U fun C Q hQ hN=>?_
 try dsimp only
 refine aU bT 2 U<|dV U fun A=>sK U U fun B=>aU aj 5 U<|rS (FU U)<|aq aj 4 ?_;refine LX hQ (B,A) [0,1] [] mn U U U U ?_;trivial
theorem LY (g1 g2:Nat) (hst:∀ x∈ts,bW x) (hlen:ts.length≤12) (hf:0≤f∧f≤ts.length):
 PD Tryz.prog 242 [] [(vP g1),(vP g2)] [(rd tsA ts.length 9 (ts.map ag.cells)),(cb g1 3 [(vI f)]),(cb g2 273 (eQ.cells (eQ.mk (aZ.mk (aX.mk tsA ts.length tsC)))))] (wQ ts f.toNat):=by
 refine C4 kr Tryz.func242 U U fun l J Z A0 i Q hY c b hQ hN=>?_
 try dsimp only
 refine aU bT 2 U<|AL U dD fun g=>AL U dD fun h=>ck aj 9 [] (mr 4 U mn) ?_;have O:(0≤ts.length-f.toNat)∧(J 0 A0)∧(Fo A0 i A0):=by exact ⟨c4 _,c,b⟩
 have d:(vI (f+(0:Int)))=(vI f):=by exact cI I
 refine bw (ι:={z:Nat×au // (z.1≤ts.length-f.toNat)∧(J z.1 z.2)∧(Fo A0 i z.2)}) [0,1,2,4,5] [3,4,5] U U (fun z=>[(6,(vI (f+(z.1.1:Int))))]) (fun z=>[(cb h 38 (aa.cells (hE ts f.toNat z.1.1))),(cb g 38 (aa.cells (eV ts f.toNat z.1.1))),z.1.2]) (fun _=>rfl) (fun _=>rfl) (fun z=>ts.length-f.toNat-z.1.1) ⟨(0,A0),O⟩ (aQ U d<|cV.nil _) (aB [3,4,5,0,1,2]) ?_;clear O;rintro ⟨⟨k,A⟩,⟨V,P,R⟩⟩ J6 AA
 try dsimp only at V P R
 try dsimp only
 refine ck bT 6 [0,1] (mc 4 U (mc 3 U mn)) ?_;refine zh 5 hY P R U U U (BL I) U U (fun B9 C B=>?_) (fun B9 C B=>?_);rotate_left 1
 ·refine aU aj 12 U<|aq fz 1 ?_;refine hN _ _ _ (g4 (vs:=[]) trivial fun w hs=>JJ 5 U C B hs)
 refine ck aj 10 [] (mr 2 U mn) ?_;refine bE U (aH fun a=>?_) (aG fun a=>?_)
 ·refine aU aY 1 U<|aq fz 1 ?_;refine hN _ _ _ (g4 (vs:=[]) trivial fun w hs=>Vm 5 U (by rw [wG];have e:ts.length-f.toNat+1=k+1:=I;rw [e];exact C) B hs)
 refine aq aY 4 ?_;refine mj bX [0,1,2,3,4,5,6,7,10,11,12,13,14,15,16,17] [8,9,18,19,20,21] [true,false,false,false,false,false,false,false,true,false,false,false,false,false,false,false] [8,9,18] [(rd tsA ts.length 9 (ts.map ag.cells)).ro,(cb g1 3 [(vI f)]).ro,(cb g2 273 (eQ.cells (eQ.mk (aZ.mk (aX.mk tsA ts.length tsC))))).ro,B9] [(rd tsA ts.length 9 (ts.map ag.cells)).ro,(cb g1 3 [(vI f)]).ro,(cb g2 273 (eQ.cells (eQ.mk (aZ.mk (aX.mk tsA ts.length tsC))))).ro,(cb h 38 (aa.cells (hE ts f.toNat k))),(cb g 38 (aa.cells (eV ts f.toNat k))),B9] kr (aB [0,1,2,5]) (aB [0,1,2,3,4,5])<|fS U (LW 4 U bP U U)<|eS U (FA 0 U eB U)<|eS U (FA 0 U eB U)<|eS U (Mz (vS tsA ts.length tsC) 2 U bP U U)<|eS U (MV U) ?_;obtain ⟨x,hx⟩:=ay ts (f.toNat+k) I;have X:=bx ag.cells hx;refine eS U (IA (f.toNat+k) U (av 0 U) vD dc I I) ?_;have L:=hst x (aF hx);refine eS U (p9 (((f.toNat+k)*9)+1) U (av 0 U) (e6 I dc) eB U)<|eS U (k8 (f.toNat+k) 1 (aa.cells x.jd) U bP (av 0 U) X U dc U U)<|fS U (LW 3 U bP U U)<|eS U (FA 0 U eB U)<|eS U (FA 0 U eB U)<|eS U (Mz (vS tsA ts.length tsC) 2 U bP U U)<|eS U (MV U)<|eS U (IA (f.toNat+k) U (av 0 U) vD dc I I)<|eS U (p9 (((f.toNat+k)*9)+3) U (av 0 U) (e6 I dc) eB U)<|eS U (k8 (f.toNat+k) 3 (aa.cells x.kU) U bP (av 0 U) X U dc U U)<|dL U<|nJ [8,18] kr (iR ?_<|iR ?_<|rf);rotate_left 1
 ·refine yo (rem':=[8,9,19,20,21]) U kr fun T14 M=>dC (xs:=[.tmp 39]) (cs:=(aa.cells x.kU)) U iv dD U U U U (by simp [Value.cells,aa.aD]) U U fun S=>bG (M _ _ (aB [1,2,3,6]) (aB [1,2,3,4,5,6]) ?_);refine N1 8<|yo (rem':=[9,19,20,21]) U kr fun T16 D=>dC (xs:=[.tmp 29]) (cs:=(aa.cells x.jd)) U iv dD U U U U (by simp [Value.cells,aa.aD]) U U fun T=>bG (D _ _ (aB [2,3,4,7]) (aB [2,3,4,5,6,7]) ?_);refine N1 9<|yo (rem':=[19,20,21]) U kr fun T18 N=>?_;refine rS (CL (dh.eq (rJ (eV ts f.toNat k) ([x.jd]) (some ⟨T,0,none⟩) 1 (by exact tq hst I) (by intro z hz;simp only [bU] at hz;subst hz;exact xC L) sm) pw) (aw (aM 0 rfl rfl (by simp [aa.aD]) rfl)<|aA) rfl) ?_;refine bG (N _ _ (aB [2,3,4,7]) (aB [2,3,4,5,6,7]) ?_);refine N1 19<|NO U U [20,21] fun T19 E=>?_;refine rS (CL (dh.eq (rJ (hE ts f.toNat k) ([x.kU]) (some ⟨S,0,none⟩) 1 (by exact AW hst I) (by intro z hz;simp only [bU] at hz;subst hz;exact xX L) sm) pw) (aw (aM 1 rfl rfl (by simp [aa.aD]) rfl)<|aA) rfl) ?_;refine bG (E _ _ (aB [2,3,4,7]) ?_);refine N1 20<|NO U U [21] fun T20 F=>XM U cK U<|bG (F _ _ (aB [2,3,4,7]) ?_);refine N1 21<|NO U U [] fun T21 G=>MA U cK U<|bG (G _ _ (aB [2,3,4,7]) ?_);refine mK<|aq jC 2 ?_;have H:(aa.cells (oh (eV ts f.toNat k) x.jd))=(aa.cells (eV ts f.toNat (k+1))):=by rw [rX hx]
  rw [H];have AB:(aa.cells (oh (hE ts f.toNat k) x.kU))=(aa.cells (hE ts f.toNat (k+1))):=by rw [rH hx]
  rw [AB];refine aq aY 5 ?_;have K:(vI (f+(((k+1):Nat):Int)))=(vI ((f+(k:Int))+1)):=by exact cI I
  refine aL (AA ⟨((k+1),B9),⟨I,C,B⟩⟩ _ _ _ U os (cx 5<|aQ U K<|cV.nil _) (aB [2,3,4,5,6,7]))
 refine yo (rem':=[9,18,19,20,21]) U kr fun T14 M=>dC (xs:=[.tmp 29]) (cs:=(aa.cells x.jd)) U iv dD U U U U (by simp [Value.cells,aa.aD]) U U fun S=>bG (M _ _ (aB [1,2,3,6]) (aB [1,2,3,4,5,6]) ?_);refine nJ [9,18] kr (iR ?_<|iR ?_<|rf);rotate_left 1
 ·refine yo (rem':=[9,19,20,21]) U kr fun T16 D=>dC (xs:=[.tmp 39]) (cs:=(aa.cells x.kU)) U iv dD U U U U (by simp [Value.cells,aa.aD]) U U fun T=>bG (D _ _ (aB [2,3,4,7]) (aB [2,3,4,5,6,7]) ?_);refine N1 9<|yo (rem':=[19,20,21]) U kr fun T18 N=>?_;refine rS (CL (dh.eq (rJ (eV ts f.toNat k) ([x.jd]) (some ⟨S,0,none⟩) 1 (by exact tq hst I) (by intro z hz;simp only [bU] at hz;subst hz;exact xC L) sm) pw) (aw (aM 1 rfl rfl (by simp [aa.aD]) rfl)<|aA) rfl) ?_;refine bG (N _ _ (aB [2,3,4,7]) (aB [2,3,4,5,6,7]) ?_);refine N1 19<|NO U U [20,21] fun T19 E=>?_;refine rS (CL (dh.eq (rJ (hE ts f.toNat k) ([x.kU]) (some ⟨T,0,none⟩) 1 (by exact AW hst I) (by intro z hz;simp only [bU] at hz;subst hz;exact xX L) sm) pw) (aw (aM 0 rfl rfl (by simp [aa.aD]) rfl)<|aA) rfl) ?_;refine bG (E _ _ (aB [2,3,4,7]) ?_);refine N1 20<|NO U U [21] fun T20 F=>XM U cK U<|bG (F _ _ (aB [2,3,4,7]) ?_);refine N1 21<|NO U U [] fun T21 G=>MA U cK U<|bG (G _ _ (aB [2,3,4,7]) ?_);refine mK<|aq jC 2 ?_;have H:(aa.cells (oh (eV ts f.toNat k) x.jd))=(aa.cells (eV ts f.toNat (k+1))):=by rw [rX hx]
  rw [H];have AB:(aa.cells (oh (hE ts f.toNat k) x.kU))=(aa.cells (hE ts f.toNat (k+1))):=by rw [rH hx]
  rw [AB];refine aq aY 5 ?_;have K:(vI (f+(((k+1):Nat):Int)))=(vI ((f+(k:Int))+1)):=by exact cI I
  refine aL (AA ⟨((k+1),B9),⟨I,C,B⟩⟩ _ _ _ U os (cx 5<|aQ U K<|cV.nil _) (aB [2,3,4,5,6,7]))
 refine yo (rem':=[18,19,20,21]) U kr fun T16 D=>?_;refine rS (CL (dh.eq (rJ (eV ts f.toNat k) ([x.jd]) (some ⟨S,0,none⟩) 1 (by exact tq hst I) (by intro z hz;simp only [bU] at hz;subst hz;exact xC L) sm) pw) (aw (aM 0 rfl rfl (by simp [aa.aD]) rfl)<|aA) rfl) ?_;refine bG (D _ _ (aB [1,2,3,6]) (aB [1,2,3,4,5,6]) ?_);refine N1 18<|yo (rem':=[19,20,21]) U kr fun T17 W=>dC (xs:=[.tmp 39]) (cs:=(aa.cells x.kU)) U iv dD U U U U (by simp [Value.cells,aa.aD]) U U fun Y=>bG (W _ _ (aB [2,3,4,7]) (aB [2,3,4,5,6,7]) ?_);refine N1 19<|NO U U [20,21] fun T19 E=>?_;refine rS (CL (dh.eq (rJ (hE ts f.toNat k) ([x.kU]) (some ⟨Y,0,none⟩) 1 (by exact AW hst I) (by intro z hz;simp only [bU] at hz;subst hz;exact xX L) sm) pw) (aw (aM 0 rfl rfl (by simp [aa.aD]) rfl)<|aA) rfl) ?_;refine bG (E _ _ (aB [2,3,4,7]) ?_);refine N1 20<|NO U U [21] fun T20 F=>XM U cK U<|bG (F _ _ (aB [2,3,4,7]) ?_);refine N1 21<|NO U U [] fun T21 G=>MA U cK U<|bG (G _ _ (aB [2,3,4,7]) ?_);refine mK<|aq jC 2 ?_;have H:(aa.cells (oh (eV ts f.toNat k) x.jd))=(aa.cells (eV ts f.toNat (k+1))):=by rw [rX hx]
 rw [H];have AB:(aa.cells (oh (hE ts f.toNat k) x.kU))=(aa.cells (hE ts f.toNat (k+1))):=by rw [rH hx]
 rw [AB];refine aq aY 5 ?_;have K:(vI (f+(((k+1):Nat):Int)))=(vI ((f+(k:Int))+1)):=by exact cI I
 refine aL (AA ⟨((k+1),B9),⟨I,C,B⟩⟩ _ _ _ U os (cx 5<|aQ U K<|cV.nil _) (aB [2,3,4,5,6,7]))
theorem M7 (hst:∀ x∈ts,bW x) (hlen:ts.length≤12) (hf:0≤f∧f≤t∧t≤ts.length):
 dh Tryz.prog 192 [(vA (eQ.cells (eQ.mk (aZ.mk (aX.mk tsA ts.length tsC))))),(vI f),(vI t)] [(rd tsA ts.length 9 (ts.map ag.cells))] (vT [(vA (aa.cells (eV ts f.toNat (t-f).toNat))),(vA (aa.cells (hE ts f.toNat (t-f).toNat)))]):=by
 refine bj kr Tryz.func192 U U fun o Q hQ hN=>?_
 try dsimp only
 refine aU bT 2 U<|dV U fun R=>sK U U fun T=>sK U U fun AA=>AL U dD fun V=>AL U dD fun W=>ck aj 7 [0,1] (mc 4 U (mc 3 U mn)) ?_;refine cX (RP f tsA ts.length tsC) (aA) U fun i Z=>?_;obtain ⟨B,C⟩:=i
 try dsimp only
 refine aq aj 3 ?_;refine iw 7 U (by exact fun _ h=>h) ?_;refine yZ (L0:=[(3,(vP R)),(4,(vP T)),(5,(vP AA)),(6,(vP V)),(7,(vP W))]) (F:=[(rd tsA ts.length 9 (ts.map ag.cells)).ro,(cb B 3 [(vI f)]),(cb C 273 (eQ.cells (eQ.mk (aZ.mk (aX.mk tsA ts.length tsC)))))]) (xs:=(wQ ts f.toNat)) (fun k (y:aa×aa×Int)=>(k≤(t-f).toNat)∧(y.2.2=f+(k:Int))) (fun k y=>[(cb W 38 (aa.cells y.2.1)),(cb V 38 (aa.cells y.1)),(cb AA 3 [(vI t)]),(cb T 3 [(vI y.2.2)]),(cb R 273 (eQ.cells (eQ.mk (aZ.mk (aX.mk tsA ts.length tsC))))),(rd tsA ts.length 9 (ts.map ag.cells)).ro]) (fun c (z:Unit)=>(c= .exit 0)) (fun _ z=>[(cb W 38 (aa.cells (hE ts f.toNat (t-f).toNat))),(cb V 38 (aa.cells (eV ts f.toNat (t-f).toNat))),(cb AA 3 [(vI t)]),(cb T 3 [(vI t)]),(cb R 273 (eQ.cells (eQ.mk (aZ.mk (aX.mk tsA ts.length tsC))))),(rd tsA ts.length 9 (ts.map ag.cells)).ro]) [3,4,5,6,7,8] [0,1,2] (gP,gP,f) U U (LY ts tsA tsC f B C (by first|assumption|omega|(simp;done)) (by first|assumption|omega|(simp;done)) I) U U U (by exact ⟨c4 _,sm⟩) (by simp only [AAI,h_,AAs,AAv,ABC];exact ⟨⟨_,sm,(dj (bM _))⟩,⟨_,sm,(bM _)⟩,⟨_,sm,(bM _)⟩⟩) (by exact H6) U (aN U) ?_ ?_ ?_ ?_;rotate_left 1
 ·rintro d ⟨j,n,m⟩ AB;obtain ⟨A,J⟩:=AB
  try dsimp only at A J
  try dsimp only
  exfalso;rw [wG] at A;omega
 ·rintro e id _ O;have hc:=O;cases hc
  try dsimp only
  refine aq jC 3 ?_;refine cT bX [2,3] [] [] [0,1,2,3,4,5,6,7,8,9] [] U U U U U<|eS U (LW 5 U bP U U)<|eS U (LW 4 U bP U U)<|dL U<|bR U fun T30 D=>MA U cK U<|bG (D _ _ (aB [0,1,2,3,4,5,6,7,8,9]) ?_);refine bR U fun T31 E=>UB U cK U<|bG (E _ _ (aB [0,1,2,3,4,5,6,7,8,9]) ?_);refine eI U<|aq jC 2 ?_;refine hQ _ _ _ (nF 0 U U<|g4 (vs:=[(vA (aa.cells (eV ts f.toNat (t-f).toNat))),(vA (aa.cells (hE ts f.toNat (t-f).toNat)))]) ⟨⟨_,U,.inl ⟨_,_,bP,rG (vs:=(aa.cells (eV ts f.toNat (t-f).toNat))) 5 U U,U,U⟩⟩,⟨_,U,.inl ⟨_,_,bP,rG (vs:=(aa.cells (hE ts f.toNat (t-f).toNat))) 4 U U,U,U⟩⟩,trivial⟩ fun w hs=>H3 ?_ hs);show (vT [(vA (aa.cells (eV ts f.toNat (t-f).toNat))),(vA (aa.cells (hE ts f.toNat (t-f).toNat)))])=(vT [(vA (aa.cells (eV ts f.toNat (t-f).toNat))),(vA (aa.cells (hE ts f.toNat (t-f).toNat)))])
  clear hs w hQ hN E T31 D T30;rfl
 ·rintro g _ P;cases P
 rintro k x ⟨j,n,m⟩ l ra rb S p K13 Qr14 hx H L G K Y;obtain ⟨hk,rfl⟩:=K2 hx;obtain ⟨A,J⟩:=H
 try dsimp only at A J
 try dsimp only
 refine aU bT 2 U<|AL U dD fun a=>eM U cK U<|aU aj 3 U<|AL U dD fun b=>eM U cK U<|aq aj 1 ?_;refine j7 (fun _ _ h=>h) (aB [2,0,1,3,4,5,6,7,8])<|aL (L _ _ ?_);refine aq bT 3 ?_;refine cT bX [2,3] [] [] [0,1,2,5,6,7,8] [] U U U U U<|eS U (LW 2 U bP U U)<|eS U (LW 1 U bP U U)<|dL U<|bR U fun T21 M=>UB U cK U<|bG (M _ _ (aB [0,1,2,5,6,7,8]) ?_);refine bR U fun T22 N=>Xo U cK U<|bG (N _ _ (aB [0,1,2,5,6,7,8]) ?_);refine eI U<|ck jC 8 [0,1] (mc 6 U (mc 5 U mn)) ?_;refine bY U (aG fun X=>?_) (aH fun X=>?_)
 ·refine aq aY 1 ?_;rw [show m=t from by omega];obtain rfl:k=(t-f).toNat:=by omega
  exact K _ () _ _ (by exact U) (aB [0,3,4,5,6,7,8])
 refine dF aY 5 [] (mc 6 U mn) U<|SO6 U Gy U U<|aq aj 2 ?_;exact G ((eV ts f.toNat k),(hE ts f.toNat k),(m+1)) _ _ (by refine ⟨I,?_⟩;dsimp only;omega) (aB [0,3,4,5,6,7,8])
end
end Go.Proofs.YtgnlmfdknlbkkaaGreatDoor
