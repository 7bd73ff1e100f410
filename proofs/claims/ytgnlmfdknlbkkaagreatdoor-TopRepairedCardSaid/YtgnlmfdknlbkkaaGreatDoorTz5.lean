/-
 The statement topRepaired_said, part 5 of 9: RaceS, Vals, RaceO, Ord, RaceV, RankP, OrdX, TabP, NestS, Grp, Twin, Fresh, Jury, JHits, JMore, JMem, SeqO, JSeq, JTop, ExT, JRep, JPut, JMor, JFeeL, JPutL, JAllL, Rep, Nar7, BoolC, RaceR, Rep6, Rep8, TopR, Async, DrawB, MapD, Bits, B1, CloneM, Rs1, S2, Rs2, B4, B2.
 Conditions: none.
-/
import Derived.Test.YtgnlmfdknlbkkaaGreatDoorTz1
import Derived.Test.YtgnlmfdknlbkkaaGreatDoorTz2
import Derived.Test.YtgnlmfdknlbkkaaGreatDoorTz3
import Derived.Test.YtgnlmfdknlbkkaaGreatDoorTz4
import Derived.KernelRfl
import Derived.MapKept
import Derived.Laws.Externs
open List (append_assoc length lookup range zipWith)
open Nat (ble blt lt_irrefl)
open Option (any_some)
namespace Go.Proofs.YtgnlmfdknlbkkaaGreatDoor
set_option maxRecDepth 100000
set_option maxHeartbeats 4000000
set_option linter.unusedVariables false
variable {x u:Int} {K:Act→World→Prop} {β α M A σ:Type} {f g:Nat→Option aa} {i k sz:Nat} {l ys:List Int} {m H:List (List ao)} {ls:List (List aa)} {az bz asl bs:List RA} {h h' ht:List ao} {d:ao} {p:Nat→Prop} {b:Bool} {a:OA} {P:Program} {r:cN} {S:BS} {w0 w:World} {C X Y Y' Z Cp C1 C2 C':List ar} {c:Code} {e t kt et xt:TypeId} {es:List (List Value)} {hz ha:List cq} {E:fM} {D:iF} {L B L2:dH} {j:dy} {fn:Func} {fi ca vs cs:List Value} {ts:Array TypeId} {Q:dk} {v:Value} {rest:List Oper} {tb rem:List Nat} {ops:Array Oper}
abbrev m4:= @List.length_zipWith
abbrev m5:= @Bool.not_eq_false'
abbrev u5:= @List.zipWith_cons_cons
abbrev AAE:= @List.mem_map_of_mem
abbrev AAI:= @List.forall_mem_cons
abbrev AAs:= @false_imp_iff
abbrev AAt:= @List.pairwise_lt_range
abbrev AAu:= @List.set_append_right
abbrev AAv:= @implies_true
abbrev AAw:= @Nat.sub_self
abbrev AAz:= @decide_eq_false_iff_not
abbrev ABV:= @List.getElem?_eq_none_iff
abbrev ABW:= @List.exists_mem_of_ne_nil
abbrev ABY:= @List.Perm.refl
abbrev ABZ:= @Option.isSome_iff_exists
abbrev ABx:= @List.getElem?_set_ne
abbrev AB6:= @Nat.eq_zero_or_pos
abbrev AB8:= @List.sublist_append_left
abbrev ACD:= @List.findIdx?_eq_some_iff_getElem
abbrev ACG:= @List.countP_le_length
abbrev ACH:= @List.contains_iff_mem
abbrev ACO:= @List.Pairwise.filter
abbrev ACR:= @List.zipWith_append
abbrev ACW:= @decide_eq_true_iff
abbrev ACe:= @List.nodup_range
abbrev ACf:= @List.countP_cons
section
theorem pz {α β:Type} {f g:α→Option β}: ∀ {l:List α},(∀ x∈l,f x=g x)→l.filterMap f=l.filterMap g
 |[],_=>rfl
 |x::l,h=>by simp only [AB2,h x bZ,pz (l:=l) (fun y hy=>h y (dg _ hy))]
abbrev k9:=List (Int×aa)
/-- the sum of a sled in some heats, the first ones -/
noncomputable def gL (l:a_) (hs:List (List ao)) (i:Nat):Nat→Option aa
 |0=>some ⟨0,0⟩
 |k+1=>match gL l hs i k,(hs[k]?).bind (·[i]?) with
  |some s,some d=>if d.Out=true then none else some ⟨s.Lo+(fZ l d).Lo/10,s.Hi+(fZ l d).Hi/10⟩
  |_,_=>none
noncomputable def eP (l:a_) (hs:List (List ao)) (n h i:Nat):k9:=(range n).filterMap fun q=>(gL l hs q (if q<i then h+1 else h)).map fun s=>((q:Int),s)
noncomputable def qb (r:cN) (k:Nat):k9:=(range r.bf.length).filterMap fun q=>(gL r.av r.ay q k).map fun s=>((q:Int),s)
noncomputable def bI (r:cN):k9:=qb r r.ay.length
section
variable {l:a_} {hs:List (List ao)} {n h i q:Nat} {s:aa} {d:ao}
theorem Fu:eP l hs n h 0=(range n).filterMap fun q=>(gL l hs q h).map fun s=>((q:Int),s):=by
 unfold eP;apply pz;intro q _;rw [c1 (s4 _)]
theorem Tp:eP l hs n h n=eP l hs n (h+1) 0:=by
 rw [Fu];unfold eP;apply pz;intro q hq;rw [c0 (AAd.1 hq)]
theorem LR {x:List ao} (hx:hs[h]? =some x) (hd:x[i]? =some d) (ho:d.Out=true):gL l hs i (h+1)=none:=by
 unfold gL;rw [hx];simp only [r7,hd];cases gL l hs i h with
 |none=>rfl
 |some s=>simp [ho]
theorem GW (h0:gL l hs i h=none):gL l hs i (h+1)=none:=by unfold gL;rw [h0]
theorem Ic {x:List ao} (hx:hs[h]? =some x) (hd:x[i]? =some d) (ho: ¬ d.Out=true) (hs0:gL l hs i h=some s):gL l hs i (h+1)=some ⟨s.Lo+(fZ l d).Lo/10,s.Hi+(fZ l d).Hi/10⟩:=by
 unfold gL;rw [hx,hs0];simp only [r7,hd,c1 ho]
end
section
variable {l:a_} {hs:List (List ao)} {n h i q:Nat} {s t:aa}
theorem WM {K:Type} [DecidableEq K] {L Y:List (K×β)} {t:K}:(L++Y).lookup t=match L.lookup t with |some v=>some v|none=>Y.lookup t:=by
 induction L with
 |nil=>rfl
 |cons p L ih=>
  obtain ⟨k,u⟩:=p;by_cases e:t==k
  ·simp [lookup,e]
  ·have:(t==k)=false:=by simpa using e
   simp only [AAX,lookup,this,ih]
theorem uj {f:Nat→Option aa}: ∀ (n i:Nat),((range n).filterMap fun q=>(f q).map fun s=>((q:Int),s)).lookup (i:Int)=if i<n then f i else none
 |0,i=>by simp
 |n+1,i=>by
  rw [AAV,AAh,WM,uj n i];by_cases c:i<n
  ·rw [c0 c,c0 I];cases e:f i with
   |some s=>rfl
   |none=>
    simp only;cases e2:f n with
    |none=>simp [e2]
    |some u=>
     have:((i:Int)==(n:Int))=false:=by simp only [ACQ,AB3];omega
     simp [e2,lookup,this]
  ·rw [c1 c];simp only;by_cases A:i=n
   ·subst A;rw [c0 I];cases e2:f i with
    |none=>simp [e2]
    |some u=>simp [e2]
   ·rw [c1 I];have:((i:Int)==(n:Int))=false:=by simp only [ACQ,AB3];omega
    cases e2:f n with
    |none=>simp [e2]
    |some u=>simp [e2,lookup,this]
theorem zY:(eP l hs n h i).lookup (q:Int)=if q<n then gL l hs q (if q<i then h+1 else h) else none:=uj n q
theorem Vr {n i:Nat} (hi:i<n) {s:aa} (hf:(f i).isSome=true) (hg:g i=some s) (hfg:∀ q,q≠i→f q=g q):d_ ((range n).filterMap fun q=>(f q).map fun s=>((q:Int),s)) (i:Int) s=(range n).filterMap fun q=>(g q).map fun s=>((q:Int),s):=by
 unfold d_;rw [c0 (by rw [uj,c0 hi];exact hf),List.map_filterMap];apply pz;intro q _;by_cases e:q=i
 ·subst e;obtain ⟨u,hu⟩:=ABZ.1 hf;rw [hu,hg];simp
 ·rw [hfg q e];cases g q with
  |none=>rfl
  |some u=>
   have: ¬ ((q:Int)=(i:Int)):=by omega
   simp [this]
theorem WG {n i:Nat} (hg:g i=none) (hfg:∀ q,q≠i→f q=g q):cH ((range n).filterMap fun q=>(f q).map fun s=>((q:Int),s)) (i:Int)=(range n).filterMap fun q=>(g q).map fun s=>((q:Int),s):=by
 unfold cH;rw [List.filter_filterMap];apply pz;intro q _;by_cases e:q=i
 ·subst e;rw [hg];cases f q with
  |none=>rfl
  |some u=>simp
 ·rw [hfg q e];cases g q with
  |none=>rfl
  |some u=>
   have: ¬ ((q:Int)=(i:Int)):=by omega
   simp [this]
theorem Sk (hi:i<n) (h0:(gL l hs i h).isSome=true) (h1:gL l hs i (h+1)=some s):d_ (eP l hs n h i) (i:Int) s=eP l hs n h (i+1):=by
 unfold eP;refine Vr hi (by rw [c1 (lt_irrefl i)];exact h0) (by rw [c0 (ABb i)];exact h1) fun q hq=>?_;by_cases c:q<i
 ·rw [c0 c,c0 I]
 ·rw [c1 c,c1 I]
theorem JP (h1:gL l hs i (h+1)=none):cH (eP l hs n h i) (i:Int)=eP l hs n h (i+1):=by
 unfold eP;refine WG (by rw [c0 (ABb i)];exact h1) fun q hq=>?_;by_cases c:q<i
 ·rw [c0 c,c0 I]
 ·rw [c1 c,c1 I]
end
def pU (m:k9) (i:Int):k9:=m.filter fun p=> !decide (p.1=i)
def mX (m:k9) (i n:Int):Nat:=(pU m i).countP fun p=>decide (p.2.Hi<n)
def qx (m:k9) (i n:Int):Nat:=(pU m i).countP fun p=>decide (p.2.Lo<n)
def oS (m:k9) (i:Int) (own:aa):List Int:=own.Lo::((pU m i).flatMap fun p=>[p.2.Lo+1,p.2.Hi+1]).filter fun n=>decide (own.Lo≤n∧n≤own.Hi)
def zX (m:k9) (i:Int) (own:aa) (k:Int):Prop:= ∃ n∈oS m i own,(mX m i n:Int)+1≤k∧k≤(qx m i n:Int)+1
noncomputable instance (m:k9) (i:Int) (own:aa) (k:Int):Decidable (zX m i own k):=Classical.propDecidable _
noncomputable def e9 (m:k9) (i:Int) (own:aa):List Int:=((range m.length).map fun (k:Nat)=>(k:Int)+1).filter fun k=>decide (zX m i own k)
section
variable {m:k9} {i:Int} {own:aa}
theorem MZ (hi:m.lookup i≠none):qx m i x+1≤m.length:=by
 unfold qx;refine ACX ACG ?_;unfold pU;obtain ⟨v,hv⟩:=Option.ne_none_iff_exists'.1 hi;have hm: ∃ p∈m,p.1=i:=by
  clear hi
  induction m with
  |nil=>simp at hv
  |cons p m ih=>
   obtain ⟨a,b⟩:=p;by_cases e:i=a
   ·exact ⟨_,bZ ..,e.symm⟩
   ·have:(i==a)=false:=by simpa using e
    simp only [lookup,this] at hv;obtain ⟨p,hp,e⟩:=ih hv;exact ⟨p,dg _ hp,e⟩
 obtain ⟨p,hp,e⟩:=hm;refine Nat.lt_of_le_of_ne (u2 _ _) fun q=>?_;have:=(ABi (p:=fun p:Int×aa=> !decide (p.1=i))).1 (AA3.eq_of_length q) p hp;simp [e] at this
theorem L8 (hi:m.lookup i≠none) {k:Int}:k∈e9 m i own↔zX m i own k:=by
 unfold e9;rw [n3,cu,r0];constructor
 ·rintro ⟨_,h⟩;exact h
 ·intro h;refine ⟨?_,h⟩;obtain ⟨n,_,A,B⟩:=h;have:=MZ hi (x:=n);exact ⟨(k-1).toNat,AAd.2 I,I⟩
end
end
section
def sV (l:List Int):List (List Value):=l.map fun x=>[vI x]
theorem wb:(sV l).length=l.length:=by simp [sV]
theorem Kd (h:l[k]? =some x):(sV l)[k]? =some [vI x]:=by simp [sV,h]
theorem K7 {x:List Value} (h:(sV l)[k]? =some x): ∃ y,l[k]? =some y∧x=[vI y]:=by
 simp only [sV,gM,AAQ] at h;obtain ⟨y,hy,rfl⟩:=h;exact ⟨y,hy,U⟩
theorem HH: ∀ x∈sV l,x.length=1:=fun x hx=>by
 simp only [sV,cu] at hx;obtain ⟨y,_,rfl⟩:=hx;rfl
theorem BE:l.take (sV l).length=l:=by rw [wb,c5 (c9 _)]
theorem nN (h:l[k]? =some x):l.take (k+1)=l.take k++[x]:=by
 rw [l1,h];rfl
def eg (l:List Int):List Int:=l.mergeSort fun a b=>decide (a≤b)
theorem f_:(eg l).Perm l:=List.mergeSort_perm _ _
theorem lL:(eg l).Pairwise (· ≤ ·):=by
 have:=List.pairwise_mergeSort (le:=fun (a b:Int)=>decide (a≤b)) (fun a b c A B=>by simp at A B ⊢;omega) (fun a b=>by simp;omega) l;exact this.imp fun h=>by simpa using h
@[simp] theorem iD {l:List Int}:(eg l).length=l.length:=f_.length_eq
theorem tF {m:List Int} (h1:m.Perm l) (h2:m.Pairwise (· ≤ ·)):m=eg l:=uX (h1.trans f_.symm) h2 lL
end
section
open Go.RowKit
def sC (s:aV):List Value:=[vS s.a s.n s.c]
theorem CO: ∀ s,(sC s).length=1:=fun s=>rfl
theorem O8 (l:List aV): ∀ v∈(l.map sC).flatten,v.oneCell'=true:=oa (fun s=>rfl) l
def FE (l:List aa) (a:RA):aV:=⟨a.1,l.length,a.2⟩
def Td (l:List aa) (a:RA):List Value:=[vS a.1 l.length a.2]
def TL (l:List aa) (a:RA):List ar:=[rd a.1 l.length 2 (l.map aa.cells)]
def HT (l:List aa) (a:RA):List ar:=[own a.1 a.2 P0 2 (l.map aa.cells)]
theorem Cs:(zipWith FE ls az).map sC=zipWith Td ls az:=by
 rw [List.map_zipWith];rfl
theorem Jr: ∀ (m:List aa) (a:RA) (w:World),(∀ X∈HT m a,X.holds w)→ ∀ X∈TL m a,X.holds w:=fun m a w h X hX=>by
 simp only [TL,bT] at hX;subst hX;have:=ph (h _ (bT.2 rfl));simpa using this
theorem Dh {l:List (List aa)}:(bD (bx HT l bz)).wr=true:=by
 show (bx HT l bz).all (·.wr)=true
 rw [db];intro X hX;obtain ⟨k,m,a,_,_,h⟩:=lD hX;simp only [HT,bT] at h;subst h;rfl
theorem zq (h:az.length=ls.length):(zipWith Td ls az).length=ls.length:=by simp [h]
noncomputable def ik (r:cN) (i:Nat):List (List aa):=(r.ay.take i).map fun h=>h.map (fZ r.av)
noncomputable def dL (r:cN):List (List aa):=ik r r.ay.length
section
variable {r:cN} {i:Nat} {h:List ao} {tz:List RA} {a:RA}
theorem yG (hh:r.ay[i]? =some h):ik r (i+1)=ik r i++[h.map (fZ r.av)]:=by unfold ik;rw [l1,hh,AAF];rfl
theorem mw (hi:i≤r.ay.length):(ik r i).length=i:=by unfold ik;rw [c3,k5];omega
theorem fJ:(dL r).length=r.ay.length:=mw (c9 _)
theorem HN (hh:r.ay[i]? =some h):(dL r)[i]? =some (h.map (fZ r.av)):=by
 unfold dL ik;rw [AA8,gM,hh];rfl
theorem MD {m:List aa} (hh:r.ay[i]? =some h) (hm:(dL r)[i]? =some m):m=h.map (fZ r.av):=by
 rw [HN hh] at hm;exact (m3 hm).symm
theorem xj (hh:r.ay[i]? =some h) (hl:tz.length=i):zipWith FE (ik r (i+1)) (tz++[a])=zipWith FE (ik r i) tz++[FE (h.map (fZ r.av)) a]:=by
 have hi:=(aR.1 hh).1;rw [yG hh,ACR (by rw [mw I,hl])];rfl
theorem E6 (hh:r.ay[i]? =some h) (hl:tz.length=i):bx HT (ik r i) tz++[own a.1 a.2 P0 2 ((h.map (fZ r.av)).map aa.cells)]=bx HT (ik r (i+1)) (tz++[a]):=by
 have hi:=(aR.1 hh).1;rw [yG hh,lp (by rw [mw I,hl])];simp [bx,HT]
end
theorem BU {lo hi:Int}:oK lo hi l=true↔ ∀ x∈l,lo≤x∧x≤hi:=by
 unfold oK;rw [e0,ACC];constructor
 ·intro h x hx;have:=h x hx;simp only [r0] at this;omega
 ·intro h x hx;have:=h x hx;simp only [r0];omega
abbrev J_ (n:Nat):List Int:=(range n).map fun (k:Nat)=>(k:Int)
theorem Bs (n:Nat):(J_ n).Pairwise (· ≤ ·):=by
 unfold J_;rw [AAK];exact AAt.imp fun h=>by omega
theorem Gm {n:Nat} (h:l.Perm (J_ n)):eg l=J_ n:=(tF h.symm (Bs n)).symm
theorem LV {n:Nat} (hl:l.length=n) (h:∀ j,j<n→ ∀ x,(eg l)[j]? =some x→x=(j:Int)):l.Perm (J_ n):=by
 have e:eg l=J_ n:=by
  apply List.ext_getElem
  ·simp [hl]
  ·intro j A B;have C:j<n:=by simpa using B
   have:=h j C _ (fh A);simpa using this
 rw [← e];exact f_.symm
def ud (r:cN) (i:Nat):Prop:= ∀ j,j<i→(∀ x,(eg r.dp)[j]? =some x→x=(j:Int))∧ ∀ x y,r.bf[j]? =some x→0<j→r.bf[j-1]? =some y→y<x
def HO (r:cN) (h:List ao):Prop:=h.length=r.bf.length∧ ∀ d∈h,jt r.av d
def lM (r:cN) (i:Nat):Prop:= ∀ (j:Nat) h,j<i→r.ay[j]? =some h→HO r h
def qi (l:a_) (h:List ao) (k:Nat):Prop:= ∀ (j:Nat) d,j<k→h[j]? =some d→jt l d
section
variable {r:cN} {i:Nat}
theorem Hx:ud r 0:=fun j hj=>absurd hj (s4 _)
theorem AN (h:ud r i) (hd:(eg r.dp)[i]? =some x) (e:x=(i:Int)) (hs:∀ x y,r.bf[i]? =some x→0<i→r.bf[i-1]? =some y→y<x):ud r (i+1):=fun j hj=>by
 rcases r4 j i with q|q
 ·exact h j q
 ·obtain rfl:j=i:=by omega
  exact ⟨fun y hy=>by rw [hd] at hy;cases hy;exact e,hs⟩
theorem AU:lM r 0:=fun j h hj=>absurd hj (s4 _)
theorem Ap (hh:lM r i) (hx:r.ay[i]? =some h) (ho:HO r h):lM r (i+1):=fun j y hj hy=>by
 rcases r4 j i with q|q
 ·exact hh j y q hy
 ·obtain rfl:j=i:=by omega
  rw [hx] at hy;cases hy;exact ho
theorem yK {l:a_}:qi l h 0:=fun j d hj=>absurd hj (s4 _)
theorem yT {l:a_} (ht:qi l h i) (hx:h[i]? =some d) (ho:jt l d):qi l h (i+1):=fun j y hj hy=>by
 rcases r4 j i with q|q
 ·exact ht j y q hy
 ·obtain rfl:j=i:=by omega
  rw [hx] at hy;cases hy;exact ho
theorem I8 (hl:h.length=r.bf.length) (ht:qi r.av h i) (hi:h.length≤i):HO r h:=⟨hl,fun d hd=>by
 obtain ⟨j,hj⟩:=s3 hd;exact ht j d (by have:=(aR.1 hj).1;omega) hj⟩
theorem Qb {n:Nat} (hn:n=r.bf.length) (h1:1≤(r.bf.length:Int)∧(r.bf.length:Int)≤5) (h2:r.dp.length=r.bf.length) (h3:0≤r.jB∧r.jB≤5) (h4:1≤(r.ay.length:Int)∧(r.ay.length:Int)≤3) (h5:oK 0 9999 r.bf=true)
 (h6:ud r n) (h7:lM r i) (hi:r.ay.length≤i):fr r:=by
 subst hn;refine ⟨h1,h3,h4,fun k x hx=>⟨BU.1 h5 x (aF hx),fun y hk hy=>?_⟩,LV h2 fun j hj=>(h6 j hj).1,fun h hh=>?_⟩
 ·exact (h6 k (aR.1 hx).1).2 x y hx hk hy
 ·obtain ⟨j,hj⟩:=s3 hh;exact h7 j h (by have:=(aR.1 hj).1;omega) hj
theorem fr.DL (h:fr r):r.dp.length=r.bf.length:=by have:=h.draw.length_eq;simpa using this
theorem fr.ins (h:fr r):oK 0 9999 r.bf=true:=BU.2 fun x hx=>by
 obtain ⟨j,hj⟩:=s3 hx;exact (h.ids j x hj).1
theorem fr.drawn (h:fr r) (hx:(eg r.dp)[i]? =some x):x=(i:Int):=by
 rw [Gm h.draw] at hx;have hi:=(aR.1 hx).1;simp at hi;rw [gM,ABG hi] at hx;exact (m3 hx).symm
theorem fr.JR (h:fr r):lM r i:=fun j x _ hx=>h.fG x (aF hx)
theorem BG (h: ¬ dU r.av=0):eK r=dU r.av:=c1 h
theorem l8 (h:dU r.av=0) (hn: ¬ fr r):eK r=60:=by unfold eK;rw [c0 h,c1 hn]
theorem Ar (h:dU r.av=0) (hn:fr r):eK r=0:=by unfold eK;rw [c0 h,c0 hn]
theorem dF (h:eK r=0):dU r.av=0∧fr r:=by
 unfold eK at h;split at h
 ·split at h
  ·exact ⟨asm,asm⟩
  ·cases h
 ·exact absurd h asm
end
section
variable {r:cN} {k i n h:Nat} {s:aa} {l:a_} {hs:List (List ao)}
theorem DO: ∀ {k:Nat} {s:aa},lM r k→k≤r.ay.length→gL r.av r.ay i k=some s→0≤s.Lo∧s.Lo≤s.Hi∧s.Hi≤8640000*(k:Int)
 |0,s,_,_,h=>by
  simp only [gL,k4] at h;subst h;simp
 |k+1,s,hh,hk,h=>by
  unfold gL at h;split at h
  ·rename_i u d hu hd;split at h
   ·cases h
   ·cases h;have A:=DO (fun j x hj hx=>hh j x I hx) I hu;obtain ⟨x,hx,hd⟩:=Option.bind_eq_some_iff.1 hd;have B:=Jh ((hh k x I hx).2 d (aF hd));simp only
    push_cast
    omega
  ·cases h
theorem Rq:d_ (eP l hs i 0 0) (i:Int) ⟨0,0⟩=eP l hs (i+1) 0 0:=by
 have A:(eP l hs i 0 0).lookup (i:Int)=none:=by rw [zY,c1 (lt_irrefl i)]
 unfold d_;rw [A];simp only [Option.isSome_none,Bool.false_eq_true,AA0];unfold eP;rw [AAV,AAh];simp [gL]
theorem P7 (hi:i<n):(eP l hs n h i).lookup (i:Int)=gL l hs i h:=by rw [zY,c0 hi,c1 (lt_irrefl i)]
theorem Wg {f:α→β} {tr:List β} {ht:List α} {x:β} {d:α} (e:tr=ht.map f) (hx:tr[i]? =some x) (hd:ht[i]? =some d):x=f d:=by
 rw [e,gM,hd] at hx;exact (m3 hx).symm
theorem Sf:eP r.av r.ay r.bf.length h 0=qb r h:=Fu
end
abbrev Jp (A C X Z):=own A C 102 1 (zipWith Td X Z)
abbrev UT (A C X):=own A C 102 1 (List.map sC X)
end
section
def zb (key:Int→Int) (l:List Int) (x:Int):List Int:=l.takeWhile (fun y=>decide (key y≤key x))++x::l.dropWhile (fun y=>decide (key y≤key x))
def gU (key:Int→Int) (l:List Int):List Int:=l.foldl (zb key) []
def JQ (key:Int→Int) (l:List Int):Prop:=l.Pairwise fun a b=>key a≤key b
section
variable {key:Int→Int} {l A B D:List Int} {x u v:Int} {i j:Nat}
theorem Lb:(zb key l x).Perm (x::l):=by
 unfold zb;refine v5.trans ?_;rw [List.takeWhile_append_dropWhile]
theorem Uu (hA: ∀ y∈A,key y≤key x) (hB: ∀ y∈B,key x<key y):(A++B).takeWhile (fun y=>decide (key y≤key x))=A∧(A++B).dropWhile (fun y=>decide (key y≤key x))=B:=by
 induction A with
 |nil=>
  cases B with
  |nil=>simp
  |cons b B=>
   have h:=hB b bZ;have:decide (key b≤key x)=false:=bj I;rw [AAp,List.takeWhile_cons,List.dropWhile_cons,this];exact ⟨U,U⟩
 |cons a A ih=>
  have h:=ih fun y hy=>hA y (dg _ hy);have:decide (key a≤key x)=true:=cT (hA a bZ);simp only [AAX,List.takeWhile,List.dropWhile,this];exact ⟨by rw [h.1],h.2⟩
theorem zE (hA: ∀ y∈A,key y≤key x) (hB: ∀ y∈B,key x<key y):zb key (A++B) x=A++x::B:=by
 unfold zb;rw [(Uu hA hB).1,(Uu hA hB).2]
theorem E4 (x:Int): ∀ {l:List Int},JQ key l→ ∃ A B,l=A++B∧(∀ y∈A,key y≤key x)∧ ∀ y∈B,key x<key y
 |[],_=>⟨[],[],rfl,(fun y h=>by cases h),fun y h=>by cases h⟩
 |a::l,h=>by
  unfold JQ at h;rw [AAT] at h;by_cases c:key a≤key x
  ·obtain ⟨A,B,e,hA,hB⟩:=E4 x (l:=l) h.2;refine ⟨a::A,B,by rw [e];rfl,fun y hy=>?_,hB⟩;rcases bH.1 hy with rfl|hy
   ·exact c
   ·exact hA y hy
  ·refine ⟨[],a::l,rfl,fun y hy=>(by cases hy),fun y hy=>?_⟩;rcases bH.1 hy with rfl|hy
   ·omega
   ·have:=h.1 y hy;omega
theorem Se (h:JQ key l):JQ key (zb key l x):=by
 obtain ⟨A,B,rfl,hA,hB⟩:=E4 x h;rw [zE hA hB];unfold JQ at h ⊢;rw [AAb] at h ⊢;refine ⟨h.1,AAT.2 ⟨fun y hy=>by have:=hB y hy;omega,h.2.1⟩,fun y hy z hz=>?_⟩;rcases bH.1 hz with rfl|hz
 ·exact hA y hy
 ·exact h.2.2 y hy z hz
theorem Fx:gU key (l++[x])=zb key (gU key l) x:=by unfold gU;rw [List.foldl_append];rfl
theorem E8 (h:l[i]? =some x):gU key (l.take (i+1))=zb key (gU key (l.take i)) x:=by rw [nN h,Fx]
theorem Ao: ∀ {l m:List Int},(l.foldl (zb key) m).Perm (m++l)
 |[],m=>by simp
 |x::l,m=>(Ao (l:=l) (m:=zb key m x)).trans (((Lb).append_right l).trans (by
  rw [AAX];exact v5.symm))
theorem yA:(gU key l).Perm l:=by simpa [gU] using Ao (key:=key) (l:=l) (m:=[])
theorem Ev: ∀ {l m:List Int},JQ key m→JQ key (l.foldl (zb key) m)
 |[],m,h=>h
 |x::l,m,h=>Ev (l:=l) (Se h)
theorem Cz:JQ key (gU key l):=Ev List.Pairwise.nil
theorem qm:(gU key l).length=l.length:=yA.length_eq
def FR (key:Int→Int) (l:List Int) (i j:Nat) (D:List Int):Prop:= ∃ A B x,l[i]? =some x∧A.length=j∧gU key (l.take i)=A++B∧(∀ y∈B,key x<key y)∧D=A++x::(B++l.drop (i+1))
def xo (key:Int→Int) (l:List Int) (i:Nat) (D:List Int):Prop:=D=gU key (l.take i)++l.drop i
theorem Ph (h:0<l.length):xo key l 1 l:=by
 cases l with
 |nil=>simp at h
 |cons a l=>simp [xo,gU,zb]
theorem Ni (hi:l.length≤i) (h:xo key l i D):D=gU key l:=by
 subst h;rw [c5 hi,List.drop_of_length_le hi,AAJ]
theorem HQ (hi:i<l.length) (h:xo key l i D):FR key l i i D:=by
 have hx:l[i]? =some l[i]:=fh hi;refine ⟨gU key (l.take i),[],l[i],hx,by rw [qm,k5];omega,sm,fun y hy=>(by cases hy),?_⟩;rw [h,AAp,u1 hi]
theorem z7: ∀ {A:List Int},0<A.length→ ∃ A' y,A=A'++[y]:=fun {A} h=>⟨A.dropLast,A.getLast (by intro e;subst e;simp at h),(List.dropLast_concat_getLast _).symm⟩
theorem Lc (hj:0<j) (h:FR key l i j D) (hu:D[j]? =some u) (hv:D[j-1]? =some v) (hlt:key u<key v):FR key l i (j-1) ((D.set j v).set (j-1) u):=by
 obtain ⟨A,B,x,hx,hl,he,hB,rfl⟩:=h;obtain ⟨A',y,rfl⟩:=z7 (A:=A) I;simp only [e4,y3,List.length_nil] at hl;subst hl;have C:(A'++[y]++x::(B++l.drop (i+1)))=A'++y::x::(B++l.drop (i+1)):=by simp
 rw [C] at hu hv ⊢;rw [k_ I,show A'.length+(0+1)-A'.length=1 by omega] at hu;rw [show A'.length+(0+1)-1=A'.length by omega,k_ (c9 _),AAw] at hv;simp at hu hv;subst hu hv;refine ⟨A',y::B,x,hx,I,by rw [he];simp,fun z hz=>?_,?_⟩
 ·rcases bH.1 hz with rfl|hz
  ·exact hlt
  ·exact hB z hz
 ·rw [show A'.length+(0+1)-1=A'.length by omega,AAu _ _ I,AAu _ _ (c9 _),show A'.length+(0+1)-A'.length=1 by omega,AAw];simp
theorem CV (h:FR key l i j D) (hc: ∀ A,A.length=j→(∃ C,D=A++C)→JQ key A→ ∀ x,l[i]? =some x→D[j]? =some x→ ∀ y∈A,key y≤key x):xo key l (i+1) D:=by
 obtain ⟨A,B,x,hx,hl,he,hB,rfl⟩:=h;unfold xo;have E:JQ key (A++B):=he▸Cz;rw [E8 hx,he,zE (hc A hl ⟨_,rfl⟩ (by unfold JQ at E ⊢;rw [AAb] at E;exact E.1) x hx (by rw [k_ I,← hl];simp)) hB];simp
theorem CQ (hj: ¬ 0<j) (h:FR key l i j D):xo key l (i+1) D:=CV h fun A hl _ _ x _ _ y hy=>by
 have:A=[]:=kq I;subst this;cases hy
theorem CC (hj:0<j) (h:FR key l i j D) (hu:D[j]? =some u) (hv:D[j-1]? =some v) (hlt: ¬ key u<key v):xo key l (i+1) D:=CV h fun A hl hC hA x hx hd y hy=>by
 obtain ⟨C,hC⟩:=hC;obtain ⟨A',z,rfl⟩:=z7 (A:=A) I;simp only [e4,y3,List.length_nil] at hl;rw [hd] at hu;cases hu;have e:D[j-1]? =some z:=by
  rw [hC,append_assoc,k_ I,show j-1-A'.length=0 by omega];simp
 rw [e] at hv;cases hv;unfold JQ at hA;rw [AAb] at hA;rcases dY.1 hy with hy|hy
 ·have:=hA.2.2 y hy v sm;omega
 ·rw [bT] at hy;subst hy;omega
end
end
section
def cd (m:k9) (i:Int):aa:=(m.lookup i).getD gO
def mN (r:cN) (i:Int):Prop:=0≤i∧i≤(r.bf.length:Int)-1
instance (r:cN) (i:Int):Decidable (mN r i):=by unfold mN;infer_instance
noncomputable def oF (r:cN) (i:Int):Int:=if eK r=0 then (if mN r i then (if (bI r).lookup i=none then 6 else 0) else 2) else eK r
noncomputable def yX (r:cN) (i:Int):aa:=if oF r i=0 then cd (bI r) i else gO
noncomputable def ks (r:cN) (i:Int):List Int:=if oF r i=0 then e9 (bI r) i (cd (bI r) i) else []
section
variable {r:cN} {i a b:Int}
theorem Ks {m:k9} {i:Int} (h:(m.lookup i).isSome=true): ¬ m.lookup i=none:=fun e=>by rw [e] at h;cases h
theorem LL {m:k9} {i:Int} (h:(m.lookup i).isSome=false):m.lookup i=none:=by cases e:m.lookup i with |none=>rfl|some v=>rw [e] at h;cases h
theorem B8 (h:oF r i=0):eK r=0∧mN r i∧(bI r).lookup i≠none:=by
 unfold oF at h;split at h
 ·split at h
  ·split at h
   ·cases h
   ·exact ⟨asm,asm,asm⟩
  ·cases h
 ·exact absurd h asm
theorem xL {p:Int×aa} (h:p∈qb r k): ∃ q:Nat,q<r.bf.length∧p.1=(q:Int)∧gL r.av r.ay q k=some p.2:=by
 unfold qb at h;obtain ⟨q,hq,e⟩:=AAD.1 h;obtain ⟨s,hs,rfl⟩:=AAQ.1 e;exact ⟨q,AAd.1 hq,U,hs⟩
theorem Rn (h:eK r=0) (hk:k≤r.ay.length): ∀ p∈qb r k,0≤p.2.Lo∧p.2.Lo≤p.2.Hi∧p.2.Hi≤30000000:=fun p hp=>by
 obtain ⟨q,_,_,hs⟩:=xL hp;have A:=DO (dF h).2.JR hk hs;have B:=(dF h).2.nh;omega
theorem yp (h:eK r=0): ∀ p∈bI r,0≤p.2.Lo∧p.2.Lo≤p.2.Hi∧p.2.Hi≤30000000:=Rn h (c9 _)
theorem BY:(qb r k).length≤r.bf.length:=by
 unfold qb;refine c6 (List.length_filterMap_le _ _) ?_;rw [AA1];exact c9 _
theorem tv (h:eK r=0):(bI r).length≤5:=by
 have A:=BY (r:=r) (k:=r.ay.length);have B:=(dF h).2.num;unfold bI;omega
theorem QG (h: ¬ eK r=0):oF r i=eK r:=c1 h
theorem O_ (h:eK r=0) (hi: ¬ (0≤i∧i≤(r.bf.length:Int)-1)):oF r i=2:=by unfold oF;rw [c0 h,c1 (show ¬ mN r i from hi)]
theorem KS (h:eK r=0) (hi:0≤i∧i≤(r.bf.length:Int)-1) (hl:((bI r).lookup i).isSome=false):oF r i=6:=by unfold oF;rw [c0 h,c0 (show mN r i from hi),c0 (LL hl)]
theorem Tz (h:eK r=0) (hi:0≤i∧i≤(r.bf.length:Int)-1) (hl:((bI r).lookup i).isSome=true):oF r i=0:=by unfold oF;rw [c0 h,c0 (show mN r i from hi),c1 (Ks hl)]
end
end
section
abbrev tg:=List (Int×Bool)
def j7 (m:tg) (P:Int→Prop):Prop:=(m.map (·.1)).Nodup∧ ∀ k,k∈m.map (·.1)↔P k
section
variable {m:tg} {P Q:Int→Prop} {k:Int}
theorem j7.By (h:j7 m P) (e: ∀ k,P k↔Q k):j7 m Q:=⟨h.1,fun k=>(h.2 k).trans (e k)⟩
theorem QX (h: ∀ k,¬ P k):j7 [] P:=⟨List.Pairwise.nil,fun k=>⟨fun q=>by simp at q,fun q=>absurd q (h k)⟩⟩
theorem Mg:k∈m.map (·.1)↔(m.lookup k).isSome=true:=by
 induction m with
 |nil=>simp
 |cons p m ih=>
  obtain ⟨a,b⟩:=p;by_cases e:k=a
  ·subst e;simp [lookup]
  ·have:(k==a)=false:=by simpa using e
   simp only [m2,bH,e,false_or,lookup,this];exact ih
theorem Pp (h:j7 m P) (hk:¬ P k):j7 (d_ m k b) fun q=>P q∨q=k:=by
 have hn:(m.lookup k).isSome=false:=by
  rw [Bool.eq_false_iff];exact fun q=>hk ((h.2 k).1 (Mg.2 q))
 unfold d_;rw [hn];simp only [Bool.false_eq_true,AA0];refine ⟨?_,fun q=>?_⟩
 ·rw [AAF];refine ABs.2 ⟨h.1,sm,fun a ha b hb e=>?_⟩;simp at hb;subst hb;subst e;exact hk ((h.2 _).1 ha)
 ·rw [AAF,dY,h.2 q];simp
theorem Gt (h:j7 m P):j7 (cH m k) fun q=>P q∧q≠k:=by
 have hs:((cH m k).map (·.1)).Sublist (m.map (·.1)):=List.Sublist.map _ AA3;refine ⟨h.1.sublist hs,fun q=>?_⟩;constructor
 ·intro hq;obtain ⟨p,hp,rfl⟩:=cu.1 hq;obtain ⟨A,B⟩:=lJ.1 hp;exact ⟨(h.2 _).1 (AAE A),B⟩
 ·rintro ⟨A,B⟩;obtain ⟨p,hp,rfl⟩:=cu.1 ((h.2 q).2 A);exact AAE (lJ.2 ⟨hp,B⟩)
end
/-- two rows that go up and have the same numbers, each once -/
theorem qJ {a b:List Int} (ha:a.Pairwise (· ≤ ·)) (hb:b.Pairwise (· ≤ ·)) (na:a.Nodup) (nb:b.Nodup) (h: ∀ x,x∈a↔x∈b):a=b:=
 uX ((List.perm_ext_iff_of_nodup na nb).2 h) ha hb
section
variable {m left:k9} {i n x:Int} {y:aa}
theorem nO {p:Int×aa→Bool} (hn:(left.map (·.1)).Nodup) (hm:(x,y)∈left):left.countP p=(cH left x).countP p+(if p (x,y)=true then 1 else 0):=by
 induction left with
 |nil=>cases hm
 |cons q left ih=>
  obtain ⟨a,b⟩:=q;simp only [m2,AA2] at hn;rcases bH.1 hm with e|hm
  ·cases e;have A:cH ((x,y)::left) x=left:=by
    unfold cH;rw [AAj sm];exact ABi.2 fun q hq=>by
     have:q.1≠x:=fun e=>hn.1 (e▸AAE hq);simpa using this
   rw [A,ACf]
  ·have B:a≠x:=fun e=>hn.1 (e▸AAE (f:=fun z:Int×aa=>z.1) hm);have A:cH ((a,b)::left) x=(a,b)::cH left x:=by
    unfold cH;rw [AAi (by simpa using B)]
   rw [A,ACf,ACf,ih hn.2 hm];omega
theorem uo:mX left i n=left.countP fun p=>decide (p.2.Hi<n)&& !decide (p.1=i):=by unfold mX pU;rw [List.countP_filter]
theorem yl:qx left i n=left.countP fun p=>decide (p.2.Lo<n)&& !decide (p.1=i):=by unfold qx pU;rw [List.countP_filter]
theorem K1 (hn:(left.map (·.1)).Nodup) (hm:(x,y)∈left) (h:x=i):mX left i n=mX (cH left x) i n:=by
 rw [uo,uo,nO hn hm];simp [h]
theorem OE (hn:(left.map (·.1)).Nodup) (hm:(x,y)∈left) (h:x=i):qx left i n=qx (cH left x) i n:=by
 rw [yl,yl,nO hn hm];simp [h]
theorem CW (hn:(left.map (·.1)).Nodup) (hm:(x,y)∈left) (h: ¬ x=i) (hy:y.Hi<n):mX left i n=mX (cH left x) i n+1:=by
 rw [uo,uo,nO hn hm];simp [h,hy]
theorem FF (hn:(left.map (·.1)).Nodup) (hm:(x,y)∈left) (h: ¬ x=i) (hy: ¬ y.Hi<n):mX left i n=mX (cH left x) i n:=by
 rw [uo,uo,nO hn hm];simp [h,hy]
theorem E0 (hn:(left.map (·.1)).Nodup) (hm:(x,y)∈left) (h: ¬ x=i) (hy:y.Lo<n):qx left i n=qx (cH left x) i n+1:=by
 rw [yl,yl,nO hn hm];simp [h,hy]
theorem I1 (hn:(left.map (·.1)).Nodup) (hm:(x,y)∈left) (h: ¬ x=i) (hy: ¬ y.Lo<n):qx left i n=qx (cH left x) i n:=by
 rw [yl,yl,nO hn hm];simp [h,hy]
theorem Cm:mX [] i n=0:=rfl
theorem Eo:qx [] i n=0:=rfl
theorem Jj:mX m i n≤m.length:=by unfold mX pU;exact c6 ACG (u2 _ _)
theorem Oh:qx m i n≤m.length:=by unfold qx pU;exact c6 ACG (u2 _ _)
end
def qv {β:Type} (m left:List (Int×β)) (ys:List Int):Prop:=(ys++left.map (·.1)).Perm (m.map (·.1))
theorem yB {m:List (Int×β)}:qv m m []:=ABY _
theorem AR {m:List (Int×β)} (h:qv m [] ys):ys.Perm (m.map (·.1)):=by simpa [qv] using h
theorem OY {left:List (Int×β)} {y:β} (hn:(left.map (·.1)).Nodup) (hm:(x,y)∈left):(left.map (·.1)).Perm (x::(cH left x).map (·.1)):=by
 induction left with
 |nil=>cases hm
 |cons q left ih=>
  obtain ⟨a,b⟩:=q;simp only [m2,AA2] at hn;rcases bH.1 hm with e|hm
  ·cases e;have A:cH ((x,y)::left) x=left:=by
    unfold cH;rw [AAj sm];exact ABi.2 fun q hq=>by
     have:q.1≠x:=fun e=>hn.1 (e▸AAE hq);simpa using this
   rw [A];exact ABY _
  ·have B:a≠x:=fun e=>hn.1 (e▸AAE (f:=fun z:Int×β=>z.1) hm);have A:cH ((a,b)::left) x=(a,b)::cH left x:=by
    unfold cH;rw [AAi (by simpa using B)]
   rw [A,m2,m2];exact ((ih hn.2 hm).cons a).trans (List.Perm.swap _ _ _)
theorem qe {m left:List (Int×β)} {y:β} (hn:(left.map (·.1)).Nodup) (hm:(x,y)∈left) (h:qv m left ys):qv m (cH left x) (ys++[x]):=by
 unfold qv at h ⊢;refine List.Perm.trans ?_ h;rw [append_assoc];exact (OY hn hm).symm.append_left ys
theorem gZ {m left:List (Int×β)} (h:∀ p∈left,p∈m): ∀ p∈cH left x,p∈m:=fun p hp=>h p (lJ.1 hp).1
theorem oz {m:k9} {i:Int} (h: ∀ p∈m,0≤p.2.Lo∧p.2.Lo≤p.2.Hi∧p.2.Hi≤30000000):0≤(cd m i).Lo∧(cd m i).Lo≤(cd m i).Hi∧(cd m i).Hi≤30000000:=by
 unfold cd;cases e:m.lookup i with
 |none=>simp [gO]
 |some v=>
  have hm:(i,v)∈m:=by
   clear h
   induction m with
   |nil=>cases e
   |cons p m ih=>
    obtain ⟨a,b⟩:=p;by_cases c:i=a
    ·subst c;simp [lookup] at e;subst e;exact bZ
    ·have:(i==a)=false:=by simpa using c
     simp only [lookup,this] at e;exact dg _ (ih e)
  simpa using h _ hm
/-- not reached by the numbers so far -/
def yg (m:k9) (i:Int) (ys:List Int) (k:Int):Prop:=(1≤k∧k≤(m.length:Int))∧ ∀ n∈ys,¬ ((mX m i n:Int)+1≤k∧k≤(qx m i n:Int)+1)
section
variable {m:k9} {i:Int} {own:aa} {ys:List Int} {nev ranks:tg} {n a b:Int}
theorem QM (h:j7 nev fun k=>1≤k∧k≤(m.length:Int)):j7 nev (yg m i []):=h.By fun k=>⟨fun h=>⟨h,fun n hn=>by cases hn⟩,fun h=>h.1⟩
theorem NP (ha:a=(mX m i n:Int)+1) (hb:b=(qx m i n:Int)+1) (h:j7 nev fun q=>yg m i ys q∧ ¬ (a≤q∧q≤b)):j7 nev (yg m i (ys++[n])):=by
 subst ha hb;refine h.By fun k=>?_;unfold yg;constructor
 ·rintro ⟨⟨B,A⟩,C⟩;refine ⟨B,fun x hx=>?_⟩;rcases dY.1 hx with hx|hx
  ·exact A x hx
  ·rw [bT] at hx;subst hx;exact C
 ·rintro ⟨B,A⟩;exact ⟨⟨B,fun x hx=>A x (m1 _ hx)⟩,A n sm⟩
theorem GX {P:Int→Prop} {k:Int} (hk:a≤k) (h:j7 nev fun q=>P q∧ ¬ (a≤q∧q<k)):j7 (cH nev k) fun q=>P q∧ ¬ (a≤q∧q<k+1):=
 (Gt (k:=k) h).By fun q=>by
  constructor
  ·rintro ⟨⟨B,A⟩,E⟩;exact ⟨B,fun ⟨C,D⟩=>A ⟨C,I⟩⟩
  ·rintro ⟨B,A⟩;exact ⟨⟨B,fun ⟨C,D⟩=>A ⟨C,I⟩⟩,fun e=>A ⟨I,I⟩⟩
theorem JX (hall: ∀ n,n∈ys↔n∈oS m i own) {k:Int} (hk:1≤k∧k≤(m.length:Int)): ¬ yg m i ys k↔zX m i own k:=by
 unfold yg zX;constructor
 ·intro h;refine AAn fun q=>h ⟨hk,fun n hn hc=>q ⟨n,(hall n).1 hn,hc.1,hc.2⟩⟩
 ·rintro ⟨n,hn,A,B⟩ h;exact h.2 n ((hall n).2 hn) ⟨A,B⟩
/-- the ranks, from what is left of the map -/
theorem Ik (hi:m.lookup i≠none) (hall: ∀ n,n∈ys↔n∈oS m i own) (h:j7 ranks fun k=>(1≤k∧k≤(m.length:Int))∧ ¬ yg m i ys k):eg (ranks.map (·.1))=e9 m i own:=by
 refine qJ lL ?_ ((f_ (l:=ranks.map (·.1))).nodup_iff.2 h.1) ?_ fun k=>?_
 ·unfold e9;refine ACO _ ?_;rw [AAK];exact AAt.imp fun h=>by omega
 ·unfold e9;refine ACO _ ?_;rw [AAK];exact AAt.imp fun h=>by omega
 ·rw [(f_ (l:=ranks.map (·.1))).mem_iff,h.2 k,L8 hi];constructor
  ·rintro ⟨A,B⟩;exact (JX hall A).1 B
  ·intro A;have hk:1≤k∧k≤(m.length:Int):=by
    obtain ⟨n,_,B,C⟩:=A;have:=MZ hi (x:=n);omega
   exact ⟨hk,(JX hall hk).2 A⟩
end
section
variable {nw left rk:tg} {N R:Int→Prop} {u:Int} {v:Bool}
theorem Ts (hl: ∀ p∈left,p∈nw) (hk:j7 nw N) (hm:(u,v)∈left) (h:j7 rk fun w=>R w∧ ¬ (N w∧w ∉ left.map (·.1))):j7 (cH rk u) fun w=>R w∧ ¬ (N w∧w ∉ (cH left u).map (·.1)):=
 (Gt (k:=u) h).By fun w=>by
  have hd:w∈(cH left u).map (·.1)↔w∈left.map (·.1)∧w≠u:=by
   constructor
   ·intro q;obtain ⟨p,hp,rfl⟩:=cu.1 q;exact ⟨AAE (lJ.1 hp).1,(lJ.1 hp).2⟩
   ·rintro ⟨D,E⟩;obtain ⟨p,hp,rfl⟩:=cu.1 D;exact AAE (lJ.2 ⟨hp,E⟩)
  constructor
  ·rintro ⟨⟨B,A⟩,C⟩;exact ⟨B,fun q=>A ⟨q.1,fun z=>q.2 (hd.2 ⟨z,C⟩)⟩⟩
  ·rintro ⟨B,A⟩;refine ⟨⟨B,fun q=>A ⟨q.1,fun z=>q.2 (hd.1 z).1⟩⟩,fun e=>A ⟨?_,fun z=>(hd.1 z).2 e⟩⟩;subst e;exact (hk.2 _).1 (AAE (f:=fun z:Int×Bool=>z.1) (hl _ hm))
theorem Oz {n:Nat} (h:j7 rk R) (hR: ∀ k,R k→1≤k∧k≤(n:Int)):rk.length≤n:=by
 have hp:((range n).map fun (k:Nat)=>(k:Int)+1).Pairwise (· < ·):=by
  rw [AAK];exact AAt.imp fun h=>by omega
 have e:eg (rk.map (·.1))=((range n).map fun (k:Nat)=>(k:Int)+1).filter fun k=>decide (k∈rk.map (·.1)):=by
  refine qJ lL ((hp.filter _).imp fun h=>by omega) ((f_ (l:=rk.map (·.1))).nodup_iff.2 h.1) ((hp.filter _).imp fun h=>by omega) fun k=>?_;rw [(f_ (l:=rk.map (·.1))).mem_iff,n3,r0];refine ⟨fun q=>⟨?_,q⟩,fun q=>q.2⟩;have:=hR k ((h.2 k).1 q);exact cu.2 ⟨(k-1).toNat,AAd.2 I,I⟩
 have A:=c7 length e;have B:=u2 (fun k=>decide (k∈rk.map (·.1))) ((range n).map fun (k:Nat)=>(k:Int)+1);rw [iD,c3] at A;rw [c3,AA1] at B;omega
end
section
variable {m left:k9} {i x n:Int} {own y:aa} {ys:List Int}
/-- what was told so far: all of those who are not left -/
def CE (m:k9) (i:Int) (own:aa) (left:k9) (ys:List Int):Prop:=(∀ n∈ys,n∈oS m i own)∧own.Lo∈ys∧ ∀ p∈m,p.1≠i→p ∉ left→ ∀ n∈[p.2.Lo+1,p.2.Hi+1],own.Lo≤n∧n≤own.Hi→n∈ys
theorem oR {p:Int×aa} (hp:p∈m) (hi:p.1≠i) (hn:n=p.2.Lo+1∨n=p.2.Hi+1) (hb:own.Lo≤n∧n≤own.Hi):n∈oS m i own:=
 dg _ (n3.2 ⟨AAx.2 ⟨p,n3.2 ⟨hp,by simpa using hi⟩,by simpa using hn⟩,cT hb⟩)
theorem O1:CE m i own m [own.Lo]:=⟨fun n hn=>by rw [bT] at hn;subst hn;exact bZ,sm,fun p hp _ hl=>absurd hp hl⟩
theorem Rm (h:CE m i own [] ys) (n:Int):n∈ys↔n∈oS m i own:=by
 refine ⟨h.1 n,fun hn=>?_⟩;rcases bH.1 hn with rfl|hn
 ·exact h.2.1
 ·obtain ⟨C,D⟩:=n3.1 hn;obtain ⟨p,hp,hx⟩:=AAx.1 C;obtain ⟨A,B⟩:=n3.1 hp;exact h.2.2 p A (by simpa using B) sm n hx (s6 D)
theorem m8 {ys':List Int} (hm:(left.map (·.1)).Nodup) (hx:(x,y)∈left) (hl: ∀ p∈left,p∈m) (h:CE m i own left ys) (hs: ∀ n∈ys,n∈ys') (hn: ∀ n∈ys',n∈ys∨n∈oS m i own)
 (hy:x≠i→ ∀ n∈[y.Lo+1,y.Hi+1],own.Lo≤n∧n≤own.Hi→n∈ys'):CE m i own (cH left x) ys':=by
 refine ⟨fun n A=>?_,hs _ h.2.1,fun p hp hi B n A hb=>?_⟩
 ·rcases hn n A with q|q
  ·exact h.1 n q
  ·exact q
 ·by_cases e:p∈left
  ·have C:p.1=x:=by
    refine AAn fun q=>B (lJ.2 ⟨e,q⟩)
   have E:p=(x,y):=by
    obtain ⟨G,H⟩:=p;simp only at C;subst C;have F:=(ko hm).1 e;have D:=(ko hm).1 hx;rw [F] at D;cases D;rfl
   subst E;exact hy hi n A hb
  ·exact hs n (h.2.2 p hp hi e n A hb)
end
section
variable {r:cN} {h i:Int} {ht:List ao} {d:ao}
end
theorem Cu {i:Int} (h:¬ oF r i=0):ks r i=[]:=c1 h
theorem Kz {i:Int} (h:oF r i=0):ks r i=e9 (bI r) i (cd (bI r) i):=c0 h
end
section
open Go.RowKit
section
variable {key:Int→Int} {l q m:List Int} {i j:Nat} {x y:Int}
theorem Lz:1=1∧l=[]∨xo key l 1 l:=by
 cases l with
 |nil=>exact .inl ⟨rfl,rfl⟩
 |cons a l=>exact .inr (Ph sm)
theorem Rl (h:i<l.length) (hd:i=1∧l=[]∨xo key l i m):xo key l i m:=by
 rcases hd with ⟨_,rfl⟩|hd
 ·simp at h
 ·exact hd
theorem Qg (hi: ¬ i<l.length) (hl:m.length=l.length) (hd:i=1∧l=[]∨xo key l i m):m=gU key l:=by
 rcases hd with ⟨_,rfl⟩|hd
 ·exact kq hl
 ·exact Ni I hd
theorem QA (hx:q[j]? =some x) (hy:q[j-1]? =some y) (h: ∀ z∈q,z∈l): ∀ z∈(q.set j y).set (j-1) x,z∈l:=fun z hz=>by
 rcases ABB hz with hz|rfl
 ·rcases ABB hz with hz|rfl
  ·exact h z hz
  ·exact h _ (aF hy)
 ·exact h _ (aF hx)
theorem F8 {p:Int→Bool} (hx:l[i]? =some x) (h:p x=true):(l.take (i+1)).filter p=(l.take i).filter p++[x]:=by
 rw [nN hx,AAq];simp [h]
theorem S_ {p:Int→Bool} (hx:l[i]? =some x) (h:p x=false):(l.take (i+1)).filter p=(l.take i).filter p:=by
 rw [nN hx,AAq];simp [h]
end
section
variable {r:cN} {h:Int} {n:Nat}
theorem WX {m:k9} (hb:∀ p∈m,0≤p.2.Lo∧p.2.Lo≤p.2.Hi∧p.2.Hi≤30000000): ∀ x∈l,0≤(cd m x).Lo∧(cd m x).Lo≤30000000:=fun x _=>by have:=oz (i:=x) hb;omega
end
end
section
def PV (f:Int→aa) (g:List Int):Prop:= ∀ t,(∃ a∈g,(f a).Lo<t)→(∃ b∈g,t≤(f b).Lo)→ ∃ c∈g,(f c).Lo<t∧t≤(f c).Hi
def Qk (f:Int→aa) (g h:List Int):Prop:= ∀ a∈g,∀ b∈h,(f a).Hi<(f b).Lo
structure kh (f:Int→aa) (keys:List Int) (G:List (List Int)):Prop where
 perm:G.flatten.Perm keys
 some_: ∀ g∈G,g≠[]
 apart:G.Pairwise (Qk f)
 tight: ∀ g∈G,PV f g
def KR (G:List (List Int)):Prop:= ∀ g∈G,g.Pairwise (· ≤ ·)
section
variable {f:Int→aa} {keys:List Int} {G G':List (List Int)} {g h:List Int} {x:Int}
theorem Ag: ∀ {g:List Int},g≠[]→ ∃ a∈g,∀ b∈g,(f a).Lo≤(f b).Lo
 |[],h=>absurd rfl h
 |[a],_=>⟨a,sm,fun b hb=>by simp at hb;subst hb;omega⟩
 |a::b::g,_=>by
  obtain ⟨c,hc,hm⟩:=Ag (g:=b::g) sm;rcases Int.le_total (f a).Lo (f c).Lo with q|q
  ·refine ⟨a,sm,fun d hd=>?_⟩;rcases bH.1 hd with rfl|hd
   ·omega
   ·have:=hm d hd;omega
  ·refine ⟨c,dg _ hc,fun d hd=>?_⟩;rcases bH.1 hd with rfl|hd
   ·exact q
   ·exact hm d hd
/-- the first group is what no cut parts from the least -/
theorem uC (hf: ∀ i∈keys,(f i).Lo≤(f i).Hi) (h:kh f keys (g::G)) {a:Int} (ha:a∈keys) (hm: ∀ b∈keys,(f a).Lo≤(f b).Lo) {b:Int} (hb:b∈keys):b∈g↔ ∀ t,(f a).Lo<t→t≤(f b).Lo→ ∃ c∈keys,(f c).Lo<t∧t≤(f c).Hi:=by
 have hk: ∀ x,x∈keys↔x∈g∨x∈G.flatten:=fun x=>by rw [← h.perm.mem_iff,m9,dY]
 have A:=AAT.1 h.apart;have B:a∈g:=by
  rcases (hk a).1 ha with q|q
  ·exact q
  ·obtain ⟨y,hy⟩:=ABW _ (h.some_ g bZ);obtain ⟨g',hg',hag'⟩:=ABc.1 q;have F:=A.1 g' hg' y hy a hag';have H:=hm y ((hk y).2 (.inl hy));have E:=hf y ((hk y).2 (.inl hy));omega
 constructor
 ·intro AA t F H;obtain ⟨c,hc,E⟩:=h.tight g bZ t ⟨a,B,F⟩ ⟨b,AA,H⟩;exact ⟨c,(hk c).2 (.inl hc),E⟩
 ·intro C;rcases (hk b).1 hb with q|q
  ·exact q
  ·exfalso;obtain ⟨d,hd,D⟩:=Ag (f:=f) (g:=G.flatten) (fun e=>by rw [e] at q;cases q);obtain ⟨g',hg',hdg'⟩:=ABc.1 hd;have F:=A.1 g' hg' a B d hdg';have H:=hf a ha;have E:=D b q;obtain ⟨c,hc,K,L⟩:=C (f d).Lo I E;rcases (hk c).1 hc with J|J
   ·have:=A.1 g' hg' c J d hdg';omega
   ·have:=D c J;omega
theorem yQ (h:kh f keys (g::G)):kh f G.flatten G:=
 ⟨ABY _,fun x hx=>h.some_ x (dg _ hx),(AAT.1 h.apart).2,fun x hx=>h.tight x (dg _ hx)⟩
theorem yF {k2:List Int} (h:kh f keys G) (p:keys.Perm k2):kh f k2 G:=⟨h.perm.trans p,h.some_,h.apart,h.tight⟩
theorem vb: ∀ {G G':List (List Int)} {keys:List Int},keys.Nodup→(∀ i∈keys,(f i).Lo≤(f i).Hi)→kh f keys G→kh f keys G'→KR G→KR G'→G=G'
 |[],[],keys,_,_,_,_,_,_=>rfl
 |[],g'::G',keys,_,_,h,h',_,_=>by
  exfalso;have H:keys=[]:=List.Perm.eq_nil (by simpa using h.perm.symm);subst H;have:=h'.perm.eq_nil;simp at this;exact h'.some_ g' bZ this.1
 |g::G,[],keys,_,_,h,h',_,_=>by
  exfalso;have H:keys=[]:=List.Perm.eq_nil (by simpa using h'.perm.symm);subst H;have:=h.perm.eq_nil;simp at this;exact h.some_ g bZ this.1
 |g::G,g'::G',keys,hn,hf,h,h',ha,ha'=>by
  have AA:keys≠[]:=fun e=>by
   subst e;have:=h.perm.eq_nil;simp at this;exact h.some_ g bZ this.1
  obtain ⟨a,A,B⟩:=Ag (f:=f) AA;have E:=h.perm.nodup_iff.2 hn;have F:=h'.perm.nodup_iff.2 hn;rw [m9,ABs] at E F;have C: ∀ b∈g,b∈keys:=fun b hb=>h.perm.mem_iff.1 (by rw [m9];exact m1 _ hb);have D: ∀ b∈g',b∈keys:=fun b hb=>h'.perm.mem_iff.1 (by rw [m9];exact m1 _ hb);have e:g=g':=by
   refine qJ (ha g bZ) (ha' g' bZ) E.1 F.1 fun b=>?_;constructor
   ·intro hb;exact (uC hf h' A B (C b hb)).2 ((uC hf h A B (C b hb)).1 hb)
   ·intro hb;exact (uC hf h A B (D b hb)).2 ((uC hf h' A B (D b hb)).1 hb)
  subst e;have p:G.flatten.Perm G'.flatten:=by
   have:=h.perm.trans h'.perm.symm;rw [m9,m9] at this;exact (List.perm_append_left_iff g).1 this
  rw [vb (G:=G) (G':=G') E.2.1 (fun i hi=>hf i (h.perm.mem_iff.1 (by rw [m9];exact AAg _ hi))) (yQ h) (yF (yQ h') p.symm) (fun x hx=>ha x (dg _ hx)) (fun x hx=>ha' x (dg _ hx))]
/-- groups, each one put in order -/
theorem Fg (h:kh f keys G):kh f keys (G.map eg)∧KR (G.map eg):=by
 have hp: ∀ G:List (List Int),(G.map eg).flatten.Perm G.flatten:=fun G=>by
  induction G with
  |nil=>simp
  |cons g G ih=>simp only [m2,m9];exact f_.append ih
 have hm: ∀ {g:List Int} {x:Int},x∈eg g↔x∈g:=f_.mem_iff;refine ⟨⟨(hp G).trans h.perm,fun g hg=>?_,?_,fun g hg=>?_⟩,fun g hg=>?_⟩
 ·obtain ⟨y,hy,rfl⟩:=cu.1 hg;intro e;have:=(f_ (l:=y)).symm;rw [e] at this;exact h.some_ y hy this.eq_nil
 ·rw [AAK];exact h.apart.imp fun q a ha b hb=>q a (hm.1 ha) b (hm.1 hb)
 ·obtain ⟨y,hy,rfl⟩:=cu.1 hg;rintro t ⟨a,ha,A⟩ ⟨b,hb,B⟩;obtain ⟨c,hc,C⟩:=h.tight y hy t ⟨a,hm.1 ha,A⟩ ⟨b,hm.1 hb,B⟩;exact ⟨c,hm.2 hc,C⟩
 ·obtain ⟨y,hy,rfl⟩:=cu.1 hg;exact lL
end
/-- so far: groups, and the greatest of all -/
structure oJ (f:Int→aa) (p:List Int) (G:List (List Int)) (last:Int):Prop where
 ok:kh f p G
 Wc: ∀ a∈p,(f a).Hi≤last
 at_:p=[]∧last= -1∨ ∃ a∈p,(f a).Hi=last
section
variable {f:Int→aa} {p:List Int} {G:List (List Int)} {g:List Int} {x last:Int}
theorem S9:oJ f [] [] (-1):=⟨⟨sm,fun g hg=>(by cases hg),List.Pairwise.nil,fun g hg=>by cases hg⟩,fun a ha=>(by cases ha),.inl ⟨rfl,rfl⟩⟩
theorem MH:PV f [x]:=by
 rintro t ⟨a,ha,A⟩ ⟨b,hb,B⟩;simp at ha hb;subst ha hb;omega
theorem uI (h0: -1≤(f x).Hi) (h:oJ f p G last):(∀ a∈p++[x],(f a).Hi≤max last (f x).Hi)∧((p++[x])=[]∧max last (f x).Hi= -1∨ ∃ a∈p++[x],(f a).Hi=max last (f x).Hi):=by
 refine ⟨fun a ha=>?_,.inr ?_⟩
 ·rcases dY.1 ha with ha|ha
  ·have:=h.Wc a ha;omega
  ·rw [bT] at ha;subst ha;omega
 ·rcases Int.le_total last (f x).Hi with q|q
  ·exact ⟨x,sm,I⟩
  ·rcases h.at_ with ⟨rfl,e⟩|⟨a,ha,e⟩
   ·exact ⟨x,sm,I⟩
   ·exact ⟨a,m1 _ ha,I⟩
theorem RM (h0: -1≤(f x).Hi) (h:oJ f p G last) (hl:last<(f x).Lo):oJ f (p++[x]) (G++[[x]]) (max last (f x).Hi):=by
 have A: ∀ y∈G,∀ a∈y,a∈p:=fun y hy a ha=>h.ok.perm.mem_iff.1 (ABc.2 ⟨y,hy,ha⟩);refine ⟨⟨?_,fun y hy=>?_,?_,fun y hy=>?_⟩,(uI h0 h).1,(uI h0 h).2⟩
 ·rw [AB1];exact h.ok.perm.append sm
 ·rcases dY.1 hy with hy|hy
  ·exact h.ok.some_ y hy
  ·rw [bT] at hy;subst hy;simp
 ·rw [AAb];refine ⟨h.ok.apart,AAY _ _,fun y hy z hz a ha b hb=>?_⟩;rw [bT] at hz;subst hz;rw [bT] at hb;subst hb;have:=h.Wc a (A y hy a ha);omega
 ·rcases dY.1 hy with hy|hy
  ·exact h.ok.tight y hy
  ·rw [bT] at hy;subst hy;exact MH
theorem NC (h0: -1≤(f x).Hi) (hf: ∀ i∈p,(f i).Lo≤(f i).Hi) (hx: ∀ a∈p,(f a).Lo≤(f x).Lo) (h:oJ f p (G++[g]) last) (hl: ¬ last<(f x).Lo):oJ f (p++[x]) (G++[g++[x]]) (max last (f x).Hi):=by
 have A: ∀ y∈G++[g],∀ a∈y,a∈p:=fun y hy a ha=>h.ok.perm.mem_iff.1 (ABc.2 ⟨y,hy,ha⟩);have C:=AAb.1 h.ok.apart;have B:=h.ok.some_ g sm;refine ⟨⟨?_,fun y hy=>?_,?_,fun y hy=>?_⟩,(uI h0 h).1,(uI h0 h).2⟩
 ·have:=h.ok.perm;rw [AB1] at this ⊢;simp only [m9,List.flatten_nil,AAJ] at this ⊢;rw [← append_assoc];exact this.append_right _
 ·rcases dY.1 hy with hy|hy
  ·exact h.ok.some_ y (m1 _ hy)
  ·rw [bT] at hy;subst hy;simp
 ·rw [AAb];refine ⟨C.1,AAY _ _,fun y hy z hz a ha b hb=>?_⟩;rw [bT] at hz;subst hz;rcases dY.1 hb with hb|hb
  ·exact C.2.2 y hy g sm a ha b hb
  ·rw [bT] at hb;subst hb;obtain ⟨c,hc⟩:=ABW _ B;have K:=C.2.2 y hy g sm a ha c hc;have H:=hx c (A g sm c hc);omega
 ·rcases dY.1 hy with hy|hy
  ·exact h.ok.tight y (m1 _ hy)
  ·rw [bT] at hy;subst hy;rintro t ⟨a,ha,K⟩ ⟨b,hb,H⟩;by_cases D: ∃ b∈g,t≤(f b).Lo
   ·obtain ⟨b',hb',L⟩:=D;have AA:a∈g:=by
     rcases dY.1 ha with q|q
     ·exact q
     ·rw [bT] at q;subst q;have:=hx b' (A g sm b' hb');omega
    obtain ⟨c,hc,M⟩:=h.ok.tight g sm t ⟨a,AA,K⟩ ⟨b',hb',L⟩;exact ⟨c,m1 _ hc,M⟩
   ·have J: ∀ c∈g,(f c).Lo<t:=fun c hc=>by
     refine AAn fun q=>D ⟨c,hc,I⟩
    have N:t≤(f x).Lo:=by
     rcases dY.1 hb with q|q
     ·exact absurd ⟨b,q,H⟩ D
     ·rw [bT] at q;subst q;exact H
    rcases h.at_ with ⟨e,_⟩|⟨c,hc,e⟩
    ·exfalso;obtain ⟨c,hc⟩:=ABW _ B;have:=A g sm c hc;rw [e] at this;cases this
    ·have E:c∈g:=by
      obtain ⟨y,hy,F⟩:=ABc.1 (h.ok.perm.mem_iff.2 hc);rcases dY.1 hy with hy|hy
      ·exfalso;obtain ⟨d,hd⟩:=ABW _ B;have L:=C.2.2 y hy g sm c F d hd;have M:=hf d (A g sm d hd);have O:=h.Wc d (A g sm d hd);omega
      ·rw [bT] at hy;subst hy;exact F
     exact ⟨c,m1 _ E,J c E,I⟩
theorem Ng (h:oJ f p G last) (hp:p≠[]):G≠[]:=fun e=>by
 subst e;exact hp (by simpa using h.ok.perm.symm.eq_nil)
end
end
section
open Go.RowKit
/-- a map, or nil -/
def oC (o:Option Nat):List Value:=[Value.map o]
theorem Dk {α:Type}: ∀ {ms:List α} {asl:List Nat},ms.length=asl.length→zipWith g5 ms asl=(asl.map some).map oC
 |[],[],_=>rfl
 |[],_::_,h=>by simp at h
 |_::_,[],h=>by simp at h
 |x::ms,y::asl,h=>by simp only [u5,m2,Dk (ms:=ms) (asl:=asl) (by simpa using h)];rfl
/-- what stands for all but one -/
def fH {M A:Type} (f:M→A→List ar) (ms:List M) (asl:List A) (k:Nat):List ar:=bx f (ms.take k) (asl.take k)++bx f (ms.drop (k+1)) (asl.drop (k+1))
theorem kO {M A:Type} {f:M→A→List ar}: ∀ {ms:List M} {asl:List A} {k:Nat} {m:M} {a:A},ms[k]? =some m→asl[k]? =some a→(bx f ms asl).Perm (f m a++fH f ms asl k)
 |[],_,k,m,a,h,_=>by simp at h
 |_::_,[],k,m,a,_,h=>by simp at h
 |x::ms,y::asl,0,m,a,h,h2=>by
  simp at h h2;subst h h2;simp [fH,bx]
 |x::ms,y::asl,k+1,m,a,h,h2=>by
  have ih:=kO (f:=f) (ms:=ms) (asl:=asl) (k:=k) (by simpa using h) (by simpa using h2);show (f x y++bx f ms asl).Perm (f m a++fH f (x::ms) (y::asl) (k+1))
  have e:fH f (x::ms) (y::asl) (k+1)=f x y++fH f ms asl k:=by simp [fH,bx,append_assoc]
  rw [e];refine (ih.append_left (f x y)).trans ?_;rw [← append_assoc,← append_assoc];exact AAC.append_right _
theorem Kh {f:M→A→List ar} {ms:List M} {asl:List A} {m':M}:fH f (ms.set k m') asl k=fH f ms asl k:=by
 unfold fH;rw [ABg (c9 k),ABj (ABb k)]
theorem kP (hp:X.Perm Y) (h:St S w0 (bD X::C) w):St S w0 (bD Y::C) w:=by
 have A:St S w0 (X++C) w:=h.iI;exact (A.perm (hp.append_right C)).tied
theorem St.out {f:M→A→List ar} {ms:List M} {asl:List A} {m:M} {a:A} {X:ar} (hm:ms[k]? =some m) (ha:asl[k]? =some a) (hf:f m a=[X]) (h:St S w0 (bD (bx f ms asl)::C) w):St S w0 (X::bD (fH f ms asl k)::C) w:=by
 have B:=(kP (kO hm ha) h).iI;rw [hf] at B;have D:St S w0 (fH f ms asl k++(X::C)) w:=B.perm (v5 (a:=X) (l₁:=fH f ms asl k) (l₂:=C)).symm;exact D.tied.perm (List.Perm.swap _ _ _)
theorem St.back {f:M→A→List ar} {ms:List M} {asl:List A} {m':M} {a:A} {X:ar} (hk:k<ms.length) (ha:asl[k]? =some a) (hf:f m' a=[X]) (h:St S w0 (X::bD (fH f ms asl k)::C) w):St S w0 (bD (bx f (ms.set k m') asl)::C) w:=by
 have B:St S w0 (bD (fH f ms asl k)::X::C) w:=h.perm (List.Perm.swap _ _ _);have D:=B.iI;have E:St S w0 ((f m' a++fH f (ms.set k m') asl k)++C) w:=by
  rw [hf,Kh];exact D.perm (v5 (a:=X) (l₁:=fH f ms asl k) (l₂:=C))
 exact kP (kO (r6 hk) ha).symm E.tied
section
variable {E:fM} {ops:Array Oper} {Q:dk} {rest:List Oper} {D:List Deferred} {L:List (Nat×Value)} {C C1:List ar}
variable {M A:Type} {f:M→A→List ar} {ms:List M} {asl:List A} {k:Nat} {m:M} {a:A} {X:ar}
theorem BJ (i:Nat) (hm:ms[k]? =some m) (ha:asl[k]? =some a) (hf:f m a=[X]) (hn:decide (i::(range C.length).filter fun k=>k != i).Nodup=true) (hC:kT C (i::(range C.length).filter fun k=>k != i)=bD (bx f ms asl)::C1) (h:WJ E c Q D L (X::bD (fH f ms asl k)::C1)):WJ E c Q D L C:=fun a w hf' hs=>h a w hf' (St.out hm ha hf (St.kT _ hn hC hs))
theorem D6 (i j:Nat) (hk:k<ms.length) (ha:asl[k]? =some a) (hf:f m a=[X]) (hn:decide (j::i::(range C.length).filter fun k=>k != i&&k != j).Nodup=true) (hC:kT C (j::i::(range C.length).filter fun k=>k != i&&k != j)=X::bD (fH f ms asl k)::C1) (h:KJ E K D L (bD (bx f (ms.set k m) asl)::C1)):KJ E K D L C:=fun a w hf' hs=>h a w hf' (St.back hk ha hf (St.kT _ hn hC hs))
end
abbrev pO (A C X):=own A C 346 1 (List.map oC X)
abbrev IY (A C X):=own A C 95 1 (List.map oC X)
end
section
open Go.RowKit
def rp (l:List Int) (a:RA):List Value:=[vS a.1 l.length a.2]
def Mb (l:List Int) (a:RA):List ar:=[rd a.1 l.length 1 (l.map iC)]
def z3 (l:List Int) (a:RA):List ar:=[own a.1 a.2 UK 1 (l.map iC)]
theorem wj: ∀ (m:List Int) (a:RA) (w:World),(∀ X∈z3 m a,X.holds w)→ ∀ X∈Mb m a,X.holds w:=fun m a w h X hX=>by
 simp only [Mb,bT] at hX;subst hX;have:=ph (h _ (bT.2 rfl));simpa using this
theorem vk {l:List (List Int)}:(bD (bx z3 l bz)).wr=true:=by
 show (bx z3 l bz).all (·.wr)=true
 rw [db];intro X hX;obtain ⟨k,m,a,_,_,h⟩:=lD hX;simp only [z3,bT] at h;subst h;rfl
theorem iO {ls:List (List Int)} (h:az.length=ls.length):(zipWith rp ls az).length=ls.length:=by simp [h]
theorem Je (l:List (List Int)) (az:List RA): ∀ v∈(zipWith rp l az).flatten,v.oneCell'=true:=by
 induction l generalizing az with
 |nil=>intro v hv;simp at hv
 |cons x l ih=>
  cases az with
  |nil=>intro v hv;simp at hv
  |cons a az=>
   intro v hv;rw [u5,m9,dY] at hv;rcases hv with hv|hv
   ·simp [rp] at hv;subst hv;rfl
   ·exact ih az v hv
section
variable {M A:Type} {f:M→A→List ar} {ms:List M} {asl:List A} {k:Nat} {m:M} {a:A} {X:ar}
theorem rG:fH f (ms.set k m) (asl.set k a) k=fH f ms asl k:=by
 unfold fH;rw [ABg (c9 k),ABj (ABb k),ABg (c9 k),ABj (ABb k)]
theorem St.Xf (hk:k<ms.length) (hk2:k<asl.length) (hf:f m a=[X]) (h:St S w0 (X::bD (fH f ms asl k)::C) w):St S w0 (bD (bx f (ms.set k m) (asl.set k a))::C) w:=by
 have A:St S w0 (bD (fH f ms asl k)::X::C) w:=h.perm (List.Perm.swap _ _ _);have B:=A.iI;have D:St S w0 ((f m a++fH f (ms.set k m) (asl.set k a) k)++C) w:=by
  rw [hf,rG];exact B.perm (v5 (a:=X) (l₁:=fH f ms asl k) (l₂:=C))
 exact kP (kO (r6 hk) (r6 hk2)).symm D.tied
theorem q9 {c:M→A→β}:(zipWith c ms asl).set k (c m a)=zipWith c (ms.set k m) (asl.set k a):=by
 apply ABF;intro j;rw [AAO];by_cases e:k=j
 ·subst e;rw [c0 rfl,m4,ABu,AAO,AAO,c0 rfl,c0 rfl];by_cases B:k<ms.length
  ·by_cases C:k<asl.length
   ·rw [c0 I,c0 B,c0 C]
   ·rw [c1 I,c0 B,c1 C]
  ·rw [c1 I,c1 B]
 ·rw [c1 e,ABu,ABu,ABx e,ABx e]
variable {E:fM} {ops:Array Oper} {Q:dk} {rest:List Oper} {D:List Deferred} {L:List (Nat×Value)} {C C1:List ar}
abbrev BD (C:List ar) (i j:Nat):List Nat:=j::i::(range C.length).filter fun k=>k != i&&k != j
abbrev KD (C:List ar) (i:Nat):List Nat:=i::(range C.length).filter fun k=>k != i
theorem JO (i j:Nat) (hk:k<ms.length) (hk2:k<asl.length) (hf:f m a=[X]) (hn:decide (BD C i j).Nodup=true) (hC:m_ C (BD C i j)=some (X::bD (fH f ms asl k)::C1))
 (h:RJ E ops Q rest D L (bD (bx f (ms.set k m) (asl.set k a))::C1)):RJ E ops Q rest D L C:=fun a w hf' hs=>h a w hf' (St.Xf hk hk2 hf (St.kT _ hn (j3 hC) hs))
theorem HR (i:Nat) (hm:ms[k]? =some m) (ha:asl[k]? =some a) (hf:f m a=[X]) (hn:decide (KD C i).Nodup=true) (hC:m_ C (KD C i)=some (bD (bx f ms asl)::C1)) (h:WJ E c Q D L (X::bD (fH f ms asl k)::C1)):WJ E c Q D L C:=fun a w hf' hs=>h a w hf' (St.out hm ha hf (St.kT _ hn (j3 hC) hs))
theorem S0 (i j:Nat) (hk:k<ms.length) (ha:asl[k]? =some a) (hf:f m a=[X]) (hn:decide (BD C i j).Nodup=true) (hC:m_ C (BD C i j)=some (X::bD (fH f ms asl k)::C1)) (h:KJ E K D L (bD (bx f (ms.set k m) asl)::C1)):KJ E K D L C:=fun a w hf' hs=>h a w hf' (St.back hk ha hf (St.kT _ hn (j3 hC) hs))
theorem NV (i j:Nat) (hn:decide (BD C i j).Nodup=true) (hC:m_ C (BD C i j)=some (X::bD Y::C1)) (e:Y++[X]=Y') (h:RJ E ops Q rest D L (bD Y'::C1)):RJ E ops Q rest D L C:=fun a w hf hs=>h a w hf ((St.kT _ hn (j3 hC) hs).tie e)
theorem Dz (i j:Nat) (hn:decide (BD C i j).Nodup=true) (hC:m_ C (BD C i j)=some (X::bD Y::C1)) (e:Y++[X]=Y') (h:KJ E K D L (bD Y'::C1)):KJ E K D L C:=fun a w hf hs=>h a w hf ((St.kT _ hn (j3 hC) hs).tie e)
end
theorem Ak {f:M→A→List ar} {ms:List M} {asl:List A} {m:M} {a:A} {X:ar} (h:ms.length=asl.length) (hf:f m a=[X]):bx f ms asl++[X]=bx f (ms++[m]) (asl++[a]):=by
 rw [lp h];simp [bx,hf]
theorem B6 {f:M→A→β} {ms:List M} {asl:List A} {m:M} {a:A} (h:ms.length=asl.length):zipWith f ms asl++zipWith f [m] [a]=zipWith f (ms++[m]) (asl++[a]):=(ACR h).symm
theorem pJ:((qb r k).map (·.1)).Nodup:=by
 unfold qb;rw [List.map_filterMap];refine List.Pairwise.filterMap _ ?_ (ACe (n:=r.bf.length));intro a b A x hx y hy e;subst e;simp only [Option.map_map,AAQ,Function.comp] at hx hy;obtain ⟨_,_,rfl⟩:=hx;obtain ⟨_,_,h⟩:=hy;exact A I
noncomputable def lW (r:cN):List (List Int):=if eK r=0 then Classical.epsilon (fun G=>kh (cd (bI r)) ((bI r).map (·.1)) G∧KR G) else []
theorem Nd (h:¬ eK r=0):lW r=[]:=c1 h
theorem ET {G:List (List Int)} (he:eK r=0) (h1:kh (cd (bI r)) ((bI r).map (·.1)) G) (h2:KR G):G=lW r:=by
 unfold lW;rw [c0 he];have A:=Classical.epsilon_spec (p:=fun G=>kh (cd (bI r)) ((bI r).map (·.1)) G∧KR G) ⟨G,h1,h2⟩;exact vb pJ (fun i hi=>(oz (yp he)).2.1) h1 A.1 h2 A.2
section
variable {f:Int→aa} {L:List Int} {G:List (List Int)} {g:List Int} {x last:Int} {i j:Nat}
theorem DW (h:oJ f (L.take i) G last) (hg:g∈G):g.length≤L.length:=by
 have A:=h.ok.perm.length_eq;have B:g.length≤G.flatten.length:=(List.sublist_flatten_of_mem hg).length_le;rw [k5] at A;omega
theorem JC (h:oJ f (L.take i) G last):G.length≤L.length:=by
 have A:=h.ok.perm.length_eq;have B: ∀ G:List (List Int),(∀ g∈G,g≠[])→G.length≤G.flatten.length:=fun G=>by
  induction G with
  |nil=>intro _;simp
  |cons g G ih=>
   intro hG;have C:=ih fun y hy=>hG y (dg _ hy);have D:=ACS.2 (hG g bZ);simp only [m9,y3,e4];omega
 have C:=B G h.ok.some_;rw [k5] at A;omega
theorem vX (h0: -1≤(f x).Hi) (hx:L[i]? =some x) (hg:(G++[[]])[(G++[([]:List Int)]).length-1]? =some g) (h:oJ f (L.take i) G last) (hl:last<(f x).Lo):oJ f (L.take (i+1)) ((G++[[]]).set ((G++[([]:List Int)]).length-1) (g++[x])) (max last (f x).Hi):=by
 have A:(G++[([]:List Int)]).length-1=G.length:=by simp
 rw [A] at hg ⊢;simp at hg;subst hg;rw [nN hx];have B:(G++[([]:List Int)]).set G.length ([]++[x])=G++[[x]]:=by simp
 rw [B];exact RM h0 h hl
theorem uT (h0: -1≤(f x).Hi) (hf: ∀ i∈L,(f i).Lo≤(f i).Hi) (hup:JQ (fun u=>(f u).Lo) L) (hx:L[i]? =some x) (hg:G[G.length-1]? =some g) (h:oJ f (L.take i) G last) (hl: ¬ last<(f x).Lo):oJ f (L.take (i+1)) (G.set (G.length-1) (g++[x])) (max last (f x).Hi):=by
 obtain ⟨A,F⟩:=aR.1 hg;obtain ⟨G',y,rfl⟩: ∃ G' y,G=G'++[y]:=⟨G.dropLast,G.getLast (by intro e;subst e;simp at A),(List.dropLast_concat_getLast _).symm⟩;have D:(G'++[y]).length-1=G'.length:=by simp
 simp only [D] at hg ⊢;simp at hg;subst hg;have E:(G'++[y]).set G'.length (y++[x])=G'++[y++[x]]:=by simp
 rw [nN hx,E];refine NC h0 (fun i hi=>hf i (ACK hi)) (fun a ha=>?_) h hl;obtain ⟨C,B⟩:=aR.1 hx;obtain ⟨q,hq,rfl⟩:=p5.1 ha;rw [k5] at hq;rw [List.getElem_take];have:=eY.1 hup q i I C I;rw [B] at this;exact this
theorem TB (hlo:0≤(f x).Lo) (h:oJ f (L.take i) G last) (hl: ¬ last<(f x).Lo):1≤G.length:=by
 rcases h.at_ with ⟨_,e⟩|⟨a,ha,_⟩
 ·omega
 ·exact ACS.2 (Ng h (fun e=>by rw [e] at ha;cases ha))
/-- the first groups are in order -/
def pD (G:List (List Int)) (j:Nat):List (List Int):=(G.take j).map eg++G.drop j
theorem HP (h:G.length≤j):pD G j=G.map eg:=by unfold pD;rw [c5 h,ABK h,AAJ]
theorem H7:(pD G j).length=G.length:=by unfold pD;rw [e4,c3,k5,AA9];omega
theorem MC (h:G[j]? =some g):(pD G j)[j]? =some g:=by
 have hj:=(aR.1 h).1;unfold pD;rw [k_ (by rw [c3,k5];omega),c3,k5,AB4 I,AAw,ABm];simpa using h
theorem Ij (h:G[j]? =some g):(pD G j).set j (eg g)=pD G (j+1):=by
 have hj:=(aR.1 h).1;unfold pD;rw [AAu _ _ (by rw [c3,k5];omega),c3,k5,AB4 I,AAw,u1 hj,ACY,l1,h];simp
theorem MY {gz:List RA}:zipWith rp (G.map eg) gz=zipWith rp G gz:=by
 induction G generalizing gz with
 |nil=>rfl
 |cons g G ih=>
  cases gz with
  |nil=>rfl
  |cons a gz=>simp only [m2,u5,ih];simp [rp]
end
abbrev wq (A C X Z):=own A C 29 1 (zipWith rp X Z)
abbrev UM (A X Z):=rd A (length X) 1 (zipWith rp X Z)
end
section
open Go.RowKit
theorem Ad (l:List aX) (az:List RA): ∀ v∈(zipWith aX.cells l az).flatten,v.oneCell'=true:=by
 induction l generalizing az with
 |nil=>intro v hv;simp at hv
 |cons x l ih=>
  cases az with
  |nil=>intro v hv;simp at hv
  |cons a az=>
   intro v hv;rw [u5,m9,dY] at hv;rcases hv with hv|hv
   ·simp [aX.cells,dB.cells] at hv;rcases hv with rfl|rfl<;>rfl
   ·exact ih az v hv
theorem im {l:List aX} (h:az.length=l.length):(zipWith aX.cells l az).length=l.length:=by simp [h]
theorem gE {l:List aX}:(bD (bx aX.owns l bz)).wr=true:=by
 show (bx aX.owns l bz).all (·.wr)=true
 rw [db];intro X hX;obtain ⟨k,m,a,_,_,h⟩:=lD hX;simp only [aX.owns,bT] at h;subst h;rfl
/-- what is known of new rows -/
def p7 (l:List aX) (bz:List RA):Prop:= ∀ (k:Nat) m (a:RA),l[k]? =some m→bz[k]? =some a→m.bo.length≤a.2
theorem Gb {l:List aX} {x:aX} {nw:RA} (h:p7 l bz) (hb:bz.length=i) (hx:l[i]? =some x) (hc:x.bo.length≤nw.2):p7 l (bz++[nw]):=fun k m a hm ha=>by
 by_cases e:k<bz.length
 ·rw [v3 e] at ha;exact h k m a hm ha
 ·rw [k_ I] at ha;have hk:k-bz.length=0:=by
   rcases AB6 (k-bz.length) with A|A
   ·exact A
   ·rw [AAo (by simp;omega)] at ha;cases ha
  rw [hk] at ha;simp at ha;have:k=i:=by omega
  subst this;rw [hx] at hm;cases hm;subst ha;exact hc
theorem kJ: ∀ (m:aX) (a:RA) (w:World),(∀ X∈aX.owns m a,X.holds w)→ ∀ X∈aX.lG m a,X.holds w:=fun m a w h X hX=>by
 simp only [aX.lG,bT] at hX;subst hX;have:=ph (h _ (bT.2 rfl));simpa using this
theorem dW.Zd {l:a_} (h:dW l az) (hb:bz.length=l.aD.length) (hc:p7 l.aD bz):dW l bz:=⟨h.sS,h.side,h.sT,hb,h.sU,fun k m a hm ha=>⟨hc k m a hm ha,by
 obtain ⟨A,B⟩: ∃ A,az[k]? =some A:=⟨az[k]'(by rw [h.mD];exact (aR.1 hm).1),fh _⟩;exact (h.U8 k m A hm B).2⟩⟩
theorem Bf {x y:aX} (h1:x.dG=y.dG) (h2:(x.bo.length:Int)=(y.bo.length:Int)) (hk:x.bo.length≤k) (h:x.bo.take k=y.bo.take k):x=y:=by
 cases x;cases y;simp only [aX.mk.injEq] at *;rw [c5 hk,c5 I] at h;exact ⟨h1,h⟩
theorem Lw {l m:a_} (h1:l.bW=m.bW) (h2:l.g7=m.g7) (h3:l.b_=m.b_) (h4:l.e_=m.e_) (h5:l.di=m.di) (h6:l.aD=m.aD) (h7:l.ag=m.ag):l=m:=by
 cases l;cases m;simp_all
section
variable {E:fM} {ops:Array Oper} {Q:dk} {rest:List Oper} {D:List Deferred} {L:List (Nat×Value)} {C:List ar}
end
end
section
open Go.RowKit
def lP (m:ao) (a:RA):List ar:=[own a.1 a.2 CK 2 (m.bp.ab.map aZ.cells)]
def kM (m:List ao) (a:cq):List ar:=own a.1.1 a.1.2 CS 7 (zipWith ao.cells m a.2)::bx lP m a.2
theorem Wj: ∀ (m:ao) (a:RA) (w:World),(∀ X∈lP m a,X.holds w)→ ∀ X∈ao.lG m a,X.holds w:=fun m a w h X hX=>by
 simp only [ao.lG,bT] at hX;subst hX;have:=ph (h _ (bT.2 rfl));simpa using this
theorem mY {m:List ao} (h:asl.length=m.length):(zipWith ao.cells m asl).length=m.length:=by simp [h]
theorem e8 {asl:List cq} (h:asl.length=m.length):(zipWith dQ m asl).length=m.length:=by simp [h]
theorem RX {m:List ao}:(bx lP m asl).all (·.wr)=true:=by
 rw [db];intro X hX;obtain ⟨k,d,a,_,_,h⟩:=lD hX;simp only [lP,bT] at h;subst h;rfl
theorem lq {asl:List cq}:(bD (bx kM m asl)).wr=true:=by
 show (bx kM m asl).all (·.wr)=true
 rw [db];intro X hX;obtain ⟨k,d,a,_,_,h⟩:=lD hX;rcases bH.1 h with rfl|h
 ·rfl
 ·exact db.1 RX X h
theorem IP (l:List ao) (az:List RA): ∀ v∈(zipWith ao.cells l az).flatten,v.oneCell'=true:=by
 induction l generalizing az with
 |nil=>intro v hv;simp at hv
 |cons x l ih=>
  cases az with
  |nil=>intro v hv;simp at hv
  |cons a az=>
   intro v hv;rw [u5,m9,dY] at hv;rcases hv with hv|hv
   ·simp [ao.cells,aO.cells,dx.cells,aa.cells] at hv;rcases hv with rfl|rfl|rfl|rfl|rfl|rfl|rfl<;>rfl
   ·exact ih az v hv
theorem CG (l:List (List ao)) (az:List cq): ∀ v∈(zipWith dQ l az).flatten,v.oneCell'=true:=by
 induction l generalizing az with
 |nil=>intro v hv;simp at hv
 |cons x l ih=>
  cases az with
  |nil=>intro v hv;simp at hv
  |cons a az=>
   intro v hv;rw [u5,m9,dY] at hv;rcases hv with hv|hv
   ·simp [dQ] at hv;subst hv;rfl
   ·exact ih az v hv
/-- every heat has as many places as descents -/
def tn (H:List (List ao)) (hz:List cq):Prop:=hz.length=H.length∧ ∀ (k:Nat) h (a:cq),H[k]? =some h→hz[k]? =some a→a.2.length=h.length
theorem SK {c e n:Nat} (h:(own a c e sz es).holds w) (hn:es.length=n):(rd a n sz es).holds w:=by subst hn;exact ph h
theorem lI (i:Nat) (hC:C[i]? =some (bD (bx kM H hz))) (hh:tn H hz):ij C (iX (bx nu H hz)).holds:=fun w hw X hX=>by
 have hb:=hw _ (aF hC);obtain ⟨k,m,a,A,B,D⟩:=lD hX;rcases bH.1 D with rfl|D
 ·exact SK (hb.1 _ (bq A B bZ)) (mY (hh.2 k m a A B))
 ·obtain ⟨q,d,b,E,F,G⟩:=lD D;exact Wj d b w (fun Y hY=>hb.1 Y (bq A B (dg _ (bq E F hY)))) X G
section
variable {α:Type}
def jm (bz az:List α) (i:Nat):List α:=bz++az.drop i
variable {bz az:List α} {i:Nat} {a b:α}
theorem eV (hb:bz.length=i) (hi:i≤az.length):(jm bz az i).length=az.length:=by simp [jm,hb];omega
theorem rj (h:az.length≤i):jm bz az i=bz:=by unfold jm;rw [ABK h,AAJ]
theorem um (hb:bz.length=i) (h:az[i]? =some a):(jm bz az i)[i]? =some a:=by
 unfold jm;rw [k_ I,hb,AAw,ABm];simpa using h
theorem EL (hb:bz.length=i):(jm (bz++[b]) az (i+1))[i]? =some b:=by
 unfold jm;rw [v3 (by simp;omega),k_ I,hb,AAw];rfl
theorem M4 (hb:bz.length=i) (h:az[i]? =some a):(jm bz az i).set i b=jm (bz++[b]) az (i+1):=by
 unfold jm;have hi:=(aR.1 h).1;rw [AAu _ _ I,hb,AAw,u1 hi,ACY];simp
theorem qH {c:M→α→β} {l:List M} {x:M} (hx:l[i]? =some x) (hb:bz.length=i) (h:az[i]? =some a):(zipWith c l (jm bz az i)).set i (c x b)=zipWith c l (jm (bz++[b]) az (i+1)):=by
 rw [q9,M4 hb h];congr 1;obtain ⟨hi,rfl⟩:=aR.1 hx;exact List.set_getElem_self hi
theorem nx {f:M→α→List ar} {l:List M} {x:M} (hx:l[i]? =some x) (hb:bz.length=i):bx f (l.take i) bz++f x b=bx f (l.take (i+1)) (bz++[b]):=by
 have hi:=(aR.1 hx).1;rw [l1,hx,Option.toList_some,lp (by rw [k5,hb];omega)];simp [bx]
end
theorem Er: ∀ {l:List (List ao)} {u v:List cq},u.map (·.1)=v.map (·.1)→zipWith dQ l u=zipWith dQ l v
 |[],u,v,_=>by simp
 |x::l,[],[],_=>rfl
 |x::l,[],b::v,h=>by simp at h
 |x::l,a::u,[],h=>by simp at h
 |x::l,a::u,b::v,h=>by
  simp only [m2,ABo] at h;rw [u5,u5,Er h.2];have e:dQ x a=dQ x b:=by simp only [dQ,h.1]
  rw [e]
theorem ES {l:List (List ao)} {p:RA} {x y:List RA}:zipWith dQ l (jm (hz++[(p,x)]) ha i)=zipWith dQ l (jm (hz++[(p,y)]) ha i):=Er (by simp [jm])
theorem IH {x:List ao} {b:cq} (hx:H[i]? =some x) (h:∀ (k:Nat) y (a:cq),H[k]? =some y→hz[k]? =some a→a.2.length=y.length) (hb:hz.length=i) (hl:b.2.length=x.length): ∀ (k:Nat) y (a:cq),H[k]? =some y→(hz++[b])[k]? =some a→a.2.length=y.length:=fun k y a hy ha=>by
 by_cases e:k<hz.length
 ·rw [v3 e] at ha;exact h k y a hy ha
 ·rw [k_ I] at ha;have hk:k-hz.length=0:=by
   rcases AB6 (k-hz.length) with A|A
   ·exact A
   ·rw [AAo (by simp;omega)] at ha;cases ha
  rw [hk] at ha;simp at ha;have:k=i:=by omega
  subst this;rw [hx] at hy;cases hy;subst ha;exact hl
theorem Ir {A:ar} (h:St S w0 (A::bD Y::bD Z::C) w):St S w0 (bD (Z++A::Y)::C) w:=by
 have D:St S w0 (bD Y::A::bD Z::C) w:=h.perm (List.Perm.swap _ _ _);have E:St S w0 (Y++(A::bD Z::C)) w:=D.iI;have F:St S w0 (bD Z::(A::Y)++C) w:=E.perm (by
  have B:(Y++(A::bD Z::C)).Perm ((A::bD Z::C)++Y):=AAC;refine B.trans ?_;show (A::bD Z::(C++Y)).Perm (bD Z::A::(Y++C))
  exact (List.Perm.swap _ _ _).trans (((AAC (l₁:=C) (l₂:=Y)).cons A).cons _))
 have G:St S w0 (Z++((A::Y)++C)) w:=F.iI;have H:St S w0 ((Z++A::Y)++C) w:=by simpa using G
 exact H.tied
theorem KM {A:ar} (h:St S w0 (bD (A::Y++Z)::C) w):St S w0 (A::bD Y::bD Z::C) w:=by
 have D:St S w0 ((A::Y++Z)++C) w:=h.iI;have E:St S w0 (Z++(A::(Y++C))) w:=D.perm (by
  show (A::(Y++Z)++C).Perm (Z++(A::(Y++C)))
  have B:(A::(Y++Z)++C).Perm (A::(Z++(Y++C))):=by
   show (A::((Y++Z)++C)).Perm _
   refine List.Perm.cons A ?_;rw [← append_assoc];exact AAC.append_right C
  exact B.trans (v5 (a:=A) (l₁:=Z) (l₂:=Y++C)).symm)
 have F:=E.tied;have G:St S w0 (Y++(A::bD Z::C)) w:=F.perm (by
  show (bD Z::A::(Y++C)).Perm (Y++(A::bD Z::C))
  have B:(Y++(A::bD Z::C)).Perm (A::bD Z::(Y++C)):=by
   have:=AAC (l₁:=Y) (l₂:=A::bD Z::C);refine this.trans ?_;show (A::bD Z::(C++Y)).Perm _
   exact (AAC.cons _).cons _
  exact (B.trans (List.Perm.swap _ _ _)).symm)
 have H:=G.tied;exact H.perm (List.Perm.swap _ _ _)
theorem Bg {a:cq} (hh:H[k]? =some h) (ha:hz[k]? =some a):(bx kM H hz).Perm (own a.1.1 a.1.2 CS 7 (zipWith ao.cells h a.2)::bx lP h a.2++fH kM H hz k):=kO hh ha
theorem OH {c e:Nat} (i:Nat) (hC:C[i]? =some (own a c e sz es)) (k:es.length≤c→KJ E K D L C):KJ E K D L C:=fun act w hf hs=>k (SC (hs.holds _ (aF hC))) act w hf hs
abbrev KE (C:List ar) (i j k:Nat):List Nat:=k::j::i::(range C.length).filter fun q=>q != i&&q != j&&q != k
section
variable {E:fM} {ops:Array Oper} {Q:dk} {rest:List Oper} {D:List Deferred} {L:List (Nat×Value)} {C C1:List ar} {K:Act→World→Prop}
variable {H:List (List ao)} {hz:List cq} {h h':List ao} {a a':cq} {k:Nat} {X:ar} {Y Z Z':List ar}
/-- i: the others, j: what hangs on the row, q: the row -/
theorem Ql (i j q:Nat) (hn:decide (KE C i j q).Nodup=true) (hC:m_ C (KE C i j q)=some (X::bD Y::bD Z::C1)) (e:Z++X::Y=Z') (hk:KJ E K D L (bD Z'::C1)):KJ E K D L C:=fun a w hf hs=>by
 subst e;exact hk a w hf (Ir (St.kT _ hn (j3 hC) hs))
theorem Po (i:Nat) (hh:H[k]? =some h) (ha:hz[k]? =some a) (hn:decide (KD C i).Nodup=true) (hC:m_ C (KD C i)=some (bD (bx kM H hz)::C1)) (hk:WJ E c Q D L (own a.1.1 a.1.2 CS 7 (zipWith ao.cells h a.2)::bD (bx lP h a.2)::bD (fH kM H hz k)::C1)):WJ E c Q D L C:=fun act w hf hs=>
 hk act w hf (KM (kP (Bg hh ha) (St.kT _ hn (j3 hC) hs)))
theorem Eh (hk:k<H.length) (hk2:k<hz.length) (hs:St S w0 (own a'.1.1 a'.1.2 CS 7 (zipWith ao.cells h' a'.2)::bD (bx lP h' a'.2)::bD (fH kM H hz k)::C) w):St S w0 (bD (bx kM (H.set k h') (hz.set k a'))::C) w:=by
 have B:=Ir hs;refine kP ?_ B;have A:=Bg (H:=H.set k h') (hz:=hz.set k a') (r6 hk) (r6 hk2);rw [rG] at A;exact (AAC).trans A.symm
end
theorem BQ {a:cq} (hh:H[k]? =some h) (ha:hz[k]? =some a) (hl:h'.length=h.length):zipWith dQ (H.set k h') (hz.set k (a.1,bs))=zipWith dQ H hz:=by
 rw [← q9];have e:dQ h' (a.1,bs)=dQ h a:=by simp only [dQ,hl]
 rw [e];have hz':=cD (f:=dQ) hh ha;obtain ⟨hi,A⟩:=aR.1 hz';rw [← A];exact List.set_getElem_self hi
theorem S5 {b:RA} {d':ao} (hd:h[i]? =some d) (hb:bs[i]? =some b) (hs':d'.bp.ab=[]) (hs:St S w0 (bD (bx lP h bs)::C) w):St S w0 (bD (bx lP (h.set i d') (bs.set i (none,0)))::C) w:=by
 have A:=(kP (kO hd hb) hs).iI;have B:St S w0 (fH lP h bs i++C) w:=St.take (by simpa using A) (List.sublist_append_right (lP d b) (fH lP h bs i++C));have D:=B.r9 CK 2;have E:St S w0 ((lP d' (none,0)++fH lP (h.set i d') (bs.set i (none,0)) i)++C) w:=by
  rw [rG];simpa [lP,hs'] using D
 exact kP (kO (r6 (aR.1 hd).1) (r6 (aR.1 hb).1)).symm E.tied
theorem qM {e:ao}:d=e↔d.Out=e.Out∧d.cV=e.cV∧d.Time=e.Time∧d.bp.Start=e.bp.Start∧d.bp.hU=e.bp.hU∧d.bp.ab=e.bp.ab:=by
 obtain ⟨a,b,c,⟨x,y,z⟩⟩:=d;obtain ⟨A,B,C,⟨D,E,F⟩⟩:=e;simp only [ao.mk.injEq,cW.mk.injEq]
theorem LO {q:cN} (h1:r.av=q.av) (h2:r.bf=q.bf) (h3:r.dp=q.dp) (h4:r.jB=q.jB) (h5:r.ay=q.ay):r=q:=by
 cases r;cases q;simp_all
end
section
def rH (d:ao):Prop:=d.Out=false∧d.cV=false
instance (d:ao):Decidable (rH d):=by unfold rH;infer_instance
def fq (l:a_) (f:bO):Prop:=(1≤f.Kind∧f.Kind≤3)∧(0≤f.og∧f.og≤f.To∧f.To≤86400000)∧0≤f.ji∧f.ji≤(if f.Kind=1 then 0 else l.b_)
instance (l:a_) (f:bO):Decidable (fq l f):=by unfold fq;infer_instance
/-- the descent that a protest is of -/
def vf (j:dy) (p:c_):Option ao:=(j.Race.ay[p.jY.toNat]?).bind (·[p.jn.toNat]?)
structure x5 (j:dy) (i:Nat) (p:c_):Prop where
 id:0≤p.Id∧p.Id≤9999
 up: ∀ q,0<i→j.bM[i-1]? =some q→q.Id<p.Id
 kW:mN j.Race p.jn
 fG:0≤p.jY∧p.jY≤(j.Race.ay.length:Int)-1
 fault:0≤p.lx∧p.lx≤(j.bB.length:Int)-1
 ng: ∃ d,vf j p=some d∧rH d∧d.bp.Start≤p.At∧p.At≤86400000
structure tp (j:dy):Prop where
 nf:(j.bB.length:Int)≤5
 fault: ∀ f∈j.bB,fq j.Race.av f
 min_:0≤j.jx∧j.jx≤60
 vW:0≤j.Ke∧j.Ke≤100000
 np:(j.bM.length:Int)≤8
 iN: ∀ (i:Nat) p,j.bM[i]? =some p→x5 j i p
noncomputable instance (j:dy):Decidable (tp j):=Classical.propDecidable _
noncomputable def fU (j:dy):Int:=if eK j.Race=0 then (if tp j then 0 else 70) else eK j.Race
theorem Cv (h:¬ eK j.Race=0):fU j=eK j.Race:=c1 h
theorem kI (h:eK j.Race=0) (hn:¬ tp j):fU j=70:=by unfold fU;rw [c0 h,c1 hn]
theorem zP (h:eK j.Race=0) (hn:tp j):fU j=0:=by unfold fU;rw [c0 h,c0 hn]
theorem fI (h:fU j=0):eK j.Race=0∧tp j:=by
 unfold fU at h;split at h
 ·split at h
  ·exact ⟨asm,asm⟩
  ·cases h
 ·rename_i q;exact absurd h q
structure Et where
 Lo:Int
 Hi:Int
 each:Bool
 never:Bool
/-- whether it passed the beam in each truth -/
noncomputable def AM (l:a_) (r:cW) (b:Int):Bool:=(lU l r).all fun n=>decide (b<n)
noncomputable def dw (l:a_) (r:cW) (b:Int):Et:=
 if b<0 then ⟨r.Start,r.Start,true,false⟩
 else if eT l r b=0 then ⟨(eL l r b).Lo,if AM l r b=true then (eL l r b).Hi else 86400000,AM l r b,false⟩
 else ⟨86400000,86400000,false,true⟩
def J0 (f:bO):Int:=if f.Kind=1 then-1 else if f.Kind=2 then f.ji-1 else f.ji
def ZS (l:a_) (f:bO):Int:=if f.Kind=1 then l.b_ else f.ji
def wE (f:bO) (a b:Et):Prop:=if f.Kind=3 then f.og≤a.Lo∧a.Hi≤f.To else a.Hi≤f.To∧f.og≤b.Lo
instance (f:bO) (a b:Et):Decidable (wE f a b):=by unfold wE;infer_instance
def r8 (f:bO) (a b:Et):Int:=if a.never=true∨f.To<a.Lo∨b.Hi<f.og then 0 else if a.each=true∧wE f a b then 2 else 1
noncomputable def ky (l:a_) (f:bO) (d:ao):Int:=if rH d then r8 f (dw l d.bp (J0 f)) (dw l d.bp (ZS l f)) else 0
theorem yi {l:a_} {f:bO} (h:¬ rH d):ky l f d=0:=c1 h
def jX (P:Nat→Bool) (n:Nat):List Int:=((range n).filter P).map fun (i:Nat)=>(i:Int)
section
variable {P:Nat→Bool} {n q:Nat} {x:Int}
theorem xP (h:P n=true):jX P (n+1)=jX P n++[(n:Int)]:=by unfold jX;rw [AAV,AAq,AAF];simp [h]
theorem Ca (h:P n=false):jX P (n+1)=jX P n:=by unfold jX;rw [AAV,AAq,AAF];simp [h]
theorem rP:(jX P n).length≤n:=by unfold jX;rw [c3];exact c6 (u2 _ _) (by rw [AA1];exact c9 _)
theorem HX:x∈jX P n↔ ∃ i:Nat,i<n∧x=(i:Int)∧P i=true:=by
 unfold jX;simp only [cu,n3,AAd];constructor
 ·rintro ⟨i,⟨A,B⟩,rfl⟩;exact ⟨i,A,rfl,B⟩
 ·rintro ⟨i,A,rfl,B⟩;exact ⟨i,⟨A,B⟩,rfl⟩
theorem G_: ∀ m,∃ l,jX P (q+m)=jX P q++l∧ ∀ y∈l,(q:Int)≤y
 |0=>⟨[],sm,fun y h=>by cases h⟩
 |m+1=>by
  obtain ⟨l,e,hl⟩:=G_ m;cases hb:P (q+m) with
  |true=>exact ⟨l++[((q+m:Nat):Int)],by rw [show q+(m+1)=(q+m)+1 from rfl,xP hb,e,append_assoc],fun y hy=>by
   rcases dY.1 hy with h|h
   ·exact hl y h
   ·rw [bT.1 h];omega⟩
  |false=>exact ⟨l,by rw [show q+(m+1)=(q+m)+1 from rfl,Ca hb,e],hl⟩
/-- the pointer that goes beside: the next one is this, if it is so, and a later one, or none, if not -/
theorem TU (h:P q=true) (hq:q<n):(jX P n)[(jX P q).length]? =some (q:Int):=by
 obtain ⟨l,hl,_⟩:=G_ (P:=P) (q:=q+1) (n-(q+1));rw [show q+1+(n-(q+1))=n by omega,xP h] at hl;rw [hl,append_assoc,k_ (c9 _),AAw];rfl
theorem Vo (h:P q=false) (hq:q<n) (hx:(jX P n)[(jX P q).length]? =some x):x≠(q:Int):=by
 obtain ⟨l,hl,hy⟩:=G_ (P:=P) (q:=q+1) (n-(q+1));rw [show q+1+(n-(q+1))=n by omega,Ca h] at hl;rw [hl,k_ (c9 _),AAw] at hx;have:=hy x (aF hx);omega
end
noncomputable def vg (j:dy) (p:c_):Int:=match vf j p with
 |some d=>if p.At≤(dw j.Race.av d.bp j.Race.av.b_).Lo+60000*j.jx then 0 else if p.At≤(dw j.Race.av d.bp j.Race.av.b_).Hi+60000*j.jx then 1 else 2
 |none=>2
noncomputable def nS (j:dy) (p:c_):Bool:=match vf j p,j.bB[p.lx.toNat]? with
 |some d,some f=>decide (vg j p≠2)&&decide (ky j.Race.av f d≠0)
 |_,_=>false
/-- which protests are granted, so far -/
noncomputable def Bn (j:dy) (n:Nat):List Int:=jX (fun i=>(j.bM[i]?).any (nS j)) n
noncomputable def lQ (j:dy):List Int:=Bn j j.bM.length
theorem vH {n:Nat}:x∈Bn j n↔ ∃ i:Nat,i<n∧x=(i:Int)∧ ∃ p,j.bM[i]? =some p∧nS j p=true:=by
 unfold Bn;rw [HX];refine exists_congr fun i=>and_congr Iff.rfl (and_congr Iff.rfl ?_);cases h:j.bM[i]? with
 |none=>simp
 |some p=>simp
/-- by faults of which something is so -/
def VM (l:a_) (F:bO→Prop) (fs:List bO) (d:ao):Prop:= ∃ f∈fs,F f∧ ¬ ky l f d=0
noncomputable def KU (l:a_) (F:bO→Prop) (fs:List bO) (h:List ao) (n:Nat):List Int:=jX (fun s=>(h[s]?).any fun d=> @decide (VM l F fs d) (Classical.propDecidable _)) n
noncomputable def iK (j:dy) (F:bO→Prop):List (List Int):=j.Race.ay.map fun h=>KU j.Race.av F j.bB h h.length
/-- about which a protest is granted -/
def Iu (j:dy) (f:bO):Prop:= ∃ (i:Nat) (p:c_),j.bM[i]? =some p∧nS j p=true∧j.bB[p.lx.toNat]? =some f
noncomputable def gf (j:dy):List (List Int):=iK j (Iu j)
noncomputable def Y8 (j:dy) (s:Int) (n:Nat):Nat:=(range n).countP fun i=>(j.bM[i]?).any fun p=>decide (p.jn=s)&& !nS j p
noncomputable def V1 (j:dy) (s:Int):Int:= -(Y8 j s j.bM.length:Int)*j.Ke
end
section
/-- the places of which something is so; from the k-th on, all of them -/
def ja (P:Nat→Bool) (n k:Nat):List (Int×Bool):=((range n).filter fun q=>decide (k≤q)||P q).map fun (q:Nat)=>((q:Int),true)
section
variable {P:Nat→Bool} {n k q:Nat}
theorem Al {p:Int×Bool}:p∈ja P n k↔ ∃ q:Nat,q<n∧(k≤q∨P q=true)∧p=((q:Int),true):=by
 unfold ja;simp only [cu,n3,AAd,ABE,r0];constructor
 ·rintro ⟨q,⟨A,B⟩,rfl⟩;exact ⟨q,A,B,rfl⟩
 ·rintro ⟨q,A,B,rfl⟩;exact ⟨q,⟨A,B⟩,rfl⟩
theorem L5:((ja P n k).map (·.1)).Nodup:=by
 unfold ja;rw [List.map_map,s5,AAK];have h:(range n).Pairwise (· ≠ ·):=by rw [← s5];exact ACe
 exact (h.sublist AA3).imp fun {a b} A e=>A (by have B:(a:Int)=(b:Int):=e;omega)
theorem Np:d_ (ja P n 0) (n:Int) true=ja P (n+1) 0:=by
 have A:(ja P n 0).lookup (n:Int)=none:=jg.2 fun p hp e=>by
  obtain ⟨q,B,_,rfl⟩:=Al.1 hp;simp only at e;omega
 unfold d_;rw [A];show ja P n 0++[((n:Int),true)]=_
 unfold ja;rw [AAV,AAq,AAF];simp
theorem QK (h:P k=false):cH (ja P n k) (k:Int)=ja P n (k+1):=by
 unfold cH ja;rw [List.filter_map,ABn];congr 1;apply ABT;intro q _;by_cases e:q=k
 ·subst e;simp [h]
 ·have A:decide ((q:Int)=(k:Int))=false:=bj I;have B:decide (k≤q)=decide (k+1≤q):=iw.2 I;simp only [ABU,A,B,Bool.not_false,Bool.true_and]
theorem Mc (h:P k=true):ja P n k=ja P n (k+1):=by
 unfold ja;congr 1;apply ABT;intro q _;by_cases e:q=k
 ·subst e;simp [h]
 ·have A:decide (k≤q)=decide (k+1≤q):=iw.2 I;rw [A]
theorem Cy (hq:q<n):((ja P n n).lookup (q:Int)).getD false=P q:=by
 cases h:P q with
 |true=>
  have:((q:Int),true)∈ja P n n:=Al.2 ⟨q,hq,.inr h,rfl⟩;rw [(ko L5).1 this];rfl
 |false=>
  have:(ja P n n).lookup (q:Int)=none:=jg.2 fun p hp e=>by
   obtain ⟨u,B,A,rfl⟩:=Al.1 hp;simp only at e;obtain rfl:u=q:=by omega
   rcases A with A|A
   ·omega
   ·rw [h] at A;cases A
  rw [this];rfl
end
end
section
section
variable {j j':dy} {p:c_} {l:a_} {F G:bO→Prop} {fs:List bO} {h:List ao} {n:Nat} {x:Int}
theorem LB (hFG: ∀ f∈fs,(F f↔G f)):KU l F fs h n=KU l G fs h n:=by
 unfold KU;congr 1;funext s;cases e:h[s]? with
 |none=>rfl
 |some d=>
  simp only [any_some];rw [iw];exact ⟨fun ⟨f,A,B,C⟩=>⟨f,A,(hFG f A).1 B,C⟩,fun ⟨f,A,B,C⟩=>⟨f,A,(hFG f A).2 B,C⟩⟩
theorem DP {h:List ao} (hh:j.Race.ay[k]? =some h):(iK j F)[k]? =some (KU j.Race.av F j.bB h h.length):=by unfold iK;rw [gM,hh];rfl
theorem Az:(iK j F).length=j.Race.ay.length:=by unfold iK;rw [c3]
end
end
section
open Go.RowKit
structure jA (j:dy) (az:List RA) (ha:List cq):Prop where
 race:gI j.Race az ha
 nf:j.bB.length≤1000000
 np:j.bM.length≤1000000
 kind: ∀ f∈j.bB,0≤f.Kind∧f.Kind≤255
structure xg (j:dy) (az:List RA) (ha:List cq):Prop where
 race:wY j.Race az ha
 nf:j.bB.length≤9223372036854775807
 np:j.bM.length≤9223372036854775807
 kind: ∀ f∈j.bB,0≤f.Kind∧f.Kind≤255
def tq (j:dy):Prop:=(lZ j.Race∨10<(j.bB.length:Int))∨15<(j.bM.length:Int)
noncomputable instance (j:dy):Decidable (tq j):=Classical.propDecidable _
theorem I4 (h:¬ tq j): ¬ lZ j.Race∧(j.bB.length:Int)≤10∧(j.bM.length:Int)≤15:=by
 unfold tq at h;have A: ¬ lZ j.Race:=fun q=>h (.inl (.inl q));have B: ¬ 10<(j.bB.length:Int):=fun q=>h (.inl (.inr q));have C: ¬ 15<(j.bM.length:Int):=fun q=>h (.inr q);exact ⟨A,I,I⟩
theorem xg.small (h:xg j az ha) (hg:¬ tq j):jA j az ha:=by
 have A:=I4 hg;exact ⟨h.race.small A.1,I,I,h.kind⟩
def qu (fin:Int) (f:bO):Prop:=(1≤f.Kind∧f.Kind≤3)∧(0≤f.og∧f.og≤f.To∧f.To≤86400000)∧0≤f.ji∧f.ji≤(if f.Kind=1 then 0 else fin)
instance (fin:Int) (f:bO):Decidable (qu fin f):=by unfold qu;infer_instance
theorem Sc {P:Nat→Bool} {n:Nat} (h:¬ 0<((jX P n).length:Int)) (hi:i<n):P i=false:=by
 cases e:P i with
 |false=>rfl
 |true=>
  have:(i:Int)∈jX P n:=HX.2 ⟨i,hi,rfl,e⟩;have:=AA5 this;omega
theorem S8 {P:Nat→Bool} {n:Nat} (h:0<((jX P n).length:Int)): ∃ i,i<n∧P i=true:=by
 obtain ⟨x,hx⟩:=List.exists_mem_of_length_pos (l:=jX P n) I;obtain ⟨i,A,_,B⟩:=HX.1 hx;exact ⟨i,A,B⟩
def jk {α:Type} (l:List α) (p:Int→α→Bool) (i:Nat):Bool:=(l[i]?).any (p (i:Int))
theorem uD {l:List α} {p:Int→α→Bool} {x:α} (h:l[i]? =some x):jk l p i=p (i:Int) x:=by unfold jk;rw [h];rfl
section
variable {fin:Int} {f:bO} {j:dy}
theorem wI (hk:f.Kind=1):qu fin f↔(0≤f.og∧f.og≤f.To∧f.To≤86400000)∧0≤f.ji∧f.ji≤0:=by
 unfold qu;rw [c0 hk];omega
theorem w5 (hk: ¬ f.Kind=1):qu fin f↔(1≤f.Kind∧f.Kind≤3)∧(0≤f.og∧f.og≤f.To∧f.To≤86400000)∧0≤f.ji∧f.ji≤fin:=by
 unfold qu;rw [c1 hk]
theorem GK (h:0<((jX (jk j.bB fun _ f=>decide (¬ qu j.Race.av.b_ f)) j.bB.length).length:Int)): ¬ tp j:=fun q=>by
 obtain ⟨i,hi,hb⟩:=S8 h;have hx:j.bB[i]? =some (j.bB[i]'hi):=fh hi;rw [uD hx] at hb;exact (s6 hb) (q.fault _ (aF hx))
theorem Gz (h: ¬ 0<((jX (jk j.bB fun _ f=>decide (¬ qu j.Race.av.b_ f)) j.bB.length).length:Int)): ∀ f∈j.bB,fq j.Race.av f:=fun f hf=>by
 obtain ⟨i,hi⟩:=r5.1 hf;have hb:=Sc h (aR.1 hi).1;rw [uD hi] at hb;exact Decidable.of_not_not (AB5 hb)
theorem Eb {p q:Prop} (h1:b=false) (h2:¬ p) (h3:¬ q): ¬ (b=true∨p∨q):=by
 rintro (h|h|h)
 ·rw [h1] at h;cases h
 ·exact h2 h
 ·exact h3 h
end
section
variable {l:a_} {r:cW} {b:Int} {f:bO} {d:ao} {a c:Et}
theorem Lm (h:b<0):dw l r b=⟨r.Start,r.Start,true,false⟩:=c0 h
theorem Fv (h: ¬ b<0) (e: ¬ eT l r b=0):dw l r b=⟨86400000,86400000,false,true⟩:=by unfold dw;rw [c1 h,c1 e]
theorem BL (h: ¬ b<0) (e:eT l r b=0) (q:AM l r b=true):dw l r b=⟨(eL l r b).Lo,(eL l r b).Hi,true,false⟩:=by unfold dw;rw [c1 h,c0 e,q];rfl
theorem zx (h: ¬ b<0) (e:eT l r b=0) (q:AM l r b=false):dw l r b=⟨(eL l r b).Lo,86400000,false,false⟩:=by unfold dw;rw [c1 h,c0 e,q];rfl
theorem xT (h:eT l r b=0) (hb:0≤b):fO l r 0=0:=by
 by_cases e:fO l r (lT l b)=0
 ·by_cases c:0≤b∧b≤(l.ag.length:Int)-1
  ·rw [zL c] at e;exact e
  ·rw [show lT l b=2 from c1 c] at e;have:=(jT e).2.2.1;omega
 ·rw [(nB e).1] at h;exact absurd h e
theorem Gv (h:fO l r 0=0):AM l r b=decide (b<rY (lU l r)):=by
 have hm:=TC (BO h);unfold AM;rw [AAB,db,ACW];constructor
 ·intro q;exact s6 (q _ hm.1)
 ·intro q x hx;have:=hm.2 x hx;exact cT I
theorem Sy (hb:0≤b):(0≤(dw l r b).Lo∧(dw l r b).Lo≤86400000)∧0≤(dw l r b).Hi∧(dw l r b).Hi≤86400000:=by
 by_cases e:eT l r b=0
 ·have A:=wi e;cases q:AM l r b with
  |true=>rw [BL I e q];simp only;omega
  |false=>rw [zx I e q];simp only;omega
 ·rw [Fv I e];simp only;omega
theorem kF (hk:f.Kind=1) (hr:rH d):ky l f d=r8 f (dw l d.bp (-1)) (dw l d.bp l.b_):=by
 unfold ky J0 ZS;rw [c0 hr,c0 hk,c0 hk]
theorem kH (hk:f.Kind=2) (hr:rH d):ky l f d=r8 f (dw l d.bp (f.ji-1)) (dw l d.bp f.ji):=by
 unfold ky J0 ZS;rw [c0 hr,c1 I,c0 hk,c1 I]
theorem kD (hk:f.Kind=3) (hr:rH d):ky l f d=r8 f (dw l d.bp f.ji) (dw l d.bp f.ji):=by
 unfold ky J0 ZS;rw [c0 hr,c1 I,c1 I,c1 I]
theorem ir (h:a.never=true∨f.To<a.Lo∨c.Hi<f.og):r8 f a c=0:=c0 h
theorem qI (h: ¬ (a.never=true∨f.To<a.Lo∨c.Hi<f.og)) (q:a.each=true) (s:wE f a c):r8 f a c=2:=by unfold r8;rw [c1 h,c0 ⟨q,s⟩]
theorem kK (h: ¬ (a.never=true∨f.To<a.Lo∨c.Hi<f.og)) (q: ¬ (a.each=true∧wE f a c)):r8 f a c=1:=by unfold r8;rw [c1 h,c1 q]
theorem qf (hk: ¬ f.Kind=3):wE f a c↔a.Hi≤f.To∧f.og≤c.Lo:=by unfold wE;rw [c1 hk]
theorem DQ (hk:f.Kind=3):wE f a c↔aa.mk (max a.Lo f.og) (min a.Hi f.To)=aa.mk a.Lo a.Hi:=by
 unfold wE;rw [c0 hk];constructor
 ·intro q;congr 1<;>omega
 ·intro q;injection q with A B;omega
end
section
variable {j:dy} {p:c_} {d:ao} {f:bO}
theorem WD (hd:vf j p=some d) (h:p.At≤(dw j.Race.av d.bp j.Race.av.b_).Lo+60000*j.jx):vg j p=0:=by unfold vg;rw [hd];exact c0 h
theorem U7 (hd:vf j p=some d) (h: ¬ p.At≤(dw j.Race.av d.bp j.Race.av.b_).Lo+60000*j.jx) (h2:p.At≤(dw j.Race.av d.bp j.Race.av.b_).Hi+60000*j.jx):vg j p=1:=by unfold vg;rw [hd];simp only;rw [c1 h,c0 h2]
theorem VJ (hd:vf j p=some d) (h: ¬ p.At≤(dw j.Race.av d.bp j.Race.av.b_).Lo+60000*j.jx) (h2: ¬ p.At≤(dw j.Race.av d.bp j.Race.av.b_).Hi+60000*j.jx):vg j p=2:=by unfold vg;rw [hd];simp only;rw [c1 h,c1 h2]
theorem Qm (h:vg j p=2):nS j p=false:=by unfold nS;split<;>simp [h]
theorem Nb (hd:vf j p=some d) (hf:j.bB[p.lx.toNat]? =some f) (h: ¬ vg j p=2):nS j p= !decide (ky j.Race.av f d=0):=by unfold nS;rw [hd,hf];simp [h]
end
section
variable {j:dy} {i k:Nat} {p q:c_} {f:bO} {d:ao}
/-- the first faults are right -/
def qR (j:dy) (k:Nat):Prop:= ∀ (i:Nat) f,i<k→j.bB[i]? =some f→fq j.Race.av f
theorem EE:qR j 0:=fun i f h=>absurd h (s4 _)
theorem ti (h:qR j k) (hf:j.bB[k]? =some f) (ho:fq j.Race.av f):qR j (k+1):=fun i g hi hg=>by
 rcases r4 i k with c|c
 ·exact h i g c hg
 ·obtain rfl:i=k:=by omega
  rw [hf] at hg;cases hg;exact ho
theorem ei (h:qR j k) (hk:j.bB.length≤k): ∀ f∈j.bB,fq j.Race.av f:=fun f hf=>by
 obtain ⟨i,hi⟩:=r5.1 hf;exact h i f (by have:=(aR.1 hi).1;omega) hi
/-- the first protests are right -/
def pT (j:dy) (k:Nat):Prop:= ∀ (i:Nat) p,i<k→j.bM[i]? =some p→x5 j i p
theorem zJ:pT j 0:=fun i f h=>absurd h (s4 _)
theorem vi (h:pT j k) (hp:j.bM[k]? =some p) (ho:x5 j k p):pT j (k+1):=fun i g hi hg=>by
 rcases r4 i k with c|c
 ·exact h i g c hg
 ·obtain rfl:i=k:=by omega
  rw [hp] at hg;cases hg;exact ho
/-- the number of the last protest, so far -/
def rD (j:dy) (k:Nat):Int:=match k with
 |0=> -1
 |k+1=>match j.bM[k]? with
  |some p=>p.Id
  |none=> -1
theorem pC (hp:j.bM[k]? =some p):rD j (k+1)=p.Id:=by unfold rD;simp only [hp]
theorem RS (h:pT j k) (hk:k≤j.bM.length): -1≤rD j k∧rD j k≤9999:=by
 cases k with
 |zero=>exact ⟨by simp [rD],by simp [rD]⟩
 |succ k=>
  obtain ⟨p,hp⟩: ∃ p,j.bM[k]? =some p:=⟨j.bM[k]'I,fh _⟩;have:=(h k p I hp).id;rw [pC hp];omega
theorem q_ (hh:j.Race.ay[p.jY.toNat]? =some ht) (hd:ht[p.jn.toNat]? =some d):vf j p=some d:=by
 unfold vf;rw [hh];exact hd
theorem SZ (hp:j.bM[k]? =some p) (hi:rD j k+1≤p.Id∧p.Id≤9999) (h0: -1≤rD j k) (hs:0≤p.jn∧p.jn≤(j.Race.bf.length:Int)-1) (hh:0≤p.jY∧p.jY≤(j.Race.ay.length:Int)-1) (hf:0≤p.lx∧p.lx≤(j.bB.length:Int)-1) (hd:vf j p=some d) (hr:rH d) (ha:d.bp.Start≤p.At∧p.At≤86400000):x5 j k p:=by
 refine ⟨I,fun q B A=>?_,hs,hh,hf,d,hd,hr,ha⟩;cases k with
 |zero=>omega
 |succ k=>
  rw [AA_] at A;rw [pC A] at hi;omega
/-- one that is wrong -/
theorem uv (hp:j.bM[k]? =some p) (h: ¬ x5 j k p): ¬ tp j:=fun q=>h (q.iN k p hp)
theorem zj (h:x5 j k p) (hk:k≤j.bM.length):rD j k+1≤p.Id:=by
 cases k with
 |zero=>have:=h.id;show-1+1≤p.Id;omega
 |succ k=>
  obtain ⟨q,hq⟩: ∃ q,j.bM[k]? =some q:=⟨j.bM[k]'I,fh _⟩;have:=h.up q I (by rw [AA_];exact hq);rw [pC hq];omega
end
def qt (l:List bO) (f:bO):Int:=match l.findIdx? (fun x=>decide (x=f)) with
 |some i=>(i:Int)
 |none=> -1
section
variable {l:List bO} {f g x:bO} {i:Nat}
theorem Tn (hx:l[i]? =some x) (h:x=f) (hb: ∀ (q:Nat) y,q<i→l[q]? =some y→y≠f):qt l f=(i:Int):=by
 unfold qt;have:l.findIdx? (fun x=>decide (x=f))=some i:=by
  rw [ACD];obtain ⟨hi,e⟩:=aR.1 hx;refine ⟨hi,by rw [e];simp [h],fun q hq=>?_⟩;have:=hb q (l[q]'I) hq (fh _);simpa using this
 rw [this]
theorem SU (hb: ∀ (q:Nat) y,q<i→l[q]? =some y→y≠f) (hi:l.length≤i):qt l f= -1:=by
 unfold qt;have:l.findIdx? (fun x=>decide (x=f))=none:=by
  rw [List.findIdx?_eq_none_iff];intro y hy;obtain ⟨q,hq⟩:=r5.1 hy;have:=hb q y (by have:=(aR.1 hq).1;omega) hq;simpa using this
 rw [this]
theorem E2 (hf:f∈l): ∃ i:Nat,qt l f=(i:Int)∧l[i]? =some f:=by
 unfold qt;cases h:l.findIdx? (fun x=>decide (x=f)) with
 |none=>
  rw [List.findIdx?_eq_none_iff] at h;have:=h f hf;simp at this
 |some i=>
  rw [ACD] at h;obtain ⟨hi,e,_⟩:=h;exact ⟨i,U,by rw [fh hi];simpa using e⟩
theorem PX (hf:f∈l) (hg:g∈l) (h:qt l f=qt l g):f=g:=by
 obtain ⟨i,C,A⟩:=E2 hf;obtain ⟨k,D,B⟩:=E2 hg;have:i=k:=by omega
 subst this;exact m3 (A.symm.trans B)
end
abbrev BT (j:dy) (kA:Option Addr) (az:List RA) (cA bA:Option Addr) (slA drA:Option Addr) (ha:List cq) (heA:Option Addr) (faA prA:Option Addr):List ar:=[(rd kA j.Race.av.bW.length 9 (j.Race.av.bW.map ai.cells)),(rd cA j.Race.av.aD.length 2 (zipWith aX.cells j.Race.av.aD az)),(iX (bx aX.lG j.Race.av.aD az)),(rd bA j.Race.av.ag.length 4 (j.Race.av.ag.map dT.cells)),(rd slA j.Race.bf.length 1 (j.Race.bf.map iC)),(rd drA j.Race.dp.length 1 (j.Race.dp.map iC)),(rd heA j.Race.ay.length 1 (zipWith dQ j.Race.ay ha)),(iX (bx nu j.Race.ay ha)),(rd faA j.bB.length 4 (j.bB.map bO.cells)),(rd prA j.bM.length 5 (j.bM.map c_.cells))]
end
section
open Go.RowKit
abbrev yo2 (C:List ar) (i j:Nat):List Nat:=i::j::(range C.length).filter fun k=>k != i&&k != j
def ZY {σ:Type} (w0:World) (P:Program) (l:Nat) (step:σ→List Value→ar→σ→Prop) (J:σ→ar→Prop) (Z:ar→Prop):Prop:=
 ∀ k x R k' A w,step k x R k'→J k A→w0.heap.size≤w.heap.size→(bD [A,R]).holds w→YieldAt (Fw none) 0 P l x.toArray w fun e w'=>
  (e= .returned (.bool true)∧ ∃ B,J k' B∧Mv (bD [A,R]) B w w')∨(e= .returned (.bool false)∧ ∃ B,Z B∧Mv (bD [A,R]) B w w')
structure U2 {σ:Type} (P:Program) (f:FuncId) (fi ca:List Value) (Cp:List ar) (s0:σ) (step:σ→List Value→ar→σ→Prop) (fin:σ→Prop):Prop where
 go:sQ P f=true
 run: ∀ (l:Nat) (J:σ→ar→Prop) (Z:ar→Prop) (A0:ar) (w:World),ZY w P l step J Z→J s0 A0→A0.holds w→(∀ A∈Cp,A.holds w)→(∀ A∈Cp,GB A0 A.ro)→
  Calls P f (fi++Value.func (.yield l) #[] #[]::ca).toArray w (FB J Z fin A0 w)
theorem Rb {f:FuncId} {s0:σ} {step:σ→List Value→ar→σ→Prop} {fin:σ→Prop} (hgo:sQ P f=true) (hf:P.funcs[f]? =some fn) (hb:fn.body=some c) (hn:ble (fi.length+ca.length+1) fn.ntmps=true) (h:∀ (l:Nat) (J:σ→ar→Prop) (Z:ar→Prop) (A0:ar) (w0:World) (Q:dk),ZY w0 P l step J Z→J s0 A0→Fo A0 w0 A0→
  (∀ D L C,LJ ⟨P,none,fn.ntmps,⟨A0.wf,fun _=>True⟩,w0⟩ fn (FB J Z fin A0 w0) D L C→KJ ⟨P,none,fn.ntmps,⟨A0.wf,fun _=>True⟩,w0⟩ (Q .ret) D L C)→
  (∀ D L C,LJ ⟨P,none,fn.ntmps,⟨A0.wf,fun _=>True⟩,w0⟩ fn (FB J Z fin A0 w0) D L C→KJ ⟨P,none,fn.ntmps,⟨A0.wf,fun _=>True⟩,w0⟩ (Q .normal) D L C)→
  WJ ⟨P,none,fn.ntmps,⟨A0.wf,fun _=>True⟩,w0⟩ c Q [] (TG (fi++Value.func (.yield l) #[] #[]::ca)) (A0::Cp.map ar.ro)):U2 P f fi ca Cp s0 step fin:=by
 refine ⟨hgo,fun l J Z A0 w hY hJ hA F E=>?_⟩;refine DI hf hb (by simpa [ABS] using hn) (h l J Z A0 w · hY hJ (fun b hb=> .inl hb)) ?_;have G:=tD F;refine ⟨ed.refl _ _,fun A hA'=>?_,List.Pairwise.cons (fun B hB=>?_) G.sep,fun A hA' b hb=>?_,fun _ _ _ _=> .inr trivial⟩
 ·rcases bH.1 hA' with rfl|hA'
  ·exact hA
  ·exact G.holds A hA'
 ·obtain ⟨B',hB',rfl⟩:=cu.1 hB;exact E B' hB'
 ·rcases bH.1 hA' with rfl|hA'
  ·exact .inr hb
  ·obtain ⟨B',hB',rfl⟩:=cu.1 hA';exact hb.elim
section
variable {E:fM} {ops:Array Oper} {Q:dk} {rest:List Oper} {D:List Deferred} {L:List (Nat×Value)} {C:List ar}
variable {d:Nat} {ty:TypeId} {ps:String} {af:Array Edge} {g:Option (Nat×Bool)}
/-- a call of yield -/
theorem Ou {fop:Operand} {xs:Array Operand} {l:Nat} {k k':σ} {step:σ→List Value→ar→σ→Prop} {J:σ→ar→Prop} {Z:ar→Prop} {A0 A R:ar} (i j:Nat) (hS:E.S=⟨A0.wf,fun _=>True⟩) (hY:ZY E.w0 E.P l step J Z) (hJ:J k A) (hF:Fo A0 E.w0 A) (hg:kB ops L g=true) (hf:ev L fop=some (.func (.yield l) #[] #[])) (hx:evs L xs.toList=some vs) (hk:step k vs R k') (hR:R.wr=true) (hn:decide (yo2 C i j).Nodup=true) (hC:m_ C (yo2 C i j)=some (A::R::C1)) (hd:blt d E.n=true) (k1:∀ B,J k' B→Fo A0 E.w0 B→RJ E ops Q rest D ((d,.bool true)::L) (B::C1)) (k2:∀ B,Z B→Fo A0 E.w0 B→RJ E ops Q rest D ((d,.bool false)::L) (B::C1)):
 RJ E ops Q (⟨some d,.call {callee:= .value fop,args:=xs,argTypes:=ts},ty,ps,af,g⟩::rest) D L C:=by
 intro a w F N;have AA:St E.S E.w0 ([A,R]++C1) w:=St.kT _ hn (j3 hC) N;have hs:=AA.tied;have hd':d<E.n:=by rw [← u7];exact hd
 unfold uM;rw [c0 (eI F hg)];have O:xs.map a.eval=vs.toArray:=by
  have:=F.evs hx;apply ABX;simp [this]
 obtain ⟨fn,tmps,assign,body,hy,hr⟩:=hY k vs R k' A w hk hJ hs.keeps.size (hs.holds _ bZ);have H:(execOp a.eval ⟨some d,.call {callee:= .value fop,args:=xs,argTypes:=ts},ty,ps,af,g⟩).run E.P w= .ok (.round l fn tmps assign body) w:=by
  simp [execOp,resolve,F.ev hf,Deferred.ofValue,invoke,O,hy]
 refine ⟨fun _ _=>trivial,?_⟩;rw [AA7 _ _ _ sm,H];refine ⟨fun h=>by simp at h,?_⟩;have G: ∀ (B:ar) (w':World),Mv (bD [A,R]) B w w'→Fo A0 E.w0 B:=fun B w' m b hb=>by
  rcases m.fP b hb with ⟨X,hX,K⟩|K
  ·rcases bH.1 hX with rfl|hX
   ·exact hF b K
   ·rw [bT] at hX;subst hX;rcases AA.own X sm b (X.whole hR b K) with M|M
    ·exact .inr M
    ·rw [hS] at M;exact .inl (A0.l7 b M)
  ·exact .inr (c6 hs.keeps.size K)
 have hr':RoundIn (Fw E.r) 0 E.P l fn tmps assign body w _:=hr;refine hr'.mono fun e w' he=>?_;rcases he with ⟨rfl,B,hB,m⟩|⟨rfl,B,hB,m⟩
 ·exact k1 B hB (G B w' m) _ _ (F.put hd' _) (hs.mv 0 U m)
 ·exact k2 B hB (G B w' m) _ _ (F.put hd' _) (hs.mv 0 U m)
end
theorem Qz {L0:dH} {F:List ar} {g:Operand} {ps:Array Tmp} {assign body:Code} {f:FuncId} {s0:σ} {step:σ→List Value→ar→σ→Prop} {fin_:σ→Prop} {ι κ:Type} (inv:σ→ι→Prop) (Ci:σ→ι→List ar) (invx:Code→κ→Prop) (Cx:Code→κ→List ar) (isJ isF:List Nat) (y0:ι) (hr:E.r=none) (hg:ev L g=some (.func (.func f) fi.toArray ca.toArray)) (hs:U2 E.P f fi ca Cp s0 step fin_) (hnd:decide (isJ++isF).Nodup=true) (hJ:kT C isJ=Ci s0 y0) (hF:kT C isF=F) (h0:inv s0 y0) (hCp:∀ A∈Cp,∃ B∈F,Pm B A) (hps:∀ k x R k',step k x R k'→x.length=ps.size) (hpn:ps.toList.all (fun t=>blt t E.n)=true) (hL:cS L L0) (round:∀ (k:σ) (x:List Value) (R:ar) (k':σ) (y:ι) (l:Nat) (ra rb:Loop) (S:BS) (w0:World) (K:Act→World→Prop) (Qr:dk),E.w0.heap.size≤w0.heap.size→step k x R k'→inv k y→
  (∀ L' C',WJ ⟨E.P,some l,E.n,S,w0⟩ body Qr [] L' (jU l (.loop rb)::C')→KJ ⟨E.P,some l,E.n,S,w0⟩ K [] L' (jU l (.loop ra)::C'))→
  (∀ y' L' C',inv k' y'→(∀ w,St S w0 C' w→St S w0 (jU l (.loop rb)::Ci k' y') w)→KJ ⟨E.P,some l,E.n,S,w0⟩ (Qr .normal) [] L' C')→
  (∀ id z L' C',invx (.exit id) z→(∀ w,St S w0 C' w→St S w0 (jU l (.loop rb)::Cx (.exit id) z) w)→KJ ⟨E.P,some l,E.n,S,w0⟩ (Qr (.exit id)) [] L' C')→
  (∀ z L' C',invx .ret z→(∀ w,St S w0 C' w→St S w0 (jU l (.loop rb)::Cx .ret z) w)→KJ ⟨E.P,some l,E.n,S,w0⟩ (Qr .ret) [] L' C')→
  WJ ⟨E.P,some l,E.n,S,w0⟩ assign (Exit.then K (fun _ _ _=>False)) [] (BC ps.toList x L0) (jU l (.loop ra)::(Ci k y++[R]))) (fin:∀ r s y,fin_ s→inv s y→KJ E (Q .normal) (jD r::D) L0 (jU r (.deferred (some []))::(F++Ci s y))) (finx:∀ r id z,invx (.exit id) z→KJ E (Q (.exit id)) (jD r::D) L0 (jU r (.deferred (some []))::(F++Cx (.exit id) z))) (finr:∀ r z,invx .ret z→KJ E (Q .ret) (jD r::D) L0 (jU r (.deferred (some []))::(F++Cx .ret z))):WJ E (.rangeFunc g ps assign body) Q D L C:=by
 intro a w hf u;refine wpIn_rangeFunc fun fn _=>?_;show ∃ l jD w₁ d w₁' f args w₂,(Instr.enterLoop fn a.tmps ps assign body E.r).run E.P w= .ok (l,jD) w₁∧_
 rw [hr];obtain ⟨rec,G⟩: ∃ rec:LoopState→Option Code→Loop,rec=fun st pe=>{state:=st,pending:=pe,fn,tmps:=a.tmps,params:=ps,assign,body,defers:=w.heap.size}:=⟨_,rfl⟩;obtain ⟨W1,T⟩: ∃ W1,(w.alloc (.deferred (some []))).alloc (.loop (rec .ready none))=W1:=⟨_,rfl⟩;have A1:a.eval g= .func (.func f) fi.toArray ca.toArray:=hf.ev hg;have q:(Instr.enterLoop fn a.tmps ps assign body none).run E.P w= .ok (w.heap.size+1,[jD w.heap.size]) W1:=by
  rw [← T,G];exact ACU _ _ _ _ _
 -- the state with the record and the block
 have AC:St E.S E.w0 ((jU (w.heap.size+1) (.loop (rec .ready none))::Ci s0 y0)++(jU w.heap.size (.deferred (some []))::F)) W1:=by
  have Y:St E.S E.w0 (Ci s0 y0++F) w:=St.kT (isJ++isF) hnd (by have Y:=hJ;have o:=hF;unfold Go.Proofs.YtgnlmfdknlbkkaaGreatDoor.kT at Y o ⊢;rw [AAh,Y,o]) u;have hn:Q5 w W1 [jU (w.heap.size+1) (.loop (rec .ready none)),jU w.heap.size (.deferred (some []))]:=by
   refine ⟨fun A hA=>?_,fun A hA b hb=>?_,?_⟩
   ·rcases bH.1 hA with rfl|hA
    ·show W1.heap[w.heap.size+1]? =_
     rw [← T];have:=ABD (w.alloc (.deferred (some []))) (.loop (rec .ready none));rwa [World.size_alloc] at this
    ·simp only [bT] at hA;subst hA;show W1.heap[w.heap.size]? =_
     rw [← T];exact (ABe _ _ _ sm).trans (ABD w _)
   ·rcases bH.1 hA with rfl|hA
    ·have:b=w.heap.size+1:=hb;omega
    ·simp only [bT] at hA;subst hA;have:b=w.heap.size:=hb;omega
   ·refine List.Pairwise.cons (fun B hB b Y o=>?_) (AAY _ _);simp only [bT] at hB;subst hB;have X:b=w.heap.size+1:=Y;have O:b=w.heap.size:=o;omega
  have hk:ed no w W1:=by rw [← T];exact (ed.alloc no w _).trans (ed.alloc no _ _)
  have o:=Y.grow hk hn;refine o.perm ?_;simp only [AAX,AAp];exact List.Perm.cons _ (v5.symm)
 have i:=AC.tied;obtain ⟨H,A6⟩:=AAT.1 i.sep;have An:=i.holds _ (bZ ..);let J:σ→ar→Prop:=fun k A=> ∃ y,inv k y∧A=bD (jU (w.heap.size+1) (.loop (rec .ready none))::Ci k y)
 let Z:ar→Prop:=fun A=> ∃ c z,(c= .ret∨ ∃ id,c= .exit id)∧invx c z∧A=bD (jU (w.heap.size+1) (.loop (rec .done (some c)))::Cx c z)
 refine ⟨w.heap.size+1,[jD w.heap.size],W1,{target:= .fn (.func f) ca.toArray,args:=fi.toArray++ #[.func (.yield (w.heap.size+1)) #[] #[]]},W1,f,
  (fi++Value.func (.yield (w.heap.size+1)) #[] #[]::ca).toArray,W1,q,?_,fun _ _=>trivial,?_,fun h=>by simp at h,?_⟩
 ·simp only [resolve,A1];simp [Deferred.ofValue,Act.eval]
 ·have:fi.toArray++ #[Value.func (.yield (w.heap.size+1)) #[] #[]]++ca.toArray=(fi++Value.func (.yield (w.heap.size+1)) #[] #[]::ca).toArray:=by simp
  simp [invoke,oT hs.go]
 ·refine (rl E.r (hs.run (w.heap.size+1) J Z _ W1 ?_ ⟨y0,h0,U⟩ An ?_ ?_)).mono ?_
  ·-- a round
   rintro k x R k' A W hx ⟨y,hy,rfl⟩ A0 hA;have hl:W.heap[w.heap.size+1]? =some (.loop (rec .ready none)):=(hA.1 _ (bZ ..)).1 _ (bZ ..);have AO:=run_yield (P:=E.P) (args:=x.toArray) hl (by rw [G];simpa using hps k x R k' hx);rw [G] at AO;refine ⟨fn,_,assign,body,AO,roundIn_of_wpIn trivial ?_⟩;let A:ar:=bD [bD (jU (w.heap.size+1) (.loop (rec .ready none))::Ci k y),R]
   have A2:Fr E.n [] (BC ps.toList x L0) {tmps:=(ps.zip x.toArray).foldl (fun tmps (t,a)=>tmps.setIfInBounds t a) a.tmps,defers:=[]}:=by
    have Y:=G3 ps.toList x L0 a.tmps (fun t ht=>by have:=db.1 hpn t ht;rwa [u7] at this) ⟨rfl,hf.size,fun t v hv=>hf.at_ t v (hL t v hv)⟩;rw [← ABq];simpa using Y
   have p: ∀ (c:Option Code) (b:Bool),({rec .busy none with state:=if b then .ready else .done,pending:=c}:Loop)=rec (if b then .ready else .done) c:=fun c b=>by rw [G]
   have AA: ∀ (c:Option Code) (N:World) (C':List ar) (S:BS),St S W (jU (w.heap.size+1) (.loop (rec .busy none))::C') N→
    ∃ M,(Instr.endRound (w.heap.size+1) c).run E.P N= .ok (.bool c.isNone) M∧St S W (jU (w.heap.size+1) (.loop (rec (if c.isNone then .ready else .done) c))::C') M:=fun c N C' S H=>by
    have AB:N.heap[w.heap.size+1]? =some (.loop (rec .busy none)):=H.holds _ (bZ ..);refine ⟨_,run_endRound c AB,?_⟩;have:=H.Ct (b:=w.heap.size+1) (A':=jU (w.heap.size+1) (.loop (rec (if c.isNone then .ready else .done) c))) 0 rfl rfl rfl (iB _) (fun _ h=>h) (AAR (eH AB));rw [p];exact this
   refine round k x R k' y (w.heap.size+1) (rec .ready none) (rec .busy none) ⟨A.wf,A.fP⟩ W _ (roundPost E.P (w.heap.size+1) (fun e w'=>(e= .returned (.bool true)∧ ∃ B,J k' B∧Mv A B W w')∨(e= .returned (.bool false)∧ ∃ B,Z B∧Mv A B W w'))) (c6 (c6 u.keeps.size (by rw [← T];simp;omega)) A0) hx hy ?_ ?_ ?_ ?_ _ _ A2 (by have:=(St.DC hA).iI;simpa using this)
   ·intro L' C' hW a1 N j H;have AB:N.heap[w.heap.size+1]? =some (.loop (rec .ready none)):=H.holds _ (bZ ..);refine ⟨_,run_beginRound AB (by rw [G]),hW _ _ j ?_⟩;have:=H.Ct (b:=w.heap.size+1) (A':=jU (w.heap.size+1) (.loop (rec .busy none))) 0 rfl rfl rfl (iB _) (fun _ h=>h) (AAR (eH AB));have e:({rec .ready none with state:= .busy}:Loop)=rec .busy none:=by rw [G]
    rw [e];exact this
   ·intro y' L' C' hy' hC' a1 N j H;obtain ⟨M,X,O⟩:=AA none N _ _ (hC' _ H);exact ⟨_,M,X,.inl ⟨U,_,⟨y',hy',U⟩,Mv.of O⟩⟩
   ·intro id z L' C' hz hC' a1 N j H;obtain ⟨M,X,O⟩:=AA (some (.exit id)) N _ _ (hC' _ H);exact ⟨_,M,X,.inr ⟨U,_,⟨_,z,.inr ⟨id,U⟩,hz,U⟩,Mv.of O⟩⟩
   ·intro z L' C' hz hC' a1 N j H;obtain ⟨M,X,O⟩:=AA (some .ret) N _ _ (hC' _ H);exact ⟨_,M,X,.inr ⟨U,_,⟨_,z,.inl U,hz,U⟩,Mv.of O⟩⟩
  ·intro A hA;obtain ⟨B,hB,hc⟩:=hCp A hA;exact hc.holds _ (i.holds B (dg _ (dg _ hB)))
  ·intro A hA b hb hb';obtain ⟨B,hB,hc⟩:=hCp A hA;exact ⟨(H B (dg _ hB) b hb (hc.fP b hb')).1,fun h=>h⟩
  ·rintro e w' ⟨v,rfl,hh⟩;have V:Fr E.n (jD w.heap.size::D) L0 {a with defers:=[jD w.heap.size]++a.defers}:=⟨by simp [hf.defers],hf.size,fun t v hv=>hf.at_ t v (hL t v hv)⟩;have hleave: ∀ (st:LoopState) (c:Option Code) (C':List ar),st≠ .busy→Mv (bD (jU (w.heap.size+1) (.loop (rec .ready none))::Ci s0 y0)) (bD (jU (w.heap.size+1) (.loop (rec st c))::C')) W1 w'→
    ∃ M,(Instr.endLoop (w.heap.size+1)).run E.P w'= .ok c M∧St E.S E.w0 (jU w.heap.size (.deferred (some []))::(F++C')) M:=fun st c C' A4 m=>by
    have Y:=(i.mv 0 rfl m).iI;have h1':St E.S E.w0 ((jU (w.heap.size+1) (.loop (rec st c))::C')++(jU w.heap.size (.deferred (some []))::F)) w':=Y;have AB:w'.heap[w.heap.size+1]? =some (.loop (rec st c)):=h1'.holds (jU (w.heap.size+1) (.loop (rec st c))) sm;refine ⟨_,by have:=run_endLoop (P:=E.P) AB (by rw [G];exact A4);rw [this,G],?_⟩;have o:=h1'.Ct (b:=w.heap.size+1) (A':=jU (w.heap.size+1) (.loop {rec st c with state:= .exhausted})) 0 rfl rfl rfl (iB _) (fun _ h=>h) (AAR (eH AB));have h3:St E.S E.w0 (C'++(jU w.heap.size (.deferred (some []))::F)) _:=o.take (ABJ _ _);rw [G] at h3;refine h3.perm ?_;exact (AAC).trans sm
   rcases hh with ⟨s,B,A3,⟨y,hy,rfl⟩,m⟩|⟨B,⟨c,z,hc,hz,rfl⟩,m⟩
   ·obtain ⟨M,X,O⟩:=hleave .ready none _ sm m;exact ⟨none,M,X,fin w.heap.size s y A3 hy _ _ V O⟩
   ·obtain ⟨M,X,O⟩:=hleave .done (some c) _ sm m;refine ⟨some c,M,X,?_⟩;rcases hc with rfl|⟨id,rfl⟩
    ·exact wpIn_ret (finr w.heap.size z hz _ _ V O)
    ·exact wpIn_exit (finx w.heap.size id z hz _ _ V O)
end
section
open Go.RowKit
/-- the faults that a map of places says -/
def mV (fs:List bO) (m:List (Int×Bool)) (f:bO):Prop:=(lookup (qt fs f) m).getD false=true
/-- what comes next: the row of a heat, in memory of its own -/
def Ol (G:List (List Int)) (k:Nat) (x:List Value) (R:ar) (k':Nat):Prop:= ∃ (a:OA) (c:Nat) (row:List Int),G[k]? =some row∧x=[vS a row.length c]∧R=own a c UK 1 (row.map iC)∧k'=k+1
section
variable {l:a_} {fs:List bO} {m:List (Int×Bool)} {d:ao} {h:List ao} {j:dy} {F G:bO→Prop} {k n q:Nat} {f f0:bO}
noncomputable def mK (l:a_) (fs:List bO) (m:List (Int×Bool)) (h:List ao) (s:Nat):Bool:=(h[s]?).any fun d=> @decide (VM l (mV fs m) fs d) (Classical.propDecidable _)
theorem RI:(fs.any fun f=>((lookup (qt fs f) m).getD false)&& !decide (ky l f d=0))= @decide (VM l (mV fs m) fs d) (Classical.propDecidable _):=by
 rw [AAB,AAm,@ACW _ (Classical.propDecidable _)];constructor
 ·rintro ⟨f,hf,hb⟩;rw [dh,e0,AAz] at hb;exact ⟨f,hf,hb.1,hb.2⟩
 ·rintro ⟨f,hf,A,B⟩;exact ⟨f,hf,by rw [dh,e0,AAz];exact ⟨A,B⟩⟩
theorem ID (hd:h[q]? =some d):mK l fs m h q=(fs.any fun f=>((lookup (qt fs f) m).getD false)&& !decide (ky l f d=0)):=by
 unfold mK;rw [hd,RI];rfl
theorem Qf (hh:j.Race.ay[k]? =some ht):(iK j (mV j.bB m))[k]? =some (jX (mK j.Race.av j.bB m ht) ht.length):=DP hh
/-- only who is told, of faults of the row -/
theorem FZ (h: ∀ f∈j.bB,(F f↔G f)):iK j F=iK j G:=by
 unfold iK;apply AB0;intro x _;exact LB h
end
def yU (fs:List bO) (gs:List bO):List (Int×Bool):=gs.foldl (fun m f=>d_ m (qt fs f) true) []
section
variable {fs gs:List bO} {f g:bO} {m:List (Int×Bool)}
theorem K3 {y:Int}:(lookup y (d_ m x true)).getD false=true↔y=x∨(lookup y m).getD false=true:=by
 rw [mZ];by_cases e:y=x
 ·rw [c0 e];simp [e]
 ·rw [c1 e];simp [e]
theorem Jy: ∀ {gs:List bO} {m:List (Int×Bool)} {y:Int},(lookup y (gs.foldl (fun m f=>d_ m (qt fs f) true) m)).getD false=true↔(∃ g∈gs,y=qt fs g)∨(lookup y m).getD false=true
 |[],m,y=>by simp
 |g::gs,m,y=>by
  rw [ACL,Jy (gs:=gs),K3];constructor
  ·rintro (⟨u,A,B⟩|h|h)
   ·exact .inl ⟨u,dg _ A,B⟩
   ·exact .inl ⟨g,bZ,h⟩
   ·exact .inr h
  ·rintro (⟨u,A,B⟩|h)
   ·rcases bH.1 A with rfl|A
    ·exact .inr (.inl B)
    ·exact .inl ⟨u,A,B⟩
   ·exact .inr (.inr h)
theorem WU (hg: ∀ g∈gs,g∈fs) (hf:f∈fs):mV fs (yU fs gs) f↔f∈gs:=by
 unfold mV yU;rw [Jy];constructor
 ·rintro (⟨g,A,B⟩|h)
  ·rw [PX hf (hg g A) B];exact A
  ·simp at h
 ·intro h;exact .inl ⟨f,h,rfl⟩
theorem KV:yU fs (gs++[g])=d_ (yU fs gs) (qt fs g) true:=by unfold yU;rw [List.foldl_append];rfl
end
noncomputable def Lr (j:dy) (t:Nat):List bO:=((lQ j).take t).filterMap fun i=>(j.bM[i.toNat]?).bind fun p=>j.bB[p.lx.toNat]?
section
variable {j:dy} {t:Nat} {i:Int} {p:c_} {f g:bO}
theorem OR (hi:(lQ j)[t]? =some i) (hp:j.bM[i.toNat]? =some p) (hf:j.bB[p.lx.toNat]? =some f):Lr j (t+1)=Lr j t++[f]:=by
 unfold Lr;rw [l1,hi,AAh];simp [hp,hf]
theorem RP: ∀ g∈Lr j t,g∈j.bB:=fun g h=>by
 obtain ⟨i,_,A⟩:=AAD.1 h;cases e:j.bM[i.toNat]? with
 |none=>rw [e] at A;cases A
 |some p=>rw [e] at A;exact aF A
theorem Ss (ht:(lQ j).length≤t):f∈Lr j t↔Iu j f:=by
 unfold Lr;rw [c5 ht,AAD];constructor
 ·rintro ⟨x,hx,h⟩;obtain ⟨i,_,rfl,p,hp,hg⟩:=vH.1 hx;rw [AAP,hp] at h;exact ⟨i,p,hp,hg,h⟩
 ·rintro ⟨i,p,hp,hg,hf⟩;exact ⟨(i:Int),vH.2 ⟨i,(aR.1 hp).1,U,p,hp,hg⟩,by rw [AAP,hp];exact hf⟩
theorem Hm (ht:(lQ j).length≤t):iK j (mV j.bB (yU j.bB (Lr j t)))=gf j:=
 FZ fun f hf=>(WU RP hf).trans (Ss ht)
theorem Kq (hi:(lQ j)[t]? =some i): ∃ k:Nat,i=(k:Int)∧k<j.bM.length:=by
 obtain ⟨k,A,B,_⟩:=vH.1 (aF hi);exact ⟨k,B,A⟩
theorem HC:(lQ j).length≤j.bM.length:=rP
end
end
section
open Go.RowKit
theorem Bd {l:List α} {x:α} (h:l[k]? =some x):l.take (k+1)=l.take k++[x]:=by rw [l1,h];rfl
theorem Vk {a b:Int} (h1: -60000≤a∧a≤60000) (h2:0≤b∧b≤100000): -9223372036854775808≤a*b∧a*b≤9223372036854775807:=by
 have A:=ABp h1.1 h2.1;have B:=ABp h1.2 h2.1;omega
noncomputable def eG (j:dy):List (List Int):=if fU j=0 then gf j else []
noncomputable def Dr (j:dy) (s:Int) (p:c_):Bool:=decide (p.jn=s)&& !nS j p
noncomputable def tT (j:dy) (s:Int):Int:=if fU j=0 then (if 0≤s∧s≤(j.Race.bf.length:Int)-1 then 0 else 2) else fU j
noncomputable def vl (j:dy) (s:Int):Int:=if fU j=0∧(0≤s∧s≤(j.Race.bf.length:Int)-1) then V1 j s else 0
section
variable {j:dy} {k h s i:Int} {f:bO} {ht:List ao} {d:ao} {p:c_}
theorem yH (e: ¬ fU j=0):eG j=[]:=c1 e
theorem ly (e:fU j=0):eG j=gf j:=c0 e
theorem Sn (e: ¬ p.jn=s):Dr j s p=false:=by unfold Dr;rw [bj e];rfl
theorem MQ (e:p.jn=s):Dr j s p= !nS j p:=by unfold Dr;rw [cT e];rfl
theorem Pr {P:Nat→Bool} {n:Nat}:(jX P n).length=(range n).countP P:=by unfold jX;rw [c3,List.countP_eq_length_filter]
theorem LC (e: ¬ fU j=0):vl j s=0∧tT j s=fU j:=⟨c1 fun q=>e q.1,c1 e⟩
theorem Mr (e:fU j=0) (n: ¬ (0≤s∧s≤(j.Race.bf.length:Int)-1)):vl j s=0∧tT j s=2:=⟨c1 fun q=>n q.2,by unfold tT;rw [c0 e,c1 n]⟩
theorem NL (e:fU j=0) (n:0≤s∧s≤(j.Race.bf.length:Int)-1):vl j s= -((jX (jk j.bM fun _ p=>Dr j s p) j.bM.length).length:Int)*j.Ke∧tT j s=0:=
 ⟨by unfold vl;rw [c0 ⟨e,n⟩,Pr];rfl,by unfold tT;rw [c0 e,c0 n]⟩
end
end
section
open Go.RowKit
set_option maxRecDepth 20000
def GF (x:Int):ao:=⟨false,true,⟨x,x⟩,⟨0,0,[]⟩⟩
def oB:cN:=⟨lg pj 1000,[3,4],[0,1],0,[[GF 2600,GF 2509]]⟩
def Hc:dy:=⟨oB,[],[],0,5⟩
theorem Oe {l:a_} (h:iv ⟨x,x⟩):jt l (GF x):=by rw [tU ⟨rfl,rfl⟩];exact ⟨h,rfl,rfl,rfl⟩
theorem Vl:fr oB:=by
 refine ⟨dc,dc,dc,fun i x hx=>?_,dc,fun h hh=>?_⟩
 ·match i with
  |0=>simp [oB] at hx;subst hx;exact ⟨dc,fun y h=>absurd h dc⟩
  |1=>simp [oB] at hx;subst hx;exact ⟨dc,fun y _ h=>by simp [oB] at h;omega⟩
  |n+2=>simp [oB] at hx
 ·rw [bT.1 (show h∈[[GF 2600,GF 2509]] from hh)];refine ⟨U,fun d hd=>?_⟩;simp only [bH,h_,AAr] at hd;rcases hd with rfl|rfl
  ·exact Oe dc
  ·exact Oe dc
theorem Zw:dU (lg pj 1000)=0:=AJ dc
theorem Nj:eK oB=0:=Ar (AJ dc) Vl
theorem Xd {l:a_}:fZ l (GF x)=⟨x,x⟩:=Dt ⟨rfl,rfl⟩
theorem Yd:bI oB=[(0,⟨260,260⟩),(1,⟨250,250⟩)]:=by
 have A:gL oB.av oB.ay 0 1=some ⟨260,260⟩:=by
  have h:gL oB.av oB.ay 0 1=some ⟨0+(fZ oB.av (GF 2600)).Lo/10,0+(fZ oB.av (GF 2600)).Hi/10⟩:=rfl;rw [h,Xd];rfl
 have B:gL oB.av oB.ay 1 1=some ⟨250,250⟩:=by
  have h:gL oB.av oB.ay 1 1=some ⟨0+(fZ oB.av (GF 2509)).Lo/10,0+(fZ oB.av (GF 2509)).Hi/10⟩:=rfl;rw [h,Xd];rfl
 show (range 2).filterMap (fun q=>(gL oB.av oB.ay q 1).map fun s=>((q:Int),s))=_
 simp only [AAV,List.range_zero,AAp,AAX,AB2,List.filterMap_nil,A,B,AAA];rfl
theorem DX:lW oB=[[1],[0]]:=by
 refine (ET Nj ?_ ?_).symm
 ·rw [Yd];refine ⟨dc,dc,?_,fun g hg t A B=>?_⟩
  ·simp [Qk,cd,lookup]
  ·simp only [bH,h_,AAr] at hg;rcases hg with rfl|rfl<;>(simp [cd,lookup] at A B ⊢;omega)
 ·intro g hg;simp only [bH,h_,AAr] at hg;rcases hg with rfl|rfl<;>decide
theorem Ef:fU Hc=0:=zP Nj ⟨dc,fun f hf=>(by cases hf),dc,dc,dc,fun i p hp=>(by simp [Hc] at hp)⟩
theorem BK:vl Hc 1=0∧tT Hc 1=0:=by
 have h:(0:Int)≤1∧(1:Int)≤(Hc.Race.bf.length:Int)-1:=by decide
 refine ⟨?_,?_⟩
 ·unfold vl;rw [c0 ⟨Ef,h⟩];rfl
 ·unfold tT;rw [c0 Ef,c0 h]
theorem Ox {p s t:RA}:tn oB.ay [(p,[s,t])]:=⟨rfl,fun k h a hk ha=>by
 match k with
 |0=>simp [oB] at hk ha;subst hk;subst ha;rfl
 |n+1=>simp at ha⟩
theorem Nn (h:dW (lg pj 1000) bz) (hh:tn oB.ay hz):gI oB bz hz:=⟨h,dc,dc,dc,hh.1,fun k x a hx ha=>by
 have hs:=hh.2 k x a hx ha;rw [bT.1 (show x∈[[GF 2600,GF 2509]] from aF hx)] at hs ⊢;exact ⟨dc,hs,dc⟩⟩
theorem SQ (h:dW (lg pj 1000) bz) (hh:tn oB.ay hz):jA Hc bz hz:=⟨Nn h hh,dc,dc,dc⟩
end
section
def pQ (H:List (List ao)) (h i:Int) (d:ao):List (List ao):=match H[h.toNat]? with
 |some ht=>H.set h.toNat (ht.set i.toNat d)
 |none=>H
def wm (r:cN) (h i:Int) (d:ao):cN:=⟨r.av,r.bf,r.dp,r.jB,pQ r.ay h i d⟩
section
variable {H:List (List ao)} {h i x y:Int} {d e:ao} {ht:List ao} {r:cN}
theorem uB (hh:H[h.toNat]? =some ht):pQ H h i d=H.set h.toNat (ht.set i.toNat d):=by unfold pQ;rw [hh]
theorem z5:(pQ H h i d).length=H.length:=by unfold pQ;split;rw [AAG];rfl
end
end
section
open Go.RowKit
noncomputable def oi (j:dy) (h i:Int) (d:ao):Int:=
 if fU j=0 then (if (0≤h∧h≤(j.Race.ay.length:Int)-1)∧mN j.Race i then (if i∈(gf j)[h.toNat]?.getD [] then (if eK (wm j.Race h i d)=0 then 0 else 60) else 8) else 2) else fU j
section
variable {j:dy} {h i:Int} {d e:ao} {row:List Int} {r:cN} {H:List (List ao)} {k:Nat} {y:List ao} {hz:List cq} {hza:cq} {ht:List ao} {x:RA}
theorem M7 (q: ¬ fU j=0):oi j h i d=fU j:=c1 q
theorem Ga (q:fU j=0) (n: ¬ ((0≤h∧h≤(j.Race.ay.length:Int)-1)∧0≤i∧i≤(j.Race.bf.length:Int)-1)):oi j h i d=2:=by unfold oi;rw [c0 q,c1 (by exact n)]
theorem Ah (q:fU j=0) (n:(0≤h∧h≤(j.Race.ay.length:Int)-1)∧0≤i∧i≤(j.Race.bf.length:Int)-1) (hr:(gf j)[h.toNat]? =some row):oi j h i d=if i∈row then (if eK (wm j.Race h i d)=0 then 0 else 60) else 8:=by
 unfold oi;rw [c0 q,c0 (by exact n),hr];rfl
theorem JB (q:fU j=0) (n:(0≤h∧h≤(j.Race.ay.length:Int)-1)∧0≤i∧i≤(j.Race.bf.length:Int)-1) (hr:(gf j)[h.toNat]? =some row) (hn: ¬ i∈row):oi j h i d=8:=by rw [Ah q n hr,c1 hn]
theorem CA (q:fU j=0) (n:(0≤h∧h≤(j.Race.ay.length:Int)-1)∧0≤i∧i≤(j.Race.bf.length:Int)-1) (hr:(gf j)[h.toNat]? =some row) (hm:i∈row) (he: ¬ eK (wm j.Race h i d)=0):oi j h i d=60:=by rw [Ah q n hr,c0 hm,c1 he]
theorem Ju (q:fU j=0) (n:(0≤h∧h≤(j.Race.ay.length:Int)-1)∧0≤i∧i≤(j.Race.bf.length:Int)-1) (hr:(gf j)[h.toNat]? =some row) (hm:i∈row) (he:eK (wm j.Race h i d)=0):oi j h i d=0:=by rw [Ah q n hr,c0 hm,c0 he]
theorem OS (hy:(pQ H h i d)[k]? =some y): ∃ x,H[k]? =some x∧y.length=x.length∧ ∀ e∈y,e∈x∨e=d:=by
 cases hh:H[h.toNat]? with
 |none=>unfold pQ at hy;rw [hh] at hy;exact ⟨y,hy,rfl,fun e he=> .inl he⟩
 |some ht=>
  rw [uB hh,AAO] at hy;split at hy
  ·rename_i e;rw [c0 (aR.1 hh).1] at hy;cases hy;exact ⟨ht,by rw [← e];exact hh,by rw [AAG],fun e he=>ABB he⟩
  ·exact ⟨y,hy,U,fun e he=> .inl he⟩
theorem Wp (hh:tn H hz) (h1:H[h.toNat]? =some ht) (h2:hz[h.toNat]? =some hza):tn (pQ H h i d) (hz.set h.toNat (hza.1,hza.2.set i.toNat x)):=by
 refine ⟨by rw [AAG,z5];exact hh.1,fun k y a hy ha=>?_⟩;rw [uB h1] at hy;rw [AAO] at hy ha;by_cases e:h.toNat=k
 ·rw [c0 e,c0 (aR.1 h1).1] at hy;rw [c0 e,c0 (aR.1 h2).1] at ha;cases hy;cases ha;simp only [AAG];exact hh.2 _ _ _ h1 h2
 ·rw [c1 e] at hy ha;exact hh.2 k y a hy ha
theorem gI.put (hin:gI r az ha) (hb:bz.length=r.av.aD.length) (hc:p7 r.av.aD bz) (hh:tn (pQ r.ay h i d) hz) (hd:d.bp.ab.length≤1000000):gI (wm r h i d) bz hz:=⟨hin.line.Zd hb hc,hin.hO,hin.draw,by
 show (pQ r.ay h i d).length≤1000000
 rw [z5];exact hin.hE,hh.1,fun k y a hy ha'=>by
 obtain ⟨x,hx,hl,hm⟩:=OS hy;obtain ⟨b,hb⟩: ∃ b,ha[k]? =some b:=⟨ha[k]'(by rw [hin.has];exact (aR.1 hx).1),fh _⟩;have A:=hin.fG k x b hx hb;refine ⟨by rw [hl];exact A.len,hh.2 k y a hy ha',fun e he=>?_⟩;rcases hm e he with q|rfl
 ·exact A.sig e q
 ·exact hd⟩
theorem KT (q:fU j=0) (h0:0≤h∧h≤(j.Race.ay.length:Int)-1): ∃ row,(gf j)[h.toNat]? =some row:=by
 have hl:h.toNat<(gf j).length:=by unfold gf iK;rw [c3];omega
 exact ⟨_,fh hl⟩
end
section
variable {E:fM} {Q:dk} {D:List Deferred} {L:List (Nat×Value)} {C C1:List ar} {c:Code}
variable {h:List ao} {bs:List RA} {i:Nat} {d d':ao} {b b':RA}
theorem Tv {C:List ar} (hd:h[i]? =some d) (hb:bs[i]? =some b) (hs:St S w0 (own b'.1 b'.2 CK 2 (d'.bp.ab.map aZ.cells)::bD (bx lP h bs)::C) w):St S w0 (bD (bx lP (h.set i d') (bs.set i b'))::C) w:=by
 have hs:=hs.perm (List.Perm.swap _ _ _);have A:=(kP (kO hd hb) hs).iI;have B:St S w0 (fH lP h bs i++(own b'.1 b'.2 CK 2 (d'.bp.ab.map aZ.cells)::C)) w:=St.take (by simpa using A) (List.sublist_append_right (lP d b) _);have D:St S w0 ((own b'.1 b'.2 CK 2 (d'.bp.ab.map aZ.cells)::fH lP h bs i)++C) w:=B.perm v5;have E:St S w0 ((lP d' b'++fH lP (h.set i d') (bs.set i b') i)++C) w:=by
  rw [rG];exact D
 exact kP (kO (r6 (aR.1 hd).1) (r6 (aR.1 hb).1)).symm E.tied
/-- i: what hangs on the row, j: the new one -/
theorem Wo (p j:Nat) (hd:h[i]? =some d) (hb:bs[i]? =some b) (hn:decide (BD C p j).Nodup=true) (hC:m_ C (BD C p j)=some (own b'.1 b'.2 CK 2 (d'.bp.ab.map aZ.cells)::bD (bx lP h bs)::C1))
 (hk:WJ E c Q D L (bD (bx lP (h.set i d') (bs.set i b'))::C1)):WJ E c Q D L C:=fun a w hf hs=>hk a w hf (Tv hd hb (St.kT _ hn (j3 hC) hs))
theorem Rh {a':cq} (i j q:Nat) (hk:k<H.length) (hk2:k<hz.length) (hn:decide (KE C i j q).Nodup=true) (hC:m_ C (KE C i j q)=some (own a'.1.1 a'.1.2 CS 7 (zipWith ao.cells h' a'.2)::bD (bx lP h' a'.2)::bD (fH kM H hz k)::C1)) (hr:WJ E c Q D L (bD (bx kM (H.set k h') (hz.set k a'))::C1)):WJ E c Q D L C:=fun act w hf hs=>hr act w hf (Eh hk hk2 (St.kT _ hn (j3 hC) hs))
end
end
section
section
variable {j x:dy} {n s:Int} {h k:Nat} {a b:List Int} {f f':bO} {ht:List ao} {d:ao}
theorem ux (e:fU j=0):(eG j).length=j.Race.ay.length:=by
 rw [ly e];exact Az
theorem Rg (e:fU j=0) (ha:(eG j)[h]? =some a): ∃ ht,j.Race.ay[h]? =some ht∧a.length≤ht.length:=by
 rw [ly e] at ha;unfold gf at ha;have hl:=(aR.1 ha).1;rw [Az] at hl;have hh:j.Race.ay[h]? =some (j.Race.ay[h]'hl):=fh _;rw [DP hh] at ha;cases ha;exact ⟨_,hh,rP⟩
end
end
section
section
variable {j:dy} {m n i:Nat} {p:c_} {s:Int}
theorem xd (e:fU j=0): ∀ l∈eG j,l.length≤1000000:=fun l hl=>by
 obtain ⟨h,hh⟩:=s3 hl;obtain ⟨ht,A,B⟩:=Rg e hh;have C:=((dF (fI e).1).2.fG ht (aF A)).1;have D:=(dF (fI e).1).2.num;omega
end
end
section
open Go.RowKit
section
variable {j:dy} {h i:Int} {d e d0:ao} {row:List Int} {r:cN} {H:List (List ao)} {x y:Nat} {ht hu:List ao} {hz:List cq}
theorem I5 (ho:fr r) (n:(0≤h∧h≤(r.ay.length:Int)-1)∧mN r i): ∃ ht,r.ay[h.toNat]? =some ht∧ ∃ d0,ht[i.toNat]? =some d0:=by
 obtain ⟨D,B⟩:=n;unfold mN at B;have A:r.ay[h.toNat]? =some (r.ay[h.toNat]'I):=fh _;have C:=(ho.fG _ (aF A)).1;exact ⟨_,A,_,fh (show i.toNat<_ by omega)⟩
theorem H9 (q:fU j=0) (n:(0≤h∧h≤(j.Race.ay.length:Int)-1)∧mN j.Race i) (hr:(eG j)[h.toNat]? =some row):(i∈row∧eK (wm j.Race h i d)=0∧oi j h i d=0)∨(i∈row∧ ¬ eK (wm j.Race h i d)=0∧oi j h i d=60)∨(¬ i∈row∧oi j h i d=8):=by
 rw [ly q] at hr;by_cases hm:i∈row
 ·by_cases hx:eK (wm j.Race h i d)=0
  ·exact .inl ⟨hm,hx,Ju q n hr hm hx⟩
  ·exact .inr (.inl ⟨hm,hx,CA q n hr hm hx⟩)
 ·exact .inr (.inr ⟨hm,JB q n hr hm⟩)
theorem Qo (q:fU j=0) (n:0≤h∧h≤(j.Race.ay.length:Int)-1): ∃ row,(eG j)[h.toNat]? =some row:=by rw [ly q];exact KT q n
end
end
section
section
variable {P:Nat→Bool} {n q:Nat} {x:Int}
/-- the pointer that goes beside tells whether it is so -/
theorem xB (hq:q<n) (h: ¬ ((jX P q).length:Int)<((jX P n).length:Int)):false=P q:=by
 cases e:P q with
 |false=>rfl
 |true=>
  have:=(aR.1 (TU e hq)).1;omega
theorem wD (hq:q<n) (hx:(jX P n)[(jX P q).length]? =some x):decide (x=(q:Int))=P q:=by
 cases e:P q with
 |false=>exact bj (Vo e hq hx)
 |true=>rw [TU e hq] at hx;cases hx;exact cT rfl
theorem vQ (h:P n=true):((jX P (n+1)).length:Int)=((jX P n).length:Int)+1:=by rw [xP h,e4];rfl
theorem oZ (h: ¬ P n=true):((jX P (n+1)).length:Int)=((jX P n).length:Int):=by rw [Ca (by simpa using h)]
end
section
variable {j:dy} {n q k:Nat} {x y:Int} {p:c_} {d:ao} {f:bO} {ht:List ao} {row:List Int} {h:Nat}
end
end
section
open Go.RowKit
def ic (t:aa):ao:=⟨false,true,t,⟨0,0,[]⟩⟩
def jJ (H:List (List ao)) (h i:Int) (t:aa):List (List ao):=H.set h.toNat ((H[h.toNat]?.getD []).set i.toNat (ic t))
def gW (r:cN) (h i:Int) (t:aa):cN:=⟨r.av,r.bf,r.dp,r.jB,jJ r.ay h i t⟩
theorem Aa {m:k9} {i:Int} {s:aa}:(e9 m i s).length≤m.length:=by
 unfold e9;refine c6 (u2 _ _) ?_;rw [c3,AA1];exact c9 _
noncomputable def sP (r:cN) (h i:Int) (t:aa):Int:=if ((0≤h∧h≤(r.ay.length:Int)-1)∧mN r i)∧iv t then (if ((r.ay[h.toNat]?).bind (·[i.toNat]?)).any (·.Out)=true then 8 else 0) else 2
noncomputable def fV (r:cN) (h i:Int) (t:aa):Int:=if eK r=0 then sP r h i t else eK r
noncomputable def lE (r:cN) (h i:Int) (t:aa):List Int:=if fV r h i t=0 then (eg ((bI r).map (·.1))).filter (fun k=> !decide (e9 (bI r) k (cd (bI r) k)=e9 (bI (gW r h i t)) k (cd (bI (gW r h i t)) k))) else []
section
variable {r:cN} {h i:Int} {t:aa} {ht:List ao} {d:ao}
theorem xq (hh:H[h.toNat]? =some ht):jJ H h i t=H.set h.toNat (ht.set i.toNat (ic t)):=by unfold jJ;rw [hh];rfl
theorem jq:(jJ H h i t).length=H.length:=by unfold jJ;rw [AAG]
theorem mQ (q: ¬ (((0≤h∧h≤(r.ay.length:Int)-1)∧0≤i∧i≤(r.bf.length:Int)-1)∧iv t)):sP r h i t=2:=c1 q
theorem I9 (q:((0≤h∧h≤(r.ay.length:Int)-1)∧0≤i∧i≤(r.bf.length:Int)-1)∧iv t) (h1:r.ay[h.toNat]? =some ht) (h2:ht[i.toNat]? =some d):sP r h i t=if d.Out=true then 8 else 0:=by
 unfold sP;rw [c0 (show ((0≤h∧h≤(r.ay.length:Int)-1)∧mN r i)∧iv t from q),h1,r7,h2,any_some]
theorem wS (q:((0≤h∧h≤(r.ay.length:Int)-1)∧0≤i∧i≤(r.bf.length:Int)-1)∧iv t) (h1:r.ay[h.toNat]? =some ht) (h2:ht[i.toNat]? =some d) (ho:d.Out=true):sP r h i t=8:=by rw [I9 q h1 h2,c0 ho]
theorem Tg (q:((0≤h∧h≤(r.ay.length:Int)-1)∧0≤i∧i≤(r.bf.length:Int)-1)∧iv t) (h1:r.ay[h.toNat]? =some ht) (h2:ht[i.toNat]? =some d) (ho:d.Out=false):sP r h i t=0:=by rw [I9 q h1 h2,c1 (by rw [ho];decide)]
/-- what it means that there is no error -/
theorem xR (e:sP r h i t=0):((0≤h∧h≤(r.ay.length:Int)-1)∧mN r i)∧iv t∧((r.ay[h.toNat]?).bind (·[i.toNat]?)).any (·.Out)=false:=by
 unfold sP at e;split at e
 ·rename_i q;split at e
  ·cases e
  ·rename_i A;exact ⟨q.1,q.2,by simpa using A⟩
 ·cases e
theorem n7 (e:fV r h i t=0):eK r=0∧sP r h i t=0:=by
 unfold fV at e;split at e
 ·exact ⟨asm,e⟩
 ·exact absurd e asm
theorem vO (e: ¬ eK r=0):fV r h i t=eK r:=c1 e
theorem qX (e:eK r=0):fV r h i t=sP r h i t:=c0 e
theorem Ay {y:List ao} (hy:(jJ H h i t)[k]? =some y): ∃ x,H[k]? =some x∧y.length=x.length∧ ∀ d∈y,d∈x∨d=ic t:=by
 unfold jJ at hy;rw [AAO] at hy;split at hy
 ·rename_i e;split at hy
  ·rename_i hl;have A:H[h.toNat]? =some H[h.toNat]:=fh hl;rw [A] at hy;simp only [ABa,k4] at hy;subst hy;refine ⟨H[h.toNat],by rw [← e];exact A,by rw [AAG],fun d hd=>?_⟩;exact ABB hd
  ·cases hy
 ·exact ⟨y,hy,U,fun d hd=> .inl hd⟩
theorem HD (hr:fr r) (ht:iv t):fr (gW r h i t):=⟨hr.num,hr.Bx,by
 have:=hr.nh;show 1≤((jJ r.ay h i t).length:Int)∧((jJ r.ay h i t).length:Int)≤3
 rw [jq];exact this,hr.ids,hr.draw,fun y hy=>by
 obtain ⟨k,hk⟩:=r5.1 hy;obtain ⟨x,hx,hl,hm⟩:=Ay hk;have A:=hr.fG x (aF hx);refine ⟨hl.trans A.1,fun d hd=>?_⟩;rcases hm d hd with q|rfl
 ·exact A.2 d q
 ·unfold jt;rw [c1 (by simp [ic]),c0 (by rfl)];exact ⟨ht,by simp [oh,ic]⟩⟩
theorem xx (e:fV r h i t=0):eK (gW r h i t)=0:=by
 obtain ⟨A,B⟩:=n7 e;obtain ⟨C,D⟩:=dF A;unfold eK;rw [c0 (show dU (gW r h i t).av=0 from C),c0 (HD D (xR B).2.1)]
theorem gI.rep (hin:gI r az ha) (hb:bz.length=r.av.aD.length) (hc:p7 r.av.aD bz) (hh:tn (jJ r.ay h i t) hz):gI (gW r h i t) bz hz:=⟨hin.line.Zd hb hc,hin.hO,hin.draw,by
 show (jJ r.ay h i t).length≤1000000
 rw [jq];exact hin.hE,hh.1,fun k y a hy ha'=>by
 obtain ⟨x,hx,hl,hm⟩:=Ay hy;obtain ⟨b,hb⟩: ∃ b,ha[k]? =some b:=⟨ha[k]'(by rw [hin.has];exact (aR.1 hx).1),fh _⟩;have A:=hin.fG k x b hx hb;refine ⟨by rw [hl];exact A.len,hh.2 k y a hy ha',fun d hd=>?_⟩;rcases hm d hd with q|rfl
 ·exact A.sig d q
 ·simp [ic]⟩
theorem Fa {q:Nat}:((jJ H h i t)[k]?).bind (·[q]?)=(H[k]?).bind (·[q]?)∨(k=h.toNat∧q=i.toNat∧(∃ d,(H[k]?).bind (·[q]?)=some d)∧((jJ H h i t)[k]?).bind (·[q]?)=some (ic t)):=by
 by_cases e:h.toNat=k
 ·cases hk:H[k]? with
  |none=>
   left;have:(jJ H h i t)[k]? =none:=by rw [ABV,jq];exact ABV.1 hk
   rw [this]
  |some x=>
   have B:(jJ H h i t)[k]? =some (x.set i.toNat (ic t)):=by
    subst e;rw [xq hk];exact r6 (aR.1 hk).1
   rw [B,r7,r7];by_cases A:i.toNat=q
   ·cases hq:x[q]? with
    |none=>
     left;rw [ABV,AAG];exact ABV.1 hq
    |some d=>
     right;subst A;exact ⟨e.symm,U,⟨d,U⟩,r6 (aR.1 hq).1⟩
   ·left;rw [ABx A]
 ·left;unfold jJ;rw [ABx e]
theorem Co {l:a_} {H:List (List ao)} {q:Nat} (ho:((H[h.toNat]?).bind (·[i.toNat]?)).any (·.Out)=false): ∀ n,(gL l (jJ H h i t) q n).isSome=(gL l H q n).isSome
 |0=>rfl
 |n+1=>by
  have ih:=Co (l:=l) (q:=q) ho n;unfold gL;rcases Fa (H:=H) (h:=h) (i:=i) (t:=t) (k:=n) (q:=q) with e|⟨rfl,rfl,⟨d,hd⟩,e⟩
  ·rw [e];cases e1:gL l (jJ H h i t) q n<;>cases e2:gL l H q n<;>simp_all;cases (H[n]?).bind (·[q]?) with
   |none=>rfl
   |some d=>by_cases c:d.Out=true<;>simp [c]
  ·rw [e,hd];have A:d.Out=false:=by rw [hd] at ho;simpa using ho
   cases e1:gL l (jJ H h i t) i.toNat h.toNat<;>cases e2:gL l H i.toNat h.toNat<;>simp_all [ic]
theorem wu {l:a_} {H:List (List ao)} {q:Nat} (hq:q≠i.toNat): ∀ n,gL l (jJ H h i t) q n=gL l H q n
 |0=>rfl
 |n+1=>by
  have ih:=wu (l:=l) (H:=H) hq n;unfold gL;rcases Fa (H:=H) (h:=h) (i:=i) (t:=t) (k:=n) (q:=q) with e|⟨_,e,_⟩
  ·rw [e,ih]
  ·exact absurd e hq
theorem JD {r:cN}:(qb r k).lookup x=if 0≤x∧x<(r.bf.length:Int) then gL r.av r.ay x.toNat k else none:=by
 by_cases c:0≤x∧x<(r.bf.length:Int)
 ·rw [c0 c];have:=uj (f:=fun q=>gL r.av r.ay q k) r.bf.length x.toNat;rw [c0 I,show (x.toNat:Int)=x by omega] at this;exact this
 ·rw [c1 c];cases e:(qb r k).lookup x with
  |none=>rfl
  |some v=>
   exfalso;obtain ⟨q,hq,A,_⟩:=xL ((rZ pJ).2 e);simp only at A;omega
theorem Gi (e:sP r h i t=0) (k:Int):((bI (gW r h i t)).lookup k).isSome=((bI r).lookup k).isSome:=by
 obtain ⟨_,_,ho⟩:=xR e;unfold bI;rw [JD,JD];show (if 0≤k∧k<(r.bf.length:Int) then gL r.av (jJ r.ay h i t) k.toNat (jJ r.ay h i t).length else none).isSome=_
 rw [jq];split
 ·exact Co ho _
 ·rfl
theorem EJ {m:k9} {k:Int} (h:k∈eg (m.map (·.1))):m.lookup k≠none:=by
 obtain ⟨p,hp,rfl⟩:=cu.1 (f_.mem_iff.1 h);intro e;exact absurd (List.lookup_eq_none_iff.1 e p hp) sm
theorem Wn {hza:cq} (hh:tn r.ay hz) (h1:r.ay[h.toNat]? =some ht) (h2:hz[h.toNat]? =some hza):tn (jJ r.ay h i t) (hz.set h.toNat (hza.1,hza.2.set i.toNat (none,0))):=by
 refine ⟨by rw [AAG,jq];exact hh.1,fun k y a hy ha=>?_⟩;rw [xq h1] at hy;rw [AAO] at hy ha;by_cases e:h.toNat=k
 ·rw [c0 e,c0 (aR.1 h1).1] at hy;rw [c0 e,c0 (aR.1 h2).1] at ha;cases hy;cases ha;simp only [AAG];exact hh.2 _ _ _ h1 h2
 ·rw [c1 e] at hy ha;exact hh.2 k y a hy ha
theorem zt (e: ¬ fV r h i t=0):lE r h i t=[]:=c1 e
theorem Bj (e:fV r h i t=0):lE r h i t=(eg ((bI r).map (·.1))).filter (fun k=> !decide (e9 (bI r) k (cd (bI r) k)=e9 (bI (gW r h i t)) k (cd (bI (gW r h i t)) k))):=c0 e
end
section
variable {E:fM} {Q:dk} {D:List Deferred} {L:List (Nat×Value)} {C C1:List ar} {c:Code}
variable {H:List (List ao)} {hz:List cq} {h h':List ao} {a a':cq} {k:Nat} {bs:List RA} {i:Nat} {d d':ao} {b:RA}
theorem WH (j:Nat) (hd:h[i]? =some d) (hb:bs[i]? =some b) (hs':d'.bp.ab=[]) (hn:decide (KD C j).Nodup=true) (hC:m_ C (KD C j)=some (bD (bx lP h bs)::C1))
 (hk:WJ E c Q D L (bD (bx lP (h.set i d') (bs.set i (none,0)))::C1)):WJ E c Q D L C:=fun act w hf hs=>hk act w hf (S5 hd hb hs' (St.kT _ hn (j3 hC) hs))
theorem RC (i j q:Nat) (hk:k<H.length) (hk2:k<hz.length) (hn:decide (KE C i j q).Nodup=true) (hC:m_ C (KE C i j q)=some (own a'.1.1 a'.1.2 CS 7 (zipWith ao.cells h' a'.2)::bD (bx lP h' a'.2)::bD (fH kM H hz k)::C1))
 (hr:WJ E c Q D L (bD (bx kM (H.set k h') (hz.set k a'))::C1)):WJ E c Q D L C:=fun act w hf hs=>hr act w hf (Eh hk hk2 (St.kT _ hn (j3 hC) hs))
end
end
section
section
variable {r:cN} {h i k:Int} {t s u:aa} {d:ao} {q n:Nat}
theorem LG (e:fV r h i t=0) (hk:k≠i):(bI (gW r h i t)).lookup k=(bI r).lookup k:=by
 obtain ⟨he,A⟩:=n7 e;have hb:=(xR A).1.2;unfold mN at hb;unfold bI;rw [JD,JD,show (gW r h i t).ay.length=r.ay.length from jq];show (if 0≤k∧k<(r.bf.length:Int) then gL r.av (jJ r.ay h i t) k.toNat r.ay.length else none)=_
 split
 ·exact wu I _
 ·rfl
end
end
section
open Go.RowKit
def tM (b:Bool):List Value:=[.bool b]
@[simp] theorem DH (b:Bool):(tM b).length=1:=rfl
theorem Mx (l:List Bool): ∀ v∈(l.map tM).flatten,v.oneCell'=true:=oa (fun s=>rfl) l
abbrev Uw (A C X):=own A C 4 1 (List.map tM X)
end
section
def nz (r:cN) (i:Nat):Prop:= ∀ (j:Nat) x,j<i→r.ay[j]? =some x→ ¬ qY x
def o1 (x:List ao) (i:Nat):Prop:= ∀ (j:Nat) d,j<i→x[j]? =some d→ ¬ 15<(d.bp.ab.length:Int)
section
variable {r:cN} {i:Nat} {x:List ao} {d:ao}
theorem Fb:nz r 0:=fun j x hj=>absurd hj (s4 _)
theorem Gf (h:nz r i) (hx:r.ay[i]? =some x) (ho: ¬ qY x):nz r (i+1):=fun j y hj hy=>by
 rcases r4 j i with q|q
 ·exact h j y q hy
 ·obtain rfl:j=i:=by omega
  rw [hx] at hy;cases hy;exact ho
theorem F_:o1 x 0:=fun j x hj=>absurd hj (s4 _)
theorem EN (h:o1 x i) (hx:x[i]? =some d) (ho: ¬ 15<(d.bp.ab.length:Int)):o1 x (i+1):=fun j y hj hy=>by
 rcases r4 j i with q|q
 ·exact h j y q hy
 ·obtain rfl:j=i:=by omega
  rw [hx] at hy;cases hy;exact ho
theorem GU (hl: ¬ 8<(x.length:Int)) (h:o1 x i) (hi:x.length≤i): ¬ qY x:=by
 rintro (q|⟨d,hd,q⟩)
 ·exact hl q
 ·obtain ⟨j,hj⟩:=s3 hd;exact h j d (by have:=(aR.1 hj).1;omega) hj q
theorem Kj (h1: ¬ nH r.av) (h2: ¬ 8<(r.bf.length:Int)∧ ¬ 8<(r.dp.length:Int)∧ ¬ 5<(r.ay.length:Int)) (h:nz r i) (hi:r.ay.length≤i): ¬ lZ r:=by
 rintro ((q|q)|⟨x,hx,q⟩)
 ·exact h1 q
 ·omega
 ·obtain ⟨j,hj⟩:=s3 hx;exact h j x (by have:=(aR.1 hj).1;omega) hj q
theorem su (h:nH r.av∨8<(r.bf.length:Int)∨8<(r.dp.length:Int)∨5<(r.ay.length:Int)):lZ r:= .inl h
theorem FO (hx:r.ay[i]? =some x) (h:8<(x.length:Int)):lZ r:= .inr ⟨x,aF hx,.inl h⟩
theorem GR {j:Nat} (hx:r.ay[i]? =some x) (hd:x[j]? =some d) (h:15<(d.bp.ab.length:Int)):lZ r:= .inr ⟨x,aF hx,.inr ⟨d,aF hd,h⟩⟩
end
noncomputable def rm (l:a_) (d:ao):aa:=if d.Out=true then gO else fZ l d
theorem OQ {l:a_} (h:jt l d):rm l d=fZ l d:=by
 unfold rm;split
 ·rename_i q;rw [JY q];rw [s_ q] at h;exact h.2.1.symm
 ·rfl
theorem Dg {l:a_} (h:d.Out=true):rm l d=gO:=c0 h
theorem I3 {l:a_} (h:d.Out=false∧d.cV=true):rm l d=d.Time:=by unfold rm;rw [c1 (by rw [h.1];decide),Dt h]
theorem IG {l:a_} (h:d.Out=false∧d.cV=false):rm l d=Gg l d.bp:=by unfold rm;rw [c1 (by rw [h.1];decide),JM h]
def Xe (r:cN) (j:Nat):Prop:= ∀ x,r.bf[j]? =some x→(0≤x∧x≤9999)∧ ∀ y,0<j→r.bf[j-1]? =some y→y<x
def NN (r:cN) (j:Nat):Prop:= ∀ x,r.dp[j]? =some x→(0≤x∧x≤(r.bf.length:Int)-1)∧ ∀ (k:Nat) y,k<j→r.dp[k]? =some y→y≠x
def zI (r:cN) (i:Nat):Prop:= ∀ j,j<i→Xe r j∧NN r j
section
variable {r:cN} {i k:Nat} {x:Int}
theorem NF:zI r 0:=fun j hj=>absurd hj (s4 _)
theorem FH (h:zI r i) (h1:Xe r i) (h2:NN r i):zI r (i+1):=fun j hj=>by
 rcases r4 j i with q|q
 ·exact h j q
 ·obtain rfl:j=i:=by omega
  exact ⟨h1,h2⟩
theorem zy {v:Int} (h:∀ (q:Nat) y,q<k→l[q]? =some y→y≠v) (hx:l[k]? =some u) (hne:¬ u=v): ∀ (q:Nat) y,q<k+1→l[q]? =some y→y≠v:=fun q y hq hy=>by
 rcases r4 q k with c|c
 ·exact h q y c hy
 ·obtain rfl:q=k:=by omega
  rw [hx] at hy;cases hy;exact hne
theorem Pt (hl:r.dp.length=r.bf.length) (h:zI r r.bf.length):r.dp.Perm (J_ r.bf.length):=by
 have nd:r.dp.Nodup:=by
  rw [s5,eY];intro a b ha hb A;exact ((h b I).2 _ (fh hb)).2 a _ A (fh ha)
 have hm: ∀ x∈r.dp,x∈J_ r.bf.length:=fun x hx=>by
  obtain ⟨j,hj⟩:=s3 hx;have:=((h j (by have:=(aR.1 hj).1;omega)).2 x hj).1;exact cu.2 ⟨x.toNat,AAd.2 I,I⟩
 have ndu:(J_ r.bf.length).Nodup:=by
  unfold J_;rw [s5,AAK];exact AAt.imp fun h=>by omega
 have e:eg r.dp=(J_ r.bf.length).filter fun x=>decide (x∈r.dp):=by
  refine qJ lL ((Bs _).filter _) (f_.nodup_iff.2 nd) (ndu.filter _) fun x=>?_;rw [f_.mem_iff,n3,r0];exact ⟨fun q=>⟨hm x q,q⟩,fun q=>q.2⟩
 have B:=c7 length e;rw [iD,hl] at B;have C:(J_ r.bf.length).filter (fun x=>decide (x∈r.dp))=J_ r.bf.length:=AA3.eq_of_length (by rw [← B];simp);rw [C] at e;rw [← e];exact f_.symm
theorem K6 {n:Nat} (h1:1≤(r.bf.length:Int)∧(r.bf.length:Int)≤5) (h2:r.dp.length=r.bf.length) (h3:0≤r.jB∧r.jB≤5) (h4:1≤(r.ay.length:Int)∧(r.ay.length:Int)≤3)
 (hn:n=r.bf.length) (h6:zI r n) (h7:lM r i) (hi:r.ay.length≤i):fr r:=by
 subst hn;refine ⟨h1,h3,h4,fun k x hx=>(h6 k (aR.1 hx).1).1 x hx,Pt h2 h6,fun h hh=>?_⟩;obtain ⟨j,hj⟩:=s3 hh;exact h7 j h (by have:=(aR.1 hj).1;omega) hj
theorem fr.PR (h:fr r) (hx:r.dp[i]? =some x):0≤x∧x≤(r.bf.length:Int)-1:=by
 obtain ⟨k,hk,rfl⟩:=cu.1 (h.draw.mem_iff.1 (aF hx));have:=AAd.1 hk;omega
theorem fr.VT (h:fr r):r.dp.Nodup:=by
 refine h.draw.nodup_iff.2 ?_;rw [s5,AAK];exact AAt.imp fun h=>by omega
theorem fr.VV (h:fr r) {v:Int} (hki:k<i) (hu:r.dp[k]? =some u) (hv:r.dp[i]? =some v): ¬ u=v:=by
 have A:=h.VT;rw [s5,eY] at A;obtain ⟨a,ea⟩:=aR.1 hu;obtain ⟨b,eb⟩:=aR.1 hv;subst ea eb;exact A k i a b hki
end
section
variable {r:cN} {i k n:Nat} {s:aa} {l:a_} {hs:List (List ao)}
end
section
variable {r:cN} {i x:Int} {own s:aa} {k:Nat} {ys zs:List Int}
end
section
variable {B:List Bool} {P Q:Int→Prop} {k x:Nat} {m:k9} {i y a b:Int} {ys:List Int}
end
theorem sb {i:Int}:(ks r i).length≤r.bf.length:=by
 unfold ks;split
 ·unfold e9;refine c6 (u2 _ _) ?_;rw [c3,AA1];exact BY
 ·simp
end
section
open Go.RowKit
noncomputable def oc (r:cN) (h i:Int) (t:aa) (q:Nat):Bool:=((bI r).lookup (q:Int)).isSome&& !decide (e9 (bI r) (q:Int) (cd (bI r) (q:Int))=e9 (bI (gW r h i t)) (q:Int) (cd (bI (gW r h i t)) (q:Int)))
noncomputable def R_ (r:cN) (h i:Int) (t:aa) (k:Nat):List Int:=((range k).filter (oc r h i t)).map fun (q:Nat)=>(q:Int)
section
variable {r:cN} {h i:Int} {t:aa} {k:Nat}
theorem P2:(R_ r h i t k).length≤k:=by unfold R_;rw [c3];exact c6 (u2 _ _) (by rw [AA1];exact c9 _)
theorem Hh:eg ((bI r).map (·.1))=((range r.bf.length).filter fun (q:Nat)=>((bI r).lookup (q:Int)).isSome).map fun (q:Nat)=>(q:Int):=by
 refine qJ lL ?_ (f_.nodup_iff.2 pJ) ?_ fun x=>?_
 ·rw [AAK];exact ((AAt (n:=r.bf.length)).filter _).imp fun h=>by omega
 ·refine List.Pairwise.map _ ?_ (ACO _ (ACe (n:=r.bf.length)));intro a b h e;exact h I
 ·rw [f_.mem_iff];constructor
  ·intro hx;obtain ⟨v,hv,rfl⟩:=cu.1 hx;obtain ⟨q,hq,e,_⟩:=xL hv;refine cu.2 ⟨q,n3.2 ⟨AAd.2 hq,?_⟩,e.symm⟩;show ((bI r).lookup (q:Int)).isSome=true
   rw [← e];exact ABZ.2 ⟨v.2,(rZ pJ).1 hv⟩
  ·intro hx;obtain ⟨q,hq,rfl⟩:=cu.1 hx;obtain ⟨v,hv⟩:=ABZ.1 (n3.1 hq).2;exact cu.2 ⟨_,(rZ pJ).2 hv,U⟩
theorem Oo (e:fV r h i t=0):R_ r h i t r.bf.length=lE r h i t:=by
 rw [Bj e,Hh];unfold R_;rw [List.filter_map,ABn];congr 1;refine ABT fun q _=>?_;unfold oc;simp only [Function.comp];exact Bool.and_comm _ _
end
theorem KF {h i:Int} {t:aa} (hg:¬ lZ r): ¬ lZ (gW r h i t):=by
 have A:=zo hg;rintro ((q|q|q|q)|⟨x,hx,q⟩)
 ·exact A.1 q
 ·have:=A.2.1;have e:(gW r h i t).bf=r.bf:=rfl;rw [e] at q;omega
 ·have:=A.2.2.1;have e:(gW r h i t).dp=r.dp:=rfl;rw [e] at q;omega
 ·have:=A.2.2.2.1;have e:(gW r h i t).ay.length=r.ay.length:=jq;rw [e] at q;omega
 ·obtain ⟨k,hk⟩:=r5.1 hx;obtain ⟨y,hy,hl,hm⟩:=Ay hk;have B:=A.2.2.2.2 y (aF hy);rcases q with q|⟨d,hd,q⟩
  ·rw [hl] at q;omega
  ·rcases hm d hd with c|rfl
   ·have:=B.2 d c;omega
   ·simp [ic] at q
end
section
section
variable {r:cN} {h i k:Int} {t s s':aa} {q n:Nat}
theorem Fz (he:eK r=0) (hir:(0≤h∧h≤(r.ay.length:Int)-1)∧mN r i) (hf:iv t): ∃ ht,r.ay[h.toNat]? =some ht∧ ∃ d,ht[i.toNat]? =some d∧(d.Out=true→fV r h i t=8)∧(d.Out=false→fV r h i t=0):=by
 have B:=(dF he).2;have hi:=hir.2;unfold mN at hi;obtain ⟨ht,A⟩: ∃ y,r.ay[h.toNat]? =some y:=⟨r.ay[h.toNat]'I,fh _⟩;have hl:=(B.fG ht (aF A)).1;obtain ⟨d,hd⟩: ∃ y,ht[i.toNat]? =some y:=⟨ht[i.toNat]'I,fh _⟩;refine ⟨ht,A,d,hd,fun q=>?_,fun q=>?_⟩
 ·unfold fV;rw [c0 he];unfold sP;rw [c0 ⟨hir,hf⟩,A];simp [hd,q]
 ·unfold fV;rw [c0 he];unfold sP;rw [c0 ⟨hir,hf⟩,A];simp [hd,q]
end
end
section
open Go.RowKit
section
variable {j:dy} {r:cN} {h i k:Int} {t:aa} {row:List Int} {ht:List ao} {q:Nat} {x:Int}
theorem JU (hh:r.ay[h.toNat]? =some ht):wm r h i (ic t)=gW r h i t:=by unfold wm gW;rw [uB hh,xq hh]
theorem BN {n:Nat} (e:fU j=0) (hh:j.Race.ay[n]? =some ht) (hr:(eG j)[n]? =some row) (hm:i∈row): ∃ d,ht[i.toNat]? =some d∧d.Out=false:=by
 rw [ly e] at hr;have B:=m3 (hr.symm.trans (DP hh));subst B;unfold KU jX at hm;obtain ⟨s,hs,rfl⟩:=cu.1 hm;have hb:=(n3.1 hs).2;cases hd:ht[s]? with
 |none=>rw [hd] at hb;cases hb
 |some d=>
  rw [hd] at hb;obtain ⟨f,_,_,A⟩:= @s6 _ (Classical.propDecidable _) hb;refine ⟨d,hd,?_⟩;unfold ky at A;split at A
  ·rename_i q;exact q.1
  ·exact absurd U A
theorem RN (hh:r.ay[h.toNat]? =some ht) (hi:i.toNat<ht.length) (hn: ¬ iv t): ¬ eK (wm r h i (ic t))=0:=fun e=>by
 have ho:=(dF e).2;have hm:ht.set i.toNat (ic t)∈(wm r h i (ic t)).ay:=by
  show _∈pQ r.ay h i (ic t)
  rw [uB hh];exact aF (r6 (aR.1 hh).1)
 have A:=(ho.fG _ hm).2 (ic t) (aF (r6 hi));rw [tU ⟨rfl,rfl⟩] at A;exact hn A.1
theorem Ih (e:fU j=0) (n:(0≤h∧h≤(j.Race.ay.length:Int)-1)∧mN j.Race i) (hr:(eG j)[h.toNat]? =some row):
 (i∈row∧iv t∧oi j h i (ic t)=0∧fV j.Race h i t=0)∨(i∈row∧ ¬ iv t∧oi j h i (ic t)=60∧fV j.Race h i t=2)∨(¬ i∈row∧oi j h i (ic t)=8):=by
 have he:=(fI e).1;obtain ⟨ht,hh,G,hd⟩:=I5 (dF he).2 n;have hi:=(aR.1 hd).1;rcases H9 (d:=ic t) e n hr with ⟨hm,hx,hp⟩|⟨hm,hx,hp⟩|⟨hm,hp⟩
 ·by_cases ht':iv t
  ·obtain ⟨d,C,ho⟩:=BN e hh hr hm;obtain ⟨E,B,F,A,_,D⟩:=Fz he n ht';rw [hh] at B;cases B;rw [C] at A;cases A;exact .inl ⟨hm,ht',hp,D ho⟩
  ·exact absurd hx (RN hh hi ht')
 ·by_cases ht':iv t
  ·obtain ⟨d,C,ho⟩:=BN e hh hr hm;obtain ⟨E,B,F,A,_,D⟩:=Fz he n ht';rw [hh] at B;cases B;rw [C] at A;cases A;rw [JU hh] at hx;exact absurd (xx (D ho)) hx
  ·refine .inr (.inl ⟨hm,ht',hp,?_⟩);unfold fV;rw [c0 he];exact mQ fun q=>ht' q.2
 ·exact .inr (.inr ⟨hm,hp⟩)
theorem nD {l:List α} {p:α→Bool} {v:Nat} {y:α} (h:l[v]? =some y):(l.take (v+1)).any p=((l.take v).any p||p y):=by
 rw [l1,h];simp
theorem wx (e:fV r h i t=0):oF (gW r h i t) k=oF r k:=by
 have he:=(n7 e).1;have A:=xx e;unfold oF;rw [c0 he,c0 A];have hk:(bI (gW r h i t)).lookup k=none↔(bI r).lookup k=none:=by
  have:=Gi (n7 e).2 k;cases a:(bI (gW r h i t)).lookup k<;>cases b:(bI r).lookup k<;>simp [a,b] at this ⊢
 by_cases hi:mN r k
 ·rw [c0 hi,c0 (show mN (gW r h i t) k from hi)];by_cases c:(bI r).lookup k=none
  ·rw [c0 c,c0 (hk.2 c)]
  ·rw [c1 c,c1 (fun q=>c (hk.1 q))]
 ·rw [c1 hi,c1 (show ¬ mN (gW r h i t) k from hi)]
theorem Jm (e:fV r h i t=0) (hq:q<r.bf.length):oc r h i t q= !decide (ks r (q:Int)=ks (gW r h i t) (q:Int)):=by
 have he:=(n7 e).1;have hi:mN r (q:Int):=by unfold mN;omega
 unfold ks;rw [wx e];unfold oc;cases hl:(bI r).lookup (q:Int) with
 |none=>
  have: ¬ oF r (q:Int)=0:=by unfold oF;rw [c0 he,c0 hi,c0 hl];decide
  rw [c1 this,c1 this];simp
 |some s=>
  have:oF r (q:Int)=0:=by unfold oF;rw [c0 he,c0 hi,hl];simp
  rw [c0 this,c0 this];rfl
theorem Fy (e:fV r h i t=0) (hk:k≠i):yX (gW r h i t) k=yX r k:=by
 unfold yX;rw [wx e];unfold cd;rw [LG e hk]
theorem N9 (e:fV r h i t=0):lE r h i t=jX (oc r h i t) r.bf.length:=(Oo e).symm
end
end
section
open Go.RowKit
/-- a row is taken that was made before; an operation -/
inductive gJ where
 |take (i:Nat)
 |op (j:Nat)
def gJ.ix:gJ→Nat
 | .take i=>i
 | .op j=>j
def Ex (dO:Nat→Nat):List gJ→List Nat
 |[]=>[]
 | .take i::s=>dO i::Ex dO s
 | .op _::s=>Ex dO s
theorem w8 {dO:Nat→Nat} {i:Nat}: ∀ {s:List gJ},gJ.take i∈s→dO i∈Ex dO s
 | .take k::s,h=>by
  rcases bH.1 h with e|h
  ·cases e;exact bZ ..
  ·exact dg _ (w8 h)
 | .op k::s,h=>by
  rcases bH.1 h with e|h
  ·cases e
  ·exact w8 (s:=s) h
def rB (m:Array Nat) (dO:Nat→Nat) (x y:gJ):Bool:=x.ix != y.ix&&(match y with | .op j=>jC m x.ix j| .take i=>match x with | .take k=>dO k != dO i| .op _=>true)
def ZT (m:Array Nat) (dO:Nat→Nat):List gJ→Bool
 |[]=>true
 |x::s=>s.all (rB m dO x)&&ZT m dO s
theorem Jx {m:Array Nat} {dO:Nat→Nat}: ∀ {s:List gJ},ZT m dO s=true→s.Pairwise fun x y=>rB m dO x y=true
 |[],_=>List.Pairwise.nil
 |x::s,h=>by
  simp only [ZT,dh] at h;exact List.Pairwise.cons (fun y hy=>db.1 h.1 y hy) (Jx h.2)
/-- what is known of the slots B is known in L -/
def EV (B L:dH):Prop:= ∀ t v,B.lookup t=some v→L.lookup t=some v
theorem DN (h:B.map (fun p=>L.lookup p.1)=B.map (fun p=>some p.2)):EV B L:=by
 induction B with
 |nil=>intro t v h;simp at h
 |cons p B ih=>
  obtain ⟨k,u⟩:=p;simp only [m2,ABo] at h;intro t v hl;by_cases e:t=k
  ·subst e;simp only [lookup,ABI,k4] at hl;rw [h.1,hl]
  ·have:(t==k)=false:=by simpa using e
   simp only [lookup,this] at hl;exact ih h.2 t v hl
theorem pM {Y:dH} {t:Nat}:(L++Y).lookup t=match L.lookup t with |some v=>some v|none=>Y.lookup t:=by
 induction L with
 |nil=>rfl
 |cons p L ih=>
  obtain ⟨k,u⟩:=p;by_cases e:t==k
  ·simp [lookup,e]
  ·have:(t==k)=false:=by simpa using e
   simp only [AAX,lookup,this,ih]
theorem EV.app {Y:dH} (h:EV B L):EV B (L++Y):=fun t v ht=>by rw [pM,h t v ht]
theorem Wr (h:EV B L) {x:Operand} (hv:ev B x=some v):ev L x=some v:=by
 cases x<;>simp only [ev] at hv ⊢ <;>first|exact h _ _ hv|exact hv
theorem Ix {B L:dH} (h:EV B L): ∀ {xs:List Operand} {vs:List Value},evs B xs=some vs→evs L xs=some vs
 |[],vs,hv=>hv
 |x::xs,vs,hv=>by
  simp only [evs] at hv ⊢;cases e1:ev B x with
  |none=>rw [e1] at hv;simp at hv
  |some v=>
   cases e2:evs B xs with
   |none=>rw [e1,e2] at hv;simp at hv
   |some us=>
    rw [e1,e2] at hv;rw [Wr h e1,Ix h e2];exact hv
section
variable (E:fM) (ops:Array Oper) (D:List Deferred) (C':List ar) (K0:Act→World→Prop) (B:List (Nat×Value)) (dO:Nat→Nat) (VO:Nat→Nat→Value) (AO:Nat→Nat→ar)
def CH:List gJ→dH→List ar→Prop
 |[],L,C=>KJ E K0 D L C
 | .take i::s,L,C=> ∀ b,CH s ((dO i,VO i b)::L) (AO i b::C)
 | .op j::s,L,C=> ∀ o,ops[j]? =some o→ ∀ (Y:dH) (X:List ar) (K:Act→World→Prop),(∀ L' C'',(∀ w,St E.S E.w0 C'' w→St E.S E.w0 C' w)→((Ex dO s).all fun d=>(L'.lookup d).isNone)=true→B.map (fun p=>L'.lookup p.1)=B.map (fun p=>some p.2)→CH s L' C''→KJ E K D (L'++Y) (C''++X))→RJ E ops (NQ K) [o] D (L++Y) (C++X)
/-- a row that is made at any time -/
def WS (i:Nat):Prop:= ∀ o,ops[i]? =some o→ ∀ (L:dH) (C:List ar) (K:Act→World→Prop),EV B L→(∀ w,St E.S E.w0 C w→St E.S E.w0 C' w)→(∀ b,KJ E K D ((dO i,VO i b)::L) (AO i b::C))→RJ E ops (NQ K) [o] D L C
end
section
variable {E:fM} {ops:Array Oper} {D:List Deferred} {C' C1:List ar} {K0:Act→World→Prop} {B:List (Nat×Value)} {dO:Nat→Nat} {VO:Nat→Nat→Value} {AO:Nat→Nat→ar}
theorem SV (hL:∀ a,Fr E.n D L a→Fr E.n D L2 a) (hC:∀ w,St E.S E.w0 C w→St E.S E.w0 C2 w) (h:RJ E ops Q rest D L2 C2):RJ E ops Q rest D L C:=fun a w hf hs=>h a w (hL a hf) (hC w hs)
theorem JE (hL:∀ a,Fr E.n D L a→Fr E.n D L2 a) (hC:∀ w,St E.S E.w0 C w→St E.S E.w0 C2 w) (h:KJ E K D L2 C2):KJ E K D L C:=fun a w hf hs=>h a w (hL a hf) (hC w hs)
theorem Js {n:Nat} (h:∀ t v,L2.lookup t=some v→L.lookup t=some v) (a:Act) (hf:Fr n D L a):Fr n D L2 a:=⟨hf.defers,hf.size,fun t v ht=>hf.at_ t v (h t v ht)⟩
theorem H5: ∀ (T0 s':List gJ) (dn:List (Nat×Nat)) (L Y:dH) (C:List ar),(∀ x∈T0,∃ i b,x= .take i∧(i,b)∈dn)→(T0++s').Pairwise (fun x y=>rB (sN ops) dO x y=true)→(dn.map (·.1)).Nodup→(∀ p∈dn,gJ.take p.1∈T0++s')→(∀ p∈dn,Y.lookup (dO p.1)=some (VO p.1 p.2))→(∀ i,gJ.take i∈T0++s'→L.lookup (dO i)=none)→
 CH E ops D C' K0 B dO VO AO (T0++s') L C→ ∃ (dn':List (Nat×Nat)) (L':dH) (C2:List ar),CH E ops D C' K0 B dO VO AO s' L' C2∧(dn'.map (·.1)).Nodup∧(∀ p,p∈dn'↔p∈dn∧gJ.take p.1∈s')∧(∀ t v,(L'++Y).lookup t=some v→(L++Y).lookup t=some v)∧(∀ i,gJ.take i∈s'→L'.lookup (dO i)=none)∧(∀ w,St E.S E.w0 (C++dn.map fun p=>AO p.1 p.2) w→St E.S E.w0 (C2++dn'.map fun p=>AO p.1 p.2) w)
 |[],s',dn,L,Y,C,_,_,hn,hm,_,hl,h=>⟨dn,L,C,h,hn,fun p=>⟨fun q=>⟨q,hm p q⟩,fun q=>q.1⟩,fun t v q=>q,hl,fun w q=>q⟩
 |x::T0,s',dn,L,Y,C,ht,hp,hn,hm,hy,hl,h=>by
  obtain ⟨i,b,rfl,hb⟩:=ht x (bZ ..);obtain ⟨J,P⟩:=AAT.1 hp;have AB: ∀ y∈T0++s',i≠y.ix:=fun y hy e=>by
   have:=J y hy;simp only [rB,dh,AAM,gJ.ix] at this;exact this.1 e
  have N: ∀ k,gJ.take k∈T0++s'→dO k≠dO i:=fun k hk e=>by
   have:=J _ hk;simp only [rB,dh,AAM] at this;exact this.2 e.symm
  have K:dn.Perm ((i,b)::dn.erase (i,b)):=List.perm_cons_erase hb;have H:((dn.erase (i,b)).map (·.1)).Nodup∧i ∉ (dn.erase (i,b)).map (·.1):=by
   have:=(K.map (·.1)).nodup_iff.1 hn;exact ⟨(AA2.1 this).2,(AA2.1 this).1⟩
  have A: ∀ p∈dn.erase (i,b),p∈dn∧p.1≠i:=fun p hp=>⟨List.mem_of_mem_erase hp,fun e=>by have q:=AAE (f:=fun p:Nat×Nat=>p.1) hp;simp only [e] at q;exact H.2 q⟩;have O:L.lookup (dO i)=none:=hl i (bZ ..);obtain ⟨dn',L',C2,R,T,AA,V,W,X⟩:=H5 T0 s' (dn.erase (i,b)) ((dO i,VO i b)::L) Y (AO i b::C) (fun x hx=>by
   obtain ⟨k,c,rfl,hk⟩:=ht x (dg _ hx);refine ⟨k,c,U,?_⟩;have F:k≠i:=fun e=>AB _ (m1 _ hx) e.symm;exact (List.mem_erase_of_ne (fun e=>F (c7 Prod.fst e))).2 hk) P H.1 (fun p hp=>by
   obtain ⟨M,G⟩:=A p hp;rcases bH.1 (hm p M) with e|e
   ·injection e with e;exact absurd e G
   ·exact e) (fun p hp=>hy p (A p hp).1) (fun k hk=>by
   have:(dO k==dO i)=false:=by simpa using N k hk
   simp only [lookup,this];exact hl k (dg _ hk)) (h b)
  refine ⟨dn',L',C2,R,T,fun p=>?_,fun t v hv=>?_,W,fun w hw=>X w ?_⟩
  ·rw [AA];constructor
   ·rintro ⟨M,G⟩;exact ⟨(A p M).1,G⟩
   ·rintro ⟨M,G⟩;have F:p.1≠i:=fun e=>AB _ (AAg _ G) e.symm;exact ⟨(List.mem_erase_of_ne (fun e=>F (c7 Prod.fst e))).2 M,G⟩
  ·have:=V t v hv;rw [pM] at this ⊢;by_cases e:t=dO i
   ·subst e;simp only [lookup,ABI] at this;rw [O];simp only;rw [hy _ hb];exact this
   ·have Q:(t==dO i)=false:=by simpa using e
    simp only [lookup,Q] at this;exact this
  ·refine hw.perm ?_;show (C++dn.map fun p=>AO p.1 p.2).Perm (AO i b::(C++(dn.erase (i,b)).map fun p=>AO p.1 p.2))
   refine ((K.map fun p:Nat×Nat=>AO p.1 p.2).append_left C).trans ?_;exact v5
theorem F1: ∀ (s:List gJ) (j:Nat),gJ.op j∈s→ ∃ T0 k s',s=T0++gJ.op k::s'∧ ∀ x∈T0,∃ i,x=gJ.take i
 | .take i::s,j,h=>by
  rcases bH.1 h with e|h
  ·cases e
  ·obtain ⟨T0,k,s',rfl,A⟩:=F1 s j h;exact ⟨.take i::T0,k,s',U,fun x hx=>by
    rcases bH.1 hx with rfl|hx
    ·exact ⟨i,U⟩
    ·exact A x hx⟩
 | .op k::s,j,_=>⟨[],k,s,rfl,fun x hx=>by cases hx⟩
def l3 (s:List gJ) (dn:List (Nat×Nat)):List Nat:=(s.map gJ.ix).filter fun i=> !(dn.map (·.1)).contains i
theorem uh {s:List gJ} {dn:List (Nat×Nat)}:i∈l3 s dn↔(∃ x∈s,x.ix=i)∧ ∀ p∈dn,p.1≠i:=by
 unfold l3;rw [n3,cu];refine and_congr Iff.rfl ?_;rw [e0,← Bool.not_eq_true,ACH,cu];constructor
 ·intro h p hp e;exact h ⟨p,hp,e⟩
 ·rintro h ⟨p,hp,e⟩;exact h p hp e
theorem s7 (hal: ∀ i,WS E ops D C' B dO VO AO i∨True): ∀ (n:Nat) (s:List gJ) (dn:List (Nat×Nat)) (L Y:dH) (C:List ar),(∀ i,gJ.take i∈s→WS E ops D C' B dO VO AO i)→s.Pairwise (fun x y=>rB (sN ops) dO x y=true)→(l3 s dn).length=n→(dn.map (·.1)).Nodup→(∀ p∈dn,gJ.take p.1∈s)→(∀ p∈dn,Y.lookup (dO p.1)=some (VO p.1 p.2))→(∀ i,gJ.take i∈s→L.lookup (dO i)=none)→EV B L→
 (∀ w,St E.S E.w0 C w→St E.S E.w0 C' w)→CH E ops D C' K0 B dO VO AO s L C→TN E ops D C' C1 (fun L C=>KJ E K0 D L C) [] n (l3 s dn) (L++Y) (C++dn.map fun p=>AO p.1 p.2)
 |0,s,dn,L,Y,C,_,hp,hlen,hn,hm,hy,hl,hB,hC,h=>by
  have hr:l3 s dn=[]:=kq hlen;have Q: ∀ x∈s,∃ i b,x=gJ.take i∧(i,b)∈dn:=fun x hx=>by
   have hx':x.ix ∉ l3 s dn:=by rw [hr];exact h_
   rw [uh] at hx';have: ∃ p∈dn,p.1=x.ix:=by
    apply AAn;intro q;exact hx' ⟨⟨x,hx,U⟩,fun p hp e=>q ⟨p,hp,e⟩⟩
   obtain ⟨p,T,AA⟩:=this;have ht:=hm p T;rcases p5.1 hx with ⟨a,ha,ea⟩;rcases p5.1 ht with ⟨c,hc,ec⟩;have d:a=c:=by
    rcases ABr a c with q|q|q
    ·have:=eY.1 hp a c ha hc q;simp only [rB,dh,AAM,ea,ec] at this;exact absurd AA.symm this.1
    ·exact q
    ·have:=eY.1 hp c a hc ha q;simp only [rB,dh,AAM,ea,ec] at this;exact absurd AA this.1
   subst d;exact ⟨p.1,p.2,by rw [← ea,ec],T⟩
  obtain ⟨dn',L',C2,V,J,O,W,h5,X⟩:=H5 s [] dn L Y C Q (by simpa using hp) hn (by simpa using hm) hy (by simpa using hl) (by simpa using h);show KJ E K0 D _ _
  have hd:dn'=[]:=AAW.2 fun p hp=>by have:=((O p).1 hp).2;cases this
  subst hd;refine JE (L2:=L') (C2:=C2) (fun a hf=>Js (fun t v ht=>W t v (by rw [pM,ht])) a hf) (fun w hw=>by have:=X w hw;simpa using this) V
 |n+1,s,dn,L,Y,C,hal',hp,hlen,hn,hm,hy,hl,hB,hC,h=>by
  intro i hi o ho K hK;obtain ⟨G,m⟩:=n3.1 hi;obtain ⟨⟨x,hx,rfl⟩,H⟩:=uh.1 G;have A: ∀ k∈l3 s dn,jC (sN ops) k x.ix=false:=fun k hk=>by
   have:=db.1 m k hk;simpa using this
  cases x with
  |take i=>
   simp only [gJ.ix] at H A ho hK G ⊢;refine hal' i hx o ho _ _ K hB.app (fun w hw=>hC w (hw.take (AB8 _ _))) fun b=>?_;have l:=hl i hx;have AB:(l3 s dn).filter (· != i)=l3 s ((i,b)::dn):=by
    unfold l3;rw [ABn];apply ABT;intro k _;simp only [m2,List.contains_cons,Bool.not_or];rfl
   have N:(l3 s dn).Nodup:=by
    unfold l3;refine List.Nodup.sublist AA3<|AAK.2 (hp.imp fun {a c} q=>?_);simp only [rB,dh,AAM] at q;exact q.1
   have M: ∀ k,gJ.take k∈s→k≠i→dO k≠dO i:=fun k hk AC e=>by
    rcases p5.1 hx with ⟨a,ha,ea⟩;rcases p5.1 hk with ⟨c,hc,ec⟩;rcases ABr a c with q|q|q
    ·have:=eY.1 hp a c ha hc q;simp only [rB,dh,AAM,ea,ec] at this;exact this.2 e.symm
    ·subst q;rw [ea] at ec;cases ec;exact AC rfl
    ·have:=eY.1 hp c a hc ha q;simp only [rB,dh,AAM,ea,ec] at this;exact this.2 e
   refine JE (L2:=L++((dO i,VO i b)::Y)) (C2:=C++((i,b)::dn).map fun p=>AO p.1 p.2) (fun a hf=>Js (fun t v ht=>?_) a hf) (fun w hw=>hw.perm (v5).symm) (hK _ _ (fun w hw=>hC w (hw.take (AB8 _ _))) (fun q=>by cases q) ?_)
   ·rw [pM] at ht;by_cases e:t=dO i
    ·subst e;rw [l] at ht;simp only [lookup,ABI] at ht ⊢;exact ht
    ·have e2:(t==dO i)=false:=by simpa using e
     simp only [lookup,e2] at ht ⊢;rw [pM];exact ht
   ·rw [AB];refine s7 hal n s ((i,b)::dn) L ((dO i,VO i b)::Y) C hal' hp ?_ (AA2.2 ⟨fun q=>?_,hn⟩) (fun p hp'=>?_) (fun p hp'=>?_) hl hB hC h
    ·rw [← AB,← List.Nodup.erase_eq_filter N,ABd G,hlen];rfl
    ·obtain ⟨p,hp',e⟩:=cu.1 q;exact H p hp' e
    ·rcases bH.1 hp' with rfl|hp'
     ·exact hx
     ·exact hm p hp'
    ·rcases bH.1 hp' with rfl|hp'
     ·simp [lookup]
     ·have:(dO p.1==dO i)=false:=by simpa using M p.1 (hm p hp') (H p hp')
      simp only [lookup,this];exact hy p hp'
  |op j=>
   simp only [gJ.ix] at H A ho hK G ⊢;obtain ⟨T0,k,s',rfl,hT⟩:=F1 s j hx;obtain ⟨q1,q2,q3⟩:=AAb.1 hp;obtain ⟨q4,q5⟩:=AAT.1 q2;have R: ∀ k',gJ.op k'∈T0++gJ.op k::s'→k'∈l3 (T0++gJ.op k::s') dn:=fun k' hk'=>by
    refine uh.2 ⟨⟨_,hk',U⟩,fun p hp' e=>?_⟩;have ht:=hm p hp';rcases p5.1 hk' with ⟨a,ha,ea⟩;rcases p5.1 ht with ⟨c,hc,ec⟩;rcases ABr a c with q|q|q
    ·have:=eY.1 hp a c ha hc q;simp only [rB,dh,AAM,ea,ec,gJ.ix] at this;exact this.1 e.symm
    ·subst q;rw [ea] at ec;cases ec
    ·have:=eY.1 hp c a hc ha q;simp only [rB,dh,AAM,ea,ec,gJ.ix] at this;exact this.1 e
   have AP:k=j:=by
    apply AAn;intro An;have hj':gJ.op j∈s':=by
     rcases dY.1 hx with q|q
     ·obtain ⟨i,e⟩:=hT _ q;cases e
     ·rcases bH.1 q with e|q
      ·injection e with e;exact absurd e.symm An
      ·exact q
    have:=q4 _ hj';simp only [rB,dh,gJ.ix] at this;have J:=A k (R k sm);rw [this.2] at J;cases J
   subst AP;have F: ∀ x∈T0,∃ i b,x=gJ.take i∧(i,b)∈dn:=fun x hx'=>by
    obtain ⟨i,rfl⟩:=hT x hx';apply AAn;intro q;have r:i∈l3 (T0++gJ.op k::s') dn:=uh.2 ⟨⟨_,m1 _ hx',rfl⟩,fun p hp' e=>q ⟨i,p.2,rfl,by rw [← e];exact hp'⟩⟩;have:=q3 _ hx' _ (bZ ..);simp only [rB,dh,gJ.ix] at this;have J:=A i r;rw [this.2] at J;cases J
   obtain ⟨dn',L',C2,V,J,O,W,h5,X⟩:=H5 T0 (gJ.op k::s') dn L Y C F hp hn hm hy hl h;refine SV (fun a hf=>Js W a hf) X (V o ho Y (dn'.map fun p=>AO p.1 p.2) K fun L3 C3 P A0 Z g=>?_);have AB:(l3 (T0++gJ.op k::s') dn).filter (· != k)=l3 s' dn':=by
    unfold l3;rw [AAF,AAq,m2,AAq];have e1:(List.map gJ.ix T0).filter (fun i=> !(dn.map (·.1)).contains i)=[]:=by
     apply List.filter_eq_nil_iff.2;intro z hz;obtain ⟨x,hx',rfl⟩:=cu.1 hz;obtain ⟨i,b,rfl,hb⟩:=F x hx';simp only [gJ.ix,e0,Bool.not_eq_false,ACH];exact AAE (f:=(·.1)) hb
    rw [e1];simp only [List.filter_nil,AAp];have u:k ∉ dn.map (·.1):=fun q=>by
     obtain ⟨p,hp',e⟩:=cu.1 q;exact H p hp' e
    rw [AAi (by simpa [gJ.ix] using u),AAj (by simp [gJ.ix]),ABn];apply ABT;intro z hz;obtain ⟨y,hy',rfl⟩:=cu.1 hz;have A1:y.ix≠k:=fun e=>by
     have:=q4 y hy';simp only [rB,dh,AAM,gJ.ix] at this;exact this.1 e.symm
    rw [AAB];simp only [dh,AAM,e0,← Bool.not_eq_true,ACH];constructor
    ·rintro ⟨_,hq⟩ hc;obtain ⟨p,hp',e⟩:=cu.1 hc;exact hq (by rw [← e];exact AAE (f:=(·.1)) ((O p).1 hp').1)
    ·intro hq;refine ⟨A1,fun hc=>?_⟩;obtain ⟨p,hp',e⟩:=cu.1 hc;apply hq;rw [← e];refine AAE (f:=(·.1)) ((O p).2 ⟨hp',?_⟩);have ht:=hm p hp';rcases dY.1 ht with ht|ht
     ·exfalso;have:=q3 _ ht _ (dg _ hy');simp only [rB,dh,AAM,gJ.ix] at this;exact this.1 e
     ·exact ht
   have N:(l3 (T0++gJ.op k::s') dn).Nodup:=by
    unfold l3;refine List.Nodup.sublist AA3<|AAK.2 (hp.imp fun {a c} q=>?_);simp only [rB,dh,AAM] at q;exact q.1
   refine hK _ _ (fun w hw=>P w (hw.take (AB8 _ _))) (fun q=>by cases q) ?_;rw [AB];have hdn': ∀ p∈dn',gJ.take p.1∈s':=fun p hp'=>by
    rcases bH.1 ((O p).1 hp').2 with e|e
    ·cases e
    ·exact e
   refine s7 hal n s' dn' L3 Y C3 (fun i hi=>hal' i (by simp [hi])) q5 ?_ J hdn' (fun p hp'=>hy p ((O p).1 hp').1) (fun i hi=>?_) (DN Z) P g
   ·rw [← AB,← List.Nodup.erase_eq_filter N,ABd G,hlen];rfl
   ·have:=db.1 A0 _ (w8 hi);simpa using this
/-- the rows, at any time; the others, one after the other -/
theorem IU (s:List gJ) (B:dH) (dO:Nat→Nat) (VO:Nat→Nat→Value) (AO:Nat→Nat→ar) {n:Nat} (htb:tb=[]) (hr:s.map gJ.ix=rem) (hn:rem.length=n) (hp:ZT (sN ops) dO s=true) (hl:((Ex dO s).all fun d=>(L.lookup d).isNone)=true) (hB:B.map (fun p=>L.lookup p.1)=B.map (fun p=>some p.2)) (hC:∀ w,St E.S E.w0 C w→St E.S E.w0 C' w) (hal:∀ i,gJ.take i∈s→WS E ops D C' B dO VO AO i) (h:CH E ops D C' K0 B dO VO AO s L C):TN E ops D C' C1 (fun L C=>KJ E K0 D L C) tb n rem L C:=by
 subst htb hr;have e:l3 s []=s.map gJ.ix:=by unfold l3;simp
 have:=s7 (C1:=C1) (fun i=> .inr trivial) n s [] L [] C hal (Jx hp) (by rw [e];exact hn) ABt (fun p hp=>by cases hp) (fun p hp=>by cases hp) (fun i hi=>by
  have:=db.1 hl _ (w8 hi);simpa using this) (DN hB) hC h
 simpa [e] using this
theorem Oi: ∀ i,gJ.take i∈([]:List gJ)→p i:=fun i h=>by cases h
theorem ve {j:Nat} {s:List gJ} (h:∀ i,gJ.take i∈s→p i): ∀ i,gJ.take i∈gJ.op j::s→p i:=fun i hi=>by
 rcases bH.1 hi with e|hi
 ·cases e
 ·exact h i hi
theorem pS {j:Nat} {s:List gJ} (hj:p j) (h:∀ i,gJ.take i∈s→p i): ∀ i,gJ.take i∈gJ.take j::s→p i:=fun i hi=>by
 rcases bH.1 hi with e|hi
 ·cases e;exact hj
 ·exact h i hi
end
section
variable {E:fM} {ops:Array Oper} {D:List Deferred} {C':List ar} {B:List (Nat×Value)} {dO:Nat→Nat} {VO:Nat→Nat→Value} {AO:Nat→Nat→ar}
variable {d:Nat} {ty:TypeId} {ps:String} {af:Array Edge}
theorem P5 {t:Nat} (ho:ops[i]? =some ⟨some d,.alloc t,ty,ps,af,none⟩) (hz:tZ E.P t=some cs) (hd:blt d E.n=true) (h1:dO i=d) (h2:∀ b,VO i b= .pointer (some ⟨b,0,none⟩)) (h3:∀ b,AO i b=cb b t cs):WS E ops D C' B dO VO AO i:=fun o ho' L C K hB _ hk=>by
 rw [ho] at ho';cases ho';exact Is U hz hd fun b=>bG (by have:=hk b;rw [h1,h2,h3] at this;exact this)
theorem Qx {t e:Nat} (ho:ops[i]? =some ⟨some d,.buildSlice t 0 #[],ty,ps,af,none⟩) (ht:tE E.P t=some (e,sz)) (hd:blt d E.n=true) (h1:dO i=d) (h2:∀ b,VO i b= .slice (some ⟨b,0,none⟩) 0 0) (h3:∀ b,AO i b=cb b e []):WS E ops D C' B dO VO AO i:=fun o ho' L C K hB _ hk=>by
 rw [ho] at ho';cases ho';exact xn U ht hd fun b=>bG (by have:=hk b;rw [h1,h2,h3] at this;exact this)
theorem Gl {t e n:Nat} {xs:List Operand} {zs:List Value} (ho:ops[i]? =some ⟨some d,.buildSlice t n ((xs.zipIdx.map fun p=>(p.2,p.1)).toArray),ty,ps,af,none⟩) (ht:tE E.P t=some (e,sz)) (hz:tZ E.P e=some zs) (hx:evs B xs=some vs) (hn:xs.length=n) (hp:blt 0 (n*sz)=true) (hb:ble (n*sz) 16777216=true) (hv:∀ v∈vs,v.cells.size=sz) (hc:(vs.map (·.cells.toList)).flatten=cs) (hd:blt d E.n=true) (h1:dO i=d) (h2:∀ b,VO i b= .slice (some ⟨b,0,none⟩) n n) (h3:∀ b,AO i b=cb b e cs):WS E ops D C' B dO VO AO i:=fun o ho' L C K hB _ hk=>by
 rw [ho] at ho';cases ho';exact dC U ht hz (Ix hB hx) hn hp hb hv hc hd fun b=>bG (by have:=hk b;rw [h1,h2,h3] at this;exact this)
end
section
variable {E:fM} {ops:Array Oper} {D:List Deferred} {C':List ar} {K0:Act→World→Prop} {B:List (Nat×Value)} {dO:Nat→Nat} {VO:Nat→Nat→Value} {AO:Nat→Nat→ar}
theorem uW {j:Nat} {s:List gJ} {o:Oper} (ho:ops[j]? =some o) (h:∀ (Y:dH) (X:List ar) (K:Act→World→Prop),(∀ L' C'',(∀ w,St E.S E.w0 C'' w→St E.S E.w0 C' w)→((Ex dO s).all fun d=>(L'.lookup d).isNone)=true→B.map (fun p=>L'.lookup p.1)=B.map (fun p=>some p.2)→CH E ops D C' K0 B dO VO AO s L' C''→KJ E K D (L'++Y) (C''++X))→RJ E ops (NQ K) [o] D (L++Y) (C++X)):CH E ops D C' K0 B dO VO AO (.op j::s) L C:=fun o' ho'=>by
 rw [ho] at ho';cases ho';exact h
theorem qz {s:List gJ} {Y:dH} (hT:∀ L' C'',(∀ w,St E.S E.w0 C'' w→St E.S E.w0 C' w)→((Ex dO s).all fun d=>(L'.lookup d).isNone)=true→B.map (fun p=>L'.lookup p.1)=B.map (fun p=>some p.2)→CH E ops D C' K0 B dO VO AO s L' C''→KJ E K D (L'++Y) (C''++X)) (nL nC:Nat) (hL:L.take nL++Y=L) (hC:C.take nC++X=C) (h1:∀ w,St E.S E.w0 (C.take nC) w→St E.S E.w0 C' w) (h2:((Ex dO s).all fun d=>((L.take nL).lookup d).isNone)=true) (h3:B.map (fun p=>(L.take nL).lookup p.1)=B.map (fun p=>some p.2)) (h:CH E ops D C' K0 B dO VO AO s (L.take nL) (C.take nC)):RJ E ops (NQ K) [] D L C:=by
 have:=hT _ _ h1 h2 h3 h;rw [hL,hC] at this;exact bG this
theorem US {L':dH} (h:L'.map (fun p=>L.lookup p.1)=L'.map (fun p=>some p.2)) (k:WJ E c Q D L' C):WJ E c Q D L C:=fun a w hf hs=>k a w (Js (DN h) a hf) hs
theorem Am: ∀ {C:List ar} {i:Nat} {A:ar},C[i]? =some A→C.Perm (A::C.eraseIdx i)
 |[],i,A,h=>by simp at h
 |x::C,0,A,h=>by
  simp at h;subst h;exact ABY _
 |x::C,i+1,A,h=>((Am (C:=C) (i:=i) (by simpa using h)).cons x).trans (List.Perm.swap _ _ _)
theorem St.front {A:ar} (i:Nat) (hi:C[i]? =some A) (h:St S w0 C w):St S w0 (A::C.eraseIdx i) w:=h.perm (Am hi)
theorem JJ {A:ar} (i:Nat) (hi:C[i]? =some A) (h:KJ E K D L (A::C.eraseIdx i)):KJ E K D L C:=fun a w hf hs=>h a w hf (hs.front i hi)
theorem uf {A:ar} (i:Nat) (hi:C[i]? =some A) (h:RJ E ops Q rest D L (A::C.eraseIdx i)):RJ E ops Q rest D L C:=fun a w hf hs=>h a w hf (hs.front i hi)
end
end
section
theorem TN.sub: ∀ {n:Nat} {L L':dH},cS L L'→TN E ops D C' C1 (fun L C=>KJ E (Q .normal) D L C) tb n rem L' C→TN E ops D C' C1 (fun L C=>KJ E (Q .normal) D L C) tb n rem L C:=by
 intro n;cases n with
 |zero=>intro L L' hs h;exact ke hs (fun _ h=>h) h
 |succ n=>intro L L' hs h i hi o ho K hK;exact TF hs (fun _ h=>h) (h i hi o ho K hK)
theorem ZN {bs:List Bool} {os:List Oper} {n:Nat} {t:Nat} (h:L.lookup t=some (.bool b)) (h1:b=true→uO E ops D C' C1 (fun L'=>TN E ops D C' C1 (fun L C=>KJ E (Q .normal) D L C) tb n rem L' C) bs os ((t,.bool true)::L)) (h2:b=false→uO E ops D C' C1 (fun L'=>TN E ops D C' C1 (fun L C=>KJ E (Q .normal) D L C) tb n rem L' C) bs os ((t,.bool false)::L)):
 uO E ops D C' C1 (fun L'=>TN E ops D C' C1 (fun L C=>KJ E (Q .normal) D L C) tb n rem L' C) bs os L:=by
 have A: ∀ v:Bool,b=v→cS L ((t,.bool v)::L):=fun v hv=>cS.cons (hv▸h) (fun _ _ h=>h);cases b
 ·exact uO.mono (fun _ _=>TN.sub) (A _ U) (h2 U)
 ·exact uO.mono (fun _ _=>TN.sub) (A _ U) (h1 U)
end
section
open Go.RowKit
section
variable {K:Type} [DecidableEq K] {kV:K→Value}
variable {E:fM} {ops:Array Oper} {Q:dk} {rest:List Oper} {D:List Deferred} {L:List (Nat×Value)} {C:List ar}
variable {ty:TypeId} {ps:String} {af:Array Edge} {g:Option (Nat×Bool)}
theorem pg {xm xk:Operand} {b:Nat} {x:K} {m m':List (K×Value)} (i:Nat) (hg:kB ops L g=true) (hm:ev L xm=some (.map (some b))) (hk:ev L xk=some (kV x)) (hts:ts[0]? =some t) (ht:E.P.underlying t=some (.map kt et)) (hkt:x3 E.P kt kV) (hC:C[i]? =some (iu kV b m)) (hm':cH m x=m') (hC':C.set i (iu kV b m')=C') (k:RJ E ops Q rest D L C'):
 RJ E ops Q (⟨none,.call {callee:= .builtin .delete,args:= #[xm,xk],argTypes:=ts},ty,ps,af,g⟩::rest) D L C:=by
 subst hm' hC';intro a w A hs;unfold uM;rw [c0 (eI A hg)];obtain ⟨es,c,he,hi⟩:=hs.holds _ (aF hC);have B:(getObj b).run E.P w= .ok (.map es c) w:=AAc he;rcases q8 (P:=E.P) (w:=w) (x:=x) hkt hi with ⟨F,G⟩|⟨j,AA,F,G,H⟩
 ·refine jv (v:= .tuple #[]) (w':={w with heap:=w.heap.setIfInBounds b (.map es c)}) sm ?_ ?_
  ·simp [execOp,resolve,invoke,builtin,A.ev hm,A.ev hk,Builtin.delete_,hts,k3 ht,B,jS hkt,F,AA6 _ he]
  ·refine k _ _ ⟨A.defers,A.size,A.at_⟩ (hs.Ct (b:=b) i hC U U (oY _) (fun _ h=>h) ⟨_,_,rz he,?_⟩);rw [Ii G];exact hi
 ·refine jv (v:= .tuple #[]) (w':={w with heap:=w.heap.setIfInBounds b (.map (es.eraseIdxIfInBounds j) c)}) sm ?_ ?_
  ·simp [execOp,resolve,invoke,builtin,A.ev hm,A.ev hk,Builtin.delete_,hts,k3 ht,B,jS hkt,F,AA6 _ he]
  ·exact k _ _ ⟨A.defers,A.size,A.at_⟩ (hs.Ct (b:=b) i hC U U (oY _) (fun _ h=>h) ⟨_,_,rz he,hi.del G⟩)
end
end
section
open Go.RowKit
section
variable {P:Program} {t:TypeId} {x y:Operand}
theorem tR {n c:Nat} (ht:P.underlying t=some (.slice e)):g8 P .eql t x y (.slice a n c) (.slice none 0 0) (.bool (decide (a=none))):=fun w=>by
 have A:(Op.equal t (.slice a n c) (.slice none 0 0)).run P w= .ok (decide (a=none)) w:=by
  unfold Op.equal;show (Op.equalIn (9999+1) t (.slice a n c) (.slice none 0 0)).run P w=_
  unfold Op.equalIn;cases a<;>simp [k3 ht]
 have B:eqGuard .eql t x y (.slice a n c) (.slice none 0 0)=pure ():=rfl;rw [B];show (Sem.run P (do let b ← Op.equal t (.slice a n c) (.slice none 0 0);pure (vB b)) w)=_
 simp [A]
end
section
variable {E:fM} {ops:Array Oper} {Q:dk} {rest:List Oper} {D:List Deferred} {L:List (Nat×Value)} {C:List ar}
variable {dst:Option Tmp} {d:Nat} {ty:TypeId} {ps:String} {af:Array Edge} {g:Option (Nat×Bool)}
/-- a row that lies nowhere is empty -/
theorem od {n:Nat} (hR:ij C (rd a n sz es).holds) (ha:a=none) (hz:0<sz) (k:es=[]→RJ E ops Q rest D L C):RJ E ops Q rest D L C:=fun act w hf hs=>by
 refine k ?_ act w hf hs;obtain ⟨F,G,B⟩:=hs.has hR;rcases AB6 (n*sz) with h|h
 ·have:n=0:=by
   rcases Nat.mul_eq_zero.1 h with h|h
   ·exact h
   ·omega
  exact kq I
 ·obtain ⟨ad,A,_⟩:=B h;rw [ha] at A;cases A
theorem mP {A:ar} (i:Nat) (h:C[i]? =some A.ro):ij C A.holds:=fun w hw=>by
 have B:=hw A.ro (aF h);exact B
end
end
section
open Go.RowKit
theorem qQ (n lo hi:Int):
 de Tryz.prog 122 [(vI n),(vI lo),(vI hi)] [] (vB (decide (lo≤n∧n≤hi))):=by
 refine bg kr Tryz.func122 U U fun B Q hQ hN=>?_
 try dsimp only
 refine aq bS 11 ?_;refine bJ (t:=10) U (aH fun A=>?_) (aG fun A=>?_)
 ·exact cr aj 8 hQ U U<|cB (iw.2 I)
 exact cr aj 8 hQ U U<|cB (bj I).symm
theorem rI (s:aa) (lo hi:Int):
 de Tryz.prog 123 [(vA (aa.cells s)),(vI lo),(vI hi)] [] (vB (decide (s.Lo≤s.Hi∧lo≤s.Lo∧s.Hi≤hi))):=by
 refine bg kr Tryz.func123 U U fun C Q hQ hN=>?_
 try dsimp only
 refine aS bS 2 U<|dV U fun B=>dD aj 10 [] (mc 0 U mn) U<|rS (CL (qQ s.Lo lo s.Hi) (aA) U)<|aq aj 1 ?_;refine cz (t:=13) U (aG fun A=>?_) (aH fun A=>?_)
 ·exact cr aj 9 hQ U U<|cB (bj I).symm
 exact yY aj 9 hQ [] (mc 0 U mn) U U<|cB (iw.2 I)
theorem Tl (t:List ai) (tA:OA) (tC:Nat):
 de Tryz.prog 101 [(vA (aY.cells (aY.mk (aV.mk tA t.length tC))))] [(gQ tA t)] (vB (decide (20<(t.length:Int)))):=by
 refine bg kr Tryz.func101 U U fun B Q hQ hN=>?_
 try dsimp only
 refine aq bS 2 ?_;refine dV U fun A=>?_;exact yY aj 13 hQ [] (mc 0 U mn) U U U
variable (l:List Int) (lA:OA) (lC:Nat) (f:Value) (p:Int→Bool) (X:ar)
theorem SW (hf:∀ x0,x0∈l→BH Tryz.prog f [.int .i64 x0] [X] (.bool (p x0))) (hlen:l.length≤1000000):
 de Tryz.prog 110 [(vS lA l.length lC),f] [(eE lA l),X] (vI (uU p l)):=by
 refine bg kr Tryz.func110 U U fun G Q hQ hN=>?_
 try dsimp only
 refine aq bS 14 ?_;have B:(0≤l.length)∧((l.take 0).any p=false):=by simp
 refine bu (ι:={z:Nat // (z≤l.length)∧((l.take z).any p=false)}) [0,1,7] [0,1] U U (fun z=>[(8,(vI (z.1:Int)))]) (fun z=>[]) (fun _=>rfl) (fun _=>rfl) (fun z=>l.length-z.1) ⟨0,B⟩ (aN U) (aB [0,1]) ?_;clear B;rintro ⟨i,⟨D,A⟩⟩ J4 C
 try dsimp only
 refine aq bS 6 ?_;refine bE U (aG fun F=>?_) (aH fun F=>?_)
 ·exact aS aW 1 U<|cr fD 8 hQ U U<|cI (r_ I A).symm
 refine aq aW 15 ?_;obtain ⟨x,hx⟩:=ax l i I;have E:=bw iC hx;refine rS (IA i U (au 0 U) cM dc I I)<|rS (gG i 0 (vI x) U bP (au 0 U) E U dc U)<|rS (SX (pE U U U (hf x (aF hx)) (aP [1])) U U)<|aq aj 2 ?_;refine bY U (fun hp=>?_) (fun hp=>?_)
 ·exact cr aW 7 hQ U U<|cI (wT hx hp A).symm
 refine aq aW 7 ?_;refine aL (C ⟨(i+1),⟨I,w7 hx A hp⟩⟩ _ _ _ U os (aN U) (aB [0,1]))
theorem pk (hf:∀ x0,x0∈l→BH Tryz.prog f [.int .i64 x0] [X] (.bool (p x0))) (hlen:l.length≤1000000):
 de Tryz.prog 60 [(vS lA l.length lC),f] [(eE lA l),X] (vB (l.any p)):=by
 refine bg kr Tryz.func60 U U fun A Q hQ hN=>?_
 try dsimp only
 exact aS bS 9 U<|rS (CL (SW l lA lC f p X (by exact hf) hlen) (aP [0,1]) U)<|cr aj 5 hQ U U<|cB uy
theorem LQ (n lo hi:Int) (g1 g2:Nat):
 de Tryz.prog 204 [(vI n),(vP g1),(vP g2)] [(cb g1 3 [(vI lo)]),(cb g2 3 [(vI hi)])] (vB (decide (n<lo∨hi<n))):=by
 refine bg kr Tryz.func204 U U fun B Q hQ hN=>?_
 try dsimp only
 refine cm bS 11 [] (mr 0 U mn) ?_;refine bJ (t:=8) U (aH fun A=>?_) (aG fun A=>?_)
 ·exact cr aj 8 hQ U U<|cB (cT I).symm
 exact yY aj 8 hQ [] (mr 1 U mn) U U<|cB (iw.2 I)
theorem qV (lo hi:Int) (l:List Int) (lA:OA) (lC:Nat) (hlen:l.length≤1000000):
 de Tryz.prog 156 [(vI lo),(vI hi),(vS lA l.length lC)] [(eE lA l)] (vB (oK lo hi l)):=by
 refine bg kr Tryz.func156 U U fun D Q hQ hN=>?_
 try dsimp only
 refine aS bS 2 U<|sR U U fun A=>sR U U fun B=>aq aj 6 ?_;refine rS (FU U) ?_;refine rS (CL (pk l lA lC (Value.func (.func 204) [].toArray [(vP A),(vP B)].toArray) (fun C=>(decide (C<lo∨hi<C))) (iX [(cb A 3 [(vI lo)]),(cb B 3 [(vI hi)])]) (by intro C _;exact kU (fi:=[]) (ca:=[(vP A),(vP B)]) (jP (LQ C lo hi A B) (aP [0,1]))) hlen) (gN 2 U U<|aw (jH (aP [1,0]))<|aA) U) ?_;exact cr aj 5 hQ U U U
theorem zl (s:aa) (lo hi:Int):
 de Tryz.prog 157 [(vA (aa.cells s)),(vI lo),(vI hi)] [] (vB (decide (s.Lo≤s.Hi∧lo≤s.Lo∧s.Hi≤hi))):=by
 refine bg kr Tryz.func157 U U fun D Q hQ hN=>?_
 try dsimp only
 refine aS bS 2 U<|dV U fun C=>cm aj 11 [] (mc 0 U mn) ?_;refine dC (xs:=[.tmp 10,.tmp 12]) (cs:=[(vI s.Lo),(vI s.Hi)]) U cM jW U U U U (by simp [Value.cells]) U U fun A=>?_;refine rS (CL (de.eq (qV lo hi ([s.Lo,s.Hi]) (some ⟨A,0,none⟩) 2 (by (simp;done))) qE) (aw (aM 0 U U (by simp [br]) U)<|aA) U) ?_;refine aq aj 1 ?_;refine cz (t:=15) U (aG fun B=>?_) (aH fun B=>?_)
 ·exact cr aj 10 hQ U U<|cB (bj I).symm
 exact yY aj 10 hQ [] (mc 1 U mn) U U<|cB (iw.2 I)
theorem zg (ts:List ai) (tsA:OA) (tsC:Nat) (hlen:ts.length≤1000000):
 de Tryz.prog 86 [(vA (aY.cells (aY.mk (aV.mk tsA ts.length tsC))))] [(gQ tsA ts)] (vB (cE ts)):=by
 refine bg kr Tryz.func86 U U fun n Q hQ hN=>?_
 try dsimp only
 refine aS bS 2 U<|dV U fun m=>dD aj 9 [] (mc 0 U mn) U<|rS (CL (qQ (ts.length:Int) 1 12) (aA) U)<|aq aj 3 ?_;refine bY U (aJ fun k=>?_) (aK fun k=>?_)
 ·exact cr aW 6 hQ U U<|cB (ov I).symm
 refine aq aW 9 ?_;have C:(0≤ts.length)∧(fp (-1) ts=fp (g9 ts 0) (ts.drop 0))∧(-1≤g9 ts 0):=by (refine ⟨I,rfl,by simp [g9]⟩)
 refine bu (ι:={z:Nat // (z≤ts.length)∧(fp (-1) ts=fp (g9 ts z) (ts.drop z))∧(-1≤g9 ts z)}) [1] [0,1] U U (fun z=>[(3,(vI (z.1:Int)))]) (fun z=>[]) (fun _=>rfl) (fun _=>rfl) (fun z=>ts.length-z.1) ⟨0,C⟩ (aN U) (aB [0,1]) ?_;clear C;rintro ⟨i,⟨e,A,f⟩⟩ J9 B
 try dsimp only
 have hz:i=0→g9 ts i= -1:=Gn;refine cm bS 10 [] (mc 0 U mn) ?_;refine bE U (aG fun D=>?_) (aH fun D=>?_)
 ·exact aS aW 1 U<|cr fD 8 hQ U U<|cB (s9 A I I).symm
 refine cm aW 9 [] (mc 0 U mn) ?_;obtain ⟨x,hx⟩:=ax ts i I;have g:=bw ai.cells hx;refine rS (IA i U (au 1 U) vM dc I I)<|rS (ld i 0 (ai.cells x) U bP (au 1 U) g U dc U U)<|AL U GQ fun j=>eN U SG U<|aS aj 4 U<|cK bX 38 kr<|jZ 2 [] (mc 0 U mn) U<|dS (CL (qQ x.Id 0 9999) (aA) U)<|dP 2 [] mn ?_;refine iJ (t:=26) U (aJ fun E=>?_) (aK fun E=>?_)
 ·exact iR 11 U<|iR 22 U<|cy<|cr aj 9 hQ U U<|cB (eu A hx (by simp only [bV,cO];omega)).symm
 refine dP 3 [] mn ?_;refine iQ (t:=29) U (aG fun F=>?_) (aH fun F=>?_)
 ·refine iR 8 U<|iR 6 U<|dS (LP (aa.cells x.jd) 0 U bP U U U)<|dS (CL (rI x.jd 1 30000) (aA) U)<|dP 3 [] mn ?_;refine iJ (t:=48) U (aJ fun T=>?_) (aK fun T=>?_)
  ·exact iR 11 U<|cy<|cr aj 9 hQ U U<|cB (eu A hx (by simp only [bV,cO];omega)).symm
  refine iR 1 U<|dS (LP (aa.cells x.kR) 0 U bP U U U)<|dS (CL (rI x.kR 0 5000) (aA) U)<|dP 3 [] mn ?_;refine iJ (t:=54) U (aJ fun AA=>?_) (aK fun AA=>?_)
  ·exact iR 5 U<|cy<|cr aj 9 hQ U U<|cB (eu A hx (by simp only [bV,cO];omega)).symm
  refine jZ 2 [] (mc 0 U mn) U<|dS (CL (qQ x.AP 0 5000) (aA) U)<|iR 2 U<|cy<|aq aj 2 ?_;refine bY U (aJ fun V=>?_) (aK fun V=>?_)
  ·exact cr aW 6 hQ U U<|cB (eu A hx (by simp only [bV,cO];omega)).symm
  refine dD aW 11 [] (mc 0 U mn) U<|rS (BI U nt)<|aq aj 3 ?_;refine bY U (aH fun W=>?_) (aG fun W=>?_)
  ·refine cm aW 7 [] (mc 0 U mn) ?_;refine bJ (t:=68) U (aJ fun X=>?_) (aK fun X=>?_)
   ·exact cr aj 14 hQ U U<|cB (eu A hx (by simp only [bV,cO];omega)).symm
   refine cm aj 7 [] (mc 0 U mn) ?_;refine bE U (aK fun Y=>?_) (aJ fun Y=>?_)
   ·refine aq aW 9 ?_;refine aL (B ⟨(i+1),⟨I,iG A hx (by simp only [bV,cO];omega),by rw [gX hx];omega⟩⟩ _ _ _ U os (aN U) (aB [1,2]))
   exact cr aW 6 hQ U U<|cB (eu A hx (by simp only [bV,cO];omega)).symm
  refine aS aW 3 U<|rS (BI U nt)<|aq aj 3 ?_;refine bY U (aH fun Z=>?_) (aG fun Z=>?_)
  ·refine aq aW 2 ?_;refine bE U (aG fun a=>?_) (aH fun a=>?_)
   ·exact cr aW 6 hQ U U<|cB (ov I).symm
   refine aS aW 3 U<|rS (LP (aa.cells x.eA) 0 U bP U U U)<|rS (CL (rI x.eA 500 20000) (aA) U)<|aq aj 3 ?_;refine bE U (aK fun b=>?_) (aJ fun b=>?_)
   ·refine aq aW 9 ?_;refine aL (B ⟨(i+1),⟨I,iG A hx (by simp only [bV,cO];omega),by rw [gX hx];omega⟩⟩ _ _ _ U os (aN U) (aB [1,2]))
   exact cr aW 6 hQ U U<|cB (eu A hx (by simp only [bV,cO];omega)).symm
  refine aS aW 1 U<|rS (BI U nt)<|aq aj 3 ?_;refine bE U (aG fun c=>?_) (aH fun c=>?_)
  ·exact cr aW 6 hQ U U<|cB (eu A hx (by simp only [bV,cO];omega)).symm
  refine aS aW 3 U<|rS (LP (aa.cells x.eA) 0 U bP U U U)<|rS (CL (rI x.eA 500 20000) (aA) U)<|aq aj 3 ?_;refine bE U (aK fun d=>?_) (aJ fun d=>?_)
  ·refine aq aW 9 ?_;refine aL (B ⟨(i+1),⟨I,iG A hx (by simp only [bV,cO];omega),by rw [gX hx];omega⟩⟩ _ _ _ U os (aN U) (aB [1,2]))
  exact cr aW 6 hQ U U<|cB (eu A hx (by simp only [bV,cO];omega)).symm
 refine dP 6 [0,1] (mc 0 U (mc 1 U mn)) ?_;obtain ⟨y,hy⟩:=ax ts (i-1) I;have h:=bw ai.cells hy;refine dS (IA (i-1) U (au 2 U) vM dc I I)<|dS (pV ((i-1)*9) U (au 2 U) (e6 I dc) eB U) ?_;have l:=HL I hy;refine dS (gG (i-1) 0 (vI y.Id) U bP (au 2 U) h U dc U)<|dP 4 [] mn ?_;refine iJ (t:=42) U (aH fun G=>?_) (aG fun G=>?_)
 ·exact iR 17 U<|cy<|cr aj 9 hQ U U<|cB (eu A hx (by simp only [bV,cO];omega)).symm
 refine iR 1 U<|dS (LP (aa.cells x.jd) 0 U bP U U U)<|dS (CL (rI x.jd 1 30000) (aA) U)<|dP 3 [] mn ?_;refine iJ (t:=48) U (aJ fun H=>?_) (aK fun H=>?_)
 ·exact iR 11 U<|cy<|cr aj 9 hQ U U<|cB (eu A hx (by simp only [bV,cO];omega)).symm
 refine iR 1 U<|dS (LP (aa.cells x.kR) 0 U bP U U U)<|dS (CL (rI x.kR 0 5000) (aA) U)<|dP 3 [] mn ?_;refine iJ (t:=54) U (aJ fun AB=>?_) (aK fun AB=>?_)
 ·exact iR 5 U<|cy<|cr aj 9 hQ U U<|cB (eu A hx (by simp only [bV,cO];omega)).symm
 refine jZ 2 [] (mc 0 U mn) U<|dS (CL (qQ x.AP 0 5000) (aA) U)<|iR 2 U<|cy<|aq aj 2 ?_;refine bY U (aJ fun J=>?_) (aK fun J=>?_)
 ·exact cr aW 6 hQ U U<|cB (eu A hx (by simp only [bV,cO];omega)).symm
 refine dD aW 11 [] (mc 0 U mn) U<|rS (BI U nt)<|aq aj 3 ?_;refine bY U (aH fun K=>?_) (aG fun K=>?_)
 ·refine cm aW 7 [] (mc 0 U mn) ?_;refine bJ (t:=68) U (aJ fun L=>?_) (aK fun L=>?_)
  ·exact cr aj 14 hQ U U<|cB (eu A hx (by simp only [bV,cO];omega)).symm
  refine cm aj 7 [] (mc 0 U mn) ?_;refine bE U (aK fun M=>?_) (aJ fun M=>?_)
  ·refine aq aW 9 ?_;refine aL (B ⟨(i+1),⟨I,iG A hx (by simp only [bV,cO];omega),by rw [gX hx];omega⟩⟩ _ _ _ U os (aN U) (aB [1,2]))
  exact cr aW 6 hQ U U<|cB (eu A hx (by simp only [bV,cO];omega)).symm
 refine aS aW 3 U<|rS (BI U nt)<|aq aj 3 ?_;refine bY U (aH fun N=>?_) (aG fun N=>?_)
 ·refine aq aW 2 ?_;refine bE U (aG fun O=>?_) (aH fun O=>?_)
  ·exact cr aW 6 hQ U U<|cB (ov I).symm
  refine aS aW 3 U<|rS (LP (aa.cells x.eA) 0 U bP U U U)<|rS (CL (rI x.eA 500 20000) (aA) U)<|aq aj 3 ?_;refine bE U (aK fun P=>?_) (aJ fun P=>?_)
  ·refine aq aW 9 ?_;refine aL (B ⟨(i+1),⟨I,iG A hx (by simp only [bV,cO];omega),by rw [gX hx];omega⟩⟩ _ _ _ U os (aN U) (aB [1,2]))
  exact cr aW 6 hQ U U<|cB (eu A hx (by simp only [bV,cO];omega)).symm
 refine aS aW 1 U<|rS (BI U nt)<|aq aj 3 ?_;refine bE U (aG fun R=>?_) (aH fun R=>?_)
 ·exact cr aW 6 hQ U U<|cB (eu A hx (by simp only [bV,cO];omega)).symm
 refine aS aW 3 U<|rS (LP (aa.cells x.eA) 0 U bP U U U)<|rS (CL (rI x.eA 500 20000) (aA) U)<|aq aj 3 ?_;refine bE U (aK fun S=>?_) (aJ fun S=>?_)
 ·refine aq aW 9 ?_;refine aL (B ⟨(i+1),⟨I,iG A hx (by simp only [bV,cO];omega),by rw [gX hx];omega⟩⟩ _ _ _ U os (aN U) (aB [1,2]))
 exact cr aW 6 hQ U U<|cB (eu A hx (by simp only [bV,cO];omega)).symm
theorem wL (ts:List ai) (tsA:OA) (tsC:Nat) (hlen:ts.length≤1000000) (hside: ∀ x∈ts,0≤x.gp∧x.gp≤255):
 de Tryz.prog 111 [(vA (aY.cells (aY.mk (aV.mk tsA ts.length tsC))))] [(gQ tsA ts)] (vI (if cE ts=true then 0 else 10)):=by
 refine bg kr Tryz.func111 U U fun h Q hQ hN=>?_
 try dsimp only
 refine aS bS 2 U<|dV U fun g=>aS aj 3 U<|DK U<|cm bS 6 [] (mc 0 U mn) ?_;refine dC (xs:=[.tmp 11]) (cs:=[(vI (ts.length:Int))]) U cM jW U U U U (by simp [Value.cells]) U U fun d=>?_;refine rS (CL (de.eq (qV 1 12 ([(ts.length:Int)]) (some ⟨d,0,none⟩) 1 (by (simp;done))) cp) (aw (aM 0 U U (by simp [br]) U)<|aA) U) ?_;refine aq aj 3 ?_;refine bY U (aJ fun e=>?_) (aK fun e=>?_)
 ·exact cr aW 6 hQ U U<|cI (c1 (by rw [ov I];decide)).symm
 refine cm aW 25 [] (mc 1 U mn) ?_;have B:(0≤ts.length)∧(fp (-1) ts=fp (g9 ts 0) (ts.drop 0))∧(-1≤g9 ts 0)∧(g9 ts 0≤9999):=by (refine ⟨I,rfl,by simp [g9],by simp [g9]⟩)
 refine bu (ι:={z:Nat // (z≤ts.length)∧(fp (-1) ts=fp (g9 ts z) (ts.drop z))∧(-1≤g9 ts z)∧(g9 ts z≤9999)}) [1,4,16,17] [1,2] U U (fun z=>[(3,(vI (g9 ts z.1))),(18,(vI (z.1:Int)))]) (fun z=>[]) (fun _=>rfl) (fun _=>rfl) (fun z=>ts.length-z.1) ⟨0,B⟩ (aN U) (aB [1,2]) ?_;clear B;rintro ⟨i,⟨Y,A,Z,a⟩⟩ J13 C
 try dsimp only
 refine aq bS 6 ?_;refine bE U (aG fun O=>?_) (aH fun O=>?_)
 ·exact aS aW 1 U<|cr fD 9 hQ U U<|cI (c0 (s9 A I I)).symm
 refine aq aW 6 ?_;obtain ⟨x,hx⟩:=ax ts i I;have b:=bw ai.cells hx;refine rS (IA i U (au 1 U) vM dc I I) ?_;have f:=hside x (aF hx);refine rS (ld i 0 (ai.cells x) U bP (au 1 U) b U dc U U)<|AL U GQ fun c=>eN U SG U<|aq aj 2 ?_;refine nV (ι:=Unit) [1,3,4,6,16,17,18] [0,1,2] U U (fun z=>[(7,(vB (decide (x.gp=0∧x.eA.Lo=0∧x.eA.Hi=0))))]) (fun z=>[]) (fun _=>rfl) (fun _=>rfl) ?_ fun K20 D=>?_
 ·intro _
  try dsimp only
  refine nV (ι:=Unit) [1,3,4,6,7,16,17,18] [0,1,2] U U (fun z=>[(8,(vB (decide ((1≤x.gp∧x.gp≤2)∧x.eA.Lo≤x.eA.Hi∧500≤x.eA.Lo∧x.eA.Hi≤20000))))]) (fun z=>[]) (fun _=>rfl) (fun _=>rfl) ?_ fun K21 E=>?_
  ·intro _
   try dsimp only
   refine cm aW 7 [] (mc 0 U mn) ?_;refine dC (xs:=[.tmp 44]) (cs:=[(vI x.Id)]) U cM jW U U U U (by simp [Value.cells]) U U fun M=>?_;refine rS (CL (de.eq (qV ((g9 ts i)+1) 9999 ([x.Id]) (some ⟨M,0,none⟩) 1 (by (simp;done))) cp) (aw (aM 0 U U (by simp [br]) U)<|aA) U) ?_;refine aq aj 2 ?_;refine bJ (t:=48) U (aJ fun S=>?_) (aK fun S=>?_)
   ·exact aS aj 35 U<|cr fD 9 hQ U U<|cI (c1 (by rw [eu A hx (by simp only [bV,cO];omega)];decide)).symm
   refine aS aj 1 U<|rS (LP (aa.cells x.jd) 1 U bP U U U)<|rS (CL (zl x.jd 1 30000) (aA) U)<|aq aj 3 ?_;refine bJ (t:=54) U (aJ fun T=>?_) (aK fun T=>?_)
   ·exact aS aj 29 U<|cr fD 9 hQ U U<|cI (c1 (by rw [eu A hx (by simp only [bV,cO];omega)];decide)).symm
   refine aS aj 1 U<|rS (LP (aa.cells x.kR) 1 U bP U U U)<|rS (CL (zl x.kR 0 5000) (aA) U)<|aq aj 3 ?_;refine bJ (t:=60) U (aJ fun AA=>?_) (aK fun AA=>?_)
   ·exact aS aj 23 U<|cr fD 9 hQ U U<|cI (c1 (by rw [eu A hx (by simp only [bV,cO];omega)];decide)).symm
   refine cm aj 2 [] (mc 1 U mn) ?_;refine dC (xs:=[.tmp 62]) (cs:=[(vI x.AP)]) U cM jW U U U U (by simp [Value.cells]) U U fun N=>?_;refine rS (CL (de.eq (qV 0 5000 ([x.AP]) (some ⟨N,0,none⟩) 1 (by (simp;done))) cp) (aw (aM 0 U U (by simp [br]) U)<|aA) U) ?_;refine aq aj 3 ?_;refine bJ (t:=67) U (aJ fun V=>?_) (aK fun V=>?_)
   ·exact aS aj 16 U<|cr fD 9 hQ U U<|cI (c1 (by rw [eu A hx (by simp only [bV,cO];omega)];decide)).symm
   refine aq aj 3 ?_;refine cz (t:=70) U (aK fun W=>?_) (aJ fun W=>?_)
   ·refine cm aj 20 [] (mc 2 U mn) ?_;have K:(vI (g9 ts (i+1)))=(vI x.Id):=by rw [gX hx]
    refine aL (C ⟨(i+1),⟨I,iG A hx (by simp only [bV,cO];omega),by rw [gX hx];omega,by rw [gX hx];omega⟩⟩ _ _ _ U os (cx 4<|aQ U K<|aN U) (aB [3,4]))
   refine aq aj 6 ?_;refine bY U (aJ fun X=>?_) (aK fun X=>?_)
   ·refine aS aW 6 U<|cr fD 9 hQ U U ?_
    first|exact cI (c1 (by rw [ov I];decide)).symm|exact cI (c1 (by rw [eu A hx (by simp only [bV,cO];omega)];decide)).symm|exact cI (c0 (s9 A I I)).symm
   refine cm aW 13 [] (mc 2 U mn) ?_;have J:(vI (g9 ts (i+1)))=(vI x.Id):=by rw [gX hx]
   refine aL (C ⟨(i+1),⟨I,iG A hx (by simp only [bV,cO];omega),by rw [gX hx];omega,by rw [gX hx];omega⟩⟩ _ _ _ U os (cx 4<|aQ U J<|aN U) (aB [3,4]))
  refine cm bS 3 [] (mc 0 U mn) ?_;refine rS (SX (ql (m:=x.gp) U U ML nZ (mI (by first|assumption|omega))) U U)<|dC (xs:=[.tmp 33]) (cs:=[(vI x.gp)]) U cM jW U U U U (by simp [Value.cells]) U U fun L=>?_;refine rS (CL (de.eq (qV 1 2 ([x.gp]) (some ⟨L,0,none⟩) 1 (by (simp;done))) cp) (aw (aM 0 U U (by simp [br]) U)<|aA) U) ?_;refine aq aj 1 ?_;refine cz (t:=36) U (aG fun R=>?_) (aH fun R=>?_)
  ·refine aq aj 6 ?_;have AB:(decide ((1≤x.gp∧x.gp≤2)∧x.eA.Lo≤x.eA.Hi∧500≤x.eA.Lo∧x.eA.Hi≤20000))=false:=bj I;refine aL (ke (cx 8<|pB U AB<|cS.nil _) (aB [1,2,3]) (E ()))
  refine aS aj 1 U<|rS (LP (aa.cells x.eA) 1 U bP U U U)<|rS (CL (zl x.eA 500 20000) (aA) U)<|aq aj 3 ?_;have H:(decide ((1≤x.gp∧x.gp≤2)∧x.eA.Lo≤x.eA.Hi∧500≤x.eA.Lo∧x.eA.Hi≤20000))=(decide (x.eA.Lo≤x.eA.Hi∧500≤x.eA.Lo∧x.eA.Hi≤20000)):=iw.2 I;refine aL (ke (cx 8<|pB U H<|cS.nil _) (aB [1,2,3]) (E ()))
 refine dD bS 3 [] (mc 0 U mn) U<|rS (BI U nt)<|aq aj 1 ?_;refine cz (t:=25) U (aG fun P=>?_) (aH fun P=>?_)
 ·refine aq aj 7 ?_;have G:(decide (x.gp=0∧x.eA.Lo=0∧x.eA.Hi=0))=false:=bj I;refine aL (ke (cx 7<|pB U G<|cS.nil _) (aB [0,1,2]) (D ()))
 refine aS aj 1 U<|rS (LP (aa.cells x.eA) 0 U bP U U U)<|rS (SX (aU (xs:=[]) (cs:=(aa.cells (aa.mk 0 0))) U U (aT gP U)) U U)<|rS (BI U (wU _ _ x.eA (aa.mk 0 0)))<|aq aj 3 ?_;have F:(decide (x.gp=0∧x.eA.Lo=0∧x.eA.Hi=0))=(decide (x.eA=(aa.mk 0 0))):=iw.2 (by (simp only [aa.ext_iff] at *;omega));refine aL (ke (cx 7<|pB U F<|cS.nil _) (aB [0,1,2]) (D ()))
theorem yw (la:List aa) (laA:OA) (laC:Nat) (lb:List aa) (lbA:OA) (lbC:Nat) (h1:la.length≤1000000) (h2:lb.length≤1000000):
 de Tryz.prog 100 [(vS laA la.length laC),(vS lbA lb.length lbC)] [(Kv laA la),(Kv lbA lb)] (vB (decide (la=lb))):=by
 refine bg kr Tryz.func100 U U fun AA Q hQ hN=>?_
 try dsimp only
 refine aq bS 15 ?_;refine bY U (aJ fun hl=>?_) (aK fun hl=>?_)
 ·refine cr aW 6 hQ U U ?_
  first|exact cB (bj (kg hx hy h)).symm|exact cB (cT (iH I A I)).symm|exact cB (bj (fun e=>by subst e;omega)).symm
 refine aq aW 9 ?_;have B:(0≤la.length)∧(la.take 0=lb.take 0):=by simp
 refine bu (ι:={z:Nat // (z≤la.length)∧(la.take z=lb.take z)}) [0,1] [0,1] U U (fun z=>[(5,(vI (z.1:Int)))]) (fun z=>[]) (fun _=>rfl) (fun _=>rfl) (fun z=>la.length-z.1) ⟨0,B⟩ (aN U) (aB [0,1]) ?_;clear B;rintro ⟨i,⟨F,A⟩⟩ J7 E
 try dsimp only
 refine aq bS 9 ?_;refine bE U (aG fun D=>?_) (aH fun D=>?_)
 ·refine aS aW 1 U<|cr fD 8 hQ U U ?_
  first|exact cB (bj (kg hx hy h)).symm|exact cB (cT (iH I A I)).symm|exact cB (bj (fun e=>by subst e;omega)).symm
 refine aS aW 5 U<|cK bX 9 kr<|dP 2 [] mn ?_;obtain ⟨x,hx⟩:=ax la i I;have G:=bw aa.cells hx;refine dS (IA i U (au 0 U) iA dc I I)<|dS (ld i 0 (aa.cells x) U bP (au 0 U) G U dc U U)<|dP 2 [] mn ?_;obtain ⟨y,hy⟩:=ax lb i I;have H:=bw aa.cells hy;refine dS (IA i U (au 1 U) iA dc I I)<|dS (ld i 0 (aa.cells y) U bP (au 1 U) H U dc U U)<|dS (BI U (Ft _ _ x y))<|cy<|aq aj 2 ?_;refine bY U (aJ fun h=>?_) (aK fun h=>?_)
 ·refine cr aW 6 hQ U U ?_
  first|exact cB (bj (kg hx hy h)).symm|exact cB (cT (iH I A I)).symm|exact cB (bj (fun e=>by subst e;omega)).symm
 refine aq aW 8 ?_;have C:(vI (((i+1):Nat):Int))=(vI ((i:Int)+1)):=by exact cI I
 refine aL (E ⟨(i+1),⟨I,iS A hx hy h⟩⟩ _ _ _ U os (cS.cons U<|cS.cons U<|aQ U C<|cS.nil _) (aB [0,1]))
theorem Wi (la:List ai) (laA:OA) (laC:Nat) (lb:List ai) (lbA:OA) (lbC:Nat) (h1:la.length≤1000000) (h2:lb.length≤1000000):
 de Tryz.prog 83 [(vA (aY.cells (aY.mk (aV.mk laA la.length laC)))),(vA (aY.cells (aY.mk (aV.mk lbA lb.length lbC))))] [(gQ laA la),(gQ lbA lb)] (vB (decide (la=lb))):=by
 refine bg kr Tryz.func83 U U fun K Q hQ hN=>?_
 try dsimp only
 refine aS bS 2 U<|dV U fun AA=>dV U fun J=>cm aj 15 [0,1] (mc 1 U (mc 0 U mn)) ?_;refine bY U (aJ fun hl=>?_) (aK fun hl=>?_)
 ·exact cr aW 6 hQ rfl rfl<|cB (bj (fun e=>by subst e;omega)).symm
 refine aq aW 9 ?_;have A:(0≤la.length)∧(la.take 0=lb.take 0):=by simp
 refine bu (ι:={z:Nat // (z≤la.length)∧(la.take z=lb.take z)}) [2,3] [0,1,2,3] U U (fun z=>[(5,(vI (z.1:Int)))]) (fun z=>[]) (fun _=>rfl) (fun _=>rfl) (fun z=>la.length-z.1) ⟨0,A⟩ (aN U) (aB [0,1,2,3]) ?_;clear A;rintro ⟨i,⟨F,B⟩⟩ J9 E
 try dsimp only
 refine cm bS 10 [] (mc 1 U mn) ?_;refine bE U (aG fun D=>?_) (aH fun D=>?_)
 ·exact aS aW 1 U<|cr fD 8 hQ U U<|cB (cT (iH I B I)).symm
 refine aS aW 5 U<|cK bX 11 kr<|dP 3 [] (mc 1 U mn) ?_;obtain ⟨x,hx⟩:=ax la i I;have G:=bw ai.cells hx;refine dS (IA i U (au 2 U) vM dc I I)<|dS (ld i 0 (ai.cells x) U bP (au 2 U) G U dc U U)<|dP 3 [] (mc 0 U mn) ?_;obtain ⟨y,hy⟩:=ax lb i I;have H:=bw ai.cells hy;refine dS (IA i U (au 3 U) vM dc I I)<|dS (ld i 0 (ai.cells y) U bP (au 3 U) H U dc U U)<|dS (BI U (Xy _ _ x y))<|cy<|aq aj 2 ?_;refine bY U (aJ fun h=>?_) (aK fun h=>?_)
 ·exact cr aW 6 hQ U U<|cB (bj (kg hx hy h)).symm
 refine aq aW 8 ?_;have C:(vI (((i+1):Nat):Int))=(vI ((i:Int)+1)):=by exact cI I
 refine aL (E ⟨(i+1),⟨I,iS B hx hy h⟩⟩ _ _ _ U os (cS.cons U<|cS.cons U<|aQ U C<|cS.nil _) (aB [0,1,2,3]))
theorem zw (la:List Int) (laA:OA) (laC:Nat) (lb:List Int) (lbA:OA) (lbC:Nat) (h1:la.length≤1000000) (h2:lb.length≤1000000):
 de Tryz.prog 14 [(vS laA la.length laC),(vS lbA lb.length lbC)] [(eE laA la),(eE lbA lb)] (vB (decide (la=lb))):=by
 refine bg kr Tryz.func14 U U fun AA Q hQ hN=>?_
 try dsimp only
 refine aq bS 15 ?_;refine bY U (aJ fun hl=>?_) (aK fun hl=>?_)
 ·exact cr aW 6 hQ rfl rfl<|cB (bj (fun e=>by subst e;omega)).symm
 refine aq aW 9 ?_;have A:(0≤la.length)∧(la.take 0=lb.take 0):=by simp
 refine bu (ι:={z:Nat // (z≤la.length)∧(la.take z=lb.take z)}) [0,1] [0,1] U U (fun z=>[(5,(vI (z.1:Int)))]) (fun z=>[]) (fun _=>rfl) (fun _=>rfl) (fun z=>la.length-z.1) ⟨0,A⟩ (aN U) (aB [0,1]) ?_;clear A;rintro ⟨i,⟨F,B⟩⟩ J7 E
 try dsimp only
 refine aq bS 9 ?_;refine bE U (aG fun D=>?_) (aH fun D=>?_)
 ·exact aS aW 1 U<|cr fD 8 hQ U U<|cB (cT (iH I B I)).symm
 refine aS aW 5 U<|cK bX 9 kr<|dP 2 [] mn ?_;obtain ⟨x,hx⟩:=ax la i I;have G:=bw iC hx;refine dS (IA i U (au 0 U) cM dc I I)<|dS (gG i 0 (vI x) U bP (au 0 U) G U dc U)<|dP 2 [] mn ?_;obtain ⟨y,hy⟩:=ax lb i I;have H:=bw iC hy;refine dS (IA i U (au 1 U) cM dc I I)<|dS (gG i 0 (vI y) U bP (au 1 U) H U dc U)<|iR 1 U<|cy<|aq aj 2 ?_;refine bY U (aJ fun h=>?_) (aK fun h=>?_)
 ·exact cr aW 6 hQ U U<|cB (bj (kg hx hy h)).symm
 refine aq aW 8 ?_;have C:(vI (((i+1):Nat):Int))=(vI ((i:Int)+1)):=by exact cI I
 refine aL (E ⟨(i+1),⟨I,iS B hx hy h⟩⟩ _ _ _ U os (cS.cons U<|cS.cons U<|aQ U C<|cS.nil _) (aB [0,1]))
end
section
open Go.RowKit
theorem VH {x y:Operand} {k:TypeId} {p:Option Nat} (h:P.underlying t=some (.map k e)):g8 P .eql t x y (.map p) (.map none) (.bool p.isNone):=fun w=>by
 have A:(Op.equal t (.map p) (.map none)).run P w= .ok p.isNone w:=by
  unfold Op.equal;show (Op.equalIn (9999+1) t (.map p) (.map none)).run P w=_
  unfold Op.equalIn;cases p<;>simp [k3 h]
 have B:eqGuard .eql t x y (.map p) (.map none)=pure ():=rfl;rw [B];show (Sem.run P (do let b ← Op.equal t (.map p) (.map none);pure (vB b)) w)=_
 simp [A]
theorem Ip {r:Nat} {es:Array MapEntry} {clock:Nat} (t:TypeId) (hb:w.heap[r]? =some (.map es clock)):
 (Extern.MapsClone.clone #[.iface t (.map (some r))]).run P w= .ok (.iface t (.map (some w.heap.size))) (w.alloc (.map es clock)):=by
 have e:Extern.MapsClone.clone #[.iface t (.map (some r))]=(getObj r >>= fun o=>match o with
  | .map entries clock=>(newObj (.map entries clock) >>= fun n=>pure (.iface t (.map (some n))))
  |_=>stuck "maps.clone: a map expected"):=rfl
 rw [e];simp [AAc hb,Result.andThen,go_sem]
theorem Fe {k:TypeId} (h:P.underlying t=some (.map k e)):(Instr.typeAssert (.iface t v) xt t false).run P w= .ok v w:=by
 simp [Instr.typeAssert,k3 h,go_sem,Result.andThen]
theorem yx {g t:Nat} {n:Nat} (i:Nat) (hC:C[i]? =some (cb g t cs).ro) (h1:es.length=n) (h2:∀ e∈es,e.length=sz) (h3:es.flatten=cs):ij C (rd (some ⟨g,0,none⟩) n sz es).holds:=fun w hw=>
 x4 (show (cb g t cs).holds w from hw (cb g t cs).ro (aF hC)) h1 h2 ⟨[],by simp [h3]⟩
section
variable {E:fM} {ops:Array Oper} {Q:dk} {rest:List Oper} {D:List Deferred} {L:List (Nat×Value)} {C:List ar}
variable {dst:Option Nat} {d:Nat} {ty:TypeId} {ps:String} {af:Array Edge} {g:Option (Nat×Bool)}
theorem Oj {k:TypeId} (h:P.underlying t=some (.map k e)):(Instr.makeInterface t v).run P w= .ok (.iface t v) w:=by
 simp [Instr.makeInterface,k3 h,Result.andThen]
theorem SA {k:TypeId} {x:Operand} (hg:kB ops L g=true) (hx:ev L x=some v) (ht:E.P.underlying t=some (.map k e)):SD E ops ⟨dst,.makeInterface t x,ty,ps,af,g⟩ D L C (.iface t v):=
 eo hg sm fun a w hf _=>by
  have e:=hf.ev hx;simp only [execOp,e];rw [AAf,Oj ht];simp
theorem XA {x:Operand} (hg:kB ops L g=true) (hx:ev L x=some (.iface t v)) (ht:E.P.underlying t=some (.map kt et)):SD E ops ⟨dst,.typeAssert x xt t false,ty,ps,af,g⟩ D L C v:=
 eo hg sm fun a w hf _=>by
  have e:=hf.ev hx;simp only [execOp,e];rw [AAf,Fe ht];simp
theorem Nc {K:Type} [DecidableEq K] {kV:K→Value} {x:Operand} {f:FuncId} {t b:Nat} {m:List (K×Value)} (hg:kB ops L g=true) (hx:ev L x=some (.iface t (.map (some b)))) (hf:E.P.funcs[f]? =some fn) (hname:(fn.name=="runtime.NumGoroutine")=false) (hb:fn.body.isNone=true) (hn:Extern.findNext fn=none) (he:Extern.find fn=some Extern.MapsClone.clone) (hC:ij C (iu kV b m).holds) (hd:blt d E.n=true) (k:∀ b',RJ E ops Q rest D ((d,.iface t (.map (some b')))::L) (iu kV b' m::C)):
 RJ E ops Q (⟨some d,.call {callee:= .value (.func f),args:= #[x],argTypes:=ts},ty,ps,af,g⟩::rest) D L C:=by
 intro a w B hs;have hd':d<E.n:=by rw [← u7];exact hd
 obtain ⟨es,c,F,hi⟩:=hC w hs.holds;unfold uM;rw [c0 (eI B hg)];refine jv (v:= .iface t (.map (some w.heap.size))) (w':=w.alloc (.map es c)) sm ?_ ?_
 ·have e:=B.ev hx;have G:a.eval (.func f)= .func (.func f) #[] #[]:=rfl;simp [execOp,resolve,e,G,Deferred.ofValue,invoke,run_callFunc_extern hf hname hb hn he,Ip t F]
 ·refine k _ _ _ (B.put hd' _) (hs.grow (ed.alloc no w _) (N:=[iu kV w.heap.size m]) ⟨fun A hA=>?_,fun A hA b hb=>?_,AAY _ _⟩)
  ·simp at hA;subst hA;exact ⟨es,c,ACA w _,hi⟩
  ·simp at hA;subst hA;exact ACI (Eq.symm hb)
end
end
section
open Go.RowKit
theorem Eg (lA:OA) (lN lC:Nat):
 lf Tryz.prog 71 [(vS lA lN lC)] [] (fun (x:Nat)=>(Value.func (.func 113) [].toArray [(vP x)].toArray)) (fun (x:Nat)=>True) (fun (x:Nat)=>[(cb x 29 [(vS lA lN lC)])]):=by
 refine cR kr Tryz.func71 U U fun B Q hQ hN=>?_
 try dsimp only
 refine aS bS 2 U<|sR U U fun A=>aS aj 5 U<|rS (FU U)<|aq aj 4 ?_;refine LX hQ A [0] [] mn U U U U ?_;trivial
theorem PF (nl:List Int) (nlA:OA) (nlC g1:Nat) (hlen:nl.length≤12):
 OI Tryz.prog 113 [] [(vP g1)] [(eE nlA nl),(cb g1 29 [(vS nlA nl.length nlC)])] (sV nl):=by
 refine D7 kr Tryz.func113 U U fun l J Z A0 M Q hY AA H hQ hN=>?_
 try dsimp only
 refine cm bS 8 [] (mr 2 U mn) ?_;have F:(0≤nl.length)∧(J 0 A0)∧(Fo A0 M A0):=by exact ⟨c4 _,AA,H⟩
 refine bu (ι:={z:Nat×ar // (z.1≤nl.length)∧(J z.1 z.2)∧(Fo A0 M z.2)}) [0,1,5,6] [1] U U (fun z=>[(7,(vI (z.1.1:Int)))]) (fun z=>[z.1.2]) (fun _=>rfl) (fun _=>rfl) (fun z=>nl.length-z.1.1) ⟨(0,A0),F⟩ (aN U) (aB [1,0]) ?_;clear F;rintro ⟨⟨i,A⟩,⟨G,B,C⟩⟩ J2 K
 try dsimp only at G B C
 try dsimp only
 refine aq bS 6 ?_;refine bE U (aG fun N=>?_) (aH fun N=>?_)
 ·refine aS aW 1 U<|aq fD 1 ?_;refine hN _ _ _ (g4 (vs:=[]) trivial fun w hs=>Vw 1 U (by rw [wb];have e:nl.length=i:=I;rw [e];exact B) C hs)
 refine aq aW 6 ?_;obtain ⟨x,hx⟩:=ax nl i I;have L:=bw iC hx;refine rS (IA i U (au 0 U) cM dc I I)<|rS (gG i 0 (vI x) U bP (au 0 U) L U dc U)<|aq aj 7 ?_;refine zm 1 hY B C U U U (Kd hx) U U (fun B9 E D=>?_) (fun B9 E D=>?_);rotate_left 1
 ·refine aq aj 5 ?_;refine hQ _ _ _ (g4 (vs:=[]) trivial fun w hs=>I6 1 U E D hs)
 refine aq aj 11 ?_;refine aL (K ⟨((i+1),B9),⟨I,E,D⟩⟩ _ _ _ U os (aN U) (aB [0,1]))
end
section
open Go.RowKit
theorem SR (x:Int):
 de Tryz.prog 177 [(vI x)] [] (vB false):=by
 refine bg kr Tryz.func177 U U fun A Q hQ hN=>?_
 try dsimp only
 refine cr bS 14 hQ U U ?_;simp
theorem SM (x y:Int):
 de Tryz.prog 135 [(vI x),(vI y)] [] (vB (decide (x<y))):=by
 refine bg kr Tryz.func135 U U fun A Q hQ hN=>?_
 try dsimp only
 exact aS bS 8 U<|rS (CL (SR x) (aA) U)<|cr aj 14 hQ U U<|cB (iw.2 I)
variable (l:List Int) (lA:OA) (lC:Nat)
theorem Lq (hlen:l.length≤1000000):
 JN Tryz.prog 129 [(vS lA l.length lC),(vI 0),(vI (l.length:Int))] [] (fB lA lC l) (fun (x:(List Int))=>(vT [])) (fun (x:(List Int))=>x.Perm l∧x.Pairwise (· ≤ ·)) (fun (x:(List Int))=>(fB lA lC x)):=by
 refine qp kr Tryz.func129 U U fun W Q hQ hN=>?_
 try dsimp only
 refine aS bS 3 U<|rS (SX (ck (r:= .int .i64 1) U U U (jw ⟨dc,dc⟩)) U U)<|aq aj 4 ?_;have A:(1≤1∧(1≤l.length∨1=1))∧(l.length=l.length)∧(l.Perm l)∧(WE l 1):=by exact ⟨I,rfl,ABY _,SS⟩
 refine bu (ι:={z:Nat×(List Int) // (1≤z.1∧(z.1≤l.length∨z.1=1))∧(z.2.length=l.length)∧(z.2.Perm l)∧(WE z.2 z.1)}) [0,1,2] [] U U (fun z=>[(6,(vI (z.1.1:Int)))]) (fun z=>[(fB lA lC z.1.2)]) (fun _=>rfl) (fun _=>rfl) (fun z=>l.length-z.1.1) ⟨(1,l),A⟩ (aN U) (aB [0]) ?_;clear A;rintro ⟨⟨i,m⟩,⟨J,AB,E,F⟩⟩ J2 L
 try dsimp only at J AB E F
 try dsimp only
 refine aq bS 8 ?_;refine bE U (aG fun V=>?_) (aH fun V=>?_)
 ·refine aS aW 1 U<|aq fD 1 ?_;refine LM hN m 0 [] mn U U U U ?_;exact ⟨E,SF F I⟩
 refine aq aW 11 ?_;have A:(i≤i)∧(m.length=l.length)∧(m.Perm l)∧(We m i i):=by exact ⟨c9 _,AB,E,LU F I⟩
 refine bu (ι:={z:Nat×(List Int) // (z.1≤i)∧(z.2.length=l.length)∧(z.2.Perm l)∧(We z.2 i z.1)}) [0,1,2,6] [] U U (fun z=>[(7,(vI (z.1.1:Int)))]) (fun z=>[(fB lA lC z.1.2)]) (fun _=>rfl) (fun _=>rfl) (fun z=>z.1.1) ⟨(i,m),A⟩ (aN U) (aB [0]) ?_;clear A;rintro ⟨⟨j,q⟩,⟨G,B,C,D⟩⟩ J8 T
 try dsimp only at G B C D
 try dsimp only
 refine aS bS 2 U<|cK bX 15 kr<|dP 4 [] mn ?_;refine iQ (t:=19) U (aG fun hj=>?_) (aH fun hj=>?_)
 ·refine iR 11 U<|cy<|aS aj 4 U<|aq fD 8 ?_;refine aL (L ⟨((i+1),q),⟨I,B,C,by exact Qt I D⟩⟩ _ _ _ U (by simp only [];omega) (aN U) (aB [0]))
 refine dP 2 [] mn ?_;obtain ⟨x,hx⟩:=ax q j I;have K:=bw iC hx;refine dS (IA j U (ak (n:=l.length) 0 U sq) cM dc I I) ?_;refine dS (gG j 0 (vI x) U bP (ak (n:=q.length) 0 U sm) K U dc U)<|dP 3 [] mn ?_;obtain ⟨y,hy⟩:=ax q (j-1) I;have S:=bw iC hy;refine dS (IA (j-1) U (ak (n:=l.length) 0 U sq) cM dc I I) ?_;refine dS (gG (j-1) 0 (vI y) U bP (ak (n:=q.length) 0 U sm) S U dc U)<|dS (CL (SM x y) (aA) U)<|iR 1 U<|cy<|aq aj 2 ?_;refine bE U (aG fun H=>?_) (aH fun H=>?_)
 ·refine aS aW 1 U<|aq fD 8 ?_;refine aL (L ⟨((i+1),q),⟨I,B,C,by exact OP hx hy I G H D⟩⟩ _ _ _ U (by simp only [];omega) (aN U) (aB [0]))
 refine aq aW 4 ?_;refine cP bX [15,16,17] [8,9,12,13,14] [] [] [0] U U U U U<|eS U (MV U)<|eS U (MV U)<|eS U (MV U)<|eS U (MV U)<|eS U (BI U (wK ⟨I,I⟩))<|eS U (MV U)<|eS U (MV U)<|eS U (BI U (wK ⟨I,I⟩)) ?_;refine fS U (IA (j-1) U (ak (n:=l.length) 0 U sq) cM dc I I) ?_;refine fS U (gG (j-1) 0 (vI y) U bP (ak (n:=q.length) 0 U sm) S U dc U)<|eS U (MV U)<|eS U (MV U) ?_;refine fS U (IA j U (ak (n:=l.length) 0 U sq) cM dc I I) ?_;refine fS U (gG j 0 (vI x) U bP (ak (n:=q.length) 0 U sm) K U dc U) ?_;refine fS U (IA j U (ak (n:=l.length) 0 U sq) cM dc I I) ?_;refine dI U<|bQ U fun T12 M=>ej (k:=j) (o:=0) (vs:=[(vI y)]) (es':=(List.map iC (q.set j y))) (C':=[(fB lA lC (q.set j y))]) 0 U U U GI U U U U K U dc (by exact (AAl (f:=iC) (l:=q) (i:=j) (a:=y)).symm) U<|bG (M _ _ (aB []) ?_);refine bQ U fun T13 N=>?_;obtain ⟨AA,R⟩:=ax (q.set j y) (j-1) os;have hx15m:(List.map iC (q.set j y))[(j-1)]? =some (iC AA):=by rw [gM,R];rfl
 refine rS (IA (j-1) U (ak (n:=l.length) 0 U sq) cM dc I I) ?_;refine bG (N _ _ (aB []) ?_);refine bQ U fun T16 O=>ej (k:=(j-1)) (o:=0) (vs:=[(vI x)]) (es':=(List.map iC ((q.set j y).set (j-1) x))) (C':=[(fB lA lC ((q.set j y).set (j-1) x))]) 0 U U U GI U U U U hx15m U dc (by exact (AAl (f:=iC) (l:=(q.set j y)) (i:=(j-1)) (a:=x)).symm) U<|bG (O _ _ (aB []) ?_);refine eJ U<|aq jE 7 ?_;have P:(vI (((j-1):Nat):Int))=(vI ((j:Int)-1)):=by exact cI I
 refine aL (T ⟨((j-1),((q.set j y).set (j-1) x)),⟨I,by simp;exact B,(MJ hx hy).trans C,PG hx hy I G H D⟩⟩ _ _ _ U (by simp only [];omega) (cx 4<|aQ U P<|cS.nil _) (aB [0]))
theorem RF (x:Int) (hx:0≤x∧x≤100):
 lf Tryz.prog 139 [(Value.int .u64 x)] [] (fun (x:Int)=>(vI x)) (fun (x:Int)=>True) (fun (x:Int)=>[]):=by
 refine cR kr Tryz.func139 U U fun F Q hQ hN=>?_
 try dsimp only
 refine aS bS 9 U<|rS (BI U Gy)<|aq aj 2 ?_;refine bY U (aH fun D=>?_) (aG fun D=>?_)
 ·exfalso;omega
 refine aS aW 6 U<|rS (BI U Gy)<|aq aj 2 ?_;refine bY U (aH fun E=>?_) (aG fun E=>?_)
 ·exfalso;omega
 refine aS aW 6 U<|rS (BI U Gy)<|aq aj 2 ?_;refine bY U (aH fun B=>?_) (aG fun B=>?_)
 ·exfalso;omega
 refine aS aW 6 U<|rS (SX (ql (m:=x) U U Xx ML (FG (by first|assumption|omega))) U U)<|Wf (k:=(x).toNat) U U U ut9 I (ABN (m:=200) I (s6 kr)) U fun A C=>rS (SX (ql (m:=A) U U ML nZ (mI (by first|assumption|omega))) U U)<|aq aj 5 ?_;refine LX hQ (0+A) [] [] mn U U U U ?_;trivial
theorem VU (x:Int) (hx:0≤x∧x≤100):
 lf Tryz.prog 90 [(Value.int .u64 x)] [] (fun (x:Int)=>(vI x)) (fun (x:Int)=>True) (fun (x:Int)=>[]):=by
 refine cR kr Tryz.func90 U U fun C Q hQ hN=>?_
 try dsimp only
 refine aq bS 12 ?_;refine cX (RF x hx) (aA) U fun B A=>?_
 try dsimp only
 refine aq aj 4 ?_;refine LX hQ B [] [] mn U U U U ?_;trivial
theorem Yu (u:Int) (hlen:l.length≤12):
 JN Tryz.prog 89 [(vS lA l.length lC),(vI 0),(vI (l.length:Int)),(vI u)] [] (fB lA lC l) (fun (x:(List Int))=>(vT [])) (fun (x:(List Int))=>x.Perm l∧x.Pairwise (· ≤ ·)) (fun (x:(List Int))=>(fB lA lC x)):=by
 refine qp kr Tryz.func89 U U fun E Q hQ hN=>?_
 try dsimp only
 refine aS bS 11 U<|iY 1<|eh fun R3 C=>aq bS 16 ?_;refine bE U (aG fun B=>?_) (aH fun B=>?_)
 ·exfalso;omega
 refine aq aW 5 ?_;refine kx 0 U U U U (Lq l lA lC I) U mu U (fun D A=>?_)
 try dsimp only
 refine aq aj 3 ?_;refine LM hQ D 0 [] mn U U U U ?_;assumption
theorem Da (hlen:l.length≤12):
 JN Tryz.prog 45 [(vS lA l.length lC)] [] (fB lA lC l) (fun (x:(List Int))=>(vT [])) (fun (x:(List Int))=>x.Perm l∧x.Pairwise (· ≤ ·)) (fun (x:(List Int))=>(fB lA lC x)):=by
 refine qp kr Tryz.func45 U U fun E Q hQ hN=>?_
 try dsimp only
 refine aq bS 11 ?_;refine rS (SX (ql (m:=(l.length:Int)) U U nZ Yv (DD (by first|assumption|omega))) U U)<|cX (VU (l.length:Int) I) (aA) U fun D A=>?_
 try dsimp only
 refine kx 0 U U U U (Yu l lA lC D hlen) U mu U (fun C B=>?_)
 try dsimp only
 refine aq aj 1 ?_;refine LM hN C 0 [] mn U U U U ?_;assumption
end
section
open Go.RowKit
variable (nl:List Int) (nlA:OA) (nlC:Nat)
theorem Ow (g1:Nat) (hlen:nl.length≤12):
 lf Tryz.prog 118 [(vS none 0 0),(Value.func (.func 113) [].toArray [(vP g1)].toArray)] [(eE nlA nl),(cb g1 29 [(vS nlA nl.length nlC)])] (fun (x:(OA)×Nat)=>(vS x.1 nl.length x.2)) (fun (x:(OA)×Nat)=>True) (fun (x:(OA)×Nat)=>[(fB x.1 x.2 nl)]):=by
 refine cR kr Tryz.func118 U U fun M Q hQ hN=>?_
 try dsimp only
 refine aS bS 2 U<|sR U U fun E=>aq aj 10 ?_;refine iy 1 U (by exact fun _ h=>h)<|iy 3 U (by exact fun _ h=>h)<|eC 3 1 ?_;refine zh (L0:=[(2,(vP E))]) (F:=[(eE nlA nl).ro,(cb g1 29 [(vS nlA nl.length nlC)]).ro]) (xs:=(sV nl)) (fun k (y:(OA)×Nat)=>True) (fun k y=>[(fB y.1 y.2 (nl.take k)),(cb E 29 [(vS y.1 ((nl.take k).length) y.2)]),(eE nlA nl).ro]) (fun _ (_:Unit)=>False) (fun _ _=>[]) [0,3,4] [2,1] (none,0) U U (PF nl nlA nlC g1 (by first|assumption|omega|(simp;done))) U U U (by trivial) (by simp only [AAI,h_,AAs,AAv,ABC];exact ⟨⟨_,sm,(df (bL _))⟩,⟨_,sm,(df (bL _))⟩⟩) (by exact HH) U (aN U) ?_ ?_ (fun _ _ _ h=>h.elim) (fun _ _ h=>h.elim);rotate_left 1
 ·rintro K ⟨a,c⟩ D
  try dsimp only
  rw [BE];refine cm jE 9 [] (mc 4 U mn) ?_;refine hQ _ _ _ (nI 0 U U<|g4 (vs:=[(vS a nl.length c)]) ⟨U,trivial⟩ fun w hs=>EO (a,c) [3] ?_ ?_ U U U hs)
  ·rfl
  ·trivial
 rintro k x ⟨a,c⟩ l ra rb S N K5 Qr6 hx G C A H AA;obtain ⟨y,hy,rfl⟩:=K7 hx
 try dsimp only
 refine aq bS 3 ?_;refine aL (C _ _ ?_);refine cm bS 4 [] (mc 2 U mn) ?_;refine dC (xs:=[.tmp 9]) (cs:=[(vI y)]) U cM jW U U U U (by simp [Value.cells]) U U fun L=>?_;refine cZ (es2:=(List.map iC (nl.take (k+1)))) (m':=(nl.take (k+1)).length) 2 U U U pI U U sm (aM (es:=List.map iC [y]) 0 U U (by simp [br]) U) (j4 _) (by simp;omega) (by simp [maxLen];omega) (by rw [nN hy];simp) sm U fun J B=>?_
 try dsimp only
 refine ZQ U wM U U<|aq aj 2 ?_;exact A (J,B) _ _ (by trivial) (aB [1,2,3,4])
theorem Ln (g1:Nat) (hlen:nl.length≤12):
 lf Tryz.prog 78 [(Value.func (.func 113) [].toArray [(vP g1)].toArray)] [(eE nlA nl),(cb g1 29 [(vS nlA nl.length nlC)])] (fun (x:(OA)×Nat)=>(vS x.1 nl.length x.2)) (fun (x:(OA)×Nat)=>True) (fun (x:(OA)×Nat)=>[(fB x.1 x.2 nl)]):=by
 refine cR kr Tryz.func78 U U fun E Q hQ hN=>?_
 try dsimp only
 refine aq bS 8 ?_;refine cX (Ow nl nlA nlC g1 hlen) (aP [0,1]) U fun D C=>?_;obtain ⟨A,B⟩:=D
 try dsimp only
 refine aq aj 4 ?_;refine LX hQ (A,B) [0] [] mn U U U U ?_;trivial
theorem EI (g1:Nat) (hlen:nl.length≤12):
 lf Tryz.prog 34 [(Value.func (.func 113) [].toArray [(vP g1)].toArray)] [(eE nlA nl),(cb g1 29 [(vS nlA nl.length nlC)])] (fun (x:(OA)×Nat)=>(vS x.1 nl.length x.2)) (fun (x:(OA)×Nat)=>True) (fun (x:(OA)×Nat)=>[(fB x.1 x.2 (eg nl))]):=by
 refine cR kr Tryz.func34 U U fun F Q hQ hN=>?_
 try dsimp only
 refine aq bS 8 ?_;refine cX (Ln nl nlA nlC g1 hlen) (aP [0,1]) U fun E D=>?_;obtain ⟨B,C⟩:=E
 try dsimp only
 refine aq aj 6 ?_;refine kx 0 U U U U (Da nl B C hlen) U mu U (fun m A=>?_)
 try dsimp only
 refine aq aj 4 ?_;obtain rfl:=tF A.1 A.2
 skip
 refine aq aj 5 ?_;refine LX hQ (B,C) [0] [] mn U U U U ?_;trivial
end
section
open Go.RowKit
theorem OM (n lo hi:Int) (g1 g2:Nat):
 de Tryz.prog 148 [(vI n),(vP g1),(vP g2)] [(cb g1 3 [(vI lo)]),(cb g2 3 [(vI hi)])] (vB (decide (n<lo∨hi<n))):=by
 refine bg kr Tryz.func148 U U fun B Q hQ hN=>?_
 try dsimp only
 refine cm bS 11 [] (mr 0 U mn) ?_;refine bJ (t:=8) U (aH fun A=>?_) (aG fun A=>?_)
 ·exact cr aj 8 hQ U U<|cB (cT I).symm
 exact yY aj 8 hQ [] (mr 1 U mn) U U<|cB (iw.2 I)
theorem iE (lo hi:Int) (l:List Int) (lA:OA) (lC:Nat) (hlen:l.length≤1000000):
 de Tryz.prog 96 [(vI lo),(vI hi),(vS lA l.length lC)] [(eE lA l)] (vB (oK lo hi l)):=by
 refine bg kr Tryz.func96 U U fun D Q hQ hN=>?_
 try dsimp only
 refine aS bS 2 U<|sR U U fun A=>sR U U fun B=>aq aj 6 ?_;refine rS (FU U) ?_;refine rS (CL (pk l lA lC (Value.func (.func 148) [].toArray [(vP A),(vP B)].toArray) (fun C=>(decide (C<lo∨hi<C))) (iX [(cb A 3 [(vI lo)]),(cb B 3 [(vI hi)])]) (by intro C _;exact kU (fi:=[]) (ca:=[(vP A),(vP B)]) (jP (OM C lo hi A B) (aP [0,1]))) hlen) (gN 2 U U<|aw (jH (aP [1,0]))<|aA) U) ?_;exact cr aj 5 hQ U U U
theorem aah (n d:Int) (hd:2≤d):
 de Tryz.prog 97 [(vI n),(vI d)] [] (vI (XP n d)):=by
 refine bg kr Tryz.func97 U U fun A Q hQ hN=>?_
 try dsimp only
 refine aS bS 9 U<|rS (BI U Ve)<|rS (BI U NW)<|aq aj 1 ?_;refine rS (BI U (V6 I (VZ (Yf _) hd))) ?_;exact cr aj 4 hQ U U U
theorem Jo (n d:Int) (hd:1≤d∧d≤1000000) (hn:0≤n∧n≤1000000000000000):
 de Tryz.prog 97 [(vI n),(vI d)] [] (vI (qB n d)):=by
 refine bg kr Tryz.func97 U U fun A Q hQ hN=>?_
 try dsimp only
 refine aq bS 12 ?_;refine rS (BI U (sM I I I)) ?_;exact cr aj 4 hQ U U U
theorem IQ (c:aX) (sA:OA) (sC:Nat) (at_:Int) (hc:fF c) (ha:0≤at_∧at_≤90000000):
 de Tryz.prog 258 [(vA (dB.cells (dB.mk c.dG (aV.mk sA c.bo.length sC)))),(vI at_)] [(nG sA c.bo)] (vA (aa.cells (jo c at_))):=by
 have M:=hc.len;have D:=hc.uV;refine bg kr Tryz.func258 U U fun T Q hQ hN=>?_
 try dsimp only
 refine aS bS 2 U<|dV U fun R=>AL U dA fun S=>aS aj 4 U<|rS (SX (aU (xs:=[(0,.const (vI (-1099511627776))),(1,.const (vI 1099511627776))]) (cs:=(aa.cells (aa.mk (-1099511627776) 1099511627776))) U U (aT gP U)) U U)<|AL U dA fun L=>eN U cJ U<|aq aj 4 ?_;have G:(aa.cells (aa.mk (-1099511627776) 1099511627776))=(aa.cells (ib c at_ 0)):=by rfl
 rw [G];refine cm aW 8 [] (mc 2 U mn) ?_;have A:(0≤c.bo.length):=by exact c4 _
 refine bu (ι:={z:Nat // (z≤c.bo.length)}) [1,2,4,5,11,12] [1,2,3] U U (fun z=>[(13,(vI (z.1:Int)))]) (fun z=>[(cb L 38 (aa.cells (ib c at_ z.1)))]) (fun _=>rfl) (fun _=>rfl) (fun z=>c.bo.length-z.1) ⟨0,A⟩ (aN U) (aB [1,2,3,0]) ?_;clear A;rintro ⟨i,H⟩ J9 F
 try dsimp only
 refine aq bS 6 ?_;refine bE U (aG fun E=>?_) (aH fun E=>?_)
 ·refine aS aW 1 U<|dD fD 5 [] (mc 3 U mn) U<|eN U cJ U<|aq aj 3 ?_;refine GG hQ [0] (mc 0 U mn) U ?_;rw [o7 (show c.bo.length≤i by omega)]
 refine aq aW 6 ?_;obtain ⟨x,hx⟩:=ax c.bo i I;have J:=bw dj.cells hx;refine rS (IA i U (au 2 U) po dc I I)<|rS (ld i 0 (dj.cells x) U bP (au 2 U) J U dc U U)<|AL U vd fun K=>eN U wv U<|cm aj 9 [0,1] (mc 2 U (mc 0 U mn)) ?_;have AA:=hc.xZ hx;have O:=Fq hc ha i;have N:=JI D ha (show 0≤x.At∧x.At≤90000000 by omega);refine dD aj 5 [] (mc 0 U mn) U<|rS (MX U)<|rS (BI U (nq ⟨I,I⟩))<|rS (CL (Jo (c.dG*(max (at_-x.At) (x.At-at_))) 1000000 I I) (aA) U)<|cm aj 10 [0,1] (mc 4 U (mc 0 U mn)) ?_;have P:0≤qB (c.dG*max (at_-x.At) (x.At-at_)) 1000000∧qB (c.dG*max (at_-x.At) (x.At-at_)) 1000000≤90001:=xU D ha AA.1;refine aS aj 1 U<|rS (MX U)<|dD aj 7 [0,1] (mc 4 U (mc 0 U mn)) U<|rS (MN U)<|rS (SX (aU (xs:=[(0,.tmp 37),(1,.tmp 45)]) (cs:=(aa.cells (aa.mk (max ((ib c at_ i).Lo) (x.er.Lo-(qB (c.dG*(max (at_-x.At) (x.At-at_))) 1000000))) (min ((ib c at_ i).Hi) (x.er.Hi+(qB (c.dG*(max (at_-x.At) (x.At-at_))) 1000000)))))) U U (aT gP U)) U U)<|Ud U cJ U<|aq aj 3 ?_;have B:(aa.cells (aa.mk (max ((ib c at_ i).Lo) (x.er.Lo-(qB (c.dG*(max (at_-x.At) (x.At-at_))) 1000000))) (min ((ib c at_ i).Hi) (x.er.Hi+(qB (c.dG*(max (at_-x.At) (x.At-at_))) 1000000)))))=(aa.cells (ib c at_ (i+1))):=by rw [lk hx];rfl
 rw [B];refine aq aW 4 ?_;have C:(vI (((i+1):Nat):Int))=(vI ((i:Int)+1)):=by exact cI I
 refine aL (F ⟨(i+1),(by first|omega|(simp only [];omega))⟩ _ _ _ U os (cx 6<|aQ U C<|cS.nil _) (aB [1,2,3,4]))
theorem VD (c:aX) (sA:OA) (sC:Nat) (hlen:c.bo.length≤1000000) (hcap:c.bo.length≤sC):
 de Tryz.prog 162 [(vA (dB.cells (dB.mk c.dG (aV.mk sA c.bo.length sC))))] [(nG sA c.bo)] (vB (decide (fF c))):=by
 refine bg kr Tryz.func162 U U fun w0 Q hQ hN=>?_
 try dsimp only
 refine aS bS 2 U<|dV U fun b2=>aS aj 3 U<|DK U<|cm bS 5 [] (mc 0 U mn) ?_;refine dC (xs:=[.tmp 11]) (cs:=[(vI c.dG)]) U cM jW U U U U (by simp [Value.cells]) U U fun v=>?_;refine rS (CL (de.eq (iE 0 1000 ([c.dG]) (some ⟨v,0,none⟩) 1 (by (simp;done))) cp) (aw (aM 0 U U (by simp [br]) U)<|aA) U) ?_;refine aq aj 2 ?_;refine bJ (t:=15) U (aJ fun H=>?_) (aK fun H=>?_)
 ·exact cr aj 16 hQ U U<|cB (bj fun h=>H h.uV).symm
 refine cm aj 3 [] (mc 1 U mn) ?_;refine dC (xs:=[.tmp 18]) (cs:=[(vI (c.bo.length:Int))]) U cM jW U U U U (by simp [Value.cells]) U U fun w=>?_;refine rS (CL (de.eq (iE 1 5 ([(c.bo.length:Int)]) (some ⟨w,0,none⟩) 1 (by (simp;done))) cp) (aw (aM 0 U U (by simp [br]) U)<|aA) U) ?_;refine aq aj 4 ?_;refine bY U (aJ fun M=>?_) (aK fun M=>?_)
 ·exact cr aW 6 hQ U U<|cB (bj fun h=>M (by have:=h.len;omega)).symm
 refine cm aW 25 [] (mc 2 U mn) ?_;have B:(0≤c.bo.length)∧(vL c 0):=by exact ⟨c4 _,Mh⟩
 have O:(vI (lY c 0))=(vI (-1)):=by rw [gY rfl]
 refine bu (ι:={z:Nat // (z≤c.bo.length)∧(vL c z)}) [1,2,4,24,25] [2,3] U U (fun z=>[(3,(vI (lY c z.1))),(26,(vI (z.1:Int)))]) (fun z=>[]) (fun _=>rfl) (fun _=>rfl) (fun z=>c.bo.length-z.1) ⟨0,B⟩ (aQ U O<|aN U) (aB [2,3]) ?_;clear B;rintro ⟨i,⟨J,C⟩⟩ J15 N
 try dsimp only
 have AC: -1≤lY c i∧lY c i≤86400000:=Wy J C;refine aq bS 6 ?_;refine bE U (aG fun f=>?_) (aH fun f=>?_)
 ·exact aS aW 1 U<|cr fD 9 hQ U U<|cB (cT (Md H I (by have e:i=c.bo.length:=I;rw [← e];exact C))).symm
 refine aq aW 7 ?_;obtain ⟨x,hx⟩:=ax c.bo i I;have r:=bw dj.cells hx;refine rS (IA i U (au 1 U) po dc I I)<|rS (ld i 0 (dj.cells x) U bP (au 1 U) r U dc U U)<|AL U vd fun s=>aS aj 1 U<|eN U wv U<|aq aj 2 ?_;refine nV (ι:=Unit) [1,2,3,5,6,24,25,26] [0,1,2] U U (fun z=>[(4,(vB (decide (gn c i x))))]) (fun z=>[]) (fun _=>rfl) (fun _=>rfl) ?_ fun K22 G=>?_
 ·intro _
  try dsimp only
  refine dD aW 6 [] (mc 1 U mn) U<|rS (SHI i U po I I)<|aq aj 5 ?_;have B:(0≤i)∧((decide (gn c i x))=(decide (nU c i x 0))):=by exact ⟨c4 _,iw.2 Io.symm⟩
  refine bu (ι:={z:Nat×Bool // (z.1≤i)∧(z.2=(decide (nU c i x z.1)))}) [1,2,3,5,6,24,25,26,59,60] [0,1,2] U U (fun z=>[(4,(vB z.1.2)),(61,(vI (z.1.1:Int)))]) (fun z=>[]) (fun _=>rfl) (fun _=>rfl) (fun z=>i-z.1.1) ⟨(0,(decide (gn c i x))),B⟩ (aN U) (aB [0,1,2]) ?_;clear B;rintro ⟨⟨k,b⟩,⟨K,A⟩⟩ J25 F
  try dsimp only at K A
  try dsimp only
  refine aq bS 6 ?_;refine bE U (aG fun l=>?_) (aH fun l=>?_)
  ·refine aS aW 1 U<|aq fD 9 ?_;refine bY U (fun D=>?_) (fun D=>?_)
   ·rw [e0] at D;exact aS aW 1 U<|cr fD 9 hQ U U<|cB (by have e:k=i:=I;rw [e] at A;rw [D] at A ⊢;exact (bj (Nq hx (AB5 A.symm))).symm)
   rw [m5] at D;refine cm aW 13 [] (mc 0 U mn) ?_;have W:(vB true)=(vB b):=by exact cB D.symm
   have X:(vI (lY c (i+1)))=(vI x.At):=by rw [p_ hx]
   have Y:(vI (((i+1):Nat):Int))=(vI ((i:Int)+1)):=by exact cI I
   refine aL (N ⟨(i+1),⟨I,KA C hx (by have e:k=i:=I;rw [e] at A;exact s6 (A.symm.trans D))⟩⟩ _ _ _ U os (cS.cons U<|cS.cons U<|aQ U W<|cS.cons U<|cS.cons U<|aQ U X<|aQ U Y<|cS.nil _) (aB [1,2]))
  refine aq aW 6 ?_;obtain ⟨o,ho⟩:=ax c.bo k I;have p:=bw dj.cells ho;refine rS (IAH k U (au 2 U) po dc I I I)<|rS (ld k 0 (dj.cells o) U bP (au 2 U) p U dc U U)<|AL U vd fun u=>eN U wv U<|dD aj 10 [0,1,2] (mc 2 U (mc 1 U (mc 0 U mn))) U<|rS (BI U NW)<|rS (BI U WA)<|rS (CL (aah (Ea (c.dG*(Ea (x.At-o.At)))) 1000000 I) (aA) U)<|aq aj 6 ?_;refine cz (t:=75) U (fun AB=>?_) (fun AB=>?_)
  ·refine aq aj 29 ?_;have V:(vI (((k+1):Nat):Int))=(vI ((k:Int)+1)):=by exact cI I
   refine aL (F ⟨((k+1),false),⟨I,by exact (bj fun h=>by have g:=((vN ho).1 h).1;rw [A] at AB;exact absurd (cT g) (by rw [AB];decide)).symm⟩⟩ _ _ _ U os (cx 11<|aQ U V<|cS.nil _) (aB [1,2,3]))
  refine cm aj 6 [0,1] (mc 1 U (mc 0 U mn)) ?_;have Z:nU c i x k:=s6 (A.symm.trans AB);obtain ⟨q,AO,AP⟩:=x_ (fun j y hj hy=>(C j y hj hy).1) hx Z.1 I ho;have L:=SO H q;refine aq aj 5 ?_;refine cz (t:=86) U (aG fun E=>?_) (aH fun E=>?_)
  ·refine aq aj 18 ?_;have AA:(vI (((k+1):Nat):Int))=(vI ((k:Int)+1)):=by exact cI I
   refine aL (F ⟨((k+1),false),⟨I,by exact (bj fun h=>by have g:=((vN ho).1 h).2;rw [L] at E;exact E g.1).symm⟩⟩ _ _ _ U os (cx 11<|aQ U AA<|cS.nil _) (aB [1,2,3]))
  refine cm aj 18 [0,1] (mc 0 U (mc 1 U mn)) ?_;have T:(vI (((k+1):Nat):Int))=(vI ((k:Int)+1)):=by exact cI I
  refine aL (F ⟨((k+1),(decide ((o.er.Lo-x.er.Hi)≤(XP (Ea (c.dG*(Ea (x.At-o.At)))) 1000000)))),⟨I,by exact iw.2 (by rw [vN ho,L];rw [L] at E;exact ⟨fun h=>⟨Z,E,h⟩,fun h=>h.2.2⟩)⟩⟩ _ _ _ U os (cx 11<|aQ U T<|cS.nil _) (aB [1,2,3]))
 refine cm bS 5 [] (mc 0 U mn) ?_;refine dC (xs:=[.tmp 34]) (cs:=[(vI x.At)]) U cM jW U U U U (by simp [Value.cells]) U U fun a=>?_;refine rS (CL (de.eq (iE ((lY c i)+1) 86400000 ([x.At]) (some ⟨a,0,none⟩) 1 (by (simp;done))) cp) (aw (aM 0 U U (by simp [br]) U)<|aA) U) ?_;refine aq aj 1 ?_;refine cz (t:=37) U (aG fun m=>?_) (aH fun m=>?_)
 ·refine aq aj 20 ?_;have S:(decide (gn c i x))=false:=bj (by unfold gn;omega);refine aL (ke (cx 8<|pB U S<|cS.nil _) (aB [1,2,3]) (G ()))
 refine cm aj 6 [] (mc 1 U mn) ?_;refine dC (xs:=[.tmp 40,.tmp 43]) (cs:=[(vI x.er.Lo),(vI x.er.Hi)]) U cM jW U U U U (by simp [Value.cells]) U U fun d=>?_;refine rS (CL (de.eq (iE (-10000) 10000 ([x.er.Lo,x.er.Hi]) (some ⟨d,0,none⟩) 2 (by (simp;done))) qE) (aw (aM 0 U U (by simp [br]) U)<|aA) U) ?_;refine aq aj 2 ?_;refine cz (t:=47) U (aG fun n=>?_) (aH fun n=>?_)
 ·refine aq aj 10 ?_;have R:(decide (gn c i x))=false:=bj (by unfold gn;omega);refine aL (ke (cx 8<|pB U R<|cS.nil _) (aB [2,3,4]) (G ()))
 refine cm aj 10 [] (mc 2 U mn) ?_;have P:(decide (gn c i x))=(decide (x.er.Lo≤x.er.Hi)):=iw.2 (by unfold gn;omega);refine aL (ke (cx 8<|pB U P<|cS.nil _) (aB [2,3,4]) (G ()))
theorem ZA (ms:List aX) (az:List RA) (k:Nat) (m:aX) (a:RA) (hm:ms[k]? =some m) (ha:az[k]? =some a) (hc:m.bo.length≤a.2∧m.bo.length≤1000000):
 de Tryz.prog 161 [(vA (dB.cells (dB.mk m.dG (aV.mk a.1 m.bo.length a.2))))] [(iX (bx aX.lG ms az))] (vB (!(decide (fF m)))):=by
 obtain ⟨A,B⟩:=hc;refine bg kr Tryz.func161 U U fun D Q hQ hN=>?_
 try dsimp only
 refine aS bS 2 U<|dV U fun C=>cm aj 6 [] (mc 0 U mn) ?_;refine rS (CL (VD m a.1 a.2 asm asm) (aw (show ij _ (nG a.1 m.bo).holds from (ct 1 U (bq hm ha (by simp [aX.lG]))))<|aA) U) ?_;exact cr aj 5 hQ U U U
variable (l:List aX) (az:List RA) (lA:OA) (lC:Nat) (f:Value) (p:aX→Bool) (X:ar)
theorem L9 (hf:∀ (k:Nat) m a,l[k]? =some m→az[k]? =some a→BH Tryz.prog f [.agg (aX.cells m a).toArray] [X] (.bool (p m))) (hlen:l.length≤1000000) (has:az.length=l.length):
 de Tryz.prog 205 [(vS lA l.length lC),f] [(pb lA l az),(iX (bx aX.lG l az)),X] (vI (uU p l)):=by
 refine bg kr Tryz.func205 U U fun AA Q hQ hN=>?_
 try dsimp only
 refine aq bS 14 ?_;have B:(0≤l.length)∧((l.take 0).any p=false):=by simp
 refine bu (ι:={z:Nat // (z≤l.length)∧((l.take z).any p=false)}) [0,1,7] [0,1,2] U U (fun z=>[(8,(vI (z.1:Int)))]) (fun z=>[]) (fun _=>rfl) (fun _=>rfl) (fun z=>l.length-z.1) ⟨0,B⟩ (aN U) (aB [0,1,2]) ?_;clear B;rintro ⟨i,⟨F,A⟩⟩ J4 E
 try dsimp only
 refine aq bS 6 ?_;refine bE U (aG fun H=>?_) (aH fun H=>?_)
 ·exact aS aW 1 U<|cr fD 8 hQ U U<|cI (r_ I A).symm
 refine aq aW 15 ?_;obtain ⟨x,hx⟩:=ax l i I;obtain ⟨xa,D⟩:=ax az i I;have G:(zipWith aX.cells l az)[i]? =some (aX.cells x xa):=cD hx D;refine rS (IA i U (au 0 U) xK dc I I)<|rS (ld i 0 (dB.cells (dB.mk x.dG (aV.mk xa.1 x.bo.length xa.2))) U bP (au 0 U) G U dc U U)<|rS (SX (pE U U U (hf i x xa hx D) (aP [2])) U U)<|aq aj 2 ?_;refine bY U (fun hp=>?_) (fun hp=>?_)
 ·exact cr aW 7 hQ U U<|cI (wT hx hp A).symm
 refine aq aW 7 ?_;have C:(vI (((i+1):Nat):Int))=(vI ((i:Int)+1)):=by exact cI I
 refine aL (E ⟨(i+1),⟨I,w7 hx A hp⟩⟩ _ _ _ U os (cx 3<|aQ U C<|cS.nil _) (aB [0,1,2]))
theorem Ds (hf:∀ (k:Nat) m a,l[k]? =some m→az[k]? =some a→BH Tryz.prog f [.agg (aX.cells m a).toArray] [X] (.bool (p m))) (hlen:l.length≤1000000) (has:az.length=l.length):
 de Tryz.prog 160 [(vS lA l.length lC),f] [(pb lA l az),(iX (bx aX.lG l az)),X] (vB (l.any p)):=by
 refine bg kr Tryz.func160 U U fun A Q hQ hN=>?_
 try dsimp only
 exact aS bS 9 U<|rS (CL (L9 l az lA lC f p X (by exact hf) hlen has) (Rk 0 1 2 U U U U U U) U)<|cr aj 5 hQ U U<|cB uy
theorem Ko (l:List dT) (lA:OA) (lC:Nat) (f:Value) (p:dT→Bool) (X:ar) (hf: ∀ x0,x0∈l→BH Tryz.prog f [.agg (dT.cells x0).toArray] [X] (.bool (p x0))) (hlen:l.length≤1000000):
 de Tryz.prog 206 [(vS lA l.length lC),f] [(oG lA l),X] (vI (uU p l)):=by
 refine bg kr Tryz.func206 U U fun H Q hQ hN=>?_
 try dsimp only
 refine aq bS 14 ?_;have B:(0≤l.length)∧((l.take 0).any p=false):=by simp
 refine bu (ι:={z:Nat // (z≤l.length)∧((l.take z).any p=false)}) [0,1,7] [0,1] U U (fun z=>[(8,(vI (z.1:Int)))]) (fun z=>[]) (fun _=>rfl) (fun _=>rfl) (fun z=>l.length-z.1) ⟨0,B⟩ (aN U) (aB [0,1]) ?_;clear B;rintro ⟨i,⟨E,A⟩⟩ J4 D
 try dsimp only
 refine aq bS 6 ?_;refine bE U (aG fun G=>?_) (aH fun G=>?_)
 ·exact aS aW 1 U<|cr fD 8 hQ U U<|cI (r_ I A).symm
 refine aq aW 15 ?_;obtain ⟨x,hx⟩:=ax l i I;have F:=bw dT.cells hx;refine rS (IA i U (au 0 U) wN dc I I)<|rS (ld i 0 (dT.cells x) U bP (au 0 U) F U dc U U)<|rS (SX (pE U U U (hf x (aF hx)) (aP [1])) U U)<|aq aj 2 ?_;refine bY U (fun hp=>?_) (fun hp=>?_)
 ·exact cr aW 7 hQ U U<|cI (wT hx hp A).symm
 refine aq aW 7 ?_;have C:(vI (((i+1):Nat):Int))=(vI ((i:Int)+1)):=by exact cI I
 refine aL (D ⟨(i+1),⟨I,w7 hx A hp⟩⟩ _ _ _ U os (cx 3<|aQ U C<|cS.nil _) (aB [0,1]))
theorem Dd (l:List dT) (lA:OA) (lC:Nat) (f:Value) (p:dT→Bool) (X:ar) (hf: ∀ x0,x0∈l→BH Tryz.prog f [.agg (dT.cells x0).toArray] [X] (.bool (p x0))) (hlen:l.length≤1000000):
 de Tryz.prog 164 [(vS lA l.length lC),f] [(oG lA l),X] (vB (l.any p)):=by
 refine bg kr Tryz.func164 U U fun A Q hQ hN=>?_
 try dsimp only
 exact aS bS 9 U<|rS (CL (Ko l lA lC f p X (by exact hf) hlen) (aP [0,1]) U)<|cr aj 5 hQ U U<|cB uy
end
section
open Go.RowKit
theorem sw (a:aa) (l:List aa) (lA:OA) (lC:Nat) (ha:ni a) (hl: ∀ z∈l,ni z) (hlen:l.length≤4):
 de Tryz.prog 193 [(vA (aa.cells a)),(vS lA l.length lC)] [(Kv lA l)] (vA (aa.cells (l6 a l))):=by
 refine bg kr Tryz.func193 U U fun L Q hQ hN=>?_
 try dsimp only
 refine aS bS 2 U<|dV U fun AA=>AL U dA fun K=>aq aj 11 ?_;have A:(0≤l.length):=by exact c4 _
 refine bu (ι:={z:Nat // (z≤l.length)}) [2,4,7,8] [0,2] U U (fun z=>[(9,(vI (z.1:Int)))]) (fun z=>[(cb AA 38 (aa.cells (l6 a (l.take z.1))))]) (fun _=>rfl) (fun _=>rfl) (fun z=>l.length-z.1) ⟨0,A⟩ (aN U) (aB [0,2,1]) ?_;clear A;rintro ⟨i,F⟩ J6 E
 try dsimp only
 refine aq bS 6 ?_;refine bE U (aG fun J=>?_) (aH fun J=>?_)
 ·refine aS aW 1 U<|aq fD 3 ?_;have D:(aa.cells (l6 a (l.take i)))=(aa.cells (l6 a l)):=by rw [N5 I]
  rw [D];refine dD aW 2 [] (mc 2 U mn) U<|eN U cJ U<|aq aj 3 ?_;exact GG hQ [0] (mc 0 U mn) U U
 refine aq aW 6 ?_;obtain ⟨x,hx⟩:=ax l i I;have G:=bw aa.cells hx;refine rS (IA i U (au 1 U) iA dc I I)<|rS (ld i 0 (aa.cells x) U bP (au 1 U) G U dc U U)<|AL U dA fun H=>eN U cJ U<|aq aj 3 ?_;have hb:=Vv ha hl i;have hz:=hl x (aF hx);unfold ni at hz;refine dD aj 10 [0,1,0,1] (mc 3 U (mc 0 U mn)) U<|rS (SX (aU (xs:=[(0,.tmp 17),(1,.tmp 22)]) (cs:=(aa.cells (aa.mk (((l6 a (l.take i)).Lo)+x.Lo) (((l6 a (l.take i)).Hi)+x.Hi)))) U U (aT gP U)) U U)<|Yr U cJ U<|aq aj 3 ?_;have B:(aa.cells (aa.mk (((l6 a (l.take i)).Lo)+x.Lo) (((l6 a (l.take i)).Hi)+x.Hi)))=(aa.cells (l6 a (l.take (i+1)))):=by rw [Cc hx];rfl
 rw [B];refine aq aW 4 ?_;have C:(vI ((i+1):Int))=(vI ((i:Int)+1)):=by exact cI I
 refine aL (E ⟨(i+1),(by first|omega|(simp only [];omega))⟩ _ _ _ U os (cx 4<|aQ U C<|cS.nil _) (aB [1,2,3]))
variable (ts:List ai) (tsA:OA) (tsC:Nat) (f t:Int)
theorem JF (hlen:ts.length≤1000000) (hside:∀ x∈ts,0≤x.gp∧x.gp≤255):
 de Tryz.prog 190 [(vA (aY.cells (aY.mk (aV.mk tsA ts.length tsC))))] [(gQ tsA ts)] (vT [(vA (eQ.cells (eQ.mk (aY.mk (aV.mk tsA ts.length tsC))))),(vI (if cE ts=true then 0 else 10))]):=by
 refine bg kr Tryz.func190 U U fun C Q hQ hN=>?_
 try dsimp only
 refine aS bS 2 U<|dV U fun A=>AL U Qw fun B=>aS aj 4 U<|cK bX 4 kr<|jZ 1 [] (mc 1 U mn) U<|dS (SX (aU (xs:=[(0,.tmp 4)]) (cs:=(eQ.cells (eQ.mk (aY.mk (aV.mk tsA ts.length tsC))))) U U (aT Xz U)) U U)<|jZ 1 [] (mc 1 U mn) U<|dS (CL (wL ts tsA tsC hlen hside) (aP [2]) U)<|cy<|eN U Nv U<|aq aj 4 ?_;exact mU hQ [0] (mc 0 U mn) U U
theorem TA (tsA:OA) (tsN tsC:Nat):
 lf Tryz.prog 220 [(vA (eQ.cells (eQ.mk (aY.mk (aV.mk tsA tsN tsC))))),(vI f)] [] (fun (x:Nat×Nat)=>(Value.func (.func 242) [].toArray [(Value.pointer (some ⟨x.1,0,none⟩)),(Value.pointer (some ⟨x.2,0,none⟩))].toArray)) (fun (x:Nat×Nat)=>True) (fun (x:Nat×Nat)=>[(cb x.1 3 [(vI f)]),(cb x.2 273 (eQ.cells (eQ.mk (aY.mk (aV.mk tsA tsN tsC)))))]):=by
 refine cR kr Tryz.func220 U U fun C Q hQ hN=>?_
 try dsimp only
 refine aS bS 2 U<|dV U fun A=>sR U U fun B=>aS aj 5 U<|rS (FU U)<|aq aj 4 ?_;refine LX hQ (B,A) [0,1] [] mn U U U U ?_;trivial
theorem Mz (g1 g2:Nat) (hst:∀ x∈ts,bV x) (hlen:ts.length≤12) (hf:0≤f∧f≤ts.length):
 OI Tryz.prog 242 [] [(vP g1),(vP g2)] [(gQ tsA ts),(cb g1 3 [(vI f)]),(cb g2 273 (eQ.cells (eQ.mk (aY.mk (aV.mk tsA ts.length tsC)))))] (v8 ts f.toNat):=by
 refine D7 kr Tryz.func242 U U fun l J Z A0 i Q hY c b hQ hN=>?_
 try dsimp only
 refine aS bS 2 U<|AL U dA fun g=>AL U dA fun h=>cm aj 9 [] (mr 4 U mn) ?_;have O:(0≤ts.length-f.toNat)∧(J 0 A0)∧(Fo A0 i A0):=by exact ⟨c4 _,c,b⟩
 have d:(vI (f+(0:Int)))=(vI f):=by exact cI I
 refine bu (ι:={z:Nat×ar // (z.1≤ts.length-f.toNat)∧(J z.1 z.2)∧(Fo A0 i z.2)}) [0,1,2,4,5] [3,4,5] U U (fun z=>[(6,(vI (f+(z.1.1:Int))))]) (fun z=>[(cb h 38 (aa.cells (hH ts f.toNat z.1.1))),(cb g 38 (aa.cells (eW ts f.toNat z.1.1))),z.1.2]) (fun _=>rfl) (fun _=>rfl) (fun z=>ts.length-f.toNat-z.1.1) ⟨(0,A0),O⟩ (aQ U d<|cS.nil _) (aB [3,4,5,0,1,2]) ?_;clear O;rintro ⟨⟨k,A⟩,⟨V,P,R⟩⟩ J6 AA
 try dsimp only at V P R
 try dsimp only
 refine cm bS 6 [0,1] (mc 4 U (mc 3 U mn)) ?_;refine zm 5 hY P R U U U (CR I) U U (fun B9 C B=>?_) (fun B9 C B=>?_);rotate_left 1
 ·refine aS aj 12 U<|aq fD 1 ?_;refine hN _ _ _ (g4 (vs:=[]) trivial fun w hs=>I6 5 U C B hs)
 refine cm aj 10 [] (mr 2 U mn) ?_;refine bE U (aG fun a=>?_) (aH fun a=>?_)
 ·refine aS aW 1 U<|aq fD 1 ?_;refine hN _ _ _ (g4 (vs:=[]) trivial fun w hs=>Vw 5 U (by rw [wW];have e:ts.length-f.toNat+1=k+1:=I;rw [e];exact C) B hs)
 refine aq aW 4 ?_;refine mh bX [0,1,2,3,4,5,6,7,10,11,12,13,14,15,16,17] [8,9,18,19,20,21] [true,false,false,false,false,false,false,false,true,false,false,false,false,false,false,false] [8,9,18] [(gQ tsA ts).ro,(cb g1 3 [(vI f)]).ro,(cb g2 273 (eQ.cells (eQ.mk (aY.mk (aV.mk tsA ts.length tsC))))).ro,B9] [(gQ tsA ts).ro,(cb g1 3 [(vI f)]).ro,(cb g2 273 (eQ.cells (eQ.mk (aY.mk (aV.mk tsA ts.length tsC))))).ro,(cb h 38 (aa.cells (hH ts f.toNat k))),(cb g 38 (aa.cells (eW ts f.toNat k))),B9] kr (aB [0,1,2,5]) (aB [0,1,2,3,4,5])<|fS U (LW 4 U bP U U)<|eS U (FA 0 U eB U)<|eS U (FA 0 U eB U)<|eS U (MO (vS tsA ts.length tsC) 2 U bP U U)<|eS U (MV U) ?_;obtain ⟨x,hx⟩:=ax ts (f.toNat+k) I;have X:=bw ai.cells hx;refine eS U (IA (f.toNat+k) U (au 0 U) vM dc I I) ?_;have L:=hst x (aF hx);refine eS U (pV (((f.toNat+k)*9)+1) U (au 0 U) (e6 I dc) eB U)<|eS U (ld (f.toNat+k) 1 (aa.cells x.jd) U bP (au 0 U) X U dc U U)<|fS U (LW 3 U bP U U)<|eS U (FA 0 U eB U)<|eS U (FA 0 U eB U)<|eS U (MO (vS tsA ts.length tsC) 2 U bP U U)<|eS U (MV U)<|eS U (IA (f.toNat+k) U (au 0 U) vM dc I I)<|eS U (pV (((f.toNat+k)*9)+3) U (au 0 U) (e6 I dc) eB U)<|eS U (ld (f.toNat+k) 3 (aa.cells x.kR) U bP (au 0 U) X U dc U U)<|dI U<|nF [8,18] kr (iT ?_<|iT ?_<|re);rotate_left 1
 ·refine yv (rem':=[8,9,19,20,21]) U kr fun T14 M=>dC (xs:=[.tmp 39]) (cs:=(aa.cells x.kR)) U iA dA U U U U (by simp [Value.cells,aa.aC]) U U fun S=>bG (M _ _ (aB [1,2,3,6]) (aB [1,2,3,4,5,6]) ?_);refine N1 8<|yv (rem':=[9,19,20,21]) U kr fun T16 D=>dC (xs:=[.tmp 29]) (cs:=(aa.cells x.jd)) U iA dA U U U U (by simp [Value.cells,aa.aC]) U U fun T=>bG (D _ _ (aB [2,3,4,7]) (aB [2,3,4,5,6,7]) ?_);refine N1 9<|yv (rem':=[19,20,21]) U kr fun T18 N=>?_;refine rS (CL (de.eq (sw (eW ts f.toNat k) ([x.jd]) (some ⟨T,0,none⟩) 1 (by exact tW hst I) (by intro z hz;simp only [bT] at hz;subst hz;exact xV L) sm) pq) (aw (aM 0 rfl rfl (by simp [aa.aC]) rfl)<|aA) rfl) ?_;refine bG (N _ _ (aB [2,3,4,7]) (aB [2,3,4,5,6,7]) ?_);refine N1 19<|NO U U [20,21] fun T19 E=>?_;refine rS (CL (de.eq (sw (hH ts f.toNat k) ([x.kR]) (some ⟨S,0,none⟩) 1 (by exact zZ hst I) (by intro z hz;simp only [bT] at hz;subst hz;exact yq L) sm) pq) (aw (aM 1 rfl rfl (by simp [aa.aC]) rfl)<|aA) rfl) ?_;refine bG (E _ _ (aB [2,3,4,7]) ?_);refine N1 20<|NO U U [21] fun T20 F=>Zn U cJ U<|bG (F _ _ (aB [2,3,4,7]) ?_);refine N1 21<|NO U U [] fun T21 G=>MK U cJ U<|bG (G _ _ (aB [2,3,4,7]) ?_);refine mC<|aq jE 2 ?_;have H:(aa.cells (oy (eW ts f.toNat k) x.jd))=(aa.cells (eW ts f.toNat (k+1))):=by rw [rF hx]
  rw [H];have AB:(aa.cells (oy (hH ts f.toNat k) x.kR))=(aa.cells (hH ts f.toNat (k+1))):=by rw [sx hx]
  rw [AB];refine aq aW 5 ?_;have K:(vI (f+(((k+1):Nat):Int)))=(vI ((f+(k:Int))+1)):=by exact cI I
  refine aL (AA ⟨((k+1),B9),⟨I,C,B⟩⟩ _ _ _ U os (cx 5<|aQ U K<|cS.nil _) (aB [2,3,4,5,6,7]))
 refine yv (rem':=[9,18,19,20,21]) U kr fun T14 M=>dC (xs:=[.tmp 29]) (cs:=(aa.cells x.jd)) U iA dA U U U U (by simp [Value.cells,aa.aC]) U U fun S=>bG (M _ _ (aB [1,2,3,6]) (aB [1,2,3,4,5,6]) ?_);refine nF [9,18] kr (iT ?_<|iT ?_<|re);rotate_left 1
 ·refine yv (rem':=[9,19,20,21]) U kr fun T16 D=>dC (xs:=[.tmp 39]) (cs:=(aa.cells x.kR)) U iA dA U U U U (by simp [Value.cells,aa.aC]) U U fun T=>bG (D _ _ (aB [2,3,4,7]) (aB [2,3,4,5,6,7]) ?_);refine N1 9<|yv (rem':=[19,20,21]) U kr fun T18 N=>?_;refine rS (CL (de.eq (sw (eW ts f.toNat k) ([x.jd]) (some ⟨S,0,none⟩) 1 (by exact tW hst I) (by intro z hz;simp only [bT] at hz;subst hz;exact xV L) sm) pq) (aw (aM 1 rfl rfl (by simp [aa.aC]) rfl)<|aA) rfl) ?_;refine bG (N _ _ (aB [2,3,4,7]) (aB [2,3,4,5,6,7]) ?_);refine N1 19<|NO U U [20,21] fun T19 E=>?_;refine rS (CL (de.eq (sw (hH ts f.toNat k) ([x.kR]) (some ⟨T,0,none⟩) 1 (by exact zZ hst I) (by intro z hz;simp only [bT] at hz;subst hz;exact yq L) sm) pq) (aw (aM 0 rfl rfl (by simp [aa.aC]) rfl)<|aA) rfl) ?_;refine bG (E _ _ (aB [2,3,4,7]) ?_);refine N1 20<|NO U U [21] fun T20 F=>Zn U cJ U<|bG (F _ _ (aB [2,3,4,7]) ?_);refine N1 21<|NO U U [] fun T21 G=>MK U cJ U<|bG (G _ _ (aB [2,3,4,7]) ?_);refine mC<|aq jE 2 ?_;have H:(aa.cells (oy (eW ts f.toNat k) x.jd))=(aa.cells (eW ts f.toNat (k+1))):=by rw [rF hx]
  rw [H];have AB:(aa.cells (oy (hH ts f.toNat k) x.kR))=(aa.cells (hH ts f.toNat (k+1))):=by rw [sx hx]
  rw [AB];refine aq aW 5 ?_;have K:(vI (f+(((k+1):Nat):Int)))=(vI ((f+(k:Int))+1)):=by exact cI I
  refine aL (AA ⟨((k+1),B9),⟨I,C,B⟩⟩ _ _ _ U os (cx 5<|aQ U K<|cS.nil _) (aB [2,3,4,5,6,7]))
 refine yv (rem':=[18,19,20,21]) U kr fun T16 D=>?_;refine rS (CL (de.eq (sw (eW ts f.toNat k) ([x.jd]) (some ⟨S,0,none⟩) 1 (by exact tW hst I) (by intro z hz;simp only [bT] at hz;subst hz;exact xV L) sm) pq) (aw (aM 0 rfl rfl (by simp [aa.aC]) rfl)<|aA) rfl) ?_;refine bG (D _ _ (aB [1,2,3,6]) (aB [1,2,3,4,5,6]) ?_);refine N1 18<|yv (rem':=[19,20,21]) U kr fun T17 W=>dC (xs:=[.tmp 39]) (cs:=(aa.cells x.kR)) U iA dA U U U U (by simp [Value.cells,aa.aC]) U U fun Y=>bG (W _ _ (aB [2,3,4,7]) (aB [2,3,4,5,6,7]) ?_);refine N1 19<|NO U U [20,21] fun T19 E=>?_;refine rS (CL (de.eq (sw (hH ts f.toNat k) ([x.kR]) (some ⟨Y,0,none⟩) 1 (by exact zZ hst I) (by intro z hz;simp only [bT] at hz;subst hz;exact yq L) sm) pq) (aw (aM 0 rfl rfl (by simp [aa.aC]) rfl)<|aA) rfl) ?_;refine bG (E _ _ (aB [2,3,4,7]) ?_);refine N1 20<|NO U U [21] fun T20 F=>Zn U cJ U<|bG (F _ _ (aB [2,3,4,7]) ?_);refine N1 21<|NO U U [] fun T21 G=>MK U cJ U<|bG (G _ _ (aB [2,3,4,7]) ?_);refine mC<|aq jE 2 ?_;have H:(aa.cells (oy (eW ts f.toNat k) x.jd))=(aa.cells (eW ts f.toNat (k+1))):=by rw [rF hx]
 rw [H];have AB:(aa.cells (oy (hH ts f.toNat k) x.kR))=(aa.cells (hH ts f.toNat (k+1))):=by rw [sx hx]
 rw [AB];refine aq aW 5 ?_;have K:(vI (f+(((k+1):Nat):Int)))=(vI ((f+(k:Int))+1)):=by exact cI I
 refine aL (AA ⟨((k+1),B9),⟨I,C,B⟩⟩ _ _ _ U os (cx 5<|aQ U K<|cS.nil _) (aB [2,3,4,5,6,7]))
theorem MW (hst:∀ x∈ts,bV x) (hlen:ts.length≤12) (hf:0≤f∧f≤t∧t≤ts.length):
 de Tryz.prog 192 [(vA (eQ.cells (eQ.mk (aY.mk (aV.mk tsA ts.length tsC))))),(vI f),(vI t)] [(gQ tsA ts)] (vT [(vA (aa.cells (eW ts f.toNat (t-f).toNat))),(vA (aa.cells (hH ts f.toNat (t-f).toNat)))]):=by
 refine bg kr Tryz.func192 U U fun o Q hQ hN=>?_
 try dsimp only
 refine aS bS 2 U<|dV U fun R=>sR U U fun T=>sR U U fun AA=>AL U dA fun V=>AL U dA fun W=>cm aj 7 [0,1] (mc 4 U (mc 3 U mn)) ?_;refine cX (TA f tsA ts.length tsC) (aA) U fun i Z=>?_;obtain ⟨B,C⟩:=i
 try dsimp only
 refine aq aj 3 ?_;refine iy 7 U (by exact fun _ h=>h) ?_;refine zh (L0:=[(3,(vP R)),(4,(vP T)),(5,(vP AA)),(6,(vP V)),(7,(vP W))]) (F:=[(gQ tsA ts).ro,(cb B 3 [(vI f)]),(cb C 273 (eQ.cells (eQ.mk (aY.mk (aV.mk tsA ts.length tsC)))))]) (xs:=(v8 ts f.toNat)) (fun k (y:aa×aa×Int)=>(k≤(t-f).toNat)∧(y.2.2=f+(k:Int))) (fun k y=>[(cb W 38 (aa.cells y.2.1)),(cb V 38 (aa.cells y.1)),(cb AA 3 [(vI t)]),(cb T 3 [(vI y.2.2)]),(cb R 273 (eQ.cells (eQ.mk (aY.mk (aV.mk tsA ts.length tsC))))),(gQ tsA ts).ro]) (fun c (z:Unit)=>(c= .exit 0)) (fun _ z=>[(cb W 38 (aa.cells (hH ts f.toNat (t-f).toNat))),(cb V 38 (aa.cells (eW ts f.toNat (t-f).toNat))),(cb AA 3 [(vI t)]),(cb T 3 [(vI t)]),(cb R 273 (eQ.cells (eQ.mk (aY.mk (aV.mk tsA ts.length tsC))))),(gQ tsA ts).ro]) [3,4,5,6,7,8] [0,1,2] (gO,gO,f) U U (Mz ts tsA tsC f B C (by first|assumption|omega|(simp;done)) (by first|assumption|omega|(simp;done)) I) U U U (by exact ⟨c4 _,sm⟩) (by simp only [AAI,h_,AAs,AAv,ABC];exact ⟨⟨_,sm,(df (bL _))⟩,⟨_,sm,(bL _)⟩,⟨_,sm,(bL _)⟩⟩) (by exact Hv) U (aN U) ?_ ?_ ?_ ?_;rotate_left 1
 ·rintro d ⟨j,n,m⟩ AB;obtain ⟨A,J⟩:=AB
  try dsimp only at A J
  try dsimp only
  exfalso;rw [wW] at A;omega
 ·rintro e id _ O;have hc:=O;cases hc
  try dsimp only
  refine aq jE 3 ?_;refine cP bX [2,3] [] [] [0,1,2,3,4,5,6,7,8,9] [] U U U U U<|eS U (LW 5 U bP U U)<|eS U (LW 4 U bP U U)<|dI U<|bQ U fun T30 D=>MK U cJ U<|bG (D _ _ (aB [0,1,2,3,4,5,6,7,8,9]) ?_);refine bQ U fun T31 E=>Ud U cJ U<|bG (E _ _ (aB [0,1,2,3,4,5,6,7,8,9]) ?_);refine eJ U<|aq jE 2 ?_;refine hQ _ _ _ (nI 0 U U<|g4 (vs:=[(vA (aa.cells (eW ts f.toNat (t-f).toNat))),(vA (aa.cells (hH ts f.toNat (t-f).toNat)))]) ⟨⟨_,U,.inl ⟨_,_,bP,rW (vs:=(aa.cells (eW ts f.toNat (t-f).toNat))) 5 U U,U,U⟩⟩,⟨_,U,.inl ⟨_,_,bP,rW (vs:=(aa.cells (hH ts f.toNat (t-f).toNat))) 4 U U,U,U⟩⟩,trivial⟩ fun w hs=>Hr ?_ hs);show (vT [(vA (aa.cells (eW ts f.toNat (t-f).toNat))),(vA (aa.cells (hH ts f.toNat (t-f).toNat)))])=(vT [(vA (aa.cells (eW ts f.toNat (t-f).toNat))),(vA (aa.cells (hH ts f.toNat (t-f).toNat)))])
  clear hs w hQ hN E T31 D T30;rfl
 ·rintro g _ P;cases P
 rintro k x ⟨j,n,m⟩ l ra rb S p K13 Qr14 hx H L G K Y;obtain ⟨hk,rfl⟩:=My hx;obtain ⟨A,J⟩:=H
 try dsimp only at A J
 try dsimp only
 refine aS bS 2 U<|AL U dA fun a=>eN U cJ U<|aS aj 3 U<|AL U dA fun b=>eN U cJ U<|aq aj 1 ?_;refine ke (fun _ _ h=>h) (aB [2,0,1,3,4,5,6,7,8])<|aL (L _ _ ?_);refine aq bS 3 ?_;refine cP bX [2,3] [] [] [0,1,2,5,6,7,8] [] U U U U U<|eS U (LW 2 U bP U U)<|eS U (LW 1 U bP U U)<|dI U<|bQ U fun T21 M=>Ud U cJ U<|bG (M _ _ (aB [0,1,2,5,6,7,8]) ?_);refine bQ U fun T22 N=>Yr U cJ U<|bG (N _ _ (aB [0,1,2,5,6,7,8]) ?_);refine eJ U<|cm jE 8 [0,1] (mc 6 U (mc 5 U mn)) ?_;refine bY U (aH fun X=>?_) (aG fun X=>?_)
 ·refine aq aW 1 ?_;rw [show m=t from by omega];obtain rfl:k=(t-f).toNat:=by omega
  exact K _ () _ _ (by exact U) (aB [0,3,4,5,6,7,8])
 refine dD aW 5 [] (mc 6 U mn) U<|SO6 U GI U U<|aq aj 2 ?_;exact G ((eW ts f.toNat k),(hH ts f.toNat k),(m+1)) _ _ (by refine ⟨I,?_⟩;dsimp only;omega) (aB [0,3,4,5,6,7,8])
end
end Go.Proofs.YtgnlmfdknlbkkaaGreatDoor
